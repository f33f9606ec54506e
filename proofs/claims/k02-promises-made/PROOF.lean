import PyProof.Rows.All
import Wide.All
import OpenK.AllK
import Wide.FinOn
import HandS.ForMost
import HandS.Zip
import HandS.Wide
import HandS.TupAny
import HandS.ExcIs
import HandS.ExcField
import HandS.ExcOwn
import KE.KTryMore
import HandS.Style
import HandS.IsInst
import HandS.Deep
import HandS.Codes
import HandS.Conv
import HandS.More
import HandS.Iter
import PyProof.ReprRoads
import KE.KEqDict
import HandS.RaiseMore
import HandS.Finally
import HandS.WordsDict
import HandS.Comp
import PyProof.StrWalks
import HandS.Exc
import HandS.ExcInit
import HandS.ExcCtx
import HandS.RaiseFrom
import HandS.RaiseOp
import KE.KExcInit
import HandS.Defaults
import KE.KAsSuite
import HandS.Hot
import HandS.HotCalls
import OpenK.KMore
import HandS.Sort
import HandS.SortKw
import HandS.ListItems
import KE.DataMinMax
import KE.KDictList
import KE.KDictSum
import PyProof.Conv_bool
import PyProof.InstSpecial
import PyProof.InstNe
import KE.KCallOwn
import KE.KFmtOwn
import HandS.HeadEnd
import HandS.EndBits
import HandS.Head0
import HandS.Head1
import HandS.Head2
import HandS.HeadHook1
import HandS.HeadHook2
import HandS.HeadHook3
import PyProof.ExcBaseAll.ZeroDivisionError
import PyProof.P3Eq
import PyProof.StrLawsRepr
import PyProof.ReprReads
import PySem.Challenge.RW_giftsdue_k02_promises_made
set_option Elab.async false
set_option linter.all false
set_option maxRecDepth 100000
set_option maxHeartbeats 0
/-! MP1: a small Python: values, store, syntax, and what a program must do (a predicate transformer by recursion on the syntax). -/
namespace MP
open PySem

/-! ### values -/
abbrev KW := Sum Int (List Nat)
/-- rl, rd: a list, a dict that is read only from here on -/
inductive W where
  | non | bl (b : Bool) | int (i : Int) | str (l : List Nat) | tup (ws : List W) | rl (ws : List W) | rd (ks : List KW) (ws : List W) | ref (a : Nat) | fn (f : Nat) | cl (c : Nat) | kd (d : Nat) | xc (c : Nat) (ns : List Nat) (ws : List W)
def kW : KW → W
  | .inl i => .int i
  | .inr l => .str l
/-- what stands in the store: a list, a dict, an instance, an exception -/
inductive OB where
  | lst (ws : List W) | dct (kvs : List (KW × W)) | ins (c : Nat) (fs : List (Nat × W)) | exc (c : Nat) (fs : List (Nat × W))
abbrev Sto := Nat → Option OB
abbrev Sl := List (Option W)
def ups (S : Sto) (a : Nat) (o : OB) : Sto := fun b => if b = a then some o else S b
/-- an exception in the air: its class (0 to 4 built-in ones), whether its context is None, its fields -/
structure XV where
  c : Nat
  n : Bool
  ns : List Nat
  ws : List W
abbrev KE := W → Sto → Prop
abbrev KX := XV → Sto → Prop
abbrev KXS := XV → Sl → Sto → Prop
abbrev TE' := Sl → Sto → KE → Prop
abbrev TA' := Sl → Sto → (List W → Sto → Prop) → Prop
abbrev TT' := Sl → Sto → (Bool → Sto → Prop) → Prop
/-- what a def is to do: its bound arguments, the store, what is wanted of its value, of what it raises -/
abbrev Cal := Nat → List W → Sto → KE → KX → Prop

/-! ### syntax -/
inductive Op where
  | add | sub | mul | fdiv | mod | pow
inductive Cm where
  | eq | ne | lt | le | gt | ge | is | isn | in_ | nin
/-- what isinstance asks for -/
inductive TR where
  | int | bool | str | tuple | list | dict | own (c : Nat) | exc (c : Nat)
inductive BI where
  | len | all | any | min | max | sum | sum0 | str | repr | int | bool | list | tuple | dict | sorted | range | zip | zips | enum | enum1 | abs | maxd | sumv | listv | listi | maxv
inductive BM where
  | append | pop | get | items | values | keys | join | split | partition | clear | index | count | update | insert | setdefault | splitlines | upper | reverse | extend | replace | remove
inductive Tg where
  | one (i : Nat) | many (is : List Nat)
inductive Ex where
  | nil | cons (e es : Ex)
  | v (i : Nat)
  | k (w : W)
  | op (o : Op) (a b : Ex)
  | neg (a : Ex)
  | not (a : Ex)
  | cmp (o : Cm) (a b : Ex)
  | chn (o1 o2 : Cm) (a b c : Ex)
  | and (a b : Ex)
  | or (a b : Ex)
  | ite (c a b : Ex)
  | tup (es : Ex)
  | lst (es : Ex)
  | dct (kvs : Ex)
  | sub (a i : Ex)
  | slc (a lo hi : Ex)
  | fld (a : Ex) (f : Nat)
  | isi (a : Ex) (t : TR)
  | isn (a : Ex) (ts : List TR)
  | cF (f n : Nat) (kw : List Nat) (es : Ex)
  | cB (b : BI) (es : Ex)
  | cV (g es : Ex)
  | mk (c n : Nat) (kw : List Nat) (es : Ex)
  | mO (m n : Nat) (kw : List Nat) (ks : List (List Nat)) (o es : Ex)
  | mB (m : BM) (o es : Ex)
  | lc (own : List Nat) (t : Tg) (it cond elt : Ex)
  | nop
inductive Sm where
  | nil | cons (s r : Sm)
  | expr (e : Ex)
  | set (t : Tg) (e : Ex)
  | setf (f : Nat) (o e : Ex)
  | seti (o i e : Ex)
  | aug (i : Nat) (op : Op) (e : Ex)
  | augi (op : Op) (o i e : Ex)
  | ife (c : Ex) (a b : Sm)
  | for_ (t : Tg) (it : Ex) (body : Sm)
  | whl (c : Ex) (body : Sm)
  | ret (e : Ex)
  | retv (i : Nat)
  | pass | cont | brk
  | blk (b : Sm)
  | raise (c : Nat) (e : Ex)
  | try_ (b hs : Sm)
  | hdl (cs : List Nat) (i : Option Nat) (b : Sm)
  | hdr (cs : List Nat) (i c : Nat) (e : Ex)

/-! ### a program's tables -/
structure FD where
  np : Nat
  ns : Nat
  dfl : List W
  body : Sm
structure CD where
  init : Option Nat
  mt : List (Nat × Nat)
structure Gm where
  fn : Nat → Option FD
  cd : Nat → Option CD
  kd : Nat → List (KW × W)
  at_ : Nat → Nat → Bool
  sh : Nat → List (Nat × List Nat × List (List Nat))
  /-- exceptions' classes: which there are, what is under what, how instances are made (of one value; with an own __init__, that stores it in a field) -/
  xv : Nat → Bool
  xs : Nat → Nat → Bool
  xi : Nat → Option (Option Nat)
  /-- whether a field of that name may be read of instances of an exception class -/
  xf : Nat → Nat → Bool
/-- an attribute's, a method's number tells its name -/
def dec (n : Nat) : List Nat := if h : n = 0 then [] else (n % 128) :: dec (n / 128)
termination_by n
decreasing_by omega
def enc : List Nat → Nat
  | [] => 0
  | c :: r => c + 128 * enc r

/-! ### data -/
abbrev S' (l : List Nat) : Str := ⟨l.toArray⟩

def mapO {α β : Type} (f : α → Option β) : List α → Option (List β)
  | [] => some []
  | x :: r => match f x, mapO f r with
    | some y, some ys => some (y :: ys)
    | _, _ => none
/-- a value as data, some levels deep -/
def dat : Nat → Sto → W → Option PyData
  | 0, _, _ => none
  | n + 1, S, w => match w with
    | .non => some .none
    | .bl b => some (.bool b)
    | .int i => some (.int i)
    | .str l => some (.str (S' l))
    | .tup ws => (mapO (dat n S) ws).map .tuple
    | .rl ws => (mapO (dat n S) ws).map .list
    | .rd ks ws => (mapO (fun q : KW × W => match dat n S (kW q.1), dat n S q.2 with
        | some a, some b => some (a, b)
        | _, _ => none) (ks.zip ws)).map .dict
    | .ref a => (match S a with
      | some (.lst ws) => (mapO (dat n S) ws).map .list
      | some (.dct kvs) => (mapO (fun q : KW × W => match dat n S (kW q.1), dat n S q.2 with
        | some a, some b => some (a, b)
        | _, _ => none) kvs).map .dict
      | _ => none)
    | _ => none
abbrev LIM : Nat := 16777216
def DEEP : Nat := 70

/-! ### dicts -/
def lkW : List (KW × W) → KW → Option W
  | [], _ => none
  | (a, w) :: r, k => if a = k then some w else lkW r k
def putW (kvs : List (KW × W)) (k : KW) (w : W) : List (KW × W) :=
  if (kvs.any fun q => decide (q.1 = k)) = true then kvs.map (fun q => if q.1 = k then (q.1, w) else q) else kvs ++ [(k, w)]
def drW (kvs : List (KW × W)) (k : KW) : List (KW × W) := kvs.filter fun q => !decide (q.1 = k)
def keyW : W → Option KW
  | .int i => some (.inl i)
  | .str l => some (.inr l)
  | _ => none

/-! ### operations -/
def rdK (kvs : List (KW × W)) : W := .rd (kvs.map (·.1)) (kvs.map (·.2))
/-- a new list: one that is read only, or one that may change -/
def newL (ws : List W) (S : Sto) (Q : KE) : Prop := Q (.rl ws) S ∨ ∀ p, S p = none → Q (.ref p) (ups S p (.lst ws))
def newD (kvs : List (KW × W)) (S : Sto) (Q : KE) : Prop := Q (rdK kvs) S ∨ ∀ p, S p = none → Q (.ref p) (ups S p (.dct kvs))
/-- the items of a list -/
def rowL (S : Sto) : W → Option (List W)
  | .rl ws => some ws
  | .ref a => (match S a with
    | some (.lst ws) => some ws
    | _ => none)
  | _ => none
/-- what a dict holds -/
def dctW (S : Sto) : W → Option (List (KW × W))
  | .rd ks ws => some (ks.zip ws)
  | .ref a => (match S a with
    | some (.dct kvs) => some kvs
    | _ => none)
  | _ => none
def opW (o : Op) (x y : W) (S : Sto) (Q : KE) : Prop :=
  match o, x, y with
  | .add, .int i, .int j => Q (.int (i + j)) S
  | .add, .str a, .str b => a.length + b.length ≤ LIM ∧ Q (.str (a ++ b)) S
  | .add, .tup a, .tup b => a.length + b.length ≤ LIM ∧ Q (.tup (a ++ b)) S
  | .sub, .int i, .int j => Q (.int (i - j)) S
  | .mul, .int i, .int j => i.natAbs.log2 + j.natAbs.log2 < 1000000 ∧ Q (.int (i * j)) S
  | .fdiv, .int i, .int j => (0 < j ∧ j.natAbs.log2 < 9000) ∧ Q (.int (i / j)) S
  | .mod, .int i, .int j => 0 < j ∧ Q (.int (i % j)) S
  | .pow, .int i, .int j => (0 ≤ j ∧ (Builtin.Int.intBits i : Int) * j ≤ 134217728) ∧ Q (.int (i ^ j.toNat)) S
  | .add, x, y => (match rowL S x, rowL S y with
    | some xs, some ys => xs.length + ys.length ≤ LIM ∧ newL (xs ++ ys) S Q
    | _, _ => False)
  | .mul, x, .int j => (match rowL S x with
    | some xs => (0 ≤ j ∧ j < 1000000 ∧ xs.length * j.toNat ≤ LIM) ∧ newL (List.replicate j.toNat xs).flatten S Q
    | none => False)
  | _, _, _ => False
/-- plain values that == tells apart at once -/
def scq : W → W → Option Bool
  | .non, .non => some true | .non, .int _ => some false | .int _, .non => some false | .non, .bl _ => some false | .bl _, .non => some false | .non, .str _ => some false | .str _, .non => some false
  | .int i, .int j => some (decide (i = j)) | .bl i, .bl j => some (decide (i = j)) | .str i, .str j => some (decide (i = j))
  | .int _, .str _ => some false | .str _, .int _ => some false | .bl _, .str _ => some false | .str _, .bl _ => some false
  | _, _ => none
def flW : W → Bool
  | .non => true | .bl _ => true | .int _ => true | .str _ => true
  | _ => false
def feq : W → W → Bool
  | .non, .non => true
  | .bl a, .bl b => decide (a = b)
  | .int a, .int b => decide (a = b)
  | .int a, .bl b => decide (a = if b then 1 else 0)
  | .bl a, .int b => decide ((if a then 1 else 0) = b)
  | .str a, .str b => decide (a = b)
  | _, _ => false
/-- one dict's pairs within another, flat values -/
def deqB (ky : List (KW × W)) : List (KW × W) → Bool
  | [] => true
  | (k, w) :: r => (match lkW ky k with
    | some u => feq w u && deqB ky r
    | none => false)
def eqW (S : Sto) (x y : W) (Q : Bool → Prop) : Prop := match scq x y with
  | some b => Q b
  | none => (match x, y with
    | .rd ks ws, .rd ls us => (ws.all flW = true ∧ us.all flW = true) ∧ Q ((ks.zip ws).length == (ls.zip us).length && deqB (ls.zip us) (ks.zip ws))
    | x, y => ∃ d e, dat DEEP S x = some d ∧ dat DEEP S y = some e ∧ SeqAt.shaped d = true ∧ SeqAt.shaped e = true ∧ Q (PyData.eqv d e))
/-- the items of a row, if it is one -/
def rowW (S : Sto) : W → Option (List W)
  | .tup ws => some ws
  | .rl ws => some ws
  | .ref a => (match S a with
    | some (.lst ws) => some ws
    | _ => none)
  | _ => none
def inW (G : Gm) (S : Sto) (x y : W) (Q : Bool → Prop) : Prop := match y with
  | .str l => (match x with
    | .str [c] => Q (decide (c ∈ l))
    | _ => False)
  | .kd d => (match x with
    | .str l => G.kd d ≠ [] ∧ Q (lkW (G.kd d) (.inr l)).isSome
    | _ => False)
  | .rd ks ws => (match keyW x with
    | some k => Q (lkW (ks.zip ws) k).isSome
    | none => False)
  | .ref a => (match S a with
    | some (.dct kvs) => (match keyW x with
      | some k => Q (lkW kvs k).isSome
      | none => False)
    | some (.lst ws) => (flW x = true ∧ ws.all flW = true ∧ Q (ws.any fun w => feq w x)) ∨
        ∃ d ds, dat DEEP S x = some d ∧ dat DEEP S y = some (.list ds) ∧ SeqAt.shaped d = true ∧ SeqAt.shaped (.list ds) = true ∧ Q (ds.any fun z => PyData.eqv z d)
    | _ => False)
  | .tup ws => flW x = true ∧ ws.all flW = true ∧ Q (ws.any fun w => feq w x)
  | .rl ws => (flW x = true ∧ ws.all flW = true ∧ Q (ws.any fun w => feq w x)) ∨
      ∃ d ds, dat DEEP S x = some d ∧ dat DEEP S y = some (.list ds) ∧ SeqAt.shaped d = true ∧ SeqAt.shaped (.list ds) = true ∧ Q (ds.any fun z => PyData.eqv z d)
  | _ => False
def isNon : W → Bool
  | .non => true
  | _ => false
def isW (x y : W) (Q : Bool → Prop) : Prop := match y with
  | .non => Q (isNon x)
  | .bl b => (match x with
    | .bl c => Q (decide (c = b))
    | _ => False)
  | _ => False
def cmW (G : Gm) (o : Cm) (x y : W) (S : Sto) (Q : Bool → Prop) : Prop := match o with
  | .eq => eqW S x y Q
  | .ne => eqW S x y fun b => Q (!b)
  | .lt => (match x, y with
    | .int i, .int j => Q (decide (i < j))
    | _, _ => False)
  | .le => (match x, y with
    | .int i, .int j => Q (decide (i ≤ j))
    | _, _ => False)
  | .gt => (match x, y with
    | .int i, .int j => Q (decide (j < i))
    | _, _ => False)
  | .ge => (match x, y with
    | .int i, .int j => Q (decide (j ≤ i))
    | _, _ => False)
  | .is => isW x y Q
  | .isn => isW x y fun b => Q (!b)
  | .in_ => inW G S x y Q
  | .nin => inW G S x y fun b => Q (!b)
def truW (S : Sto) : W → Option Bool
  | .non => some false
  | .bl b => some b
  | .int i => some (decide (i ≠ 0))
  | .str l => if l.length ≤ LIM then some (decide (l ≠ [])) else none
  | .tup ws => some (!ws.isEmpty)
  | .rl ws => some (!ws.isEmpty)
  | .ref a => (match S a with
    | some (.lst ws) => some (!ws.isEmpty)
    | some (.dct kvs) => some (!kvs.isEmpty)
    | _ => none)
  | _ => none
def subW (G : Gm) (x i : W) (S : Sto) (Q : KE) : Prop := match x with
  | .tup ws => (match i with
    | .int i => (match L2.atI ws i with
      | some w => Q w S
      | none => False)
    | _ => False)
  | .rl ws => (match i with
    | .int i => (match L2.atI ws i with
      | some w => Q w S
      | none => False)
    | _ => False)
  | .str l => (match i with
    | .int i => l.length ≤ LIM ∧ (match L2.atI l i with
      | some c => Q (.str [c]) S
      | none => False)
    | _ => False)
  | .kd d => (match i with
    | .str l => (match lkW (G.kd d) (.inr l) with
      | some w => Q w S
      | none => False)
    | _ => False)
  | .rd ks ws => (match keyW i with
    | some k => (match lkW (ks.zip ws) k with
      | some w => Q w S
      | none => False)
    | none => False)
  | .ref a => (match S a with
    | some (.lst ws) => (match i with
      | .int i => (match L2.atI ws i with
        | some w => Q w S
        | none => False)
      | _ => False)
    | some (.dct kvs) => (match keyW i with
      | some k => (match lkW kvs k with
        | some w => Q w S
        | none => False)
      | none => False)
    | _ => False)
  | _ => False
/-- d[i], of a dict -/
def dgW (x i : W) (S : Sto) (Q : KE) : Prop := match dctW S x, keyW i with
  | some kvs, some k => (match lkW kvs k with
    | some w => Q w S
    | none => False)
  | _, _ => False
def sIx (n d : Nat) : Option Int → Nat := HT.sIx n d
def cut {α : Type} (xs : List α) (lo hi : Option Int) : List α := (xs.drop (HT.sIx xs.length 0 lo)).take (HT.sIx xs.length xs.length hi - HT.sIx xs.length 0 lo)
def slcW (x : W) (lo hi : Option Int) (S : Sto) (Q : KE) : Prop := match x with
  | .tup ws => Q (.tup (cut ws lo hi)) S
  | .str l => l.length ≤ LIM ∧ Q (.str (cut l lo hi)) S
  | .rl ws => newL (cut ws lo hi) S Q
  | .ref a => (match S a with
    | some (.lst ws) => newL (cut ws lo hi) S Q
    | _ => False)
  | _ => False
def trOk (G : Gm) : TR → Bool
  | .own c => (G.cd c).isSome
  | .exc c => G.xv c
  | _ => true
inductive KT where
  | non | bool | int | str | tuple | list | dict | own (c : Nat) | exc (c : Nat)
def kindW (G : Gm) (S : Sto) : W → Option KT
  | .non => some .non
  | .bl _ => some .bool
  | .int _ => some .int
  | .str _ => some .str
  | .tup _ => some .tuple
  | .rl _ => some .list
  | .rd _ _ => some .dict
  | .ref a => (match S a with
    | some (.lst _) => some .list
    | some (.dct _) => some .dict
    | some (.ins c _) => if (G.cd c).isSome = true then some (.own c) else none
    | _ => none)
  | .xc c _ _ => if (G.xv c && (G.xi c).isSome) = true then some (.exc c) else none
  | _ => none
def isK (G : Gm) : KT → TR → Bool
  | .bool, .bool => true | .bool, .int => true | .int, .int => true | .str, .str => true | .tuple, .tuple => true | .list, .list => true | .dict, .dict => true
  | .own c, .own d => decide (c = d)
  | .exc c, .exc d => G.xs c d
  | _, _ => false
def isiW (G : Gm) (S : Sto) (x : W) (t : TR) : Option Bool := if trOk G t = true then (kindW G S x).map fun k => isK G k t else none
def lenW (S : Sto) : W → Option Nat
  | .tup ws => some ws.length
  | .rl ws => some ws.length
  | .rd ks _ => some ks.length
  | .str l => some l.length
  | .ref a => (match S a with
    | some (.lst ws) => some ws.length
    | some (.dct kvs) => some kvs.length
    | _ => none)
  | _ => none
def dig (i : Int) : List Nat := ((toString i : String) : Str).cps.toList
def boolsW : List W → Option (List Bool)
  | [] => some []
  | .bl b :: r => (boolsW r).map (b :: ·)
  | _ :: _ => none
def intsW : List W → Option (List Int)
  | [] => some []
  | .int b :: r => (intsW r).map (b :: ·)
  | _ :: _ => none
def strsW : List W → Option (List (List Nat))
  | [] => some []
  | .str b :: r => (strsW r).map (b :: ·)
  | _ :: _ => none
def pairsW : List W → Option (List (KW × W))
  | [] => some []
  | .tup [a, b] :: r => (match keyW a with
    | some k => (pairsW r).map ((k, b) :: ·)
    | none => none)
  | _ :: _ => none
def biW (b : BI) (ws : List W) (S : Sto) (Q : KE) : Prop := match b, ws with
  | .len, [x] => (match lenW S x with
    | some n => n ≤ LIM ∧ Q (.int n) S
    | none => False)
  | .all, [x] => (match rowL S x with
    | some ws => (match boolsW ws with
      | some bs => Q (.bl (bs.all id)) S
      | none => False)
    | none => False)
  | .any, [x] => (match rowL S x with
    | some ws => (match boolsW ws with
      | some bs => Q (.bl (bs.any id)) S
      | none => False)
    | none => False)
  | .min, [.int i, .int j] => Q (.int (if j < i then j else i)) S
  | .max, [.int i, .int j] => Q (.int (if j > i then j else i)) S
  | .min, [x] => (match rowL S x with
    | some ws => (match intsW ws with
      | some (n :: ns) => Q (.int (ns.foldl min n)) S
      | _ => False)
    | none => False)
  | .max, [x] => (match rowL S x with
    | some ws => (match intsW ws with
      | some (n :: ns) => Q (.int (ns.foldl max n)) S
      | _ => False)
    | none => False)
  | .maxd, [x, d] => (match rowL S x with
    | some ws => (match intsW ws with
      | some (n :: ns) => Q (.int (ns.foldl max n)) S
      | some [] => Q d S
      | none => False)
    | none => False)
  | .sumv, [x] => (match dctW S x with
    | some kvs => (match intsW (kvs.map (·.2)) with
      | some ns => Q (.int ns.sum) S
      | none => False)
    | none => False)
  | .listv, [x] => (match dctW S x with
    | some kvs => newL (kvs.map (·.2)) S Q
    | none => False)
  | .sum, [x] => (match rowL S x with
    | some ws => (match intsW ws with
      | some ns => Q (.int ns.sum) S
      | none => False)
    | none => False)
  | .sum0, [x, .int 0] => (match rowL S x with
    | some ws => (match intsW ws with
      | some ns => Q (.int ns.sum) S
      | none => False)
    | none => False)
  | .str, [.int i] => i.natAbs.log2 < 1920 ∧ Q (.str (dig i)) S
  | .str, [.str l] => Q (.str l) S
  | .repr, [x] => ∃ d, dat DEEP S x = some d ∧ d.showable = true ∧ d.depth ≤ 64 ∧ d.shown.length ≤ LIM ∧ Q (.str d.shown.cps.toList) S
  | .int, [.bl b] => Q (.int (if b then 1 else 0)) S
  | .int, [.int i] => Q (.int i) S
  | .bool, [x] => (match truW S x with
    | some b => Q (.bl b) S
    | none => False)
  | .list, [x] => (match rowW S x with
    | some ws => newL ws S Q
    | none => False)
  | .tuple, [x] => (match rowW S x with
    | some ws => Q (.tup ws) S
    | none => False)
  | .dict, [x] => (match dctW S x with
    | some kvs => newD kvs S Q
    | none => (match rowL S x with
      | some ws => (match pairsW ws with
        | some kvs => newD (kvs.foldl (fun a q => putW a q.1 q.2) []) S Q
        | none => False)
      | none => False))
  | _, _ => False
/-- a built-in type's method -/
inductive Ty where
  | list | dict | str
def tyW (S : Sto) : W → Option Ty
  | .str _ => some .str
  | .rd _ _ => some .dict
  | .rl _ => some .list
  | .ref a => (match S a with
    | some (.lst _) => some .list
    | some (.dct _) => some .dict
    | _ => none)
  | _ => none
def bmW (T : Ty) (m : BM) (x : W) (ws : List W) (S : Sto) (Q : KE) : Prop := match T, m, x, ws with
  | .list, .append, .ref a, [w] => (match S a with
    | some (.lst xs) => xs.length < LIM ∧ Q .non (ups S a (.lst (xs ++ [w])))
    | _ => False)
  | .list, .clear, .ref a, [] => (match S a with
    | some (.lst _) => Q .non (ups S a (.lst []))
    | _ => False)
  | .dict, .clear, .ref a, [] => (match S a with
    | some (.dct _) => Q .non (ups S a (.dct []))
    | _ => False)
  | .list, .pop, .ref a, [.int i] => (match S a with
    | some (.lst xs) => (match L2.ixN xs.length i with
      | some k => (match xs[k]? with
        | some y => Q y (ups S a (.lst (xs.eraseIdx k)))
        | none => False)
      | none => False)
    | _ => False)
  | .list, .reverse, .ref a, [] => (match S a with
    | some (.lst xs) => Q .non (ups S a (.lst xs.reverse))
    | _ => False)
  | .list, .index, x, [w] => (match rowL S x with
    | some ws => (flW w = true ∧ ws.all flW = true) ∧ (match ws.findIdx? fun u => feq u w with
      | some j => Q (.int j) S
      | none => False)
    | none => False)
  | .list, .count, x, [w] => (match rowL S x with
    | some ws => (flW w = true ∧ ws.all flW = true) ∧ Q (.int (ws.countP fun u => feq u w : Nat)) S
    | none => False)
  | .str, .split, .str l, [.str m] => (m ≠ [] ∧ l.length + 2 ≤ LIM) ∧ newL ((Txt.split (S' l) (S' m)).map fun x => W.str x.cps.toList) S Q
  | .str, .partition, .str l, [.str m] => (m ≠ [] ∧ l.length ≤ LIM) ∧ Q (.tup [.str (Txt.partition (S' l) (S' m)).1.cps.toList, .str (Txt.partition (S' l) (S' m)).2.1.cps.toList, .str (Txt.partition (S' l) (S' m)).2.2.cps.toList]) S
  | .str, .upper, .str s, [] => s.length ≤ 5592405 ∧ Q (.str (Txt.upper (S' s)).cps.toList) S
  | .str, .join, .str s, [x] => (match rowW S x with
    | some ws => (match strsW ws with
      | some ls => ((ls.map List.length).sum + ls.length * s.length ≤ LIM) ∧ Q (.str (TL.joinL s ls)) S
      | none => False)
    | none => False)
  | .dict, .get, x, [k] => (match dctW S x, keyW k with
    | some kvs, some k => Q ((lkW kvs k).getD .non) S
    | _, _ => False)
  | .dict, .get, x, [k, w] => (match dctW S x, keyW k with
    | some kvs, some k => Q ((lkW kvs k).getD w) S
    | _, _ => False)
  | _, _, _, _ => False
def supM : Ty → BM → Bool
  | .list, .append => true | .list, .clear => true | .dict, .clear => true | .list, .pop => true | .list, .reverse => true | .list, .index => true | .list, .count => true | .str, .upper => true | .str, .split => true | .str, .partition => true | .str, .join => true | .dict, .get => true
  | _, _ => false
/-- x op= y of numbers -/
def augW (o : Op) (x y : W) (S : Sto) (Q : KE) : Prop := match o, x, y with
  | .add, .int i, .int j => Q (.int (i + j)) S
  | .sub, .int i, .int j => Q (.int (i - j)) S
  | _, _, _ => False
def putF (f : Nat) (w : W) : List (Nat × W) → List (Nat × W)
  | [] => [(f, w)]
  | (g, v) :: r => if g = f then (g, w) :: r else (g, v) :: putF f w r
/-- x[i] = w -/
def setW (x i w : W) (S : Sto) (k : Sto → Prop) : Prop := match x with
  | .ref a => (match S a with
    | some (.lst ws) => (match i with
      | .int i => (match L2.ixN ws.length i with
        | some j => k (ups S a (.lst (ws.set j w)))
        | none => False)
      | _ => False)
    | some (.dct kvs) => (match keyW i with
      | some q => kvs.length < LIM ∧ k (ups S a (.dct (putW kvs q w)))
      | none => False)
    | _ => False)
  | _ => False

/-! ### binding -/
/-- the bound values: by place, by the parameters' numbers, by default -/
def bindP {α : Type} (np : Nat) (dfl : List α) (ws : List α) (kw : List (Nat × α)) : Option (List α) :=
  mapO (fun i => if i < ws.length then ws[i]? else match kw.lookup i with
    | some w => some w
    | none => if np - dfl.length ≤ i then dfl[i - (np - dfl.length)]? else none) (List.range np)
/-- n values by place, then those of the parameters at kw -/
def bindK (fd : FD) (n : Nat) (kw : List Nat) (ws : List W) : Option (List W) :=
  if ws.length = n + kw.length then bindP fd.np fd.dfl (ws.take n) (kw.zip (ws.drop n)) else none
def start (ns : Nat) (vs : List W) : Sl := vs.map some ++ List.replicate (ns - vs.length) none
def wipe (σ : Sl) : List Nat → Sl
  | [] => σ
  | i :: r => (wipe σ r).set i none
/-- to a name, to several -/
def asg (t : Tg) (w : W) (σ : Sl) (k : Sl → Prop) : Prop := match t with
  | .one i => k (σ.set i (some w))
  | .many is => (match w with
    | .tup ws => ws.length = is.length ∧ k ((is.zip ws).foldl (fun σ q => σ.set q.1 (some q.2)) σ)
    | _ => False)
structure Dn where
  nx : Sl → Sto → Prop
  rt : KE
  bk : Sl → Sto → Prop
  ct : Sl → Sto → Prop
/-- over items: each turn's guard, its target, its body -/
def wFor (gd : Sto → Prop) (t : Tg) (body : (Sl → Sto → Prop) → Sl → Sto → Prop) (nx : Sl → Sto → Prop) : List W → Sl → Sto → Prop
  | [], σ, S => gd S ∧ nx σ S
  | w :: r, σ, S => gd S ∧ asg t w σ fun σ1 => body (wFor gd t body nx r) σ1 S
def wLc (gd : Sto → Prop) (t : Tg) (σ0 : Sl) (cond : TT') (elt : TE') (Q : KE) : List W → List W → Sto → Prop
  | [], acc, S => gd S ∧ acc.length ≤ LIM ∧ newL acc S Q
  | w :: r, acc, S => gd S ∧ acc.length < LIM ∧ asg t w σ0 fun σ1 => cond σ1 S fun b S1 => if b = true then elt σ1 S1 fun y S2 => wLc gd t σ0 cond elt Q r (acc ++ [y]) S2 else wLc gd t σ0 cond elt Q r acc S1
def zipW : List W → List W → List W
  | x :: xs, y :: ys => .tup [x, y] :: zipW xs ys
  | _, _ => []
def enW : Nat → List W → List W
  | _, [] => []
  | n, x :: xs => .tup [.int n, x] :: enW (n + 1) xs
def chars (l : List Nat) : List W := l.map fun c => .str [c]
/-- what is walked: its items, and what must hold of the store while it is walked -/
def itW (x : W) (S : Sto) (R : List W → (Sto → Prop) → Sto → Prop) : Prop := match x with
  | .tup ws => R ws (fun _ => True) S
  | .rd ks _ => R (ks.map kW) (fun _ => True) S
  | .rl ws => R ws (fun _ => True) S
  | .str l => R (chars l) (fun _ => True) S
  | .ref a => (match S a with
    | some (.lst ws) => R ws (fun S' => S' a = some (.lst ws)) S
    | _ => False)
  | _ => False
/-- what zip walks: no dict -/
def itZ (x : W) (S : Sto) (R : List W → (Sto → Prop) → Sto → Prop) : Prop := match x with
  | .rd _ _ => False
  | x => itW x S R
def rngW (a b : Int) : List W := (List.range (b - a).toNat).map fun (i : Nat) => W.int (a + (i : Int))
def big : Int := 4611686018427387904

/-! ### what a program must do -/
abbrev TI' := Sl → Sto → (List W → (Sto → Prop) → Sto → Prop) → Prop
structure RD where
  e : TE'
  t : TT'
  a : TA'
  i : TI'
def nE : TE' := fun _ _ _ => False
def nT : TT' := fun _ _ _ => False
def nA : TA' := fun _ _ _ => False
def nI : TI' := fun _ _ _ => False
/-- a value's truth; a value's items -/
def tT (e : TE') : TT' := fun σ S Q => e σ S fun w S1 => match truW S1 w with
  | some b => Q b S1
  | none => False
def tI (e : TE') : TI' := fun σ S R => e σ S fun w S1 => itW w S1 R
def pl (e : TE') : RD := ⟨e, tT e, nA, tI e⟩
def wVar (i : Nat) : TE' := fun σ S Q => match σ[i]? with
  | some (some w) => Q w S
  | _ => False
def wK (w : W) : TE' := fun _ S Q => Q w S
def wOp (o : Op) (a b : TE') : TE' := fun σ S Q => a σ S fun x S1 => b σ S1 fun y S2 => opW o x y S2 Q
def wNeg (a : TE') : TE' := fun σ S Q => a σ S fun x S1 => match x with
  | .int i => Q (.int (-i)) S1
  | _ => False
def wNot (a : TE') : TE' := fun σ S Q => a σ S fun x S1 => match truW S1 x with
  | some b => Q (.bl (!b)) S1
  | none => False
def wNotT (a : TT') : TT' := fun σ S Q => a σ S fun b S1 => Q (!b) S1
def wCmp (G : Gm) (o : Cm) (a b : TE') : TT' := fun σ S Q => a σ S fun x S1 => b σ S1 fun y S2 => cmW G o x y S2 fun r => Q r S2
def wChn (G : Gm) (o1 o2 : Cm) (a b d : TE') : TT' := fun σ S Q => a σ S fun x S1 => b σ S1 fun y S2 => cmW G o1 x y S2 fun r => if r = true then d σ S2 fun z S3 => cmW G o2 y z S3 fun r => Q r S3 else Q false S2
def wAnd (a b : TE') : TE' := fun σ S Q => a σ S fun x S1 => match truW S1 x with
  | some r => if r = true then b σ S1 Q else Q x S1
  | none => False
def wOr (a b : TE') : TE' := fun σ S Q => a σ S fun x S1 => match truW S1 x with
  | some r => if r = true then Q x S1 else b σ S1 Q
  | none => False
def wAndT (a b : TT') : TT' := fun σ S Q => a σ S fun r S1 => if r = true then b σ S1 Q else Q false S1
def wOrT (a b : TT') : TT' := fun σ S Q => a σ S fun r S1 => if r = true then Q true S1 else b σ S1 Q
def wIte (d : TT') (a b : TE') : TE' := fun σ S Q => d σ S fun r S1 => if r = true then a σ S1 Q else b σ S1 Q
def wIteT (d a b : TT') : TT' := fun σ S Q => d σ S fun r S1 => if r = true then a σ S1 Q else b σ S1 Q
/-- a test's value -/
def vT (t : TT') : TE' := fun σ S Q => t σ S fun b S1 => Q (.bl b) S1
def wTup (a : TA') : TE' := fun σ S Q => a σ S fun ws S1 => ws.length ≤ LIM ∧ Q (.tup ws) S1
def wLst (a : TA') : TE' := fun σ S Q => a σ S fun ws S1 => ws.length ≤ LIM ∧ newL ws S1 Q
def prs : List W → List (W × W)
  | a :: b :: r => (a, b) :: prs r
  | _ => []
def kvsW : List W → Option (List (KW × W))
  | [] => some []
  | a :: b :: r => (match keyW a, kvsW r with
    | some k, some q => some ((k, b) :: q)
    | _, _ => none)
  | [_] => none
def wDct (a : TA') : TE' := fun σ S Q => a σ S fun ws S1 => match kvsW ws with
  | some kvs => kvs.length ≤ 15 ∧ newD (kvs.foldl (fun a q => putW a q.1 q.2) []) S1 Q
  | none => False
def wSub (G : Gm) (a i : TE') : TE' := fun σ S Q => a σ S fun x S1 => i σ S1 fun y S2 => subW G x y S2 Q
abbrev TO' := Sl → Sto → (Option Int → Sto → Prop) → Prop
def noPrt : TO' := fun _ S Q => Q none S
def wPrt (t : TE') : TO' := fun σ S Q => t σ S fun x S1 => match x with
  | .int i => Q (some i) S1
  | _ => False
/-- a slice's part: .nop where it is left out -/
def prt : Ex → TE' → TO'
  | .nop, _ => noPrt
  | _, t => wPrt t
def wSlc (a : TE') (lo hi : TO') : TE' := fun σ S Q => a σ S fun x S1 => lo σ S1 fun l S2 => hi σ S2 fun h S3 => slcW x l h S3 Q
def wFld (G : Gm) (a : TE') (f : Nat) : TE' := fun σ S Q => a σ S fun x S1 => match x with
  | .ref p => (match S1 p with
    | some (.ins c fs) => G.at_ c f = true ∧ (match fs.lookup f with
      | some w => Q w S1
      | none => False)
    | _ => False)
  | .xc c ns ws => G.xf c f = true ∧ (match (ns.zip ws).lookup f with
    | some w => Q w S1
    | none => False)
  | _ => False
def wIsi (G : Gm) (a : TE') (t : TR) : TT' := fun σ S Q => a σ S fun x S1 => match isiW G S1 x t with
  | some b => Q b S1
  | none => False
/-- isinstance of several -/
def wIsn (G : Gm) (a : TE') (ts : List TR) : TT' := fun σ S Q => a σ S fun x S1 => match mapO (fun t => isiW G S1 x t) ts with
  | some bs => Q (bs.any id) S1
  | none => False
def wCF (G : Gm) (c : Cal) (X : KXS) (f n : Nat) (kw : List Nat) (a : TA') : TE' := fun σ S Q => a σ S fun ws S1 => match G.fn f with
  | some fd => (match bindK fd n kw ws with
    | some vs => c f vs S1 Q fun x S2 => X x σ S2
    | none => False)
  | none => False
def wCB (b : BI) (a : TA') : TE' := fun σ S Q => a σ S fun ws S1 => biW b ws S1 Q
def wCV (G : Gm) (c : Cal) (X : KXS) (g : TE') (a : TA') : TE' := fun σ S Q => g σ S fun x S1 => match x with
  | .fn f => (match G.fn f with
    | some fd => a σ S1 fun ws S2 => (G.sh f).contains (ws.length, [], []) = true ∧ (match bindK fd ws.length [] ws with
      | some vs => c f vs S2 Q fun x S3 => X x σ S3
      | none => False)
    | none => False)
  | _ => False
def wMk (G : Gm) (c : Cal) (X : KXS) (k n : Nat) (kw : List Nat) (a : TA') : TE' := fun σ S Q => a σ S fun ws S1 => match (G.cd k).bind CD.init with
  | some f => (match G.fn f with
    | some fd => ∀ p, S1 p = none → (match bindK fd (n + 1) kw (.ref p :: ws) with
      | some vs => c f vs (ups S1 p (.ins k [])) (fun w S2 => w = .non ∧ Q (.ref p) S2) fun x S2 => X x σ S2
      | none => False)
    | none => False)
  | none => False
def wMO (G : Gm) (c : Cal) (X : KXS) (m n : Nat) (kw : List Nat) (ks : List (List Nat)) (o : TE') (a : TA') : TE' := fun σ S Q => o σ S fun x S1 => match x with
  | .ref p => (match S1 p with
    | some (.ins k fs) => (match (G.cd k).bind fun cd => cd.mt.lookup m with
      | some f => (match G.fn f with
        | some fd => (fs.lookup m = none ∧ (G.sh f).contains (n + 1, kw, ks) = true) ∧ a σ S1 fun ws S2 => (match bindK fd (n + 1) kw (.ref p :: ws) with
          | some vs => c f vs S2 Q fun x S3 => X x σ S3
          | none => False)
        | none => False)
      | none => False)
    | _ => False)
  | _ => False
def wMB (m : BM) (o : TE') (a : TA') : TE' := fun σ S Q => o σ S fun x S1 => match tyW S1 x with
  | some T => supM T m = true ∧ a σ S1 fun ws S2 => bmW T m x ws S2 Q
  | none => False
/-- an own special method -/
def mLen : Nat := 421108335194079
def mStr : Nat := 421109440507871
def mRepr : Nat := 53902007282216927
def mEq : Nat := 3289915158495
def ownC (G : Gm) (c : Cal) (k m : Nat) (ws : List W) (S : Sto) (Q : KE) : Prop := match (G.cd k).bind fun cd => cd.mt.lookup m with
  | some f => (match G.fn f with
    | some fd => (G.sh f).contains (ws.length, [], []) = true ∧ (match bindK fd ws.length [] ws with
      | some vs => c f vs S Q fun _ _ => False
      | none => False)
    | none => False)
  | none => False
/-- len, bool, str, repr of own instances are own methods -/
def biWc (G : Gm) (c : Cal) (b : BI) (ws : List W) (S : Sto) (Q : KE) : Prop := match b, ws with
  | .len, [.ref p] => (match S p with
    | some (.ins k _) => ownC G c k mLen [.ref p] S fun w S1 => (match w with
      | .int n => (0 ≤ n ∧ n < 2 ^ 63) ∧ Q (.int n) S1
      | _ => False)
    | some _ => biW .len [.ref p] S Q
    | none => False)
  | .bool, [.ref p] => (match S p with
    | some (.ins k _) => ownC G c k mLen [.ref p] S fun w S1 => (match w with
      | .int n => (0 ≤ n ∧ n < 2 ^ 63) ∧ Q (.bl (n != 0)) S1
      | _ => False)
    | some _ => biW .bool [.ref p] S Q
    | none => False)
  | .str, [.ref p] => (match S p with
    | some (.ins k _) => ownC G c k mStr [.ref p] S fun w S1 => (match w with
      | .str l => Q (.str l) S1
      | _ => False)
    | _ => False)
  | .repr, [.ref p] => (match S p with
    | some (.ins k _) => ownC G c k mRepr [.ref p] S fun w S1 => (match w with
      | .str l => Q (.str l) S1
      | _ => False)
    | some _ => biW .repr [.ref p] S Q
    | none => False)
  | b, ws => biW b ws S Q
/-- plain kinds, own classes -/
def tyOk (G : Gm) (S : Sto) (w : W) : Bool := match kindW G S w with
  | some (.exc _) => false
  | some _ => true
  | none => false
/-- == and !=, by an own __eq__ of the left one -/
def eqWc (G : Gm) (c : Cal) (neg : Bool) (x y : W) (S : Sto) (Q : Bool → Sto → Prop) : Prop := match x with
  | .ref p => (match S p with
    | some (.ins k _) => tyOk G S y = true ∧ ownC G c k mEq [.ref p, y] S fun w S1 => (match w with
      | .bl b => Q (if neg = true then !b else b) S1
      | _ => False)
    | some _ => eqW S (.ref p) y fun b => Q (if neg = true then !b else b) S
    | none => False)
  | x => eqW S x y fun b => Q (if neg = true then !b else b) S
def cmWc (G : Gm) (c : Cal) (o : Cm) (x y : W) (S : Sto) (Q : Bool → Sto → Prop) : Prop := match o with
  | .eq => eqWc G c false x y S Q
  | .ne => eqWc G c true x y S Q
  | o => cmW G o x y S fun b => Q b S
def wCmpO (G : Gm) (c : Cal) (o : Cm) (a b : TE') : TT' := fun σ S Q => a σ S fun x S1 => b σ S1 fun y S2 => cmWc G c o x y S2 Q
def wCBO (G : Gm) (c : Cal) (b : BI) (a : TA') : TE' := fun σ S Q => a σ S fun ws S1 => biWc G c b ws S1 Q
def wLcE (own : List Nat) (t : Tg) (it : TI') (d : TT') (e : TE') : TE' := fun σ S Q => it σ S fun ws gd S1 => wLc gd t (wipe σ own) d e Q ws [] S1
def iRng (a : TA') : TI' := fun σ S R => a σ S fun ws S1 => match ws with
  | [.int j] => (-big ≤ j ∧ j < big) ∧ R (rngW 0 j) (fun _ => True) S1
  | [.int i, .int j] => (-big ≤ i ∧ i < big ∧ -big ≤ j ∧ j < big) ∧ R (rngW i j) (fun _ => True) S1
  | _ => False
def iZip (a : TA') : TI' := fun σ S R => a σ S fun ws S1 => match ws with
  | [x, y] => itZ x S1 fun xs g1 _ => itZ y S1 fun ys g2 _ => R (zipW xs ys) (fun S' => g1 S' ∧ g2 S') S1
  | _ => False
def iEnum (a : TA') : TI' := fun σ S R => a σ S fun ws S1 => match ws with
  | [.rl us] => R (enW 0 us) (fun _ => True) S1
  | [.ref p] => (match S1 p with
    | some (.lst us) => R (enW 0 us) (fun S' => S' p = some (.lst us)) S1
    | _ => False)
  | _ => False
def iItems (o : TE') : TI' := fun σ S R => o σ S fun x S1 => match x with
  | .rd ks ws => R ((ks.zip ws).map fun q => .tup [kW q.1, q.2]) (fun _ => True) S1
  | _ => False
def iVals (o : TE') : TI' := fun σ S R => o σ S fun x S1 => match x with
  | .rd ks ws => R ((ks.zip ws).map (·.2)) (fun _ => True) S1
  | _ => False
def iKeysM (o : TE') : TI' := fun σ S R => o σ S fun x S1 => match x with
  | .rd ks _ => R (ks.map kW) (fun _ => True) S1
  | _ => False
def iCB (b : BI) (a : TA') : TI' := match b with
  | .range => iRng a
  | .zip => iZip a
  | .enum => iEnum a
  | b => tI (wCB b a)
def iMB (m : BM) (o : TE') (a : TA') : TI' := match m with
  | .items => iItems o
  | .values => iVals o
  | .keys => iKeysM o
  | m => tI (wMB m o a)
abbrev noX : KXS := fun _ _ _ => False
/-- THE MEANING of an expression, as a value, a test, an argument list, a thing walked -/
def rd (G : Gm) (c : Cal) : Ex → KXS → RD
  | .nil, _ => ⟨nE, nT, fun _ S Q => Q [] S, nI⟩
  | .cons e es, X => ⟨nE, nT, fun σ S Q => (rd G c e X).e σ S fun x S1 => (rd G c es X).a σ S1 fun xs S2 => Q (x :: xs) S2, nI⟩
  | .v i, _ => pl (wVar i)
  | .k w, _ => pl (wK w)
  | .op o a b, X => pl (wOp o (rd G c a X).e (rd G c b X).e)
  | .neg a, X => pl (wNeg (rd G c a X).e)
  | .not a, X => { pl (wNot (rd G c a X).e) with t := wNotT (rd G c a X).t }
  | .cmp o a b, X => { pl (vT (wCmpO G c o (rd G c a X).e (rd G c b X).e)) with t := wCmpO G c o (rd G c a X).e (rd G c b X).e }
  | .chn o1 o2 a b d, X => { pl (vT (wChn G o1 o2 (rd G c a X).e (rd G c b X).e (rd G c d X).e)) with t := wChn G o1 o2 (rd G c a X).e (rd G c b X).e (rd G c d X).e }
  | .and a b, X => { pl (wAnd (rd G c a X).e (rd G c b X).e) with t := wAndT (rd G c a X).t (rd G c b X).t }
  | .or a b, X => { pl (wOr (rd G c a X).e (rd G c b X).e) with t := wOrT (rd G c a X).t (rd G c b X).t }
  | .ite d a b, X => { pl (wIte (rd G c d X).t (rd G c a X).e (rd G c b X).e) with t := wIteT (rd G c d X).t (rd G c a X).t (rd G c b X).t }
  | .tup es, X => pl (wTup (rd G c es X).a)
  | .lst es, X => pl (wLst (rd G c es X).a)
  | .dct es, X => pl (wDct (rd G c es X).a)
  | .sub a i, X => pl (wSub G (rd G c a X).e (rd G c i X).e)
  | .slc a lo hi, X => pl (wSlc (rd G c a X).e (prt lo (rd G c lo X).e) (prt hi (rd G c hi X).e))
  | .fld a f, X => pl (wFld G (rd G c a X).e f)
  | .isi a t, X => pl (vT (wIsi G (rd G c a X).e t))
  | .isn a ts, X => { pl (vT (wIsn G (rd G c a X).e ts)) with t := wIsn G (rd G c a X).e ts }
  | .cF f n kw es, X => pl (wCF G c X f n kw (rd G c es X).a)
  | .cB b es, X => { pl (wCBO G c b (rd G c es X).a) with i := iCB b (rd G c es X).a }
  | .cV g es, X => pl (wCV G c X (rd G c g X).e (rd G c es X).a)
  | .mk k n kw es, X => pl (wMk G c X k n kw (rd G c es X).a)
  | .mO m n kw ks o es, X => pl (wMO G c X m n kw ks (rd G c o X).e (rd G c es X).a)
  | .mB m o es, X => { pl (wMB m (rd G c o X).e (rd G c es X).a) with i := iMB m (rd G c o X).e (rd G c es X).a }
  | .lc own t it d e, X => pl (wLcE own t (rd G c it X).i (rd G c d noX).t (rd G c e noX).e)
  | .nop, _ => ⟨nE, fun _ S Q => Q true S, nA, nI⟩
def Ext (S S1 : Sto) : Prop := ∀ a o, S a = some o → S1 a = some o
/-- what is no more wanted is left out -/
def drp (Q : KE) : KE := fun w S => ∃ S1, Ext S1 S ∧ Q w S1
def dlS (S : Sto) (a : Nat) : Sto := fun b => if b = a then none else S b
/-- a variable's value; a list, a dict that it holds may be read only from here on -/
def wFrz (i : Nat) : TE' := fun σ S Q => match σ[i]? with
  | some (some w) => Q w S ∨ ∃ a, w = .ref a ∧ ((∃ ws, S a = some (.lst ws) ∧ Q (.rl ws) (dlS S a)) ∨ ∃ kvs, S a = some (.dct kvs) ∧ Q (rdK kvs) (dlS S a))
  | _ => False
abbrev TS' := Dn → Sl → Sto → Prop
def sIfe (d : TT') (a b : TS') : TS' := fun D σ S => d σ S fun r S1 => if r = true then a D σ S1 else b D σ S1
def sFor (t : Tg) (it : TI') (b : TS') : TS' := fun D σ S => it σ S fun ws gd S1 => wFor gd t (fun nx σ S => b { D with nx := nx, ct := nx, bk := D.nx } σ S) D.nx ws σ S1
/-- some invariant with a measure -/
def sWhl (d : TT') (b : TS') : TS' := fun D σ S => ∃ I : Nat → Sl → Sto → Prop, (∃ m, I m σ S) ∧ ∀ m σ S, I m σ S → d σ S fun r S1 => if r = true then b { D with nx := fun σ S => ∃ m', m' < m ∧ I m' σ S, ct := fun σ S => ∃ m', m' < m ∧ I m' σ S, bk := D.nx } σ S1 else D.nx σ S1
/-- an exception of the class c, made of w -/
def rsW (G : Gm) (c : Nat) (n : Bool) (w : W) (k : XV → Prop) : Prop := match G.xi c with
  | some none => k ⟨c, n, [], []⟩
  | some (some f) => k ⟨c, n, [f], [w]⟩
  | none => False
/-- the name of a clause: bound, then gone -/
def setX (i : Option Nat) (x : XV) (σ : Sl) : Sl := match i with
  | some j => σ.set j (some (.xc x.c x.ns x.ws))
  | none => σ
def unD (i : Option Nat) (D : Dn) : Dn := match i with
  | some j => ⟨fun σ S => D.nx (σ.set j none) S, D.rt, fun σ S => D.bk (σ.set j none) S, fun σ S => D.ct (σ.set j none) S⟩
  | none => D
mutual
/-- THE MEANING of statements -/
def rdS (G : Gm) (c : Cal) : Sm → KXS → TS'
  | .nil, _ => fun D σ S => D.nx σ S
  | .cons s r, X => fun D σ S => rdS G c s X { D with nx := fun σ S => rdS G c r X D σ S } σ S
  | .expr e, X => fun D σ S => (rd G c e X).e σ S fun _ S1 => D.nx σ S1
  | .set t e, X => fun D σ S => (rd G c e X).e σ S fun w S1 => asg t w σ fun σ1 => D.nx σ1 S1
  | .setf f o e, X => fun D σ S => (rd G c e X).e σ S fun w S1 => (rd G c o X).e σ S1 fun x S2 => (match x with
    | .ref p => (match S2 p with
      | some (.ins k fs) => G.at_ k f = true ∧ fs.length < 1000 ∧ D.nx σ (ups S2 p (.ins k (putF f w fs)))
      | _ => False)
    | _ => False)
  | .seti o i e, X => fun D σ S => (rd G c e X).e σ S fun w S1 => (rd G c o X).e σ S1 fun x S2 => (rd G c i X).e σ S2 fun y S3 => setW x y w S3 fun S4 => D.nx σ S4
  | .aug i o e, X => fun D σ S => wVar i σ S fun x S1 => (rd G c e X).e σ S1 fun y S2 => augW o x y S2 fun w S3 => D.nx (σ.set i (some w)) S3
  | .augi p o i e, X => fun D σ S => (rd G c o X).e σ S fun x S1 => (rd G c i X).e σ S1 fun y S2 => dgW x y S2 fun z S3 => (rd G c e X).e σ S3 fun u S4 => augW p z u S4 fun w S5 => setW x y w S5 fun S6 => D.nx σ S6
  | .ife d a b, X => sIfe (rd G c d X).t (rdS G c a X) (rdS G c b X)
  | .for_ t it b, X => sFor t (rd G c it X).i (rdS G c b X)
  | .whl d b, X => sWhl (rd G c d X).t (rdS G c b X)
  | .ret e, X => fun D σ S => (rd G c e X).e σ S D.rt
  | .retv i, _ => fun D σ S => wFrz i σ S D.rt
  | .pass, _ => fun D σ S => D.nx σ S
  | .cont, _ => fun D σ S => D.ct σ S
  | .brk, _ => fun D σ S => D.bk σ S
  | .blk b, _ => fun D σ S => rdS G c b noX D σ S
  | .raise k e, X => fun _ σ S => (rd G c e X).e σ S fun w S1 => rsW G k true w fun x => X x σ S1
  | .try_ b hs, X => fun D σ S => rdS G c b (hdS G c hs X D) D σ S
  | .hdl _ _ _, _ => fun _ _ _ => False
  | .hdr _ _ _ _, _ => fun _ _ _ => False
/-- what the clauses make of an exception -/
def hdS (G : Gm) (c : Cal) : Sm → KXS → Dn → KXS
  | .cons h r, X, D => hd1 G c h X (hdS G c r X D) D
  | _, X, _ => X
def hd1 (G : Gm) (c : Cal) : Sm → KXS → KXS → Dn → KXS
  | .hdl cs i b, _, N, D => fun x σ S => (G.xv x.c && cs.all G.xv) = true ∧ if (cs.any fun k => G.xs x.c k) = true then rdS G c b noX (unD i D) (setX i x σ) S else N x σ S
  | .hdr cs i k e, X, N, _ => fun x σ S => (G.xv x.c && cs.all G.xv) = true ∧ if (cs.any fun k => G.xs x.c k) = true then x.n = true ∧ (rd G c e noX).e (σ.set i none) S fun w S1 => rsW G k false w fun y => X y (σ.set i none) S1 else N x σ S
  | _, _, _, _ => fun _ _ _ => False
end
/-- a def's call, so many calls deep -/
def cal (G : Gm) : Nat → Cal
  | 0 => fun _ _ _ _ _ => False
  | n + 1 => fun f vs S Q E => match G.fn f with
    | some fd => rdS G (cal G n) fd.body (fun x _ S1 => ∃ S2, Ext S2 S1 ∧ E x S2) ⟨fun _ S1 => drp Q .non S1, drp Q, fun _ _ => False, fun _ _ => False⟩ (start fd.ns vs) S
    | none => False
end MP
/-! MP2: how the small Python's values and store stand to those of the hand layer. -/
namespace MP
open PySem L2

/-- where the program's defs, classes, tables stand; what its attributes are called -/
structure RC where
  K : PySem.W.Frag
  fad : Nat → Addr
  cad : Nat → Addr
  kad : Nat → Addr
  xcl : Nat → Value
  aH : Hp
/-- a name by its number -/
def nm (n : Nat) : Str := S' (dec n)
theorem enc_dec (n : Nat) : enc (dec n) = n := by
  induction n using Nat.strongRecOn with
  | ind n ih =>
    rw [dec]
    by_cases h : n = 0
    · rw [dif_pos h, h]; rfl
    · rw [dif_neg h]
      show n % 128 + 128 * enc (dec (n / 128)) = n
      rw [ih (n / 128) (by omega)]
      omega
theorem nm_inj {a b : Nat} (h : nm a = nm b) : a = b := by
  have e : dec a = dec b := congrArg (fun x : Str => x.cps.toList) h
  rw [← enc_dec a, ← enc_dec b, e]
/-- a list that is read only: the script -/
def SqR (K : PySem.W.Frag) (H : Hp) (a : Addr) (xs : List V) : Prop :=
  (∃ o, H a = some (.frz o (.lst xs))) ∨
    ∃ (its : Array Value) (n : Nat), K.lookup a = some { cls := .type "list", dict := none, data := .seq its n, slots := #[] } ∧ its.size ≤ sizeLine ∧ Vals xs its.toList
theorem SqR.l {K : PySem.W.Frag} {H : Hp} {a : Addr} {xs : List V} (h : SqR K H a xs) : SqL K H a xs := by
  rcases h with h | ⟨its, n, h1, h2, h3⟩
  · exact .inl (.inr h)
  · exact .inr ⟨_, its, n, h1, rfl, rfl, rfl, h2, h3⟩

def kR : KW → Key
  | .inl i => .inl i
  | .inr l => .inr (S' l)
/-- an exception's object: nothing of it is told but what it is -/
def XO : HO := .ext fun _ => True
/-- an exception's class, its dict -/
def XcO (R : RC) (H : Hp) (c : Nat) (oe : Obj) (fsr : List (Str × V)) : Prop := oe.cls = R.xcl c ∧ (∃ vs, oe.data = .fields vs) ∧ ((fsr = [] ∧ oe.dict = none) ∨ ∃ d od, oe.dict = some d ∧ H d = some (.frz od (.xd fsr)))
mutual
/-- a value and the layer's value -/
def RV (R : RC) (H : Hp) : W → V → Prop
  | .non, v => v = .non
  | .bl b, v => v = .bl b
  | .int i, v => v = .int i
  | .str l, v => v = .str (S' l)
  | .tup ws, v => ∃ p vs, v = .ref p ∧ SqT R.K H p vs ∧ RVs R H ws vs
  | .rl ws, v => ∃ p vs, v = .ref p ∧ SqR R.K H p vs ∧ RVs R H ws vs
  | .rd ks ws, v => ∃ (p : Addr) (o : Obj) (kvr : List (Key × V)), v = .ref p ∧ H p = some (.frz o (.dK kvr)) ∧ kvr.map (·.1) = ks.map kR ∧ RVs R H ws (kvr.map (·.2))
  | .ref a, v => v = .ref a
  | .fn f, v => v = .ref (R.fad f)
  | .cl c, v => v = .ref (R.cad c)
  | .kd d, v => v = .ref (R.kad d)
  | .xc c ns ws, v => ∃ (p : Addr) (oe : Obj) (fsr : List (Str × V)), v = .ref p ∧ H p = some (.frz oe XO) ∧ XcO R H c oe fsr ∧ fsr.map (·.1) = ns.map nm ∧ RVs R H ws (fsr.map (·.2))
def RVs (R : RC) (H : Hp) : List W → List V → Prop
  | [], vs => vs = []
  | w :: ws, vs => ∃ v r, vs = v :: r ∧ RV R H w v ∧ RVs R H ws r
end
/-- what stands in the store and in the layer's heap -/
def RO (R : RC) (H : Hp) (a : Addr) : OB → Prop
  | .lst ws => ∃ vs, H a = some (.lst vs) ∧ RVs R H ws vs
  | .dct kvs => ∃ kvr, H a = some (.dK kvr) ∧ kvr.map (·.1) = kvs.map (fun q => kR q.1) ∧ RVs R H (kvs.map (·.2)) (kvr.map (·.2))
  | .ins c fs => ∃ dx fsr, H a = some (.ins (R.cad c) dx fsr) ∧ fsr.map (·.1) = fs.map (fun q => nm q.1) ∧ RVs R H (fs.map (·.2)) (fsr.map (·.2))
  | .exc _ _ => False
def Sim (R : RC) (S : Sto) (H : Hp) : Prop := ∀ a o, S a = some o → RO R H a o
/-- tuples and frozen objects stand -/
def Kp (H H1 : Hp) : Prop := ∀ a, (∀ xs, H a = some (.tup xs) → H1 a = some (.tup xs)) ∧ ∀ ob z, H a = some (.frz ob z) → H1 a = some (.frz ob z)
theorem Kp.refl (H : Hp) : Kp H H := fun a => ⟨fun _ q => q, fun _ _ q => q⟩
theorem Kp.trans {H H1 H2 : Hp} (f : Kp H H1) (g : Kp H1 H2) : Kp H H2 := fun a => ⟨fun xs q => (g a).1 xs ((f a).1 xs q), fun u v q => (g a).2 u v ((f a).2 u v q)⟩
def VO : HO → Prop
  | .tup _ => True
  | .frz _ _ => True
  | _ => False
def Fr (S : Sto) (H : Hp) (S1 : Sto) (H1 : Hp) : Prop := ∀ a o, H a = some o → S a = none → VO o → H1 a = some o ∧ S1 a = none
theorem Fr.refl (S : Sto) (H : Hp) : Fr S H S H := fun _ _ h n _ => ⟨h, n⟩
theorem Fr.trans {S S1 S2 : Sto} {H H1 H2 : Hp} (a : Fr S H S1 H1) (b : Fr S1 H1 S2 H2) : Fr S H S2 H2 := fun x o h n z => b x o (a x o h n z).1 (a x o h n z).2 z
section
variable {R : RC} {S S1 : Sto} {H H1 : Hp} {a p : Addr} {w : W} {v : V} {ws : List W} {vs : List V} {o : OB}
theorem Sim.tracked (h : Sim R S H) (e : S a = some o) : ∃ u, H a = some u ∧ (∀ xs, u ≠ .tup xs) ∧ (∀ ob z, u ≠ .frz ob z) ∧ ∀ x, u ≠ .own x := by
  have q := h a o e
  cases o with
  | lst ws => obtain ⟨vs, q, _⟩ := q; exact ⟨_, q, (fun _ z => nomatch z), (fun _ _ z => nomatch z), (fun _ z => nomatch z)⟩
  | dct ws => obtain ⟨vs, q, _⟩ := q; exact ⟨_, q, (fun _ z => nomatch z), (fun _ _ z => nomatch z), (fun _ z => nomatch z)⟩
  | ins c fs => obtain ⟨dx, fsr, q, _⟩ := q; exact ⟨_, q, (fun _ z => nomatch z), (fun _ _ z => nomatch z), (fun _ z => nomatch z)⟩
  | exc c fs => exact q.elim
theorem Sim.no (h : Sim R S H) (e : H a = none) : S a = none := by
  cases q : S a with
  | none => rfl
  | some o =>
    obtain ⟨u, z, _⟩ := h.tracked q
    rw [e] at z
    cases z
theorem Sim.tup (h : Sim R S H) {xs : List V} (e : H a = some (.tup xs)) : S a = none := by
  cases q : S a with
  | none => rfl
  | some o =>
    obtain ⟨u, z, n, _⟩ := h.tracked q
    rw [e] at z
    cases z
    exact absurd rfl (n xs)
theorem Sim.frz (h : Sim R S H) {ob : Obj} {z : HO} (e : H a = some (.frz ob z)) : S a = none := by
  cases q : S a with
  | none => rfl
  | some o =>
    obtain ⟨u, z', _, n, _⟩ := h.tracked q
    rw [e] at z'
    cases z'
    exact absurd rfl (n ob z)
theorem Sim.own (h : Sim R S H) {x : Addr} (e : H a = some (.own x)) : S a = none := by
  cases q : S a with
  | none => rfl
  | some o =>
    obtain ⟨u, z', _, _, n⟩ := h.tracked q
    rw [e] at z'
    cases z'
    exact absurd rfl (n x)
theorem SqT.mono (hS : Sim R S H) (f : Fr S H S1 H1) {xs : List V} (h : SqT R.K H p xs) : SqT R.K H1 p xs := by
  rcases h with (h | ⟨o, h⟩) | h
  · exact .inl (.inl (f _ _ h (hS.tup h) trivial).1)
  · exact .inl (.inr ⟨o, (f _ _ h (hS.frz h) trivial).1⟩)
  · exact .inr h
theorem SqR.mono (hS : Sim R S H) (f : Fr S H S1 H1) {xs : List V} (h : SqR R.K H p xs) : SqR R.K H1 p xs := by
  rcases h with ⟨o, h⟩ | h
  · exact .inl ⟨o, (f _ _ h (hS.frz h) trivial).1⟩
  · exact .inr h
theorem XcO.mono (hS : Sim R S H) (f : Fr S H S1 H1) {c : Nat} {oe : Obj} {fsr : List (Str × V)} (h : XcO R H c oe fsr) : XcO R H1 c oe fsr :=
  ⟨h.1, h.2.1, h.2.2.imp id fun ⟨d, od, e, q⟩ => ⟨d, od, e, (f _ _ q (hS.frz q) trivial).1⟩⟩
mutual
theorem RV.mono (hS : Sim R S H) (f : Fr S H S1 H1) : ∀ (w : W) (v : V), RV R H w v → RV R H1 w v
  | .non, v, h => h
  | .bl _, v, h => h
  | .int _, v, h => h
  | .str _, v, h => h
  | .tup ws, v, h => by
    obtain ⟨p, vs, e, h1, h2⟩ := h
    exact ⟨p, vs, e, SqT.mono hS f h1, RVs.mono hS f ws vs h2⟩
  | .rl ws, v, h => by
    obtain ⟨p, vs, e, h1, h2⟩ := h
    exact ⟨p, vs, e, SqR.mono hS f h1, RVs.mono hS f ws vs h2⟩
  | .rd ks ws, v, h => by
    obtain ⟨p, o, kvr, e, h1, h2, h3⟩ := h
    exact ⟨p, o, kvr, e, (f _ _ h1 (hS.frz h1) trivial).1, h2, RVs.mono hS f ws _ h3⟩
  | .ref _, v, h => h
  | .fn _, v, h => h
  | .cl _, v, h => h
  | .kd _, v, h => h
  | .xc c ns ws, v, h => by
    obtain ⟨p, oe, fsr, e, h1, h2, h3, h4⟩ := h
    exact ⟨p, oe, fsr, e, (f _ _ h1 (hS.frz h1) trivial).1, XcO.mono hS f h2, h3, RVs.mono hS f ws _ h4⟩
theorem RVs.mono (hS : Sim R S H) (f : Fr S H S1 H1) : ∀ (ws : List W) (vs : List V), RVs R H ws vs → RVs R H1 ws vs
  | [], vs, h => h
  | w :: ws, vs, h => by
    obtain ⟨v, r, e, h1, h2⟩ := h
    exact ⟨v, r, e, RV.mono hS f w v h1, RVs.mono hS f ws r h2⟩
end
theorem RVs.length : ∀ {ws : List W} {vs : List V}, RVs R H ws vs → vs.length = ws.length
  | [], _, h => by cases h; rfl
  | w :: ws, _, h => by
    obtain ⟨v, r, rfl, _, h2⟩ := h
    simp [RVs.length h2]
theorem RVs.get : ∀ {ws : List W} {vs : List V} {i : Nat} {w : W}, RVs R H ws vs → ws[i]? = some w → ∃ v, vs[i]? = some v ∧ RV R H w v
  | [], _, _, _, _, e => by simp at e
  | w :: ws, _, 0, u, h, e => by
    obtain ⟨v, r, rfl, h1, _⟩ := h
    simp at e; subst e
    exact ⟨v, rfl, h1⟩
  | w :: ws, _, i + 1, u, h, e => by
    obtain ⟨v, r, rfl, _, h2⟩ := h
    obtain ⟨x, q, z⟩ := RVs.get (i := i) h2 (by simpa using e)
    exact ⟨x, by simpa using q, z⟩
/-- .. from the layer's side -/
theorem RVs.get' : ∀ {ws : List W} {vs : List V} {i : Nat} {v : V}, RVs R H ws vs → vs[i]? = some v → ∃ w, ws[i]? = some w ∧ RV R H w v
  | [], _, _, _, h, e => by cases h; simp at e
  | w :: ws, _, 0, u, h, e => by
    obtain ⟨v, r, rfl, h1, _⟩ := h
    simp at e; subst e
    exact ⟨w, rfl, h1⟩
  | w :: ws, _, i + 1, u, h, e => by
    obtain ⟨v, r, rfl, _, h2⟩ := h
    obtain ⟨x, q, z⟩ := RVs.get' (i := i) h2 (by simpa using e)
    exact ⟨x, by simpa using q, z⟩
theorem RVs.append : ∀ {ws us : List W} {vs xs : List V}, RVs R H ws vs → RVs R H us xs → RVs R H (ws ++ us) (vs ++ xs)
  | [], _, _, _, h, k => by cases h; exact k
  | w :: ws, _, _, _, h, k => by
    obtain ⟨v, r, rfl, h1, h2⟩ := h
    exact ⟨v, _, rfl, h1, RVs.append h2 k⟩
theorem RVs.one (h : RV R H w v) : RVs R H [w] [v] := ⟨v, [], rfl, h, rfl⟩
theorem RVs.nil : RVs R H [] [] := rfl
theorem RVs.cons (h : RV R H w v) (t : RVs R H ws vs) : RVs R H (w :: ws) (v :: vs) := ⟨v, vs, rfl, h, t⟩
theorem RVs.take : ∀ {ws : List W} {vs : List V} (n : Nat), RVs R H ws vs → RVs R H (ws.take n) (vs.take n)
  | _, _, 0, _ => rfl
  | [], _, _ + 1, h => by cases h; rfl
  | w :: ws, _, n + 1, h => by
    obtain ⟨v, r, rfl, h1, h2⟩ := h
    exact ⟨v, _, rfl, h1, RVs.take n h2⟩
theorem RVs.drop : ∀ {ws : List W} {vs : List V} (n : Nat), RVs R H ws vs → RVs R H (ws.drop n) (vs.drop n)
  | _, _, 0, h => h
  | [], _, _ + 1, h => by cases h; rfl
  | w :: ws, _, n + 1, h => by
    obtain ⟨v, r, rfl, h1, h2⟩ := h
    exact RVs.drop n h2
theorem RVs.set (hw : RV R H w v) : ∀ {ws : List W} {vs : List V} (i : Nat), RVs R H ws vs → RVs R H (ws.set i w) (vs.set i v)
  | [], _, _, h => by cases h; rfl
  | u :: ws, _, 0, h => by
    obtain ⟨x, r, rfl, h1, h2⟩ := h
    exact ⟨v, r, rfl, hw, h2⟩
  | u :: ws, _, i + 1, h => by
    obtain ⟨x, r, rfl, h1, h2⟩ := h
    exact ⟨x, _, rfl, h1, RVs.set hw i h2⟩
theorem RVs.reverse : ∀ {ws : List W} {vs : List V}, RVs R H ws vs → RVs R H ws.reverse vs.reverse
  | [], _, h => by cases h; rfl
  | w :: ws, _, h => by
    obtain ⟨v, r, rfl, h1, h2⟩ := h
    rw [List.reverse_cons, List.reverse_cons]
    exact RVs.append (RVs.reverse h2) (RVs.one h1)
theorem RVs.eraseIdx : ∀ {ws : List W} {vs : List V} (i : Nat), RVs R H ws vs → RVs R H (ws.eraseIdx i) (vs.eraseIdx i)
  | [], _, _, h => by cases h; rfl
  | u :: ws, _, 0, h => by
    obtain ⟨x, r, rfl, h1, h2⟩ := h
    exact h2
  | u :: ws, _, i + 1, h => by
    obtain ⟨x, r, rfl, h1, h2⟩ := h
    exact ⟨x, _, rfl, h1, RVs.eraseIdx i h2⟩
theorem RVs.rep (h : RVs R H ws vs) : ∀ n : Nat, RVs R H (List.replicate n ws).flatten (List.replicate n vs).flatten
  | 0 => rfl
  | n + 1 => by
    rw [List.replicate_succ, List.replicate_succ, List.flatten_cons, List.flatten_cons]
    exact RVs.append h (RVs.rep h n)
theorem ups_same {a : Addr} : ups S a o a = some o := by unfold ups; rw [if_pos rfl]
theorem ups_ne {a b : Addr} (h : b ≠ a) : ups S a o b = S b := by unfold ups; rw [if_neg h]
end

/-! ### steps of the heap -/
section
variable {R : RC} {S S1 : Sto} {H H1 : Hp} {a p : Addr} {w : W} {v : V} {ws : List W} {vs : List V} {o : OB} {u : HO}
/-- objects told by another store over a later heap -/
theorem RO.mono (hS : Sim R S H) (f : Fr S H S1 H1) (e : H1 a = H a) (h : RO R H a o) : RO R H1 a o := by
  cases o with
  | lst ws => obtain ⟨vs, q, r⟩ := h; exact ⟨vs, e.trans q, r.mono hS f⟩
  | dct kvs => obtain ⟨kr, q, k, r⟩ := h; exact ⟨kr, e.trans q, k, r.mono hS f⟩
  | ins c fs => obtain ⟨dx, fr, q, k, r⟩ := h; exact ⟨dx, fr, e.trans q, k, r.mono hS f⟩
  | exc c fs => exact h.elim
/-- a new object that the store doesn't tell -/
theorem Sim.hid (hS : Sim R S H) (hp : H p = none) : Sim R S (upd H p u) ∧ Fr S H S (upd H p u) := by
  have f : Fr S H S (upd H p u) := fun b z e n _ => ⟨by rw [upd_ne (ne_of_none e hp)]; exact e, n⟩
  refine ⟨fun b ob e => RO.mono hS f ?_ (hS b ob e), f⟩
  obtain ⟨z, q, _⟩ := hS.tracked e
  rw [upd_ne (ne_of_none q hp)]
/-- a new object, told -/
theorem Sim.new (hS : Sim R S H) (hp : H p = none) (ho : ∀ H2, Fr S H S H2 → Sim R S H2 → H2 p = some u → RO R H2 p o) : Sim R (ups S p o) (upd H p u) ∧ Fr S H (ups S p o) (upd H p u) := by
  obtain ⟨k1, k2⟩ := hS.hid (u := u) hp
  refine ⟨fun b ob e => ?_, fun b z e n y => ⟨(k2 b z e n y).1, ?_⟩⟩
  · by_cases hb : b = p
    · subst hb
      rw [ups_same] at e
      cases e
      exact ho _ k2 k1 upd_same
    · rw [ups_ne hb] at e
      exact k1 b ob e
  · rw [ups_ne (ne_of_none e hp)]
    exact n
/-- a told object is changed -/
theorem Sim.chg {o1 : OB} (hS : Sim R S H) (ha : S a = some o) (hn : ∀ xs, u ≠ .tup xs) (ho : ∀ H2, (∀ w v, RV R H w v → RV R H2 w v) → (∀ ws vs, RVs R H ws vs → RVs R H2 ws vs) → H2 a = some u → RO R H2 a o1) : Sim R (ups S a o1) (upd H a u) ∧ Fr S H (ups S a o1) (upd H a u) := by
  have f : Fr S H (ups S a o1) (upd H a u) := fun b z e n _ => by
    have nb : b ≠ a := fun q => by rw [q, ha] at n; cases n
    exact ⟨by rw [upd_ne nb]; exact e, by rw [ups_ne nb]; exact n⟩
  refine ⟨fun b ob e => ?_, f⟩
  by_cases hb : b = a
  · subst hb
    rw [ups_same] at e
    cases e
    exact ho _ (fun w v q => RV.mono hS f w v q) (fun w v q => RVs.mono hS f w v q) upd_same
  · rw [ups_ne hb] at e
    exact RO.mono hS f (upd_ne hb) (hS b ob e)
theorem Sim.newL (hS : Sim R S H) (hp : H p = none) (r : RVs R H ws vs) : Sim R (ups S p (.lst ws)) (upd H p (.lst vs)) ∧ Fr S H (ups S p (.lst ws)) (upd H p (.lst vs)) :=
  hS.new hp fun H2 f _ e => ⟨vs, e, RVs.mono hS f ws vs r⟩
end

/-! ### read only from here on -/
def Cl (X : Cx) (Q : VK) : VK := fun v H => ∀ (pins : List (Addr × Obj)) (σ : St) (s : Shared), L2.Inv X pins σ H s → ∃ H2, L2.Inv X pins σ H2 s ∧ Q v H2
def ClS (X : Cx) (N : St → Hp → Prop) : St → Hp → Prop := fun σ H => ∀ (pins : List (Addr × Obj)) (s : Shared), L2.Inv X pins σ H s → ∃ H2, L2.Inv X pins σ H2 s ∧ N σ H2
theorem Cl.of {X : Cx} {Q : VK} {v : V} {H : Hp} (h : Q v H) : Cl X Q v H := fun _ _ _ I => ⟨H, I, h⟩
theorem ep_cl {X : Cx} {pins : List (Addr × Obj)} {σ : St} {Q : VK} {A : Around} {E : Value → Shared → Prop} {s : Shared} {m : Sem Value} (h : wpAny (model X.prog X.w) A m (EP X pins σ (Cl X Q)) E s) : wpAny (model X.prog X.w) A m (EP X pins σ Q) E s :=
  thn h fun u s2 ⟨v, H2, I2, r, q⟩ => by
    obtain ⟨H3, I3, q3⟩ := q pins σ s2 I2
    exact ⟨v, H3, I3, r, q3⟩
theorem PE.cl {X : Cx} {e : Expr} {t : TE} (h : PE X e t) : PE X e (fun σ H Q => t σ H (Cl X Q)) := ⟨fun pins s σ H Q I q => ep_cl (h.run pins s σ H _ I q)⟩
theorem PS.cl {X : Cx} {st : Stmt} {t : TS} (h : PS X st t) : PS X st (fun D σ H => t ⟨ClS X D.nx, Cl X D.rt, D.bk, D.ct⟩ σ H) := ⟨fun pins s σ H D I q => thn (h.run pins s σ H _ I q) fun fl s2 z => by
  cases fl with
  | next =>
    obtain ⟨σ2, H2, I2, q2⟩ := z
    obtain ⟨H3, I3, q3⟩ := q2 pins s2 I2
    exact ⟨σ2, H3, I3, q3⟩
  | brk => exact z
  | cont => exact z
  | ret u =>
    obtain ⟨v, σ2, H2, I2, r, q2⟩ := z
    obtain ⟨H3, I3, q3⟩ := q2 pins σ2 s2 I2
    exact ⟨v, σ2, H3, I3, r, q3⟩⟩
section
variable {R : RC} {S S1 : Sto} {H H1 : Hp} {a p : Addr} {ws : List W} {vs : List V} {kvs : List (KW × W)} {kvr : List (Key × V)}
/-- a new list, told as one that is read only -/
theorem fz_new (hS : Sim R S H) (hp : H p = none) (r : RVs R H ws vs) (o : Obj) : Sim R S (upd H p (.frz o (.lst vs))) ∧ Fr S H S (upd H p (.frz o (.lst vs))) ∧ RV R (upd H p (.frz o (.lst vs))) (.rl ws) (.ref p) := by
  obtain ⟨k1, k2⟩ := hS.hid (u := .frz o (.lst vs)) hp
  exact ⟨k1, k2, p, vs, rfl, .inl ⟨o, upd_same⟩, RVs.mono hS k2 _ _ r⟩
theorem fz_newD (hS : Sim R S H) (hp : H p = none) (e : kvr.map (·.1) = kvs.map (fun q => kR q.1)) (r : RVs R H (kvs.map (·.2)) (kvr.map (·.2))) (o : Obj) : Sim R S (upd H p (.frz o (.dK kvr))) ∧ Fr S H S (upd H p (.frz o (.dK kvr))) ∧ RV R (upd H p (.frz o (.dK kvr))) (rdK kvs) (.ref p) := by
  obtain ⟨k1, k2⟩ := hS.hid (u := .frz o (.dK kvr)) hp
  exact ⟨k1, k2, p, o, kvr, rfl, upd_same, by rw [e, List.map_map]; rfl, RVs.mono hS k2 _ _ r⟩
/-- a told list, a told dict is told as one that is read only -/
theorem fz_any {u : HO} {o : OB} (hS : Sim R S H) (ha : S a = some o) (hn : ∀ xs, u ≠ .tup xs) : Sim R (dlS S a) (upd H a u) ∧ Fr S H (dlS S a) (upd H a u) := by
  have f : Fr S H (dlS S a) (upd H a u) := fun b z e n _ => by
    have nb : b ≠ a := fun q => by rw [q, ha] at n; cases n
    exact ⟨by rw [upd_ne nb]; exact e, by unfold dlS; rw [if_neg nb]; exact n⟩
  refine ⟨fun b ob e => ?_, f⟩
  unfold dlS at e
  by_cases hb : b = a
  · rw [if_pos hb] at e; cases e
  · rw [if_neg hb] at e
    exact RO.mono hS f (upd_ne hb) (hS b ob e)
theorem fz_lst (hS : Sim R S H) (ha : S a = some (.lst ws)) : ∃ vs, H a = some (.lst vs) ∧ ∀ o, Sim R (dlS S a) (upd H a (.frz o (.lst vs))) ∧ Fr S H (dlS S a) (upd H a (.frz o (.lst vs))) ∧ RV R (upd H a (.frz o (.lst vs))) (.rl ws) (.ref a) := by
  obtain ⟨vs, e, r⟩ := hS a _ ha
  refine ⟨vs, e, fun o => ?_⟩
  obtain ⟨k1, k2⟩ := fz_any (u := .frz o (.lst vs)) hS ha (fun _ z => nomatch z)
  exact ⟨k1, k2, a, vs, rfl, .inl ⟨o, upd_same⟩, RVs.mono hS k2 _ _ r⟩
theorem fz_dct (hS : Sim R S H) (ha : S a = some (.dct kvs)) : ∃ kvr, H a = some (.dK kvr) ∧ ∀ o, Sim R (dlS S a) (upd H a (.frz o (.dK kvr))) ∧ Fr S H (dlS S a) (upd H a (.frz o (.dK kvr))) ∧ RV R (upd H a (.frz o (.dK kvr))) (rdK kvs) (.ref a) := by
  obtain ⟨kvr, e, k, r⟩ := hS a _ ha
  refine ⟨kvr, e, fun o => ?_⟩
  obtain ⟨k1, k2⟩ := fz_any (u := .frz o (.dK kvr)) hS ha (fun _ z => nomatch z)
  exact ⟨k1, k2, a, o, kvr, rfl, upd_same, by rw [k, List.map_map]; rfl, RVs.mono hS k2 _ _ r⟩
/-- what is no more told -/
theorem Sim.ext (h : Ext S1 S) (hS : Sim R S H) : Sim R S1 H := fun a o e => hS a o (h a o e)
theorem Fr.ext {S0 : Sto} {H0 : Hp} (h : Ext S1 S) (f : Fr S0 H0 S H) : Fr S0 H0 S1 H := fun a o e n y => ⟨(f a o e n y).1, by
  cases q : S1 a with
  | none => rfl
  | some z => exact absurd (f a o e n y).2 (by rw [h a z q]; exact fun y => nomatch y)⟩
/-- a read-only dict's entries -/
theorem rd_zip : ∀ {ks : List KW} {ws : List W} {kvr : List (Key × V)}, kvr.map (·.1) = ks.map kR → RVs R H ws (kvr.map (·.2)) → kvr.map (·.1) = (ks.zip ws).map (fun q => kR q.1) ∧ RVs R H ((ks.zip ws).map (·.2)) (kvr.map (·.2)) ∧ ks.length = ws.length
  | [], ws, kvr, e, r => by
    cases kvr with
    | nil =>
      cases ws with
      | nil => exact ⟨rfl, r, rfl⟩
      | cons w ws => obtain ⟨_, _, z, _⟩ := r; cases z
    | cons _ _ => cases e
  | k :: ks, ws, kvr, e, r => by
    cases kvr with
    | nil => cases e
    | cons q kvr =>
      cases ws with
      | nil => cases (show q.2 :: kvr.map (·.2) = [] from r)
      | cons w ws =>
        obtain ⟨v, vr, z, r1, r2⟩ := r
        simp only [List.map_cons, List.cons.injEq] at e z
        obtain ⟨e1, e2⟩ := e
        obtain ⟨z1, z2⟩ := z
        subst z1 z2
        obtain ⟨i1, i2, i3⟩ := rd_zip e2 r2
        refine ⟨by simp only [List.map_cons, List.zip_cons_cons, e1, i1], ?_, by simp [i3]⟩
        rw [List.zip_cons_cons, List.map_cons, List.map_cons]
        exact ⟨_, _, rfl, r1, i2⟩
end

section
variable {R : RC} {H H1 : Hp}
theorem Sim.fr {S S1 : Sto} (hS : Sim R S H) (hS1 : Sim R S1 H1) (f : Kp H H1) : Fr S H S1 H1 := fun a o e n z => by
  cases o with
  | tup xs => have q := (f a).1 _ e; exact ⟨q, hS1.tup q⟩
  | frz u v => have q := (f a).2 _ _ e; exact ⟨q, hS1.frz q⟩
  | _ => exact z.elim
theorem Fr.kp {S S1 : Sto} (f : Fr S H S1 H1) (hS : Sim R S H) : Kp H H1 := fun a => ⟨fun xs e => (f a _ e (hS.tup e) trivial).1, fun u v e => (f a _ e (hS.frz e) trivial).1⟩
end
/-! ### slots -/
structure RS (R : RC) (H : Hp) (σ : Sl) (τ : St) : Prop where
  len : τ.length = σ.length
  at_ : ∀ (i : Nat) (w : W), σ[i]? = some (some w) → ∃ v, τ[i]? = some (some v) ∧ RV R H w v
  an : Kp R.aH H
theorem RS.mono {R : RC} {S S1 : Sto} {H H1 : Hp} {σ : Sl} {τ : St} (h : RS R H σ τ) (hS : Sim R S H) (f : Fr S H S1 H1) : RS R H1 σ τ :=
  ⟨h.len, fun i w e => let ⟨v, q, r⟩ := h.at_ i w e; ⟨v, q, r.mono hS f⟩, h.an.trans (f.kp hS)⟩
theorem RS.set {R : RC} {H : Hp} {σ : Sl} {τ : St} {w : W} {v : V} (h : RS R H σ τ) (i : Nat) (r : RV R H w v) : RS R H (σ.set i (some w)) (τ.set i (some v)) := by
  refine ⟨by simp [h.len], fun j u e => ?_, h.an⟩
  by_cases hj : i = j
  · subst hj
    by_cases hl : i < σ.length
    · rw [List.getElem?_set_self hl] at e
      cases e
      exact ⟨v, List.getElem?_set_self (by rw [h.len]; exact hl), r⟩
    · rw [List.getElem?_eq_none (by simp; omega)] at e
      cases e
  · rw [List.getElem?_set_ne hj] at e
    obtain ⟨x, q, z⟩ := h.at_ j u e
    exact ⟨x, by rw [List.getElem?_set_ne hj]; exact q, z⟩

section
variable {R : RC} {H H1 : Hp}
theorem SqT.kp (f : Kp H H1) {p : Addr} {xs : List V} (h : SqT R.K H p xs) : SqT R.K H1 p xs := by
  rcases h with (h | ⟨o, h⟩) | h
  · exact .inl (.inl ((f p).1 _ h))
  · exact .inl (.inr ⟨o, (f p).2 _ _ h⟩)
  · exact .inr h
theorem SqR.kp (f : Kp H H1) {p : Addr} {xs : List V} (h : SqR R.K H p xs) : SqR R.K H1 p xs := by
  rcases h with ⟨o, h⟩ | h
  · exact .inl ⟨o, (f p).2 _ _ h⟩
  · exact .inr h
theorem XcO.kp (f : Kp H H1) {c : Nat} {oe : Obj} {fsr : List (Str × V)} (h : XcO R H c oe fsr) : XcO R H1 c oe fsr :=
  ⟨h.1, h.2.1, h.2.2.imp id fun ⟨d, od, e, q⟩ => ⟨d, od, e, (f d).2 _ _ q⟩⟩
mutual
theorem RV.kp (f : Kp H H1) : ∀ (w : W) (v : V), RV R H w v → RV R H1 w v
  | .non, v, h => h
  | .bl _, v, h => h
  | .int _, v, h => h
  | .str _, v, h => h
  | .tup ws, v, h => by
    obtain ⟨p, vs, e, h1, h2⟩ := h
    exact ⟨p, vs, e, SqT.kp f h1, RVs.kp f ws vs h2⟩
  | .rl ws, v, h => by
    obtain ⟨p, vs, e, h1, h2⟩ := h
    exact ⟨p, vs, e, SqR.kp f h1, RVs.kp f ws vs h2⟩
  | .rd ks ws, v, h => by
    obtain ⟨p, o, kvr, e, h1, h2, h3⟩ := h
    exact ⟨p, o, kvr, e, (f p).2 _ _ h1, h2, RVs.kp f ws _ h3⟩
  | .ref _, v, h => h
  | .fn _, v, h => h
  | .cl _, v, h => h
  | .kd _, v, h => h
  | .xc c ns ws, v, h => by
    obtain ⟨p, oe, fsr, e, h1, h2, h3, h4⟩ := h
    exact ⟨p, oe, fsr, e, (f p).2 _ _ h1, XcO.kp f h2, h3, RVs.kp f ws _ h4⟩
theorem RVs.kp (f : Kp H H1) : ∀ (ws : List W) (vs : List V), RVs R H ws vs → RVs R H1 ws vs
  | [], vs, h => h
  | w :: ws, vs, h => by
    obtain ⟨v, r, e, h1, h2⟩ := h
    exact ⟨v, r, e, RV.kp f w v h1, RVs.kp f ws r h2⟩
end
theorem RO.kp (f : Kp H H1) {a : Addr} {o : OB} (e : H1 a = H a) (h : RO R H a o) : RO R H1 a o := by
  cases o with
  | lst ws => obtain ⟨vs, q, r⟩ := h; exact ⟨vs, e.trans q, RVs.kp f _ _ r⟩
  | dct kvs => obtain ⟨kr, q, k, r⟩ := h; exact ⟨kr, e.trans q, k, RVs.kp f _ _ r⟩
  | ins c fs => obtain ⟨dx, fr, q, k, r⟩ := h; exact ⟨dx, fr, e.trans q, k, RVs.kp f _ _ r⟩
  | exc c fs => exact h.elim
end
/-! ### from the small readings to the layer's -/
def LE (R : RC) (t : TE') : TE := fun τ H Q => ∃ σ S Qw, RS R H σ τ ∧ Sim R S H ∧ t σ S Qw ∧ ∀ w S1 v H1, Qw w S1 → RV R H1 w v → Sim R S1 H1 → Fr S H S1 H1 → Q v H1
def LA (R : RC) (n : Nat) (t : TA') : TA := fun τ H Q => ∃ σ S Qw, RS R H σ τ ∧ Sim R S H ∧ t σ S Qw ∧ ∀ ws S1 vs H1, ws.length = n → Qw ws S1 → RVs R H1 ws vs → Sim R S1 H1 → Fr S H S1 H1 → Q vs H1
def LT (R : RC) (t : TT') : TT := fun τ H Q => ∃ σ S Qw, RS R H σ τ ∧ Sim R S H ∧ t σ S Qw ∧ ∀ b S1 H1, Qw b S1 → Sim R S1 H1 → Fr S H S1 H1 → Q b H1
structure DK (R : RC) (S : Sto) (H : Hp) (Dw : Dn) (D : Ends) : Prop where
  nx : ∀ σ1 S1 τ1 H1, Dw.nx σ1 S1 → RS R H1 σ1 τ1 → Sim R S1 H1 → Fr S H S1 H1 → D.nx τ1 H1
  rt : ∀ w S1 v H1, Dw.rt w S1 → RV R H1 w v → Sim R S1 H1 → Fr S H S1 H1 → D.rt v H1
  bk : ∀ σ1 S1 τ1 H1, Dw.bk σ1 S1 → RS R H1 σ1 τ1 → Sim R S1 H1 → Fr S H S1 H1 → D.bk τ1 H1
  ct : ∀ σ1 S1 τ1 H1, Dw.ct σ1 S1 → RS R H1 σ1 τ1 → Sim R S1 H1 → Fr S H S1 H1 → D.ct τ1 H1
theorem DK.tr {R : RC} {S S1 : Sto} {H H1 : Hp} {Dw : Dn} {D : Ends} (k : DK R S H Dw D) (f : Fr S H S1 H1) : DK R S1 H1 Dw D :=
  ⟨fun σ1 S1 τ1 H1 a b c d => k.nx _ _ _ _ a b c (f.trans d), fun σ1 S1 τ1 H1 a b c d => k.rt _ _ _ _ a b c (f.trans d), fun σ1 S1 τ1 H1 a b c d => k.bk _ _ _ _ a b c (f.trans d), fun σ1 S1 τ1 H1 a b c d => k.ct _ _ _ _ a b c (f.trans d)⟩
def LS (R : RC) (t : TS') : TS := fun D τ H => ∃ (σ : Sl) (S : Sto) (Dw : Dn), RS R H σ τ ∧ Sim R S H ∧ t Dw σ S ∧ DK R S H Dw D
section
variable {X : Cx}
theorem PE.imp {e : Expr} {t t' : TE} (h : PE X e t) (k : ∀ σ H Q, t' σ H Q → t σ H Q) : PE X e t' := ⟨fun pins s σ H Q I q => h.run pins s σ H Q I (k σ H Q q)⟩
theorem PT.imp {e : Expr} {t t' : TT} (h : PT X e t) (k : ∀ σ H Q, t' σ H Q → t σ H Q) : PT X e t' := ⟨fun pins s σ H Q I q => h.run pins s σ H Q I (k σ H Q q)⟩
theorem PA.imp {e : List Expr} {t t' : TA} (h : PA X e t) (k : ∀ σ H Q, t' σ H Q → t σ H Q) : PA X e t' := ⟨fun pos pins s σ H Q I q => h.run pos pins s σ H Q I (k σ H Q q)⟩
theorem PS.imp {e : Stmt} {t t' : TS} (h : PS X e t) (k : ∀ D σ H, t' D σ H → t D σ H) : PS X e t' := ⟨fun pins s σ H D I q => h.run pins s σ H D I (k D σ H q)⟩
theorem PSs.imp {e : List Stmt} {t t' : TS} (h : PSs X e t) (k : ∀ D σ H, t' D σ H → t D σ H) : PSs X e t' := ⟨fun pins s σ H D I q => h.run pins s σ H D I (k D σ H q)⟩
end
end MP
/-! MP3: operations on values. -/
namespace MP
open PySem L2

abbrev KV' (R : RC) (S : Sto) (H : Hp) (Qw : KE) (Q : VK) : Prop := ∀ w S1 v H1, Qw w S1 → RV R H1 w v → Sim R S1 H1 → Fr S H S1 H1 → Q v H1
def LO (R : RC) (t : W → W → Sto → KE → Prop) : R2 := fun x y H Q => ∃ w u S Qw, RV R H w x ∧ RV R H u y ∧ Sim R S H ∧ t w u S Qw ∧ KV' R S H Qw Q
def LB (R : RC) (t : W → W → Sto → (Bool → Prop) → Prop) : R2 := fun x y H Q => ∃ (w u : W) (S : Sto) (Qw : Bool → Prop), RV R H w x ∧ RV R H u y ∧ Sim R S H ∧ t w u S Qw ∧ ∀ b, Qw b → Q (.bl b) H
theorem lim_eq : LIM = sizeLine := by rw [sizeLine_eq]
theorem S_len (a : List Nat) : (S' a).length = a.length := by simp [S', Str.length]
theorem S_app (a b : List Nat) : S' a ++ S' b = S' (a ++ b) := TL.ext_tl (TL.tl_append (S' a) (S' b))
theorem S_inj {a b : List Nat} (h : S' a = S' b) : a = b := congrArg (fun x : Str => x.cps.toList) h
theorem S_tl (x : Str) : S' x.cps.toList = x := TL.mk_tl x
theorem S_one (c : Nat) : S' [c] = ⟨#[c]⟩ := rfl
theorem atI_eq {α β : Type} {xs : List α} {ys : List β} (h : xs.length = ys.length) (i : Int) : ixN xs.length i = ixN ys.length i := by rw [h]
section
variable {R : RC} {H : Hp} {ws : List W} {vs : List V}
theorem RVs.atI (h : RVs R H ws vs) {i : Int} {w : W} (e : atI ws i = some w) : ∃ v, atI vs i = some v ∧ RV R H w v := by
  unfold L2.atI at e ⊢
  rw [h.length]
  cases q : ixN ws.length i with
  | none => rw [q] at e; cases e
  | some j =>
    rw [q] at e
    exact h.get e
theorem RVs.cut (h : RVs R H ws vs) (lo hi : Option Int) : RVs R H (cut ws lo hi) (cutV vs lo hi) := by
  unfold MP.cut cutV
  rw [h.length]
  exact (h.drop _).take _
end

/-- what is known of a class's special methods -/
def spB (K : PySem.W.Frag) (C : Addr) : Bool := decide (PySem.W.findIn K (.ref C) "__bool__" = some none) && (decide (PySem.W.findIn K (.ref C) "__ne__" = some (some (.builtin "object.__ne__"))) && ["NoneType", "bool", "int", "str", "tuple", "list", "dict"].all fun n => PySem.W.notFirst K C (.type n))
/-- what is known of the exceptions' classes -/
structure EX (R : RC) (G : Gm) : Prop where
  xk : ∀ c, G.xv c = true → (∃ C, R.xcl c = .ref C) ∨ ∃ n, R.xcl c = .type n
  xx : ∀ c d, G.xv c = true → G.xv d = true → PySem.W.kitOne R.K (R.xcl c) (R.xcl d) = some (G.xs c d) ∧ PySem.W.exmOne R.K (R.xcl c) (R.xcl d) = some (G.xs c d)
  xb : ∀ c n, G.xv c = true → n ∈ ["NoneType", "bool", "int", "str", "tuple", "list", "dict"] → PySem.W.kitOne R.K (.type n) (R.xcl c) = some false ∧ PySem.W.kitOne R.K (R.xcl c) (.type n) = some false
  xo : ∀ c d, G.xv c = true → (G.cd d).isSome = true → PySem.W.kitOne R.K (R.xcl c) (.ref (R.cad d)) = some false ∧ PySem.W.kitOne R.K (.ref (R.cad d)) (R.xcl c) = some false
  xe : ∀ c, G.xv c = true → PySem.W.subIn R.K (R.xcl c) (.type "BaseException") = some true
  xi : ∀ c, (G.xi c).isSome = true → ∃ C, R.xcl c = .ref C ∧ ExcC R.K C
  xf : ∀ c f, G.xf c f = true → ∃ C, R.xcl c = .ref C ∧ XfC R.K C ∧ PySem.W.findIn R.K (.ref C) (nm f) = some none
/-- the facts of a context that operations lean on -/
structure E1 (R : RC) (G : Gm) (X : Cx) : Prop where
  xcs : EX R G
  K : X.K = R.K
  calm : X.calm = true
  un : X.A.units + 200 < cLine
  gd : X.A.guards = some []
  sm : ∃ o, R.K.lookup sysModules = some o ∧ o.cls = .type "dict"
  own : ∀ c, (G.cd c).isSome = true → Cls R.K (R.cad c) ∧ PySem.W.findIn R.K (.ref (R.cad c)) "__class__" = some (some (.builtin "object.__class__")) ∧ PySem.W.specialIn R.K (.builtin "object.__class__") "__get__" = some (some (.builtin "getset_descriptor.__get__")) ∧
    PySem.W.takesIn R.K (.builtin "object.__class__") = some true ∧ PySem.W.mroIn R.K (R.cad c) (.type "object") = some true
  bo : ∀ c n, (G.cd c).isSome = true → n ∈ ["NoneType", "bool", "int", "str", "tuple", "list", "dict"] → PySem.W.kitOne R.K (.type n) (.ref (R.cad c)) = some false ∧ PySem.W.kitOne R.K (.ref (R.cad c)) (.type n) = some false
  oo : ∀ c d, (G.cd c).isSome = true → (G.cd d).isSome = true → PySem.W.kitOne R.K (.ref (R.cad c)) (.ref (R.cad d)) = some (decide (c = d))
  sp : ∀ c d, (G.cd c).isSome = true → (G.cd d).isSome = true → spB R.K (R.cad c) = true ∧ PySem.W.notFirst R.K (R.cad c) (.ref (R.cad d)) = true
  na : ∀ c f, G.at_ c f = true → Cls R.K (R.cad c) ∧ NoAttr R.K (R.cad c) (nm f)
  mt : ∀ c cd m f, G.cd c = some cd → cd.mt.lookup m = some f → Meth R.K (R.cad c) (nm m) (R.fad f)
  ini : ∀ c cd f, G.cd c = some cd → cd.init = some f → Mk R.K (R.cad c) (R.fad f)
  kd : ∀ (d : Nat) (l : List Nat), G.kd d ≠ [] → ∃ es n r, KDict X.K X.w (R.kad d) es n ∧ PySem.W.nsIn X.K (R.kad d) (S' l) = some r ∧ (match lkW (G.kd d) (.inr l) with
    | some w => ∃ u v, r = some u ∧ RelV v u ∧ ∀ H, RV R H w v
    | none => r = none)
section
variable {R : RC} {G : Gm} {X : Cx}
theorem new_tup {S : Sto} {H : Hp} {Qw : KE} {Q : VK} {ws : List W} {vs : List V} {p : Addr} (hS : Sim R S H) (k : KV' R S H Qw Q) (h : Qw (.tup ws) S) (hp : H p = none) (r : RVs R H ws vs) : Q (.ref p) (upd H p (.tup vs)) := by
  obtain ⟨k1, k2⟩ := hS.hid (u := .tup vs) hp
  exact k _ S _ _ h ⟨p, vs, rfl, .inl (.inl upd_same), RVs.mono hS k2 ws vs r⟩ k1 k2
theorem new_lst {S : Sto} {H : Hp} {Qw : KE} {Q : VK} {ws : List W} {vs : List V} {p : Addr} (hS : Sim R S H) (k : KV' R S H Qw Q) (h : newL ws S Qw) (hp : H p = none) (r : RVs R H ws vs) : Cl X Q (.ref p) (upd H p (.lst vs)) := by
  rcases h with h | h
  · intro pins σ s I
    obtain ⟨o, I2⟩ := I.lock (d := p) (u := .lst vs) upd_same trivial
    rw [upd_upd] at I2
    obtain ⟨k1, k2, k3⟩ := fz_new hS hp r o
    exact ⟨_, I2, k _ _ _ _ h k3 k1 k2⟩
  · obtain ⟨k1, k2⟩ := hS.newL hp r
    exact Cl.of (k _ _ _ _ (h p (hS.no hp)) rfl k1 k2)
theorem new_dct {S : Sto} {H : Hp} {Qw : KE} {Q : VK} {kvs : List (KW × W)} {kvr : List (Key × V)} {p : Addr} (hS : Sim R S H) (k : KV' R S H Qw Q) (h : newD kvs S Qw) (hp : H p = none) (e : kvr.map (·.1) = kvs.map (fun q => kR q.1)) (r : RVs R H (kvs.map (·.2)) (kvr.map (·.2))) : Cl X Q (.ref p) (upd H p (.dK kvr)) := by
  rcases h with h | h
  · intro pins σ s I
    obtain ⟨o, I2⟩ := I.lock (d := p) (u := .dK kvr) upd_same trivial
    rw [upd_upd] at I2
    obtain ⟨k1, k2, k3⟩ := fz_newD hS hp e r o
    exact ⟨_, I2, k _ _ _ _ h k3 k1 k2⟩
  · obtain ⟨k1, k2⟩ := hS.new (u := .dK kvr) (o := .dct kvs) hp fun H2 f _ q => ⟨kvr, q, e, RVs.mono hS f _ _ r⟩
    exact Cl.of (k _ _ _ _ (h p (hS.no hp)) rfl k1 k2)
/-- the object of a list -/
def LsO (s : Shared) (p : Addr) (vs : List V) : Prop := vs.length ≤ sizeLine ∧ ∃ (its : List Value) (n : Nat), Vals vs its ∧ vs.length = its.length ∧ s.heap.get? p = some { cls := .type "list", data := .seq its.toArray n }
theorem rowL_obj (hK : X.K = R.K) {pins : List (Addr × Obj)} {s : Shared} {τ : L2.St} {S : Sto} {H : Hp} {w : W} {v : V} {ws : List W} (I : L2.Inv X pins τ H s) (hS : Sim R S H) (h : rowL S w = some ws) (r : RV R H w v) : ∃ p vs, v = .ref p ∧ RVs R H ws vs ∧ LsO s p vs := by
  cases w with
  | rl us =>
    cases h
    obtain ⟨p, vs, e, hp, hv⟩ := r
    refine ⟨p, vs, e, hv, ?_⟩
    rcases hp with ⟨o, hp⟩ | ⟨its, n, h1, h2, h3⟩
    · obtain ⟨e1, z, its, n, r1, e2⟩ := I.hok p _ hp
      exact ⟨z, its, n, r1, r1.length, e2⟩
    · have e3 := I.kIn p _ (by rw [hK]; exact h1)
      have hl := h3.length
      refine ⟨by rw [hl, Array.length_toList]; exact h2, its.toList, n, h3, hl, by simpa using e3⟩
  | ref a =>
    have h' : (match S a with
      | some (.lst ws) => some ws
      | _ => none) = some ws := h
    cases ea : S a with
    | none => rw [ea] at h'; cases h'
    | some oa => cases oa with
      | lst us =>
        rw [ea] at h'
        cases h'
        cases r
        obtain ⟨vs, q1, r1⟩ := hS a _ ea
        obtain ⟨z, its, n, r2, hl, e⟩ := I.lstM q1
        exact ⟨a, vs, rfl, r1, z, its, n, r2, hl, e⟩
      | _ => rw [ea] at h'; cases h'
  | _ => cases h
theorem run_cat {pins : List (Addr × Obj)} {s : Shared} {τ : L2.St} {H : Hp} {a b : Addr} {xs zs : List V} {Q : VK} (I : L2.Inv X pins τ H s) (h1 : LsO s a xs) (h2 : LsO s b zs) (hz : xs.length + zs.length ≤ sizeLine) (q : ∀ p, H p = none → Q (.ref p) (upd H p (.lst (xs ++ zs)))) :
    wpAny (model X.prog X.w) X.A (binaryOp .Add (.ref a) (.ref b)) (EP X pins τ Q) X.xe s := by
  obtain ⟨z, its, n, r, hl, e⟩ := h1
  obtain ⟨z2, its2, n2, r2, hl2, e2⟩ := h2
  refine PySem.P.add_list e e2 ?_ (by rw [List.size_toArray, List.size_toArray]; omega)
  have ea : its.toArray ++ its2.toArray = (its ++ its2).toArray := by simp
  rw [ea]
  exact ⟨.ref _, _, I.lnew (t' := s.toks) (r.append r2) (by rw [List.length_append]; omega), rfl, q _ I.fresh⟩
theorem run_rep {pins : List (Addr × Obj)} {s : Shared} {τ : L2.St} {H : Hp} {l : Addr} {k : Int} {t : Tok} {xs : List V} {Q : VK} (I : L2.Inv X pins τ H s) (h0 : LsO s l xs) (h1 : -(2 ^ 63) ≤ k) (h2 : k < 2 ^ 63) (hz : xs.length * k.toNat ≤ sizeLine) (q : ∀ p, H p = none → Q (.ref p) (upd H p (.lst (List.replicate k.toNat xs).flatten))) :
    wpAny (model X.prog X.w) X.A (binaryOp .Mult (.ref l) (.int k t)) (EP X pins τ Q) X.xe s := by
  obtain ⟨z, its, n, r, hl, e⟩ := h0
  have hlen : its.toArray.size * k.toNat ≤ sizeLine := by rw [List.size_toArray, ← hl]; exact hz
  have hcap : ¬ its.toArray.size * k.toNat > (2 ^ 63 - 1) / 8 := by
    have : (sizeLine : Nat) ≤ (2 ^ 63 - 1) / 8 := by decide
    omega
  have hfit : ¬ (!Builtin.List.listFitsIndex k) = true := by
    rw [fitsIndex_both h1 h2]
    exact Bool.false_ne_true
  have hlong : ¬ Builtin.List.listTooLong (its.toArray.size * k.toNat) = true := by
    rw [notLongL hlen]
    exact Bool.false_ne_true
  have hnew : List.foldl (fun x1 x2 => x1 ++ x2) #[] (List.replicate (if its.toArray.isEmpty = true then 0 else k.toNat) its.toArray) = (List.replicate k.toNat its).flatten.toArray := by
    have f0 : ∀ m : Nat, List.foldl (fun x1 x2 => x1 ++ x2) #[] (List.replicate m its.toArray) = (List.replicate m its).flatten.toArray := fun m => by
      have := foldl_rep its m []
      rw [List.nil_append] at this
      exact this
    rw [f0]
    cases its with
    | nil => simp
    | cons a r' => rw [if_neg (by simp)]
  refine wpAny_binaryOp_repeat_ref (T := "list") (U := "int") (by decide) ⟨_, e, rfl⟩ (fun s' => typeIs_int s' k t) noFill_list_mul PySem.F.fills_int_mul PySem.F.slot_int_rmul repeat_list PySem.F.slot_int_index.lookup
    (call_meets PySem.F.slot_int_rmul (typeIs_int s k t) PySem.F.entry_int_rmul (PySem.F.args_int_rmul_2 _ _) (int___rmul___int_list k t l its.toArray n)
      ⟨e, rfl, ⟨_, e, rfl⟩, call_meets PySem.F.slot_list_mul ⟨_, e, rfl⟩ PySem.F.entry_list_mul (PySem.F.args_list_mul_2 _ _) (AutoListH.list___mul___list_int_3 l its.toArray n k t hfit hcap hlong) ⟨e, ?_⟩⟩)
  rw [hnew]
  exact ⟨.ref _, _, I.lnew (t' := s.toks) (r.rep k.toNat) (by rw [PyProof.Rows.lm_len_rep_flat, Nat.mul_comm]; exact hz), rfl, q _ I.fresh⟩
theorem go_add (hK : X.K = R.K) {pins : List (Addr × Obj)} {s : Shared} {τ : L2.St} {S : Sto} {H : Hp} {w w2 : W} {x y : V} {v u : Value} {Qw : KE} {Q : VK} (I : L2.Inv X pins τ H s) (rx : RelV x v) (ry : RelV y u) (hw : RV R H w x) (hu : RV R H w2 y) (hS : Sim R S H) (k : KV' R S H Qw Q)
    (h : match rowL S w, rowL S w2 with
      | some xs, some ys => xs.length + ys.length ≤ LIM ∧ newL (xs ++ ys) S Qw
      | _, _ => False) : wpAny (model X.prog X.w) X.A (binaryOp .Add v u) (EP X pins τ Q) X.xe s := by
  cases e1 : rowL S w with
  | none => rw [e1] at h; exact h.elim
  | some xs => cases e2 : rowL S w2 with
    | none => rw [e1, e2] at h; exact h.elim
    | some ys =>
      rw [e1, e2] at h
      obtain ⟨h1, h2⟩ := h
      obtain ⟨p, vs, rfl, r1, o1⟩ := rowL_obj hK I hS e1 hw
      obtain ⟨p2, vs2, rfl, r2, o2⟩ := rowL_obj hK I hS e2 hu
      cases rx; cases ry
      exact ep_cl (run_cat I o1 o2 (by rw [r1.length, r2.length, ← lim_eq]; exact h1) fun p hp => new_lst hS k h2 hp (r1.append r2))
theorem go_mul (hK : X.K = R.K) {pins : List (Addr × Obj)} {s : Shared} {τ : L2.St} {S : Sto} {H : Hp} {w : W} {j : Int} {x : V} {v u : Value} {Qw : KE} {Q : VK} (I : L2.Inv X pins τ H s) (rx : RelV x v) (ry : RelV (.int j) u) (hw : RV R H w x) (hS : Sim R S H) (k : KV' R S H Qw Q)
    (h : match rowL S w with
      | some xs => (0 ≤ j ∧ j < 1000000 ∧ xs.length * j.toNat ≤ LIM) ∧ newL (List.replicate j.toNat xs).flatten S Qw
      | none => False) : wpAny (model X.prog X.w) X.A (binaryOp .Mult v u) (EP X pins τ Q) X.xe s := by
  cases e1 : rowL S w with
  | none => rw [e1] at h; exact h.elim
  | some xs =>
    rw [e1] at h
    obtain ⟨⟨h1, h2, h3⟩, h4⟩ := h
    obtain ⟨p, vs, rfl, r1, o1⟩ := rowL_obj hK I hS e1 hw
    cases rx
    obtain ⟨t, rfl⟩ := ry
    exact ep_cl (run_rep I o1 (by omega) (by omega) (by rw [r1.length, ← lim_eq]; exact h3) fun p hp => new_lst hS k h4 hp (r1.rep _))
theorem ok_add (hK : X.K = R.K) : OpR X (binaryOp .Add) (LO R (opW .add)) := by
  intro pins s σ H x y v u Q I rx ry h
  obtain ⟨w, w2, S, Qw, hw, hu, hS, h, k⟩ := h
  cases w with
  | int i => cases w2 with
    | int j =>
      cases hw; cases hu
      exact op_add pins s σ H _ _ v u Q I rx ry ⟨i, j, rfl, rfl, k _ S _ H h rfl hS (Fr.refl _ _)⟩
    | _ => exact (show False from h).elim
  | str i => cases w2 with
    | str j =>
      cases hw; cases hu
      obtain ⟨h1, h2⟩ := (show i.length + j.length ≤ LIM ∧ Qw (.str (i ++ j)) S from h)
      exact op_add_str pins s σ H _ _ v u Q I rx ry ⟨S' i, S' j, rfl, rfl, by rw [S_len, S_len, ← lim_eq]; exact h1, k _ S _ H h2 (by rw [S_app]; rfl) hS (Fr.refl _ _)⟩
    | _ => exact (show False from h).elim
  | tup i => cases w2 with
    | tup j =>
      obtain ⟨p, vs, rfl, hp, hv⟩ := hw
      obtain ⟨p2, vs2, rfl, hp2, hv2⟩ := hu
      obtain ⟨h1, h2⟩ := (show i.length + j.length ≤ LIM ∧ Qw (.tup (i ++ j)) S from h)
      refine op_catA pins s σ H _ _ v u Q I rx ry ⟨p, p2, vs, vs2, rfl, rfl, by rw [hK]; exact hp, by rw [hK]; exact hp2, by rw [hv.length, hv2.length, ← lim_eq]; exact h1, fun e => ?_, fun _ e => ?_, fun _ _ q hq => ?_⟩
      · have e2 : i = [] := List.eq_nil_of_length_eq_zero (by rw [← hv.length, e]; rfl)
        subst e2
        exact k _ S _ H h2 ⟨p2, vs2, rfl, hp2, hv2⟩ hS (Fr.refl _ _)
      · have e2 : j = [] := List.eq_nil_of_length_eq_zero (by rw [← hv2.length, e]; rfl)
        subst e2
        rw [List.append_nil] at h2
        exact k _ S _ H h2 ⟨p, vs, rfl, hp, hv⟩ hS (Fr.refl _ _)
      · exact new_tup hS k h2 hq (hv.append hv2)
    | _ => exact (show False from h).elim
  | rl us => exact go_add hK I rx ry hw hu hS k h
  | ref a => exact go_add hK I rx ry hw hu hS k h
  | _ => exact (show False from h).elim
theorem ok_sub : OpR X (binaryOp .Sub) (LO R (opW .sub)) := by
  intro pins s σ H x y v u Q I rx ry h
  obtain ⟨w, w2, S, Qw, hw, hu, hS, h, k⟩ := h
  cases w with
  | int i => cases w2 with
    | int j =>
      cases hw; cases hu
      exact op_sub pins s σ H _ _ v u Q I rx ry ⟨i, j, rfl, rfl, k _ S _ H h rfl hS (Fr.refl _ _)⟩
    | _ => exact (show False from h).elim
  | _ => exact (show False from h).elim
theorem ok_mul (hK : X.K = R.K) : OpR X (binaryOp .Mult) (LO R (opW .mul)) := by
  intro pins s σ H x y v u Q I rx ry h
  obtain ⟨w, w2, S, Qw, hw, hu, hS, h, k⟩ := h
  cases w2 with
  | int j =>
    cases w with
    | int i =>
      cases hw; cases hu
      obtain ⟨h1, h2⟩ := (show i.natAbs.log2 + j.natAbs.log2 < 1000000 ∧ Qw (.int (i * j)) S from h)
      exact op_mulW pins s σ H _ _ v u Q I rx ry ⟨i, j, rfl, rfl, h1, k _ S _ H h2 rfl hS (Fr.refl _ _)⟩
    | rl us => cases hu; exact go_mul hK I rx ry hw hS k h
    | ref a => cases hu; exact go_mul hK I rx ry hw hS k h
    | _ => exact (show False from h).elim
  | _ => exfalso; cases w <;> exact h
theorem ok_fdiv : OpR X (binaryOp .FloorDiv) (LO R (opW .fdiv)) := by
  intro pins s σ H x y v u Q I rx ry h
  obtain ⟨w, w2, S, Qw, hw, hu, hS, h, k⟩ := h
  cases w with
  | int i => cases w2 with
    | int j =>
      cases hw; cases hu
      obtain ⟨h1, h2⟩ := (show (0 < j ∧ j.natAbs.log2 < 9000) ∧ Qw (.int (i / j)) S from h)
      exact op_fdivW pins s σ H _ _ v u Q I rx ry ⟨i, j, rfl, rfl, h1, k _ S _ H h2 rfl hS (Fr.refl _ _)⟩
    | _ => exact (show False from h).elim
  | _ => exact (show False from h).elim
theorem ok_mod : OpR X (binaryOp .Mod) (LO R (opW .mod)) := by
  intro pins s σ H x y v u Q I rx ry h
  obtain ⟨w, w2, S, Qw, hw, hu, hS, h, k⟩ := h
  cases w with
  | int i => cases w2 with
    | int j =>
      cases hw; cases hu
      obtain ⟨h1, h2⟩ := (show 0 < j ∧ Qw (.int (i % j)) S from h)
      exact op_mod pins s σ H _ _ v u Q I rx ry ⟨i, j, rfl, rfl, h1, k _ S _ H h2 rfl hS (Fr.refl _ _)⟩
    | _ => exact (show False from h).elim
  | _ => exact (show False from h).elim
theorem ok_pow : OpR X (binaryOp .Pow) (LO R (opW .pow)) := by
  intro pins s σ H x y v u Q I rx ry h
  obtain ⟨w, w2, S, Qw, hw, hu, hS, h, k⟩ := h
  cases w with
  | int i => cases w2 with
    | int j =>
      cases hw; cases hu
      obtain ⟨t, rfl⟩ := rx
      obtain ⟨t2, rfl⟩ := ry
      obtain ⟨⟨h1, h3⟩, h2⟩ := (show (0 ≤ j ∧ (Builtin.Int.intBits i : Int) * j ≤ 134217728) ∧ Qw (.int (i ^ j.toNat)) S from h)
      have e27 : (2 : Int) ^ 27 = 134217728 := by decide
      exact PyProof.Rows.pow_int h1 (a := i) (by rw [e27]; exact h3) ⟨.int (i ^ j.toNat), H, I.tok _, ⟨_, rfl⟩, k _ S _ H h2 rfl hS (Fr.refl _ _)⟩
    | _ => exact (show False from h).elim
  | _ => exact (show False from h).elim
def opOf : Operator → Option Op
  | .Add => some .add | .Sub => some .sub | .Mult => some .mul | .FloorDiv => some .fdiv | .Mod => some .mod | .Pow => some .pow
  | _ => none
theorem ok_op (hK : X.K = R.K) {o : Operator} {p : Op} (e : opOf o = some p) : OpR X (binaryOp o) (LO R (opW p)) := by
  cases o <;> first | (cases e; done) | skip
  all_goals cases e
  · exact ok_add hK
  · exact ok_sub
  · exact ok_mul hK
  · exact ok_mod
  · exact ok_pow
  · exact ok_fdiv

/-! ### data -/
theorem mapO_cons {α β : Type} {f : α → Option β} {x : α} {r : List α} {z : List β} (h : mapO f (x :: r) = some z) : ∃ y ys, f x = some y ∧ mapO f r = some ys ∧ z = y :: ys := by
  have h' : (match f x, mapO f r with
    | some y, some ys => some (y :: ys)
    | _, _ => none) = some z := h
  cases e1 : f x with
  | none => rw [e1] at h'; cases h'
  | some y => cases e2 : mapO f r with
    | none => rw [e1, e2] at h'; cases h'
    | some ys =>
      rw [e1, e2] at h'
      cases h'
      exact ⟨y, ys, rfl, rfl, rfl⟩
theorem dp_all {R : RC} {S : Sto} {H : Hp} {n : Nat} (ih : ∀ w v d, dat n S w = some d → d.hasDict = false → RV R H w v → Dp R.K H v d) : ∀ (ws : List W) (vs : List V) (ds : List PyData), mapO (dat n S) ws = some ds → PyData.hasDictAll ds = false → RVs R H ws vs → DpAll R.K H vs ds
  | [], vs, ds, h, _, r => by
    cases h; cases r
    exact .nil
  | w :: ws, vs, ds, h, nd, r => by
    obtain ⟨d, es, h1, h2, rfl⟩ := mapO_cons h
    obtain ⟨v, vr, rfl, r1, r2⟩ := r
    have nd' : (d.hasDict || PyData.hasDictAll es) = false := by simpa [PyData.hasDictAll] using nd
    rw [Bool.or_eq_false_iff] at nd'
    exact .cons (ih w v d h1 nd'.1 r1) (dp_all ih ws vr es h2 nd'.2 r2)
theorem dp_of {R : RC} {S : Sto} {H : Hp} (hS : Sim R S H) : ∀ (n : Nat) (w : W) (v : V) (d : PyData), dat n S w = some d → d.hasDict = false → RV R H w v → Dp R.K H v d
  | 0, _, _, _, h, _, _ => by cases h
  | n + 1, w, v, d, h, nd, r => by
    cases w with
    | non => cases h; cases r; exact .non
    | bl b => cases h; cases r; exact .bl b
    | int i => cases h; cases r; exact .int i
    | str l => cases h; cases r; exact .str _
    | tup ws =>
      obtain ⟨p, vs, rfl, hp, hv⟩ := r
      obtain ⟨ds, h1, rfl⟩ := Option.map_eq_some_iff.mp (show (mapO (dat n S) ws).map PyData.tuple = some d from h)
      exact .tup hp (dp_all (dp_of hS n) ws vs ds h1 (by simpa [PyData.hasDict] using nd) hv)
    | rl ws =>
      obtain ⟨p, vs, rfl, hp, hv⟩ := r
      obtain ⟨ds, h1, rfl⟩ := Option.map_eq_some_iff.mp (show (mapO (dat n S) ws).map PyData.list = some d from h)
      exact .lst hp.l (dp_all (dp_of hS n) ws vs ds h1 (by simpa [PyData.hasDict] using nd) hv)
    | rd ks ws =>
      obtain ⟨ds, h1, rfl⟩ := Option.map_eq_some_iff.mp (show (mapO (fun q : KW × W => match dat n S (kW q.1), dat n S q.2 with
          | some a, some b => some (a, b)
          | _, _ => none) (ks.zip ws)).map PyData.dict = some d from h)
      simp [PyData.hasDict] at nd
    | ref a =>
      cases r
      have h' : (match S a with
        | some (.lst ws) => (mapO (dat n S) ws).map PyData.list
        | some (.dct kvs) => (mapO (fun q : KW × W => match dat n S (kW q.1), dat n S q.2 with
          | some a, some b => some (a, b)
          | _, _ => none) kvs).map PyData.dict
        | _ => none) = some d := h
      cases ea : S a with
      | none => rw [ea] at h'; cases h'
      | some oa => cases oa with
        | lst ws =>
          rw [ea] at h'
          obtain ⟨ds, h1, rfl⟩ := Option.map_eq_some_iff.mp h'
          obtain ⟨vs, q1, r1⟩ := hS a _ ea
          exact .lst (SqL.of q1) (dp_all (dp_of hS n) ws vs ds h1 (by simpa [PyData.hasDict] using nd) r1)
        | dct kvs =>
          rw [ea] at h'
          obtain ⟨ds, h1, rfl⟩ := Option.map_eq_some_iff.mp h'
          simp [PyData.hasDict] at nd
        | _ => rw [ea] at h'; cases h'
    | _ => cases h
theorem nodict_shaped {d : PyData} (h : SeqAt.shaped d = true) : d.hasDict = false := PyData.hasDict_of_canLay d (SeqAt.canLay_of_shaped h)
end
end MP
/-! MP4: comparisons, subscripts, slices. -/
namespace MP
open PySem L2
section
variable {R : RC} {G : Gm} {X : Cx}
theorem DGfk {H : Hp} {a : Addr} {o : Obj} {kvs : List (Key × V)} {k : Key} (e : H a = some (.frz o (.dK kvs))) : DGet H a (kV k) (valV kvs k) := .inl ⟨kvs, k, .inr ⟨o, e⟩, rfl, rfl⟩
theorem scq_scal {a b : W} {r : Bool} (h : scq a b = some r) {H : Hp} {x y : V} (hx : RV R H a x) (hy : RV R H b y) : scal x y = true ∧ decide (x = y) = r := by
  cases a <;> cases b <;> first | (cases h; done) | skip
  all_goals
    cases hx; cases hy; cases h
    first
      | (refine ⟨rfl, ?_⟩; first | rfl | (rw [Bool.eq_iff_iff]; simp; done) | (apply decide_eq_decide.mpr; constructor; (intro z; first | exact V.int.inj z | exact V.bl.inj z | exact S_inj (V.str.inj z)); (intro z; rw [z])))
theorem ok_ord {o : CmpOp} {p : Int → Int → Bool} {t : W → W → Sto → (Bool → Prop) → Prop} (ho : OpR X (compareOp o) (rI0 fun i j => .bl (p i j))) (ht : ∀ x y S Q, t x y S Q → ∃ i j, x = .int i ∧ y = .int j ∧ Q (p i j)) : OpR X (compareOp o) (LB R t) := by
  intro pins s σ H x y v u Q I rx ry h
  obtain ⟨w, w2, S, Qw, hw, hu, hS, h, k⟩ := h
  obtain ⟨i, j, rfl, rfl, q⟩ := ht _ _ _ _ h
  cases hw; cases hu
  exact ho pins s σ H _ _ v u Q I rx ry ⟨i, j, rfl, rfl, k _ q⟩
theorem ok_is {o : CmpOp} {g : Bool → Bool} (h0 : OpR X (compareOp o) (fun x y H Q => y = .non ∧ Q (.bl (g (decide (x = .non)))) H)) (h1 : OpR X (compareOp o) (fun x y H Q => ∃ a b, x = .bl a ∧ y = .bl b ∧ Q (.bl (g (decide (a = b)))) H)) :
    OpR X (compareOp o) (LB R (fun x y S Q => isW x y fun b => Q (g b))) := by
  intro pins s σ H x y v u Q I rx ry h
  obtain ⟨w, w2, S, Qw, hw, hu, hS, h, k⟩ := h
  cases w2 with
  | non =>
    cases hu
    refine h0 pins s σ H _ _ v u Q I rx ry ⟨rfl, ?_⟩
    have e : decide (x = V.non) = isNon w := by
      cases w <;> first
        | (cases hw; rfl)
        | (obtain ⟨p, vs, rfl, _⟩ := hw; rfl)
        | (obtain ⟨p, o, kvr, rfl, _⟩ := hw; rfl)
    rw [e]
    exact k _ h
  | bl b =>
    cases w with
    | bl c =>
      cases hu; cases hw
      exact h1 pins s σ H _ _ v u Q I rx ry ⟨c, b, rfl, rfl, k _ h⟩
    | _ => exact (show False from h).elim
  | _ => exact (show False from h).elim
theorem fl_of {w : W} {H : Hp} {v : V} (h : flW w = true) (r : RV R H w v) : flatV v = true := by
  cases w <;> first | (cases h; done) | (cases r; rfl)
theorem fl_all {H : Hp} : ∀ {ws : List W} {vs : List V}, ws.all flW = true → RVs R H ws vs → vs.all flatV = true
  | [], _, _, r => by cases r; rfl
  | w :: ws, _, h, r => by
    obtain ⟨v, vr, rfl, r1, r2⟩ := r
    rw [List.all_cons, Bool.and_eq_true] at h ⊢
    exact ⟨fl_of h.1 r1, fl_all h.2 r2⟩
theorem feq_of {w x : W} {H : Hp} {v y : V} (h : flW w = true) (hx : flW x = true) (r : RV R H w v) (rx : RV R H x y) : eqV v y = feq w x := by
  cases w <;> first | (cases h; done) | skip
  all_goals (cases x <;> first | (cases hx; done) | skip)
  all_goals
    cases r; cases rx
    first
      | rfl
      | (simp only [eqV, feq]; done)
      | (simp only [eqV, feq]; rw [Bool.eq_iff_iff]; simp; done)
      | (simp only [eqV, feq]; rw [Bool.eq_iff_iff]; simp; constructor; (intro z; exact S_inj z); (intro z; rw [z]))
theorem any_feq {x : W} {H : Hp} {y : V} (hx : flW x = true) (rx : RV R H x y) : ∀ {ws : List W} {vs : List V}, ws.all flW = true → RVs R H ws vs → inV y vs = ws.any fun w => feq w x
  | [], _, _, r => by cases r; rfl
  | w :: ws, _, h, r => by
    obtain ⟨v, vr, rfl, r1, r2⟩ := r
    rw [List.all_cons, Bool.and_eq_true] at h
    have ih := any_feq hx rx h.2 r2
    unfold inV at ih ⊢
    rw [List.any_cons, List.any_cons, feq_of h.1 hx r1 rx, ih]

/-! ### dicts -/
theorem kR_inj {a b : KW} (h : kR a = kR b) : a = b := by
  cases a <;> cases b <;> first
    | (cases h; done)
    | (cases h; rfl)
    | (injection h with h; rw [S_inj h])
theorem key_V {x : W} {k : KW} (h : keyW x = some k) {H : Hp} {y : V} (r : RV R H x y) : y = kV (kR k) := by
  cases x <;> first | (cases h; done) | (cases h; cases r; rfl)
theorem lk_val {H : Hp} : ∀ {kvs : List (KW × W)} {kvr : List (Key × V)}, kvr.map (·.1) = kvs.map (fun q => kR q.1) → RVs R H (kvs.map (·.2)) (kvr.map (·.2)) → ∀ k : KW,
    (∀ w, lkW kvs k = some w → ∃ v, valV kvr (kR k) = some v ∧ RV R H w v) ∧ (lkW kvs k = none → valV kvr (kR k) = none)
  | [], kvr, e, _, k => by
    have e2 : kvr = [] := by simpa using e
    subst e2
    exact ⟨fun w h => (by cases h), fun _ => rfl⟩
  | (a, w) :: kvs, [], e, _, k => by simp at e
  | (a, w) :: kvs, (b, v) :: kvr, e, r, k => by
    simp only [List.map_cons, List.cons.injEq] at e
    obtain ⟨e1, e2⟩ := e
    obtain ⟨v', vr, ev, r1, r2⟩ := r
    simp only [List.map_cons, List.cons.injEq] at ev
    obtain ⟨e0, e4⟩ := ev
    subst e0
    rw [← e4] at r2
    obtain ⟨i1, i2⟩ := lk_val e2 r2 k
    by_cases h : a = k
    · subst h
      have e3 : valV ((b, v) :: kvr) (kR a) = some v := valV_pos (by exact e1)
      refine ⟨fun u hu => ⟨v, e3, ?_⟩, fun hn => ?_⟩
      · simp only [lkW, if_true] at hu
        cases hu
        exact r1
      · simp [lkW] at hn
    · have e3 : valV ((b, v) :: kvr) (kR k) = valV kvr (kR k) := valV_neg (fun z => h (kR_inj (e1.symm.trans z)))
      rw [e3]
      simp only [lkW, if_neg h]
      exact ⟨i1, i2⟩
theorem lk_mem' : ∀ {kvs : List (KW × W)} {k : KW} {w : W}, lkW kvs k = some w → w ∈ kvs.map (·.2)
  | [], k, w, h => by cases h
  | (a, b) :: r, k, w, h => by
    unfold lkW at h
    by_cases e : a = k
    · rw [if_pos e] at h; cases h; simp
    · rw [if_neg e] at h
      exact List.mem_cons_of_mem _ (lk_mem' h)

/-! ### dicts compared -/
def dW : W → PyData
  | .bl b => .bool b
  | .int i => .int i
  | .str l => .str (S' l)
  | _ => .none
theorem flat_dW {w : W} {H : Hp} {v : V} {u : Value} (h : flW w = true) (r : RV R H w v) (ru : RelV v u) : PyProof.V.Flat u (dW w) := by
  cases w with
  | non => cases r; cases ru; exact fun _ => .none
  | bl b => cases r; cases ru; exact fun _ => .bool b
  | int i => cases r; obtain ⟨t, rfl⟩ := ru; exact fun _ => .int i t
  | str l => cases r; obtain ⟨t, rfl⟩ := ru; exact fun _ => .str _ t
  | _ => cases h
theorem eqv_dW {w x : W} (h : flW w = true) (hx : flW x = true) : PyData.eqv (dW w) (dW x) = feq w x := by
  cases w <;> first | (cases h; done) | skip
  all_goals
    cases x <;> first | (cases hx; done) | skip
  all_goals
    first
      | rfl
      | (simp only [dW, PyData.eqv, feq]; done)
      | (simp only [dW, PyData.eqv, feq]; rw [Bool.eq_iff_iff]; simp; done)
      | (simp only [dW, PyData.eqv, feq]; rw [Bool.eq_iff_iff]; simp; constructor; (intro z; exact S_inj z); (intro z; rw [z]))
theorem hits_of {A : Around} {s : Shared} {H : Hp} {ky : List (KW × W)} {lvr : List (Key × V)} {vb : List (Key × Value)} (e1 : lvr.map (·.1) = ky.map (fun q => kR q.1)) (e2 : RVs R H (ky.map (·.2)) (lvr.map (·.2))) (e3 : KV lvr vb) (fy : (ky.map (·.2)).all flW = true) :
    ∀ {kx : List (KW × W)} {kvr : List (Key × V)} {va : List (Key × Value)}, kvr.map (·.1) = kx.map (fun q => kR q.1) → RVs R H (kx.map (·.2)) (kvr.map (·.2)) → KV kvr va → (kx.map (·.2)).all flW = true → PySem.W.KeqHits A s vb va (deqB ky kx)
  | [], kvr, va, a1, a2, a3, _ => by
    have : kvr = [] := by simpa using a1
    subst this
    cases a3
    exact .nil
  | (k, w) :: kx, [], va, a1, a2, a3, _ => by simp at a1
  | (k, w) :: kx, (k', v) :: kvr, va, a1, a2, a3, fx => by
    obtain ⟨z1, a1q⟩ := List.cons.inj (show k' :: kvr.map (·.1) = kR k :: kx.map (fun q => kR q.1) from a1)
    subst z1
    obtain ⟨v', vr, z2, rv, a2q⟩ := a2
    obtain ⟨rfl, rfl⟩ := List.cons.inj (show v :: kvr.map (·.2) = v' :: vr from z2)
    rw [List.map_cons, List.all_cons, Bool.and_eq_true] at fx
    cases a3 with
    | cons hd tl =>
      rename_i q va
      obtain ⟨qk, u⟩ := q
      obtain ⟨hk, ru⟩ := hd
      have hk' : kR k = qk := hk
      subst hk'
      have ih := hits_of (A := A) (s := s) e1 e2 e3 fy (kx := kx) (kvr := kvr) (va := va) a1q a2q tl fx.2
      have rel := KV.val e3 (kR k)
      show PySem.W.KeqHits A s vb ((kR k, u) :: va) (match lkW ky k with
        | some u => feq w u && deqB ky kx
        | none => false)
      cases el : lkW ky k with
      | none =>
        have z := (lk_val e1 e2 k).2 el
        rw [z] at rel
        cases ev : valueAt vb (kR k) with
        | none => exact .miss ev
        | some _ => rw [ev] at rel; exact rel.elim
      | some w2 =>
        obtain ⟨v2, z, r2⟩ := (lk_val e1 e2 k).1 w2 el
        rw [z] at rel
        cases ev : valueAt vb (kR k) with
        | none => rw [ev] at rel; exact rel.elim
        | some u2 =>
          rw [ev] at rel
          have fw2 : flW w2 = true := by
            have := lk_mem' el
            exact List.all_eq_true.mp fy w2 this
          have q := PySem.W.keq_flat (A := A) (s := s) (flat_dW fx.1 rv ru) (flat_dW fw2 r2 rel)
          rw [eqv_dW fx.1 fw2] at q
          exact .hit ev q ih
theorem zip_snd {H : Hp} {ks : List KW} {ws : List W} {kvr : List (Key × V)} (e1 : kvr.map (·.1) = ks.map kR) (e2 : RVs R H ws (kvr.map (·.2))) : (ks.zip ws).map (·.2) = ws := by
  have l1 : kvr.length = ks.length := by have := congrArg List.length e1; simpa using this
  have l2 := e2.length
  exact List.map_snd_zip (by rw [← l1]; simpa using Nat.le_of_eq l2.symm)
theorem zip_rel {H : Hp} {ks : List KW} {ws : List W} {kvr : List (Key × V)} (e1 : kvr.map (·.1) = ks.map kR) (e2 : RVs R H ws (kvr.map (·.2))) : kvr.map (·.1) = (ks.zip ws).map (fun q => kR q.1) ∧ RVs R H ((ks.zip ws).map (·.2)) (kvr.map (·.2)) := by
  have l1 : kvr.length = ks.length := by have := congrArg List.length e1; simpa using this
  have l2 := e2.length
  refine ⟨?_, by rw [zip_snd e1 e2]; exact e2⟩
  have : (ks.zip ws).map (fun q => kR q.1) = ((ks.zip ws).map (·.1)).map kR := by rw [List.map_map]; rfl
  rw [e1, this, List.map_fst_zip (by rw [← l1]; simpa using Nat.le_of_eq l2)]
theorem ok_eq (E : E1 R G X) : OpR X (compareOp .Eq) (LB R (fun x y S Q => eqW S x y Q)) := by
  intro pins s σ H x y v u Q I rx ry h
  obtain ⟨w, w2, S, Qw, hw, hu, hS, h, k⟩ := h
  unfold eqW at h
  cases e : scq w w2 with
  | some b =>
    rw [e] at h
    obtain ⟨h1, h2⟩ := scq_scal e hw hu
    exact op_eq pins s σ H x y v u Q I rx ry ⟨h1, by rw [h2]; exact k _ h⟩
  | none =>
    rw [e] at h
    have data : (∃ d e, dat DEEP S w = some d ∧ dat DEEP S w2 = some e ∧ SeqAt.shaped d = true ∧ SeqAt.shaped e = true ∧ Qw (PyData.eqv d e)) → wpAny (model X.prog X.w) X.A (compareOp .Eq v u) (EP X pins σ Q) X.xe s := fun h => by
      obtain ⟨d, e, e1, e2, s1, s2, q⟩ := h
      exact op_eqD (by have := E.un; omega) pins s σ H x y v u Q I rx ry ⟨d, e, by rw [E.K]; exact dp_of hS _ _ _ _ e1 (nodict_shaped s1) hw, by rw [E.K]; exact dp_of hS _ _ _ _ e2 (nodict_shaped s2) hu, s1, s2, k _ q⟩
    have dict : ∀ ks ws ls us, w = .rd ks ws → w2 = .rd ls us → (ws.all flW = true ∧ us.all flW = true) ∧ Qw (((ks.zip ws).length == (ls.zip us).length && deqB (ls.zip us) (ks.zip ws))) → wpAny (model X.prog X.w) X.A (compareOp .Eq v u) (EP X pins σ Q) X.xe s := fun ks ws ls us ew ew2 h => by
      subst ew ew2
      obtain ⟨⟨f1, f2⟩, q⟩ := h
      obtain ⟨a, o, kvr, rfl, ea, a1, a2⟩ := hw
      obtain ⟨b, o2, lvr, rfl, eb, b1, b2⟩ := hu
      obtain rfl : v = Value.ref a := rx
      obtain rfl : u = Value.ref b := ry
      obtain ⟨za, sa, va, ra, da⟩ := dk_rd I.hok (.inr ⟨o, ea⟩)
      obtain ⟨zb, sb, vb, rb, db⟩ := dk_rd I.hok (.inr ⟨o2, eb⟩)
      obtain ⟨c1, c2⟩ := zip_rel a1 a2
      obtain ⟨d1, d2⟩ := zip_rel b1 b2
      have l1 : (ks.zip ws).length = va.length := by have := congrArg List.length c1; have z := KV.length ra; simp only [List.length_map] at this; omega
      have l2 : (ls.zip us).length = vb.length := by have := congrArg List.length d1; have z := KV.length rb; simp only [List.length_map] at this; omega
      have m1 : (ks.zip ws).map (·.2) = ws := zip_snd a1 a2
      have m2 : (ls.zip us).map (·.2) = us := zip_snd b1 b2
      refine PySem.W.keq_eq sa sb da db (by have := E.un; omega) (fun _ => hits_of d1 d2 rb (by rw [m2]; exact f2) c1 c2 ra (by rw [m1]; exact f1)) ?_
      rw [← l1, ← l2]
      exact ⟨.bl _, H, I, rfl, k _ q⟩
    cases w <;> first
      | exact data h
      | (cases w2 <;> first
          | exact data h
          | exact dict _ _ _ _ rfl rfl h)
theorem ok_ne (E : E1 R G X) : OpR X (compareOp .NotEq) (LB R (fun x y S Q => eqW S x y fun b => Q (!b))) := by
  intro pins s σ H x y v u Q I rx ry h
  obtain ⟨w, w2, S, Qw, hw, hu, hS, h, k⟩ := h
  unfold eqW at h
  cases e : scq w w2 with
  | some b =>
    rw [e] at h
    obtain ⟨h1, h2⟩ := scq_scal e hw hu
    exact op_ne pins s σ H x y v u Q I rx ry ⟨h1, by rw [h2]; exact k _ h⟩
  | none =>
    rw [e] at h
    have data : (∃ d e, dat DEEP S w = some d ∧ dat DEEP S w2 = some e ∧ SeqAt.shaped d = true ∧ SeqAt.shaped e = true ∧ Qw (!PyData.eqv d e)) → wpAny (model X.prog X.w) X.A (compareOp .NotEq v u) (EP X pins σ Q) X.xe s := fun h => by
      obtain ⟨d, e, e1, e2, s1, s2, q⟩ := h
      exact op_neD (by have := E.un; omega) pins s σ H x y v u Q I rx ry ⟨d, e, by rw [E.K]; exact dp_of hS _ _ _ _ e1 (nodict_shaped s1) hw, by rw [E.K]; exact dp_of hS _ _ _ _ e2 (nodict_shaped s2) hu, s1, s2, k _ q⟩
    have dict : ∀ ks ws ls us, w = .rd ks ws → w2 = .rd ls us → (ws.all flW = true ∧ us.all flW = true) ∧ Qw (!((ks.zip ws).length == (ls.zip us).length && deqB (ls.zip us) (ks.zip ws))) → wpAny (model X.prog X.w) X.A (compareOp .NotEq v u) (EP X pins σ Q) X.xe s := fun ks ws ls us ew ew2 h => by
      subst ew ew2
      obtain ⟨⟨f1, f2⟩, q⟩ := h
      obtain ⟨a, o, kvr, rfl, ea, a1, a2⟩ := hw
      obtain ⟨b, o2, lvr, rfl, eb, b1, b2⟩ := hu
      obtain rfl : v = Value.ref a := rx
      obtain rfl : u = Value.ref b := ry
      obtain ⟨za, sa, va, ra, da⟩ := dk_rd I.hok (.inr ⟨o, ea⟩)
      obtain ⟨zb, sb, vb, rb, db⟩ := dk_rd I.hok (.inr ⟨o2, eb⟩)
      obtain ⟨c1, c2⟩ := zip_rel a1 a2
      obtain ⟨d1, d2⟩ := zip_rel b1 b2
      have l1 : (ks.zip ws).length = va.length := by have := congrArg List.length c1; have z := KV.length ra; simp only [List.length_map] at this; omega
      have l2 : (ls.zip us).length = vb.length := by have := congrArg List.length d1; have z := KV.length rb; simp only [List.length_map] at this; omega
      have m1 : (ks.zip ws).map (·.2) = ws := zip_snd a1 a2
      have m2 : (ls.zip us).map (·.2) = us := zip_snd b1 b2
      refine PySem.W.keq_ne sa sb da db (by have := E.un; omega) (fun _ => hits_of d1 d2 rb (by rw [m2]; exact f2) c1 c2 ra (by rw [m1]; exact f1)) ?_
      rw [← l1, ← l2]
      exact ⟨.bl _, H, I, rfl, k _ q⟩
    cases w <;> first
      | exact data h
      | (cases w2 <;> first
          | exact data h
          | exact dict _ _ _ _ rfl rfl h)

theorem lk_some {H : Hp} {kvs : List (KW × W)} {kvr : List (Key × V)} (e : kvr.map (·.1) = kvs.map (fun q => kR q.1)) (r : RVs R H (kvs.map (·.2)) (kvr.map (·.2))) (k : KW) : (valV kvr (kR k)).isSome = (lkW kvs k).isSome := by
  obtain ⟨h1, h2⟩ := lk_val e r k
  cases q : lkW kvs k with
  | none => rw [h2 q]; rfl
  | some w =>
    obtain ⟨v, hv, _⟩ := h1 w q
    rw [hv]
    rfl
theorem any_rel {k : KW} : ∀ {kvs : List (KW × W)} {kvr : List (Key × V)}, kvr.map (·.1) = kvs.map (fun q => kR q.1) → (kvr.any fun q => decide (q.1 = kR k)) = kvs.any fun q => decide (q.1 = k)
  | [], kvr, e => by
    have e2 : kvr = [] := by simpa using e
    subst e2
    rfl
  | (a, w) :: kvs, [], e => by simp at e
  | (a, w) :: kvs, (b, v) :: kvr, e => by
    simp only [List.map_cons, List.cons.injEq] at e
    obtain ⟨e1, e2⟩ := e
    rw [List.any_cons, List.any_cons, any_rel e2]
    have : decide (b = kR k) = decide (a = k) := decide_eq_decide.mpr ⟨fun z => kR_inj (e1.symm.trans z), fun z => by rw [← z]; exact e1⟩
    rw [this]
theorem repl_rel {H : Hp} {w : W} {v : V} (rw_ : RV R H w v) (k : KW) : ∀ {kvs : List (KW × W)} {kvr : List (Key × V)}, kvr.map (·.1) = kvs.map (fun q => kR q.1) → RVs R H (kvs.map (·.2)) (kvr.map (·.2)) →
    (kvr.map fun q => if q.1 = kR k then (q.1, v) else q).map (·.1) = (kvs.map fun q => if q.1 = k then (q.1, w) else q).map (fun q => kR q.1) ∧ RVs R H ((kvs.map fun q => if q.1 = k then (q.1, w) else q).map (·.2)) ((kvr.map fun q => if q.1 = kR k then (q.1, v) else q).map (·.2))
  | [], kvr, e, _ => by
    have e2 : kvr = [] := by simpa using e
    subst e2
    exact ⟨rfl, rfl⟩
  | (a, x) :: kvs, [], e, _ => by simp at e
  | (a, x) :: kvs, (b, y) :: kvr, e, r => by
    simp only [List.map_cons, List.cons.injEq] at e
    obtain ⟨e1, e2⟩ := e
    obtain ⟨v', vr, ev, r1, r2⟩ := r
    simp only [List.map_cons, List.cons.injEq] at ev
    obtain ⟨e0, e4⟩ := ev
    subst e0
    rw [← e4] at r2
    obtain ⟨i1, i2⟩ := repl_rel rw_ k e2 r2
    by_cases h : a = k
    · subst h
      simp only [List.map_cons, e1, if_true]
      exact ⟨by rw [i1], .cons rw_ i2⟩
    · have h2 : ¬ b = kR k := fun z => h (kR_inj (e1.symm.trans z))
      simp only [List.map_cons, if_neg h, if_neg h2]
      exact ⟨by rw [i1, e1], .cons r1 i2⟩
theorem put_rel {H : Hp} {w : W} {v : V} (rw_ : RV R H w v) (k : KW) {kvs : List (KW × W)} {kvr : List (Key × V)} (e : kvr.map (·.1) = kvs.map (fun q => kR q.1)) (r : RVs R H (kvs.map (·.2)) (kvr.map (·.2))) :
    (putK kvr (kR k) v).map (·.1) = (putW kvs k w).map (fun q => kR q.1) ∧ RVs R H ((putW kvs k w).map (·.2)) ((putK kvr (kR k) v).map (·.2)) := by
  unfold putK putW
  rw [any_rel e]
  by_cases h : (kvs.any fun q => decide (q.1 = k)) = true
  · rw [if_pos h, if_pos h]
    exact repl_rel rw_ k e r
  · rw [if_neg h, if_neg h]
    refine ⟨by rw [List.map_append, List.map_append, e]; rfl, ?_⟩
    rw [List.map_append, List.map_append]
    exact r.append (.one rw_)
theorem ok_in_row {neg : Bool} {o : CmpOp} {x : W} {ws : List W} {y : V} {p : Addr} {vs : List V} {pins : List (Addr × Obj)} {s : Shared} {σ : St} {H : Hp} {v u : Value} {Q : VK} {Qw : Bool → Prop} (ho : OpR X (compareOp o) (rIn X.K neg)) (I : L2.Inv X pins σ H s) (rx : RelV y v) (ry : RelV (.ref p) u)
    (hq : SqL X.K H p vs ∨ SqT X.K H p vs) (hv : RVs R H ws vs) (hx : RV R H x y) (f1 : flW x = true) (f2 : ws.all flW = true) (q : Qw (if neg then !(ws.any fun w => feq w x) else ws.any fun w => feq w x)) (k : ∀ b, Qw b → Q (.bl b) H) :
    wpAny (model X.prog X.w) X.A (compareOp o v u) (EP X pins σ Q) X.xe s :=
  ho pins s σ H _ _ v u Q I rx ry ⟨p, vs, rfl, hq, fl_of f1 hx, fl_all f2 hv, by rw [any_feq f1 hx f2 hv]; exact k _ q⟩
theorem ok_in (E : E1 R G X) (neg : Bool) : OpR X (compareOp (if neg then .NotIn else .In)) (LB R (fun x y S Q => inW G S x y fun b => Q (if neg then !b else b))) := by
  intro pins s σ H x y v u Q I rx ry h
  obtain ⟨w, w2, S, Qw, hw, hu, hS, h, k⟩ := h
  have un := E.un
  have seq : OpR X (compareOp (if neg then .NotIn else .In)) (rIn X.K neg) := by
    cases neg
    · exact op_in_seq
    · exact op_notIn_seq
  cases w2 with
  | str l =>
    cases hu
    cases w with
    | str a => cases a with
      | nil => exact (show False from h).elim
      | cons c r => cases r with
        | nil =>
          cases hw
          cases neg
          · exact op_in_sign pins s σ H _ _ v u Q I rx ry ⟨c, S' l, rfl, rfl, k _ h⟩
          · exact op_notIn_sign pins s σ H _ _ v u Q I rx ry ⟨c, S' l, rfl, rfl, k _ h⟩
        | cons _ _ => exact (show False from h).elim
    | _ => exact (show False from h).elim
  | kd d =>
    cases hu
    cases w with
    | str l =>
      cases hw
      obtain ⟨hd, h'⟩ := (show G.kd d ≠ [] ∧ Qw (if neg then !((lkW (G.kd d) (.inr l)).isSome) else (lkW (G.kd d) (.inr l)).isSome) from h)
      · obtain ⟨es, n, r, D, e, z⟩ := E.kd d l hd
        have e2 : r.isSome = (lkW (G.kd d) (.inr l)).isSome := by
          cases q : lkW (G.kd d) (.inr l) with
          | none => rw [q] at z; rw [z]; rfl
          | some w =>
            rw [q] at z
            obtain ⟨u1, _, rfl, _⟩ := z
            rfl
        rw [← e2] at h'
        cases neg
        · exact op_in_kd D pins s σ H _ _ v u Q I rx ry ⟨S' l, r, rfl, rfl, e, k _ h'⟩
        · exact op_notIn_kd D pins s σ H _ _ v u Q I rx ry ⟨S' l, r, rfl, rfl, e, k _ h'⟩
    | _ => exact (show False from h).elim
  | tup ws =>
    obtain ⟨p, vs, rfl, hp, hv⟩ := hu
    obtain ⟨f1, f2, q⟩ := (show flW w = true ∧ ws.all flW = true ∧ Qw (if neg then !(ws.any fun u => feq u w) else ws.any fun u => feq u w) from h)
    exact ok_in_row seq I rx ry (.inr (by rw [E.K]; exact hp)) hv hw f1 f2 q k
  | rl ws =>
    obtain ⟨p, vs, rfl, hp, hv⟩ := hu
    rcases h with ⟨f1, f2, q⟩ | ⟨d, ds, e1, e2, s1, s2, q⟩
    · exact ok_in_row seq I rx ry (.inl (by rw [E.K]; exact hp.l)) hv hw f1 f2 q k
    · have d1 := dp_of hS _ _ _ _ e1 (nodict_shaped s1) hw
      have d2 := dp_of hS _ (.rl ws) (.ref p) _ e2 (nodict_shaped s2) ⟨p, vs, rfl, hp, hv⟩
      rw [← E.K] at d1 d2
      cases neg
      · exact op_inD (by omega) pins s σ H _ _ v u Q I rx ry ⟨d, ds, d1, d2, s1, s2, k _ q⟩
      · exact op_notInD (by omega) pins s σ H _ _ v u Q I rx ry ⟨d, ds, d1, d2, s1, s2, k _ q⟩
  | rd ks ws =>
    obtain ⟨a, o, kvr, rfl, e0, e1, e2⟩ := hu
    obtain ⟨z1, z2, z3⟩ := rd_zip e1 e2
    have hh : (match keyW w with
      | some q => Qw (if neg then !((lkW (ks.zip ws) q).isSome) else (lkW (ks.zip ws) q).isSome)
      | none => False) := h
    cases ek : keyW w with
    | none => rw [ek] at hh; exact hh.elim
    | some q =>
      rw [ek] at hh
      have ex := key_V ek hw
      subst ex
      have el := lk_some z1 z2 q
      have h' : Qw (if neg then !((lkW (ks.zip ws) q).isSome) else (lkW (ks.zip ws) q).isSome) := hh
      rw [← el] at h'
      cases neg
      · obtain rfl : u = Value.ref a := ry
        exact d_in (by omega) I (DGfk e0) rx fun s' I' => ⟨.bl _, H, I', rfl, k _ h'⟩
      · obtain rfl : u = Value.ref a := ry
        exact d_notIn (by omega) I (DGfk e0) rx fun s' I' => ⟨.bl _, H, I', rfl, k _ h'⟩
  | ref a =>
    cases hu
    cases ea : S a with
    | none => simp only [inW, ea] at h
    | some oa => cases oa with
      | lst ws =>
        simp only [inW, ea] at h
        obtain ⟨vs, q1, r1⟩ := hS a _ ea
        rcases h with ⟨f1, f2, q⟩ | ⟨d, ds, e1, e2, s1, s2, q⟩
        · exact ok_in_row seq I rx ry (.inl (SqL.of q1)) r1 hw f1 f2 q k
        · have d1 := dp_of hS _ _ _ _ e1 (nodict_shaped s1) hw
          have d2 := dp_of hS _ (.ref a) (.ref a) _ e2 (nodict_shaped s2) rfl
          rw [← E.K] at d1 d2
          cases neg
          · exact op_inD (by omega) pins s σ H _ _ v u Q I rx ry ⟨d, ds, d1, d2, s1, s2, k _ q⟩
          · exact op_notInD (by omega) pins s σ H _ _ v u Q I rx ry ⟨d, ds, d1, d2, s1, s2, k _ q⟩
      | dct kvs =>
        simp only [inW, ea] at h
        cases ek : keyW w with
        | none => rw [ek] at h; exact h.elim
        | some q =>
          rw [ek] at h
          obtain ⟨kvr, e1, e2, e3⟩ := hS a _ ea
          have ex := key_V ek hw
          subst ex
          have el := lk_some e2 e3 q
          have h' : Qw (if neg then !((lkW kvs q).isSome) else (lkW kvs q).isSome) := h
          rw [← el] at h'
          cases neg
          · obtain rfl : u = Value.ref a := ry
            exact d_in (by omega) I (DGet.k e1) rx fun s' I' => ⟨.bl _, H, I', rfl, k _ h'⟩
          · obtain rfl : u = Value.ref a := ry
            exact d_notIn (by omega) I (DGet.k e1) rx fun s' I' => ⟨.bl _, H, I', rfl, k _ h'⟩
      | _ => simp only [inW, ea] at h
  | _ => exact (show False from h).elim
end
end MP
/-! MP5: subscripts, slices, truth, len, isinstance, built-ins, methods. -/
namespace MP
open PySem L2 PyProof.Rows
def LC (R : RC) (t : List W → Sto → KE → Prop) : List V → Hp → VK → Prop := fun xs H Q => ∃ ws S Qw, RVs R H ws xs ∧ Sim R S H ∧ t ws S Qw ∧ KV' R S H Qw Q
def LM (R : RC) (t : W → List W → Sto → KE → Prop) : V → List V → Hp → VK → Prop := fun x xs H Q => ∃ w ws S Qw, RV R H w x ∧ RVs R H ws xs ∧ Sim R S H ∧ t w ws S Qw ∧ KV' R S H Qw Q
def LSl (R : RC) : V → Option Int → Option Int → Hp → VK → Prop := fun x lo hi H Q => ∃ w S Qw, RV R H w x ∧ Sim R S H ∧ slcW w lo hi S Qw ∧ KV' R S H Qw Q
def LSet (R : RC) : V → V → V → Hp → (Hp → Prop) → Prop := fun x i v H Q => ∃ (w wi wv : W) (S : Sto) (Qw : Sto → Prop), RV R H w x ∧ RV R H wi i ∧ RV R H wv v ∧ Sim R S H ∧ setW w wi wv S Qw ∧ ∀ S1 H1, Qw S1 → Sim R S1 H1 → Fr S H S1 H1 → Q H1
section
variable {R : RC} {G : Gm} {X : Cx}
/-! ### subscripts -/
theorem ok_sub_ix (E : E1 R G X) : IxR X (LO R (subW G)) := by
  intro value slice pins s σ H x y v u Q I rx ry h hs
  obtain ⟨w, w2, S, Qw, hw, hu, hS, h, k⟩ := h
  have un := E.un
  have fin : ∀ w v, Qw w S → RV R H w v → Q v H := fun w v q r => k w S v H q r hS (Fr.refl _ _)
  cases w with
  | tup ws =>
    obtain ⟨p, vs, rfl, hp, hv⟩ := hw
    cases w2 with
    | int i =>
      cases hu
      have h' : (match L2.atI ws i with
        | some w => Qw w S
        | none => False) := h
      cases e : L2.atI ws i with
      | none => rw [e] at h'; exact h'.elim
      | some w =>
        rw [e] at h'
        obtain ⟨z, e2, r⟩ := hv.atI e
        exact ix_tup value slice pins s σ H _ _ v u Q I rx ry ⟨p, vs, i, z, rfl, rfl, by rw [E.K]; exact hp, e2, fin w z h' r⟩ hs
    | _ => exact (show False from h).elim
  | rl ws =>
    obtain ⟨p, vs, rfl, hp, hv⟩ := hw
    cases w2 with
    | int i =>
      cases hu
      have h' : (match L2.atI ws i with
        | some w => Qw w S
        | none => False) := h
      cases e : L2.atI ws i with
      | none => rw [e] at h'; exact h'.elim
      | some w =>
        rw [e] at h'
        obtain ⟨z, e2, r⟩ := hv.atI e
        exact ix_list value slice pins s σ H _ _ v u Q I rx ry ⟨p, vs, i, z, rfl, rfl, by rw [E.K]; exact hp.l, e2, fin w z h' r⟩ hs
    | _ => exact (show False from h).elim
  | str l =>
    cases hw
    cases w2 with
    | int i =>
      cases hu
      obtain ⟨hl, h'⟩ := (show l.length ≤ LIM ∧ (match L2.atI l i with
        | some c => Qw (.str [c]) S
        | none => False) from h)
      cases e : L2.atI l i with
      | none => rw [e] at h'; exact h'.elim
      | some c =>
        rw [e] at h'
        exact ix_str value slice pins s σ H _ _ v u Q I rx ry ⟨S' l, i, c, rfl, rfl, by rw [S_len, ← lim_eq]; exact hl, e, fin _ _ h' rfl⟩ hs
    | _ => exact (show False from h).elim
  | kd d =>
    cases hw
    cases w2 with
    | str l =>
      cases hu
      have h' : (match lkW (G.kd d) (.inr l) with
        | some w => Qw w S
        | none => False) := h
      cases e : lkW (G.kd d) (.inr l) with
      | none => rw [e] at h'; exact h'.elim
      | some w =>
        rw [e] at h'
        have hd : G.kd d ≠ [] := fun z => by rw [z] at e; cases e
        obtain ⟨es, n, r, D, e2, z⟩ := E.kd d l hd
        rw [e] at z
        obtain ⟨u1, v1, rfl, r1, r2⟩ := z
        have rx' : v = Value.ref (R.kad d) := rx
        subst rx'
        exact tail_any (kd_type D I) PySem.F.slot_dict_getitem.lookup (op_item_kd D pins s σ H (V.ref (R.kad d)) _ _ u Q I (show RelV (V.ref (R.kad d)) (Value.ref (R.kad d)) from rfl) ry ⟨S' l, u1, v1, rfl, rfl, e2, r1, fin w v1 h' (r2 H)⟩) hs
    | _ => exact (show False from h).elim
  | rd ks ws =>
    obtain ⟨a, o, kvr, rfl, e0, e1, e2⟩ := hw
    obtain ⟨z1, z2, z3⟩ := rd_zip e1 e2
    have hh : (match keyW w2 with
      | some k => (match lkW (ks.zip ws) k with
        | some w => Qw w S
        | none => False)
      | none => False) := h
    cases ek : keyW w2 with
    | none => rw [ek] at hh; exact hh.elim
    | some q =>
      rw [ek] at hh
      have ex := key_V ek hu
      subst ex
      have h' : (match lkW (ks.zip ws) q with
        | some w => Qw w S
        | none => False) := hh
      cases e : lkW (ks.zip ws) q with
      | none => rw [e] at h'; exact h'.elim
      | some w =>
        rw [e] at h'
        obtain ⟨z, ez, rz⟩ := (lk_val z1 z2 q).1 w e
        have rx' : v = Value.ref a := rx
        subst rx'
        have g : DGet H a (kV (kR q)) (some z) := by rw [← ez]; exact DGfk e0
        exact tail_any (dict_typeIs I g) PySem.F.slot_dict_getitem.lookup (d_getItem (by omega) I g ry fun w' s' I' r' => ⟨z, H, I', r', fin w z h' rz⟩) hs
  | ref a =>
    cases hw
    cases ea : S a with
    | none => simp only [subW, ea] at h
    | some oa => cases oa with
      | lst ws =>
        simp only [subW, ea] at h
        cases w2 with
        | int i =>
          cases hu
          obtain ⟨vs, q1, r1⟩ := hS a _ ea
          have h' : (match L2.atI ws i with
            | some w => Qw w S
            | none => False) := h
          cases e : L2.atI ws i with
          | none => rw [e] at h'; exact h'.elim
          | some w =>
            rw [e] at h'
            obtain ⟨z, e2, r⟩ := r1.atI e
            exact ix_list value slice pins s σ H _ _ v u Q I rx ry ⟨a, vs, i, z, rfl, rfl, SqL.of q1, e2, fin w z h' r⟩ hs
        | _ => exact (show False from h).elim
      | dct kvs =>
        simp only [subW, ea] at h
        cases ek : keyW w2 with
        | none => rw [ek] at h; exact h.elim
        | some q =>
          rw [ek] at h
          obtain ⟨kvr, e1, e2, e3⟩ := hS a _ ea
          have ex := key_V ek hu
          subst ex
          have h' : (match lkW kvs q with
            | some w => Qw w S
            | none => False) := h
          cases e : lkW kvs q with
          | none => rw [e] at h'; exact h'.elim
          | some w =>
            rw [e] at h'
            obtain ⟨z, ez, rz⟩ := (lk_val e2 e3 q).1 w e
            have rx' : v = Value.ref a := rx
            subst rx'
            have g : DGet H a (kV (kR q)) (some z) := by rw [← ez]; exact DGet.k e1
            exact tail_any (dict_typeIs I g) PySem.F.slot_dict_getitem.lookup (d_getItem (by omega) I g ry fun w' s' I' r' => ⟨z, H, I', r', fin w z h' rz⟩) hs
      | _ => simp only [subW, ea] at h
  | _ => exact (show False from h).elim
/-! ### slices -/
theorem ok_slc (hK : X.K = R.K) : SlR X (LSl R) := by
  intro pins s σ H x v vl vu lo hi sl Q I rx hs pl pu h
  obtain ⟨w, S, Qw, hw, hS, h, k⟩ := h
  cases w with
  | tup ws =>
    obtain ⟨p, vs, rfl, hp, hv⟩ := hw
    have h' : Qw (.tup (cut ws lo hi)) S := h
    refine sl_tupA pins s σ H _ v vl vu lo hi sl Q I rx hs pl pu ⟨p, vs, rfl, by rw [hK]; exact hp, fun e => ?_, fun e q hq => new_tup hS k h' hq (hv.cut lo hi)⟩
    have ec : cut ws lo hi = ws := by
      unfold MP.cut
      rw [hv.length] at e
      rw [e.1, e.2]
      simp
    rw [ec] at h'
    exact k _ S _ H h' ⟨p, vs, rfl, hp, hv⟩ hS (Fr.refl _ _)
  | str l =>
    cases hw
    obtain ⟨hl, h'⟩ := (show l.length ≤ LIM ∧ Qw (.str (cut l lo hi)) S from h)
    refine sl_str pins s σ H _ v vl vu lo hi sl Q I rx hs pl pu ⟨S' l, rfl, by rw [S_len, ← lim_eq]; exact hl, ?_⟩
    have e : cutS (S' l) lo hi = S' (cut l lo hi) := by
      unfold cutS MP.cut
      rw [S_len]
    rw [e]
    exact k _ S _ H h' rfl hS (Fr.refl _ _)
  | rl ws =>
    obtain ⟨p, vs, rfl, hp, hv⟩ := hw
    obtain ⟨T, id, z1, z2, z3⟩ := sl_list pins s σ H _ v vl vu lo hi sl (Cl X Q) I rx hs pl pu ⟨p, vs, rfl, by rw [hK]; exact hp.l, fun q hq => new_lst hS k h hq (hv.cut lo hi)⟩
    exact ⟨T, id, z1, z2, ep_cl z3⟩
  | ref a =>
    cases hw
    cases ea : S a with
    | none => simp only [slcW, ea] at h
    | some oa => cases oa with
      | lst ws =>
        simp only [slcW, ea] at h
        obtain ⟨vs, q1, r1⟩ := hS a _ ea
        obtain ⟨T, id, z1, z2, z3⟩ := sl_list pins s σ H _ v vl vu lo hi sl (Cl X Q) I rx hs pl pu ⟨a, vs, rfl, SqL.of q1, fun q hq => new_lst hS k h hq (r1.cut lo hi)⟩
        exact ⟨T, id, z1, z2, ep_cl z3⟩
      | _ => simp only [slcW, ea] at h
  | _ => exact (show False from h).elim
/-! ### truth -/
theorem isEmpty_RVs {H : Hp} {ws : List W} {vs : List V} (r : RVs R H ws vs) : vs.isEmpty = ws.isEmpty := by
  cases ws with
  | nil => cases r; rfl
  | cons w ws => obtain ⟨v, vr, rfl, _⟩ := r; rfl
theorem isEmpty_len {α β : Type} {xs : List α} {ys : List β} (h : xs.length = ys.length) : xs.isEmpty = ys.isEmpty := by
  cases xs <;> cases ys <;> first | rfl | (cases h; done)
theorem ok_tru (hK : X.K = R.K) {S : Sto} {H : Hp} {w : W} {v : V} {b : Bool} (h : truW S w = some b) (r : RV R H w v) (hS : Sim R S H) : TruV X.K v H b := by
  cases w with
  | non => cases r; cases h; rfl
  | bl x => cases r; cases h; rfl
  | int i =>
    cases r; cases h
    show decide (i ≠ 0) = (i != 0)
    rw [Bool.eq_iff_iff]; simp
  | str l =>
    cases r
    have h' : (if l.length ≤ LIM then some (decide (l ≠ [])) else none) = some b := h
    by_cases hl : l.length ≤ LIM
    · rw [if_pos hl] at h'
      cases h'
      refine ⟨by rw [S_len, ← lim_eq]; exact hl, ?_⟩
      rw [S_len]
      cases l with
      | nil => rfl
      | cons a r => 
        have e : (((a :: r).length : Int) != 0) = true := by
          rw [bne_iff_ne]
          simp only [List.length_cons]
          omega
        rw [e]
        rfl
    · rw [if_neg hl] at h'; cases h'
  | tup ws =>
    obtain ⟨p, vs, rfl, hp, hv⟩ := r
    cases h
    exact .inr (.inl ⟨vs, by rw [hK]; exact hp, by rw [isEmpty_RVs hv]⟩)
  | rl ws =>
    obtain ⟨p, vs, rfl, hp, hv⟩ := r
    cases h
    exact .inl ⟨vs, by rw [hK]; exact hp.l, by rw [isEmpty_RVs hv]⟩
  | ref a =>
    cases r
    have h' : (match S a with
      | some (.lst ws) => some (!ws.isEmpty)
      | some (.dct kvs) => some (!kvs.isEmpty)
      | _ => none) = some b := h
    cases ea : S a with
    | none => rw [ea] at h'; cases h'
    | some oa => cases oa with
      | lst ws =>
        rw [ea] at h'; cases h'
        obtain ⟨vs, q1, r1⟩ := hS a _ ea
        exact .inl ⟨vs, SqL.of q1, by rw [isEmpty_RVs r1]⟩
      | dct kvs =>
        rw [ea] at h'; cases h'
        obtain ⟨kvr, e1, e2, e3⟩ := hS a _ ea
        exact .inr (.inr ⟨kvr, e1, by rw [isEmpty_len (xs := kvr) (ys := kvs) (by have := congrArg List.length e2; simpa using this)]⟩)
      | _ => rw [ea] at h'; cases h'
  | _ => cases h
/-! ### rows -/
theorem row_sq (hK : X.K = R.K) {S : Sto} {H : Hp} {w : W} {v : V} {ws : List W} (h : rowW S w = some ws) (r : RV R H w v) (hS : Sim R S H) : ∃ p vs, v = .ref p ∧ (SqL X.K H p vs ∨ SqT X.K H p vs) ∧ RVs R H ws vs := by
  cases w with
  | tup us =>
    obtain ⟨p, vs, rfl, hp, hv⟩ := r
    cases h
    exact ⟨p, vs, rfl, .inr (by rw [hK]; exact hp), hv⟩
  | rl us =>
    obtain ⟨p, vs, rfl, hp, hv⟩ := r
    cases h
    exact ⟨p, vs, rfl, .inl (by rw [hK]; exact hp.l), hv⟩
  | ref a =>
    cases r
    have h' : (match S a with
      | some (.lst ws) => some ws
      | _ => none) = some ws := h
    cases ea : S a with
    | none => rw [ea] at h'; cases h'
    | some oa => cases oa with
      | lst us =>
        rw [ea] at h'; cases h'
        obtain ⟨vs, q1, r1⟩ := hS a _ ea
        exact ⟨a, vs, rfl, .inl (SqL.of q1), r1⟩
      | _ => rw [ea] at h'; cases h'
  | _ => cases h
theorem row_sqL (hK : X.K = R.K) {S : Sto} {H : Hp} {w : W} {v : V} {ws : List W} (h : rowL S w = some ws) (r : RV R H w v) (hS : Sim R S H) : ∃ p vs, v = .ref p ∧ SqL X.K H p vs ∧ RVs R H ws vs := by
  cases w with
  | rl us =>
    obtain ⟨p, vs, rfl, hp, hv⟩ := r
    cases h
    exact ⟨p, vs, rfl, by rw [hK]; exact hp.l, hv⟩
  | ref a =>
    cases r
    have h' : (match S a with
      | some (.lst ws) => some ws
      | _ => none) = some ws := h
    cases ea : S a with
    | none => rw [ea] at h'; cases h'
    | some oa => cases oa with
      | lst us =>
        rw [ea] at h'; cases h'
        obtain ⟨vs, q1, r1⟩ := hS a _ ea
        exact ⟨a, vs, rfl, SqL.of q1, r1⟩
      | _ => rw [ea] at h'; cases h'
  | _ => cases h
theorem bools_V {H : Hp} : ∀ {ws : List W} {bs : List Bool} {vs : List V}, boolsW ws = some bs → RVs R H ws vs → vs = bs.map V.bl
  | [], _, _, h, r => by cases h; cases r; rfl
  | w :: ws, _, _, h, r => by
    obtain ⟨v, vr, rfl, r1, r2⟩ := r
    cases w with
    | bl b =>
      obtain ⟨cs, h1, rfl⟩ := Option.map_eq_some_iff.mp (show (boolsW ws).map (b :: ·) = some _ from h)
      cases r1
      rw [bools_V h1 r2]
      rfl
    | _ => cases h
theorem ints_V {H : Hp} : ∀ {ws : List W} {bs : List Int} {vs : List V}, intsW ws = some bs → RVs R H ws vs → vs = bs.map V.int
  | [], _, _, h, r => by cases h; cases r; rfl
  | w :: ws, _, _, h, r => by
    obtain ⟨v, vr, rfl, r1, r2⟩ := r
    cases w with
    | int b =>
      obtain ⟨cs, h1, rfl⟩ := Option.map_eq_some_iff.mp (show (intsW ws).map (b :: ·) = some _ from h)
      cases r1
      rw [ints_V h1 r2]
      rfl
    | _ => cases h
theorem strs_V {H : Hp} : ∀ {ws : List W} {bs : List (List Nat)} {vs : List V}, strsW ws = some bs → RVs R H ws vs → vs = (bs.map S').map V.str
  | [], _, _, h, r => by cases h; cases r; rfl
  | w :: ws, _, _, h, r => by
    obtain ⟨v, vr, rfl, r1, r2⟩ := r
    cases w with
    | str b =>
      obtain ⟨cs, h1, rfl⟩ := Option.map_eq_some_iff.mp (show (strsW ws).map (b :: ·) = some _ from h)
      cases r1
      rw [strs_V h1 r2]
      rfl
    | _ => cases h
end
end MP
/-! MP6: len, isinstance, repr, built-ins, methods, stores. -/
namespace MP
open PySem L2 PyProof.Rows
section
variable {R : RC} {G : Gm} {X : Cx}
theorem KV'.same {S : Sto} {H : Hp} {Qw : KE} {Q : VK} {w : W} {v : V} (k : KV' R S H Qw Q) (hS : Sim R S H) (h : Qw w S) (r : RV R H w v) : Q v H := k w S v H h r hS (Fr.refl _ _)
theorem rvs1 {H : Hp} {w : W} {xs : List V} (r : RVs R H [w] xs) : ∃ v, xs = [v] ∧ RV R H w v := by
  obtain ⟨v, vr, rfl, r1, r2⟩ := r
  cases r2
  exact ⟨v, rfl, r1⟩
theorem rvs2 {H : Hp} {w u : W} {xs : List V} (r : RVs R H [w, u] xs) : ∃ v y, xs = [v, y] ∧ RV R H w v ∧ RV R H u y := by
  obtain ⟨v, vr, rfl, r1, r2⟩ := r
  obtain ⟨y, rfl, r3⟩ := rvs1 r2
  exact ⟨v, y, rfl, r1, r3⟩
/-! ### len -/
theorem ok_len (hK : X.K = R.K) : CallR X (.builtin "len") (LC R (biW .len)) := by
  intro pins s σ H xs us Q I r h
  obtain ⟨ws, S, Qw, hr, hS, h, k⟩ := h
  cases ws with
  | nil => exact (show False from h).elim
  | cons w ws => cases ws with
    | cons _ _ => exact (show False from h).elim
    | nil =>
      obtain ⟨v, rfl, rv⟩ := rvs1 hr
      have h' : (match lenW S w with
        | some n => n ≤ LIM ∧ Qw (.int n) S
        | none => False) := h
      cases e : lenW S w with
      | none => rw [e] at h'; exact h'.elim
      | some n =>
        rw [e] at h'
        obtain ⟨hn, h2⟩ := h'
        have fin : Q (.int n) H := k.same hS h2 rfl
        cases w with
        | tup us =>
          obtain ⟨p, vs, rfl, hp, hv⟩ := rv
          cases e
          exact call_len_seq pins s σ H _ _ Q I r ⟨p, vs, rfl, .inr (by rw [hK]; exact hp), by rw [hv.length]; exact fin⟩
        | rl us =>
          obtain ⟨p, vs, rfl, hp, hv⟩ := rv
          cases e
          exact call_len_seq pins s σ H _ _ Q I r ⟨p, vs, rfl, .inl (by rw [hK]; exact hp.l), by rw [hv.length]; exact fin⟩
        | rd ks us =>
          obtain ⟨a, o, kvr, rfl, e0, e1, e2⟩ := rv
          cases e
          have el : kvr.length = ks.length := by have := congrArg List.length e1; simpa using this
          obtain ⟨u, rfl, ru⟩ := vals1 r
          cases ru
          exact d_len I (.inr ⟨o, e0⟩) fun t s' I' => ⟨.int kvr.length, H, I', ⟨t, rfl⟩, by rw [el]; exact fin⟩
        | str l =>
          cases rv
          cases e
          exact call_len_str pins s σ H _ _ Q I r ⟨S' l, rfl, by rw [S_len, ← lim_eq]; exact hn, by rw [S_len]; exact fin⟩
        | ref a =>
          cases rv
          cases ea : S a with
          | none => simp only [lenW, ea] at e; cases e
          | some oa => cases oa with
            | lst us =>
              simp only [lenW, ea] at e
              cases e
              obtain ⟨vs, q1, r1⟩ := hS a _ ea
              exact call_len_seq pins s σ H _ _ Q I r ⟨a, vs, rfl, .inl (SqL.of q1), by rw [r1.length]; exact fin⟩
            | dct kvs =>
              simp only [lenW, ea] at e
              cases e
              obtain ⟨kvr, e1, e2, e3⟩ := hS a _ ea
              have el : kvr.length = kvs.length := by have := congrArg List.length e2; simpa using this
              exact call_lenD pins s σ H _ _ Q I r ⟨a, kvr, rfl, e1, by rw [el]; exact fin⟩
            | _ => simp only [lenW, ea] at e; cases e
        | _ => cases e
/-! ### all, any, sum -/
theorem ok_all (E : E1 R G X) : CallR X (.builtin "all") (LC R (biW .all)) := by
  intro pins s σ H xs us Q I r h
  obtain ⟨ws, S, Qw, hr, hS, h, k⟩ := h
  cases ws with
  | nil => exact (show False from h).elim
  | cons w ws => cases ws with
    | cons _ _ => exact (show False from h).elim
    | nil =>
      obtain ⟨v, rfl, rv⟩ := rvs1 hr
      have h2 : (match rowL S w with
          | some ws => (match boolsW ws with
            | some bs => Qw (.bl (bs.all id)) S
            | none => False)
          | none => False) := h
      cases e : rowL S w with
      | none => rw [e] at h2; exact h2.elim
      | some zs =>
        rw [e] at h2
        simp only at h2
        cases eb : boolsW zs with
        | none => rw [eb] at h2; exact h2.elim
        | some bs =>
          rw [eb] at h2
          obtain ⟨p, vs, rfl, hp, hv⟩ := row_sqL E.K e rv hS
          rw [bools_V eb hv] at hp
          exact cr_all E.calm pins s σ H _ _ Q I r ⟨p, bs, rfl, hp, k.same hS h2 rfl⟩
theorem ok_any (E : E1 R G X) : CallR X (.builtin "any") (LC R (biW .any)) := by
  intro pins s σ H xs us Q I r h
  obtain ⟨ws, S, Qw, hr, hS, h, k⟩ := h
  cases ws with
  | nil => exact (show False from h).elim
  | cons w ws => cases ws with
    | cons _ _ => exact (show False from h).elim
    | nil =>
      obtain ⟨v, rfl, rv⟩ := rvs1 hr
      have h2 : (match rowL S w with
          | some ws => (match boolsW ws with
            | some bs => Qw (.bl (bs.any id)) S
            | none => False)
          | none => False) := h
      cases e : rowL S w with
      | none => rw [e] at h2; exact h2.elim
      | some zs =>
        rw [e] at h2
        simp only at h2
        cases eb : boolsW zs with
        | none => rw [eb] at h2; exact h2.elim
        | some bs =>
          rw [eb] at h2
          obtain ⟨p, vs, rfl, hp, hv⟩ := row_sqL E.K e rv hS
          rw [bools_V eb hv] at hp
          exact cr_any E.calm pins s σ H _ _ Q I r ⟨p, bs, rfl, hp, k.same hS h2 rfl⟩
theorem ok_sum (E : E1 R G X) : CallR X (.builtin "sum") (LC R (biW .sum)) := by
  intro pins s σ H xs us Q I r h
  obtain ⟨ws, S, Qw, hr, hS, h, k⟩ := h
  cases ws with
  | nil => exact (show False from h).elim
  | cons w ws => cases ws with
    | cons _ _ => exact (show False from h).elim
    | nil =>
      obtain ⟨v, rfl, rv⟩ := rvs1 hr
      have h2 : (match rowL S w with
          | some ws => (match intsW ws with
            | some ns => Qw (.int ns.sum) S
            | none => False)
          | none => False) := h
      cases e : rowL S w with
      | none => rw [e] at h2; exact h2.elim
      | some zs =>
        rw [e] at h2
        simp only at h2
        cases eb : intsW zs with
        | none => rw [eb] at h2; exact h2.elim
        | some bs =>
          rw [eb] at h2
          obtain ⟨p, vs, rfl, hp, hv⟩ := row_sqL E.K e rv hS
          rw [ints_V eb hv] at hp
          exact cr_sum E.calm pins s σ H _ _ Q I r ⟨p, bs, rfl, hp, k.same hS h2 rfl⟩
/-! ### min, max of two -/
theorem foldl_max_le : ∀ (ns : List Int) (n : Int), n ≤ ns.foldl max n ∧ (∀ y, y ∈ ns → y ≤ ns.foldl max n) ∧ ns.foldl max n ∈ n :: ns
  | [], n => ⟨Int.le_refl _, fun y h => (by simp at h), by simp⟩
  | m :: r, n => by
    obtain ⟨h1, h2, h3⟩ := foldl_max_le r (max n m)
    refine ⟨by rw [List.foldl_cons]; omega, fun y h => ?_, ?_⟩
    · rw [List.foldl_cons]
      rcases List.mem_cons.mp h with e | h
      · subst e; omega
      · exact h2 y h
    · rw [List.foldl_cons]
      rcases List.mem_cons.mp h3 with e | h
      · rw [e]
        by_cases c : n ≤ m
        · rw [Int.max_eq_right c]; simp
        · rw [Int.max_eq_left (by omega)]; simp
      · exact List.mem_cons_of_mem _ (List.mem_cons_of_mem _ h)
theorem foldl_min_le : ∀ (ns : List Int) (n : Int), ns.foldl min n ≤ n ∧ (∀ y, y ∈ ns → ns.foldl min n ≤ y) ∧ ns.foldl min n ∈ n :: ns
  | [], n => ⟨Int.le_refl _, fun y h => (by simp at h), by simp⟩
  | m :: r, n => by
    obtain ⟨h1, h2, h3⟩ := foldl_min_le r (min n m)
    refine ⟨by rw [List.foldl_cons]; omega, fun y h => ?_, ?_⟩
    · rw [List.foldl_cons]
      rcases List.mem_cons.mp h with e | h
      · subst e; omega
      · exact h2 y h
    · rw [List.foldl_cons]
      rcases List.mem_cons.mp h3 with e | h
      · rw [e]
        by_cases c : n ≤ m
        · rw [Int.min_eq_left c]; simp
        · rw [Int.min_eq_right (by omega)]; simp
      · exact List.mem_cons_of_mem _ (List.mem_cons_of_mem _ h)
theorem max_is {ns : List Int} {n m : Int} (h1 : m ∈ n :: ns) (h2 : ∀ y, y ∈ n :: ns → y ≤ m) : m = ns.foldl max n := by
  obtain ⟨k1, k2, k3⟩ := foldl_max_le ns n
  have a := h2 _ k3
  rcases List.mem_cons.mp h1 with e | h
  · subst e; omega
  · have := k2 _ h; omega
theorem min_is {ns : List Int} {n m : Int} (h1 : m ∈ n :: ns) (h2 : ∀ y, y ∈ n :: ns → m ≤ y) : m = ns.foldl min n := by
  obtain ⟨k1, k2, k3⟩ := foldl_min_le ns n
  have a := h2 _ k3
  rcases List.mem_cons.mp h1 with e | h
  · subst e; omega
  · have := k2 _ h; omega
theorem ok_min (E : E1 R G X) : CallR X (.builtin "min") (LC R (biW .min)) := by
  intro pins s σ H xs us Q I r h
  obtain ⟨ws, S, Qw, hr, hS, h, k⟩ := h
  have two : ∀ i j : Int, ws = [.int i, .int j] → Qw (.int (if j < i then j else i)) S → wpAny (model X.prog X.w) X.A (call (.builtin "min") us) (EP X pins σ Q) X.xe s := fun i j e h => by
    subst e
    obtain ⟨v, y, rfl, r1, r2⟩ := rvs2 hr
    cases r1; cases r2
    exact call_min2 E.calm pins s σ H _ _ Q I r ⟨i, j, rfl, k.same hS h rfl⟩
  have one : ∀ w : W, ws = [w] → (match rowL S w with
    | some ws => (match intsW ws with
      | some (n :: ns) => Qw (.int (ns.foldl min n)) S
      | _ => False)
    | none => False) → wpAny (model X.prog X.w) X.A (call (.builtin "min") us) (EP X pins σ Q) X.xe s := fun w e h2 => by
    subst e
    obtain ⟨v, rfl, rv⟩ := rvs1 hr
    cases e : rowL S w with
    | none => rw [e] at h2; exact h2.elim
    | some zs =>
      rw [e] at h2
      simp only at h2
      cases eb : intsW zs with
      | none => rw [eb] at h2; exact h2.elim
      | some bs =>
        rw [eb] at h2
        cases bs with
        | nil => exact h2.elim
        | cons n ns =>
          obtain ⟨p, vs, rfl, hp, hv⟩ := row_sqL E.K e rv hS
          rw [ints_V eb hv] at hp
          refine cr_min E.calm pins s σ H _ _ Q I r ⟨p, n :: ns, rfl, hp, by simp, fun m h3 h4 => ?_⟩
          rw [min_is h3 h4]
          exact k.same hS h2 rfl
  match ws, h with
  | [.int i, .int j], h => exact two i j rfl h
  | [w], h => exact one w rfl (by cases w <;> exact h)
theorem ok_max (E : E1 R G X) : CallR X (.builtin "max") (LC R (biW .max)) := by
  intro pins s σ H xs us Q I r h
  obtain ⟨ws, S, Qw, hr, hS, h, k⟩ := h
  have two : ∀ i j : Int, ws = [.int i, .int j] → Qw (.int (if j > i then j else i)) S → wpAny (model X.prog X.w) X.A (call (.builtin "max") us) (EP X pins σ Q) X.xe s := fun i j e h => by
    subst e
    obtain ⟨v, y, rfl, r1, r2⟩ := rvs2 hr
    cases r1; cases r2
    exact call_max2 E.calm pins s σ H _ _ Q I r ⟨i, j, rfl, k.same hS h rfl⟩
  have one : ∀ w : W, ws = [w] → (match rowL S w with
    | some ws => (match intsW ws with
      | some (n :: ns) => Qw (.int (ns.foldl max n)) S
      | _ => False)
    | none => False) → wpAny (model X.prog X.w) X.A (call (.builtin "max") us) (EP X pins σ Q) X.xe s := fun w e h2 => by
    subst e
    obtain ⟨v, rfl, rv⟩ := rvs1 hr
    cases e : rowL S w with
    | none => rw [e] at h2; exact h2.elim
    | some zs =>
      rw [e] at h2
      simp only at h2
      cases eb : intsW zs with
      | none => rw [eb] at h2; exact h2.elim
      | some bs =>
        rw [eb] at h2
        cases bs with
        | nil => exact h2.elim
        | cons n ns =>
          obtain ⟨p, vs, rfl, hp, hv⟩ := row_sqL E.K e rv hS
          rw [ints_V eb hv] at hp
          refine cr_max E.calm pins s σ H _ _ Q I r ⟨p, n :: ns, rfl, hp, by simp, fun m h3 h4 => ?_⟩
          rw [max_is h3 h4]
          exact k.same hS h2 rfl
  match ws, h with
  | [.int i, .int j], h => exact two i j rfl h
  | [w], h => exact one w rfl (by cases w <;> exact h)
/-! ### str, int, bool -/
theorem ok_str : CallR X (.type "str") (LC R (biW .str)) := by
  intro pins s σ H xs us Q I r h
  obtain ⟨ws, S, Qw, hr, hS, h, k⟩ := h
  match ws, h, hr with
  | [.int i], h, hr =>
    obtain ⟨h1, h2⟩ := (show i.natAbs.log2 < 1920 ∧ Qw (.str (dig i)) S from h)
    obtain ⟨v, rfl, r1⟩ := rvs1 hr
    cases r1
    exact call_str_int pins s σ H _ _ Q I r ⟨i, rfl, h1, by
      have e : ((toString i : String) : Str) = S' (dig i) := (S_tl _).symm
      rw [e]
      exact k.same hS h2 rfl⟩
  | [.str l], h, hr =>
    obtain ⟨v, rfl, r1⟩ := rvs1 hr
    cases r1
    exact SkE.call_str_str pins s σ H _ _ Q I r ⟨S' l, rfl, k.same hS h rfl⟩
theorem ok_int : CallR X (.type "int") (LC R (biW .int)) := by
  intro pins s σ H xs us Q I r h
  obtain ⟨ws, S, Qw, hr, hS, h, k⟩ := h
  match ws, h, hr with
  | [.bl b], h, hr =>
    obtain ⟨v, rfl, r1⟩ := rvs1 hr
    cases r1
    exact call_int1 pins s σ H _ _ Q I r (.inr ⟨b, rfl, k.same hS h rfl⟩)
  | [.int b], h, hr =>
    obtain ⟨v, rfl, r1⟩ := rvs1 hr
    cases r1
    exact call_int1 pins s σ H _ _ Q I r (.inl ⟨b, rfl, k.same hS h rfl⟩)
/-! ### list, tuple -/
theorem ok_list (hK : X.K = R.K) : CallR X (.type "list") (LC R (biW .list)) := by
  intro pins s σ H xs us Q I r h
  obtain ⟨ws, S, Qw, hr, hS, h, k⟩ := h
  cases ws with
  | nil => exact (show False from h).elim
  | cons w ws => cases ws with
    | cons _ _ => exact (show False from h).elim
    | nil =>
      obtain ⟨v, rfl, rv⟩ := rvs1 hr
      have h' : (match rowW S w with
        | some ws => newL ws S Qw
        | none => False) := h
      cases e : rowW S w with
      | none => rw [e] at h'; exact h'.elim
      | some zs =>
        rw [e] at h'
        obtain ⟨p, vs, rfl, hp, hv⟩ := row_sq hK e rv hS
        exact ep_cl (call_list_of pins s σ H _ _ _ I r ⟨p, vs, rfl, hp, fun l hl => new_lst hS k h' hl hv⟩)
theorem ok_tuple (hK : X.K = R.K) : CallR X (.type "tuple") (LC R (biW .tuple)) := by
  intro pins s σ H xs us Q I r h
  obtain ⟨ws, S, Qw, hr, hS, h, k⟩ := h
  cases ws with
  | nil => exact (show False from h).elim
  | cons w ws => cases ws with
    | cons _ _ => exact (show False from h).elim
    | nil =>
      obtain ⟨v, rfl, rv⟩ := rvs1 hr
      have h' : (match rowW S w with
        | some ws => Qw (.tup ws) S
        | none => False) := h
      cases e : rowW S w with
      | none => rw [e] at h'; exact h'.elim
      | some zs =>
        rw [e] at h'
        obtain ⟨p, vs, rfl, hp, hv⟩ := row_sq hK e rv hS
        refine call_tuple_of pins s σ H _ _ Q I r ⟨p, vs, rfl, ?_⟩
        rcases hp with hp | hp
        · exact .inl ⟨hp, fun l hl => new_tup hS k h' hl hv⟩
        · exact .inr ⟨hp, k.same hS h' ⟨p, vs, rfl, by rw [← hK]; exact hp, hv⟩⟩
/-! ### dict -/
theorem pairs_V {H : Hp} : ∀ {ws : List W} {kvs : List (KW × W)} {vs : List V}, pairsW ws = some kvs → RVs R H ws vs → ∃ (ps : List Addr) (kvr : List (Key × V)), vs = ps.map V.ref ∧ Paired (fun p (kv : Key × V) => SqT R.K H p [kV kv.1, kv.2]) ps kvr ∧ kvr.map (·.1) = kvs.map (fun q => kR q.1) ∧ RVs R H (kvs.map (·.2)) (kvr.map (·.2))
  | [], _, _, h, r => by cases h; cases r; exact ⟨[], [], rfl, .nil, rfl, rfl⟩
  | w :: ws, _, _, h, r => by
    obtain ⟨v, vr, rfl, r1, r2⟩ := r
    match w, h, r1 with
    | .tup [a, b], h, r1 =>
      have h' : (match keyW a with
        | some k => (pairsW ws).map ((k, b) :: ·)
        | none => none) = some _ := h
      cases ek : keyW a with
      | none => rw [ek] at h'; cases h'
      | some k =>
        rw [ek] at h'
        obtain ⟨cs, h1, rfl⟩ := Option.map_eq_some_iff.mp h'
        obtain ⟨ps, kvr, e1, e2, e3, e4⟩ := pairs_V h1 r2
        obtain ⟨p, us, rfl, hp, hu⟩ := r1
        obtain ⟨x, y, rfl, rx, ry⟩ := rvs2 hu
        have ex := key_V ek rx
        subst ex
        refine ⟨p :: ps, (kR k, y) :: kvr, by rw [e1]; rfl, .cons hp e2, by simp [e3], ?_⟩
        exact ⟨y, kvr.map (·.2), rfl, ry, e4⟩
theorem merge_rel {H : Hp} : ∀ {more : List (KW × W)} {morer : List (Key × V)} {kvs : List (KW × W)} {kvr : List (Key × V)}, morer.map (·.1) = more.map (fun q => kR q.1) → RVs R H (more.map (·.2)) (morer.map (·.2)) → kvr.map (·.1) = kvs.map (fun q => kR q.1) → RVs R H (kvs.map (·.2)) (kvr.map (·.2)) →
    (mergeK kvr morer).map (·.1) = (more.foldl (fun a q => putW a q.1 q.2) kvs).map (fun q => kR q.1) ∧ RVs R H ((more.foldl (fun a q => putW a q.1 q.2) kvs).map (·.2)) ((mergeK kvr morer).map (·.2))
  | [], morer, kvs, kvr, e1, r1, e2, r2 => by
    have : morer = [] := by simpa using e1
    subst this
    exact ⟨e2, r2⟩
  | (k, w) :: more, [], kvs, kvr, e1, r1, e2, r2 => by simp at e1
  | (k, w) :: more, (k', v) :: morer, kvs, kvr, e1, r1, e2, r2 => by
    obtain ⟨e, e1q⟩ := List.cons.inj (show k' :: morer.map (·.1) = kR k :: more.map (fun q => kR q.1) from e1)
    subst e
    obtain ⟨v', vr, e, rv, r1⟩ := r1
    obtain ⟨rfl, rfl⟩ := List.cons.inj (show v :: morer.map (·.2) = v' :: vr from e)
    obtain ⟨p1, p2⟩ := put_rel rv k e2 r2
    exact merge_rel (more := more) (morer := morer) (kvs := putW kvs k w) (kvr := putK kvr (kR k) v) e1q r1 p1 p2
theorem dct_V {S : Sto} {H : Hp} {w : W} {v : V} {kvs : List (KW × W)} (h : dctW S w = some kvs) (r : RV R H w v) (hS : Sim R S H) : ∃ a kvr, v = .ref a ∧ Rd H a (.dK kvr) ∧ kvr.map (·.1) = kvs.map (fun q => kR q.1) ∧ RVs R H (kvs.map (·.2)) (kvr.map (·.2)) := by
  cases w with
  | rd ks us =>
    obtain ⟨a, o, kvr, rfl, e0, e1, e2⟩ := r
    cases h
    have el : kvr.length = ks.length := by have := congrArg List.length e1; simpa using this
    have el2 := e2.length
    have el3 : us.length = ks.length := by rw [← el]; simpa using el2.symm
    refine ⟨a, kvr, rfl, .inr ⟨o, e0⟩, ?_, ?_⟩
    · rw [e1]
      have : (ks.zip us).map (fun q => kR q.1) = ((ks.zip us).map (·.1)).map kR := by rw [List.map_map]; rfl
      rw [this, List.map_fst_zip (by omega)]
    · rw [List.map_snd_zip (by omega)]
      exact e2
  | ref a =>
    cases r
    cases ea : S a with
    | none => simp only [dctW, ea] at h; cases h
    | some oa => cases oa with
      | dct kvs' =>
        simp only [dctW, ea] at h
        cases h
        obtain ⟨kvr, e1, e2, e3⟩ := hS a _ ea
        exact ⟨a, kvr, rfl, .inl e1, e2, e3⟩
      | _ => simp only [dctW, ea] at h; cases h
  | _ => cases h
theorem ok_dict (E : E1 R G X) : CallR X (.type "dict") (LC R (biW .dict)) := by
  intro pins s σ H xs us Q I r h
  obtain ⟨ws, S, Qw, hr, hS, h, k⟩ := h
  cases ws with
  | nil => exact (show False from h).elim
  | cons w ws => cases ws with
    | cons _ _ => exact (show False from h).elim
    | nil =>
      obtain ⟨v, rfl, rv⟩ := rvs1 hr
      have h' : (match dctW S w with
        | some kvs => newD kvs S Qw
        | none => (match rowL S w with
          | some ws => (match pairsW ws with
            | some kvs => newD (kvs.foldl (fun a q => putW a q.1 q.2) []) S Qw
            | none => False)
          | none => False)) := h
      cases e : dctW S w with
      | some kvs =>
        rw [e] at h'
        obtain ⟨a, kvr, rfl, hd, e1, e2⟩ := dct_V e rv hS
        exact ep_cl (call_dictD pins s σ H _ _ _ I r ⟨a, kvr, rfl, hd, fun p hp => new_dct hS k h' hp e1 e2⟩)
      | none =>
        rw [e] at h'
        cases e2 : rowL S w with
        | none => rw [e2] at h'; exact h'.elim
        | some zs =>
          rw [e2] at h'
          simp only at h'
          cases e3 : pairsW zs with
          | none => rw [e3] at h'; exact h'.elim
          | some kvs =>
            rw [e3] at h'
            obtain ⟨p, vs, rfl, hp, hv⟩ := row_sqL E.K e2 rv hS
            obtain ⟨ps, kvr, rfl, z1, z2, z3⟩ := pairs_V e3 hv
            obtain ⟨m1, m2⟩ := merge_rel z2 z3 (kvs := []) (kvr := []) rfl rfl
            exact ep_cl (call_dictP E.calm pins s σ H _ _ _ I r ⟨p, ps, kvr, rfl, hp, by rw [E.K]; exact z1, fun p hp => new_dct hS k h' hp m1 m2⟩)
/-! ### x[i] = w -/
theorem ok_set (E : E1 R G X) : PSet X (LSet R) := by
  intro pins s σ H o i v ov iv u Q I ro ri rv h
  obtain ⟨w, wi, wv, S, Qw, hw, hi, hv, hS, h, k⟩ := h
  have un := E.un
  cases w with
  | ref a =>
    cases hw
    cases ea : S a with
    | none => simp only [setW, ea] at h
    | some oa => cases oa with
      | lst ws =>
        simp only [setW, ea] at h
        cases wi with
        | int i =>
          cases hi
          have h' : (match L2.ixN ws.length i with
            | some j => Qw (ups S a (.lst (ws.set j wv)))
            | none => False) := h
          cases e : L2.ixN ws.length i with
          | none => rw [e] at h'; exact h'.elim
          | some j =>
            rw [e] at h'
            obtain ⟨vs, q1, r1⟩ := hS a _ ea
            obtain ⟨k1, k2⟩ := hS.chg (u := .lst (vs.set j v)) (o1 := .lst (ws.set j wv)) ea (fun _ z => nomatch z) fun H2 f1 f2 e2 => ⟨_, e2, RVs.set (f1 _ _ hv) j (f2 _ _ r1)⟩
            exact set_list pins s σ H _ _ _ ov iv u Q I ro ri rv ⟨a, vs, i, j, rfl, rfl, q1, by rw [r1.length]; exact e, k _ _ h' k1 k2⟩
        | _ => exact (show False from h).elim
      | dct kvs =>
        simp only [setW, ea] at h
        cases ek : keyW wi with
        | none => rw [ek] at h; exact h.elim
        | some q =>
          rw [ek] at h
          obtain ⟨hl, h'⟩ := (show kvs.length < LIM ∧ Qw (ups S a (.dct (putW kvs q wv))) from h)
          obtain ⟨kvr, e1, e2, e3⟩ := hS a _ ea
          have ex := key_V ek hi
          subst ex
          have el : kvr.length = kvs.length := by have := congrArg List.length e2; simpa using this
          obtain ⟨k1, k2⟩ := hS.chg (u := .dK (putK kvr (kR q) v)) (o1 := .dct (putW kvs q wv)) ea (fun _ z => nomatch z) fun H2 f1 f2 e4 =>
            ⟨_, e4, (put_rel (f1 _ _ hv) q e2 (f2 _ _ e3)).1, (put_rel (f1 _ _ hv) q e2 (f2 _ _ e3)).2⟩
          have ro' : ov = Value.ref a := ro
          subst ro'
          exact d_setItem (by omega) I (DPut.k e1 (by rw [el, ← lim_eq]; exact hl)) ri rv fun s' I' => ⟨_, I', k _ _ h' k1 k2⟩
      | _ => simp only [setW, ea] at h
  | _ => exact (show False from h).elim
end
end MP
/-! MP7: repr, isinstance, methods. -/
namespace MP
open PySem L2 PyProof.Rows
section
variable {R : RC} {G : Gm} {X : Cx}
def RdOk (s : Shared) (u : Value) (d : PyData) : Prop := ∃ as, Reads s.heap u d as ∧ ∀ a, a ∈ as → a ≠ sysModules
def RdsOk (s : Shared) (us : List Value) (ds : List PyData) : Prop := ∃ as, ReadsAll s.heap us ds as ∧ ∀ a, a ∈ as → a ≠ sysModules
theorem rds_nil {s : Shared} : RdsOk s [] [] := ⟨[], .nil, fun a h => (by cases h)⟩
theorem rds_cons {s : Shared} {u : Value} {us : List Value} {d : PyData} {ds : List PyData} (h : RdOk s u d) (t : RdsOk s us ds) : RdsOk s (u :: us) (d :: ds) := by
  obtain ⟨as, h1, h2⟩ := h
  obtain ⟨bs, t1, t2⟩ := t
  refine ⟨_, .cons h1 t1, fun a m => ?_⟩
  rcases List.mem_append.mp m with m | m
  · exact h2 a m
  · exact t2 a m
theorem reads_all {H : Hp} {S : Sto} {s : Shared} {n : Nat} (ih : ∀ w v u d, dat n S w = some d → RV R H w v → RelV v u → RdOk s u d) : ∀ (ws : List W) (vs : List V) (us : List Value) (ds : List PyData), mapO (dat n S) ws = some ds → RVs R H ws vs → Vals vs us → RdsOk s us ds
  | [], vs, us, ds, h, r, v => by
    cases h; cases r; cases v
    exact rds_nil
  | w :: ws, vs, us, ds, h, r, v => by
    obtain ⟨d, es, h1, h2, rfl⟩ := mapO_cons h
    obtain ⟨x, vr, rfl, r1, r2⟩ := r
    cases v with
    | cons v1 v2 => exact rds_cons (ih w x _ d h1 r1 v1) (reads_all ih ws vr _ es h2 r2 v2)
theorem reads_kv {H : Hp} {S : Sto} {s : Shared} {n : Nat} (ih : ∀ w v u d, dat n S w = some d → RV R H w v → RelV v u → RdOk s u d) : ∀ (kvs : List (KW × W)) (kvr : List (Key × V)) (vs : List (Key × Value)) (es : List DictEntry) (ds : List (PyData × PyData)),
    mapO (fun q : KW × W => match dat n S (kW q.1), dat n S q.2 with
        | some a, some b => some (a, b)
        | _, _ => none) kvs = some ds → kvr.map (·.1) = kvs.map (fun q => kR q.1) → RVs R H (kvs.map (·.2)) (kvr.map (·.2)) → KV kvr vs → Pairs (mixKind X.prog X.w) es vs →
      RdsOk s (es.map (·.key)) (ds.map (·.1)) ∧ RdsOk s (es.map (·.val)) (ds.map (·.2))
  | [], kvr, vs, es, ds, h, e, r, k, p => by
    have e2 : kvr = [] := by simpa using e
    subst e2
    cases h; cases k; cases p
    exact ⟨rds_nil, rds_nil⟩
  | (a, w) :: kvs, [], vs, es, ds, h, e, r, k, p => by simp at e
  | (a, w) :: kvs, (b, v) :: kvr, vs, es, ds, h, e, r, k, p => by
    obtain ⟨d, ds', h1, h2, rfl⟩ := mapO_cons h
    simp only [List.map_cons, List.cons.injEq] at e
    obtain ⟨e1, e2⟩ := e
    subst e1
    obtain ⟨v', vr, ev, r1, r2⟩ := r
    simp only [List.map_cons, List.cons.injEq] at ev
    obtain ⟨e0, e4⟩ := ev
    subst e0
    rw [← e4] at r2
    cases k with
    | @cons _ q _ vs' k1 k2 =>
      cases p with
      | @cons en _ es' _ p1 p2 p3 =>
        obtain ⟨i1, i2⟩ := reads_kv ih kvs kvr vs' es' ds' h2 e2 r2 k2 p3
        have h1' : (match dat n S (kW a), dat n S w with
          | some a, some b => some (a, b)
          | _, _ => none) = some d := h1
        cases ea : dat n S (kW a) with
        | none => rw [ea] at h1'; cases h1'
        | some da => cases eb : dat n S w with
          | none => rw [ea, eb] at h1'; cases h1'
          | some db =>
            rw [ea, eb] at h1'
            cases h1'
            have rk : RV R H (kW a) (kV (kR a)) := by cases a <;> rfl
            have rk2 : RelV (kV (kR a)) en.key := by
              have z : keyIs q.1 en.key = true := p1
              rw [← k1.1] at z
              rcases keyIs_shape z with ⟨i, t, q1, q2⟩ | ⟨i, t, q1, q2⟩
              · rw [q2]
                rw [show kV (kR a) = V.int i from congrArg kV q1]
                exact ⟨t, rfl⟩
              · rw [q2]
                rw [show kV (kR a) = V.str i from congrArg kV q1]
                exact ⟨t, rfl⟩
            exact ⟨rds_cons (ih _ _ _ _ ea rk rk2) i1, rds_cons (ih _ _ _ _ eb r1 (show L2.RelV v en.val from by rw [p2]; exact k1.2)) i2⟩
theorem sm_ne (E : E1 R G X) {pins : List (Addr × Obj)} {s : Shared} {σ : L2.St} {H : Hp} (I : L2.Inv X pins σ H s) {a : Addr} {o : Obj} (h : s.heap.get? a = some o) (hc : o.cls = .type "list") : a ≠ sysModules := by
  intro z
  obtain ⟨o', h1, h2⟩ := E.sm
  have h3 := I.kIn sysModules o' (by rw [E.K]; exact h1)
  rw [z, h3] at h
  cases h
  rw [hc] at h2
  injection h2 with h2
  exact absurd h2 (by decide)
theorem reads_of (E : E1 R G X) {pins : List (Addr × Obj)} {s : Shared} {σ : L2.St} {S : Sto} {H : Hp} (I : L2.Inv X pins σ H s) (hS : Sim R S H) : ∀ (n : Nat) (w : W) (v : V) (u : Value) (d : PyData), dat n S w = some d → RV R H w v → RelV v u → RdOk s u d
  | 0, _, _, _, _, h, _, _ => by cases h
  | n + 1, w, v, u, d, h, r, rv => by
    have ih := reads_of E I hS n
    cases w with
    | non => cases h; cases r; cases rv; exact ⟨[], .none, fun a h => (by cases h)⟩
    | bl b => cases h; cases r; cases rv; exact ⟨[], .bool b, fun a h => (by cases h)⟩
    | int i => cases h; cases r; obtain ⟨t, rfl⟩ := rv; exact ⟨[], .int i t, fun a h => (by cases h)⟩
    | str l => cases h; cases r; obtain ⟨t, rfl⟩ := rv; exact ⟨[], .str _ t, fun a h => (by cases h)⟩
    | tup ws =>
      obtain ⟨p, vs, rfl, hp, hv⟩ := r
      obtain ⟨ds, h1, rfl⟩ := Option.map_eq_some_iff.mp (show (mapO (dat n S) ws).map PyData.tuple = some d from h)
      cases rv
      obtain ⟨its, rr, ⟨o, ho, hc, m, hd⟩, _⟩ := I.tuple (by rw [E.K]; exact hp)
      obtain ⟨as, a1, a2⟩ := reads_all ih ws vs _ ds h1 hv rr
      exact ⟨as, .tuple ho hc hd (by simpa using a1), a2⟩
    | rl ws =>
      obtain ⟨p, vs, rfl, hp, hv⟩ := r
      obtain ⟨ds, h1, rfl⟩ := Option.map_eq_some_iff.mp (show (mapO (dat n S) ws).map PyData.list = some d from h)
      cases rv
      obtain ⟨its, rr, ⟨o, m, ho, hc, _, hd⟩, _⟩ := I.list (by rw [E.K]; exact hp.l)
      obtain ⟨as, a1, a2⟩ := reads_all ih ws vs _ ds h1 hv rr
      refine ⟨p :: as, .list ho hc hd (by simpa using a1), fun a m => ?_⟩
      rcases List.mem_cons.mp m with rfl | m
      · exact sm_ne E I ho hc
      · exact a2 a m
    | rd ks us =>
      obtain ⟨a, o0, kvr, rfl, e1, k1, k2⟩ := r
      obtain ⟨e2, e3, _⟩ := rd_zip k1 k2
      obtain ⟨ds, h1, rfl⟩ := Option.map_eq_some_iff.mp (show (mapO (fun q : KW × W => match dat n S (kW q.1), dat n S q.2 with
          | some a, some b => some (a, b)
          | _, _ => none) (ks.zip us)).map PyData.dict = some d from h)
      cases rv
      obtain ⟨z, hd, vs, rel, o, es, ep, ho, hx, hdat, _, hp, _⟩ := dk_rd I.hok (.inr ⟨o0, e1⟩)
      obtain ⟨⟨as, a1, a2⟩, ⟨bs, b1, b2⟩⟩ := reads_kv ih (ks.zip us) kvr vs es.toList ds h1 e2 e3 rel hp
      refine ⟨_, .dict ho hx.1 hdat a1 b1, fun b m => ?_⟩
      have m' : b = a ∨ b ∈ as ∨ b ∈ bs := by simpa using m
      rcases m' with rfl | m | m
      · intro q; rw [q] at hd; simp at hd
      · exact a2 b m
      · exact b2 b m
    | ref a =>
      cases r
      have h' : (match S a with
        | some (.lst ws) => (mapO (dat n S) ws).map PyData.list
        | some (.dct kvs) => (mapO (fun q : KW × W => match dat n S (kW q.1), dat n S q.2 with
          | some a, some b => some (a, b)
          | _, _ => none) kvs).map PyData.dict
        | _ => none) = some d := h
      cases rv
      cases ea : S a with
      | none => rw [ea] at h'; cases h'
      | some oa => cases oa with
        | lst ws =>
          rw [ea] at h'
          obtain ⟨ds, h1, rfl⟩ := Option.map_eq_some_iff.mp h'
          obtain ⟨vs, q1, r1⟩ := hS a _ ea
          obtain ⟨its, rr, ⟨o, m, ho, hc, _, hd⟩, _⟩ := I.list (SqL.of q1)
          obtain ⟨as, a1, a2⟩ := reads_all ih ws vs _ ds h1 r1 rr
          refine ⟨a :: as, .list ho hc hd (by simpa using a1), fun b m => ?_⟩
          rcases List.mem_cons.mp m with rfl | m
          · exact sm_ne E I ho hc
          · exact a2 b m
        | dct kvs =>
          rw [ea] at h'
          obtain ⟨ds, h1, rfl⟩ := Option.map_eq_some_iff.mp h'
          obtain ⟨kvr, e1, e2, e3⟩ := hS a _ ea
          obtain ⟨z, hd, vs, rel, o, es, ep, ho, hx, hdat, _, hp, _⟩ := dk_of I.hok e1
          obtain ⟨⟨as, a1, a2⟩, ⟨bs, b1, b2⟩⟩ := reads_kv ih kvs kvr vs es.toList ds h1 e2 e3 rel hp
          refine ⟨_, .dict ho hx.1 hdat a1 b1, fun b m => ?_⟩
          have m' : b = a ∨ b ∈ as ∨ b ∈ bs := by simpa using m
          rcases m' with rfl | m | m
          · intro q; rw [q] at hd; simp at hd
          · exact a2 b m
          · exact b2 b m
        | _ => rw [ea] at h'; cases h'
    | _ => cases h
theorem ok_repr (E : E1 R G X) : CallR X (.builtin "repr") (LC R (biW .repr)) := by
  intro pins s σ H xs us Q I r h
  obtain ⟨ws, S, Qw, hr, hS, h, k⟩ := h
  have un := E.un
  cases ws with
  | nil => exact (show False from h).elim
  | cons w ws => cases ws with
    | cons _ _ => exact (show False from h).elim
    | nil =>
      obtain ⟨v, rfl, rv⟩ := rvs1 hr
      obtain ⟨u, rfl, ru⟩ := vals1 r
      obtain ⟨d, e, h1, h2, h3, h4⟩ := (show ∃ d, dat DEEP S w = some d ∧ d.showable = true ∧ d.depth ≤ 64 ∧ d.shown.length ≤ LIM ∧ Qw (.str d.shown.cps.toList) S from h)
      obtain ⟨as, a1, a2⟩ := reads_of E I hS _ _ _ _ _ e rv ru
      have fin : Q (.str d.shown) H := k.same hS h4 (by show V.str d.shown = V.str (S' d.shown.cps.toList); rw [S_tl])
      have f2 : ∀ (h' : Heap) (t : Tok) (tk : Nat), (∀ b o, s.heap.get? b = some o → h'.get? b = some o) → EP X pins σ Q (.str d.shown t) { s with heap := h', toks := tk } := fun h' t tk hk => ⟨.str d.shown, H, I.kept (t' := tk) hk, ⟨t, rfl⟩, fin⟩
      cases a1 with
      | none => exact PySem.P.repr_of_none (f2 s.heap _ _ fun _ _ e => e)
      | bool b => exact PySem.P.repr_of_bool (f2 s.heap _ _ fun _ _ e => e)
      | int i t => exact PySem.P.repr_of_int (of_decide_eq_true h1) (f2 s.heap _ _ fun _ _ e => e)
      | str x t => exact PySem.P.repr_of_str (f2 s.heap _ _ fun _ _ e => e) (by rw [← lim_eq]; exact h3)
      | list e1 e2 e3 e4 => exact PySem.repr_of_reads' (.list e1 e2 e3 e4) h1 (fun _ m => a2 _ m rfl) E.gd (by omega) (fun _ _ e => e) f2 (by rw [← lim_eq]; exact h3)
      | tuple e1 e2 e3 e4 => exact PySem.repr_of_reads' (.tuple e1 e2 e3 e4) h1 (fun _ m => a2 _ m rfl) E.gd (by omega) (fun _ _ e => e) f2 (by rw [← lim_eq]; exact h3)
      | dict e1 e2 e3 e4 e5 => exact PySem.repr_of_reads' (.dict e1 e2 e3 e4 e5) h1 (fun _ m => a2 _ m rfl) E.gd (by omega) (fun _ _ e => e) f2 (by rw [← lim_eq]; exact h3)
end
end MP
/-! MPY: a caught exception as a value: isinstance of it, its fields. -/
namespace MP
open PySem L2 PyProof.Rows PySem.W PySem.Spec PySem.Calls
section
variable {prog : Program} {w : World} {A : Around} {E : Value → Shared → Prop} {s : Shared} {K : Frag} {x D : Addr} {ox : Obj} {od : Option Obj}
theorem xc_class {Q : Option Value → Shared → Prop} (Z : ExcC K D) (kin : K.In s.heap) (J : InstAt s.heap x ox D od) (q : Q (some (.ref D)) { s with toks := s.toks + 1 }) : wpAny (model prog w) A (getAttr? (.ref x) "__class__") Q E s := by
  have fd : findObj K D od "__class__" = some (.bind (.builtin "getset_descriptor.__get__") (.builtin "object.__class__")) := by
    obtain ⟨cd, c1, _⟩ := any_some Z.hd
    unfold findObj
    rw [c1, Option.bind_some, Z.ha, Option.bind_some]
    simp [Z.hn, Z.ht]
  obtain ⟨hp, gs, dr, tk, oS⟩ := s
  have k0 := J.type (M := model prog w)
  have k1 := looks_findIn (M := model prog w) kin Z.hg
  have k2 := looks_findIn (M := model prog w) kin Z.hk
  have k3 := looks_find (M := model prog w) kin J fd
  have ksub : Looks (model prog w) hp (isInstance (.ref x) (.type "BaseException")) true := k0.andThen (looks_subIn kin Z.hs)
  have n0 : (false && onTheHeap (Value.builtin "BaseException.__getattribute__")) = false := rfl
  have n1 : (Value.builtin "BaseException.__getattribute__" == Value.builtin "object.__getattribute__") = false := by decide +kernel
  have n2 : (onTheHeap (Value.ref D) && Value.builtin "BaseException.__getattribute__" == Value.builtin "object.__getattribute__") = false := by rw [n1]; rfl
  unfold getAttr? getAttrBy? getAttrBy
  refine wpAny_bind (wpAny_mkText (wpAny_bind (wpAny_attempt (wpAny_holding (wpAny_bind (k0.at (wpAny_bind (k1.at ?_))))))))
  show wpAny _ _ (ite ((onTheHeap (Value.ref D) && Value.builtin "BaseException.__getattribute__" == Value.builtin "object.__getattribute__") = true) _ _) _ _ _
  rw [n2, if_neg Bool.false_ne_true]
  unfold getAttrByItsOwn hookBefore
  refine wpAny_bind ?_
  rw [if_pos (by rfl : onTheHeap (Value.ref D) = true)]
  refine k2.at (wpAny_bind (wpAny_attempt (wpAny_holding ?_)))
  unfold callGetattribute
  rw [n0, if_neg Bool.false_ne_true]
  unfold boundAndCalled
  rw [PySem.F.excAttr_ValueError.ga.bind (.ref x)]
  refine wpAny_bind (wpAny_pure ?_)
  show wpAny _ _ (call (.builtin "BaseException.__getattribute__") [Value.ref x, Value.str "__class__" tk]) _ _ _
  refine wpAny_call (codeAny_call_builtin PySem.F.excAttr_ValueError.ga.plain PySem.F.entry_bexc_ga ?_)
  refine @check_slot (model prog w) _ _ ⟨hp, gs, dr, tk + 1, oS⟩ "BaseException.__getattribute__" "BaseException" "__getattribute__" (.ref x) [.str "__class__" tk] [] _ (by decide +kernel) (by decide +kernel) ksub (PySem.F.args_bexc_ga (.ref x) (.str "__class__" tk)) ?_
  unfold Builtin.«object.__getattribute__»
  refine wpAny_bind (wpAny_of_eq (a := ((Value.ref x : Value), [Value.str "__class__" tk])) (by first | rfl | (simp only [slotArgs]; rfl)) ?_)
  refine wpAny_bind (wpAny_pure (wpAny_bind (k0.at (wpAny_bind (k3.at ?_)))))
  show wpAny _ _ (holding [Value.builtin "object.__class__"] (call (.builtin "getset_descriptor.__get__") [.builtin "object.__class__", .ref x, .ref D]) >>= ret) _ _ _
  refine wpAny_bind (wpAny_holding (wpAny_call (class_get (s := ⟨hp, gs, dr, tk + 1, oS⟩) (ox := ox) (od := od) kin J Z.hm ?_)))
  refine wpAny_pure ?_
  show wpAny _ _ (handedOut (.ref D)) _ _ _
  rw [handedOut_of (v := .ref D) rfl]
  first
    | exact wpAny_pure (wpAny_pure q)
    | exact wpAny_pure q
    | exact wpAny_pure (wpAny_bind (wpAny_pure (wpAny_pure q)))
theorem xc_kit (Z : ExcC K D) : KitX K (.ref x) (.ref D) (fun h => InstAt h x ox D od) where
  ty := fun _ _ _ J => J.type
  it := fun _ _ kin _ => by
    obtain ⟨cd, c1, _⟩ := any_some Z.hd
    unfold clsIn at c1
    split at c1
    · rename_i c2 d2 cd2 sl2 e2
      intro A2 Q2 E2 s2 kp q2
      unfold isType loadHead
      exact wpAny_bind (wpAny_loadPart (kp _ _ (kin _ _ e2)) (wpAny_pure q2))
    · cases c1
  ne := fun h tp dd its n sl kin htp => by
    obtain ⟨cd, c1, _⟩ := any_some Z.hd
    refine Bool.eq_false_iff.mpr fun z => ?_
    have e0 : D = tp := Value.ref.inj (beq_iff_eq.mp z)
    subst e0
    unfold clsIn at c1
    split at c1
    · rename_i c2 d2 cd2 sl2 e2
      have z2 := (kin _ _ e2).symm.trans htp
      cases z2
    · cases c1
  ca := fun kin J q => xc_class Z kin J q
end
section
variable {R : RC} {G : Gm} {X : Cx} {pins : List (Addr × Obj)} {τ : L2.St} {H : Hp} {s : Shared}
/-- how a told exception stands in the heap -/
theorem xc_inst {D : Addr} {c : Nat} {oe : Obj} {p : Addr} {fsr : List (Str × V)} (I : L2.Inv X pins τ H s) (hp : H p = some (.frz oe XO)) (h : XcO R H c oe fsr) (hc : R.xcl c = .ref D) : ∃ od, InstAt s.heap p oe D od ∧ (fsr = [] ∨ ∃ o, od = some o ∧ ∃ mA : Str → Option Value, (∀ name, lookIn name o = some (mA name)) ∧ ∀ f, RelO (fsr.lookup f) (mA f)) := by
  obtain ⟨h1, ⟨vs, h2⟩, h3⟩ := h
  have g : s.heap.get? p = some oe := (show ObjOk X.prog X.w H s.heap p (.frz oe XO) from I.hok p _ hp).1
  have nc : notCls oe = true := by unfold notCls; rw [h2] <;> rfl
  rcases h3 with ⟨h4, h5⟩ | ⟨d, od, h4, h5⟩
  · exact ⟨none, ⟨g, h1.trans hc, nc, by rw [h5] <;> trivial⟩, .inl h4⟩
  · obtain ⟨g2, mA, ns, rel⟩ := (show ObjOk X.prog X.w H s.heap d (.frz od (.xd fsr)) from I.hok d _ h5)
    obtain ⟨o, ho, hl⟩ := lookIn_ns ns
    exact ⟨some o, ⟨g, h1.trans hc, nc, by rw [h4]; exact ho⟩, .inr ⟨o, rfl, mA, hl, rel⟩⟩
end
end MP
/-! MP8: isinstance, methods. -/
namespace MP
open PySem L2 PyProof.Rows
section
variable {R : RC} {G : Gm} {X : Cx}
/-! ### isinstance -/
def ktN : KT → String
  | .non => "NoneType" | .bool => "bool" | .int => "int" | .str => "str" | .tuple => "tuple" | .list => "list" | .dict => "dict" | .own _ => "" | .exc _ => ""
def trN : TR → String
  | .int => "int" | .bool => "bool" | .str => "str" | .tuple => "tuple" | .list => "list" | .dict => "dict" | .own _ => "" | .exc _ => ""
def ktV (R : RC) : KT → Value
  | .own c => .ref (R.cad c)
  | .exc c => R.xcl c
  | k => .type (ktN k)
def trV (R : RC) : TR → Value
  | .own c => .ref (R.cad c)
  | .exc c => R.xcl c
  | k => .type (trN k)
def vOf : Value → V
  | .ref a => .ref a
  | .type n => .ty n
  | _ => .non
def trL (R : RC) : TR → V
  | .own c => .ref (R.cad c)
  | .exc c => vOf (R.xcl c)
  | k => .ty (trN k)
theorem trCls (E : E1 R G X) (t : TR) (ht : trOk G t = true) : ClsV (trL R t) (trV R t) := by
  cases t <;> first
    | exact ClsV.ty _
    | exact ClsV.own _
    | (rename_i c
       rcases E.xcs.xk c ht with ⟨C, e⟩ | ⟨n, e⟩
       · show ClsV (vOf (R.xcl c)) (R.xcl c)
         rw [e]
         exact ClsV.own _
       · show ClsV (vOf (R.xcl c)) (R.xcl c)
         rw [e]
         exact ClsV.ty _)
theorem kit_ok (E : E1 R G X) {S : Sto} {w : W} {k : KT} {t : TR} (hk : kindW G S w = some k) (ht : trOk G t = true) : PySem.W.kitOne X.K (ktV R k) (trV R t) = some (isK G k t) := by
  rw [E.K]
  have hx : ∀ c, k = .exc c → G.xv c = true := fun c e => by
    subst e
    cases w with
    | xc d ns ws =>
      have h' : (if (G.xv d && (G.xi d).isSome) = true then some (KT.exc d) else none) = some (KT.exc c) := hk
      by_cases q : (G.xv d && (G.xi d).isSome) = true
      · rw [if_pos q] at h'
        cases h'
        exact (Bool.and_eq_true_iff.mp q).1
      · rw [if_neg q] at h'
        cases h'
    | ref a =>
      have h' : (match S a with
        | some (.lst _) => some KT.list
        | some (.dct _) => some .dict
        | some (.ins c _) => if (G.cd c).isSome = true then some (.own c) else none
        | _ => none) = some (KT.exc c) := hk
      cases ea : S a with
      | none => rw [ea] at h'; cases h'
      | some oa => cases oa with
        | ins d fs =>
          rw [ea] at h'
          have h2 : (if (G.cd d).isSome = true then some (KT.own d) else none) = some (KT.exc c) := h'
          by_cases q : (G.cd d).isSome = true
          · rw [if_pos q] at h2; cases h2
          · rw [if_neg q] at h2; cases h2
        | _ => rw [ea] at h'; cases h'
    | _ => cases hk
  have ho : ∀ c, k = .own c → (G.cd c).isSome = true := fun c e => by
    subst e
    cases w with
    | ref a =>
      have h' : (match S a with
        | some (.lst _) => some KT.list
        | some (.dct _) => some .dict
        | some (.ins c _) => if (G.cd c).isSome = true then some (.own c) else none
        | _ => none) = some (KT.own c) := hk
      cases ea : S a with
      | none => rw [ea] at h'; cases h'
      | some oa => cases oa with
        | ins d fs =>
          rw [ea] at h'
          by_cases q : (G.cd d).isSome = true
          · have h2 : (if (G.cd d).isSome = true then some (KT.own d) else none) = some (KT.own c) := h'
            rw [if_pos q] at h2
            cases h2
            exact q
          · have h2 : (if (G.cd d).isSome = true then some (KT.own d) else none) = some (KT.own c) := h'
            rw [if_neg q] at h2
            cases h2
        | _ => rw [ea] at h'; cases h'
    | xc d ns ws =>
      have h' : (if (G.xv d && (G.xi d).isSome) = true then some (KT.exc d) else none) = some (KT.own c) := hk
      by_cases q : (G.xv d && (G.xi d).isSome) = true
      · rw [if_pos q] at h'; cases h'
      · rw [if_neg q] at h'; cases h'
    | _ => cases hk
  cases k with
  | own c => cases t with
    | own d => exact E.oo c d (ho c rfl) ht
    | exc d => exact (E.xcs.xo d c ht (ho c rfl)).2
    | _ => exact (E.bo c _ (ho c rfl) (by decide)).2
  | exc c => cases t with
    | own d => exact (E.xcs.xo c d (hx c rfl) ht).1
    | exc d => exact (E.xcs.xx c d (hx c rfl) ht).1
    | _ => exact (E.xcs.xb c _ (hx c rfl) (by decide)).2
  | _ => cases t with
    | own d => exact (E.bo d _ ht (by decide)).1
    | exc d => exact (E.xcs.xb d _ ht (by decide)).1
    | _ => first
      | exact kit_ty (r := true) (by decide +kernel)
      | exact kit_ty (r := false) (by decide +kernel)
theorem kind_ty (E : E1 R G X) {S : Sto} {H : Hp} {w : W} {v : V} {k : KT} (hk : kindW G S w = some k) (hw : ∀ c ns ws, w ≠ .xc c ns ws) (r : RV R H w v) (hS : Sim R S H) : TyX X.K H v (ktV R k) := by
  cases w with
  | non => cases hk; cases r; exact .base .non
  | bl b => cases hk; cases r; exact .base (.bl b)
  | int i => cases hk; cases r; exact .base (.int i)
  | str l => cases hk; cases r; exact .base (.str _)
  | tup ws =>
    obtain ⟨p, vs, rfl, hp, _⟩ := r
    cases hk
    rcases hp with (hp | ⟨o, hp⟩) | ⟨o, its, n, hp, hc, _⟩
    · exact .base (.tup hp)
    · exact .fTuple hp
    · exact .kTuple (by rw [E.K]; exact hp) hc
  | rl ws =>
    obtain ⟨p, vs, rfl, hp, _⟩ := r
    cases hk
    rcases hp with ⟨o, hp⟩ | ⟨its, n, hp, _⟩
    · exact .base (.frz hp)
    · exact .kList (by rw [E.K]; exact hp) rfl
  | rd ks ws =>
    obtain ⟨p, o, kvr, rfl, hp, _⟩ := r
    cases hk
    exact .fDict hp
  | ref a =>
    cases r
    have h' : (match S a with
      | some (.lst _) => some KT.list
      | some (.dct _) => some .dict
      | some (.ins c _) => if (G.cd c).isSome = true then some (.own c) else none
      | _ => none) = some k := hk
    cases ea : S a with
    | none => rw [ea] at h'; cases h'
    | some oa => cases oa with
      | lst ws =>
        rw [ea] at h'; cases h'
        obtain ⟨vs, q1, _⟩ := hS a _ ea
        exact .base (.lst q1)
      | dct kvs =>
        rw [ea] at h'; cases h'
        obtain ⟨vs, q1, _⟩ := hS a _ ea
        exact .base (.dK q1)
      | ins d fs =>
        rw [ea] at h'
        obtain ⟨dx, fr, q1, _⟩ := hS a _ ea
        have h2 : (if (G.cd d).isSome = true then some (KT.own d) else none) = some k := h'
        by_cases q : (G.cd d).isSome = true
        · rw [if_pos q] at h2
          cases h2
          obtain ⟨o1, o2, o3, o4, o5⟩ := E.own d q
          exact .base (.ins q1 (by rw [E.K]; exact o1) (by rw [E.K]; exact o2) (by rw [E.K]; exact o3) (by rw [E.K]; exact o4) (by rw [E.K]; exact o5))
        · rw [if_neg q] at h2
          cases h2
      | _ => rw [ea] at h'; cases h'
  | xc c ns ws => exact absurd rfl (hw c ns ws)
  | _ => cases hk
def LIsi (R : RC) (G : Gm) (t : TR) : List V → Hp → VK → Prop := fun xs H Q => ∃ (w : W) (v : V) (S : Sto) (b : Bool), xs = [v, trL R t] ∧ RV R H w v ∧ Sim R S H ∧ isiW G S w t = some b ∧ Q (.bl b) H
theorem ok_isi (E : E1 R G X) (t : TR) : CallR X (.builtin "isinstance") (LIsi R G t) := by
  intro pins s σ H xs us Q I r h
  obtain ⟨w, v, S, b, rfl, rv, hS, e, q⟩ := h
  unfold isiW at e
  by_cases ht : trOk G t = true
  · rw [if_pos ht] at e
    obtain ⟨k, hk, rfl⟩ := Option.map_eq_some_iff.mp e
    cases w with
    | xc c ns ws =>
      obtain ⟨p, oe, fsr, rfl, hp, hx, _, _⟩ := rv
      have hk' : (if (G.xv c && (G.xi c).isSome) = true then some (KT.exc c) else none) = some k := hk
      by_cases z : (G.xv c && (G.xi c).isSome) = true
      · rw [if_pos z] at hk'
        cases hk'
        obtain ⟨D, hD, Z⟩ := E.xcs.xi c (Bool.and_eq_true_iff.mp z).2
        obtain ⟨u1, u2, rfl, r1, r2⟩ := vals2 r
        obtain rfl : u1 = Value.ref p := r1
        have e2 := (trCls E t ht).eq r2
        subst e2
        obtain ⟨od, J, _⟩ := xc_inst I hp hx hD
        have ko := kit_ok E hk ht
        rw [show ktV R (KT.exc c) = R.xcl c from rfl, hD] at ko
        exact PySem.W.kia_one (xc_kit (od := od) (ox := oe) (x := p) (by rw [E.K]; exact Z)) I.kIn J ko (fun z => nomatch z) fun tk => ⟨.bl _, H, I.tok tk, rfl, q⟩
      · rw [if_neg z] at hk'
        cases hk'
    | _ => exact call_isi pins s σ H _ _ Q I r ⟨v, trL R t, ktV R k, trV R t, isK G k t, rfl, trCls E t ht, kind_ty E hk (fun _ _ _ z => nomatch z) rv hS, kit_ok E hk ht, q⟩
  · rw [if_neg ht] at e
    cases e

/-! ### methods -/
def tyN : Ty → String
  | .list => "list" | .dict => "dict" | .str => "str"
def bmN : BM → String
  | .append => "append" | .pop => "pop" | .get => "get" | .items => "items" | .values => "values" | .keys => "keys" | .join => "join" | .split => "split" | .partition => "partition" | .clear => "clear"
  | .index => "index" | .count => "count" | .update => "update" | .insert => "insert" | .setdefault => "setdefault" | .splitlines => "splitlines" | .upper => "upper" | .reverse => "reverse" | .extend => "extend" | .replace => "replace" | .remove => "remove"
def idN (T : Ty) (m : BM) : String := tyN T ++ "." ++ bmN m
def MtF (X : Cx) (T : Ty) (m : BM) (id : String) (r : V → List V → Hp → VK → Prop) : Prop := PlainAttrs (tyN T) ∧ Slot (tyN T) (bmN m) id ∧ typeOf (.builtin id) = pure (.type "method_descriptor") ∧ MtR X id r
theorem sum_len (ls : List (List Nat)) : ((ls.map S').map (·.length)).sum = (ls.map List.length).sum := by
  rw [List.map_map]
  exact congrArg List.sum (List.map_congr_left fun l _ => S_len l)
/-- what a dict holds, by the layer's heap -/
theorem dct_sq {S : Sto} {H : Hp} {w : W} {v : V} {kvs : List (KW × W)} (h : dctW S w = some kvs) (r : RV R H w v) (hS : Sim R S H) : ∃ a kvr, v = .ref a ∧ Rd H a (.dK kvr) ∧ kvr.map (·.1) = kvs.map (fun q => kR q.1) ∧ RVs R H (kvs.map (·.2)) (kvr.map (·.2)) := by
  cases w with
  | rd ks us =>
    cases h
    obtain ⟨p, o, kvr, rfl, e0, e1, e2⟩ := r
    obtain ⟨z1, z2, _⟩ := rd_zip e1 e2
    exact ⟨p, kvr, rfl, .inr ⟨o, e0⟩, z1, z2⟩
  | ref a =>
    cases r
    have h' : (match S a with
      | some (.dct kvs) => some kvs
      | _ => none) = some kvs := h
    cases ea : S a with
    | none => rw [ea] at h'; cases h'
    | some oa => cases oa with
      | dct us =>
        rw [ea] at h'; cases h'
        obtain ⟨kvr, e1, e2, e3⟩ := hS a _ ea
        exact ⟨a, kvr, rfl, .inl e1, e2, e3⟩
      | _ => rw [ea] at h'; cases h'
  | _ => cases h
theorem DGrd {H : Hp} {a : Addr} {kvs : List (Key × V)} {k : Key} (e : Rd H a (.dK kvs)) : DGet H a (kV k) (valV kvs k) := .inl ⟨kvs, k, e, rfl, rfl⟩
theorem cnt_of {v : V} {u : Value} (rv : RelV v u) : ∀ {vs : List V} {us : List Value}, Vals vs us → (∀ x, x ∈ vs → flatV x = true) → us.countP (eqU v) = vs.countP (fun x => eqV x v)
  | _, _, .nil, _ => rfl
  | _, _, .cons r t, h => by
    rw [List.countP_cons, List.countP_cons, cnt_of rv t fun x m => h x (List.mem_cons_of_mem _ m), eqU_of r (h _ List.mem_cons_self)]
theorem cnt_feq {R : RC} {H : Hp} {w : W} {v : V} (fw : flW w = true) (rv : RV R H w v) : ∀ {ws : List W} {vs : List V}, RVs R H ws vs → ws.all flW = true → vs.countP (fun x => eqV x v) = ws.countP fun u => feq u w
  | [], _, h, _ => by cases h; rfl
  | w' :: ws, _, h, hf => by
    obtain ⟨x, r, rfl, h1, h2⟩ := h
    rw [List.all_cons, Bool.and_eq_true] at hf
    rw [List.countP_cons, List.countP_cons, cnt_feq fw rv h2 hf.2, feq_of hf.1 fw h1 rv]
theorem rvs_strs {H : Hp} : ∀ ys : List Str, RVs R H (ys.map fun x => W.str x.cps.toList) (ys.map V.str)
  | [] => rfl
  | y :: ys => ⟨V.str y, _, rfl, by show V.str y = V.str (S' y.cps.toList); rw [S_tl], rvs_strs ys⟩
/-- l.count(x), flat values -/
theorem mt_countF : MtR X "list.count" (fun x xs H Q => ∃ (p : Addr) (vs : List V) (y : V), x = .ref p ∧ xs = [y] ∧ SqL X.K H p vs ∧ flatV y = true ∧ (∀ x, x ∈ vs → flatV x = true) ∧ Q (.int (vs.countP (fun x => eqV x y) : Nat)) H) := by
  intro pins s σ H x xs v us Q I rx rxs h
  obtain ⟨p, vs, y, rfl, rfl, hs, fy, fys, q⟩ := h
  cases rx
  obtain ⟨u, rfl, ru⟩ := vals1 rxs
  obtain ⟨its, rv, ⟨⟨cls, dd, data, sl⟩, n, ho, hc, hdn, hd⟩, hlen⟩ := I.list hs
  simp only at hc hd; subst hc hd
  have ec : its.toArray.toList.countP (eqU y) = vs.countP fun x => eqV x y := cnt_of ru rv fys
  refine call_meets PySem.F.slot_list_count ⟨_, ho, rfl⟩ PySem.F.entry_list_count (PySem.F.args_list_count_2 _ _) (SeqAt.list_countAt p its.toArray n dd sl u (eqU y)) ⟨ho, fun u' hu' => mem_eqAt ru fy rv (List.all_eq_true.mpr fys) u' (by simpa using hu'), ?_⟩
  exact ⟨.int (vs.countP (fun x => eqV x y) : Nat), H, I.tok _, ⟨s.toks, by rw [ec]⟩, q⟩
theorem mt_of (E : E1 R G X) {T : Ty} {m : BM} (h : supM T m = true) : ∃ id, MtF X T m id (LM R (bmW T m)) := by
  have un := E.un
  cases T <;> cases m <;> first | (cases h; done) | skip
  · -- list.append
    refine ⟨"list.append", PySem.F.plainAttrs_list, PySem.F.slot_list_append, PySem.type_list_append, fun pins s σ H x xs v us Q I rx rxs h => ?_⟩
    obtain ⟨w, ws, S, Qw, hw, hws, hS, h, k⟩ := h
    match w, ws, h, hw, hws with
    | .ref a, [u], h, hw, hws =>
      cases hw
      obtain ⟨y, rfl, ry⟩ := rvs1 hws
      have h' : (match S a with
        | some (.lst xs) => xs.length < LIM ∧ Qw .non (ups S a (.lst (xs ++ [u])))
        | _ => False) := h
      cases ea : S a with
      | none => rw [ea] at h'; exact h'.elim
      | some oa => cases oa with
        | lst zs =>
          rw [ea] at h'
          obtain ⟨vs, q1, r1⟩ := hS a _ ea
          obtain ⟨k1, k2⟩ := hS.chg (u := .lst (vs ++ [y])) (o1 := .lst (zs ++ [u])) ea (fun _ z => nomatch z) fun H2 f1 f2 e2 => ⟨_, e2, (f2 _ _ r1).append (.one (f1 _ _ ry))⟩
          exact mt_append pins s σ H _ _ v us Q I rx rxs ⟨a, vs, y, rfl, rfl, q1, by rw [r1.length, ← lim_eq]; exact h'.1, k _ _ _ _ h'.2 rfl k1 k2⟩
        | _ => rw [ea] at h'; exact h'.elim
  · -- list.pop
    refine ⟨"list.pop", PySem.F.plainAttrs_list, PySem.F.slot_list_pop, PySem.F.type_list_pop, fun pins s σ H x xs v us Q I rx rxs h => ?_⟩
    obtain ⟨w, ws, S, Qw, hw, hws, hS, h, k⟩ := h
    match w, ws, h, hw, hws with
    | .ref a, [.int i], h, hw, hws =>
      cases hw
      obtain ⟨y, rfl, ry⟩ := rvs1 hws
      cases ry
      have h' : (match S a with
        | some (.lst xs) => (match L2.ixN xs.length i with
          | some k => (match xs[k]? with
            | some y => Qw y (ups S a (.lst (xs.eraseIdx k)))
            | none => False)
          | none => False)
        | _ => False) := h
      cases ea : S a with
      | none => rw [ea] at h'; exact h'.elim
      | some oa => cases oa with
        | lst zs =>
          rw [ea] at h'
          obtain ⟨vs, q1, r1⟩ := hS a _ ea
          have h2 : (match L2.ixN zs.length i with
          | some k => (match zs[k]? with
            | some y => Qw y (ups S a (.lst (zs.eraseIdx k)))
            | none => False)
          | none => False) := h'
          cases ei : L2.ixN zs.length i with
          | none => rw [ei] at h2; exact h2.elim
          | some j =>
            rw [ei] at h2
            have h3 : (match zs[j]? with
            | some y => Qw y (ups S a (.lst (zs.eraseIdx j)))
            | none => False) := h2
            cases ej : zs[j]? with
            | none => rw [ej] at h3; exact h3.elim
            | some y =>
              rw [ej] at h3
              obtain ⟨yv, e4, r4⟩ := r1.get ej
              obtain ⟨m1, m2, m3, m4⟩ := ixN_seq ei
              obtain ⟨hz, _⟩ := I.lstM q1
              have hl63 := line63
              have hlen := r1.length
              obtain ⟨k1, k2⟩ := hS.chg (u := .lst (vs.eraseIdx j)) (o1 := .lst (zs.eraseIdx j)) ea (fun _ z => nomatch z) fun H2 f1 f2 e2 => ⟨_, e2, RVs.eraseIdx j (f2 _ _ r1)⟩
              exact mt_popAt pins s σ H _ _ v us Q I rx rxs ⟨a, vs, i, j, yv, rfl, rfl, q1, by omega, by omega, by rw [hlen]; exact m1, e4, k _ _ _ _ h3 (RV.mono hS k2 _ _ r4) k1 k2⟩
        | _ => rw [ea] at h'; exact h'.elim
  · -- list.clear
    refine ⟨"list.clear", PySem.F.plainAttrs_list, PySem.F.slot_list_clear, PySem.F.type_list_clear, fun pins s σ H x xs v us Q I rx rxs h => ?_⟩
    obtain ⟨w, ws, S, Qw, hw, hws, hS, h, k⟩ := h
    match w, ws, h, hw, hws with
    | .ref a, [], h, hw, hws =>
      cases hw; cases hws
      have h' : (match S a with
        | some (.lst xs) => Qw .non (ups S a (.lst []))
        | _ => False) := h
      cases ea : S a with
      | none => rw [ea] at h'; exact h'.elim
      | some oa => cases oa with
        | lst zs =>
          rw [ea] at h'
          obtain ⟨vs, q1, r1⟩ := hS a _ ea
          obtain ⟨k1, k2⟩ := hS.chg (u := .lst []) (o1 := .lst []) ea (fun _ z => nomatch z) fun H2 f1 f2 e2 => ⟨_, e2, rfl⟩
          exact mt_clear pins s σ H _ _ v us Q I rx rxs ⟨a, vs, rfl, rfl, q1, k _ _ _ _ h' rfl k1 k2⟩
        | _ => rw [ea] at h'; exact h'.elim
  · -- list.index
    refine ⟨"list.index", PySem.F.plainAttrs_list, PySem.F.slot_list_index, PySem.F.type_list_index, fun pins s σ H x xs v us Q I rx rxs h => ?_⟩
    obtain ⟨w, ws, S, Qw, hw, hws, hS, h, k⟩ := h
    match ws, h, hws with
    | [u], h, hws =>
      obtain ⟨y, rfl, ry⟩ := rvs1 hws
      have h' : (match rowL S w with
        | some ws => (flW u = true ∧ ws.all flW = true) ∧ (match ws.findIdx? fun z => feq z u with
          | some j => Qw (.int j) S
          | none => False)
        | none => False) := h
      cases ea : rowL S w with
      | none => rw [ea] at h'; exact h'.elim
      | some zs =>
        rw [ea] at h'
        obtain ⟨⟨f1, f2⟩, h2⟩ := h'
        cases ej : zs.findIdx? fun z => feq z u with
        | none => rw [ej] at h2; exact h2.elim
        | some j =>
          rw [ej] at h2
          obtain ⟨p, vs, rfl, hp, hv⟩ := row_sqL E.K ea hw hS
          obtain ⟨jl, j1, j2⟩ := List.findIdx?_eq_some_iff_getElem.mp ej
          obtain ⟨z, e4, r4⟩ := hv.get (List.getElem?_eq_getElem jl)
          have fz : flW zs[j] = true := List.all_eq_true.mp f2 _ (List.getElem_mem jl)
          refine mt_index pins s σ H _ _ v us Q I rx rxs ⟨p, vs, y, j, z, rfl, rfl, hp, fl_of f1 ry, fl_all f2 hv, e4, by rw [feq_of fz f1 r4 ry]; exact j1, fun m z' hm e => ?_, k.same hS h2 rfl⟩
          have hml : m < zs.length := by omega
          obtain ⟨z2, e5, r5⟩ := hv.get (List.getElem?_eq_getElem hml)
          rw [e] at e5
          cases e5
          rw [feq_of (List.all_eq_true.mp f2 _ (List.getElem_mem hml)) f1 r5 ry]
          simpa using j2 m hm
  · -- list.count
    refine ⟨"list.count", PySem.F.plainAttrs_list, PySem.F.slot_list_count, PySem.F.type_list_count, fun pins s σ H x xs v us Q I rx rxs h => ?_⟩
    obtain ⟨w, ws, S, Qw, hw, hws, hS, h, k⟩ := h
    match ws, h, hws with
    | [u], h, hws =>
      obtain ⟨y, rfl, ry⟩ := rvs1 hws
      have h' : (match rowL S w with
        | some ws => (flW u = true ∧ ws.all flW = true) ∧ Qw (.int (ws.countP fun z => feq z u : Nat)) S
        | none => False) := h
      cases ea : rowL S w with
      | none => rw [ea] at h'; exact h'.elim
      | some zs =>
        rw [ea] at h'
        obtain ⟨⟨f1, f2⟩, h2⟩ := h'
        obtain ⟨p, vs, rfl, hp, hv⟩ := row_sqL E.K ea hw hS
        refine mt_countF pins s σ H _ _ v us Q I rx rxs ⟨p, vs, y, rfl, rfl, hp, fl_of f1 ry, fun x m => List.all_eq_true.mp (fl_all f2 hv) x m, ?_⟩
        rw [cnt_feq f1 ry hv f2]
        exact k.same hS h2 rfl
  · -- list.reverse
    refine ⟨"list.reverse", PySem.F.plainAttrs_list, PySem.F.slot_list_reverse, PySem.F.type_list_reverse, fun pins s σ H x xs v us Q I rx rxs h => ?_⟩
    obtain ⟨w, ws, S, Qw, hw, hws, hS, h, k⟩ := h
    match w, ws, h, hw, hws with
    | .ref a, [], h, hw, hws =>
      cases hw; cases hws
      have h' : (match S a with
        | some (.lst xs) => Qw .non (ups S a (.lst xs.reverse))
        | _ => False) := h
      cases ea : S a with
      | none => rw [ea] at h'; exact h'.elim
      | some oa => cases oa with
        | lst zs =>
          rw [ea] at h'
          obtain ⟨vs, q1, r1⟩ := hS a _ ea
          obtain ⟨k1, k2⟩ := hS.chg (u := .lst vs.reverse) (o1 := .lst zs.reverse) ea (fun _ z => nomatch z) fun H2 f1 f2 e2 => ⟨_, e2, (f2 _ _ r1).reverse⟩
          exact mt_reverse pins s σ H _ _ v us Q I rx rxs ⟨a, vs, rfl, rfl, q1, k _ _ _ _ h' rfl k1 k2⟩
        | _ => rw [ea] at h'; exact h'.elim
  · -- dict.get
    refine ⟨"dict.get", PySem.F.plainAttrs_dict, PySem.F.slot_dict_get, PySem.F.type_dict_get, fun pins s σ H x xs v us Q I rx rxs h => ?_⟩
    obtain ⟨w, ws, S, Qw, hw, hws, hS, h, k⟩ := h
    match ws, h, hws with
    | [y], h, hws =>
      obtain ⟨yv, rfl, ry⟩ := rvs1 hws
      have h' : (match dctW S w, keyW y with
        | some kvs, some k => Qw ((lkW kvs k).getD .non) S
        | _, _ => False) := h
      cases ea : dctW S w with
      | none => rw [ea] at h'; exact h'.elim
      | some kvs =>
        cases ek : keyW y with
        | none => rw [ea, ek] at h'; exact h'.elim
        | some q =>
          rw [ea, ek] at h'
          obtain ⟨a, kvr, rfl, e1, e2, e3⟩ := dct_sq ea hw hS
          have ex := key_V ek ry
          subst ex
          obtain ⟨yu, rfl, ru⟩ := vals1 rxs
          have rx' : v = Value.ref a := rx
          subst rx'
          have fin : RV R H ((lkW kvs q).getD .non) ((valV kvr (kR q)).getD .non) := by
            obtain ⟨l1, l2⟩ := lk_val e2 e3 q
            cases el : lkW kvs q with
            | none => rw [l2 el]; rfl
            | some w =>
              obtain ⟨z, ez, rz⟩ := l1 w el
              rw [ez]
              exact rz
          exact d_get1 (by omega) I (DGrd e1) ru fun w' s' I' r' => ⟨_, H, I', r', k.same hS h' fin⟩
    | [y, z], h, hws =>
      obtain ⟨yv, zv, rfl, ry, rz⟩ := rvs2 hws
      have h' : (match dctW S w, keyW y with
        | some kvs, some k => Qw ((lkW kvs k).getD z) S
        | _, _ => False) := h
      cases ea : dctW S w with
      | none => rw [ea] at h'; exact h'.elim
      | some kvs =>
        cases ek : keyW y with
        | none => rw [ea, ek] at h'; exact h'.elim
        | some q =>
          rw [ea, ek] at h'
          obtain ⟨a, kvr, rfl, e1, e2, e3⟩ := dct_sq ea hw hS
          have ex := key_V ek ry
          subst ex
          obtain ⟨yu, zu, rfl, ru, rw_⟩ := vals2 rxs
          have rx' : v = Value.ref a := rx
          subst rx'
          have fin : RV R H ((lkW kvs q).getD z) ((valV kvr (kR q)).getD zv) := by
            obtain ⟨l1, l2⟩ := lk_val e2 e3 q
            cases el : lkW kvs q with
            | none => rw [l2 el]; exact rz
            | some w =>
              obtain ⟨z, ez, rz⟩ := l1 w el
              rw [ez]
              exact rz
          exact d_get2 (by omega) I (DGrd e1) ru rw_ fun w' s' I' r' => ⟨_, H, I', r', k.same hS h' fin⟩
    | [], h, hws => exact (show False from h).elim
    | _ :: _ :: _ :: _, h, hws => exact (show False from h).elim
  · -- dict.clear
    refine ⟨"dict.clear", PySem.F.plainAttrs_dict, PySem.F.slot_dict_clear, PySem.F.type_dict_clear, fun pins s σ H x xs v us Q I rx rxs h => ?_⟩
    obtain ⟨w, ws, S, Qw, hw, hws, hS, h, k⟩ := h
    match w, ws, h, hw, hws with
    | .ref a, [], h, hw, hws =>
      cases hw; cases hws
      have h' : (match S a with
        | some (.dct xs) => Qw .non (ups S a (.dct []))
        | _ => False) := h
      cases ea : S a with
      | none => rw [ea] at h'; exact h'.elim
      | some oa => cases oa with
        | dct zs =>
          rw [ea] at h'
          obtain ⟨vs, q1, r1⟩ := hS a _ ea
          obtain ⟨k1, k2⟩ := hS.chg (u := .dK []) (o1 := .dct []) ea (fun _ z => nomatch z) fun H2 f1 f2 e2 => ⟨_, e2, rfl, rfl⟩
          exact mtd_clear pins s σ H _ _ v us Q I rx rxs ⟨a, vs, rfl, rfl, q1, k _ _ _ _ h' rfl k1 k2⟩
        | _ => rw [ea] at h'; exact h'.elim
  · -- str.join
    refine ⟨"str.join", PySem.F.plainAttrs_str, PySem.F.slot_str_join, PySem.F.type_str_join, fun pins s σ H x xs v us Q I rx rxs h => ?_⟩
    obtain ⟨w, ws, S, Qw, hw, hws, hS, h, k⟩ := h
    match w, ws, h, hw, hws with
    | .str sp, [y], h, hw, hws =>
      cases hw
      obtain ⟨yv, rfl, ry⟩ := rvs1 hws
      have h' : (match rowW S y with
        | some ws => (match strsW ws with
          | some ls => ((ls.map List.length).sum + ls.length * sp.length ≤ LIM) ∧ Qw (.str (TL.joinL sp ls)) S
          | none => False)
        | none => False) := h
      cases er : rowW S y with
      | none => rw [er] at h'; exact h'.elim
      | some zs =>
        rw [er] at h'
        have h2 : (match strsW zs with
          | some ls => ((ls.map List.length).sum + ls.length * sp.length ≤ LIM) ∧ Qw (.str (TL.joinL sp ls)) S
          | none => False) := h'
        cases es : strsW zs with
        | none => rw [es] at h2; exact h2.elim
        | some ls =>
          rw [es] at h2
          obtain ⟨p, vs, rfl, hp, hv⟩ := row_sq E.K er ry hS
          rw [strs_V es hv] at hp
          have ej : Txt.join (S' sp) (ls.map S') = S' (TL.joinL sp ls) := SX.join_S sp ls
          exact mt_join pins s σ H _ _ v us Q I rx rxs ⟨S' sp, p, ls.map S', rfl, rfl, hp, by rw [sum_len, List.length_map, S_len]; exact h2.1, by rw [ej]; exact k.same hS h2.2 rfl⟩
  · -- str.split
    refine ⟨"str.split", PySem.F.plainAttrs_str, PySem.F.slot_str_split, PySem.F.type_str_split, fun pins s σ H x xs v us Q I rx rxs h => ?_⟩
    obtain ⟨w, ws, S, Qw, hw, hws, hS, h, k⟩ := h
    match w, ws, h, hw, hws with
    | .str l, [.str m], h, hw, hws =>
      cases hw
      obtain ⟨y, rfl, ry⟩ := rvs1 hws
      cases ry
      obtain ⟨⟨h1, h2⟩, h3⟩ := (show (m ≠ [] ∧ l.length + 2 ≤ LIM) ∧ newL ((Txt.split (S' l) (S' m)).map fun x => W.str x.cps.toList) S Qw from h)
      have hz : ((S' m).length == 0) = false := by rw [S_len]; cases m with
        | nil => exact absurd rfl h1
        | cons a b => rfl
      refine ep_cl (mt_split pins s σ H _ _ v us _ I rx rxs ⟨S' l, S' m, rfl, rfl, hz, by rw [S_len, ← lim_eq]; exact h2, fun p hp => new_lst hS k h3 hp ?_⟩)
      exact rvs_strs _
  · -- str.partition
    refine ⟨"str.partition", PySem.F.plainAttrs_str, PySem.F.slot_str_partition, PySem.F.type_str_partition, fun pins s σ H x xs v us Q I rx rxs h => ?_⟩
    obtain ⟨w, ws, S, Qw, hw, hws, hS, h, k⟩ := h
    match w, ws, h, hw, hws with
    | .str l, [.str m], h, hw, hws =>
      cases hw
      obtain ⟨y, rfl, ry⟩ := rvs1 hws
      cases ry
      obtain ⟨⟨h1, h2⟩, h3⟩ := (show (m ≠ [] ∧ l.length ≤ LIM) ∧ Qw (.tup [.str (Txt.partition (S' l) (S' m)).1.cps.toList, .str (Txt.partition (S' l) (S' m)).2.1.cps.toList, .str (Txt.partition (S' l) (S' m)).2.2.cps.toList]) S from h)
      have hz : ((S' m).length == 0) = false := by rw [S_len]; cases m with
        | nil => exact absurd rfl h1
        | cons a b => rfl
      refine mt_partition pins s σ H _ _ v us Q I rx rxs ⟨S' l, S' m, rfl, rfl, hz, by rw [S_len, ← lim_eq]; exact h2, fun p hp => new_tup hS k h3 hp ?_⟩
      exact rvs_strs [_, _, _]
  · -- str.upper
    refine ⟨"str.upper", PySem.F.plainAttrs_str, PySem.F.slot_str_upper, PySem.F.type_str_upper, fun pins s σ H x xs v us Q I rx rxs h => ?_⟩
    obtain ⟨w, ws, S, Qw, hw, hws, hS, h, k⟩ := h
    match w, ws, h, hw, hws with
    | .str l, [], h, hw, hws =>
      cases hw
      cases hws
      obtain ⟨h2, h3⟩ := (show l.length ≤ 5592405 ∧ Qw (.str (Txt.upper (S' l)).cps.toList) S from h)
      exact mt_upper pins s σ H _ _ v us Q I rx rxs ⟨S' l, rfl, rfl, by rw [S_len]; exact h2, k.same hS h3 (by show V.str _ = V.str (S' _); rw [S_tl])⟩
end
end MP
/-! MP9: expressions. -/
namespace MP
open PySem L2 PyProof.Rows
abbrev KA' (R : RC) (S : Sto) (H : Hp) (Qw : List W → Sto → Prop) (Q : List V → Hp → Prop) : Prop := ∀ ws S1 vs H1, Qw ws S1 → RVs R H1 ws vs → Sim R S1 H1 → Fr S H S1 H1 → Q vs H1
section
variable {R : RC} {G : Gm} {X : Cx}
section
variable {σ : Sl} {τ : L2.St} {S S1 : Sto} {H H1 : Hp}
/-- a sub-expression begun -/
theorem LE.go {t : TE'} {k : KE} {Q : VK} (hσ : RS R H σ τ) (hS : Sim R S H) (h : t σ S k) (n : ∀ w S1 v H1, k w S1 → RV R H1 w v → Sim R S1 H1 → Fr S H S1 H1 → RS R H1 σ τ → Q v H1) : LE R t τ H Q :=
  ⟨σ, S, k, hσ, hS, h, fun w S1 v H1 q r hS1 f => n w S1 v H1 q r hS1 f (hσ.mono hS f)⟩
theorem LT.go {t : TT'} {k : Bool → Sto → Prop} {Q : Bool → Hp → Prop} (hσ : RS R H σ τ) (hS : Sim R S H) (h : t σ S k) (n : ∀ b S1 H1, k b S1 → Sim R S1 H1 → Fr S H S1 H1 → RS R H1 σ τ → Q b H1) : LT R t τ H Q :=
  ⟨σ, S, k, hσ, hS, h, fun b S1 H1 q hS1 f => n b S1 H1 q hS1 f (hσ.mono hS f)⟩
theorem LA.go {m : Nat} {t : TA'} {k : List W → Sto → Prop} {Q : List V → Hp → Prop} (hσ : RS R H σ τ) (hS : Sim R S H) (h : t σ S k) (n : ∀ ws S1 vs H1, ws.length = m → k ws S1 → RVs R H1 ws vs → Sim R S1 H1 → Fr S H S1 H1 → RS R H1 σ τ → Q vs H1) : LA R m t τ H Q :=
  ⟨σ, S, k, hσ, hS, h, fun w S1 v H1 l q r hS1 f => n w S1 v H1 l q r hS1 f (hσ.mono hS f)⟩
theorem KV'.tr {Qw : KE} {Q : VK} (k : KV' R S H Qw Q) (f : Fr S H S1 H1) : KV' R S1 H1 Qw Q := fun w S2 v H2 q r hS2 f2 => k w S2 v H2 q r hS2 (f.trans f2)
end
variable {a b d : Expr} {ta tb td : TE'} {pos : Pos}
/-! ### names, constants -/
theorem e_var {i : Nat} {x : Str} (hN : X.N[i]? = some x) (hv : Vis X.env.scope x) (hd : (x == ("__debug__" : Str)) = false) (hcd : (x == ("__classdict__" : Str)) = false) : PE X (.Name x pos) (LE R (wVar i)) := by
  refine PE.imp (pe_var hN hv hd hcd) fun τ H Q h => ?_
  obtain ⟨σ, S, Qw, hσ, hS, h, k⟩ := h
  have h' : (match σ[i]? with
    | some (some w) => Qw w S
    | _ => False) := h
  cases e : σ[i]? with
  | none => rw [e] at h'; exact h'.elim
  | some o => cases o with
    | none => rw [e] at h'; exact h'.elim
    | some w =>
      rw [e] at h'
      obtain ⟨v, q, r⟩ := hσ.at_ i w e
      exact ⟨v, q, k w S v H h' r hS (Fr.refl _ _)⟩
theorem e_const {e : Expr} {v : V} {w : W} (he : PE X e (tC v)) (r : ∀ H, RV R H w v) : PE X e (LE R (wK w)) := by
  refine PE.imp he fun τ H Q h => ?_
  obtain ⟨σ, S, Qw, hσ, hS, h, k⟩ := h
  exact k w S v H h (r H) hS (Fr.refl _ _)
/-! ### operators -/
theorem two {r : R2} {g : W → W → Sto → KE → Prop} (hr : ∀ x y H Q, LO R g x y H Q → r x y H Q) {t : TE'} (ht : ∀ σ S Q, t σ S Q → ta σ S fun x S1 => tb σ S1 fun y S2 => g x y S2 Q) (τ : L2.St) (H : Hp) (Q : VK) (h : LE R t τ H Q) : tOp r (LE R ta) (LE R tb) τ H Q := by
  obtain ⟨σ, S, Qw, hσ, hS, h, k⟩ := h
  exact LE.go hσ hS (ht _ _ _ h) fun w S1 v H1 q1 r1 hS1 f1 hσ1 => LE.go hσ1 hS1 q1 fun w2 S2 v2 H2 q2 r2 hS2 f2 hσ2 => hr _ _ _ _ ⟨w, w2, S2, Qw, r1.mono hS1 f2, r2, hS2, q2, KV'.tr (KV'.tr k f1) f2⟩
theorem e_op (E : E1 R G X) {o : Operator} {p : Op} (e : opOf o = some p) (ha : PE X a (LE R ta)) (hb : PE X b (LE R tb)) : PE X (.BinOp a o b pos) (LE R (wOp p ta tb)) :=
  PE.imp (pe_op (ok_op E.K e) ha hb) fun τ H Q h => two (fun _ _ _ _ z => z) (fun _ _ _ z => z) τ H Q h
theorem e_neg (ha : PE X a (LE R ta)) : PE X (.UnaryOp .USub a pos) (LE R (wNeg ta)) := by
  refine PE.imp (pe_un un_neg ha) fun τ H Q h => ?_
  obtain ⟨σ, S, Qw, hσ, hS, h, k⟩ := h
  refine LE.go hσ hS h fun w S1 v H1 q1 r1 hS1 f1 hσ1 => ?_
  cases w with
  | int i => cases r1; exact ⟨i, rfl, k _ S1 _ H1 q1 rfl hS1 f1⟩
  | _ => exact (show False from q1).elim
/-! ### truth -/
theorem t_of (E : E1 R G X) {S : Sto} {H : Hp} {w : W} {v : V} {Qb : Bool → Sto → Prop} (h : match truW S w with
  | some b => Qb b S
  | none => False) (r : RV R H w v) (hS : Sim R S H) : ∃ k, TruV X.K v H k ∧ Qb k S := by
  cases e : truW S w with
  | none => rw [e] at h; exact h.elim
  | some b => rw [e] at h; exact ⟨b, ok_tru E.K e r hS, h⟩
theorem t_truth (E : E1 R G X) (ha : PE X a (LE R ta)) (he : ∀ whole, isTrue a X.env whole = (do let v ← whole; standAt a.pos; holding [v] (truthy v))) : PT X a (LT R (tT ta)) := by
  refine PT.imp (pt_truth ha he) fun τ H Q h => ?_
  obtain ⟨σ, S, Qw, hσ, hS, h, k⟩ := h
  refine LE.go hσ hS h fun w S1 v H1 q1 r1 hS1 f1 hσ1 => ?_
  obtain ⟨b, t, q⟩ := t_of (Qb := Qw) E q1 r1 hS1
  exact ⟨b, t, k b S1 H1 q hS1 f1⟩
theorem t_not {t : TT'} (ha : PT X a (LT R t)) : PT X (.UnaryOp .Not a pos) (LT R (wNotT t)) := by
  refine PT.imp (pt_not ha) fun τ H Q h => ?_
  obtain ⟨σ, S, Qw, hσ, hS, h, k⟩ := h
  exact LT.go hσ hS h fun b S1 H1 q1 hS1 f1 hσ1 => k _ S1 H1 q1 hS1 f1
theorem e_not (E : E1 R G X) (ha : PE X a (LE R ta)) : PE X (.UnaryOp .Not a pos) (LE R (wNot ta)) := by
  refine ⟨fun pins s τ H Q I h => ?_⟩
  obtain ⟨σ, S, Qw, hσ, hS, h, k⟩ := h
  refine UnaryOp_ (thn (ha.run pins s τ H (fun v H1 => ∃ b, TruV X.K v H1 b ∧ Q (.bl (!b)) H1) I (LE.go hσ hS h fun w S1 v H1 q1 r1 hS1 f1 hσ1 => ?_)) fun v s1 ⟨x, H1, I1, r1, q1⟩ => ?_)
  · obtain ⟨b, t, q⟩ := t_of (Qb := fun b S => Qw (.bl (!b)) S) E q1 r1 hS1
    exact ⟨b, t, k _ S1 _ H1 q rfl hS1 f1⟩
  · obtain ⟨c, t, q⟩ := q1
    exact not_of (thn (tru_ok pins s1 τ H1 x v (fun b H2 => Q (.bl (!b)) H2) I1 r1 ⟨c, t, q⟩) fun c' s2 ⟨H2, I2, q2⟩ => ⟨.bl (!c'), H2, I2, rfl, q2⟩)
theorem e_and (E : E1 R G X) {rest : List Expr} (ha : PE X a (LE R ta)) (hb : PE X (.BoolOp .And (b :: rest) pos) (LE R tb)) : PE X (.BoolOp .And (a :: b :: rest) pos) (LE R (wAnd ta tb)) := by
  refine ⟨fun pins s τ H Q I h => ?_⟩
  obtain ⟨σ, S, Qw, hσ, hS, h, k⟩ := h
  refine BoolOp_and (thn (ha.run pins s τ H (fun v H1 => ∃ b, TruV X.K v H1 b ∧ if b = true then LE R tb τ H1 Q else Q v H1) I (LE.go hσ hS h fun w S1 v H1 q1 r1 hS1 f1 hσ1 => ?_)) fun v s1 ⟨x, H1, I1, r1, q1⟩ => ?_)
  · obtain ⟨b, t, q⟩ := t_of (Qb := fun b S1 => if b = true then tb σ S1 Qw else Qw w S1) E q1 r1 hS1
    refine ⟨b, t, ?_⟩
    cases b with
    | true => exact ⟨σ, S1, Qw, hσ1, hS1, q, KV'.tr k f1⟩
    | false => exact k w S1 v H1 q r1 hS1 f1
  · obtain ⟨c, t, q⟩ := q1
    refine thn (tru_ok pins s1 τ H1 x v (fun b H2 => if b = true then LE R tb τ H2 Q else Q x H2) I1 r1 ⟨c, t, q⟩) fun c' s2 ⟨H2, I2, q2⟩ => ?_
    cases c' with
    | true => exact hb.run pins s2 τ H2 Q I2 q2
    | false => exact ⟨x, H2, I2, r1, q2⟩
theorem e_or (E : E1 R G X) {rest : List Expr} (ha : PE X a (LE R ta)) (hb : PE X (.BoolOp .Or (b :: rest) pos) (LE R tb)) : PE X (.BoolOp .Or (a :: b :: rest) pos) (LE R (wOr ta tb)) := by
  refine ⟨fun pins s τ H Q I h => ?_⟩
  obtain ⟨σ, S, Qw, hσ, hS, h, k⟩ := h
  refine BoolOp_or (thn (ha.run pins s τ H (fun v H1 => ∃ b, TruV X.K v H1 b ∧ if b = true then Q v H1 else LE R tb τ H1 Q) I (LE.go hσ hS h fun w S1 v H1 q1 r1 hS1 f1 hσ1 => ?_)) fun v s1 ⟨x, H1, I1, r1, q1⟩ => ?_)
  · obtain ⟨b, t, q⟩ := t_of (Qb := fun b S1 => if b = true then Qw w S1 else tb σ S1 Qw) E q1 r1 hS1
    refine ⟨b, t, ?_⟩
    cases b with
    | false => exact ⟨σ, S1, Qw, hσ1, hS1, q, KV'.tr k f1⟩
    | true => exact k w S1 v H1 q r1 hS1 f1
  · obtain ⟨c, t, q⟩ := q1
    refine thn (tru_ok pins s1 τ H1 x v (fun b H2 => if b = true then Q x H2 else LE R tb τ H2 Q) I1 r1 ⟨c, t, q⟩) fun c' s2 ⟨H2, I2, q2⟩ => ?_
    cases c' with
    | false => exact hb.run pins s2 τ H2 Q I2 q2
    | true => exact ⟨x, H2, I2, r1, q2⟩
theorem w_and {t u : TT'} {rest : List Expr} (ha : PT X a (LT R t)) (hb : PW X (.BoolOp .And (b :: rest) pos) (LT R u)) : PW X (.BoolOp .And (a :: b :: rest) pos) (LT R (wAndT t u)) := by
  refine ⟨fun wh pins s τ H Q I h => (pw_and ha hb).run wh pins s τ H Q I ?_⟩
  obtain ⟨σ, S, Qw, hσ, hS, h, k⟩ := h
  refine LT.go hσ hS h fun c S1 H1 q1 hS1 f1 hσ1 => ?_
  cases c with
  | true => exact ⟨σ, S1, Qw, hσ1, hS1, q1, fun b S2 H2 q hS2 f2 => k b S2 H2 q hS2 (f1.trans f2)⟩
  | false => exact k _ S1 H1 q1 hS1 f1
theorem w_or {t u : TT'} {rest : List Expr} (ha : PT X a (LT R t)) (hb : PW X (.BoolOp .Or (b :: rest) pos) (LT R u)) : PW X (.BoolOp .Or (a :: b :: rest) pos) (LT R (wOrT t u)) := by
  refine ⟨fun wh pins s τ H Q I h => (pw_or ha hb).run wh pins s τ H Q I ?_⟩
  obtain ⟨σ, S, Qw, hσ, hS, h, k⟩ := h
  refine LT.go hσ hS h fun c S1 H1 q1 hS1 f1 hσ1 => ?_
  cases c with
  | false => exact ⟨σ, S1, Qw, hσ1, hS1, q1, fun b S2 H2 q hS2 f2 => k b S2 H2 q hS2 (f1.trans f2)⟩
  | true => exact k _ S1 H1 q1 hS1 f1
theorem t_w {op : BoolOp} {vs : List Expr} {t : TT} (h : PW X (.BoolOp op vs pos) t) : PT X (.BoolOp op vs pos) t := ⟨fun pins s τ H Q I q => h.run _ pins s τ H Q I q⟩
theorem e_ite {t : TT'} (hd : PT X d (LT R t)) (ha : PE X a (LE R ta)) (hb : PE X b (LE R tb)) : PE X (.IfExp d a b pos) (LE R (wIte t ta tb)) := by
  refine PE.imp (pe_ifExp hd ha hb) fun τ H Q h => ?_
  obtain ⟨σ, S, Qw, hσ, hS, h, k⟩ := h
  refine LT.go hσ hS h fun c S1 H1 q1 hS1 f1 hσ1 => ?_
  cases c with
  | true => exact ⟨σ, S1, Qw, hσ1, hS1, q1, KV'.tr k f1⟩
  | false => exact ⟨σ, S1, Qw, hσ1, hS1, q1, KV'.tr k f1⟩
theorem t_ite {t u v : TT'} (hd : PT X d (LT R t)) (ha : PT X a (LT R u)) (hb : PT X b (LT R v)) : PT X (.IfExp d a b pos) (LT R (wIteT t u v)) := by
  refine ⟨fun pins s τ H Q I h => ?_⟩
  obtain ⟨σ, S, Qw, hσ, hS, h, k⟩ := h
  show wpAny _ _ (do if ← isTrue d X.env (eval d X.env) then isTrue a X.env (eval a X.env) else isTrue b X.env (eval b X.env)) _ _ s
  refine wpAny_bind (thn (hd.run pins s τ H (fun c H1 => if c = true then LT R u τ H1 Q else LT R v τ H1 Q) I (LT.go hσ hS h fun c S1 H1 q1 hS1 f1 hσ1 => ?_)) fun c s1 ⟨H1, I1, q1⟩ => ?_)
  · cases c with
    | true => exact ⟨σ, S1, Qw, hσ1, hS1, q1, fun b S2 H2 q hS2 f2 => k b S2 H2 q hS2 (f1.trans f2)⟩
    | false => exact ⟨σ, S1, Qw, hσ1, hS1, q1, fun b S2 H2 q hS2 f2 => k b S2 H2 q hS2 (f1.trans f2)⟩
  · cases c with
    | true => exact ha.run pins s1 τ H1 Q I1 q1
    | false => exact hb.run pins s1 τ H1 Q I1 q1
/-! ### comparisons -/
def cmOf : CmpOp → Option Cm
  | .Eq => some .eq | .NotEq => some .ne | .Lt => some .lt | .LtE => some .le | .Gt => some .gt | .GtE => some .ge | .Is => some .is | .IsNot => some .isn | .In => some .in_ | .NotIn => some .nin
theorem op_isN0 : OpR X (compareOp .Is) (fun x y H Q => y = .non ∧ Q (.bl ((fun b => b) (decide (x = .non)))) H) := by
  intro pins s σ H x y v u Q I rx ry h
  obtain ⟨rfl, q⟩ := h
  cases ry
  exact is_none_gen ⟨.bl _, H, I, by rw [rx.none_iff]; rfl, q⟩
theorem op_isnN0 : OpR X (compareOp .IsNot) (fun x y H Q => y = .non ∧ Q (.bl ((fun b => !b) (decide (x = .non)))) H) := by
  intro pins s σ H x y v u Q I rx ry h
  obtain ⟨rfl, q⟩ := h
  cases ry
  exact isnot_none_gen ⟨.bl _, H, I, by rw [rx.none_iff]; rfl, q⟩
end
end MP
/-! MP10: comparisons, displays, subscripts, slices, fields, calls of built-ins and methods. -/
namespace MP
open PySem L2 PyProof.Rows
section
variable {R : RC} {G : Gm} {X : Cx}
variable {a b d : Expr} {ta tb td : TE'} {pos : Pos}
/-! ### comparisons -/
theorem op_isB : OpR X (compareOp .Is) (fun x y H Q => ∃ a b, x = .bl a ∧ y = .bl b ∧ Q (.bl ((fun b => b) (decide (a = b)))) H) := by
  intro pins s σ H x y v u Q I rx ry h
  obtain ⟨a, b, rfl, rfl, q⟩ := h
  cases rx; cases ry
  exact is_bool ⟨.bl _, H, I, by show Value.bool (a == b) = Value.bool (decide (a = b)); rw [Bool.beq_eq_decide_eq], q⟩
theorem op_isnB : OpR X (compareOp .IsNot) (fun x y H Q => ∃ a b, x = .bl a ∧ y = .bl b ∧ Q (.bl ((fun b => !b) (decide (a = b)))) H) := by
  intro pins s σ H x y v u Q I rx ry h
  obtain ⟨a, b, rfl, rfl, q⟩ := h
  cases rx; cases ry
  exact isnot_bool ⟨.bl _, H, I, by show Value.bool (a != b) = Value.bool (!decide (a = b)); rw [bne, Bool.beq_eq_decide_eq], q⟩
theorem ok_cmp (E : E1 R G X) {o : CmpOp} {p : Cm} (e : cmOf o = some p) : OpR X (compareOp o) (LB R (cmW G p)) := by
  cases o <;> first | (cases e; done) | skip
  all_goals cases e
  · exact ok_eq E
  · exact ok_ne E
  · exact ok_ord (p := fun i j => decide (i < j)) op_lt fun x y S Q h => by
      cases x <;> cases y <;> first | exact ⟨_, _, rfl, rfl, h⟩ | exact (show False from h).elim
  · exact ok_ord (p := fun i j => decide (i ≤ j)) op_le fun x y S Q h => by
      cases x <;> cases y <;> first | exact ⟨_, _, rfl, rfl, h⟩ | exact (show False from h).elim
  · exact ok_ord (p := fun i j => decide (j < i)) op_gt fun x y S Q h => by
      cases x <;> cases y <;> first | exact ⟨_, _, rfl, rfl, h⟩ | exact (show False from h).elim
  · exact ok_ord (p := fun i j => decide (j ≤ i)) op_ge fun x y S Q h => by
      cases x <;> cases y <;> first | exact ⟨_, _, rfl, rfl, h⟩ | exact (show False from h).elim
  · exact ok_is (g := fun b => b) op_isN0 op_isB
  · exact ok_is (g := fun b => !b) op_isnN0 op_isnB
  · exact ok_in E false
  · exact ok_in E true
theorem cmp_go {p : Cm} {τ : L2.St} {H : Hp} {Q : VK} (h : LE R (vT (wCmp G p ta tb)) τ H Q) : tOp (LB R (cmW G p)) (LE R ta) (LE R tb) τ H Q := by
  obtain ⟨σ, S, Qw, hσ, hS, h, k⟩ := h
  refine LE.go hσ hS h fun w S1 v H1 q1 r1 hS1 f1 hσ1 => LE.go hσ1 hS1 q1 fun w2 S2 v2 H2 q2 r2 hS2 f2 hσ2 => ?_
  exact ⟨w, w2, S2, fun r => Qw (.bl r) S2, r1.mono hS1 f2, r2, hS2, q2, fun b q => k _ S2 _ H2 q rfl hS2 (f1.trans f2)⟩
theorem e_cmp (E : E1 R G X) {o : CmpOp} {p : Cm} (e : cmOf o = some p) (ha : PE X a (LE R ta)) (hb : PE X b (LE R tb)) (hm : behindInMarks o b = false) : PE X (.Compare a [o] [b] pos) (LE R (vT (wCmp G p ta tb))) :=
  PE.imp (pe_cmpR (ok_cmp E e) ha hb hm) fun τ H Q h => cmp_go h
theorem t_cmp (E : E1 R G X) {o : CmpOp} {p : Cm} (e : cmOf o = some p) (ha : PE X a (LE R ta)) (hb : PE X b (LE R tb)) (hm : behindInMarks o b = false) : PT X (.Compare a [o] [b] pos) (LT R (wCmp G p ta tb)) := by
  refine PT.imp (pt_cmpR (ok_cmp E e) ha hb hm) fun τ H Q h => ?_
  obtain ⟨σ, S, Qw, hσ, hS, h, k⟩ := h
  refine LE.go hσ hS h fun w S1 v H1 q1 r1 hS1 f1 hσ1 => LE.go hσ1 hS1 q1 fun w2 S2 v2 H2 q2 r2 hS2 f2 hσ2 => ?_
  exact ⟨w, w2, S2, fun r => Qw r S2, r1.mono hS1 f2, r2, hS2, q2, fun b q => ⟨b, rfl, k _ S2 H2 q hS2 (f1.trans f2)⟩⟩
theorem chn_go {p p2 : Cm} {τ : L2.St} {H : Hp} {Q : Bool → Hp → Prop} (h : LT R (wChn G p p2 ta tb td) τ H Q) : tTest (tChain (LB R (cmW G p)) (LB R (cmW G p2)) (LE R ta) (LE R tb) (LE R td)) τ H Q := by
  obtain ⟨σ, S, Qw, hσ, hS, h, k⟩ := h
  refine LE.go hσ hS h fun w S1 v H1 q1 r1 hS1 f1 hσ1 => LE.go hσ1 hS1 q1 fun w2 S2 v2 H2 q2 r2 hS2 f2 hσ2 => ?_
  refine ⟨w, w2, S2, _, r1.mono hS1 f2, r2, hS2, q2, fun b q => ⟨b, rfl, ?_⟩⟩
  cases b with
  | true =>
    refine LE.go hσ2 hS2 q fun w3 S3 v3 H3 q3 r3 hS3 f3 hσ3 => ?_
    exact ⟨w2, w3, S3, fun r => Qw r S3, r2.mono hS2 f3, r3, hS3, q3, fun b q => ⟨b, rfl, k _ S3 H3 q hS3 ((f1.trans f2).trans f3)⟩⟩
  | false => exact ⟨false, rfl, k _ S2 H2 q hS2 (f1.trans f2)⟩
theorem e_chn (E : E1 R G X) {o o2 : CmpOp} {p p2 : Cm} (e : cmOf o = some p) (e2 : cmOf o2 = some p2) (ha : PE X a (LE R ta)) (hb : PE X b (LE R tb)) (hd : PE X d (LE R td)) (hm : lastMarks [o, o2] [b, d] = false) :
    PE X (.Compare a [o, o2] [b, d] pos) (LE R (vT (wChn G p p2 ta tb td))) := by
  refine PE.imp (pe_chain (ok_cmp E e) (ok_cmp E e2) ha hb hd hm) fun τ H Q h => ?_
  obtain ⟨σ, S, Qw, hσ, hS, h, k⟩ := h
  refine LE.go hσ hS h fun w S1 v H1 q1 r1 hS1 f1 hσ1 => LE.go hσ1 hS1 q1 fun w2 S2 v2 H2 q2 r2 hS2 f2 hσ2 => ?_
  refine ⟨w, w2, S2, _, r1.mono hS1 f2, r2, hS2, q2, fun b q => ⟨b, rfl, ?_⟩⟩
  cases b with
  | true =>
    refine LE.go hσ2 hS2 q fun w3 S3 v3 H3 q3 r3 hS3 f3 hσ3 => ?_
    exact ⟨w2, w3, S3, fun r => Qw (.bl r) S3, r2.mono hS2 f3, r3, hS3, q3, fun b q => k _ S3 _ H3 q rfl hS3 ((f1.trans f2).trans f3)⟩
  | false => exact k _ S2 _ H2 q rfl hS2 (f1.trans f2)
theorem t_chn (E : E1 R G X) {o o2 : CmpOp} {p p2 : Cm} (e : cmOf o = some p) (e2 : cmOf o2 = some p2) (ha : PE X a (LE R ta)) (hb : PE X b (LE R tb)) (hd : PE X d (LE R td)) (hm : lastMarks [o, o2] [b, d] = false) :
    PT X (.Compare a [o, o2] [b, d] pos) (LT R (wChn G p p2 ta tb td)) :=
  PT.imp (pt_chain (ok_cmp E e) (ok_cmp E e2) ha hb hd hm) fun τ H Q h => chn_go h
/-! ### argument lists, displays -/
def aNil : TA' := fun _ S Q => Q [] S
def aCons (e : TE') (es : TA') : TA' := fun σ S Q => e σ S fun x S1 => es σ S1 fun xs S2 => Q (x :: xs) S2
theorem a_nil : PA X [] (LA R 0 aNil) := ⟨fun pos pins s τ H Q I h => by
  obtain ⟨σ, S, Qw, hσ, hS, h, k⟩ := h
  exact (pa_nil (X := X)).run pos pins s τ H Q I (k [] S [] H rfl h rfl hS (Fr.refl _ _))⟩
theorem a_cons {n : Nat} {es : List Expr} {tes : TA'} (ha : PE X a (LE R ta)) (hr : PA X es (LA R n tes)) (hs : starEach (a :: es) X.env = (false, eval a X.env) :: starEach es X.env) : PA X (a :: es) (LA R (n + 1) (aCons ta tes)) := by
  refine PA.imp (pa_cons ha hr hs) fun τ H Q h => ?_
  obtain ⟨σ, S, Qw, hσ, hS, h, k⟩ := h
  exact LE.go hσ hS h fun w S1 v H1 q1 r1 hS1 f1 hσ1 => LA.go hσ1 hS1 q1 fun ws S2 vs H2 hl q2 r2 hS2 f2 hσ2 => k _ S2 _ H2 (by simp [hl]) q2 (.cons (RV.mono hS1 f2 _ _ r1) r2) hS2 (f1.trans f2)
theorem e_tup {es : List Expr} {n : Nat} {tes : TA'} {k1 : Nat} (h : PA X es (LA R n tes)) : PE X (.Tuple es k1 pos) (LE R (wTup tes)) := by
  refine PE.imp (pe_tup h) fun τ H Q h => ?_
  obtain ⟨σ, S, Qw, hσ, hS, h, k⟩ := h
  exact LA.go hσ hS h fun ws S1 vs H1 _ q1 r1 hS1 f1 hσ1 => ⟨by rw [r1.length, ← lim_eq]; exact q1.1, fun p hp => new_tup hS1 (KV'.tr k f1) q1.2 hp r1⟩
theorem e_lst {es : List Expr} {n : Nat} {tes : TA'} (h : PA X es (LA R n tes)) : PE X (.List es pos) (LE R (wLst tes)) := by
  refine PE.imp (PE.cl (pe_lst h)) fun τ H Q h => ?_
  obtain ⟨σ, S, Qw, hσ, hS, h, k⟩ := h
  exact LA.go hσ hS h fun ws S1 vs H1 _ q1 r1 hS1 f1 hσ1 => ⟨by rw [r1.length, ← lim_eq]; exact q1.1, fun p hp => new_lst hS1 (KV'.tr k f1) q1.2 hp r1⟩
/-! ### subscripts, slices -/
theorem e_sub (E : E1 R G X) (ha : PE X a (LE R ta)) (hb : PE X b (LE R tb)) (hs : PlainIx b) : PE X (.Subscript a b pos) (LE R (wSub G ta tb)) :=
  PE.imp (pe_ix (ok_sub_ix E) ha hb hs) fun τ H Q h => two (fun _ _ _ _ z => z) (fun _ _ _ z => z) τ H Q h
def LP (R : RC) (t : TO') : TO := fun τ H Q => ∃ σ S Qw, RS R H σ τ ∧ Sim R S H ∧ t σ S Qw ∧ ∀ o S1 H1, Qw o S1 → Sim R S1 H1 → Fr S H S1 H1 → Q o H1
theorem o_none : PO X none (LP R noPrt) := ⟨fun pins s τ H Q I h => by
  obtain ⟨σ, S, Qw, hσ, hS, h, k⟩ := h
  exact (po_none (X := X)).run pins s τ H Q I (k none S H h hS (Fr.refl _ _))⟩
theorem o_some (ha : PE X a (LE R ta)) : PO X (some a) (LP R (wPrt ta)) := by
  refine ⟨fun pins s τ H Q I h => (po_some ha).run pins s τ H Q I ?_⟩
  obtain ⟨σ, S, Qw, hσ, hS, h, k⟩ := h
  refine LE.go hσ hS h fun w S1 v H1 q1 r1 hS1 f1 hσ1 => ?_
  cases w with
  | int i => cases r1; exact ⟨i, rfl, k _ S1 H1 q1 hS1 f1⟩
  | _ => exact (show False from q1).elim
theorem e_slc (hK : X.K = R.K) {lo hi : Option Expr} {tl th : TO'} {p2 : Pos} (ha : PE X a (LE R ta)) (hl : PO X lo (LP R tl)) (hh : PO X hi (LP R th)) : PE X (.Subscript a (.Slice lo hi none p2) pos) (LE R (wSlc ta tl th)) := by
  refine PE.imp (pe_slice (ok_slc hK) ha hl hh) fun τ H Q h => ?_
  obtain ⟨σ, S, Qw, hσ, hS, h, k⟩ := h
  refine LE.go hσ hS h fun w S1 v H1 q1 r1 hS1 f1 hσ1 => ?_
  refine ⟨σ, S1, _, hσ1, hS1, q1, fun l S2 H2 q2 hS2 f2 => ?_⟩
  refine ⟨σ, S2, _, hσ1.mono hS1 f2, hS2, q2, fun u S3 H3 q3 hS3 f3 => ?_⟩
  exact ⟨w, S3, Qw, RV.mono hS2 f3 _ _ (RV.mono hS1 f2 _ _ r1), hS3, q3, KV'.tr (KV'.tr (KV'.tr k f1) f2) f3⟩
/-! ### fields -/
theorem lk_fs {H : Hp} : ∀ {fs : List (Nat × W)} {fr : List (Str × V)} {f : Nat}, fr.map (·.1) = fs.map (fun q => nm q.1) → RVs R H (fs.map (·.2)) (fr.map (·.2)) →
    (∀ w, fs.lookup f = some w → ∃ v, fr.lookup (nm f) = some v ∧ RV R H w v) ∧ (fs.lookup f = none → fr.lookup (nm f) = none)
  | [], fr, f, e, _ => by
    have e2 : fr = [] := by simpa using e
    subst e2
    exact ⟨fun w h => (by cases h), fun _ => rfl⟩
  | (g, w) :: fs, [], f, e, _ => by simp at e
  | (g, w) :: fs, (x, v) :: fr, f, e, r => by
    simp only [List.map_cons, List.cons.injEq] at e
    obtain ⟨e1, e2⟩ := e
    obtain ⟨v', vr, ev, r1, r2⟩ := r
    simp only [List.map_cons, List.cons.injEq] at ev
    obtain ⟨e0, e4⟩ := ev
    subst e0
    rw [← e4] at r2
    obtain ⟨i1, i2⟩ := lk_fs (f := f) e2 r2
    have e1' : x = nm g := e1
    subst e1'
    rw [List.lookup_cons, List.lookup_cons]
    by_cases h : f = g
    · subst h
      have b1 : (nm f == nm f) = true := by simp
      have b2 : (f == f) = true := by simp
      rw [b1, b2]
      exact ⟨fun u hu => ⟨v, rfl, by cases hu; exact r1⟩, fun hn => (by cases hn)⟩
    · have b1 : (nm f == nm g) = false := by
        rw [beq_eq_false_iff_ne]
        exact fun z => h (nm_inj z)
      have b2 : (f == g) = false := by simp [h]
      rw [b1, b2]
      exact ⟨i1, i2⟩
theorem e_fld (E : E1 R G X) {f : Nat} (ha : PE X a (LE R ta)) (hb : attributeBase a (nm f) X.env (eval a X.env) = eval a X.env) : PE X (.Attribute a (nm f) pos) (LE R (wFld G ta f)) := by
  refine ⟨fun pins s τ H Q I h => ?_⟩
  obtain ⟨σ, S, Qw, hσ, hS, h, k⟩ := h
  refine attr_of hb (thn (ha.run pins s τ H (fun v H1 => ∃ w S1, (match w with
    | .ref p => (match S1 p with
      | some (.ins c fs) => G.at_ c f = true ∧ (match fs.lookup f with
        | some w => Qw w S1
        | none => False)
      | _ => False)
    | .xc c ns ws => G.xf c f = true ∧ (match (ns.zip ws).lookup f with
      | some w => Qw w S1
      | none => False)
    | _ => False) ∧ RV R H1 w v ∧ Sim R S1 H1 ∧ Fr S H S1 H1) I (LE.go hσ hS h fun w S1 v H1 q1 r1 hS1 f1 hσ1 => ⟨w, S1, q1, r1, hS1, f1⟩)) fun u s1 ⟨v, H1, I1, ru, w, S1, q1, r1, hS1, f1⟩ => ?_)
  cases w with
  | xc c ns ws =>
    obtain ⟨p, oe, fsr, rfl, hp, hx, hns, hws⟩ := r1
    obtain rfl : u = Value.ref p := ru
    obtain ⟨hf, q2⟩ := (show G.xf c f = true ∧ (match (ns.zip ws).lookup f with
      | some w => Qw w S1
      | none => False) from q1)
    cases el : (ns.zip ws).lookup f with
    | none => rw [el] at q2; exact q2.elim
    | some w =>
      rw [el] at q2
      obtain ⟨D, hD, Z, hno⟩ := E.xcs.xf c f hf
      have hl : fsr.map (·.1) = (ns.zip ws).map (fun q => nm q.1) ∧ RVs R H1 ((ns.zip ws).map (·.2)) (fsr.map (·.2)) := by
        have l1 : ns.length = ws.length := by
          have a := congrArg List.length hns
          have b := hws.length
          simp only [List.length_map] at a b
          omega
        constructor
        · have e1 : (ns.zip ws).map (fun q => nm q.1) = ((ns.zip ws).map Prod.fst).map nm := by rw [List.map_map]; rfl
          rw [e1, List.map_fst_zip (Nat.le_of_eq l1)]
          exact hns
        · have e2 : (ns.zip ws).map (fun q => q.2) = ws := List.map_snd_zip (Nat.le_of_eq l1.symm)
          rw [e2]
          exact hws
      obtain ⟨v, ev, rv⟩ := (lk_fs (f := f) hl.1 hl.2).1 w el
      obtain ⟨od, J, hd⟩ := xc_inst I1 hp hx hD
      rcases hd with rfl | ⟨o, rfl, mA, hl2, rel⟩
      · cases ev
      · obtain ⟨u, hu, ru⟩ := RelO.some_of (v := v) (o := mA (nm f)) (by rw [← ev]; exact rel _)
        exact HandSPX.exc_get I1.kIn J (by rw [E.K]; exact Z.ga) (by rw [E.K]; exact Z.gg) (by rw [E.K]; exact Z.exC) (by rw [E.K]; exact PySem.W.findObj_own Z.hdC hno rfl (by rw [hl2, hu])) (handed_of ru) ⟨v, H1, I1.tok _, ru, k _ S1 _ H1 q2 rv hS1 f1⟩
  | ref p =>
    cases r1
    have h' : (match S1 p with
      | some (.ins c fs) => G.at_ c f = true ∧ (match fs.lookup f with
        | some w => Qw w S1
        | none => False)
      | _ => False) := q1
    cases ea : S1 p with
    | none => rw [ea] at h'; exact h'.elim
    | some oa => cases oa with
      | ins c fs =>
        rw [ea] at h'
        obtain ⟨hat, h2⟩ := h'
        obtain ⟨dx, fr, e1, e2, e3⟩ := hS1 p _ ea
        obtain ⟨n1, n2⟩ := E.na c f hat
        cases el : fs.lookup f with
        | none => rw [el] at h2; exact h2.elim
        | some w =>
          rw [el] at h2
          obtain ⟨v, ev, rv⟩ := (lk_fs (f := f) e2 e3).1 w el
          obtain rfl : u = Value.ref p := ru
          exact getattr_ok I1 e1 (by rw [E.K]; exact n1) (by rw [E.K]; exact n2) ev fun u' s2 I2 ru => ⟨v, H1, I2, ru, k _ S1 _ H1 h2 rv hS1 f1⟩
      | _ => rw [ea] at h'; exact h'.elim
  | _ => exact (show False from q1).elim
/-! ### calls of built-ins -/
theorem e_callB {id : String} {x : Str} {p : Pos} {bi : BI} {n : Nat} {tes : TA'} (hc : CallR X (.builtin id) (LC R (biW bi))) (hg : Gl X x) (hm : X.mg x = none) (hv : bootBuiltins x = some (.builtin id)) {es : List Expr} (ha : PA X (a :: es) (LA R n tes)) (hn : x ≠ "__name__") (hdb : (x == ("__debug__" : Str)) = false)
    (he : starEach (a :: es) X.env = (false, eval a X.env) :: starEach es X.env) (hpl : (backTo pos (starEach es X.env)).any (·.1) = false) : PE X (.Call (.Name x p) (a :: es) [] pos) (LE R (wCB bi tes)) := by
  refine PE.imp (pe_callB hc hg hm hv ha hn hdb he hpl) fun τ H Q h => ?_
  obtain ⟨σ, S, Qw, hσ, hS, h, k⟩ := h
  exact LA.go hσ hS h fun ws S1 vs H1 _ q1 r1 hS1 f1 hσ1 => ⟨ws, S1, Qw, r1, hS1, q1, KV'.tr k f1⟩
theorem e_callT {T : String} {x : Str} {p : Pos} {bi : BI} {n : Nat} {tes : TA'} (hc : CallR X (.type T) (LC R (biW bi))) (hg : Gl X x) (hm : X.mg x = none) (hv : bootBuiltins x = some (.type T)) {es : List Expr} (ha : PA X (a :: es) (LA R n tes)) (hn : x ≠ "__name__") (hdb : (x == ("__debug__" : Str)) = false)
    (he : starEach (a :: es) X.env = (false, eval a X.env) :: starEach es X.env) (hpl : (backTo pos (starEach es X.env)).any (·.1) = false) : PE X (.Call (.Name x p) (a :: es) [] pos) (LE R (wCB bi tes)) := by
  refine PE.imp (pe_callTy hc hg hm hv ha hn hdb he hpl) fun τ H Q h => ?_
  obtain ⟨σ, S, Qw, hσ, hS, h, k⟩ := h
  exact LA.go hσ hS h fun ws S1 vs H1 _ q1 r1 hS1 f1 hσ1 => ⟨ws, S1, Qw, r1, hS1, q1, KV'.tr k f1⟩
theorem e_isi (E : E1 R G X) {t : TR} {p : Pos} (hg : Gl X "isinstance") (hm : X.mg "isinstance" = none) (ha : PE X a (LE R ta)) (hb : PE X b (fun _ H Q => Q (trL R t) H))
    (he : starEach [a, b] X.env = (false, eval a X.env) :: starEach [b] X.env) (he2 : starEach [b] X.env = (false, eval b X.env) :: starEach [] X.env) (hpl : (backTo pos (starEach [b] X.env)).any (·.1) = false) : PE X (.Call (.Name "isinstance" p) [a, b] [] pos) (LE R (vT (wIsi G ta t))) := by
  refine PE.imp (pe_callB (ok_isi E t) hg hm (by rfl) (pa_cons ha (pa_cons hb pa_nil he2) he) (by decide) (by decide) he hpl) fun τ H Q h => ?_
  obtain ⟨σ, S, Qw, hσ, hS, h, k⟩ := h
  refine LE.go hσ hS h fun w S1 v H1 q1 r1 hS1 f1 hσ1 => ?_
  have h' : (match isiW G S1 w t with
    | some b => Qw (.bl b) S1
    | none => False) := q1
  cases e : isiW G S1 w t with
  | none => rw [e] at h'; exact h'.elim
  | some b =>
    rw [e] at h'
    exact ⟨w, v, S1, b, rfl, r1, hS1, e, k _ S1 _ H1 h' rfl hS1 f1⟩
theorem t_isi (E : E1 R G X) {t : TR} {p : Pos} (hg : Gl X "isinstance") (hm : X.mg "isinstance" = none) (ha : PE X a (LE R ta)) (hb : PE X b (fun _ H Q => Q (trL R t) H))
    (he : starEach [a, b] X.env = (false, eval a X.env) :: starEach [b] X.env) (he2 : starEach [b] X.env = (false, eval b X.env) :: starEach [] X.env) (hpl : (backTo pos (starEach [b] X.env)).any (·.1) = false) : PT X (.Call (.Name "isinstance" p) [a, b] [] pos) (LT R (wIsi G ta t)) := by
  refine PT.imp (pt_val (pe_callB (ok_isi E t) hg hm (by rfl) (pa_cons ha (pa_cons hb pa_nil he2) he) (by decide) (by decide) he hpl) (fun _ => rfl)) fun τ H Q h => ?_
  obtain ⟨σ, S, Qw, hσ, hS, h, k⟩ := h
  refine LE.go hσ hS h fun w S1 v H1 q1 r1 hS1 f1 hσ1 => ?_
  have h' : (match isiW G S1 w t with
    | some b => Qw b S1
    | none => False) := q1
  cases e : isiW G S1 w t with
  | none => rw [e] at h'; exact h'.elim
  | some b =>
    rw [e] at h'
    exact ⟨w, v, S1, b, rfl, r1, hS1, e, b, rfl, k _ S1 H1 h' hS1 f1⟩
/-! ### methods of built-in types -/
def tyM (K : PySem.W.Frag) (T : String) (x : V) (H : Hp) : Prop := tyV K T x H ∨ (T = "dict" ∧ ∃ p, x = .ref p ∧ IsD H p)
theorem tyM_is {pins : List (Addr × Obj)} {σ : L2.St} {H : Hp} {s : Shared} {T : String} {x : V} {v : Value} (I : L2.Inv X pins σ H s) (r : RelV x v) (ty : tyM X.K T x H) :
    s.TypeIs v T ∧ ∀ a, v = .ref a → ∃ ob, s.heap.get? a = some ob ∧ ob.dict = none := by
  rcases ty with ty | ⟨rfl, p, rfl, d⟩
  · exact tyV_is I r ty
  · cases r
    obtain ⟨h1, h2, _⟩ := isD_at I d
    exact ⟨h1, h2⟩
theorem ty_V (hK : X.K = R.K) {S : Sto} {H : Hp} {w : W} {v : V} {T : Ty} (h : tyW S w = some T) (r : RV R H w v) (hS : Sim R S H) : tyM X.K (tyN T) v H := by
  cases w with
  | str l => cases h; cases r; exact .inl rfl
  | rd ks ws =>
    obtain ⟨p, o, kvr, rfl, e0, _⟩ := r
    cases h
    exact .inr ⟨rfl, p, rfl, .inl ⟨kvr, .inr ⟨o, e0⟩⟩⟩
  | rl ws =>
    obtain ⟨p, vs, rfl, hp, hv⟩ := r
    cases h
    exact .inl (.inl ⟨rfl, vs, by rw [hK]; exact hp.l⟩)
  | ref a =>
    cases r
    have h' : (match S a with
      | some (.lst _) => some Ty.list
      | some (.dct _) => some .dict
      | _ => none) = some T := h
    cases ea : S a with
    | none => rw [ea] at h'; cases h'
    | some oa => cases oa with
      | lst us =>
        rw [ea] at h'; cases h'
        obtain ⟨vs, q1, r1⟩ := hS a _ ea
        exact .inl (.inl ⟨rfl, vs, SqL.of q1⟩)
      | dct kvs =>
        rw [ea] at h'; cases h'
        obtain ⟨vs, q1, r1⟩ := hS a _ ea
        exact .inl (.inr (.inr (.inl ⟨rfl, .inl ⟨vs, q1⟩⟩)))
      | _ => rw [ea] at h'; cases h'
  | _ => cases h
theorem e_mB0 (E : E1 R G X) {m : BM} {apos : Pos} (ho : PE X a (LE R ta))
    (hbase : attributeBase a (bmN m) X.env (eval a X.env) = eval a X.env) (hline : (apos.endLine == pos.line) = true) :
    PE X (.Call (.Attribute a (bmN m) apos) [] [] pos) (LE R (wMB m ta aNil)) := by
  refine ⟨fun pins s τ H Q I h => ?_⟩
  obtain ⟨σ, S, Qw, hσ, hS, h, k⟩ := h
  refine wpAny_Call_method0_late hbase hline (thn (ho.run pins s τ H (fun x H1 => ∃ T, tyM X.K (tyN T) x H1 ∧ supM T m = true ∧ LM R (bmW T m) x [] H1 Q) I (LE.go hσ hS h fun w S1 v H1 q1 r1 hS1 f1 hσ1 => ?_)) fun v s1 ⟨x, H1, I1, r1, T, ty, hsup, q1⟩ => ?_)
  · have h' : (match tyW S1 w with
      | some T => supM T m = true ∧ bmW T m w [] S1 Qw
      | none => False) := q1
    cases e : tyW S1 w with
    | none => rw [e] at h'; exact h'.elim
    | some T =>
      rw [e] at h'
      exact ⟨T, ty_V E.K e r1 hS1, h'.1, w, [], S1, Qw, r1, rfl, hS1, h'.2, KV'.tr k f1⟩
  · obtain ⟨h1, h2⟩ := tyM_is I1 r1 ty
    obtain ⟨id, pa, slot, hty, hm⟩ := mt_of E hsup
    exact ⟨tyN T, id, pa, slot, hty, h1, h2, Calls.callWith_builtin rfl (PySem.evalArgs_none (hm pins s1 τ H1 x [] v [] Q I1 r1 .nil q1))⟩
theorem e_mB (E : E1 R G X) {m : BM} {e : Expr} {es : List Expr} {n : Nat} {tes : TA'} {apos : Pos} (ho : PE X a (LE R ta)) (ha : PA X (e :: es) (LA R n tes))
    (hbase : attributeBase a (bmN m) X.env (eval a X.env) = eval a X.env)
    (hfew : ((backTo pos (starEach (e :: es) X.env)).all (fun x => !x.1) && (backToKw pos (keywordEach [] X.env)).all (fun x => x.1.isSome)
      && decide ((e :: es).length + ([] : List Keyword).length + (if ([] : List Keyword).isEmpty then 0 else 1) < 30)) = true)
    (hline : (apos.endLine == pos.line) = true) (hs : starEach (e :: es) X.env = (false, eval e X.env) :: starEach es X.env) (hplain : (backTo pos (starEach es X.env)).any (·.1) = false) :
    PE X (.Call (.Attribute a (bmN m) apos) (e :: es) [] pos) (LE R (wMB m ta tes)) := by
  refine ⟨fun pins s τ H Q I h => ?_⟩
  obtain ⟨σ, S, Qw, hσ, hS, h, k⟩ := h
  refine wpAny_Call_method_late hbase hfew hline rfl (thn (ho.run pins s τ H (fun x H1 => ∃ T, tyM X.K (tyN T) x H1 ∧ supM T m = true ∧ LA R n tes τ H1 fun xs H2 => LM R (bmW T m) x xs H2 Q) I (LE.go hσ hS h fun w S1 v H1 q1 r1 hS1 f1 hσ1 => ?_)) fun v s1 ⟨x, H1, I1, r1, T, ty, hsup, q1⟩ => ?_)
  · have h' : (match tyW S1 w with
      | some T => supM T m = true ∧ tes σ S1 fun ws S2 => bmW T m w ws S2 Qw
      | none => False) := q1
    cases e : tyW S1 w with
    | none => rw [e] at h'; exact h'.elim
    | some T =>
      rw [e] at h'
      exact ⟨T, ty_V E.K e r1 hS1, h'.1, LA.go hσ1 hS1 h'.2 fun ws S2 vs H2 _ q2 r2 hS2 f2 hσ2 => ⟨w, ws, S2, Qw, RV.mono hS1 f2 _ _ r1, r2, hS2, q2, KV'.tr (KV'.tr k f1) f2⟩⟩
  · obtain ⟨h1, h2⟩ := tyM_is I1 r1 ty
    obtain ⟨id, pa, slot, hty, hm⟩ := mt_of E hsup
    refine ⟨tyN T, id, pa, slot, hty, h1, h2, ?_⟩
    have hA := ha.run pos pins s1 τ H1 _ I1 q1
    have fin := thn hA fun us s2 ⟨vs, H2, I2, r2, q2⟩ => hm pins s2 τ H2 x vs v us Q I2 r1 r2 q2
    rw [hs] at fin ⊢
    refine Calls.callWith_builtin (by show (false || (backTo pos (starEach es X.env)).any (·.1)) = false; rw [hplain]; rfl) ?_
    exact Calls.evalArgs_plain fin
end
end MP
/-! MP11: what is walked; list comprehensions; statements. -/
namespace MP
open PySem L2 PyProof.Rows
/-- the heap grows -/
def Gr (H H1 : Hp) : Prop := ∀ a o, H a = some o → H1 a = some o
theorem Gr.refl (H : Hp) : Gr H H := fun _ _ e => e
theorem Gr.trans {H H1 H2 : Hp} (f : Gr H H1) (g : Gr H1 H2) : Gr H H2 := fun a o e => g a o (f a o e)
theorem Gr.new {H : Hp} {p : Addr} {u : HO} (hp : H p = none) : Gr H (upd H p u) := fun a o e => by rw [upd_ne (ne_of_none e hp)]; exact e
/-- an iterator of the layer walks these items while gd holds -/
structure ItOk (R : RC) (J : It) (ws : List W) (gd : Sto → Prop) (S1 : Sto) (H1 : Hp) : Prop where
  go : ∀ i w S H, Sim R S H → Fr S1 H1 S H → gd S → ws[i]? = some w → J.go i H ∧ ∀ x H', J.yld i H x H' → RV R H' w x ∧ Sim R S H' ∧ Fr S H S H' ∧ Gr H H'
  stop : ∀ i S H, Sim R S H → Fr S1 H1 S H → gd S → ws.length ≤ i → J.stop i H
def LI (R : RC) (t : TI') : TI := fun τ H Rk => ∃ (σ : Sl) (S : Sto) (Kw : List W → (Sto → Prop) → Sto → Prop), RS R H σ τ ∧ Sim R S H ∧ t σ S Kw ∧ ∀ ws gd S1 H1 J, Kw ws gd S1 → Sim R S1 H1 → Fr S H S1 H1 → ItOk R J ws gd S1 H1 → Rk J H1
section
variable {R : RC} {G : Gm} {X : Cx}
variable {a b d : Expr} {ta tb td : TE'} {pos : Pos}
theorem PI.imp {tg e : Expr} {t t' : TI} (h : PI X tg e t) (k : ∀ σ H Q, t' σ H Q → t σ H Q) : PI X tg e t' := ⟨fun pins s σ H Q I q => h.run pins s σ H Q I (k σ H Q q)⟩
/-! ### iterators -/
theorem it_lst {K : PySem.W.Frag} {S1 : Sto} {H1 : Hp} {p : Addr} {ws : List W} : ItOk R (Itl K p) ws (fun S' => S' p = some (.lst ws)) S1 H1 where
  go := fun i w S H hS f g e => by
    obtain ⟨vs, q1, r1⟩ := hS p _ g
    obtain ⟨v, ev, rv⟩ := r1.get e
    refine ⟨⟨vs, v, SqL.of q1, ev⟩, fun x H' y => ?_⟩
    obtain ⟨rfl, y⟩ := y
    have z := y vs (SqL.of q1)
    rw [ev] at z; cases z
    exact ⟨rv, hS, Fr.refl _ _, Gr.refl _⟩
  stop := fun i S H hS f g e => by
    obtain ⟨vs, q1, r1⟩ := hS p _ g
    exact ⟨vs, SqL.of q1, by rw [r1.length]; exact e⟩
theorem it_rl {K : PySem.W.Frag} (hK : K = R.K) {S1 : Sto} {H1 : Hp} {p : Addr} {ws : List W} {vs : List V} (hS1 : Sim R S1 H1) (hp : SqR R.K H1 p vs) (hv : RVs R H1 ws vs) : ItOk R (Itl K p) ws (fun _ => True) S1 H1 where
  go := fun i w S H hS f g e => by
    subst hK
    have q := (hp.mono hS1 f).l
    obtain ⟨v, ev, rv⟩ := (RVs.mono hS1 f _ _ hv).get e
    refine ⟨⟨vs, v, q, ev⟩, fun x H' y => ?_⟩
    obtain ⟨rfl, y⟩ := y
    have z := y vs q
    rw [ev] at z; cases z
    exact ⟨rv, hS, Fr.refl _ _, Gr.refl _⟩
  stop := fun i S H hS f g e => by
    subst hK
    exact ⟨vs, (hp.mono hS1 f).l, by rw [hv.length]; exact e⟩
theorem it_tup {K : PySem.W.Frag} (hK : K = R.K) {S1 : Sto} {H1 : Hp} {p : Addr} {ws : List W} {vs : List V} (hS1 : Sim R S1 H1) (hp : SqT R.K H1 p vs) (hv : RVs R H1 ws vs) : ItOk R (Itt K p) ws (fun _ => True) S1 H1 where
  go := fun i w S H hS f g e => by
    subst hK
    have q := SqT.mono hS1 f hp
    obtain ⟨v, ev, rv⟩ := (RVs.mono hS1 f _ _ hv).get e
    refine ⟨⟨vs, v, q, ev⟩, fun x H' y => ?_⟩
    obtain ⟨rfl, y⟩ := y
    have z := y vs q
    rw [ev] at z; cases z
    exact ⟨rv, hS, Fr.refl _ _, Gr.refl _⟩
  stop := fun i S H hS f g e => by
    subst hK
    exact ⟨vs, SqT.mono hS1 f hp, by rw [hv.length]; exact e⟩
theorem it_str {S1 : Sto} {H1 : Hp} {l : List Nat} : ItOk R (Its (S' l)) (chars l) (fun _ => True) S1 H1 where
  go := fun i w S H hS f g e => by
    unfold chars at e
    rw [List.getElem?_map] at e
    obtain ⟨c, ec, rfl⟩ := Option.map_eq_some_iff.mp e
    have hi : i < l.length := (List.getElem?_eq_some_iff.mp ec).1
    refine ⟨by show i < (S' l).cps.size; simpa using hi, fun x H' y => ?_⟩
    obtain ⟨rfl, c', y, rfl⟩ := y
    have y' : l[i]? = some c' := by simpa using y
    rw [ec] at y'; cases y'
    exact ⟨rfl, hS, Fr.refl _ _, Gr.refl _⟩
  stop := fun i S H hS f g e => by
    show (S' l).cps.size ≤ i
    have e' : (chars l).length = l.length := by unfold chars; simp
    rw [e'] at e
    simpa using e
theorem it_rng {S1 : Sto} {H1 : Hp} {lo hi : Int} : ItOk R (Itr lo (hi - lo).toNat) (rngW lo hi) (fun _ => True) S1 H1 where
  go := fun i w S H hS f g e => by
    unfold rngW at e
    rw [List.getElem?_map] at e
    obtain ⟨c, ec, rfl⟩ := Option.map_eq_some_iff.mp e
    have h2 : i < (hi - lo).toNat := by simpa using (List.getElem?_eq_some_iff.mp ec).1
    have h3 : c = i := by
      rw [List.getElem?_range h2] at ec
      exact (Option.some.inj ec).symm
    subst h3
    refine ⟨h2, fun x H' y => ?_⟩
    obtain ⟨rfl, rfl⟩ := y
    exact ⟨rfl, hS, Fr.refl _ _, Gr.refl _⟩
  stop := fun i S H hS f g e => by
    show (hi - lo).toNat ≤ i
    have e' : (rngW lo hi).length = (hi - lo).toNat := by unfold rngW; simp
    rw [e'] at e
    exact e
/-! ### dicts -/
theorem rv_key {H : Hp} (k : KW) : RV R H (kW k) (kV (kR k)) := by cases k <;> rfl
theorem it_keys {S1 : Sto} {H1 : Hp} {d : Addr} {o : Obj} {kvr : List (Key × V)} {ks : List KW} (hS1 : Sim R S1 H1) (hd : H1 d = some (.frz o (.dK kvr))) (e1 : kvr.map (·.1) = ks.map kR) : ItOk R (Itk d o kvr) (ks.map kW) (fun _ => True) S1 H1 where
  go := fun i w S H hS f g e => by
    rw [List.getElem?_map] at e
    obtain ⟨k, ek, rfl⟩ := Option.map_eq_some_iff.mp e
    have e2 : (kvr.map (·.1))[i]? = some (kR k) := by rw [e1, List.getElem?_map, ek]; rfl
    rw [List.getElem?_map] at e2
    obtain ⟨q, eq, eqk⟩ := Option.map_eq_some_iff.mp e2
    refine ⟨⟨(f d _ hd (hS1.frz hd) trivial).1, (List.getElem?_eq_some_iff.mp eq).1⟩, fun x H' y => ?_⟩
    obtain ⟨rfl, k', v', y, rfl⟩ := y
    rw [eq] at y
    cases y
    have : k' = kR k := eqk
    subst this
    exact ⟨rv_key k, hS, Fr.refl _ _, Gr.refl _⟩
  stop := fun i S H hS f g e => by
    have el : kvr.length = ks.length := by have := congrArg List.length e1; simpa using this
    exact ⟨(f d _ hd (hS1.frz hd) trivial).1, by rw [el]; simpa using e⟩
theorem zip_V {H1 : Hp} {ks : List KW} {ws : List W} {kvr : List (Key × V)} (e1 : kvr.map (·.1) = ks.map kR) (e2 : RVs R H1 ws (kvr.map (·.2))) {i : Nat} {q : KW × W} (h : (ks.zip ws)[i]? = some q) : ∃ v, kvr[i]? = some (kR q.1, v) ∧ RV R H1 q.2 v := by
  obtain ⟨h1, h2⟩ := (List.getElem?_zip_eq_some).mp h
  obtain ⟨v, ev, rv⟩ := e2.get h2
  rw [List.getElem?_map] at ev
  obtain ⟨p, ep, rfl⟩ := Option.map_eq_some_iff.mp ev
  have e3 : (kvr.map (·.1))[i]? = some (kR q.1) := by rw [e1, List.getElem?_map, h1]; rfl
  rw [List.getElem?_map, ep] at e3
  have e4 : p.1 = kR q.1 := Option.some.inj e3
  exact ⟨p.2, by rw [ep, ← e4], rv⟩
theorem it_vals {S1 : Sto} {H1 : Hp} {d : Addr} {o : Obj} {kvr : List (Key × V)} {ks : List KW} {ws : List W} (hS1 : Sim R S1 H1) (hd : H1 d = some (.frz o (.dK kvr))) (e1 : kvr.map (·.1) = ks.map kR) (e2 : RVs R H1 ws (kvr.map (·.2))) : ItOk R (Itd d o kvr) ((ks.zip ws).map (·.2)) (fun _ => True) S1 H1 where
  go := fun i w S H hS f g e => by
    rw [List.getElem?_map] at e
    obtain ⟨q, ek, rfl⟩ := Option.map_eq_some_iff.mp e
    obtain ⟨v, ev, rv⟩ := zip_V e1 (RVs.mono hS1 f _ _ e2) ek
    refine ⟨⟨(f d _ hd (hS1.frz hd) trivial).1, (List.getElem?_eq_some_iff.mp ev).1⟩, fun x H' y => ?_⟩
    obtain ⟨rfl, k', y⟩ := y
    rw [ev] at y
    cases y
    exact ⟨rv, hS, Fr.refl _ _, Gr.refl _⟩
  stop := fun i S H hS f g e => by
    have el : kvr.length = ks.length := by have := congrArg List.length e1; simpa using this
    have el2 := e2.length
    have : ws.length = ks.length := by rw [← el]; simpa using el2.symm
    exact ⟨(f d _ hd (hS1.frz hd) trivial).1, by rw [el]; simpa [this] using e⟩
theorem it_items {S1 : Sto} {H1 : Hp} {d : Addr} {o : Obj} {kvr : List (Key × V)} {ks : List KW} {ws : List W} (hS1 : Sim R S1 H1) (hd : H1 d = some (.frz o (.dK kvr))) (e1 : kvr.map (·.1) = ks.map kR) (e2 : RVs R H1 ws (kvr.map (·.2))) : ItOk R (Iti d o kvr) ((ks.zip ws).map fun q => .tup [kW q.1, q.2]) (fun _ => True) S1 H1 where
  go := fun i w S H hS f g e => by
    rw [List.getElem?_map] at e
    obtain ⟨q, ek, rfl⟩ := Option.map_eq_some_iff.mp e
    obtain ⟨v, ev, rv⟩ := zip_V e1 (RVs.mono hS1 f _ _ e2) ek
    refine ⟨⟨(f d _ hd (hS1.frz hd) trivial).1, (List.getElem?_eq_some_iff.mp ev).1⟩, fun x H' y => ?_⟩
    obtain ⟨T, k', v', y, rfl, hT, rfl⟩ := y
    rw [ev] at y
    cases y
    obtain ⟨k1, k2⟩ := hS.hid (u := .tup [kV (kR q.1), v]) hT
    exact ⟨⟨T, [kV (kR q.1), v], rfl, .inl (.inl upd_same), .cons (rv_key q.1) (.one (RV.mono hS k2 _ _ rv))⟩, k1, k2, Gr.new hT⟩
  stop := fun i S H hS f g e => by
    have el : kvr.length = ks.length := by have := congrArg List.length e1; simpa using this
    have el2 := e2.length
    have : ws.length = ks.length := by rw [← el]; simpa using el2.symm
    exact ⟨(f d _ hd (hS1.frz hd) trivial).1, by rw [el]; simpa [this] using e⟩
theorem enW_at : ∀ {ws : List W} {n i : Nat} {w : W}, (enW n ws)[i]? = some w → ∃ x, ws[i]? = some x ∧ w = .tup [.int ((n + i : Nat) : Int), x]
  | [], n, i, w, h => by simp [enW] at h
  | x :: ws, n, 0, w, h => by
    simp [enW] at h
    exact ⟨x, rfl, by rw [← h]; rfl⟩
  | x :: ws, n, i + 1, w, h => by
    have h' : (enW (n + 1) ws)[i]? = some w := by simpa [enW] using h
    obtain ⟨y, e, rfl⟩ := enW_at h'
    refine ⟨y, by simpa using e, ?_⟩
    have : n + 1 + i = n + (i + 1) := by omega
    rw [this]
theorem enW_len : ∀ {ws : List W} {n : Nat}, (enW n ws).length = ws.length
  | [], n => rfl
  | x :: ws, n => by simp [enW, enW_len]
theorem it_en {K : PySem.W.Frag} {S1 : Sto} {H1 : Hp} {p : Addr} {ws : List W} {gd : Sto → Prop} (q : ∀ S H, Sim R S H → Fr S1 H1 S H → gd S → ∃ vs, SqL K H p vs ∧ RVs R H ws vs) : ItOk R (Ite K p) (enW 0 ws) gd S1 H1 where
  go := fun i w S H hS f g e => by
    obtain ⟨vs, q1, r1⟩ := q S H hS f g
    obtain ⟨x, ex, rfl⟩ := enW_at e
    obtain ⟨v, ev, rv⟩ := r1.get ex
    refine ⟨⟨vs, v, q1, ev⟩, fun x H' y => ?_⟩
    obtain ⟨T, x', rfl, hT, rfl, y⟩ := y
    have z := y vs q1
    rw [ev] at z; cases z
    obtain ⟨k1, k2⟩ := hS.hid (u := .tup [.int (i : Nat), v]) hT
    refine ⟨⟨T, [.int (i : Nat), v], rfl, .inl (.inl upd_same), .cons ?_ (.one (RV.mono hS k2 _ _ rv))⟩, k1, k2, Gr.new hT⟩
    rw [Nat.zero_add]
    rfl
  stop := fun i S H hS f g e => by
    obtain ⟨vs, q1, r1⟩ := q S H hS f g
    exact ⟨vs, q1, by rw [r1.length]; rwa [enW_len] at e⟩
/-- a value, walked -/
theorem iter_val (hK : X.K = R.K) {tg : Expr} {pins : List (Addr × Obj)} {s : Shared} {τ : L2.St} {S : Sto} {H : Hp} {w : W} {v : V} {u : Value} {Kw : List W → (Sto → Prop) → Sto → Prop} {Rk : It → Hp → Prop} (I : L2.Inv X pins τ H s) (r : RV R H w v) (ru : RelV v u) (hS : Sim R S H) (h : itW w S Kw)
    (k : ∀ ws gd J, Kw ws gd S → ItOk R J ws gd S H → Rk J H) : wpAny (model X.prog X.w) X.A (pyIter u) (PIE X pins τ tg Rk) X.xe s := by
  cases w with
  | tup ws =>
    obtain ⟨p, vs, rfl, hp, hv⟩ := r
    cases ru
    obtain ⟨its, _, ht, _⟩ := I.tuple (show SqT X.K H p vs by rw [hK]; exact hp)
    exact wpAny_pyIter_tuple (show s.heap.IsTuple p its.toArray from ht) (pi_one (tk := s.toks) I _ (turn_tuple p _) ⟨_, Heap.get?_push_size _ rfl, rfl, rfl⟩ (k ws _ _ h (it_tup hK hS hp hv)))
  | rl ws =>
    obtain ⟨p, vs, rfl, hp, hv⟩ := r
    cases ru
    obtain ⟨its, _, ht, _⟩ := I.list (show SqL X.K H p vs by rw [hK]; exact hp.l)
    exact wpAny_pyIter_list ht.isList (pi_one (tk := s.toks) I _ (turn_list p _) ⟨_, Heap.get?_push_size _ rfl, rfl, rfl⟩ (k ws _ _ h (it_rl hK hS hp hv)))
  | rd ks ws =>
    obtain ⟨d, o, kvr, rfl, hd, e1, e2⟩ := r
    cases ru
    obtain ⟨hs, hgd, hx, es, ep, vs, hdt, hsz, kv, hm⟩ := I.frzK hd
    refine iter_keys hs hgd hx hdt (pi_one (tk := s.toks) I _ (turn_keys _ hdt) ⟨_, Heap.get?_push_size _ rfl, rfl, ?_⟩ (k _ _ _ h (it_keys hS hd e1)))
    rw [hsz] <;> rfl
  | str l =>
    cases r
    obtain ⟨t, rfl⟩ := ru
    have q := k (chars l) _ _ h it_str
    cases ha : (S' l).cps.all (· < 128)
    · exact wpAny_pyIter_wide ha (pi_one (tk := s.toks) I _ (turn_str _ (S' l) t "str_iterator" (.inr rfl)) ⟨_, Heap.get?_push_size _ rfl, rfl, rfl⟩ q)
    · exact wpAny_pyIter_ascii ha (pi_one (tk := s.toks) I _ (turn_str _ (S' l) t "str_ascii_iterator" (.inl rfl)) ⟨_, Heap.get?_push_size _ rfl, rfl, rfl⟩ q)
  | ref p =>
    cases r
    cases ru
    cases ea : S p with
    | none => simp only [itW, ea] at h
    | some oa => cases oa with
      | lst ws =>
        simp only [itW, ea] at h
        obtain ⟨vs, q1, r1⟩ := hS p _ ea
        obtain ⟨its, _, ht, _⟩ := I.list (SqL.of (K := X.K) q1)
        exact wpAny_pyIter_list ht.isList (pi_one (tk := s.toks) I _ (turn_list p _) ⟨_, Heap.get?_push_size _ rfl, rfl, rfl⟩ (k ws _ _ h it_lst))
      | _ => simp only [itW, ea] at h
  | _ => exact (show False from h).elim
theorem i_val (hK : X.K = R.K) {tg : Expr} (ha : PE X a (LE R ta)) : PI X tg a (LI R (tI ta)) := by
  refine ⟨fun pins s τ H Rk I h => ?_⟩
  obtain ⟨σ, S, Kw, hσ, hS, h, k⟩ := h
  refine thn (ha.run pins s τ H (fun v H1 => ∃ w S1, itW w S1 Kw ∧ RV R H1 w v ∧ Sim R S1 H1 ∧ Fr S H S1 H1) I (LE.go hσ hS h fun w S1 v H1 q1 r1 hS1 f1 hσ1 => ⟨w, S1, q1, r1, hS1, f1⟩)) fun u s1 ⟨v, H1, I1, ru, w, S1, q1, r1, hS1, f1⟩ => ?_
  exact iter_val hK I1 r1 ru hS1 q1 fun ws gd J q o => k ws gd S1 H1 J q hS1 f1 o
theorem i_vals {tg : Expr} {apos cpos : Pos} (ha : PE X a (LE R ta)) (hbase : attributeBase a "values" X.env (eval a X.env) = eval a X.env) (hline : (apos.endLine == cpos.line) = true) : PI X tg (.Call (.Attribute a "values" apos) [] [] cpos) (LI R (MP.iVals ta)) := by
  refine PI.imp (pi_values ha hbase hline) fun τ H Rk h => ?_
  obtain ⟨σ, S, Kw, hσ, hS, h, k⟩ := h
  refine LE.go hσ hS h fun w S1 v H1 q1 r1 hS1 f1 hσ1 => ?_
  cases w with
  | rd ks ws =>
    obtain ⟨d, o, kvr, rfl, hd, e1, e2⟩ := r1
    exact ⟨d, o, kvr, rfl, hd, k _ _ S1 H1 _ q1 hS1 f1 (it_vals hS1 hd e1 e2)⟩
  | _ => exact (show False from q1).elim
theorem i_keysM {tg : Expr} {apos cpos : Pos} (ha : PE X a (LE R ta)) (hbase : attributeBase a "keys" X.env (eval a X.env) = eval a X.env) (hline : (apos.endLine == cpos.line) = true) : PI X tg (.Call (.Attribute a "keys" apos) [] [] cpos) (LI R (MP.iKeysM ta)) := by
  refine PI.imp (pi_keysM ha hbase hline) fun τ H Rk h => ?_
  obtain ⟨σ, S, Kw, hσ, hS, h, k⟩ := h
  refine LE.go hσ hS h fun w S1 v H1 q1 r1 hS1 f1 hσ1 => ?_
  cases w with
  | rd ks ws =>
    obtain ⟨d, o, kvr, rfl, hd, e1, e2⟩ := r1
    exact ⟨d, o, kvr, rfl, hd, k _ _ S1 H1 _ q1 hS1 f1 (it_keys hS1 hd e1)⟩
  | _ => exact (show False from q1).elim
theorem i_items {elts : List Expr} {kk : Nat} {tpos apos cpos : Pos} (ha : PE X a (LE R ta)) (hbase : attributeBase a "items" X.env (eval a X.env) = eval a X.env) (hline : (apos.endLine == cpos.line) = true) : PI X (.Tuple elts kk tpos) (.Call (.Attribute a "items" apos) [] [] cpos) (LI R (MP.iItems ta)) := by
  refine PI.imp (pi_items ha hbase hline) fun τ H Rk h => ?_
  obtain ⟨σ, S, Kw, hσ, hS, h, k⟩ := h
  refine LE.go hσ hS h fun w S1 v H1 q1 r1 hS1 f1 hσ1 => ?_
  cases w with
  | rd ks ws =>
    obtain ⟨d, o, kvr, rfl, hd, e1, e2⟩ := r1
    exact ⟨d, o, kvr, rfl, hd, k _ _ S1 H1 _ q1 hS1 f1 (it_items hS1 hd e1 e2)⟩
  | _ => exact (show False from q1).elim
theorem i_enum (hK : X.K = R.K) {elts : List Expr} {kk : Nat} {tpos p : Pos} (hg : Gl X "enumerate") (hm : X.mg "enumerate" = none) (ha : PE X a (LE R ta)) (hs : starEach [a] X.env = [(false, eval a X.env)]) : PI X (.Tuple elts kk tpos) (.Call (.Name "enumerate" p) [a] [] pos) (LI R (MP.iEnum (aCons ta aNil))) := by
  refine PI.imp (pi_enum hg hm (pa_cons ha pa_nil hs) hs) fun τ H Rk h => ?_
  obtain ⟨σ, S, Kw, hσ, hS, h, k⟩ := h
  refine LE.go hσ hS h fun w S1 v H1 q1 r1 hS1 f1 hσ1 => ?_
  cases w with
  | rl ws =>
    obtain ⟨p, vs, rfl, hp, hv⟩ := r1
    exact ⟨p, vs, rfl, by rw [hK]; exact hp.l, k _ _ S1 H1 _ q1 hS1 f1 (it_en fun S H hS f _ => ⟨vs, by rw [hK]; exact (hp.mono hS1 f).l, RVs.mono hS1 f _ _ hv⟩)⟩
  | ref p =>
    cases r1
    have q1' : (match S1 p with
      | some (.lst us) => Kw (enW 0 us) (fun S' => S' p = some (.lst us)) S1
      | _ => False) := q1
    cases ea : S1 p with
    | none => rw [ea] at q1'; exact q1'.elim
    | some oa => cases oa with
      | lst us =>
        rw [ea] at q1'
        obtain ⟨vs, q2, r2⟩ := hS1 p _ ea
        exact ⟨p, vs, rfl, SqL.of q2, k _ _ S1 H1 _ q1' hS1 f1 (it_en fun S H hS f g => let ⟨vs, q3, r3⟩ := hS p _ g; ⟨vs, SqL.of q3, r3⟩)⟩
      | _ => rw [ea] at q1'; exact q1'.elim
  | _ => exact (show False from q1).elim
theorem i_rng1 {tg : Expr} {p : Pos} (hg : Gl X "range") (hm : X.mg "range" = none) (ha : PE X a (LE R ta)) (hs : starEach [a] X.env = [(false, eval a X.env)]) : PI X tg (.Call (.Name "range" p) [a] [] pos) (LI R (iRng (aCons ta aNil))) := by
  refine PI.imp (pi_range1 hg hm (pa_cons ha pa_nil hs) hs) fun τ H Rk h => ?_
  obtain ⟨σ, S, Kw, hσ, hS, h, k⟩ := h
  refine LE.go hσ hS h fun w S1 v H1 q1 r1 hS1 f1 hσ1 => ?_
  cases w with
  | int j =>
    cases r1
    obtain ⟨⟨b1, b2⟩, q⟩ := (show (-big ≤ j ∧ j < big) ∧ Kw (rngW 0 j) (fun _ => True) S1 from q1)
    have o := it_rng (R := R) (S1 := S1) (H1 := H1) (lo := 0) (hi := j)
    rw [Int.sub_zero] at o
    unfold big at b1 b2
    exact ⟨j, rfl, by omega, by omega, k _ _ S1 H1 _ q hS1 f1 o⟩
  | _ => exact (show False from q1).elim
theorem i_rng2 {tg : Expr} {p : Pos} (hg : Gl X "range") (hm : X.mg "range" = none) (ha : PE X a (LE R ta)) (hb : PE X b (LE R tb)) (hs : starEach [a, b] X.env = [(false, eval a X.env), (false, eval b X.env)]) (hs2 : starEach [b] X.env = [(false, eval b X.env)]) :
    PI X tg (.Call (.Name "range" p) [a, b] [] pos) (LI R (iRng (aCons ta (aCons tb aNil)))) := by
  refine PI.imp (pi_range2 hg hm (pa_cons ha (pa_cons hb pa_nil hs2) (by rw [hs, hs2])) hs hs2) fun τ H Rk h => ?_
  obtain ⟨σ, S, Kw, hσ, hS, h, k⟩ := h
  refine LE.go hσ hS h fun w S1 v H1 q1 r1 hS1 f1 hσ1 => LE.go hσ1 hS1 q1 fun w2 S2 v2 H2 q2 r2 hS2 f2 hσ2 => ?_
  cases w with
  | int i => cases w2 with
    | int j =>
      cases r1; cases r2
      obtain ⟨⟨b1, b2, b3, b4⟩, q⟩ := (show (-big ≤ i ∧ i < big ∧ -big ≤ j ∧ j < big) ∧ Kw (rngW i j) (fun _ => True) S2 from q2)
      unfold big at b1 b2 b3 b4
      exact ⟨i, j, rfl, ⟨by omega, by omega, by omega, by omega⟩, k _ _ S2 H2 _ q hS2 (f1.trans f2) it_rng⟩
    | _ => exact (show False from q2).elim
  | _ => exact (show False from q2).elim
/-! ### comprehensions -/
theorem RS.none {H : Hp} {σ : Sl} {τ : L2.St} (h : RS R H σ τ) (i : Nat) : RS R H (σ.set i none) (τ.set i none) := by
  refine ⟨by simp [h.len], fun j u e => ?_, h.an⟩
  by_cases hj : i = j
  · subst hj
    by_cases hl : i < σ.length
    · rw [List.getElem?_set_self hl] at e
      cases e
    · rw [List.getElem?_eq_none (by simp; omega)] at e
      cases e
  · rw [List.getElem?_set_ne hj] at e
    obtain ⟨x, q, z⟩ := h.at_ j u e
    exact ⟨x, by rw [List.getElem?_set_ne hj]; exact q, z⟩
theorem RS.wipe {H : Hp} {σ : Sl} {τ : L2.St} (h : RS R H σ τ) : ∀ is : List Nat, RS R H (MP.wipe σ is) (L2.wipe τ is)
  | [] => h
  | i :: is => (RS.wipe h is).none i
theorem wipe_at {τ : L2.St} {j : Nat} : ∀ {is : List Nat}, (L2.wipe τ is)[j]? = if j ∈ is ∧ j < τ.length then some Option.none else τ[j]?
  | [] => by simp [L2.wipe]
  | i :: is => by
    show ((L2.wipe τ is).set i Option.none)[j]? = _
    have hl := L2.wipe_length τ is
    by_cases hj : i = j
    · subst hj
      by_cases hlt : i < τ.length
      · rw [List.getElem?_set_self (by rw [hl]; exact hlt), if_pos ⟨by simp, hlt⟩]
      · rw [List.getElem?_eq_none (by simp [hl]; omega), if_neg (fun z => hlt z.2), List.getElem?_eq_none (by omega)]
    · rw [List.getElem?_set_ne hj, wipe_at]
      have hj' : ¬ j = i := fun z => hj z.symm
      simp [hj']
theorem wipe_set {τ : L2.St} {is : List Nat} {i : Nat} {x : Option V} (h : i ∈ is) : L2.wipe (τ.set i x) is = L2.wipe τ is := by
  apply List.ext_getElem?
  intro j
  rw [wipe_at, wipe_at]
  by_cases hj : i = j
  · subst hj
    by_cases hl : i < τ.length
    · simp [h, hl]
    · rw [List.getElem?_eq_none (by simp; omega), List.getElem?_eq_none (by omega)]
      simp [hl]
  · rw [List.getElem?_set_ne hj]
    simp
theorem wipe_wipe {τ : L2.St} {is : List Nat} : L2.wipe (L2.wipe τ is) is = L2.wipe τ is := by
  apply List.ext_getElem?
  intro j
  rw [wipe_at, wipe_at, L2.wipe_length]
  by_cases h : j ∈ is ∧ j < τ.length
  · rw [if_pos h, if_pos h]
  · rw [if_neg h]
/-! ### targets -/
def gMany : List Nat → TGs
  | [] => gNil
  | i :: r => gCons (gName i) (gMany r)
def gT (K : PySem.W.Frag) : Tg → TG
  | .one i => gName i
  | .many is => gTup K is.length (gMany is)
def tgIn (own : List Nat) : Tg → Bool
  | .one i => decide (i ∈ own)
  | .many is => is.all fun i => decide (i ∈ own)
theorem many_go {H : Hp} {Q : L2.St → Hp → Prop} : ∀ (is : List Nat) (ws : List W) (vs : List V) (σ : Sl) (τ : L2.St), RVs R H ws vs → ws.length = is.length → RS R H σ τ →
    (∀ τ1, RS R H ((is.zip ws).foldl (fun σ q => σ.set q.1 (some q.2)) σ) τ1 → (∀ own : List Nat, (∀ i, i ∈ is → i ∈ own) → L2.wipe τ1 own = L2.wipe τ own) → Q τ1 H) → gMany is vs τ H Q
  | [], [], vs, σ, τ, r, _, hσ, k => by cases r; exact ⟨rfl, k _ hσ fun _ _ => rfl⟩
  | [], _ :: _, vs, σ, τ, r, e, hσ, k => by simp at e
  | i :: is, [], vs, σ, τ, r, e, hσ, k => by simp at e
  | i :: is, w :: ws, vs, σ, τ, r, e, hσ, k => by
    obtain ⟨v, vr, rfl, r1, r2⟩ := r
    exact ⟨v, vr, rfl, many_go is ws vr _ _ r2 (by simpa using e) (hσ.set i r1) fun τ1 h z => k τ1 h fun own hi => by
      rw [z own fun j hj => hi j (List.mem_cons_of_mem _ hj), wipe_set (hi i (List.mem_cons_self ..))]⟩
theorem gT_go {K : PySem.W.Frag} (hK : K = R.K) {t : Tg} {H : Hp} {w : W} {v : V} {σ : Sl} {τ : L2.St} {Kw : Sl → Prop} {Q : L2.St → Hp → Prop} (r : RV R H w v) (hσ : RS R H σ τ) (h : asg t w σ Kw)
    (k : ∀ σ1 τ1, Kw σ1 → RS R H σ1 τ1 → (∀ own, tgIn own t = true → L2.wipe τ1 own = L2.wipe τ own) → Q τ1 H) : gT K t v τ H Q := by
  cases t with
  | one i => exact k _ _ h (hσ.set i r) fun own ho => wipe_set (of_decide_eq_true ho)
  | many is =>
    cases w with
    | tup ws =>
      obtain ⟨p, vs, rfl, hp, hv⟩ := r
      obtain ⟨hl, q⟩ := (show ws.length = is.length ∧ Kw ((is.zip ws).foldl (fun σ q => σ.set q.1 (some q.2)) σ) from h)
      exact ⟨p, vs, rfl, by rw [hK]; exact hp, by rw [hv.length, hl], many_go is ws vs σ τ hv hl hσ fun τ1 h z => k _ τ1 q h fun own ho => z own fun i hi => of_decide_eq_true (List.all_eq_true.mp ho i hi)⟩
    | _ => exact (show False from h).elim
/-! ### an object that isn't told for a while -/
def dl (H : Hp) (D : Addr) : Hp := fun b => if b = D then none else H b
theorem dl_same {H : Hp} {D : Addr} : dl H D D = none := by unfold dl; rw [if_pos rfl]
theorem dl_ne {H : Hp} {D b : Addr} (h : b ≠ D) : dl H D b = H b := by unfold dl; rw [if_neg h]
theorem dl_upd {H : Hp} {D : Addr} {o : HO} (h : H D = some o) : upd (dl H D) D o = H := by
  funext b
  by_cases e : b = D
  · rw [e, upd_same, h]
  · rw [upd_ne e, dl_ne e]
/-- objects that may be left out of the told heap for a while -/
def LD : HO → Prop
  | .lst _ => True
  | .dK _ => True
  | _ => False
theorem LD.ne {o : HO} (h : LD o) : (∀ xs, o ≠ .tup xs) ∧ (∀ u v, o ≠ .frz u v) ∧ (∀ ps, o ≠ .tbl ps) ∧ ∀ a, o ≠ .own a := by
  cases o <;> first | exact h.elim | exact ⟨(fun _ z => nomatch z), (fun _ _ z => nomatch z), (fun _ z => nomatch z), (fun _ z => nomatch z)⟩
theorem LD.obj {P : Program} {w : World} {o : HO} (l : LD o) {H : Hp} {h : Heap} {D : Addr} (x : ObjOk P w H h D o) : ∃ ob, h.get? D = some ob ∧ (∀ v, ob.data ≠ .cell v) ∧ ∀ H' h', h'.get? D = some ob → ObjOk P w H' h' D o := by
  cases o with
  | lst xs =>
    obtain ⟨z, its, n, rv, e⟩ := x
    exact ⟨_, e, (fun v z => nomatch z), fun H' h' e' => ⟨z, its, n, rv, e'⟩⟩
  | dK kvs =>
    obtain ⟨z, ns, vs, kv, o, es, ep, e, hx, hd, h1, h2, h3⟩ := x
    exact ⟨o, e, (fun v q => by rw [hd] at q; cases q), fun H' h' e' => ⟨z, ns, vs, kv, o, es, ep, e', hx, hd, h1, h2, h3⟩⟩
  | _ => exact l.elim
structure HidOk (X : Cx) (pins : List (Addr × Obj)) (D : Addr) : Prop where
  b0 : ∀ o, X.s_0.heap.get? D = some o → X.H_0 D = none → D ∈ X.ex
  h0 : ∀ o, X.H_0 D = some o → (∀ xs, o ≠ .tup xs) ∧ (∀ u v, o ≠ .frz u v) ∧ ∀ ps, o ≠ .tbl ps
  lc : D ≠ X.env.locals
  cl : ∀ x c, X.env.cells.lookup x = some c → c ≠ D
  pn : ∀ p ∈ X.pn ++ pins, p.1 ≠ D
theorem Inv.hide {X : Cx} {pins : List (Addr × Obj)} {τ : L2.St} {H : Hp} {s : Shared} {D : Addr} {u : HO} (I : L2.Inv X pins τ H s) (l : LD u) (hD : H D = some u) :
    HidOk X pins D ∧ ∃ ob, (∀ H' h', h'.get? D = some ob → ObjOk X.prog X.w H' h' D u) ∧ L2.Inv X ((D, ob) :: pins) τ (dl H D) s := by
  obtain ⟨ob, e, hc, hob⟩ := l.obj (I.hok D _ hD)
  obtain ⟨l1, l2, l3, l4⟩ := l.ne
  have neN : ∀ b, H b = none → b ≠ D := fun b e z => by rw [z, hD] at e; cases e
  have nfs : D ∉ X.fs := fun hm => by
    obtain ⟨_, o, e0, _⟩ := I.ok.funs.mem hm
    exact neN D (I.base.free D o e0 (I.ok.frf D hm) fun hx => I.ok.exfs D hx hm) rfl
  have nt : ∀ b ys, H b = some (.tup ys) → b ≠ D := fun b ys q z => by rw [z, hD] at q; exact l1 ys (Option.some.inj q)
  have nfz : ∀ b o v, H b = some (.frz o v) → b ≠ D := fun b o v q z => by rw [z, hD] at q; exact l2 o v (Option.some.inj q)
  have ntb : ∀ b ps, H b = some (.tbl ps) → b ≠ D := fun b ps q z => by rw [z, hD] at q; exact l3 ps (Option.some.inj q)
  have no : ∀ b a, H b = some (.own a) → b ≠ D := fun b a q z => by rw [z, hD] at q; exact l4 a (Option.some.inj q)
  refine ⟨⟨fun o e0 h0 => ?_, fun o e0 => ?_, fun z => neN _ I.free z.symm, fun x c ec => neN c (I.freeC x c ec), fun p hp => neN _ (I.pin p hp).2.1⟩, ob, hob, ⟨I.ok, I.os, I.bare, ⟨I.base.keep, I.base.slot, fun b o e n hx => ?_, I.base.there, fun b ys e => ?_, fun b o u e => ?_, fun b ps e => ?_⟩, I.loc, I.cell, ?_, fun x c ec => ?_, fun p hp => ?_, fun b u eb => ?_, I.len⟩⟩
  · exact Classical.byContradiction fun hx => neN D (I.base.free D o e0 h0 hx) rfl
  · refine ⟨fun ys q => ?_, fun u v q => ?_, fun ps q => ?_⟩
    · subst q; exact nt D ys (I.base.tups D ys e0) rfl
    · subst q; exact nfz D u v (I.base.frzs D u v e0) rfl
    · subst q; obtain ⟨m, this⟩ := I.base.tbls D ps e0; exact ntb D _ this rfl
  · have := I.base.free b o e n hx
    rw [dl_ne (neN b this)]; exact this
  · have q := I.base.tups b ys e
    rw [dl_ne (nt b ys q)]; exact q
  · have q := I.base.frzs b o u e
    rw [dl_ne (nfz b o u q)]; exact q
  · obtain ⟨m, q⟩ := I.base.tbls b ps e
    exact ⟨m, by rw [dl_ne (ntb b _ q)]; exact q⟩
  · rw [dl_ne (neN _ I.free)]; exact I.free
  · rw [dl_ne (neN _ (I.freeC x c ec))]; exact I.freeC x c ec
  · have hp' : p ∈ X.pn ∨ p = (D, ob) ∨ p ∈ pins := by
      rcases List.mem_append.mp hp with q | q
      · exact .inl q
      · exact .inr (List.mem_cons.mp q)
    have old : p ∈ X.pn ++ pins → s.heap.get? p.1 = some p.2 ∧ dl H D p.1 = none ∧ p.1 ≠ X.env.locals ∧ p.1 ∉ X.fs ∧ ∀ v, p.2.data ≠ .cell v := fun q => by
      obtain ⟨q1, q2, q3⟩ := I.pin p q
      exact ⟨q1, by rw [dl_ne (neN _ q2)]; exact q2, q3⟩
    rcases hp' with q | q | q
    · exact old (List.mem_append_left _ q)
    · subst q
      exact ⟨e, dl_same, fun z => neN _ I.free z.symm, nfs, hc⟩
    · exact old (List.mem_append_right _ q)
  · have hb : b ≠ D := fun z => by rw [z, dl_same] at eb; cases eb
    rw [dl_ne hb] at eb
    refine (I.hok b u eb).stay (fun c v _ q => q) (fun c q => ?_) fun c ys q => ?_
    · rw [dl_ne (no c b q)]; exact q
    · rw [dl_ne (nt c ys q)]; exact q
theorem Inv.show {X : Cx} {pins : List (Addr × Obj)} {τ : L2.St} {H : Hp} {s : Shared} {D : Addr} {ob : Obj} {u : HO} (K : HidOk X pins D) (hob : ∀ H' h', h'.get? D = some ob → ObjOk X.prog X.w H' h' D u) (I : L2.Inv X ((D, ob) :: pins) τ H s) :
    H D = none ∧ L2.Inv X pins τ (upd H D u) s := by
  obtain ⟨e, hD, _⟩ := I.pin (D, ob) (List.mem_append_right _ List.mem_cons_self)
  refine ⟨hD, ⟨I.ok, I.os, I.bare, ⟨I.base.keep, I.base.slot, fun b o e0 n hx => ?_, I.base.there, fun b ys e0 => ?_, fun b o u e0 => ?_, fun b ps e0 => ?_⟩, I.loc, I.cell, ?_, fun x c ec => ?_, fun p hp => ?_, fun b u eb => ?_, I.len⟩⟩
  · have := I.base.free b o e0 n hx
    rw [upd_ne fun z => hx (by rw [z]; rw [z] at e0 n; exact K.b0 o e0 n)]; exact this
  · rw [upd_ne fun z => by rw [z] at e0; exact (K.h0 _ e0).1 _ rfl]; exact I.base.tups b ys e0
  · rw [upd_ne fun z => by rw [z] at e0; exact (K.h0 _ e0).2.1 _ _ rfl]; exact I.base.frzs b o u e0
  · obtain ⟨m, q⟩ := I.base.tbls b ps e0
    exact ⟨m, by rw [upd_ne fun z => by rw [z] at e0; exact (K.h0 _ e0).2.2 _ rfl]; exact q⟩
  · rw [upd_ne (Ne.symm K.lc)]; exact I.free
  · rw [upd_ne (K.cl x c ec)]; exact I.freeC x c ec
  · have hp' : p ∈ X.pn ++ ((D, ob) :: pins) := by
      rcases List.mem_append.mp hp with q | q
      · exact List.mem_append_left _ q
      · exact List.mem_append_right _ (List.mem_cons_of_mem _ q)
    obtain ⟨q1, q2, q3⟩ := I.pin p hp'
    exact ⟨q1, by rw [upd_ne (K.pn p hp)]; exact q2, q3⟩
  · by_cases hb : b = D
    · subst hb
      rw [upd_same] at eb
      cases eb
      exact hob _ _ e
    · rw [upd_ne hb] at eb
      refine (I.hok b u eb).stay (fun c v _ q => q) (fun c q => ?_) fun c ys q => ?_
      · rw [upd_ne (ne_of_none q hD)]; exact q
      · rw [upd_ne (ne_of_none q hD)]; exact q
def hdE (t : TE) : TE := fun τ H Q => ∃ D u, LD u ∧ H D = some u ∧ t τ (dl H D) fun v H1 => H1 D = none → Q v (upd H1 D u)
def hdT (t : TT) : TT := fun τ H Q => ∃ D u, LD u ∧ H D = some u ∧ t τ (dl H D) fun v H1 => H1 D = none → Q v (upd H1 D u)
theorem PE.hid {X : Cx} {e : Expr} {t : TE} (h : PE X e t) : PE X e (hdE t) :=
  ⟨fun pins s τ H Q I ⟨D, u, l, hD, q⟩ => by
    obtain ⟨K, ob, hob, I2⟩ := Inv.hide I l hD
    exact thn (h.run _ s τ _ _ I2 q) fun u s2 ⟨v, H2, I3, r, z⟩ => let ⟨n, J⟩ := Inv.show K hob I3; ⟨v, _, J, r, z n⟩⟩
theorem PTs.hid {X : Cx} {e : List Expr} {t : TT} (h : PTs X e t) : PTs X e (hdT t) :=
  ⟨fun pins s τ H Q I ⟨D, u, l, hD, q⟩ => by
    obtain ⟨K, ob, hob, I2⟩ := Inv.hide I l hD
    exact thn (h.run _ s τ _ _ I2 q) fun u s2 ⟨H2, I3, z⟩ => let ⟨n, J⟩ := Inv.show K hob I3; ⟨_, J, z n⟩⟩
theorem dl_of {H : Hp} {D : Addr} {o : HO} (h : H D = none) : dl (upd H D o) D = H := by
  funext b
  by_cases e : b = D
  · rw [e, dl_same, h]
  · rw [dl_ne e, upd_ne e]
theorem kp_dl {H : Hp} {D : Addr} {xs : List V} (hD : H D = some (.lst xs)) : Kp H (dl H D) := fun a => by
  by_cases h : a = D
  · subst h
    exact ⟨fun xs q => (by rw [hD] at q; cases q), fun ob z q => (by rw [hD] at q; cases q)⟩
  · rw [dl_ne h]
    exact ⟨fun _ q => q, fun _ _ q => q⟩
theorem kp_new {H : Hp} {p : Addr} {u : HO} (hp : H p = none) : Kp H (upd H p u) := fun a => by
  by_cases h : a = p
  · subst h
    exact ⟨fun xs q => (by rw [hp] at q; cases q), fun ob z q => (by rw [hp] at q; cases q)⟩
  · rw [upd_ne h]
    exact ⟨fun _ q => q, fun _ _ q => q⟩
theorem Gr.kp {H H1 : Hp} (f : Gr H H1) : Kp H H1 := fun a => ⟨fun _ q => f _ _ q, fun _ _ q => f _ _ q⟩
theorem Sim.dl {S : Sto} {H : Hp} {D : Addr} {xs : List V} (hS : Sim R S H) (hn : S D = none) (hD : H D = some (.lst xs)) : Sim R S (dl H D) := fun a o e => by
  have ne : a ≠ D := fun z => by rw [z, hn] at e; cases e
  exact RO.kp (kp_dl hD) (dl_ne ne) (hS a o e)
theorem RS.kp {H H1 : Hp} {σ : Sl} {τ : L2.St} (f : Kp H H1) (h : RS R H σ τ) : RS R H1 σ τ := ⟨h.len, fun j u e => let ⟨z, e1, e2⟩ := h.at_ j u e; ⟨z, e1, RV.kp f _ _ e2⟩, h.an.trans f⟩
/-! ### list comprehensions -/
theorem kp_lst {H : Hp} {D : Addr} {xs ys : List V} (hD : H D = some (.lst xs)) : Kp H (upd H D (.lst ys)) := fun a => by
  by_cases h : a = D
  · subst h
    exact ⟨fun xs q => (by rw [hD] at q; cases q), fun ob z q => (by rw [hD] at q; cases q)⟩
  · exact ⟨fun xs q => (by rw [upd_ne h]; exact q), fun ob z q => (by rw [upd_ne h]; exact q)⟩
theorem Sim.hidChg {S : Sto} {H : Hp} {D : Addr} {xs ys : List V} (hS : Sim R S H) (hn : S D = none) (hD : H D = some (.lst xs)) : Sim R S (upd H D (.lst ys)) := fun a o e => by
  have ne : a ≠ D := fun z => by rw [z, hn] at e; cases e
  exact RO.kp (kp_lst hD) (upd_ne ne) (hS a o e)
theorem kp_fz {H : Hp} {D : Addr} {xs : List V} {o : Obj} {u : HO} (hD : H D = some (.lst xs)) : Kp H (upd H D (.frz o u)) := fun a => by
  by_cases h : a = D
  · subst h
    exact ⟨fun xs e => (by rw [hD] at e; cases e), fun ob z e => (by rw [hD] at e; cases e)⟩
  · rw [upd_ne h]
    exact ⟨fun _ e => e, fun _ _ e => e⟩
theorem Sim.hidFz {S : Sto} {H : Hp} {D : Addr} {xs : List V} {o : Obj} {u : HO} (hS : Sim R S H) (hn : S D = none) (hD : H D = some (.lst xs)) : Sim R S (upd H D (.frz o u)) := fun a ob e => by
  have ne : a ≠ D := fun z => by rw [z, hn] at e; cases e
  exact RO.kp (kp_fz hD) (upd_ne ne) (hS a ob e)
theorem E1.blk (E : E1 R G X) (s : Shared) (H : Hp) (scope : Scope) (ce : Env) (fp : List Addr) : E1 R G (X.blk s H scope ce fp) :=
  { xcs := E.xcs, K := E.K, calm := E.calm, un := E.un, gd := E.gd, sm := E.sm, own := E.own, bo := E.bo, oo := E.oo, sp := E.sp, na := E.na, mt := E.mt, ini := E.ini, kd := E.kd }
/-- the layer's reading of a comprehension, from ours -/
theorem lc_go {K : PySem.W.Frag} (hK : K = R.K) {own : List Nat} {t : Tg} {ti : TI'} {tt : TT'} {te : TE'} (ho : tgIn own t = true) {τ : L2.St} {H : Hp} {Q Q2 : VK} (hq : ∀ v H1, Cl X Q v H1 → Q2 v H1) (h : LE R (wLcE own t ti tt te) τ H Q) : tLc (LI R ti) (gT K t) (hdT (LT R tt)) (hdE (LE R te)) own τ H Q2 := by
  obtain ⟨σ, S, Qw, hσ, hS, h, k⟩ := h
  refine ⟨σ, S, _, hσ, hS, h, fun ws gd S1 H1 J q hS1 f1 ok D hD => ?_⟩
  have hSD := hS1.no hD
  have hσ1 := (hσ.mono hS f1).wipe own
  obtain ⟨d1, d2⟩ := hS1.hid (u := .lst []) hD
  refine ⟨fun i m Hc => m = ws.length - i ∧ i ≤ ws.length ∧ ∃ acc Sc vs, Hc D = some (.lst vs) ∧ RVs R Hc acc vs ∧ Sim R Sc Hc ∧ Sc D = none ∧ Kp H1 Hc ∧ RS R Hc (wipe σ own) (L2.wipe τ own) ∧ wLc gd t (wipe σ own) tt te Qw (ws.drop i) acc Sc,
    ⟨ws.length, by simp, Nat.zero_le _, [], S1, [], upd_same, rfl, d1, hSD, kp_new hD, hσ1.mono hS1 d2, by simpa using q⟩, ?_⟩
  rintro i m Hc ⟨rfl, hi, acc, Sc, vs, hDc, ra, hSc, hSDc, fc, hσc, hw⟩
  have frc : Fr S1 H1 Sc Hc := Sim.fr hS1 hSc fc
  by_cases hlt : i < ws.length
  · have ed : ws.drop i = ws[i] :: ws.drop (i + 1) := List.drop_eq_getElem_cons hlt
    rw [ed] at hw
    obtain ⟨hgd, hlen, hw⟩ := (show gd Sc ∧ acc.length < LIM ∧ asg t ws[i] (wipe σ own) (fun σ1 => tt σ1 Sc fun b S1 => if b = true then te σ1 S1 fun y S2 => wLc gd t (wipe σ own) tt te Qw (ws.drop (i + 1)) (acc ++ [y]) S2 else wLc gd t (wipe σ own) tt te Qw (ws.drop (i + 1)) acc S1) from hw)
    obtain ⟨go, yl⟩ := ok.go i ws[i] Sc Hc hSc frc hgd (by simp [hlt])
    refine .inr ⟨go, fun H' => ∃ acc Sc vs, H' D = some (.lst vs) ∧ RVs R H' acc vs ∧ Sim R Sc H' ∧ Sc D = none ∧ Kp H1 H' ∧ RS R H' (wipe σ own) (L2.wipe τ own) ∧ wLc gd t (wipe σ own) tt te Qw (ws.drop (i + 1)) acc Sc, fun H' n => ⟨ws.length - (i + 1), by omega, rfl, hlt, n⟩, fun x H2 y => ?_⟩
    obtain ⟨rx, hS2, f2, g2⟩ := yl x H2 y
    have hD2 := g2 D _ hDc
    have kp2 := g2.kp
    refine gT_go hK rx (hσc.kp kp2) hw fun σ1 τ1 hk hσ1' hwp => ⟨?_, ?_⟩
    · rw [hwp own ho, wipe_wipe]
    refine ⟨D, .lst vs, trivial, hD2, LT.go (hσ1'.kp (kp_dl hD2)) (hS2.dl hSDc hD2) hk fun b S3 H3 q3 hS3 f3 hσ3 n3 => ?_⟩
    have k23 : Kp Hc H3 := kp2.trans ((kp_dl hD2).trans (f3.kp (hS2.dl hSDc hD2)))
    have k3 : Kp Hc (upd H3 D (.lst vs)) := k23.trans (kp_new n3)
    have hSD3 := hS3.no n3
    cases b with
    | false => exact ⟨acc, S3, vs, upd_same, RVs.kp k3 _ _ ra, (hS3.hid n3).1, hSD3, fc.trans k3, hσc.kp k3, q3⟩
    | true =>
      dsimp only
      rw [if_pos rfl]
      refine ⟨D, .lst vs, trivial, upd_same, ?_⟩
      rw [dl_of n3]
      refine LE.go hσ3 hS3 q3 fun y S4 v H4 q4 r4 hS4 f4 hσ4 n4 => ?_
      have k34 := f4.kp hS3
      have k4 : Kp Hc (upd H4 D (.lst (vs ++ [v]))) := (k23.trans k34).trans (kp_new n4)
      have hSD4 := hS4.no n4
      refine ⟨vs, upd_same, by rw [ra.length, ← lim_eq]; exact hlen, acc ++ [y], S4, vs ++ [v], upd_same, ?_, ?_, hSD4, ?_, ?_, q4⟩
      · rw [upd_upd]; exact (RVs.kp k4 _ _ ra).append (.one (RV.kp (kp_new n4) _ _ r4))
      · rw [upd_upd]; exact (hS4.hid n4).1
      · rw [upd_upd]; exact fc.trans k4
      · rw [upd_upd]; exact hσc.kp k4
  · have e : ws.drop i = [] := List.drop_eq_nil_of_le (by omega)
    rw [e] at hw
    obtain ⟨hgd, _, hnew⟩ := (show gd Sc ∧ acc.length ≤ LIM ∧ newL acc Sc Qw from hw)
    refine .inl ⟨ok.stop i Sc Hc hSc frc hgd (by omega), ?_⟩
    have f : Kp H Hc := (f1.kp hS).trans fc
    refine hq _ _ ?_
    rcases hnew with hnew | hnew
    · intro pins σ0 s0 I
      obtain ⟨o, I2⟩ := I.lock (d := D) (u := .lst vs) hDc trivial
      have z := hSc.hidFz (o := o) (u := .lst vs) hSDc hDc
      exact ⟨_, I2, k (.rl acc) Sc (.ref D) _ hnew ⟨D, vs, rfl, .inl ⟨o, upd_same⟩, RVs.kp (kp_fz hDc) _ _ ra⟩ z (Sim.fr hS z (f.trans (kp_fz hDc)))⟩
    have z : Sim R (ups Sc D (.lst acc)) Hc := fun a o ea => by
      by_cases ha : a = D
      · subst ha
        rw [ups_same] at ea
        cases ea
        exact ⟨vs, hDc, ra⟩
      · rw [ups_ne ha] at ea
        exact hSc a o ea
    exact Cl.of (k (.ref D) (ups Sc D (.lst acc)) (.ref D) Hc (hnew D hSDc) rfl z (Sim.fr hS z f))
end
end MP
/-! MP12: statements. -/
namespace MP
open PySem L2 PyProof.Rows
section
variable {R : RC} {G : Gm} {X : Cx}
variable {a b d : Expr} {ta tb td : TE'} {pos : Pos} {st : Stmt} {rest : List Stmt} {u v : TS'}
def sNil : TS' := fun D σ S => D.nx σ S
def sSeq (u v : TS') : TS' := fun D σ S => u { D with nx := fun σ S => v D σ S } σ S
def sSet (e : TE') (t : Tg) : TS' := fun D σ S => e σ S fun w S1 => asg t w σ fun σ1 => D.nx σ1 S1
def sExpr (e : TE') : TS' := fun D σ S => e σ S fun _ S1 => D.nx σ S1
def sRet (e : TE') : TS' := fun D σ S => e σ S D.rt
theorem ss_nil : PSs X [] (LS R sNil) := ⟨fun pins s τ H D I h => by
  obtain ⟨σ, S, Dw, hσ, hS, h, k⟩ := h
  exact (pss_nil (X := X)).run pins s τ H D I (k.nx _ _ _ _ h hσ hS (Fr.refl _ _))⟩
theorem ss_cons (h1 : PS X st (LS R u)) (h2 : PSs X rest (LS R v)) : PSs X (st :: rest) (LS R (sSeq u v)) := by
  refine PSs.imp (pss_cons h1 h2) fun D τ H h => ?_
  obtain ⟨σ, S, Dw, hσ, hS, h, k⟩ := h
  exact ⟨σ, S, _, hσ, hS, h, ⟨fun σ1 S1 τ1 H1 q a b f => ⟨σ1, S1, Dw, a, b, q, k.tr f⟩, k.rt, k.bk, k.ct⟩⟩
theorem s_pass : PS X (.Pass pos) (LS R sNil) := PS.imp ps_pass fun D τ H h => by
  obtain ⟨σ, S, Dw, hσ, hS, h, k⟩ := h
  exact k.nx _ _ _ _ h hσ hS (Fr.refl _ _)
theorem s_brk : PS X (.Break pos) (LS R (fun D σ S => D.bk σ S)) := PS.imp ps_break fun D τ H h => by
  obtain ⟨σ, S, Dw, hσ, hS, h, k⟩ := h
  exact k.bk _ _ _ _ h hσ hS (Fr.refl _ _)
theorem s_ct : PS X (.Continue pos) (LS R (fun D σ S => D.ct σ S)) := PS.imp ps_continue fun D τ H h => by
  obtain ⟨σ, S, Dw, hσ, hS, h, k⟩ := h
  exact k.ct _ _ _ _ h hσ hS (Fr.refl _ _)
theorem s_never : PS X st (LS R (fun _ _ _ => False)) := PS.imp ps_never fun D τ H h => by
  obtain ⟨σ, S, Dw, hσ, hS, h, k⟩ := h
  exact h
theorem s_expr (ha : PE X a (LE R ta)) (hs : swapsWith a none pos.line X.env = pure false) : PS X (.Expr a pos) (LS R (sExpr ta)) := by
  refine PS.imp (ps_expr ha hs) fun D τ H h => ?_
  obtain ⟨σ, S, Dw, hσ, hS, h, k⟩ := h
  exact LE.go hσ hS h fun w S1 v H1 q r hS1 f hσ1 => k.nx _ _ _ _ q hσ1 hS1 f
theorem s_ret (ha : PE X a (LE R ta)) : PS X (.Return (some a) pos) (LS R (sRet ta)) := by
  refine PS.imp (ps_ret ha) fun D τ H h => ?_
  obtain ⟨σ, S, Dw, hσ, hS, h, k⟩ := h
  exact LE.go hσ hS h fun w S1 v H1 q r hS1 f hσ1 => k.rt _ _ _ _ q r hS1 f
theorem s_retN : PS X (.Return none pos) (LS R (sRet (wK .non))) := by
  refine PS.imp ps_retN fun D τ H h => ?_
  obtain ⟨σ, S, Dw, hσ, hS, h, k⟩ := h
  exact k.rt _ _ _ _ h rfl hS (Fr.refl _ _)
theorem s_retv {i : Nat} (ha : PE X a (LE R (wVar i))) : PS X (.Return (some a) pos) (LS R (fun D σ S => wFrz i σ S D.rt)) := by
  refine PS.imp (PS.cl (ps_ret ha)) fun D τ H h => ?_
  obtain ⟨σ, S, Dw, hσ, hS, h, k⟩ := h
  have h' : (match σ[i]? with
    | some (some w) => Dw.rt w S ∨ ∃ a, w = .ref a ∧ ((∃ ws, S a = some (.lst ws) ∧ Dw.rt (.rl ws) (dlS S a)) ∨ ∃ kvs, S a = some (.dct kvs) ∧ Dw.rt (rdK kvs) (dlS S a))
    | _ => False) := h
  cases e : σ[i]? with
  | none => rw [e] at h'; exact h'.elim
  | some o => cases o with
    | none => rw [e] at h'; exact h'.elim
    | some w =>
      rw [e] at h'
      refine ⟨σ, S, fun w1 S1 => w1 = w ∧ S1 = S, hσ, hS, ?_, fun w1 S1 v H1 ⟨e1, e2⟩ r hS1 f => ?_⟩
      · show (match σ[i]? with
          | some (some w1) => w1 = w ∧ S = S
          | _ => False)
        rw [e]
        exact ⟨rfl, rfl⟩
      subst e1 e2
      rcases h' with h' | ⟨a, rfl, ⟨ws, ea, h'⟩ | ⟨kvs, ea, h'⟩⟩
      · exact Cl.of (k.rt _ _ _ _ h' r hS1 f)
      · cases r
        obtain ⟨vs, eH, fz⟩ := fz_lst hS1 ea
        intro pins σ0 s0 I
        obtain ⟨o, I2⟩ := I.lock (d := a) (u := .lst vs) eH trivial
        obtain ⟨z1, z2, z3⟩ := fz o
        exact ⟨_, I2, k.rt _ _ _ _ h' z3 z1 (f.trans z2)⟩
      · cases r
        obtain ⟨vs, eH, fz⟩ := fz_dct hS1 ea
        intro pins σ0 s0 I
        obtain ⟨o, I2⟩ := I.lock (d := a) (u := .dK vs) eH trivial
        obtain ⟨z1, z2, z3⟩ := fz o
        exact ⟨_, I2, k.rt _ _ _ _ h' z3 z1 (f.trans z2)⟩
theorem asg_go (hK : X.K = R.K) {t : Tg} {D : Ends} {τ : L2.St} {H : Hp} (h : LS R (sSet ta t) D τ H) : tAsg (LE R ta) (gT X.K t) D τ H := by
  obtain ⟨σ, S, Dw, hσ, hS, h, k⟩ := h
  exact LE.go hσ hS h fun w S1 v H1 q r hS1 f hσ1 => gT_go hK r hσ1 q fun σ1 τ1 hk hσ2 _ => k.nx _ _ _ _ hk hσ2 hS1 f
theorem s_set {i : Nat} {x : Str} {p : Pos} (hK : X.K = R.K) (hN : X.N.Nodup) (hi : X.N[i]? = some x) (hx : Loc X.env.scope x) (ha : PE X a (LE R ta)) (hs : swapsWith a (some (.Name x p)) pos.line X.env = pure false) (hf : X.fn x = true ∨ X.env.scope.names.lookup x = some .local) :
    PS X (.Assign [.Name x p] a pos) (LS R (sSet ta (.one i))) := PS.imp (ps_set hN hi hx ha hs hf) fun D τ H h => asg_go (t := .one i) hK h
theorem s_many {is : List Nat} {es : List Expr} {k1 : Nat} {p : Pos} (hK : X.K = R.K) (hc : X.calm = true) (ha : PE X a (LE R ta)) (hg : PGs X es (gMany is)) (hn : (assignEach es X.env).length = is.length) (hst : (assignEach es X.env).findIdx? (·.1) = none)
    (hs : swapsWithSole [.Tuple es k1 p] a pos.line X.env = pure false) (hw : swappedStores [.Tuple es k1 p] a X.env = pure none) : PS X (.Assign [.Tuple es k1 p] a pos) (LS R (sSet ta (.many is))) :=
  PS.imp (ps_asg ha (pg_tup hc hg hn hst) hs hw) fun D τ H h => asg_go (t := .many is) hK h
theorem s_par {i j : Nat} {x y : Str} {px py pt : Pos} {kt k2 : Nat} {pt2 : Pos} (hK : X.K = R.K) (hc : X.calm = true) (hN : X.N.Nodup) (hi : X.N[i]? = some x) (hj : X.N[j]? = some y) (hij : i ≠ j)
    (hx : X.env.scope.names.lookup x = some .local) (hy : X.env.scope.names.lookup y = some .local) (ha : PE X a (LE R ta)) (hb : PE X b (LE R tb)) (he1 : starEach [a, b] X.env = (false, eval a X.env) :: starEach [b] X.env) (he2 : starEach [b] X.env = (false, eval b X.env) :: starEach [] X.env)
    (hw : swappedStores [.Tuple [.Name x px, .Name y py] kt pt] (.Tuple [a, b] k2 pt2) X.env = pure (some [x, y]))
    (hs : swapsWithSole [.Tuple [.Name x px, .Name y py] kt pt] (.Tuple [a, b] k2 pt2) pos.line X.env = pure false) :
    PS X (.Assign [.Tuple [.Name x px, .Name y py] kt pt] (.Tuple [a, b] k2 pt2) pos) (LS R (sSet (wTup (aCons ta (aCons tb aNil))) (.many [i, j]))) := by
  refine PS.imp (ps_par hc hN hi hj hij hx hy (pa_cons ha (pa_cons hb pa_nil he2) he1) hw hs) fun D τ H h => ?_
  obtain ⟨σ, S, Dw, hσ, hS, h, k⟩ := h
  refine LE.go hσ hS h fun w S1 v H1 q r hS1 f hσ1 => LE.go hσ1 hS1 q fun w2 S2 v2 H2 q2 r2 hS2 f2 hσ2 => ⟨v, v2, rfl, ?_⟩
  obtain ⟨_, _, q3⟩ := q2
  exact k.nx _ _ _ _ q3 ((hσ2.set i (RV.mono hS1 f2 _ _ r)).set j r2) hS2 (f.trans f2)
theorem s_par3 {i j l : Nat} {x y z : Str} {px py pz pt : Pos} {kt k2 : Nat} {pt2 : Pos} (hK : X.K = R.K) (hc : X.calm = true) (hN : X.N.Nodup) (hi : X.N[i]? = some x) (hj : X.N[j]? = some y) (hl : X.N[l]? = some z) (hij : i ≠ j) (hil : i ≠ l) (hjl : j ≠ l)
    (hx : X.env.scope.names.lookup x = some .local) (hy : X.env.scope.names.lookup y = some .local) (hz : X.env.scope.names.lookup z = some .local) (ha : PE X a (LE R ta)) (hb : PE X b (LE R tb)) (hd : PE X d (LE R td))
    (he1 : starEach [a, b, d] X.env = (false, eval a X.env) :: starEach [b, d] X.env) (he2 : starEach [b, d] X.env = (false, eval b X.env) :: starEach [d] X.env) (he3 : starEach [d] X.env = (false, eval d X.env) :: starEach [] X.env)
    (hw : swappedStores [.Tuple [.Name x px, .Name y py, .Name z pz] kt pt] (.Tuple [a, b, d] k2 pt2) X.env = pure (some [x, y, z]))
    (hs : swapsWithSole [.Tuple [.Name x px, .Name y py, .Name z pz] kt pt] (.Tuple [a, b, d] k2 pt2) pos.line X.env = pure false) :
    PS X (.Assign [.Tuple [.Name x px, .Name y py, .Name z pz] kt pt] (.Tuple [a, b, d] k2 pt2) pos) (LS R (sSet (wTup (aCons ta (aCons tb (aCons td aNil)))) (.many [i, j, l]))) := by
  refine PS.imp (ps_par3 hc hN hi hj hl hij hil hjl hx hy hz (pa_cons ha (pa_cons hb (pa_cons hd pa_nil he3) he2) he1) hw hs) fun D τ H h => ?_
  obtain ⟨σ, S, Dw, hσ, hS, h, k⟩ := h
  refine LE.go hσ hS h fun w S1 v H1 q r hS1 f hσ1 => LE.go hσ1 hS1 q fun w2 S2 v2 H2 q2 r2 hS2 f2 hσ2 => LE.go hσ2 hS2 q2 fun w3 S3 v3 H3 q3 r3 hS3 f3 hσ3 => ⟨v, v2, v3, rfl, ?_⟩
  obtain ⟨_, _, q4⟩ := q3
  exact k.nx _ _ _ _ q4 (((hσ3.set i (RV.mono hS2 f3 _ _ (RV.mono hS1 f2 _ _ r))).set j (RV.mono hS2 f3 _ _ r2)).set l r3) hS3 ((f.trans f2).trans f3)
theorem s_setLc (E : E1 R G X) (hN : X.N.Nodup) {i : Nat} {y : Str} {py pos2 : Pos} {elt tg iter : Expr} {ifs : List Expr} {scope : Scope} {own : List (Str × Nat)} {t : Tg} {ti : TI'} {tt : TT'} {te : TE'} (hy : X.N[i]? = some y) (hyl : X.env.scope.names.lookup y = some .local)
    (hsw : swapsWith (.ListComp elt [⟨tg, iter, ifs, 0⟩] scope pos) (some (.Name y py)) pos2.line X.env = pure true) (hi : PI X tg iter (LI R ti)) (ok : BlkOk X.N X.env.scope scope own) (ho : tgIn (own.map (·.2)) t = true)
    (hg : ∀ (s : Shared) (H : Hp) (C : Addr) (cl : List (Str × Addr)) (fp : List Addr), PG (X.blk s H scope (compEnvC scope cl C X.env) fp) tg (gT X.K t))
    (ht : ∀ (s : Shared) (H : Hp) (C : Addr) (cl : List (Str × Addr)) (fp : List Addr), PTs (X.blk s H scope (compEnvC scope cl C X.env) fp) ifs (LT R tt))
    (he : ∀ (s : Shared) (H : Hp) (C : Addr) (cl : List (Str × Addr)) (fp : List Addr), PE (X.blk s H scope (compEnvC scope cl C X.env) fp) elt (LE R te))
    (hs : ∀ x, foldedSetIterable iter X.env x = pure x) : PS X (.Assign [.Name y py] (.ListComp elt [⟨tg, iter, ifs, 0⟩] scope pos) pos2) (LS R (sSet (wLcE (own.map (·.2)) t ti tt te) (.one i))) := by
  refine PS.imp (PS.cl (ps_setLc E.calm hN hy hyl hsw hi ok hg (fun s H C cl fp => PTs.hid (ht s H C cl fp)) (fun s H C cl fp => PE.hid (he s H C cl fp)) hs)) fun D τ H h => ?_
  obtain ⟨σ, S, Dw, hσ, hS, h, k⟩ := h
  refine lc_go (X := X) (Q := fun v H1 => D.nx (τ.set i (some v)) H1) E.K ho (fun v H1 c => fun pins s I => c pins _ s I) ⟨σ, S, _, hσ, hS, h, fun w S1 v H1 q r hS1 f => ?_⟩
  exact gT_go (t := .one i) E.K r (hσ.mono hS f) q fun σ1 τ1 hk hσ2 _ => k.nx _ _ _ _ hk hσ2 hS1 f
theorem e_lc (E : E1 R G X) (hN : X.N.Nodup) {elt tg iter : Expr} {ifs : List Expr} {scope : Scope} {own : List (Str × Nat)} {t : Tg} {ti : TI'} {tt : TT'} {te : TE'} (hi : PI X tg iter (LI R ti)) (ok : BlkOk X.N X.env.scope scope own) (ho : tgIn (own.map (·.2)) t = true)
    (hg : ∀ (s : Shared) (H : Hp) (C : Addr) (cl : List (Str × Addr)) (fp : List Addr), PG (X.blk s H scope (compEnvC scope cl C X.env) fp) tg (gT X.K t))
    (ht : ∀ (s : Shared) (H : Hp) (C : Addr) (cl : List (Str × Addr)) (fp : List Addr), PTs (X.blk s H scope (compEnvC scope cl C X.env) fp) ifs (LT R tt))
    (he : ∀ (s : Shared) (H : Hp) (C : Addr) (cl : List (Str × Addr)) (fp : List Addr), PE (X.blk s H scope (compEnvC scope cl C X.env) fp) elt (LE R te))
    (hs : ∀ x, foldedSetIterable iter X.env x = pure x) : PE X (.ListComp elt [⟨tg, iter, ifs, 0⟩] scope pos) (LE R (wLcE (own.map (·.2)) t ti tt te)) :=
  PE.imp (PE.cl (pe_lc E.calm hN hi ok hg (fun s H C cl fp => PTs.hid (ht s H C cl fp)) (fun s H C cl fp => PE.hid (he s H C cl fp)) hs)) fun τ H Q h => lc_go E.K ho (fun _ _ c => c) h
/-! ### fields, items -/
theorem putF_rel {H : Hp} {f : Nat} {w : W} {v : V} (r : RV R H w v) : ∀ {fs : List (Nat × W)} {fr : List (Str × V)}, fr.map (·.1) = fs.map (fun q => nm q.1) → RVs R H (fs.map (·.2)) (fr.map (·.2)) →
    (L2.putF (nm f) v fr).map (·.1) = (putF f w fs).map (fun q => nm q.1) ∧ RVs R H ((putF f w fs).map (·.2)) ((L2.putF (nm f) v fr).map (·.2))
  | [], fr, e, _ => by
    have e2 : fr = [] := by simpa using e
    subst e2
    exact ⟨rfl, .one r⟩
  | (g, w2) :: fs, [], e, _ => by simp at e
  | (g, w2) :: fs, (x, v2) :: fr, e, rs => by
    simp only [List.map_cons, List.cons.injEq] at e
    obtain ⟨e1, e2⟩ := e
    obtain ⟨v', vr, ev, r1, r2⟩ := rs
    simp only [List.map_cons, List.cons.injEq] at ev
    obtain ⟨e0, e4⟩ := ev
    subst e0
    rw [← e4] at r2
    have e1' : x = nm g := e1
    subst e1'
    obtain ⟨i1, i2⟩ := putF_rel (f := f) r e2 r2
    by_cases h : g = f
    · subst h
      simp only [putF, L2.putF, if_true]
      exact ⟨by simp [e2], .cons r r2⟩
    · have h2 : ¬ nm g = nm f := fun z => h (nm_inj z)
      simp only [putF, L2.putF, if_neg h, if_neg h2]
      exact ⟨by simp [i1], .cons r1 i2⟩
def sFldW (G : Gm) (e o : TE') (f : Nat) : TS' := fun D σ S => e σ S fun w S1 => o σ S1 fun x S2 => (match x with
    | .ref p => (match S2 p with
      | some (.ins k fs) => G.at_ k f = true ∧ fs.length < 1000 ∧ D.nx σ (ups S2 p (.ins k (putF f w fs)))
      | _ => False)
    | _ => False)
theorem s_setf (E : E1 R G X) {f : Nat} {p : Pos} (ho : PE X b (LE R tb)) (ha : PE X a (LE R ta)) (hs : swapsWith a (some (.Attribute b (nm f) p)) pos.line X.env = pure false) : PS X (.Assign [.Attribute b (nm f) p] a pos) (LS R (sFldW G ta tb f)) := by
  refine PS.imp (ps_fld ho ha hs) fun D τ H h => ?_
  obtain ⟨σ, S, Dw, hσ, hS, h, k⟩ := h
  refine LE.go hσ hS h fun w S1 v H1 q r hS1 f1 hσ1 => LE.go hσ1 hS1 q fun w2 S2 v2 H2 q2 r2 hS2 f2 hσ2 => ?_
  cases w2 with
  | ref p =>
    cases r2
    have h' : (match S2 p with
      | some (.ins k fs) => G.at_ k f = true ∧ fs.length < 1000 ∧ Dw.nx σ (ups S2 p (.ins k (putF f w fs)))
      | _ => False) := q2
    cases ea : S2 p with
    | none => rw [ea] at h'; exact h'.elim
    | some oa => cases oa with
      | ins c fs =>
        rw [ea] at h'
        obtain ⟨hat, hl, hq⟩ := h'
        obtain ⟨dx, fr, e1, e2, e3⟩ := hS2 p _ ea
        obtain ⟨n1, n2⟩ := E.na c f hat
        have rw_ := RV.mono hS1 f2 _ _ r
        have el : fr.length = fs.length := by have := congrArg List.length e2; simpa using this
        obtain ⟨k1, k2⟩ := hS2.chg (u := .ins (R.cad c) dx (L2.putF (nm f) v fr)) (o1 := .ins c (putF f w fs)) ea (fun _ z => nomatch z) fun H4 g1 g2 e4 =>
          ⟨dx, _, e4, (putF_rel (g1 _ _ rw_) e2 (g2 _ _ e3)).1, (putF_rel (g1 _ _ rw_) e2 (g2 _ _ e3)).2⟩
        exact ⟨p, R.cad c, dx, fr, rfl, e1, by rw [E.K]; exact n1, by rw [E.K]; exact n2, by rw [el]; exact hl, k.nx _ _ _ _ hq (hσ2.mono hS2 k2) k1 ((f1.trans f2).trans k2)⟩
      | _ => rw [ea] at h'; exact h'.elim
  | _ => exact (show False from q2).elim
def sItemW (e o i : TE') : TS' := fun D σ S => e σ S fun w S1 => o σ S1 fun x S2 => i σ S2 fun y S3 => setW x y w S3 fun S4 => D.nx σ S4
theorem s_seti (E : E1 R G X) {p : Pos} (ha : PE X a (LE R ta)) (hb : PE X b (LE R tb)) (hd : PE X d (LE R td)) (hs : swapsWith a (some (.Subscript b d p)) pos.line X.env = pure false) : PS X (.Assign [.Subscript b d p] a pos) (LS R (sItemW ta tb td)) := by
  refine ⟨fun pins s τ H D I h => ?_⟩
  obtain ⟨σ, S, Dw, hσ, hS, h, k⟩ := h
  refine wpAny_Assign_Subscript (thn (ha.run pins s τ H (fun v H1 => LE R tb τ H1 fun x H2 => LE R td τ H2 fun y H3 => LSet R x y v H3 fun H4 => D.nx τ H4) I (LE.go hσ hS h fun w S1 v H1 q1 r1 hS1 f1 hσ1 => LE.go hσ1 hS1 q1 fun w2 S2 v2 H2 q2 r2 hS2 f2 hσ2 => LE.go hσ2 hS2 q2 fun w3 S3 v3 H3 q3 r3 hS3 f3 hσ3 => ?_)) fun r s1 ⟨v, H1, I1, rv, q1⟩ => thn (hb.run pins s1 τ H1 _ I1 q1) fun u s2 ⟨x, H2, I2, rx, q2⟩ => thn (hd.run pins s2 τ H2 _ I2 q2) fun iv s3 ⟨y, H3, I3, ry, q3⟩ => ?_) hs
  · exact ⟨w2, w3, w, S3, _, RV.mono hS2 f3 _ _ r2, r3, RV.mono hS2 f3 _ _ (RV.mono hS1 f2 _ _ r1), hS3, q3, fun S4 H4 q hS4 f4 => k.nx _ _ _ _ q (hσ3.mono hS3 f4) hS4 (((f1.trans f2).trans f3).trans f4)⟩
  · exact thn (ok_set E pins s3 τ H3 x y v u iv r _ I3 rx ry rv q3) fun _ s4 ⟨H4, I4, q4⟩ => ⟨τ, H4, I4, q4⟩
/-! ### op= -/
def augOf : Operator → Option Op
  | .Add => some .add
  | .Sub => some .sub
  | _ => none
theorem ok_aug {o : Operator} {p : Op} (e : augOf o = some p) : PIp X o (LO R (augW p)) := by
  cases o <;> first | (cases e; done) | skip
  all_goals cases e
  · intro pins s σ H x y v u Q I rx ry h
    obtain ⟨w, w2, S, Qw, hw, hu, hS, h, k⟩ := h
    match w, w2, h, hw, hu with
    | .int i, .int j, h, hw, hu =>
      cases hw; cases hu
      exact ip_add pins s σ H _ _ v u Q I rx ry ⟨i, j, rfl, rfl, k _ S _ H h rfl hS (Fr.refl _ _)⟩
  · intro pins s σ H x y v u Q I rx ry h
    obtain ⟨w, w2, S, Qw, hw, hu, hS, h, k⟩ := h
    match w, w2, h, hw, hu with
    | .int i, .int j, h, hw, hu =>
      cases hw; cases hu
      exact ip_sub pins s σ H _ _ v u Q I rx ry ⟨i, j, rfl, rfl, k _ S _ H h rfl hS (Fr.refl _ _)⟩
def sAugW (i : Nat) (p : Op) (e : TE') : TS' := fun D σ S => wVar i σ S fun x S1 => e σ S1 fun y S2 => augW p x y S2 fun w S3 => D.nx (σ.set i (some w)) S3
theorem s_aug {i : Nat} {x : Str} {o : Operator} {p : Op} {pn : Pos} (e : augOf o = some p) (hN : X.N.Nodup) (hi : X.N[i]? = some x) (hx : Loc X.env.scope x) (ha : PE X a (LE R ta)) (hf : X.fn x = true ∨ X.env.scope.names.lookup x = some .local) : PS X (.AugAssign (.Name x pn) o a pos) (LS R (sAugW i p ta)) := by
  refine PS.imp (ps_aug hN hi hx ha (ok_aug (R := R) e) hf) fun D τ H h => ?_
  obtain ⟨σ, S, Dw, hσ, hS, h, k⟩ := h
  have h' : (match σ[i]? with
    | some (some w) => ta σ S fun y S2 => augW p w y S2 fun w S3 => Dw.nx (σ.set i (some w)) S3
    | _ => False) := h
  cases e : σ[i]? with
  | none => rw [e] at h'; exact h'.elim
  | some z => cases z with
    | none => rw [e] at h'; exact h'.elim
    | some w =>
      rw [e] at h'
      obtain ⟨v, q, r⟩ := hσ.at_ i w e
      refine ⟨v, q, LE.go hσ hS h' fun w2 S2 v2 H2 q2 r2 hS2 f2 hσ2 => ?_⟩
      exact ⟨w, w2, S2, _, RV.mono hS f2 _ _ r, r2, hS2, q2, fun w3 S3 v3 H3 q3 r3 hS3 f3 => k.nx _ _ _ _ q3 ((hσ2.mono hS2 f3).set i r3) hS3 (f2.trans f3)⟩
/-- o[i] op= e -/
theorem get_ok (E : E1 R G X) : PGet X (LO R dgW) := by
  intro pins s σ H x y v u Q I rx ry h
  obtain ⟨w, w2, S, Qw, hw, hu, hS, h, k⟩ := h
  have un := E.un
  have h' : (match dctW S w, keyW w2 with
    | some kvs, some k => (match lkW kvs k with
      | some w => Qw w S
      | none => False)
    | _, _ => False) := h
  cases e1 : dctW S w with
  | none => rw [e1] at h'; exact h'.elim
  | some kvs => cases e2 : keyW w2 with
    | none => rw [e1, e2] at h'; exact h'.elim
    | some q =>
      rw [e1, e2] at h'
      simp only at h'
      cases e3 : lkW kvs q with
      | none => rw [e3] at h'; exact h'.elim
      | some z =>
        rw [e3] at h'
        obtain ⟨a, kvr, rfl, hd, e4, e5⟩ := dct_V e1 hw hS
        have ey := key_V e2 hu
        subst ey
        obtain ⟨v', ev, rv⟩ := (lk_val e4 e5 q).1 z e3
        have eu : v = Value.ref a := rx
        subst eu
        exact d_getItem (by omega) I (.inl ⟨kvr, kR q, hd, rfl, ev.symm⟩) ry fun w' s3 I3 rw' => ⟨v', H, I3, rw', k z S v' H h' rv hS (Fr.refl _ _)⟩
def sAugI (p : Op) (to ti te : TE') : TS' := fun D σ S => to σ S fun x S1 => ti σ S1 fun y S2 => dgW x y S2 fun z S3 => te σ S3 fun u S4 => augW p z u S4 fun w S5 => setW x y w S5 fun S6 => D.nx σ S6
theorem s_augi (E : E1 R G X) {o : Operator} {p : Op} {tpos : Pos} (e : augOf o = some p) (ha : PE X a (LE R ta)) (hb : PE X b (LE R tb)) (hd : PE X d (LE R td)) (hst : ∀ ov iv new, augStore b ov iv new = (do holding [new, ov, iv] (setItem ov iv new); release [new, ov, iv] []; pure .next)) : PS X (.AugAssign (.Subscript a b tpos) o d pos) (LS R (sAugI p ta tb td)) := by
  refine PS.imp (ps_augS ha hb (get_ok E) hd (ok_aug (R := R) e) (ok_set E) hst) fun D τ H h => ?_
  obtain ⟨σ, S, Dw, hσ, hS, h, k⟩ := h
  refine LE.go hσ hS h fun w S1 v H1 q r hS1 f hσ1 => LE.go hσ1 hS1 q fun w2 S2 v2 H2 q2 r2 hS2 f2 hσ2 => ?_
  refine ⟨w, w2, S2, _, RV.mono hS1 f2 _ _ r, r2, hS2, q2, fun w3 S3 v3 H3 q3 r3 hS3 f3 => ?_⟩
  refine LE.go (hσ2.mono hS2 f3) hS3 q3 fun w4 S4 v4 H4 q4 r4 hS4 f4 hσ4 => ?_
  refine ⟨w3, w4, S4, _, RV.mono hS3 f4 _ _ r3, r4, hS4, q4, fun w5 S5 v5 H5 q5 r5 hS5 f5 => ?_⟩
  exact ⟨w, w2, w5, S5, _, RV.mono hS4 f5 _ _ (RV.mono hS3 f4 _ _ (RV.mono hS2 f3 _ _ (RV.mono hS1 f2 _ _ r))), RV.mono hS4 f5 _ _ (RV.mono hS3 f4 _ _ (RV.mono hS2 f3 _ _ r2)), r5, hS5, q5, fun S6 H6 q6 hS6 f6 => k.nx _ _ _ _ q6 ((hσ4.mono hS4 f5).mono hS5 f6) hS6 (((((f.trans f2).trans f3).trans f4).trans f5).trans f6)⟩
/-! ### if, for, while -/
theorem s_if {t : TT'} {bs es : List Stmt} (hd : PT X d (LT R t)) (ha : PSs X bs (LS R u)) (hb : PSs X es (LS R v)) : PS X (.If d bs es pos) (LS R (sIfe t u v)) := by
  refine PS.imp (ps_if hd ha hb) fun D τ H h => ?_
  obtain ⟨σ, S, Dw, hσ, hS, h, k⟩ := h
  refine LT.go hσ hS h fun b S1 H1 q1 hS1 f1 hσ1 => ?_
  cases b with
  | true => exact ⟨σ, S1, Dw, hσ1, hS1, q1, k.tr f1⟩
  | false => exact ⟨σ, S1, Dw, hσ1, hS1, q1, k.tr f1⟩
theorem for_go {K : PySem.W.Frag} (hK : K = R.K) {t : Tg} {ti : TI'} {D : Ends} {τ : L2.St} {H : Hp} (h : LS R (sFor t ti u) D τ H) : tFor (LI R ti) (gT K t) (LS R u) D τ H := by
  obtain ⟨σ0, S0, Dw, hσ0, hS0, h, k⟩ := h
  refine ⟨σ0, S0, _, hσ0, hS0, h, fun ws gd S1 H1 J q hS1 f1 ok => ?_⟩
  refine ⟨fun i m τc Hc => m = ws.length - i ∧ i ≤ ws.length ∧ ∃ σc Sc, RS R Hc σc τc ∧ Sim R Sc Hc ∧ Fr S1 H1 Sc Hc ∧ wFor gd t (fun nx σ S => u { Dw with nx := nx, ct := nx, bk := Dw.nx } σ S) Dw.nx (ws.drop i) σc Sc,
    ⟨ws.length, by simp, Nat.zero_le _, σ0, S1, hσ0.mono hS0 f1, hS1, Fr.refl _ _, by simpa using q⟩, ?_⟩
  rintro i m τc Hc ⟨rfl, hi, σc, Sc, hσc, hSc, fc, hw⟩
  by_cases hlt : i < ws.length
  · have ed : ws.drop i = ws[i] :: ws.drop (i + 1) := List.drop_eq_getElem_cons hlt
    rw [ed] at hw
    obtain ⟨hgd, hw⟩ := (show gd Sc ∧ asg t ws[i] σc (fun σ1 => u { Dw with nx := wFor gd t (fun nx σ S => u { Dw with nx := nx, ct := nx, bk := Dw.nx } σ S) Dw.nx (ws.drop (i + 1)), ct := wFor gd t (fun nx σ S => u { Dw with nx := nx, ct := nx, bk := Dw.nx } σ S) Dw.nx (ws.drop (i + 1)), bk := Dw.nx } σ1 Sc) from hw)
    obtain ⟨go, yl⟩ := ok.go i ws[i] Sc Hc hSc fc hgd (by simp [hlt])
    refine .inr ⟨go, fun τ' H' => ∃ σc Sc, RS R H' σc τ' ∧ Sim R Sc H' ∧ Fr S1 H1 Sc H' ∧ wFor gd t (fun nx σ S => u { Dw with nx := nx, ct := nx, bk := Dw.nx } σ S) Dw.nx (ws.drop (i + 1)) σc Sc, fun τ' H' n => ⟨ws.length - (i + 1), by omega, rfl, hlt, n⟩, fun x H2 y => ?_⟩
    obtain ⟨rx, hS2, f2, _⟩ := yl x H2 y
    refine gT_go hK rx (hσc.mono hSc f2) hw fun σ1 τ1 hk hσ1 _ => ?_
    have f12 := fc.trans f2
    refine ⟨σ1, Sc, _, hσ1, hS2, hk, ⟨fun σ3 S3 τ3 H3 q3 a3 b3 c3 => ⟨σ3, S3, a3, b3, f12.trans c3, q3⟩, fun w3 S3 v3 H3 q3 a3 b3 c3 => k.rt _ _ _ _ q3 a3 b3 (f1.trans (f12.trans c3)), fun σ3 S3 τ3 H3 q3 a3 b3 c3 => k.nx _ _ _ _ q3 a3 b3 (f1.trans (f12.trans c3)), fun σ3 S3 τ3 H3 q3 a3 b3 c3 => ⟨σ3, S3, a3, b3, f12.trans c3, q3⟩⟩⟩
  · have e : ws.drop i = [] := List.drop_eq_nil_of_le (by omega)
    rw [e] at hw
    obtain ⟨hgd, hn⟩ := (show gd Sc ∧ Dw.nx σc Sc from hw)
    exact .inl ⟨ok.stop i Sc Hc hSc fc hgd (by omega), k.nx _ _ _ _ hn hσc hSc (f1.trans fc)⟩
theorem s_for (E : E1 R G X) {tg iter : Expr} {body : List Stmt} {t : Tg} {ti : TI'} (hp : PassesOwn (model X.prog X.w) X.A X.env X.xe) (hi : PI X tg iter (LI R ti)) (hg : PG X tg (gT X.K t)) (hb : PSs X body (LS R u)) (hs : ∀ x, foldedSetIterable iter X.env x = pure x) :
    PS X (.For tg iter body [] pos) (LS R (sFor t ti u)) := PS.imp (ps_for hp E.calm hi hg hb hs) fun D τ H h => for_go E.K h
theorem s_whl {t : TT'} {body : List Stmt} (hp : PassesOwn (model X.prog X.w) X.A X.env X.xe) (hd : PT X d (LT R t)) (hb : PSs X body (LS R u)) : PS X (.While d body [] pos) (LS R (sWhl t u)) := by
  refine PS.imp (ps_while hp hd hb) fun D τ H h => ?_
  obtain ⟨σ0, S0, Dw, hσ0, hS0, ⟨Iv, ⟨m0, h0⟩, hI⟩, k⟩ := h
  refine ⟨fun m τc Hc => ∃ σc Sc, RS R Hc σc τc ∧ Sim R Sc Hc ∧ Fr S0 H Sc Hc ∧ Iv m σc Sc, ⟨m0, σ0, S0, hσ0, hS0, Fr.refl _ _, h0⟩, ?_⟩
  rintro m τc Hc ⟨σc, Sc, hσc, hSc, fc, hi⟩
  refine LT.go hσc hSc (hI m σc Sc hi) fun b S1 H1 q1 hS1 f1 hσ1 => ?_
  cases b with
  | false => exact k.nx _ _ _ _ q1 hσ1 hS1 (fc.trans f1)
  | true =>
    refine ⟨fun τ' H' => ∃ m', m' < m ∧ ∃ σc Sc, RS R H' σc τ' ∧ Sim R Sc H' ∧ Fr S0 H Sc H' ∧ Iv m' σc Sc, fun τ' H' ⟨m', hm, z⟩ => ⟨m', hm, z⟩, ?_⟩
    refine ⟨σc, S1, _, hσ1, hS1, q1, ⟨fun σ3 S3 τ3 H3 ⟨m', hm, q3⟩ a3 b3 c3 => ⟨m', hm, σ3, S3, a3, b3, (fc.trans f1).trans c3, q3⟩, fun w3 S3 v3 H3 q3 a3 b3 c3 => k.rt _ _ _ _ q3 a3 b3 ((fc.trans f1).trans c3), fun σ3 S3 τ3 H3 q3 a3 b3 c3 => k.nx _ _ _ _ q3 a3 b3 ((fc.trans f1).trans c3), fun σ3 S3 τ3 H3 ⟨m', hm, q3⟩ a3 b3 c3 => ⟨m', hm, σ3, S3, a3, b3, (fc.trans f1).trans c3, q3⟩⟩⟩
end
end MP
/-! MPZ1: zip of two things of any of three kinds, at the library's level. -/
namespace MP
open PySem PySem.Spec PyProof.Rows
open PySem.Sem (wp)
abbrev Pv : Type := Value → Prop
/-- an iterator: its record, the next value, the end; what it reads beside itself stands at dep -/
structure Stp (it : Addr) (dep : List Addr) where
  st : Nat → Heap → Prop
  av : Nat → Heap → Pv → Prop
  nd : Nat → Heap → Prop
  rec_ : ∀ {i h}, st i h → ∃ o, h.get? it = some o ∧ ∀ v, o.data ≠ .cell v
  keep : ∀ {i h h'}, st i h → (∀ o, h.get? it = some o → h'.get? it = some o) → st i h'
  avk : ∀ {i h h' P}, av i h P → (∀ b, b ∈ dep → ∀ o, h.get? b = some o → h'.get? b = some o) → av i h' P
  ndk : ∀ {i h h'}, nd i h → (∀ b, b ∈ dep → ∀ o, h.get? b = some o → h'.get? b = some o) → nd i h'
  item : ∀ {prog : Program} {w : World} {A : Around} {E : Value → Shared → Prop} {s : Shared} {i : Nat} {P : Pv} {Q : Value → Shared → Prop}, st i s.heap → av i s.heap P → (∀ h' tk v, P v → st (i + 1) h' → Heap.SameBut it s.heap h' → Q v { s with heap := h', toks := tk }) →
    wpAny (model prog w) A (Builtin.SmallTypes.nextOf (.ref it)) Q E s
  stop : ∀ {prog : Program} {w : World} {A : Around} {E : Value → Shared → Prop} {s : Shared} {i : Nat} {Q : Value → Shared → Prop}, A.handled = none → st i s.heap → nd i s.heap → (∀ h' e, Heap.ExtBut it s.heap h' → (∃ o, h'.get? e = some o ∧ o.cls = .type "StopIteration") → E (.ref e) { s with heap := h' }) →
    wpAny (model prog w) A (Builtin.SmallTypes.nextOf (.ref it)) Q E s
/-- the two iterators and zip's own records stand apart -/
structure Apt (z TI TO i1 i2 : Addr) (d1 d2 : List Addr) : Prop where
  TIz : TI ≠ z
  TOz : TO ≠ z
  i1z : i1 ≠ z
  i2z : i2 ≠ z
  TITO : TI ≠ TO
  TIi1 : TI ≠ i1
  TIi2 : TI ≠ i2
  TOi1 : TO ≠ i1
  TOi2 : TO ≠ i2
  i12 : i1 ≠ i2
  a1 : ∀ b, b ∈ d1 → b ≠ z ∧ b ≠ TO ∧ b ≠ i1 ∧ b ≠ i2
  a2 : ∀ b, b ∈ d2 → b ≠ z ∧ b ≠ TO ∧ b ≠ i1 ∧ b ≠ i2
section
variable {prog : Program} {w : World} {A : Around} {E : Value → Shared → Prop} {s : Shared} {z TI TO i1 i2 : Addr} {d1 d2 : List Addr} {k1 k2 : Nat} {a b : Value}
theorem zipG_item {P1 P2 : Pv} {Q : Value → Shared → Prop} (S1 : Stp i1 d1) (S2 : Stp i2 d2) (D : Apt z TI TO i1 i2 d1 d2) (hz : IsZip s.heap z TI TO .none) (hTI : IsPair s.heap TI (.ref i1) (.ref i2)) (hTO : IsPair s.heap TO a b)
    (h1 : S1.st k1 s.heap) (h2 : S2.st k2 s.heap) (v1 : S1.av k1 s.heap P1) (v2 : S2.av k2 s.heap P2)
    (hQ : ∀ h' tk x y, P1 x → P2 y → IsZip h' z TI TO (rawInt s.heap.objs.size) → IsPair h' TO x y → S1.st (k1 + 1) h' → S2.st (k2 + 1) h' → IsPair h' s.heap.objs.size x y → h'.objs.size = s.heap.objs.size + 1 →
      (∀ c o, c ≠ z → c ≠ TO → c ≠ i1 → c ≠ i2 → s.heap.get? c = some o → h'.get? c = some o) → Q (.ref s.heap.objs.size) { s with heap := h', toks := tk }) :
    wpAny (model prog w) A (Builtin.«zip.__next__» ⟨[.ref z], []⟩) (fun fin s' => ∃ v, fin = .done (.ret v) ∧ Q v s') E s := by
  (show wpAny _ _ (field (.ref z) 2 >>= _) _ _ _); (refine wpAny_bind (wpAny_field hz rfl (x := .bool false) rfl ?_)); (show wpAny _ _ (field (.ref z) 3 >>= _) _ _ _)
  (refine wpAny_bind (wpAny_field hz rfl (x := .ref TI) rfl (wpAny_bind (wpAny_seqItems hTI rfl ?_)))); (show wpAny _ _ (Builtin.SmallTypes.ownedTupleIsFree (.ref z) >>= _) _ _ _)
  (refine wpAny_bind ?_); (unfold Builtin.SmallTypes.ownedTupleIsFree); (refine wpAny_bind (wpAny_field hz rfl (x := .none) rfl (wpAny_pure ?_)))
  (simp only [if_true]); (refine wpAny_bind (wpAny_rule (wpAny_bind (wpAny_field hz rfl (x := .ref TO) rfl ?_)))); (refine wpAny_bind (wpAny_setField_rec hz (by simp) fun g₁ hz₁ hs₁ => ?_))
  (replace hz₁ : IsZip g₁ z TI TO .ellipsis := hz₁); (refine wpAny_bind ?_); (simp only [List.zipIdx_cons, List.zipIdx_nil, List.forIn_cons, List.forIn_nil])
  (refine wpAny_bind (wpAny_bind (wpAny_onRaise ?_))); (show wpAny _ _ (Builtin.SmallTypes.nextOf (.ref i1) >>= _) _ _ _)
  refine wpAny_bind (S1.item (S1.keep h1 fun o e => hs₁.extBut _ _ D.i1z e) (S1.avk v1 fun b m o e => hs₁.extBut _ _ (D.a1 b m).1 e) fun g₂ tk₂ x px h1₂ hs₂ => wpAny_pure ?_)
  have hTO₂ : IsPair g₂ TO a b := hs₂.extBut _ _ D.TOi1 (hs₁.extBut _ _ D.TOz hTO)
  refine wpAny_bind (wpAny_seqItems (s := { s with heap := g₂, toks := tk₂ }) hTO₂ rfl (wpAny_bind (wpAny_updateSeq_pair hTO₂ fun g₃ hTO₃ hs₃ => ?_)))
  (replace hTO₃ : IsPair g₃ TO x b := hTO₃); (refine wpAny_bind (wpAny_letGo (wpAny_pure ?_))); (refine wpAny_bind (wpAny_bind (wpAny_onRaise ?_)))
  (show wpAny _ _ (Builtin.SmallTypes.nextOf (.ref i2) >>= _) _ _ _)
  have up3 : ∀ c o, c ≠ z → c ≠ TO → c ≠ i1 → s.heap.get? c = some o → g₃.get? c = some o := fun c o c1 c2 c3 e => hs₃.extBut _ _ c2 (hs₂.extBut _ _ c3 (hs₁.extBut _ _ c1 e))
  refine wpAny_bind (S2.item (s := { s with heap := g₃, toks := tk₂ }) (S2.keep h2 fun o e => up3 _ o D.i2z D.TOi2.symm D.i12.symm e) (S2.avk v2 fun b m o e => up3 b o (D.a2 b m).1 (D.a2 b m).2.1 (D.a2 b m).2.2.1 e) fun g₄ tk₄ y py h2₄ hs₄ => wpAny_pure ?_)
  have hTO₄ : IsPair g₄ TO x b := hs₄.extBut _ _ D.TOi2 hTO₃
  refine wpAny_bind (wpAny_seqItems (s := { s with heap := g₄, toks := tk₄ }) hTO₄ rfl (wpAny_bind (wpAny_updateSeq_pair hTO₄ fun g₅ hTO₅ hs₅ => ?_)))
  (replace hTO₅ : IsPair g₅ TO x y := hTO₅); (refine wpAny_bind (wpAny_letGo (wpAny_pure (wpAny_pure ?_)))); (refine wpAny_bind (wpAny_seqItems (s := { s with heap := g₅, toks := tk₄ }) hTO₅ rfl (wpAny_bind (wpAny_newTuple ?_))))
  have esz : g₅.objs.size = s.heap.objs.size := by rw [hs₅.1]; exact hs₄.1.trans (by rw [hs₃.1]; exact hs₂.1.trans hs₁.1)
  have hz₅ : IsZip g₅ z TI TO .ellipsis := hs₅.extBut _ _ D.TOz.symm (hs₄.extBut _ _ D.i2z.symm (hs₃.extBut _ _ D.TOz.symm (hs₂.extBut _ _ D.i1z.symm hz₁)))
  have hk₅ : ∀ c o, c ≠ z → c ≠ TO → c ≠ i1 → c ≠ i2 → s.heap.get? c = some o → g₅.get? c = some o := fun c o c1 c2 c3 c4 e => hs₅.extBut _ _ c2 (hs₄.extBut _ _ c4 (up3 c o c1 c2 c3 e))
  have q1 : S1.st (k1 + 1) g₅ := S1.keep h1₂ fun o e => hs₅.extBut _ _ D.TOi1.symm (hs₄.extBut _ _ D.i12 (hs₃.extBut _ _ D.TOi1.symm e))
  have q2 : S2.st (k2 + 1) g₅ := S2.keep h2₄ fun o e => hs₅.extBut _ _ D.TOi2.symm e
  have ltz : z < g₅.objs.size := Heap.lt_size hz₅
  (show wpAny _ _ (Builtin.SmallTypes.ownedTupleHandOut (.ref z) (.ref g₅.objs.size) >>= _) _ _ _); (refine wpAny_bind ?_); (unfold Builtin.SmallTypes.ownedTupleHandOut)
  have hz₆ : IsZip (g₅.push { cls := .type "tuple", data := .seq #[x, y] }) z TI TO .ellipsis := Heap.get?_push_of_some _ hz₅
  refine wpAny_bind (wpAny_setField_rec (s := { s with heap := g₅.push { cls := .type "tuple", data := .seq #[x, y] }, toks := tk₄ }) hz₆ (by simp) fun g₇ hz₇ hs₇ => ?_)
  replace hz₇ : IsZip g₇ z TI TO (rawInt g₅.objs.size) := hz₇
  refine wpAny_setField_rec (s := { s with heap := g₇, toks := tk₄ }) hz₇ (by simp) fun g₈ hz₈ hs₈ => ?_
  replace hz₈ : IsZip g₈ z TI TO (rawInt g₅.objs.size) := hz₈
  have up : ∀ c o, c ≠ z → g₅.get? c = some o → g₈.get? c = some o := fun c o c1 e => hs₈.extBut _ _ c1 (hs₇.extBut _ _ c1 (Heap.get?_push_of_some _ e))
  have hT₈ : IsPair g₈ g₅.objs.size x y := hs₈.extBut _ _ (Nat.ne_of_gt ltz) (hs₇.extBut _ _ (Nat.ne_of_gt ltz) (Heap.get?_push_size _ rfl))
  have e8 : g₈.objs.size = g₅.objs.size + 1 := by rw [hs₈.1]; exact hs₇.1.trans (Heap.size_push _ _)
  rw [esz] at hz₈ hT₈ e8
  refine wpAny_pure ⟨_, rfl, ?_⟩
  show Q (.ref g₅.objs.size) _
  rw [esz]
  exact hQ g₈ tk₄ x y px py hz₈ (up _ _ D.TOz hTO₅) (S1.keep q1 fun o e => up _ o D.i1z e) (S2.keep q2 fun o e => up _ o D.i2z e) hT₈ e8 fun c o c1 c2 c3 c4 e => up c o c1 (hk₅ c o c1 c2 c3 c4 e)
theorem zipG_end {P1 : Pv} {Q : Fin → Shared → Prop} (S1 : Stp i1 d1) (S2 : Stp i2 d2) (hh : A.handled = none) (D : Apt z TI TO i1 i2 d1 d2) (hz : IsZip s.heap z TI TO .none) (hTI : IsPair s.heap TI (.ref i1) (.ref i2)) (hTO : IsPair s.heap TO a b)
    (h1 : S1.st k1 s.heap) (h2 : S2.st k2 s.heap) (hend : S1.nd k1 s.heap ∨ (S1.av k1 s.heap P1 ∧ S2.nd k2 s.heap))
    (hE : ∀ h' tk e, (∀ c o, c ≠ z → c ≠ TO → c ≠ i1 → c ≠ i2 → s.heap.get? c = some o → h'.get? c = some o) → (∃ o, h'.get? e = some o ∧ o.cls = .type "StopIteration") → E (.ref e) { s with heap := h', toks := tk }) :
    wpAny (model prog w) A (Builtin.«zip.__next__» ⟨[.ref z], []⟩) Q E s := by
  (show wpAny _ _ (field (.ref z) 2 >>= _) _ _ _); (refine wpAny_bind (wpAny_field hz rfl (x := .bool false) rfl ?_)); (show wpAny _ _ (field (.ref z) 3 >>= _) _ _ _)
  (refine wpAny_bind (wpAny_field hz rfl (x := .ref TI) rfl (wpAny_bind (wpAny_seqItems hTI rfl ?_)))); (show wpAny _ _ (Builtin.SmallTypes.ownedTupleIsFree (.ref z) >>= _) _ _ _)
  (refine wpAny_bind ?_); (unfold Builtin.SmallTypes.ownedTupleIsFree); (refine wpAny_bind (wpAny_field hz rfl (x := .none) rfl (wpAny_pure ?_)))
  (simp only [if_true]); (refine wpAny_bind (wpAny_rule (wpAny_bind (wpAny_field hz rfl (x := .ref TO) rfl ?_)))); (refine wpAny_bind (wpAny_setField_rec hz (by simp) fun g₁ hz₁ hs₁ => ?_))
  (replace hz₁ : IsZip g₁ z TI TO .ellipsis := hz₁); (refine wpAny_bind ?_); (simp only [List.zipIdx_cons, List.zipIdx_nil, List.forIn_cons, List.forIn_nil])
  (refine wpAny_bind (wpAny_bind (wpAny_onRaise ?_))); (show wpAny _ _ (Builtin.SmallTypes.nextOf (.ref i1) >>= _) _ _ _)
  rcases hend with n1 | ⟨v1, n2⟩
  · refine wpAny_bind (S1.stop hh (S1.keep h1 fun o e => hs₁.extBut _ _ D.i1z e) (S1.ndk n1 fun b m o e => hs₁.extBut _ _ (D.a1 b m).1 e) fun g₂ e hs₂ he => ?_)
    obtain ⟨oe, hoe, hce⟩ := he
    have hz₂ : IsZip g₂ z TI TO .ellipsis := hs₂ _ _ D.i1z.symm hz₁
    have nez : e ≠ z := fun q => by rw [q, hz₂] at hoe; cases hoe; simp at hce
    refine wpAny_setField_rec (s := { s with heap := g₂ }) hz₂ (by simp) fun g₃ _ hs₃ => hE g₃ s.toks e (fun c o c1 _ c3 _ q => hs₃.extBut _ _ c1 (hs₂ _ _ c3 (hs₁.extBut _ _ c1 q))) ⟨oe, hs₃.extBut _ _ nez hoe, hce⟩
  · refine wpAny_bind (S1.item (S1.keep h1 fun o e => hs₁.extBut _ _ D.i1z e) (S1.avk v1 fun b m o e => hs₁.extBut _ _ (D.a1 b m).1 e) fun g₂ tk₂ x px h1₂ hs₂ => wpAny_pure ?_)
    have hTO₂ : IsPair g₂ TO a b := hs₂.extBut _ _ D.TOi1 (hs₁.extBut _ _ D.TOz hTO)
    refine wpAny_bind (wpAny_seqItems (s := { s with heap := g₂, toks := tk₂ }) hTO₂ rfl (wpAny_bind (wpAny_updateSeq_pair hTO₂ fun g₃ hTO₃ hs₃ => ?_)))
    (refine wpAny_bind (wpAny_letGo (wpAny_pure ?_))); (refine wpAny_bind (wpAny_bind (wpAny_onRaise ?_))); (show wpAny _ _ (Builtin.SmallTypes.nextOf (.ref i2) >>= _) _ _ _)
    have up3 : ∀ c o, c ≠ z → c ≠ TO → c ≠ i1 → s.heap.get? c = some o → g₃.get? c = some o := fun c o c1 c2 c3 e => hs₃.extBut _ _ c2 (hs₂.extBut _ _ c3 (hs₁.extBut _ _ c1 e))
    refine wpAny_bind (S2.stop (s := { s with heap := g₃, toks := tk₂ }) hh (S2.keep h2 fun o e => up3 _ o D.i2z D.TOi2.symm D.i12.symm e) (S2.ndk n2 fun b m o e => up3 b o (D.a2 b m).1 (D.a2 b m).2.1 (D.a2 b m).2.2.1 e) fun g₄ e hs₄ he => ?_)
    obtain ⟨oe, hoe, hce⟩ := he
    have hz₄ : IsZip g₄ z TI TO .ellipsis := hs₄ _ _ D.i2z.symm (hs₃.extBut _ _ D.TOz.symm (hs₂.extBut _ _ D.i1z.symm hz₁))
    have nez : e ≠ z := fun q => by rw [q, hz₄] at hoe; cases hoe; simp at hce
    refine wpAny_setField_rec (s := { s with heap := g₄, toks := tk₂ }) hz₄ (by simp) fun g₅ _ hs₅ => hE g₅ tk₂ e (fun c o c1 c2 c3 c4 q => hs₅.extBut _ _ c1 (hs₄ _ _ c4 (up3 c o c1 c2 c3 q))) ⟨oe, hs₅.extBut _ _ nez hoe, hce⟩
theorem nextG_item {P1 P2 : Pv} {Q : Option Value → Shared → Prop} (S1 : Stp i1 d1) (S2 : Stp i2 d2) (D : Apt z TI TO i1 i2 d1 d2) (hz : IsZip s.heap z TI TO .none) (hTI : IsPair s.heap TI (.ref i1) (.ref i2)) (hTO : IsPair s.heap TO a b)
    (h1 : S1.st k1 s.heap) (h2 : S2.st k2 s.heap) (v1 : S1.av k1 s.heap P1) (v2 : S2.av k2 s.heap P2)
    (hQ : ∀ h' tk x y, P1 x → P2 y → IsZip h' z TI TO (rawInt s.heap.objs.size) → IsPair h' TO x y → S1.st (k1 + 1) h' → S2.st (k2 + 1) h' → IsPair h' s.heap.objs.size x y → h'.objs.size = s.heap.objs.size + 1 →
      (∀ c o, c ≠ z → c ≠ TO → c ≠ i1 → c ≠ i2 → s.heap.get? c = some o → h'.get? c = some o) → Q (some (.ref s.heap.objs.size)) { s with heap := h', toks := tk }) : wpAny (model prog w) A (pyNext (.ref z)) Q E s := by
  have hT : s.TypeIs (.ref z) "zip" := ⟨_, hz, rfl⟩
  unfold pyNext
  exact wpAny_bind (wpAny_attempt (wpAny_callSpecial?_slot (name := Str.ofString "__next__") hT F.slot_zip_next (wpAny_call_entry F.slot_zip_next hT F.entry_zip_next (zipG_item S1 S2 D hz hTI hTO h1 h2 v1 v2 fun h' tk x y p1 p2 a1 a2 a3 a4 a5 a6 a7 => wpAny_pure (hQ h' tk x y p1 p2 a1 a2 a3 a4 a5 a6 a7)) (F.args_zip_next_1 _))))
theorem nextG_end {P1 : Pv} {Q : Option Value → Shared → Prop} (S1 : Stp i1 d1) (S2 : Stp i2 d2) (hh : A.handled = none) (D : Apt z TI TO i1 i2 d1 d2) (hz : IsZip s.heap z TI TO .none) (hTI : IsPair s.heap TI (.ref i1) (.ref i2)) (hTO : IsPair s.heap TO a b)
    (h1 : S1.st k1 s.heap) (h2 : S2.st k2 s.heap) (hend : S1.nd k1 s.heap ∨ (S1.av k1 s.heap P1 ∧ S2.nd k2 s.heap))
    (hQ : ∀ h' tk, (∀ c o, c ≠ z → c ≠ TO → c ≠ i1 → c ≠ i2 → s.heap.get? c = some o → h'.get? c = some o) → Q none { s with heap := h', toks := tk }) : wpAny (model prog w) A (pyNext (.ref z)) Q E s := by
  have hT : s.TypeIs (.ref z) "zip" := ⟨_, hz, rfl⟩
  unfold pyNext
  refine wpAny_bind (wpAny_attempt (wpAny_callSpecial?_slot (name := Str.ofString "__next__") hT F.slot_zip_next (wpAny_call_entry F.slot_zip_next hT F.entry_zip_next (zipG_end S1 S2 hh D hz hTI hTO h1 h2 hend fun h' tk e hk he => ?_) (F.args_zip_next_1 _))))
  obtain ⟨o, ho, hc⟩ := he
  exact wpAny_bind (wpAny_isInstance (T := "StopIteration") (b := true) ⟨o, ho, hc⟩ isSubtype_stop (wpAny_pure (hQ _ _ hk)))
end
end MP
/-! MPZ2: the three kinds; zip is made. -/
namespace MP
open PySem PySem.Spec PyProof.Rows
open PySem.Sem (wp)
def stpL (it l : Addr) : Stp it [l] where
  st := fun i h => h.IsListIter it l i
  av := fun i h P => ∃ xs v, h.IsList l xs ∧ xs[i]? = some v ∧ P v
  nd := fun i h => ∃ xs, h.IsList l xs ∧ xs[i]? = none
  rec_ := fun {i h} q => let ⟨o, e, _, d⟩ := q; ⟨o, e, fun v z => by rw [d] at z; cases z⟩
  keep := fun {i h h'} q k => q.at fun o e => k o e
  avk := fun {i h h' P} ⟨xs, v, q, e, p⟩ k => ⟨xs, v, q.at fun o z => k l (by simp) o z, e, p⟩
  ndk := fun {i h h'} ⟨xs, q, e⟩ k => ⟨xs, q.at fun o z => k l (by simp) o z, e⟩
  item := fun {prog w A E s i P Q} q ⟨xs, v, hl, e, p⟩ k => wpAny_nextOf_list_item q hl e fun h' q' sb => k h' s.toks v p q' sb
  stop := fun {prog w A E s i Q} hh q ⟨xs, hl, e⟩ k => wpAny_nextOf_list_end hh q hl e k
def stpT (it l : Addr) : Stp it [l] where
  st := fun i h => h.IsTupleIter it l i
  av := fun i h P => ∃ xs v, h.IsTuple l xs ∧ xs[i]? = some v ∧ P v
  nd := fun i h => ∃ xs, h.IsTuple l xs ∧ xs[i]? = none
  rec_ := fun {i h} q => let ⟨o, e, _, d⟩ := q; ⟨o, e, fun v z => by rw [d] at z; cases z⟩
  keep := fun {i h h'} q k => q.at fun o e => k o e
  avk := fun {i h h' P} ⟨xs, v, q, e, p⟩ k => ⟨xs, v, q.at fun o z => k l (by simp) o z, e, p⟩
  ndk := fun {i h h'} ⟨xs, q, e⟩ k => ⟨xs, q.at fun o z => k l (by simp) o z, e⟩
  item := fun {prog w A E s i P Q} q ⟨xs, v, hl, e, p⟩ k => RZ.nextOf_tuple_item q hl e fun h' q' sb => k h' s.toks v p q' sb
  stop := fun {prog w A E s i Q} hh q ⟨xs, hl, e⟩ k => RZ.nextOf_tuple_end hh q hl e k
section
variable {prog : Program} {w : World} {A : Around} {E : Value → Shared → Prop} {s : Shared}
theorem nextOf_str {it : Addr} {x : Str} {t : Tok} {i c : Nat} {ty : String} (hty : ty = "str_ascii_iterator" ∨ ty = "str_iterator") {Q : Value → Shared → Prop} (hit : s.heap.IsStrIter it ty x t i) (hx : x.cps[i]? = some c)
    (hQ : ∀ h', h'.IsStrIter it ty x t (i + 1) → Heap.SameBut it s.heap h' → Q (.str ⟨#[c]⟩ s.toks) { s with heap := h', toks := s.toks + 1 }) : wpAny (model prog w) A (Builtin.SmallTypes.nextOf (.ref it)) Q E s := by
  obtain ⟨o, ho, hc, hd⟩ := id hit
  unfold Builtin.SmallTypes.nextOf
  rcases hty with rfl | rfl
  · refine wpAny_bind (wpAny_callSpecial?_slot (name := Str.ofString "__next__") hit.typeIs F.slot_str_ascii_iterator_next (wpAny_call_entry F.slot_str_ascii_iterator_next hit.typeIs F.entry_str_ascii_iterator_next ?_ (F.args_str_ascii_iterator_next_1 _)))
    (show wpAny _ _ (field (.ref it) 0 >>= _) _ _ s); (refine wpAny_bind (wpAny_field ho hd (x := .str x t) rfl ?_)); (show wpAny _ _ (field (.ref it) 1 >>= _) _ _ s)
    (refine wpAny_bind (wpAny_field ho hd (x := .int i 0) rfl ?_)); (simp only [Int.toNat_natCast, hx])
    refine wpAny_bind (wpAny_setField ho hd (by simp) (wpAny_bind (wpAny_mkStr (wpAny_pure ⟨_, rfl, wpAny_pure (hQ _ ⟨_, Heap.get?_update_self _ ho (Obj.isFreed_of_fields (Obj.data_mapFields hd _)), (Obj.cls_mapFields ..).trans hc, by rw [Obj.data_mapFields hd]; simp [rawInt]⟩ (Heap.SameBut.update ..))⟩) (by show 1 ≤ sizeLine; decide))))
  · refine wpAny_bind (wpAny_callSpecial?_slot (name := Str.ofString "__next__") hit.typeIs F.slot_str_iterator_next (wpAny_call_entry F.slot_str_iterator_next hit.typeIs F.entry_str_iterator_next ?_ (F.args_str_iterator_next_1 _)))
    (show wpAny _ _ (field (.ref it) 0 >>= _) _ _ s); (refine wpAny_bind (wpAny_field ho hd (x := .str x t) rfl ?_)); (show wpAny _ _ (field (.ref it) 1 >>= _) _ _ s)
    (refine wpAny_bind (wpAny_field ho hd (x := .int i 0) rfl ?_)); (simp only [Int.toNat_natCast, hx])
    refine wpAny_bind (wpAny_setField ho hd (by simp) (wpAny_bind (wpAny_mkStr (wpAny_pure ⟨_, rfl, wpAny_pure (hQ _ ⟨_, Heap.get?_update_self _ ho (Obj.isFreed_of_fields (Obj.data_mapFields hd _)), (Obj.cls_mapFields ..).trans hc, by rw [Obj.data_mapFields hd]; simp [rawInt]⟩ (Heap.SameBut.update ..))⟩) (by show 1 ≤ sizeLine; decide))))
theorem nextOf_strE {it : Addr} {x : Str} {t : Tok} {i : Nat} {ty : String} (hty : ty = "str_ascii_iterator" ∨ ty = "str_iterator") {Q : Value → Shared → Prop} (hh : A.handled = none) (hit : s.heap.IsStrIter it ty x t i) (hx : x.cps[i]? = none)
    (hE : ∀ h' e, Heap.ExtBut it s.heap h' → (∃ o, h'.get? e = some o ∧ o.cls = .type "StopIteration") → E (.ref e) { s with heap := h' }) : wpAny (model prog w) A (Builtin.SmallTypes.nextOf (.ref it)) Q E s := by
  obtain ⟨o, ho, hc, hd⟩ := id hit
  unfold Builtin.SmallTypes.nextOf
  rcases hty with rfl | rfl
  · refine wpAny_bind (wpAny_callSpecial?_slot (name := Str.ofString "__next__") hit.typeIs F.slot_str_ascii_iterator_next (wpAny_call_entry F.slot_str_ascii_iterator_next hit.typeIs F.entry_str_ascii_iterator_next ?_ (F.args_str_ascii_iterator_next_1 _)))
    (show wpAny _ _ (field (.ref it) 0 >>= _) _ _ s); (refine wpAny_bind (wpAny_field ho hd (x := .str x t) rfl ?_)); (show wpAny _ _ (field (.ref it) 1 >>= _) _ _ s)
    (refine wpAny_bind (wpAny_field ho hd (x := .int i 0) rfl ?_)); (simp only [Int.toNat_natCast, hx]); (refine wpAny_bind (wpAny_rule (wpAny_bind (wpAny_setField ho hd (by simp) (wpAny_bind (wpAny_letGo ?_))))))
    (show wpAny _ _ (newExc (.type "StopIteration") [] >>= _) _ _ _); (refine wpAny_bind ?_); (simp only [newExc, newTuple]); (refine wpAny_bind (wpAny_newObj_type ?_ (by size_fits)))
    (refine wpAny_bind (m := firstArgMember _ _) (wpAny_of_eq (a := Value.none) (by first | rfl | (simp only [firstArgMember]; rfl)) (wpAny_newObj_type ?_ (by size_fits)))); (simp only [raiseNew]); (refine wpAny_bind (wpAny_handled ?_))
    (rw [show A.in1.handled = none from hh]); (refine wpAny_bind (wpAny_pure (wpAny_throw ?_)))
    exact hE _ _ (((Heap.SameBut.update ..).extBut.push _).push _) ⟨_, Heap.get?_push_size _ rfl, rfl⟩
  · refine wpAny_bind (wpAny_callSpecial?_slot (name := Str.ofString "__next__") hit.typeIs F.slot_str_iterator_next (wpAny_call_entry F.slot_str_iterator_next hit.typeIs F.entry_str_iterator_next ?_ (F.args_str_iterator_next_1 _)))
    (show wpAny _ _ (field (.ref it) 0 >>= _) _ _ s); (refine wpAny_bind (wpAny_field ho hd (x := .str x t) rfl ?_)); (show wpAny _ _ (field (.ref it) 1 >>= _) _ _ s)
    (refine wpAny_bind (wpAny_field ho hd (x := .int i 0) rfl ?_)); (simp only [Int.toNat_natCast, hx]); (refine wpAny_bind (wpAny_rule (wpAny_bind (wpAny_setField ho hd (by simp) (wpAny_bind (wpAny_letGo ?_))))))
    (show wpAny _ _ (newExc (.type "StopIteration") [] >>= _) _ _ _); (refine wpAny_bind ?_); (simp only [newExc, newTuple]); (refine wpAny_bind (wpAny_newObj_type ?_ (by size_fits)))
    (refine wpAny_bind (m := firstArgMember _ _) (wpAny_of_eq (a := Value.none) (by first | rfl | (simp only [firstArgMember]; rfl)) (wpAny_newObj_type ?_ (by size_fits)))); (simp only [raiseNew]); (refine wpAny_bind (wpAny_handled ?_))
    (rw [show A.in1.handled = none from hh]); (refine wpAny_bind (wpAny_pure (wpAny_throw ?_)))
    exact hE _ _ (((Heap.SameBut.update ..).extBut.push _).push _) ⟨_, Heap.get?_push_size _ rfl, rfl⟩
end
def stpS (it : Addr) (x : Str) (t : Tok) (ty : String) (hty : ty = "str_ascii_iterator" ∨ ty = "str_iterator") : Stp it [] where
  st := fun i h => h.IsStrIter it ty x t i
  av := fun i h P => ∃ c, x.cps[i]? = some c ∧ ∀ t, P (.str ⟨#[c]⟩ t)
  nd := fun i h => x.cps[i]? = none
  rec_ := fun {i h} q => let ⟨o, e, _, d⟩ := q; ⟨o, e, fun v z => by rw [d] at z; cases z⟩
  keep := fun {i h h'} ⟨o, e, r⟩ k => ⟨o, k o e, r⟩
  avk := fun {i h h' P} q k => q
  ndk := fun {i h h'} q k => q
  item := fun {prog w A E s i P Q} q ⟨c, e, p⟩ k => nextOf_str hty q e fun h' q' sb => k h' _ _ (p _) q' sb
  stop := fun {prog w A E s i Q} hh q e k => nextOf_strE hty hh q e k
/-! ### zip(a, b) is made -/
abbrev zG1 (h : Heap) (o1 : Obj) : Heap := h.push o1
abbrev zG2 (h : Heap) (o1 o2 : Obj) : Heap := (zG1 h o1).push o2
abbrev zG3 (h : Heap) (o1 o2 : Obj) : Heap := (zG2 h o1 o2).push { cls := .type "tuple", data := .seq #[.ref h.objs.size, .ref (zG1 h o1).objs.size] }
abbrev zG4 (h : Heap) (o1 o2 : Obj) : Heap := (zG3 h o1 o2).push { cls := .type "tuple", data := .seq #[.none, .none] }
abbrev zG5 (h : Heap) (o1 o2 : Obj) : Heap := (zG4 h o1 o2).push { cls := .type "zip", data := .fields #[.none, .bool false, .bool false, .ref (zG2 h o1 o2).objs.size, .ref (zG3 h o1 o2).objs.size] }
/-- walking a begins by one new object -/
def Beg (a : Value) (p : Heap → Prop) (o : Obj) : Prop := ∀ (prog : Program) (w : World) (A : Around) (E : Value → Shared → Prop) (s : Shared) (Q : Value → Shared → Prop), p s.heap → Q (.ref s.heap.objs.size) { s with heap := s.heap.push o } → wpAny (model prog w) A (pyIter a) Q E s
theorem meets_zipG (a b : Value) (o1 o2 : Obj) (p1 p2 : Heap → Prop) (hA : Beg a p1 o1) (hB : Beg b p2 o2) :
    Meets (Builtin.«zip.__new__» ⟨[.type "zip", a, b], []⟩) (fun _ R s => p1 s.heap ∧ p2 (s.heap.push o1) ∧ R (.ok (.ret (.ref (zG4 s.heap o1 o2).objs.size))) { s with heap := zG5 s.heap o1 o2 }) :=
  .of_wp fun prog w A R s h => by
    obtain ⟨hp, g, d, tk, os⟩ := s; obtain ⟨hl1, hl2, h⟩ := h
    have hsub := sub_zip
    have hL1 := fun (A' : Around) (E' : Value → Shared → Prop) (Q' : Value → Shared → Prop) => hA prog w A' E' ⟨hp, g, d, tk, os⟩ Q' hl1
    have hL2 := fun (A' : Around) (E' : Value → Shared → Prop) (Q' : Value → Shared → Prop) => hB prog w A' E' ⟨hp.push o1, g, d, tk, os⟩ Q' hl2
    wp_walk using hL1 _ _ _, hL2 _ _ _
    exact ⟨_, rfl, h⟩
end MP
/-! MPZ3: for .. in zip(a, b). -/
namespace MP
open PySem L2 PySem.Spec PyProof.Rows
section
variable {prog : Program} {w : World} {A : Around} {E : Value → Shared → Prop} {s : Shared}
theorem call_zipG {a b : Value} {o1 o2 : Obj} {p1 p2 : Heap → Prop} (hA : Beg a p1 o1) (hB : Beg b p2 o2) (f1 : o1.isFreed = false) (f2 : o2.isFreed = false) (q1 : p1 s.heap) (q2 : p2 (s.heap.push o1)) {Q : Value → Shared → Prop}
    (h : ∀ h', IsZip h' (s.heap.objs.size + 4) (s.heap.objs.size + 2) (s.heap.objs.size + 3) .none → IsPair h' (s.heap.objs.size + 2) (.ref s.heap.objs.size) (.ref (s.heap.objs.size + 1)) → IsPair h' (s.heap.objs.size + 3) .none .none →
      h'.get? s.heap.objs.size = some o1 → h'.get? (s.heap.objs.size + 1) = some o2 → h'.objs.size = s.heap.objs.size + 5 → (∀ c o, s.heap.get? c = some o → h'.get? c = some o) → Q (.ref (s.heap.objs.size + 4)) { s with heap := h' }) :
    wpAny (model prog w) A (call (.type "zip") [a, b]) Q E s := by
  refine callType_new F.called_zip (by decide) (F.typeCall_zip_2 _ _) (F.newCall_zip_2 _ _) (fun obj => F.args_object_init_3 obj _ _) F.entry_zip_new (meets_zipG a b o1 o2 p1 p2 hA hB) ⟨q1, q2, ?_⟩
  have z1 : (zG1 s.heap o1).objs.size = s.heap.objs.size + 1 := Heap.size_push ..
  have z2 : (zG2 s.heap o1 o2).objs.size = s.heap.objs.size + 2 := by rw [Heap.size_push, z1]
  have z3 : (zG3 s.heap o1 o2).objs.size = s.heap.objs.size + 3 := by rw [Heap.size_push, z2]
  have z4 : (zG4 s.heap o1 o2).objs.size = s.heap.objs.size + 4 := by rw [Heap.size_push, z3]
  have z5 : (zG5 s.heap o1 o2).objs.size = s.heap.objs.size + 5 := by rw [Heap.size_push, z4]
  have up : ∀ c o, s.heap.get? c = some o → (zG5 s.heap o1 o2).get? c = some o := fun c o x => Heap.get?_push_of_some _ (Heap.get?_push_of_some _ (Heap.get?_push_of_some _ (Heap.get?_push_of_some _ (Heap.get?_push_of_some _ x))))
  have g5 : (zG5 s.heap o1 o2).get? (zG4 s.heap o1 o2).objs.size = some _ := Heap.get?_push_size _ rfl
  have g4 : (zG5 s.heap o1 o2).get? (zG3 s.heap o1 o2).objs.size = some _ := Heap.get?_push_of_some _ (Heap.get?_push_size _ rfl)
  have g3 : (zG5 s.heap o1 o2).get? (zG2 s.heap o1 o2).objs.size = some _ := Heap.get?_push_of_some _ (Heap.get?_push_of_some _ (Heap.get?_push_size _ rfl))
  have g2 : (zG5 s.heap o1 o2).get? (zG1 s.heap o1).objs.size = some o2 := Heap.get?_push_of_some _ (Heap.get?_push_of_some _ (Heap.get?_push_of_some _ (Heap.get?_push_size _ f2)))
  have g1 : (zG5 s.heap o1 o2).get? s.heap.objs.size = some o1 := Heap.get?_push_of_some _ (Heap.get?_push_of_some _ (Heap.get?_push_of_some _ (Heap.get?_push_of_some _ (Heap.get?_push_size _ f1))))
  show _ ∧ _
  rw [z2, z3, z4] at g5
  rw [z1, z2] at g3
  rw [z3] at g4
  rw [z1] at g2
  rw [z4]
  exact ⟨⟨_, g5, rfl⟩, h _ g5 g3 g4 g1 g2 z5 up⟩
end
/-! ### over the layer's heap -/
/-- what an iterator reads, by the layer's heap: the item there is, what it must be, the end -/
structure Src where
  av : Nat → Hp → V → Prop
  is : Nat → Hp → V → Prop
  nd : Nat → Hp → Prop
structure Lk (P : Program) (w : World) (K : PySem.W.Frag) (src : Src) {it : Addr} {dep : List Addr} (S : Stp it dep) : Prop where
  av : ∀ (X : Cx), X.prog = P → X.w = w → X.K = K → ∀ {pins : List (Addr × Obj)} {τ : L2.St} {H : Hp} {s : Shared} {i : Nat} {x : V}, L2.Inv X pins τ H s → src.av i H x → S.av i s.heap (fun u => RelV x u) ∧ src.is i H x
  nd : ∀ (X : Cx), X.prog = P → X.w = w → X.K = K → ∀ {pins : List (Addr × Obj)} {τ : L2.St} {H : Hp} {s : Shared} {i : Nat}, L2.Inv X pins τ H s → src.nd i H → S.nd i s.heap
def Jz (s1 s2 : Src) : It :=
  ⟨fun i H => ∃ x y, s1.av i H x ∧ s2.av i H y, fun i H v H' => ∃ T x y, v = .ref T ∧ H T = none ∧ H' = upd H T (.tup [x, y]) ∧ s1.is i H x ∧ s2.is i H y, fun i H => s1.nd i H ∨ ∃ x, s1.av i H x ∧ s2.nd i H⟩
theorem turn_zG {P : Program} {w : World} {K : PySem.W.Frag} {elts : List Expr} {kk : Nat} {tpos : Pos} {z TI TO i1 i2 : Addr} {d1 d2 : List Addr} {S1 : Stp i1 d1} {S2 : Stp i2 d2} {s1 s2 : Src} (D : Apt z TI TO i1 i2 d1 d2) (L1 : Lk P w K s1 S1) (L2' : Lk P w K s2 S2) :
    Turn P w K (.Tuple elts kk tpos) (Jz s1 s2) [z, TI, TO, i1, i2] z (fun i h => IsZip h z TI TO .none ∧ IsPair h TI (.ref i1) (.ref i2) ∧ (∃ x y, IsPair h TO x y) ∧ S1.st i h ∧ S2.st i h) where
  mem := by simp
  obj := fun i h ⟨hz, hTI, ⟨x, y, hTO⟩, h1, h2⟩ c hc => by
    have e' : c = z ∨ c = TI ∨ c = TO ∨ c = i1 ∨ c = i2 := by simpa using hc
    rcases e' with rfl | rfl | rfl | rfl | rfl
    · exact ⟨_, hz, fun v q => nomatch q⟩
    · exact ⟨_, hTI, fun v q => nomatch q⟩
    · exact ⟨_, hTO, fun v q => nomatch q⟩
    · exact S1.rec_ h1
    · exact S2.rec_ h2
  keep := fun i h h' ⟨hz, hTI, ⟨x, y, hTO⟩, h1, h2⟩ k => ⟨k z (by simp) _ hz, k TI (by simp) _ hTI, ⟨x, y, k TO (by simp) _ hTO⟩, S1.keep h1 fun o e => k i1 (by simp) o e, S2.keep h2 fun o e => k i2 (by simp) o e⟩
  item := fun X hP hw hK hc i pins s τ H E I hf st hg => by
    have l1 := fun {x : V} (q : s1.av i H x) => L1.av X hP hw hK I q
    have l2 := fun {x : V} (q : s2.av i H x) => L2'.av X hP hw hK I q
    subst hP hw hK
    obtain ⟨hz, hTI, ⟨x0, y0, hTO⟩, h1, h2⟩ := st
    obtain ⟨x, y, a1, a2⟩ := hg
    obtain ⟨b1, c1⟩ := l1 a1
    obtain ⟨b2, c2⟩ := l2 a2
    have ltz : z < s.heap.objs.size := Heap.lt_size hz
    refine nextG_item S1 S2 D hz hTI hTO h1 h2 b1 b2 fun h' tk u u2 ru ru2 z' TO' h1' h2' hT hsz hk => ⟨_, rfl, wpAny_letOwnedTupleGo_zip (s := { s with heap := h', toks := tk }) z' fun h'' z'' sb => ?_⟩
    have hT2 : h''.get? s.heap.objs.size = some { cls := .type "tuple", data := .seq #[u, u2] } := (sb.2 _ (Nat.ne_of_gt ltz)).trans hT
    have new : ObjOk X.prog X.w (upd H s.heap.objs.size (.tup [x, y])) h'' s.heap.objs.size (.tup [x, y]) := ⟨(by show 2 ≤ sizeLine; decide), [u, u2], .cons ru (.cons ru2 .nil), ⟨_, hT2, rfl, _, rfl⟩⟩
    have I1 : L2.Inv X pins τ (upd H s.heap.objs.size (.tup [x, y])) { s with heap := h'', toks := tk } :=
      I.turnedNew (t' := tk) (ch := [z, TI, TO, i1, i2]) (fun c o hb q => (sb.2 c (fun q' => hb (by simp [q']))).trans (hk c o (fun q' => hb (by simp [q'])) (fun q' => hb (by simp [q'])) (fun q' => hb (by simp [q'])) (fun q' => hb (by simp [q'])) q)) hf (Nat.le_refl _) new
    refine ⟨.ref s.heap.objs.size, _, I1, rfl, ⟨_, x, y, rfl, I.hok.fresh (Nat.le_refl _), rfl, c1, c2⟩, ⟨z'', (sb.2 _ D.TIz).trans (hk _ _ D.TIz D.TITO D.TIi1 D.TIi2 hTI), ⟨u, u2, (sb.2 _ D.TOz).trans TO'⟩, S1.keep h1' fun o e => (sb.2 _ D.i1z).trans e, S2.keep h2' fun o e => (sb.2 _ D.i2z).trans e⟩, fun c hcm => ?_⟩
    have hlt : c < s.heap.objs.size := by
      have e' : c = z ∨ c = TI ∨ c = TO ∨ c = i1 ∨ c = i2 := by simpa using hcm
      rcases e' with rfl | rfl | rfl | rfl | rfl
      · exact ltz
      · exact Heap.lt_size hTI
      · exact Heap.lt_size hTO
      · obtain ⟨_, e1, _⟩ := S1.rec_ h1; exact Heap.lt_size e1
      · obtain ⟨_, e2, _⟩ := S2.rec_ h2; exact Heap.lt_size e2
    rw [upd_ne (Nat.ne_of_lt hlt)]
    exact (hf c hcm).1
  done := fun X hP hw hK hc i pins s τ H E I hf st hg => by
    have e1 : S1.nd i s.heap ∨ ∃ x : V, S1.av i s.heap (fun u => RelV x u) ∧ S2.nd i s.heap := by
      rcases hg with n1 | ⟨x, a1, n2⟩
      · exact .inl (L1.nd X hP hw hK I n1)
      · exact .inr ⟨x, (L1.av X hP hw hK I a1).1, L2'.nd X hP hw hK I n2⟩
    subst hP hw hK
    obtain ⟨hz, hTI, ⟨x0, y0, hTO⟩, h1, h2⟩ := st
    have fin : ∀ h' tk, (∀ c o, c ≠ z → c ≠ TO → c ≠ i1 → c ≠ i2 → s.heap.get? c = some o → h'.get? c = some o) → (none : Option Value) = none ∧ L2.Inv X pins τ H { s with heap := h', toks := tk } := fun h' tk hk => ⟨rfl, I.turnedL (t' := tk) (ch := [z, TI, TO, i1, i2]) (fun c o hb q => hk c o (fun q' => hb (by simp [q'])) (fun q' => hb (by simp [q'])) (fun q' => hb (by simp [q'])) (fun q' => hb (by simp [q'])) q) hf⟩
    rcases e1 with n1 | ⟨x, a1, n2⟩
    · exact nextG_end (P1 := fun _ => True) S1 S2 (I.ok.hd hc) D hz hTI hTO h1 h2 (.inl n1) fin
    · exact nextG_end S1 S2 (I.ok.hd hc) D hz hTI hTO h1 h2 (.inr ⟨a1, n2⟩) fin
  self := fun A i s Q E st h => wpAny_pyIter_zip st.1 h
/-- a source walks these items while gd holds -/
structure SOk (R : RC) (src : Src) (ws : List W) (gd : Sto → Prop) (S1 : Sto) (H1 : Hp) : Prop where
  go : ∀ i w S H, Sim R S H → Fr S1 H1 S H → gd S → ws[i]? = some w → ∃ x, src.av i H x ∧ ∀ y, src.is i H y → RV R H w y
  stop : ∀ i S H, Sim R S H → Fr S1 H1 S H → gd S → ws.length ≤ i → src.nd i H
theorem zipW_get : ∀ {xs ys : List W} {i : Nat} {w : W}, (zipW xs ys)[i]? = some w → ∃ x y, w = .tup [x, y] ∧ xs[i]? = some x ∧ ys[i]? = some y
  | [], _, _, _, h => by simp [zipW] at h
  | _ :: _, [], _, _, h => by simp [zipW] at h
  | x :: xs, y :: ys, 0, w, h => by
    have h' : W.tup [x, y] = w := by simpa [zipW] using h
    exact ⟨x, y, h'.symm, rfl, rfl⟩
  | x :: xs, y :: ys, i + 1, w, h => by
    obtain ⟨a, b, e1, e2, e3⟩ := zipW_get (xs := xs) (ys := ys) (i := i) (w := w) (by simpa [zipW] using h)
    exact ⟨a, b, e1, by simpa using e2, by simpa using e3⟩
theorem zipW_len : ∀ {xs ys : List W} {i : Nat}, (zipW xs ys).length ≤ i → xs.length ≤ i ∨ ys.length ≤ i
  | [], _, _, _ => .inl (Nat.zero_le _)
  | _ :: _, [], _, _ => .inr (Nat.zero_le _)
  | x :: xs, y :: ys, 0, h => by simp [zipW] at h
  | x :: xs, y :: ys, i + 1, h => by
    have := zipW_len (xs := xs) (ys := ys) (i := i) (by simpa [zipW] using h)
    rcases this with h | h
    · exact .inl (by simp; exact h)
    · exact .inr (by simp; exact h)
section
variable {R : RC} {G : Gm} {X : Cx} {a b : Expr} {ta tb : TE'} {pos : Pos}
theorem it_zip {s1 s2 : Src} {xs ys : List W} {g1 g2 : Sto → Prop} {S1 : Sto} {H1 : Hp} (k1 : SOk R s1 xs g1 S1 H1) (k2 : SOk R s2 ys g2 S1 H1) : ItOk R (Jz s1 s2) (zipW xs ys) (fun S => g1 S ∧ g2 S) S1 H1 where
  go := fun i w S H hS f g e => by
    obtain ⟨x, y, rfl, e1, e2⟩ := zipW_get e
    obtain ⟨u, a1, b1⟩ := k1.go i x S H hS f g.1 e1
    obtain ⟨v, a2, b2⟩ := k2.go i y S H hS f g.2 e2
    refine ⟨⟨u, v, a1, a2⟩, fun z H' q => ?_⟩
    obtain ⟨T, u', v', rfl, hT, rfl, c1, c2⟩ := q
    obtain ⟨d1, d2⟩ := hS.hid (u := .tup [u', v']) hT
    exact ⟨⟨T, [u', v'], rfl, .inl (.inl upd_same), .cons (RV.mono hS d2 _ _ (b1 _ c1)) (.one (RV.mono hS d2 _ _ (b2 _ c2)))⟩, d1, d2, Gr.new hT⟩
  stop := fun i S H hS f g e => by
    rcases zipW_len e with h | h
    · exact .inl (k1.stop i S H hS f g.1 h)
    · by_cases h1 : xs.length ≤ i
      · exact .inl (k1.stop i S H hS f g.1 h1)
      · obtain ⟨u, a1, _⟩ := k1.go i (xs[i]'(by omega)) S H hS f g.1 (by simp [show i < xs.length by omega])
        exact .inr ⟨u, a1, k2.stop i S H hS f g.2 h⟩
/-- the three kinds -/
def srcL (K : PySem.W.Frag) (l : Addr) : Src := ⟨fun i H x => ∃ xs, SqL K H l xs ∧ xs[i]? = some x, fun i H x => ∀ xs, SqL K H l xs → xs[i]? = some x, fun i H => ∃ xs, SqL K H l xs ∧ xs.length ≤ i⟩
def srcT (K : PySem.W.Frag) (l : Addr) : Src := ⟨fun i H x => ∃ xs, SqT K H l xs ∧ xs[i]? = some x, fun i H x => ∀ xs, SqT K H l xs → xs[i]? = some x, fun i H => ∃ xs, SqT K H l xs ∧ xs.length ≤ i⟩
def srcS (x : Str) : Src := ⟨fun i H v => ∃ c, x.cps[i]? = some c ∧ v = .str ⟨#[c]⟩, fun i H v => ∃ c, x.cps[i]? = some c ∧ v = .str ⟨#[c]⟩, fun i H => x.cps[i]? = none⟩
theorem lkL {P : Program} {w : World} {K : PySem.W.Frag} {it l : Addr} : Lk P w K (srcL K l) (stpL it l) where
  av := fun X hP hw hK {pins τ H s i x} I ⟨xs, q, e⟩ => by
    subst hK
    obtain ⟨its, r, p, _⟩ := I.list q
    obtain ⟨u, eu, ru⟩ := r.get e
    exact ⟨⟨its.toArray, u, p.isList, by simpa using eu, ru⟩, fun ys hy => by rw [I.list_inj hy q]; exact e⟩
  nd := fun X hP hw hK {pins τ H s i} I ⟨xs, q, e⟩ => by
    subst hK
    obtain ⟨its, r, p, _⟩ := I.list q
    have hl := r.length
    exact ⟨its.toArray, p.isList, by simp; omega⟩
theorem lkT {P : Program} {w : World} {K : PySem.W.Frag} {it l : Addr} : Lk P w K (srcT K l) (stpT it l) where
  av := fun X hP hw hK {pins τ H s i x} I ⟨xs, q, e⟩ => by
    subst hK
    obtain ⟨its, r, p, _⟩ := I.tuple q
    obtain ⟨u, eu, ru⟩ := r.get e
    exact ⟨⟨its.toArray, u, p, by simpa using eu, ru⟩, fun ys hy => by rw [I.tuple_inj hy q]; exact e⟩
  nd := fun X hP hw hK {pins τ H s i} I ⟨xs, q, e⟩ => by
    subst hK
    obtain ⟨its, r, p, _⟩ := I.tuple q
    have hl := r.length
    exact ⟨its.toArray, p, by simp; omega⟩
theorem lkS {P : Program} {w : World} {K : PySem.W.Frag} {it : Addr} {x : Str} {t : Tok} {ty : String} (hty : ty = "str_ascii_iterator" ∨ ty = "str_iterator") : Lk P w K (srcS x) (stpS it x t ty hty) where
  av := fun X hP hw hK {pins τ H s i v} I ⟨c, e, ev⟩ => ⟨⟨c, e, fun t => by subst ev; exact ⟨t, rfl⟩⟩, c, e, ev⟩
  nd := fun X hP hw hK {pins τ H s i} I e => e
theorem sok_lst {K : PySem.W.Frag} {S1 : Sto} {H1 : Hp} {p : Addr} {ws : List W} : SOk R (srcL K p) ws (fun S' => S' p = some (.lst ws)) S1 H1 where
  go := fun i w S H hS f g e => by
    obtain ⟨vs, q1, r1⟩ := hS p _ g
    obtain ⟨v, ev, rv⟩ := r1.get e
    exact ⟨v, ⟨vs, SqL.of q1, ev⟩, fun y hy => by have z := hy vs (SqL.of q1); rw [ev] at z; cases z; exact rv⟩
  stop := fun i S H hS f g e => by
    obtain ⟨vs, q1, r1⟩ := hS p _ g
    exact ⟨vs, SqL.of q1, by rw [r1.length]; exact e⟩
theorem sok_rl {S1 : Sto} {H1 : Hp} {p : Addr} {ws : List W} {vs : List V} (hS1 : Sim R S1 H1) (hp : SqR R.K H1 p vs) (hv : RVs R H1 ws vs) : SOk R (srcL R.K p) ws (fun _ => True) S1 H1 where
  go := fun i w S H hS f g e => by
    have q := (hp.mono hS1 f).l
    obtain ⟨v, ev, rv⟩ := (RVs.mono hS1 f _ _ hv).get e
    exact ⟨v, ⟨vs, q, ev⟩, fun y hy => by have z := hy vs q; rw [ev] at z; cases z; exact rv⟩
  stop := fun i S H hS f g e => ⟨vs, (hp.mono hS1 f).l, by rw [hv.length]; exact e⟩
theorem sok_tup {S1 : Sto} {H1 : Hp} {p : Addr} {ws : List W} {vs : List V} (hS1 : Sim R S1 H1) (hp : SqT R.K H1 p vs) (hv : RVs R H1 ws vs) : SOk R (srcT R.K p) ws (fun _ => True) S1 H1 where
  go := fun i w S H hS f g e => by
    have q := SqT.mono hS1 f hp
    obtain ⟨v, ev, rv⟩ := (RVs.mono hS1 f _ _ hv).get e
    exact ⟨v, ⟨vs, q, ev⟩, fun y hy => by have z := hy vs q; rw [ev] at z; cases z; exact rv⟩
  stop := fun i S H hS f g e => ⟨vs, SqT.mono hS1 f hp, by rw [hv.length]; exact e⟩
theorem sok_str {S1 : Sto} {H1 : Hp} {l : List Nat} : SOk R (srcS (S' l)) (chars l) (fun _ => True) S1 H1 where
  go := fun i w S H hS f g e => by
    unfold chars at e
    rw [List.getElem?_map] at e
    obtain ⟨c, ec, rfl⟩ := Option.map_eq_some_iff.mp e
    have e1 : (S' l).cps[i]? = some c := by simpa using ec
    exact ⟨_, ⟨c, e1, rfl⟩, fun y ⟨c', e2, ey⟩ => by rw [e1] at e2; cases e2; exact ey⟩
  stop := fun i S H hS f g e => by
    have e' : (chars l).length = l.length := by unfold chars; simp
    rw [e'] at e
    show (S' l).cps[i]? = none
    simp
    omega
/-- a thing that zip may read -/
theorem src_of (hK : X.K = R.K) {pins : List (Addr × Obj)} {s : Shared} {τ : L2.St} {S : Sto} {H : Hp} {w : W} {v : V} {u : Value} {Kw : List W → (Sto → Prop) → Sto → Prop} (I : L2.Inv X pins τ H s) (r : RV R H w v) (ru : RelV v u) (hS : Sim R S H) (h : itZ w S Kw) :
    ∃ (dep : List Addr) (mk : (it : Addr) → Stp it dep) (o : Obj) (p : Heap → Prop) (src : Src) (ws : List W) (gd : Sto → Prop), Kw ws gd S ∧ Beg u p o ∧ o.isFreed = false ∧ p s.heap ∧ (∀ o', p (s.heap.push o')) ∧ (∀ it h, h.get? it = some o → (mk it).st 0 h) ∧ (∀ it, Lk X.prog X.w X.K src (mk it)) ∧ SOk R src ws gd S H ∧ ∀ c, c ∈ dep → c < s.heap.objs.size := by
  cases w with
  | tup ws =>
    obtain ⟨p, vs, rfl, hp, hv⟩ := r
    cases ru
    obtain ⟨its, _, ht, _⟩ := I.tuple (show SqT X.K H p vs by rw [hK]; exact hp)
    exact ⟨[p], fun it => stpT it p, _, fun h => h.IsTuple p its.toArray, srcT X.K p, ws, _, h, fun prog w A E s Q q k => wpAny_pyIter_tuple q k, rfl, ht, fun o' => Heap.IsTuple.push ht _, fun it h e => ⟨_, e, rfl, rfl⟩, fun it => lkT, by rw [hK]; exact sok_tup hS hp hv, fun c hc => by
      have e : c = p := by simpa using hc
      subst e
      obtain ⟨o, e, _⟩ := ht
      exact Heap.lt_size e⟩
  | rl ws =>
    obtain ⟨p, vs, rfl, hp, hv⟩ := r
    cases ru
    obtain ⟨its, _, ht, _⟩ := I.list (show SqL X.K H p vs by rw [hK]; exact hp.l)
    exact ⟨[p], fun it => stpL it p, _, fun h => h.IsList p its.toArray, srcL X.K p, ws, _, h, fun prog w A E s Q q k => wpAny_pyIter_list q k, rfl, ht.isList, fun o' => Heap.IsList.push ht.isList _, fun it h e => ⟨_, e, rfl, rfl⟩, fun it => lkL, by rw [hK]; exact sok_rl hS hp hv, fun c hc => by
      have e : c = p := by simpa using hc
      subst e
      exact ht.lt⟩
  | str l =>
    cases r
    obtain ⟨t, rfl⟩ := ru
    cases ha : (S' l).cps.all (· < 128)
    · exact ⟨[], fun it => stpS it (S' l) t "str_iterator" (.inr rfl), _, fun _ => True, srcS (S' l), chars l, _, h, fun prog w A E s Q q k => wpAny_pyIter_wide ha k, rfl, trivial, fun _ => trivial, fun it h e => ⟨_, e, rfl, rfl⟩, fun it => lkS _, sok_str, fun c hc => (by cases hc)⟩
    · exact ⟨[], fun it => stpS it (S' l) t "str_ascii_iterator" (.inl rfl), _, fun _ => True, srcS (S' l), chars l, _, h, fun prog w A E s Q q k => wpAny_pyIter_ascii ha k, rfl, trivial, fun _ => trivial, fun it h e => ⟨_, e, rfl, rfl⟩, fun it => lkS _, sok_str, fun c hc => (by cases hc)⟩
  | ref p =>
    cases r
    cases ru
    cases ea : S p with
    | none => simp only [itZ, itW, ea] at h
    | some oa => cases oa with
      | lst ws =>
        simp only [itZ, itW, ea] at h
        obtain ⟨vs, q1, r1⟩ := hS p _ ea
        obtain ⟨its, _, ht, _⟩ := I.list (SqL.of (K := X.K) q1)
        exact ⟨[p], fun it => stpL it p, _, fun h => h.IsList p its.toArray, srcL X.K p, ws, _, h, fun prog w A E s Q q k => wpAny_pyIter_list q k, rfl, ht.isList, fun o' => Heap.IsList.push ht.isList _, fun it h e => ⟨_, e, rfl, rfl⟩, fun it => lkL, sok_lst, fun c hc => by
          have e : c = p := by simpa using hc
          subst e
          exact ht.lt⟩
      | _ => simp only [itZ, itW, ea] at h
  | _ => exact (show False from h).elim
theorem ne_n {n i j : Nat} (h : i ≠ j) : n + i ≠ n + j := fun q => h (Nat.add_left_cancel q)
theorem ne_s {n j : Nat} (h : j ≠ 0) : n ≠ n + j := fun q => h (Nat.add_left_cancel (q.symm.trans (Nat.add_zero n).symm))
theorem lt_n {n c j : Nat} (h : c < n) : c ≠ n + j := Nat.ne_of_lt (Nat.lt_of_lt_of_le h (Nat.le_add_right _ _))
theorem apt_n {n : Nat} {d1 d2 : List Addr} (h1 : ∀ c, c ∈ d1 → c < n) (h2 : ∀ c, c ∈ d2 → c < n) : Apt (n + 4) (n + 2) (n + 3) n (n + 1) d1 d2 where
  TIz := ne_n (by decide)
  TOz := ne_n (by decide)
  i1z := ne_s (by decide)
  i2z := ne_n (by decide)
  TITO := ne_n (by decide)
  TIi1 := (ne_s (by decide)).symm
  TIi2 := ne_n (by decide)
  TOi1 := (ne_s (by decide)).symm
  TOi2 := ne_n (by decide)
  i12 := ne_s (by decide)
  a1 := fun b m => ⟨lt_n (h1 b m), lt_n (h1 b m), Nat.ne_of_lt (h1 b m), lt_n (h1 b m)⟩
  a2 := fun b m => ⟨lt_n (h2 b m), lt_n (h2 b m), Nat.ne_of_lt (h2 b m), lt_n (h2 b m)⟩
theorem i_zip (hK : X.K = R.K) {p tpos : Pos} {elts : List Expr} {kk : Nat} (hg : Gl X "zip") (hm : X.mg "zip" = none) (ha : PE X a (LE R ta)) (hb : PE X b (LE R tb)) (hs : starEach [a, b] X.env = (false, eval a X.env) :: starEach [b] X.env) (hs2 : starEach [b] X.env = (false, eval b X.env) :: starEach [] X.env)
    (hpl : (backTo pos (starEach [b] X.env)).any (·.1) = false) : PI X (.Tuple elts kk tpos) (.Call (.Name "zip" p) [a, b] [] pos) (LI R (iZip (aCons ta (aCons tb aNil)))) := by
  refine ⟨fun pins s τ H Rk I h => ?_⟩
  obtain ⟨σ, S, Kw, hσ, hS, h, k⟩ := h
  have step : tCons (LE R ta) (tCons (LE R tb) tNil) τ H (fun vs H1 => ∃ w1 w2 S1 x y, vs = [x, y] ∧ RV R H1 w1 x ∧ RV R H1 w2 y ∧ Sim R S1 H1 ∧ Fr S H S1 H1 ∧ itZ w1 S1 fun xs g1 _ => itZ w2 S1 fun ys g2 _ => Kw (zipW xs ys) (fun S' => g1 S' ∧ g2 S') S1) := by
    refine LE.go hσ hS h fun w1 S1 v1 H1 q1 r1 hS1 f1 hσ1 => LE.go hσ1 hS1 q1 fun w2 S2 v2 H2 q2 r2 hS2 f2 hσ2 => ?_
    exact ⟨w1, w2, S2, v1, v2, rfl, RV.mono hS1 f2 _ _ r1, r2, hS2, f1.trans f2, q2⟩
  refine Call_ (ld_blt I hg hm PyProof.Rows.boot_zip (PyProof.Rows.callWith_type1 (thn ((pa_cons ha (pa_cons hb pa_nil hs2) hs).run pos pins s τ H _ I step) fun us s1 ⟨vs, H1, I1, rr, w1, w2, S1, x, y, ev, r1, r2, hS1, f1, q⟩ => ?_) hs hpl))
  subst ev
  obtain ⟨u1, u2, rfl, ru1, ru2⟩ := vals2 rr
  obtain ⟨d1, m1, o1, p1, s_1, xs, g1, q, B1, fr1, pr1, pp1, st1, lk1, so1, lt1⟩ := src_of hK I1 r1 ru1 hS1 q
  obtain ⟨d2, m2, o2, p2, s_2, ys, g2, q, B2, fr2, pr2, pp2, st2, lk2, so2, lt2⟩ := src_of hK I1 r2 ru2 hS1 q
  refine call_zipG B1 B2 fr1 fr2 pr1 (pp2 o1) fun h' hz hTI hTO e1 e2 hsz hk => wpAny_pyIter_zip hz ?_
  have I2 : L2.Inv X pins τ H1 { s1 with heap := h' } := I1.kept (t' := s1.toks) hk
  refine ⟨s1.heap.objs.size + 4, [s1.heap.objs.size + 4, s1.heap.objs.size + 2, s1.heap.objs.size + 3, s1.heap.objs.size, s1.heap.objs.size + 1], _, Jz s_1 s_2, H1, rfl, I2, turn_zG (S1 := m1 s1.heap.objs.size) (S2 := m2 (s1.heap.objs.size + 1)) (apt_n lt1 lt2) (lk1 _) (lk2 _), ⟨hz, hTI, ⟨_, _, hTO⟩, st1 _ _ e1, st2 _ _ e2⟩, fun c hc => ?_, ?_⟩
  · have hle : s1.heap.objs.size ≤ c := by
      have e' : c = s1.heap.objs.size + 4 ∨ c = s1.heap.objs.size + 2 ∨ c = s1.heap.objs.size + 3 ∨ c = s1.heap.objs.size ∨ c = s1.heap.objs.size + 1 := by simpa using hc
      rcases e' with q | q | q | q | q
      · rw [q]; exact Nat.le_add_right _ _
      · rw [q]; exact Nat.le_add_right _ _
      · rw [q]; exact Nat.le_add_right _ _
      · exact Nat.le_of_eq q.symm
      · rw [q]; exact Nat.le_add_right _ _
    exact I1.fpOk hle (I1.hok.fresh hle)
  · exact k _ _ S1 H1 _ q hS1 f1 (it_zip so1 so2)
end
end MP
/-! MPD: dict displays. -/
namespace MP
open PySem L2 PyProof.Rows
def aPr : List (TE' × TE') → TA'
  | [] => aNil
  | (k, v) :: r => aCons k (aCons v (aPr r))
def flat (ps : List (V × V)) : List V := ps.flatMap fun q => [q.1, q.2]
section
variable {R : RC} {G : Gm} {X : Cx} {pos : Pos}
inductive DL (R : RC) (X : Cx) : List (Option Expr) → List Expr → List (TE' × TE') → Prop
  | nil : DL R X [] [] []
  | cons {k v : Expr} {ks : List (Option Expr)} {vs : List Expr} {tk tv : TE'} {trs : List (TE' × TE')} : PE X k (LE R tk) → PE X v (LE R tv) → DL R X ks vs trs → DL R X (some k :: ks) (v :: vs) ((tk, tv) :: trs)
def up2 (R : RC) (trs : List (TE' × TE')) : List (L2.TE × L2.TE) := trs.map fun q => (hdE (LE R q.1), hdE (LE R q.2))
theorem DL.pps {ks : List (Option Expr)} {vs : List Expr} {trs : List (TE' × TE')} (h : DL R X ks vs trs) : PPs X pos ks vs (up2 R trs) ∧ ks.all (·.isSome) = true ∧ ks.length = vs.length ∧ ks.length = trs.length := by
  induction h with
  | nil => exact ⟨pps_nil, rfl, rfl, rfl⟩
  | cons h1 h2 h3 ih => exact ⟨pps_cons (PE.hid h1) (PE.hid h2) ih.1, by simp [ih.2.1], by simp [ih.2.2.1], by simp [ih.2.2.2]⟩
theorem pairs_go {p : Addr} {τ : L2.St} {σ : Sl} {K : List (V × V) → Hp → Prop} : ∀ (trs : List (TE' × TE')) (S : Sto) (H : Hp) (Qw : List W → Sto → Prop), RS R H σ τ → Sim R S H → H p = none → aPr trs σ S Qw →
    (∀ ws S1 ps H1, Qw ws S1 → RVs R H1 ws (flat ps) → Sim R S1 H1 → Fr S H S1 H1 → H1 p = none → K ps (upd H1 p (.dK []))) → tPairs (up2 R trs) τ (upd H p (.dK [])) K
  | [], S, H, Qw, hσ, hS, hp, h, k => k [] S [] H h rfl hS (Fr.refl _ _) hp
  | (tk, tv) :: trs, S, H, Qw, hσ, hS, hp, h, k => by
    refine ⟨p, .dK [], trivial, upd_same, ?_⟩
    rw [dl_of hp]
    refine LE.go hσ hS h fun w S1 v H1 q1 r1 hS1 f1 hσ1 n1 => ⟨p, .dK [], trivial, upd_same, ?_⟩
    rw [dl_of n1]
    refine LE.go hσ1 hS1 q1 fun w2 S2 v2 H2 q2 r2 hS2 f2 hσ2 n2 => ?_
    refine pairs_go (K := fun ps H3 => K ((v, v2) :: ps) H3) trs S2 H2 _ hσ2 hS2 n2 q2 fun ws S3 ps H3 q3 r3 hS3 f3 n3 => ?_
    exact k _ S3 _ H3 q3 (.cons (RV.mono hS2 f3 _ _ (RV.mono hS1 f2 _ _ r1)) (.cons (RV.mono hS2 f3 _ _ r2) r3)) hS3 ((f1.trans f2).trans f3) n3
theorem kvs_rel {H : Hp} : ∀ (ps : List (V × V)) {ws : List W} {kvs : List (KW × W)}, kvsW ws = some kvs → RVs R H ws (flat ps) → ∃ kvr : List (Key × V), ps = kvr.map (fun kv => (kV kv.1, kv.2)) ∧ kvr.map (·.1) = kvs.map (fun q => kR q.1) ∧ RVs R H (kvs.map (·.2)) (kvr.map (·.2))
  | [], ws, kvs, h, r => by
    cases ws with
    | nil => cases h; exact ⟨[], rfl, rfl, rfl⟩
    | cons w ws => obtain ⟨v, vr, e, _⟩ := r; cases e
  | (x, y) :: ps, ws, kvs, h, r => by
    cases ws with
    | nil => have e : flat ((x, y) :: ps) = [] := r; cases e
    | cons w ws =>
      obtain ⟨v, vr, e, r1, r2⟩ := r
      have e' : x :: y :: flat ps = v :: vr := e
      injection e' with e1 e2
      subst e1 e2
      cases ws with
      | nil => cases r2
      | cons w2 ws =>
        obtain ⟨v2, vr2, e3, r3, r4⟩ := r2
        injection e3 with e4 e5
        subst e4 e5
        have h' : (match keyW w, kvsW ws with
          | some k, some q => some ((k, w2) :: q)
          | _, _ => none) = some kvs := h
        cases ek : keyW w with
        | none => rw [ek] at h'; cases h'
        | some k => cases eq : kvsW ws with
          | none => rw [ek, eq] at h'; cases h'
          | some q =>
            rw [ek, eq] at h'
            cases h'
            obtain ⟨kvr, i1, i2, i3⟩ := kvs_rel ps eq r4
            have ex := key_V ek r1
            subst ex
            exact ⟨(kR k, y) :: kvr, by rw [i1]; rfl, by simp [i2], .cons r3 i3⟩
theorem dct_go {τ : L2.St} {H : Hp} {Q : VK} {trs : List (TE' × TE')} (h : LE R (wDct (aPr trs)) τ H Q) : tDisp (up2 R trs) τ H (Cl X Q) := by
  obtain ⟨σ, S, Qw, hσ, hS, h, k⟩ := h
  intro p hp
  refine pairs_go trs S H _ hσ hS hp h fun ws S1 ps H1 q1 r1 hS1 f1 n1 => ?_
  refine ⟨upd_same, ?_⟩
  have q' : (match kvsW ws with
    | some kvs => kvs.length ≤ 15 ∧ newD (kvs.foldl (fun a q => putW a q.1 q.2) []) S1 Qw
    | none => False) := q1
  cases e : kvsW ws with
  | none => rw [e] at q'; exact q'.elim
  | some kvs =>
    rw [e] at q'
    obtain ⟨hl, hn⟩ := q'
    obtain ⟨kvr, e1, e2, e3⟩ := kvs_rel ps e r1
    have el : kvr.length = kvs.length := by have := congrArg List.length e2; simpa using this
    refine ⟨kvr, e1, by rw [el]; exact hl, ?_⟩
    obtain ⟨m1, m2⟩ := merge_rel (more := kvs) (morer := kvr) (kvs := []) (kvr := []) e2 e3 rfl rfl
    rw [upd_upd]
    exact new_dct hS1 (fun w S2 v H2 q r hS2 f2 => k w S2 v H2 q r hS2 (f1.trans f2)) hn n1 m1 m2
theorem e_dct {ks : List (Option Expr)} {vs : List Expr} {trs : List (TE' × TE')} (h : DL R X ks vs trs) (h0 : ks ≠ []) (h15 : ks.length ≤ 15) : PE X (.Dict ks vs pos) (LE R (wDct (aPr trs))) := by
  obtain ⟨p1, p2, p3, _⟩ := h.pps (pos := pos)
  exact PE.imp (PE.cl (pe_disp p1 p2 p3 h0 h15)) fun τ H Q q => dct_go q
theorem e_dct0 : PE X (.Dict [] [] pos) (LE R (wDct aNil)) := by
  refine PE.imp (PE.cl pe_dnewK) fun τ H Q h => ?_
  obtain ⟨σ, S, Qw, hσ, hS, h, k⟩ := h
  obtain ⟨_, hn⟩ := (show ([] : List (KW × W)).length ≤ 15 ∧ newD [] S Qw from h)
  intro p hp
  exact new_dct (kvs := []) (kvr := []) hS k hn hp rfl rfl
end
end MP
/-! MPX0: exceptions of a class with its own __init__, which calls a base's __init__ and stores one field. -/
namespace MP
open PySem L2 PySem.Spec
/-! ### what is known of a base's __init__ -/
structure XIni (B ini : String) : Prop where
  slot : Slot B "__init__" ini
  entry : entryFor table ini = some Builtin.«BaseException.__init__»
  split : splitId ini = some (B, "__init__")
  kind : builtinKind ini = some .slot
  row : Manifest.signature? ini = some ⟨.positional, "*", B, .self, [⟨"args", .varPos, false⟩]⟩
  star : (B != "*") = true
theorem XIni.of {B n ini : String} {bm : List Value} (F : ExcBaseFacts B n ini bm) : XIni B ini := ⟨F.init, F.initEntry, F.initSplit, F.initKind, F.initRow, F.noStar⟩
theorem XIni.ofC {B n ini : String} (F : PyProof.Rows.ExcClass B n ini) : XIni B ini := ⟨F.init, F.initEntry, F.initSplit, F.initKind, F.initSig, F.notStar⟩
theorem xini_VE : XIni "ValueError" "ValueError.__init__" := .of F.excBase_ValueError
theorem xini_IE : XIni "IndexError" "IndexError.__init__" := .of F.excBase_IndexError
theorem xini_LE : XIni "LookupError" "LookupError.__init__" := .of F.excBase_LookupError
theorem xini_KE : XIni "KeyError" "KeyError.__init__" := .ofC PyProof.Rows.excClass_KeyError
/-! ### the mro's end -/
abbrev tlV : List Value := [.type "ValueError", .type "Exception", .type "BaseException", .type "object"]
abbrev tlI : List Value := [.type "IndexError", .type "LookupError", .type "Exception", .type "BaseException", .type "object"]
abbrev tlL : List Value := [.type "LookupError", .type "Exception", .type "BaseException", .type "object"]
abbrev tlK : List Value := [.type "KeyError", .type "LookupError", .type "Exception", .type "BaseException", .type "object"]
/-- own classes, then t -/
def rfT (t : List Value) : List Value → Bool
  | [] => t == []
  | v :: r => (v :: r) == t || match v with
    | .ref _ => rfT t r
    | _ => false
theorem rfT_cases {t : List Value} {v : Value} {r : List Value} (h : rfT t (v :: r) = true) : v :: r = t ∨ ∃ c, v = .ref c ∧ rfT t r = true := by
  unfold rfT at h
  rcases Bool.or_eq_true_iff.mp h with q | q
  · exact .inl (eq_of_beq q)
  · cases v <;> first | (cases q; done) | exact .inr ⟨_, rfl, q⟩
theorem rfT_has {t : List Value} (x : String) : ∀ l : List Value, rfT t l = true → l.contains (.type x) = t.contains (.type x)
  | [], h => by rw [eq_of_beq (show (t == []) = true from h)]
  | v :: r, h => by
    rcases rfT_cases h with q | ⟨c, rfl, q⟩
    · rw [q]
    · rw [List.contains_cons, rfT_has x r q]; rfl
theorem rfT_ne {t : List Value} (ht : t ≠ []) : ∀ l : List Value, rfT t l = true → l.isEmpty = false
  | [], h => absurd (eq_of_beq (show (t == []) = true from h)) ht
  | _ :: _, _ => rfl
open Builtin Builtin.ObjectAttr in
theorem rfT_pass {t : List Value} (self : Value) (ht : refuseLoop self "__setattr__" t = pure ()) : ∀ l : List Value, rfT t l = true → refuseLoop self "__setattr__" l = pure ()
  | [], h => by
    have e := eq_of_beq (show (t == []) = true from h)
    rw [← e]; exact ht
  | v :: r, h => by
    rcases rfT_cases h with q | ⟨c, rfl, q⟩
    · rw [q]; exact ht
    · rw [PySem.refuseLoop_ref]; exact rfT_pass self ht r q
section
variable {M : Model} {A : Around} {E : Value → Shared → Prop} {hp : Heap} {gs : Array GenState} {dr : Drawn} {tk : Nat} {os : OsState}
variable {nm qn : Str} {C N : Addr} {bs bm bB : List Value} {hd : Bool} {sn : List Str} {su : List Value} {ab : Bool} {co : Option Bool} {dd : Option Addr} {a0 a1 a2 a3 a5 : Option Value} {B nid iid ini B2 : String}
/-- C.__new__ may be called -/
theorem x_checkNew (F : ExcBaseFacts B nid iid bB) (hB : bm.contains (.type B) = true) {us : List Value} {Q : Unit → Shared → Prop}
    (hC : hp.get? C = some (excClassObj nm qn C N bs bm hd sn su ab co dd a0 a1 a2 a3 a5 nid)) (k : Q () ⟨hp, gs, dr, tk, os⟩) : wpAny M A (checkBuiltinCall nid ⟨.ref C :: us, []⟩) Q E ⟨hp, gs, dr, tk, os⟩ := by
  have isB : (Value.ref C :: bm).contains (.type B) = true := by rw [List.contains_cons, hB, Bool.or_true]
  have st := F.noStar
  simp only [checkBuiltinCall, F.newKind, F.newSplit, F.newRow]
  repeat (first
    | refine wpAny_loadPart_at hC ?_
    | (refine wpAny_isSubtype_exc hC ?_; rw [isB])
    | refine wpAny_staticBase_exc hC ?_
    | refine wpAny_madeBy_exc hC ?_
    | simp only [bne_self_eq_false, Bool.false_eq_true, if_false]
    | wp_step)
  exact k
/-- B.__init__ may be called of an instance of C -/
theorem x_checkIni (F : XIni B2 ini) (hB : bm.contains (.type B2) = true) {e : Addr} {oe : Obj} {us : List Value} {Q : Unit → Shared → Prop}
    (hC : hp.get? C = some (excClassObj nm qn C N bs bm hd sn su ab co dd a0 a1 a2 a3 a5 nid)) (he : hp.get? e = some oe) (hcl : oe.cls = .ref C) (k : Q () ⟨hp, gs, dr, tk, os⟩) :
    wpAny M A (checkBuiltinCall ini ⟨.ref e :: us, []⟩) Q E ⟨hp, gs, dr, tk, os⟩ := by
  have isB : (Value.ref C :: bm).contains (.type B2) = true := by rw [List.contains_cons, hB, Bool.or_true]
  have st := F.star
  simp only [checkBuiltinCall, F.kind, F.split, F.row]
  repeat (first
    | (with_reducible refine wpAny_loadPart_at he ?_; rw [hcl])
    | with_reducible refine wpAny_loadPart_at hC ?_
    | (with_reducible refine wpAny_isSubtype_exc hC ?_; rw [isB])
    | wp_step)
  refine wpAny_onRaise ?_
  have cs : ∀ (x y : String) (n : Nat), Bind.check ⟨.positional, "*", B2, .self, [⟨"args", .varPos, false⟩]⟩ x y n (List.map (fun z => z.fst) ({ pos := Value.ref e :: us } : Args).kw) = pure () :=
    fun _ _ _ => check_star_args _ _ _ _ _ _
  rw [cs]
  exact wpAny_pure k
end
section
variable {prog : Program} {w : World} {A : Around} {E : Value → Shared → Prop} {Z : Result → Shared → Prop} {hp : Heap} {gs : Array GenState} {dr : Drawn} {tk : Nat} {os : OsState}
variable {nm qn : Str} {C N : Addr} {bs bm bB : List Value} {hd : Bool} {sn : List Str} {su : List Value} {ab : Bool} {co : Option Bool} {dd : Option Addr} {a0 a1 a2 a3 a5 : Option Value} {B nid iid ini B2 : String}
/-- a new instance of C that has no dict yet -/
abbrev xNew (C t : Addr) : Obj := { cls := .ref C, data := .fields #[.ref t, .none, .none, .none, .bool false, .none] }
theorem x_new (F : ExcBaseFacts B nid iid bB) (hB : bm.contains (.type B) = true) (hA : bm.contains (.type "AttributeError") = false) (hN : bm.contains (.type "NameError") = false) {us : List Value}
    (hC : hp.get? C = some (excClassObj nm qn C N bs bm hd sn su ab co dd a0 a1 a2 a3 a5 nid))
    (k : Z (.ok (.ret (.ref (hp.objs.size + 1)))) ⟨(hp.push { cls := .type "tuple", data := .seq us.toArray }).push (xNew C hp.objs.size), gs, dr, tk, os⟩) (hl : us.length ≤ sizeLine) :
    codeAny (model prog w) A (.builtin nid ⟨.ref C :: us, []⟩) Z ⟨hp, gs, dr, tk, os⟩ := by
  have en := F.ends
  have isB : (Value.ref C :: bm).contains (.type B) = true := by rw [List.contains_cons, hB, Bool.or_true]
  have noA : (Value.ref C :: bm).contains (.type "AttributeError") = false := by rw [List.contains_cons, hA]; rfl
  have noN : (Value.ref C :: bm).contains (.type "NameError") = false := by rw [List.contains_cons, hN]; rfl
  refine codeAny_builtinAt F.entry ?_
  unfold Builtin.«BaseException.__new__»
  refine wpAt_bind ?_
  show wpAt _ _ _ (stack >>= _) _ _ _
  refine wpAt_bind (wpAt_stack fun p below => wpAt_of_wpAny ?_)
  wp_walk
  refine wpAt_of_wpAny ?_
  rw [F.owner]
  repeat (first
    | with_reducible refine wpAny_madeHere_exc F.canon hC ?_
    | with_reducible refine wpAny_loadPart_at hC ?_
    | (with_reducible refine wpAny_isSubtype_exc hC ?_; first
      | rw [isB]
      | rw [noA]
      | rw [noN])
    | wp_step)
  show Z _ _
  rw [Heap.size_push]
  exact k
theorem x_typeCall (F : ExcBaseFacts B nid iid bB) (hB : bm.contains (.type B) = true) (hA : bm.contains (.type "AttributeError") = false) (hN : bm.contains (.type "NameError") = false) {us : List Value} {fI : Addr} {Q : Fin → Shared → Prop}
    (hC : hp.get? C = some (excClassObj nm qn C N bs bm hd sn su ab co dd a0 a1 a2 a3 a5 nid))
    (li : W.Looks (model prog w) hp (typeLookup (.ref C) "__init__") (some (.ref fI))) (lb : ∀ self, W.Looks (model prog w) hp (bindSpecial (.ref fI) self) (.ref fI, [self])) (hl : us.length ≤ sizeLine)
    (k : codeAny (model prog w) A (.call (.ref fI) ⟨.ref (hp.objs.size + 1) :: us, []⟩)
      (fun r s' => match r with
        | .ok (.ret v) => v = .none ∧ Q (.done (.ret (.ref (hp.objs.size + 1)))) s'
        | .ok _ => False
        | .error e => E e s')
      ⟨(hp.push (W.kdv_tup us)).push (xNew C hp.objs.size), gs, dr, tk, os⟩) :
    wpAny (model prog w) A (Builtin.«type.__call__» ⟨.ref C :: us, []⟩) Q E ⟨hp, gs, dr, tk, os⟩ := by
  repeat (first
    | with_reducible refine wpAny_loadPart_at hC ?_
    | with_reducible refine wpAny_madeBy_exc hC ?_
    | wp_step)
  refine codeAny_call_builtin_code (Code.quiet_builtin _ F.quiet) (x_checkNew F hB hC ?_)
  refine x_new F hB hA hN hC ?_ hl
  show wpAny _ _ _ _ _ _
  have kp : ∀ b o, hp.get? b = some o → ((hp.push (W.kdv_tup us)).push (xNew C hp.objs.size)).get? b = some o := fun b o e => Heap.get?_push_of_some _ (Heap.get?_push_of_some _ e)
  have cC := kp _ _ hC
  have cE : ((hp.push (W.kdv_tup us)).push (xNew C hp.objs.size)).get? (hp.objs.size + 1) = some (xNew C hp.objs.size) := by heap_get
  have isC : (Value.ref C :: bm).contains (.ref C) = true := by simp
  have li2 := li.keeps kp
  have lb2 := (lb (.ref (hp.objs.size + 1))).keeps kp
  unfold isInstance
  repeat (first
    | with_reducible refine wpAny_loadPart_at cE ?_
    | (with_reducible refine wpAny_isSubtype_exc cC ?_; rw [isC])
    | wp_step)
  show wpAny _ _ (typeLookup (.ref C) _) _ _ _
  refine li2.at ?_
  refine wpAny_holding (wpAny_bind (lb2.at ?_))
  refine wpAny_bind (wpAny_call (codeAny_mono k fun r s' z => ?_))
  rcases r with e | (v | _ | _ | _) <;> first
    | exact z
    | exact z.elim
    | skip
  obtain ⟨rfl, z⟩ := z
  first
    | exact wpAny_pure (wpAny_pure z)
    | (wp_walk; exact z)
theorem x_call (F : ExcBaseFacts B nid iid bB) (hB : bm.contains (.type B) = true) (hA : bm.contains (.type "AttributeError") = false) (hN : bm.contains (.type "NameError") = false) {us : List Value} {fI : Addr}
    (hC : hp.get? C = some (excClassObj nm qn C N bs bm hd sn su ab co dd a0 a1 a2 a3 a5 nid))
    (li : W.Looks (model prog w) hp (typeLookup (.ref C) "__init__") (some (.ref fI))) (lb : ∀ self, W.Looks (model prog w) hp (bindSpecial (.ref fI) self) (.ref fI, [self])) (hl : us.length ≤ sizeLine)
    (k : codeAny (model prog w) (A.under (.builtin "type.__call__" ⟨.ref C :: us, []⟩)) (.call (.ref fI) ⟨.ref (hp.objs.size + 1) :: us, []⟩) (W.InitBack (hp.objs.size + 1) Z)
      ⟨(hp.push (W.kdv_tup us)).push (xNew C hp.objs.size), gs, dr, tk, os⟩) :
    codeAny (model prog w) A (.call (.ref C) ⟨us, []⟩) Z ⟨hp, gs, dr, tk, os⟩ := by
  have g1 := tc_lookup
  have g2 := tc_bind (.ref C)
  have ty : (⟨hp, gs, dr, tk, os⟩ : Shared).TypeIs (.ref C) "type" := ⟨_, hC, rfl⟩
  refine codeAny_of_tree ?_
  show wpAny _ _ (callAny (.ref C) _) _ _ _
  repeat (any_goals (first
    | assumption
    | with_reducible refine wpAny_loadPart_at hC ?_
    | wp_step))
  refine ⟨rfl, ?_⟩
  refine codeAny_call_builtin_at (Code.quiet_builtin _ (by decide +kernel)) entry_typeCall (wpAny_check_type_call_sub hC (x_typeCall F hB hA hN hC li lb hl ?_))
  refine codeAny_mono k fun r s' z => ?_
  rcases r with e | (v | _ | _ | _) <;> exact z
/-- B.__init__(e, ..): nothing of it is told -/
theorem x_ini (F : XIni B2 ini) (hB : bm.contains (.type B2) = true) {e t0 : Addr} {us : List Value}
    (hC : hp.get? C = some (excClassObj nm qn C N bs bm hd sn su ab co dd a0 a1 a2 a3 a5 nid)) (he : hp.get? e = some (xNew C t0)) (hl : us.length ≤ sizeLine)
    (k : ∀ h' t1, (∀ b o, b ≠ e → hp.get? b = some o → h'.get? b = some o) → h'.get? e = some (xNew C t1) → Z (.ok (.ret .none)) ⟨h', gs, dr, tk, os⟩) :
    codeAny (model prog w) A (.call (.builtin ini) ⟨.ref e :: us, []⟩) Z ⟨hp, gs, dr, tk, os⟩ := by
  refine codeAny_call_builtin F.slot.plain F.entry (x_checkIni F hB hC he rfl ?_)
  wp_walk
  refine k _ hp.objs.size (fun b o hb ho => ?_) ?_
  · rw [Heap.get?_update_other _ _ (Ne.symm hb)]
    exact Heap.get?_push_of_some _ ho
  · rw [Heap.get?_update_self _ (Heap.get?_push_of_some _ he) rfl]
    rfl
open Builtin Builtin.ObjectAttr in
/-- e.name = v, the first field -/
theorem x_set {K : W.Frag} {name : Str} {tn : Tok} {v : Value} {x : Addr} {fv : Array Value} {cd : ClassData}
    (X : K.In hp) (hx : hp.get? x = some { cls := .ref C, data := .fields fv }) (hcd : W.clsIn K C = some cd) (hp_ : ∀ self, refuseLoop self "__setattr__" cd.mro = pure ()) (hob : cd.mro.contains (.type "object") = true) (hne : cd.mro.isEmpty = false) (hh : cd.hasDict = true) (ha : W.findIn K (.ref C) name = some none)
    (k : ∀ h' tk' dx, (∀ b o, b ≠ x → hp.get? b = some o → h'.get? b = some o) → hp.objs.size ≤ dx → dx ≠ x → h'.get? x = some { cls := .ref C, dict := some dx, data := .fields fv } →
      h'.Ns1 dx (fun y => if y = name then some v else none) → Z (.ok (.ret .none)) ⟨h', gs, dr, tk', os⟩) :
    codeAny (model prog w) A (.call (.builtin "object.__setattr__") ⟨[.ref x, .str name tn, v], []⟩) Z ⟨hp, gs, dr, tk, os⟩ := by
  have I : W.InstAt hp x { cls := .ref C, data := .fields fv } C none := ⟨hx, rfl, rfl, trivial⟩
  have SF := F.store_object
  have nsz : x ≠ hp.objs.size := Nat.ne_of_lt (Heap.lt_size hx)
  have sub : W.Looks (model prog w) hp (isInstance (.ref x) (.type "object")) true := I.type.andThen (W.looks_mroIn X (by unfold W.mroIn; rw [hcd, Option.bind_some, if_neg (by rw [hne]; decide), hob]))
  refine codeAny_call_builtin SF.slot.plain SF.entry (@W.check_slot (model prog w) _ _ ⟨hp, gs, dr, tk, os⟩ "object.__setattr__" "object" "__setattr__" (.ref x) [.str name tn, v] [] _ SF.kind SF.split sub (SF.args (.ref x) (.str name tn) v) ?_)
  have l1 : W.Looks (model prog w) hp (mroOf (.ref C)) cd.mro := (W.looks_clsIn X hcd).andThen .now
  have l3 : W.Looks (model prog w) hp (storeTaker? none) none := .now
  have l4 : W.Looks (model prog w) hp (classData C) cd := W.looks_clsIn X hcd
  rw [W.osa_eq, refuse_eq]
  refine wpAny_bind (wpAny_bind (I.type.at (wpAny_bind (l1.at ?_))))
  rw [hp_]
  refine wpAny_pure (wpAny_bind (I.type.at (wpAny_bind ((W.looks_findIn X ha).at (wpAny_bind (l3.at ?_))))))
  show wpAny _ _ (storeInOwnDict (.ref x) (.ref C) (.str name tn) name v false) _ _ _
  obtain ⟨c1, c2, c3, c4, c5, c6, c7, c8, c9, c10, c11⟩ := cd
  dsimp only at hh
  subst hh
  unfold storeInOwnDict ownDictForStores
  repeat (first
    | with_reducible refine HandSPX.store_in_new ?_ ?_
    | with_reducible refine wpAny_loadPart_at hx ?_
    | with_reducible refine l4.at ?_
    | wp_step)
  · exact ⟨_, #[], _, (Heap.get?_update_ne _ _ _ _ nsz.symm).trans (Heap.get?_push_at rfl rfl), rfl, fun e he => absurd he (by simp), fun _ => rfl⟩
  · intro h' tk' hn' hs
    have hx1 : (hp.push { cls := .type "dict", data := .dict #[] }).get? x = some { cls := .ref C, data := .fields fv } := Heap.get?_push_of_some _ hx
    refine k h' tk' hp.objs.size (fun b o hb ho => ?_) (Nat.le_refl _) nsz.symm ?_ hn'
    · exact (hs.2 b (Nat.ne_of_lt (Heap.lt_size ho))).trans ((Heap.get?_update_ne _ _ _ _ hb).trans (Heap.get?_push_of_some _ ho))
    · exact (hs.2 x nsz).trans (Heap.get?_update_self _ hx1 rfl)
end
end MP
/-! MPX1: such an exception, made. -/
namespace MP
open PySem L2 PySem.Spec PyProof.Rows
/-- o.m(..), where few arguments are given -/
theorem call_meth {M : Model} {A : Around} {E : Value → Shared → Prop} {env : Env} {s : Shared} {o : Expr} {m : Str} {apos : Pos} {es : List Expr} {kws : List Keyword} {Q : Value → Shared → Prop}
    (hbase : attributeBase o m env (eval o env) = eval o env) (hform : methodCallForm (es.length + kws.length) (backTo pos (starEach es env)) (backToKw pos (keywordEach kws env)) = true) (hline : (apos.endLine == pos.line) = true)
    (h : wpAny M A (eval o env) (fun ov s₁ => ∀ pl : Sem Bool, wpAny M A (getMethod ov m pl) (fun fx s₂ => wpAny M A (callWith pos fx.1 fx.2 (backTo pos (starEach es env)) (backToKw pos (keywordEach kws env))) Q E s₂) E s₁) E s) :
    wpAny M A (eval (.Call (.Attribute o m apos) es kws pos) env) Q E s := by
  rw [arm_eval_Call, hbase]
  refine wpAny_bind (wpAny_mono h (fun ov s₁ h₁ => ?_) fun _ _ e => e)
  refine wpAny_bind (wpAny_standAt ?_)
  have hpos : methodCallPos true o env apos pos = pure pos := by unfold methodCallPos; simp [hline]
  unfold methodCall
  rw [hform]
  refine wpAny_bind (wpAny_holding ?_)
  unfold calleeOf
  refine wpAny_mono (h₁ _) (fun fx s₂ h₂ => wpAny_bind (wpAny_of_eq hpos h₂)) fun _ _ e => e
open Builtin Builtin.ObjectAttr in
/-- an own exception class that may have its own __init__ -/
structure OxC (K : PySem.W.Frag) (C : Addr) : Prop where
  cls : ∃ nm qn N bs bm sn su ab co dd a0 a1 a2 a3 a5 nid B iid bB, K.lookup C = some (excClassObj nm qn C N bs bm true sn su ab co dd a0 a1 a2 a3 a5 nid) ∧ ExcBaseFacts B nid iid bB ∧ bm.contains (.type B) = true ∧ bm.contains (.type "AttributeError") = false ∧
    bm.contains (.type "NameError") = false ∧ (∀ self, refuseLoop self "__setattr__" bm = pure ()) ∧ bm.contains (.type "object") = true ∧ bm.isEmpty = false
  sa : PySem.W.findIn K (.ref C) "__setattr__" = some (some (.builtin "object.__setattr__"))
  exC : PySem.W.subIn K (.ref C) (.type "BaseException") = some true
  tyC : PySem.W.typeIn K (.ref C) = some (.type "type")
  kC : PySem.W.keepIn K (.ref C) = true
/-- B2's __init__ serves instances of C -/
def OxB (K : PySem.W.Frag) (C : Addr) (B2 : String) : Prop := ∃ nm qn N bs bm sn su ab co dd a0 a1 a2 a3 a5 nid, K.lookup C = some (excClassObj nm qn C N bs bm true sn su ab co dd a0 a1 a2 a3 a5 nid) ∧ bm.contains (.type B2) = true
section
variable {X : Cx} {pins : List (Addr × Obj)} {τ : L2.St} {H : Hp} {s : Shared} {a C dx : Addr} {f : Str} {y : V} {u : Value} {Q : Unit → Shared → Prop} {E : Value → Shared → Prop} {A : Around}
/-- self.f = y, the first one -/
theorem x_ost (T : OxC X.K C) (I : L2.Inv X pins τ H s) (e : H a = some (exo a C none)) (hno : PySem.W.findIn X.K (.ref C) f = some none) (ry : RelV y u)
    (k : ∀ dx s', H dx = none → dx ≠ a → L2.Inv X pins τ (upd (upd H dx (exd dx [(f, y)])) a (exo a C (some dx))) s' → Q () s') : wpAny (model X.prog X.w) A (setAttr (.ref a) f u) Q E s := by
  obtain ⟨nm, qn, N, bs, bm, sn, su, ab, co, dd, a0, a1, a2, a3, a5, nid, B, iid, bB, hC, F, h1, h2, h3, h4, h5, h6⟩ := T.cls
  have hcl : PySem.W.clsIn X.K C = some { name := nm, bases := bs, mro := .ref C :: bm, ns := N, qualname := qn, hasDict := true, slotNames := sn, subclasses := su, abstract := ab, collection := co, hasDel := false } := by
    unfold PySem.W.clsIn
    rw [hC] <;> rfl
  obtain ⟨t1, ho⟩ := exo_at I.hok e
  obtain ⟨hp, gs, dr, tk, os⟩ := s
  refine PySem.W.set_plain I.kIn (ox := { cls := .ref C, dict := none, data := .fields #[.ref t1, .none, .none, .none, .bool false, .none] }) (od := none) ⟨ho, rfl, rfl, trivial⟩ T.sa ?_
  refine x_set I.kIn ho hcl (fun self => by rw [PySem.refuseLoop_ref]; exact h4 self) (by rw [List.contains_cons, h5, Bool.or_true]) rfl rfl hno fun h' tk' dx kp dn dne hx hn => ?_
  have hnd : H dx = none := I.hok.fresh dn
  have nd : ∀ {b : Addr} {o : Obj}, hp.get? b = some o → b ≠ dx := fun {b o} q => Nat.ne_of_lt (Nat.lt_of_lt_of_le (Heap.lt_size q) dn)
  have na : ∀ {b : Addr}, H b = none → b ≠ a := fun {b} n z => by rw [z, e] at n; cases n
  have up : ∀ {b : Addr}, b ≠ dx → b ≠ a → upd (upd H dx (exd dx [(f, y)])) a (exo a C (some dx)) b = H b := fun {b} g1 g2 => by rw [upd_ne g2, upd_ne g1]
  have hd : ∀ {b : Addr} {o : HO}, H b = some o → b ≠ dx := fun {b o} q z => by rw [z, hnd] at q; cases q
  refine k dx _ hnd dne (I.un { keep := fun b o q n _ _ => kp b o (na n) q, slot := fun b o q n _ _ => ⟨o.slots, kp b o (na n) q⟩, free := fun b o q n _ => by rw [up (nd q) (na n)]; exact n, there := fun b o q _ => ?_, tups := fun b xs q => ?_, frzs := fun b o v q => ?_, tbls := fun b ps q => ⟨#[], ?_⟩ } fun b o z => ?_)
  · by_cases hb : b = a
    · rw [hb]; exact ⟨_, hx⟩
    · exact ⟨o, kp b o hb q⟩
  · rw [up (hd q) (at_ne e q exo_tup)]; exact q
  · rw [up (hd q) (at_ne e q exo_frz)]; exact q
  · rw [up (hd q) (at_ne e q exo_tbl), q]; simp
  · have ok2 : ∀ {b2 : Addr} {o2 : HO}, H b2 = some o2 → b2 ≠ a → ObjOk X.prog X.w (upd (upd H dx (exd dx [(f, y)])) a (exo a C (some dx))) h' b2 o2 := fun {b2 o2} z2 hb2 =>
      (I.hok b2 o2 z2).stay (fun c v hc q => kp c v (by
          rcases hc with hc | hc
          · rw [hc]; exact hb2
          · exact at_ne e hc exo_own) q)
        (fun c hc => by rw [up (hd hc) (at_ne e hc exo_own)]; exact hc) (fun c xs hc => by rw [up (hd hc) (at_ne e hc exo_tup)]; exact hc)
    by_cases hb : b = a
    · subst hb
      rw [upd_same] at z
      cases z
      exact exo_ok hx
    · rw [upd_ne hb] at z
      by_cases hbd : b = dx
      · subst hbd
        rw [upd_same] at z
        cases z
        refine exd_ok hn fun g => ?_
        rw [lookup_put]
        by_cases hg : g = f
        · rw [if_pos hg, if_pos hg]; exact ry
        · rw [if_neg hg, if_neg hg]; exact True.intro
      · rw [upd_ne hbd] at z
        exact ok2 z hb
/-- B.__init__(self, ..) -/
theorem x_oini {us : List Value} {B2 ini : String} {Q : Value → Shared → Prop} (F : XIni B2 ini) (T : OxB X.K C B2) (I : L2.Inv X pins τ H s) (e : H a = some (exo a C none)) (hl : us.length ≤ sizeLine) (k : ∀ s', L2.Inv X pins τ H s' → Q .none s') :
    wpAny (model X.prog X.w) A (call (.builtin ini) (.ref a :: us)) Q E s := by
  obtain ⟨nm, qn, N, bs, bm, sn, su, ab, co, dd, a0, a1, a2, a3, a5, nid, hC, hB⟩ := T
  obtain ⟨t1, ho⟩ := exo_at I.hok e
  obtain ⟨hp, gs, dr, tk, os⟩ := s
  refine wpAny_call (x_ini F hB (I.kIn _ _ hC) ho hl fun h' t2 kp hx => ?_)
  have J := I.write (t' := tk) (x := a) (e := a) (o := exo a C none) (by rw [e]; exact True.intro) (.inl rfl) kp ⟨_, hx⟩ (exo_ok hx)
  have eu : upd H a (exo a C none) = H := by
    funext b
    by_cases hb : b = a
    · rw [hb, upd_same, e]
    · rw [upd_ne hb]
  rw [eu] at J
  exact k _ J
/-- what b.__init__ is: a built-in's one -/
def BaseM (X : Cx) (b : Str) (ini : String) : Prop :=
  (∃ T : String, X.mg b = none ∧ bootBuiltins b = some (.type T) ∧ b ≠ "__name__" ∧ typeOf (.type T) = pure (.type "type") ∧ Manifest.isStub T = false ∧ PySem.W.findCls X.K (.type T) (.type "type") "__init__" = some (.val (.builtin ini))) ∨
  ∃ (D : Addr) (mc : Value), X.mg b = some (.ref D) ∧ PySem.W.specialIn X.K (.ref D) "__getattribute__" = some (some (.builtin "type.__getattribute__")) ∧ PySem.W.readsIn X.K D mc = true ∧ PySem.W.findCls X.K (.ref D) mc "__init__" = some (.val (.builtin ini))
theorem x_base0 {b : Str} {ini : String} {p1 : Pos} (M : BaseM X b ini) (hg : Gl X b) (hd : (b == ("__debug__" : Str)) = false) (hh : PySem.W.handedIn (.builtin ini) = true) (I : L2.Inv X pins τ H s) {Q : Value → Shared → Prop}
    (k : ∀ ov s1, (∀ (pl : Sem Bool) {Q2 : Value × List Value → Shared → Prop}, (∀ s', L2.Inv X pins τ H s' → Q2 (.builtin ini, []) s') → wpAny (model X.prog X.w) X.A (getMethod ov "__init__" pl) Q2 X.xe s1) → Q ov s1) : wpAny (model X.prog X.w) X.A (eval (.Name b p1) X.env) Q X.xe s := by
  rcases M with ⟨T, h1, h2, h3, h4, h5, h6⟩ | ⟨D, mc, h1, h2, h3, h4⟩
  · refine ld_blt I hg h1 h2 (k _ _ fun pl Q2 k2 => ?_) h3 hd
    obtain ⟨m, fr⟩ := I.fr
    exact PySem.W.method_type fr I.ok.mod.kin h4 h5 h6 hh (k2 _ (I.tok _))
  · refine ld_glob I hg h1 (k _ _ fun pl Q2 k2 => ?_) hd
    exact PySem.W.method_cls I.kIn h2 (PySem.W.cls_value I.kIn h3 h4 hh (k2 _ (I.tok _)))
end
/-! ### the __init__ itself -/
section
variable {X : Cx} {a C : Addr} {b m f : Str} {ini B2 : String} {sf pr : Str} {p1 p2 p3 p4 p5 p6 p7 p8 p9 p10 : Pos} {j : Nat}
theorem xs_base (F : XIni B2 ini) (T : OxB X.K C B2) (M : BaseM X b ini) (hg : Gl X b) (hd : (b == ("__debug__" : Str)) = false) (hh : PySem.W.handedIn (.builtin ini) = true) (h0 : X.N[0]? = some sf) (hv : Vis X.env.scope sf) (d1 : (sf == ("__debug__" : Str)) = false) (d2 : (sf == ("__classdict__" : Str)) = false) (hline : (p2.endLine == p5.line) = true) :
    PS X (.Expr (.Call (.Attribute (.Name b p1) "__init__" p2) [.Name sf p3, .Constant (.str m) j p4] [] p5) p6) (fun D τ H => ∃ a, τ[0]? = some (some (.ref a)) ∧ H a = some (exo a C none) ∧ D.nx τ H) := by
  have e1 : PE X (.Call (.Attribute (.Name b p1) "__init__" p2) [.Name sf p3, .Constant (.str m) j p4] [] p5) (fun τ H Q => ∃ a, τ[0]? = some (some (.ref a)) ∧ H a = some (exo a C none) ∧ Q .non H) := by
    refine ⟨fun pins s τ H Q I h => ?_⟩
    obtain ⟨a, h1, h2, q⟩ := h
    refine call_meth (by rfl) (by rfl) hline (wpAny_mono (x_base0 (X := X) M hg hd hh I fun ov s1 z => z) (fun ov s1 z pl => z pl fun s2 I1 => ?_) fun _ _ z => z)
    show wpAny _ _ (callWith p5 (Value.builtin ini) [] (backTo p5 (starEach [.Name sf p3, .Constant (.str m) j p4] X.env)) []) _ _ _
    have pa : PA X [.Name sf p3, .Constant (.str m) j p4] _ := pa_cons (pe_var (pos := p3) h0 hv d1 d2) (pa_cons (pe_str (X := X)) pa_nil)
    refine PyProof.Rows.callWith_method1 (thn (pa.run p5 pins _ τ H (fun vs H1 => vs = [.ref a, .str m] ∧ H1 = H) I1 ⟨.ref a, h1, rfl, rfl⟩) fun us s2 ⟨vs, H1, I2, r1, ev, eH⟩ => ?_) (by rfl) (by rfl)
    subst ev eH
    cases r1 with
    | @cons _ u0 _ ur ra rw' =>
      obtain rfl : u0 = Value.ref a := ra
      have hlen : ur.length ≤ sizeLine := by
        rw [← Paired.length rw', sizeLine_eq]
        exact Nat.le_of_ble_eq_true rfl
      exact x_oini F T I2 h2 hlen fun s' J => ⟨.non, H1, J, rfl, q⟩
  refine ⟨fun pins s τ H D I h => ?_⟩
  obtain ⟨a, h1, h2, q⟩ := h
  exact (ps_expr e1).run pins s τ H D I ⟨a, h1, h2, q⟩
theorem xs_store (T : OxC X.K C) (hno : PySem.W.findIn X.K (.ref C) f = some none) (h0 : X.N[0]? = some sf) (h1 : X.N[1]? = some pr) (v0 : Vis X.env.scope sf) (v1 : Vis X.env.scope pr) (d1 : (sf == ("__debug__" : Str)) = false) (d2 : (sf == ("__classdict__" : Str)) = false) (d3 : (pr == ("__debug__" : Str)) = false) (d4 : (pr == ("__classdict__" : Str)) = false) :
    PS X (.Assign [.Attribute (.Name sf p7) f p8] (.Name pr p9) p10) (fun D τ H => ∃ a y, τ[0]? = some (some (.ref a)) ∧ τ[1]? = some (some y) ∧ H a = some (exo a C none) ∧ ∀ dx, H dx = none → dx ≠ a → D.nx τ (upd (upd H dx (exd dx [(f, y)])) a (exo a C (some dx)))) := by
  refine ⟨fun pins s τ H D I h => ?_⟩
  obtain ⟨a, y, t0, t1, ha, q⟩ := h
  have pe0 := pe_var (X := X) (pos := p7) h0 v0 d1 d2
  have pe1 := pe_var (X := X) (pos := p9) h1 v1 d3 d4
  refine plainObj_wpAny_Assign_Attribute (thn (pe1.run pins s τ H (fun v H1 => v = y ∧ H1 = H) I ⟨y, t1, rfl, rfl⟩) fun v s1 ⟨y', H1, I1, r1, e1, e2⟩ => ?_) (by rfl)
  subst e1 e2
  refine thn (pe0.run pins s1 τ H1 (fun v H2 => v = .ref a ∧ H2 = H1) I1 ⟨.ref a, t0, rfl, rfl⟩) fun u s2 ⟨x, H2, I2, r2, e1, e2⟩ => ?_
  subst e1 e2
  obtain rfl : u = Value.ref a := r2
  exact x_ost T I2 ha hno r1 fun dx s' n ne J => ⟨τ, _, J, q dx n ne⟩
/-- the context of a def's body, whatever is handled around it -/
def cxB (P : Program) (w : World) (K : PySem.W.Frag) (mg : Str → Option Value) (base : Heap) (N : List Str) (qual : Str) (scope : Scope) (g : Addr) (cd : Value) (A : Around) (outer : List Env) (s : Shared) (H : Hp) : Cx :=
  { cxOf CX0 P w K mg base N qual scope g cd A outer s H (fun _ _ _ => False) with calm := false, xe := fun _ _ => False }
theorem inv_startB {P : Program} {w : World} {K : PySem.W.Frag} {mg : Str → Option Value} {base : Heap} {N ps : List Str} {qual : Str} {scope : Scope} {g : Addr} {cd : Value} {A : Around} {outer : List Env} {s s1 : Shared} {H : Hp} {us : List Value} {vs : List V}
    (FS : FnScope N ps scope) (e0 : Env0 P w K mg base A outer s H) (hl : vs.length = ps.length) (r : Vals vs us)
    (x : InCallC s s.heap.objs.size (bindL (envOfC qual scope s.heap.objs.size g cd).kindOf (ps.zip us) fun _ => none) (cellsFrom (s.heap.objs.size + 1) scope.names []) (bindC (envOfC qual scope s.heap.objs.size g cd).kindOf (ps.zip us) fun _ => none) s1) :
    L2.Inv (cxB P w K mg base N qual scope g cd A outer s H) [] (L2.start N vs) H s1 := by
  have e1 : Env0 P w K mg base { A with handled := none } outer s H := ⟨e0.frames, e0.mod, e0.bs, e0.bsz, e0.funs, e0.frf, e0.hok, e0.bare⟩
  have J : L2.Inv (cxOf CX0 P w K mg base N qual scope g cd { A with handled := none } outer s H (fun _ _ _ => False)) [] (L2.start N vs) H s1 := inv_start FS rfl e1 hl r x
  have ok := J.ok
  exact ⟨⟨ok.mod, ok.kind, ok.glob, ok.blt, ok.above, ok.inj, ok.has, ok.cab, (fun z => absurd (show false = true from z) Bool.false_ne_true), Around.frames_deeper e0.frames, ok.stk, ok.exf, ok.bs, ok.bsz, ok.noex, ok.exfs, ok.funs, ok.frf⟩,
    J.os, J.bare, J.base, J.loc, J.cell, J.free, J.freeC, J.pin, J.hok, J.len⟩
/-- what the written part says of the __init__ of C at g: it calls b's __init__, and stores its argument at f -/
structure XiF (K : PySem.W.Frag) (mg : Str → Option Value) (C g : Addr) (f : Str) : Prop where
  ex : ∃ (x qual : Str) (args : Arguments) (scope : Scope) (fd : FuncData) (N : List Str) (sf pr b m : Str) (j : Nat) (p1 p2 p3 p4 p5 p6 p7 p8 p9 p10 : Pos) (ini B2 : String),
    FunD K x qual args [.Expr (.Call (.Attribute (.Name b p1) "__init__" p2) [.Name sf p3, .Constant (.str m) j p4] [] p5) p6, .Assign [.Attribute (.Name sf p7) f p8] (.Name pr p9) p10] scope [] [] g fd ∧ FnScope N [sf, pr] scope ∧
    (∀ (s : Shared) (us : List Value), K.In s.heap → us.length = 2 → BindsTo s fd ⟨us, []⟩ ([sf, pr].zip us)) ∧
    XIni B2 ini ∧ OxB K C B2 ∧ (∀ X : Cx, X.K = K → X.mg = mg → BaseM X b ini) ∧ scope.names.lookup b = some .globalImplicit ∧ (b == ("__debug__" : Str)) = false ∧ PySem.W.handedIn (.builtin ini) = true ∧ (p2.endLine == p5.line) = true ∧
    (sf == ("__debug__" : Str)) = false ∧ (sf == ("__classdict__" : Str)) = false ∧ (pr == ("__debug__" : Str)) = false ∧ (pr == ("__classdict__" : Str)) = false ∧ PySem.W.findIn K (.ref C) f = some none ∧ OxC K C ∧
    PySem.W.findIn K (.ref C) "__init__" = some (some (.ref g)) ∧ PySem.W.typeIn K (.ref g) = some (.type "function")
theorem xi_run {K : PySem.W.Frag} {mg : Str → Option Value} {C g : Addr} {f : Str} (Z : XiF K mg C g f) {P : Program} {w : World} {base : Heap} {A : Around} {outer : List Env} {s : Shared} {H : Hp} {a : Addr} {y : V} {u : Value} (dp : A.depth < recursionLimit) (e0 : Env0 P w K mg base A outer s H) (ha : H a = some (exo a C none)) (ry : RelV y u) :
    codeAny (model P w) A (.call (.ref g) ⟨[.ref a, u], []⟩) (fun r s' => ∃ dx H2, r = .ok (.ret .none) ∧ s'.os = s.os ∧ AllBare s'.gens ∧ Un (frs outer) [] H H2 s.heap s'.heap ∧ HOk P w H2 s'.heap ∧ H dx = none ∧ dx ≠ a ∧ H2 = upd (upd H dx (exd dx [(f, y)])) a (exo a C (some dx))) s := by
  obtain ⟨x, qual, args, scope, fd, N, sf, pr, b, m, j, p1, p2, p3, p4, p5, p6, p7, p8, p9, p10, ini, B2, FDd, FS, hb, F, hB, hM, hgl, hbd, hh, hline, d1, d2, d3, d4, hno, T, _, _⟩ := Z.ex
  obtain ⟨oc, od, dV, kV, doc, pm, an, cdv, ct, osl, rfl, lk, hcd, _, _⟩ := FDd.ex
  have KX : K.In s.heap := e0.mod.kin.keeps fun b o e => (e0.bs b o e).1
  have lim : s.heap.NoLimit := e0.mod.nolimit.keeps fun b o e => (e0.bs b o e).1
  refine codeAny_call_function dp (KX _ _ lk) rfl FS.co FS.gen rfl (PySem.W.codeRec_of KX hcd) (hb s [.ref a, u] KX rfl _ _ _ _ ?_)
  refine wpAny_newFunctionEnv_cells FS.kind (fun y hy => ?_) fun env he s1 x1 => ?_
  · rcases FS.par y.1 (List.of_mem_zip (a := y.1) (b := y.2) hy).1 with q | q
    · exact .inl q
    · exact .inr ⟨q, PySem.W.cellsFrom_some _ _ _ (.inl q)⟩
  subst he
  refine ⟨lim.keeps x1.toInCall.keep, codeAny_func ?_⟩
  have I : L2.Inv (cxB P w K mg base N qual scope g cdv A outer s H) [] (L2.start N [.ref a, y]) H s1 := inv_startB FS e0 rfl (.cons rfl (.cons ry .nil)) x1
  have n0 : N[0]? = some sf := by
    have q := congrArg (fun l : List Str => l[0]?) FS.pre
    simpa using q
  have n1 : N[1]? = some pr := by
    have q := congrArg (fun l : List Str => l[1]?) FS.pre
    simpa using q
  have vis : ∀ z, z ∈ [sf, pr] → Vis scope z := fun z hz => by
    rcases FS.par z hz with q | q
    · exact .inl q
    · exact .inr (.inl q)
  have hl : (L2.start N [V.ref a, y]) = some (.ref a) :: some y :: List.replicate (N.length - 2) none := by unfold L2.start; simp
  have st := pss_cons (xs_base (X := cxB P w K mg base N qual scope g cdv A outer s H) (C := C) (p1 := p1) (p2 := p2) (p3 := p3) (p4 := p4) (p5 := p5) (p6 := p6) (j := j) (m := m) F hB (hM _ rfl rfl) hgl hbd hh n0 (vis sf (by simp)) d1 d2 hline)
    (pss_one (xs_store (X := cxB P w K mg base N qual scope g cdv A outer s H) (p7 := p7) (p8 := p8) (p9 := p9) (p10 := p10) T hno n0 n1 (vis sf (by simp)) (vis pr (by simp)) d1 d2 d3 d4))
  refine wpAny_mono (st.run [] s1 _ H { nx := fun _ H' => ∃ dx, H dx = none ∧ dx ≠ a ∧ H' = upd (upd H dx (exd dx [(f, y)])) a (exo a C (some dx)), rt := fun _ _ => False, bk := fun _ _ => False, ct := fun _ _ => False } I
    ⟨a, by rw [hl]; rfl, ha, a, y, by rw [hl]; rfl, by rw [hl]; rfl, ha, fun dx hdx ne => ⟨dx, hdx, ne, rfl⟩⟩) (fun fl s' hs => ?_) fun e s' hs => (show False from hs).elim
  match fl, hs with
  | .ret u, ⟨v, σ', H', J, rv, q⟩ => exact q.elim
  | .next, ⟨σ', H', J, dx, q1, q2, q3⟩ => exact ⟨dx, H', rfl, J.os, J.bare, J.base, J.hok, q1, q2, q3⟩
  | .brk, ⟨_, _, _, q⟩ => exact q.elim
  | .cont, ⟨_, _, _, q⟩ => exact q.elim
end
section
variable {X : Cx} {C g : Addr} {f x : Str} {e : Expr} {ta : TE} {p pos : Pos}
/-- an exception's dict is read only from here on -/
theorem lock_xd {pins : List (Addr × Obj)} {τ : L2.St} {H : Hp} {s : Shared} {d : Addr} {fs : List (Str × V)} (I : L2.Inv X pins τ H s) (h : H d = some (.xd fs)) : ∃ od, L2.Inv X pins τ (upd H d (.frz od (.xd fs))) s := by
  have ok : ObjOk X.prog X.w H s.heap d (.xd fs) := I.hok d _ h
  obtain ⟨mA, ⟨o, es, ep, e, hr⟩, rel⟩ := ok
  have ne : ∀ {b : Addr} {u : HO}, H b = some u → (∀ fs, u ≠ .xd fs) → b ≠ d := fun {b u} q z y => by
    rw [y, h] at q
    exact z _ (Option.some.inj q).symm
  refine ⟨o, I.un { keep := fun b o q n _ _ => q, slot := fun b o q n _ _ => ⟨o.slots, q⟩, free := fun b o q n _ => ?_, there := fun b o q _ => ⟨o, q⟩, tups := fun b xs q => ?_, frzs := fun b o v q => ?_, tbls := fun b ps q => ⟨#[], ?_⟩ } fun b u z => ?_⟩
  · rw [upd_ne fun z => by rw [z, h] at n; cases n]; exact n
  · rw [upd_ne (ne q fun _ z => nomatch z)]; exact q
  · rw [upd_ne (ne q fun _ z => nomatch z)]; exact q
  · rw [upd_ne (ne q fun _ z => nomatch z), q]; simp
  · by_cases hb : b = d
    · subst hb
      rw [upd_same] at z
      cases z
      exact ⟨e, mA, ⟨o, es, ep, e, hr⟩, rel⟩
    · rw [upd_ne hb] at z
      exact (I.hok b u z).stay (fun c v _ q => q) (fun c q => by rw [upd_ne (ne q fun _ z => nomatch z)]; exact q) fun c xs q => by rw [upd_ne (ne q fun _ z => nomatch z)]; exact q
open L2H
/-- C(e), where C has its own __init__ -/
theorem pmk_ox (Z : XiF X.K X.mg C g f) (hg : Gl X x) (hm : X.mg x = some (.ref C)) (hdb : (x == ("__debug__" : Str)) = false) (dp : X.A.depth + 4 < recursionLimit) (he : PE X e ta) (hs : starEach [e] X.env = [(false, eval e X.env)]) :
    PMk5 X (.Call (.Name x p) [e] [] pos) (fun τ H Q => ta τ H fun v H1 => ∀ dx od, H1 dx = none → Q (.ref C) (some dx) (upd H1 dx (.frz od (.xd [(f, v)])))) := by
  intro pins s τ H Q I h
  obtain ⟨_, _, _, _, fd, _, sf, pr, _, _, _, _, _, _, _, _, _, _, _, _, _, _, _, _, _, hbind, _, _, _, _, _, _, _, _, _, _, _, _, T, iC, tI⟩ := id Z.ex
  obtain ⟨nm, qn, N, bs, bm, sn, su, ab, co, dd, a0, a1, a2, a3, a5, nid, B, iid, bB, hC, F, h1, h2, h3, h4, h5, h6⟩ := T.cls
  refine wpAny_Call_Name_kw (ld_glob I hg hm ?_ hdb)
  have hs2 : starEach [e] X.env = (false, eval e X.env) :: starEach [] X.env := hs
  have pa : PA X [e] _ := pa_cons he pa_nil hs2
  refine PySem.W.callWith_K (h₀ := X.base) I.ok.mod.kin T.kC (thn (pa.run pos pins s τ H (fun vs H1 => match vs with
    | [v] => ∀ dx od, H1 dx = none → Q (.ref C) (some dx) (upd H1 dx (.frz od (.xd [(f, v)])))
    | _ => False) I h) fun us s1 ⟨vs, H1, I1, r1, q1⟩ => ⟨I1.kIn, ?_⟩) hs2 (by rfl)
  cases r1 with
  | nil => exact q1.elim
  | @cons v u0 _ ur ra rb =>
    cases rb with
    | cons _ _ => exact q1.elim
    | nil =>
      show wpAny _ _ (call (.ref C) [u0]) _ _ _
      obtain ⟨hp, gs, dr, tk, os⟩ := s1
      have hsz : hp.objs.size ≤ hp.objs.size + 1 := Nat.le_succ _
      have hn : H1 (hp.objs.size + 1) = none := I1.hok.fresh hsz
      have kk : ∀ b o, hp.get? b = some o → ((hp.push (PySem.W.kdv_tup [u0])).push (xNew C hp.objs.size)).get? b = some o := fun b o z => Heap.get?_push_of_some _ (Heap.get?_push_of_some _ z)
      have hget : ((hp.push (PySem.W.kdv_tup [u0])).push (xNew C hp.objs.size)).get? (hp.objs.size + 1) = some (xNew C hp.objs.size) := by heap_get
      have I2 := I1.laid (t' := tk) (a := hp.objs.size + 1) (o := exo (hp.objs.size + 1) C none) (h' := (hp.push (PySem.W.kdv_tup [u0])).push (xNew C hp.objs.size)) kk hsz (exo_ok hget)
      refine wpAny_call (x_call F h1 h2 h3 (I1.kIn _ _ hC) (PySem.W.looks_findIn I1.kIn iC) (fun self => PySem.W.bind_fn I1.kIn self tI) (by show 1 ≤ sizeLine; rw [sizeLine_eq]; omega)
        (codeAny_mono (xi_run Z (by rw [make_depth]; omega) (I2.env0.make C [u0] []) upd_same ra) fun r s' z => ?_))
      obtain ⟨dx, H2, rfl, os2, bare2, un2, hok2, hdx, dne, eH⟩ := z
      obtain ⟨hp2, gs2, dr2, tk2, os'⟩ := s'
      have hd1 : H1 dx = none := by rw [upd_ne dne] at hdx; exact hdx
      have ea : H2 (hp.objs.size + 1) = some (exo (hp.objs.size + 1) C (some dx)) := by rw [eH, upd_same]
      have ed : H2 dx = some (exd dx [(f, v)]) := by rw [eH, upd_ne dne, upd_same]
      obtain ⟨t0, G, J, kG, ge, hoe, na⟩ := mk_end0 (d2 := dr2) (t2 := tk2) I1 hsz kk un2 hok2 os2 bare2 ea ed hd1
      have eX : upd (del H2 (hp.objs.size + 1)) dx (.xd [(f, v)]) = upd H1 dx (.xd [(f, v)]) := by
        funext b
        by_cases hb : b = dx
        · rw [hb, upd_same, upd_same]
        · rw [upd_ne hb, upd_ne hb]
          by_cases hb2 : b = hp.objs.size + 1
          · rw [hb2, del_same, hn]
          · rw [del_ne hb2, eH, upd_ne hb2, upd_ne hb, upd_ne hb2]
      rw [eX] at J na
      obtain ⟨od, J2⟩ := lock_xd J upd_same
      rw [upd_upd] at J2
      have na2 : upd H1 dx (.frz od (.xd [(f, v)])) (hp.objs.size + 1) = none := by rw [upd_ne (Ne.symm dne)]; exact hn
      refine ⟨rfl, ⟨hp.objs.size + 1, _, _, ⟨G, gs2, dr2, tk2, os'⟩, _, .ref C, some dx, rfl, J2, kG, ge, hoe, ⟨rfl, rfl, fun vs hv => ?_⟩, rfl, rfl, na2, rfl, bare2, raises_own T.exC T.tyC, q1 dx od hd1⟩, fun a oe vs ea2 hg2 hd2 => ?_⟩
      · cases hv
        rfl
      · cases ea2
        have hg3 : hp2.get? (hp.objs.size + 1) = some oe := hg2
        rw [hoe] at hg3
        cases hg3
        cases hd2
        exact Nat.le_of_ble_eq_true rfl
end
end MP
/-! MPX2: exceptions in the air, as the small Python tells them. -/
namespace MP
open PySem L2 PyProof.Rows
/-- what is kept of an exception's object in the air; n: that its context is None -/
def Zf : Bool → Value → Option Addr → Obj → Prop
  | true => L2N.Zn
  | false => L2.Zc
theorem Zf.st {n : Bool} {cls : Value} {d : Option Addr} : PXN.Steady1 (Zf n cls d) := by
  cases n with
  | true => exact L2N.Zn.steady
  | false => exact fun o v h => L2.Zc.steady o _ h
theorem Zf.zc {n : Bool} {cls : Value} {d : Option Addr} {o : Obj} (h : Zf n cls d o) : Zc cls d o := by
  cases n with
  | true => exact L2N.Zn.zc h
  | false => exact h
/-- an exception in the air of X -/
def XEf (n : Bool) (X : Cx) (W : WX) (u : Value) (s' : Shared) : Prop :=
  ∃ (a : Addr) (B : Heap) (sI : Shared) (pins : List (Addr × Obj)) (τ : L2.St) (H : Hp) (cls : Value) (d : Option Addr),
    u = .ref a ∧ L2.Inv X pins τ H sI ∧ (∀ b o, sI.heap.get? b = some o → b ∉ frs X.stack → B.get? b = some o) ∧ sI.heap.UpToSlots s'.heap ∧
      Sky B X.stack a (Zf n cls d) X.env.locals s'.heap ∧ H a = none ∧ s'.os = sI.os ∧ AllBare s'.gens ∧ W cls d τ H
def CXf (n : Bool) (P : Program) (w : World) (outer : List Env) (H : Hp) (s : Shared) (E : XK) (u : Value) (s' : Shared) : Prop :=
  ∃ (a : Addr) (B : Heap) (H' : Hp) (cls : Value) (d : Option Addr), u = .ref a ∧ HandSPX.FlyingZ B outer a (Zf n cls d) s'.heap ∧ HOk P w H' B ∧ UB (frs outer) H H' s.heap B s'.heap ∧ H' a = none ∧ s'.os = s.os ∧ AllBare s'.gens ∧ E cls d H'
section
variable {n : Bool} {X : Cx} {pins : List (Addr × Obj)} {τ : L2.St} {H : Hp} {s s' : Shared} {W : WX} {E : XK} {u : Value}
theorem XEf.imp {W' : WX} (h : ∀ c d τ H, W' c d τ H → W c d τ H) (x : XEf n X W' u s') : XEf n X W u s' := by
  obtain ⟨a, B, sI, pn, τ, H, cls, d, e, I, nb, up, sky, na, os, ag, w⟩ := x
  exact ⟨a, B, sI, pn, τ, H, cls, d, e, I, nb, up, sky, na, os, ag, h _ _ _ _ w⟩
theorem XEf.of_call (I : L2.Inv X pins τ H s) (hW : ∀ cls d H', E cls d H' → W cls d τ H') (c : CXf n X.prog X.w X.stack H s E u s') : XEf n X W u s' := by
  cases n with
  | true => exact L2N.XE.of_call I hW c
  | false => exact L2.XE.of_call I hW c
theorem XEf.leave (hs : X.stack = X.env :: X.outer) (hf : X.env.frame = some X.env.locals) (hex : X.ex = []) {E₁ : Value → Shared → Prop} (hW : ∀ cls d τ H, W cls d τ H → E cls d H) (x : XEf n X W u s') :
    wpAny (model X.prog X.w) X.A (leaving X.env u) (fun _ s'' => CXf n X.prog X.w X.outer X.H_0 X.s_0 E u s'') E₁ s' := by
  cases n with
  | true => exact L2N.XE.leave hs hf hex hW x
  | false => exact L2.XE.leave hs hf hex hW x
theorem CXf.kp {P : Program} {w : World} {outer : List Env} (c : CXf n P w outer H s E u s') : CXf n P w outer H s (fun cls d H' => E cls d H' ∧ Kp H H') u s' := by
  obtain ⟨a, B, H', cls, d, e, fl, hok, ub, na, os, ag, hE⟩ := c
  exact ⟨a, B, H', cls, d, e, fl, hok, ub, na, os, ag, hE, fun b => ⟨fun xs q => ub.tups b xs q, fun o z q => ub.frzs b o z q⟩⟩
end
/-- an exception, its class and its dict -/
def RX (R : RC) (H : Hp) (x : XV) (cls : Value) (d : Option Addr) : Prop := cls = R.xcl x.c ∧ ∃ fsr : List (Str × V), ((fsr = [] ∧ d = none) ∨ ∃ dd od, d = some dd ∧ H dd = some (.frz od (.xd fsr))) ∧ fsr.map (·.1) = x.ns.map nm ∧ RVs R H x.ws (fsr.map (·.2))
theorem RX.kp {R : RC} {H H1 : Hp} {x : XV} {cls : Value} {d : Option Addr} (f : Kp H H1) (h : RX R H x cls d) : RX R H1 x cls d := by
  obtain ⟨h1, fsr, h2, h3, h4⟩ := h
  exact ⟨h1, fsr, h2.imp id fun ⟨dd, od, e, q⟩ => ⟨dd, od, e, (f dd).2 _ _ q⟩, h3, RVs.kp f _ _ h4⟩
/-- what is wished of an exception -/
def XW (R : RC) (Kx : KXS) (n : Bool) : WX := fun cls d τ H => ∃ x σ S, Kx x σ S ∧ x.n = n ∧ RS R H σ τ ∧ Sim R S H ∧ RX R H x cls d
/-- the context takes what is wished -/
def TK (R : RC) (X : Cx) (Kx : KXS) : Prop := ∀ n u s', XEf n X (XW R Kx n) u s' → X.xe u s'
theorem TK.no {R : RC} {X : Cx} : TK R X noX := fun n u s' x => by
  obtain ⟨_, _, _, _, _, _, _, _, _, _, _, _, _, _, _, _, _, _, _, w, _⟩ := x
  exact w.elim
/-- behind a call that let an exception out -/
def CXw (R : RC) (P : Program) (w : World) (En : KX) : CXT := fun outer H s _ u s' => ∃ n, CXf n P w outer H s (fun cls d H' => ∃ x S, En x S ∧ x.n = n ∧ Sim R S H' ∧ RX R H' x cls d) u s'
theorem CXw.no {R : RC} {P : Program} {w : World} {outer : List Env} {H : Hp} {s s' : Shared} {E : XK} {u : Value} (c : CXw R P w (fun _ _ => False) outer H s E u s') : False := by
  obtain ⟨n, a, B, H', cls, d, e, fl, hok, ub, na, os, ag, x, S, q, _⟩ := c
  exact q
section
variable {R : RC} {X : Cx} {Kx : KXS} {pins : List (Addr × Obj)} {τ : L2.St} {σ : Sl} {S : Sto} {H : Hp} {s s' : Shared} {E : XK} {u : Value}
theorem xe_call (tk : TK R X Kx) (I : L2.Inv X pins τ H s) (hσ : RS R H σ τ) (c : CXw R X.prog X.w (fun x S' => Kx x σ S') X.stack H s E u s') : X.xe u s' := by
  obtain ⟨n, c⟩ := c
  refine tk n u s' (XEf.of_call I (fun cls d H' h => ?_) c.kp)
  obtain ⟨⟨x, S', h1, h2, h3, h4⟩, kp⟩ := h
  exact ⟨x, σ, S', h1, h2, ⟨hσ.len, fun i w e => let ⟨v, q, r⟩ := hσ.at_ i w e; ⟨v, q, RV.kp kp _ _ r⟩, hσ.an.trans kp⟩, h3, h4⟩
/-- a def's own -/
theorem tk_def {w0 : World} {P : Program} {En : KX} (hs : X.stack = X.env :: X.outer) (hf : X.env.frame = some X.env.locals) (hex : X.ex = []) {E₁ : Value → Shared → Prop}
    (hx : X.xe = fun e s' => wpAny (model X.prog X.w) X.A (leaving X.env e) (fun _ s'' => CXw R X.prog X.w En X.outer X.H_0 X.s_0 E e s'') E₁ s') : TK R X (fun x _ S1 => ∃ S2, Ext S2 S1 ∧ En x S2) := fun n u s' x => by
  rw [hx]
  refine wpAny_mono (XEf.leave (E := fun cls d H' => ∃ x S, En x S ∧ x.n = n ∧ Sim R S H' ∧ RX R H' x cls d) hs hf hex (fun cls d τ H h => ?_) x) (fun _ s2 q => ⟨n, q⟩) fun _ _ q => q
  obtain ⟨x, σ, S, ⟨S2, e, q⟩, h2, _, hS, h4⟩ := h
  exact ⟨x, S2, q, h2, Sim.ext e hS, h4⟩
end
/-! ### raise -/
section
variable {R : RC} {G : Gm} {X : Cx} {Kx : KXS}
open L2H
/-- an own exception class without its own __init__ -/
structure X0F (K : PySem.W.Frag) (C : Addr) : Prop where
  ex : ∃ B nid iid bB, ExcBaseFacts B nid iid bB ∧ PySem.W.excIn K C bB nid = true
  kC : PySem.W.keepIn K (.ref C) = true
  exC : PySem.W.subIn K (.ref C) (.type "BaseException") = some true
  tyC : PySem.W.typeIn K (.ref C) = some (.type "type")
theorem pmk_x0 {C : Addr} {x : Str} {e : Expr} {ta : TE} {p pos : Pos} (T : X0F X.K C) (hg : Gl X x) (hm : X.mg x = some (.ref C)) (hdb : (x == ("__debug__" : Str)) = false) (he : PE X e ta) (hs : starEach [e] X.env = [(false, eval e X.env)]) :
    PMk5 X (.Call (.Name x p) [e] [] pos) (fun τ H Q => ta τ H fun _ H1 => Q (.ref C) none H1) := by
  intro pins s τ H Q I h
  obtain ⟨B, nid, iid, bB, F, q⟩ := T.ex
  refine wpAny_Call_Name_kw (ld_glob I hg hm ?_ hdb)
  have hs2 : starEach [e] X.env = (false, eval e X.env) :: starEach [] X.env := hs
  have pa : PA X [e] _ := pa_cons he pa_nil hs2
  refine PySem.W.callWith_K (h₀ := X.base) I.ok.mod.kin T.kC (thn (pa.run pos pins s τ H (fun vs H1 => match vs with
    | [v] => Q (.ref C) none H1
    | _ => False) I h) fun us s1 ⟨vs, H1, I1, r1, q1⟩ => ⟨I1.kIn, ?_⟩) hs2 (by rfl)
  cases r1 with
  | nil => exact q1.elim
  | @cons v u0 _ ur ra rb =>
    cases rb with
    | cons _ _ => exact q1.elim
    | nil =>
      show wpAny _ _ (call (.ref C) [u0]) _ _ _
      obtain ⟨bm, N, nm, qn, bs, hdct, sn, su, ab, co, dd, k0, k1, k2, k3, k5, mN, hC, hN, hni, OT⟩ := exc_obj I1.kIn q
      refine wpAny_call_exc_subT F OT hC hN hni (fun h' e hm => ?_) (by show 1 ≤ sizeLine; rw [sizeLine_eq]; omega)
      exact mk_of5 I1 hm (raises_own T.exC T.tyC) q1 (I1.hok.gone hm.new)
/-- an exception of the class c is made of one value -/
theorem pmk_any (c : Nat) (n : Bool) {x : Str} {e : Expr} {te : TE'} {p pos : Pos} (hv : G.xi c ≠ none) (h0 : ∀ f, G.xi c = some (some f) → ∃ C g, R.xcl c = .ref C ∧ XiF X.K X.mg C g (nm f)) (h1 : G.xi c = some none → ∃ C, R.xcl c = .ref C ∧ X0F X.K C) (hg : Gl X x) (hm : X.mg x = some (R.xcl c)) (hdb : (x == ("__debug__" : Str)) = false) (dp : X.A.depth + 4 < recursionLimit) (he : PE X e (LE R te)) (hs : starEach [e] X.env = [(false, eval e X.env)]) :
    PMk5 X (.Call (.Name x p) [e] [] pos) (fun τ H Q => ∃ σ S Qw, RS R H σ τ ∧ Sim R S H ∧ te σ S Qw ∧ ∀ w S1 H1, Qw w S1 → Sim R S1 H1 → RS R H1 σ τ → rsW G c n w fun x => ∀ cls d H', RX R H' x cls d → Sim R S1 H' → Kp H1 H' → Q cls d H') := by
  cases hi : G.xi c with
  | none => exact absurd hi hv
  | some o =>
    cases o with
    | none =>
      obtain ⟨C, e1, T⟩ := h1 hi
      rw [e1] at hm
      intro pins s τ H Q I h
      obtain ⟨σ, S, Qw, hσ, hS, h, k⟩ := h
      refine pmk_x0 T hg hm hdb he hs pins s τ H Q I (LE.go hσ hS h fun w S1 v H1 q1 r1 hS1 f1 hσ1 => ?_)
      have q2 := k w S1 H1 q1 hS1 hσ1
      unfold rsW at q2
      rw [hi] at q2
      exact q2 (.ref C) none H1 ⟨e1.symm, [], .inl ⟨rfl, rfl⟩, rfl, rfl⟩ hS1 (Kp.refl _)
    | some f =>
      obtain ⟨C, g, e1, T⟩ := h0 f hi
      rw [e1] at hm
      intro pins s τ H Q I h
      obtain ⟨σ, S, Qw, hσ, hS, h, k⟩ := h
      refine pmk_ox T hg hm hdb dp he hs pins s τ H Q I (LE.go hσ hS h fun w S1 v H1 q1 r1 hS1 f1 hσ1 dx od hd => ?_)
      have q2 := k w S1 H1 q1 hS1 hσ1
      unfold rsW at q2
      rw [hi] at q2
      have kp := kp_new (u := .frz od (.xd [(nm f, v)])) hd
      exact q2 (.ref C) (some dx) _ ⟨e1.symm, [(nm f, v)], .inr ⟨dx, od, rfl, upd_same⟩, rfl, .one (RV.kp kp _ _ r1)⟩ (hS1.hid hd).1 kp
theorem rsW_mono {c : Nat} {n : Bool} {w : W} {k k' : XV → Prop} (h : ∀ x, x.n = n → k x → k' x) (q : rsW G c n w k) : rsW G c n w k' := by
  unfold rsW at q ⊢
  cases hi : G.xi c with
  | none => rw [hi] at q; exact q
  | some o =>
    rw [hi] at q
    cases o with
    | none => exact h _ rfl q
    | some f => exact h _ rfl q
/-- raise C(e) -/
theorem s_raise (c : Nat) {x : Str} {e : Expr} {te : TE'} {p pos pos2 : Pos} (tk : TK R X Kx) (hc : X.calm = true) (hv : G.xi c ≠ none) (h0 : ∀ f, G.xi c = some (some f) → ∃ C g, R.xcl c = .ref C ∧ XiF X.K X.mg C g (nm f)) (h1 : G.xi c = some none → ∃ C, R.xcl c = .ref C ∧ X0F X.K C) (hg : Gl X x) (hm : X.mg x = some (R.xcl c)) (hdb : (x == ("__debug__" : Str)) = false) (dp : X.A.depth + 4 < recursionLimit) (he : PE X e (LE R te)) (hs : starEach [e] X.env = [(false, eval e X.env)]) :
    PS X (.Raise (some (.Call (.Name x p) [e] [] pos)) none pos2) (LS R (fun _ σ S => te σ S fun w S1 => rsW G c true w fun x => Kx x σ S1)) := by
  refine PS.imp (L2N.ps_raise (W := XW R Kx true) hc (fun u s' x => tk true u s' x) (pmk_any c true hv h0 h1 hg hm hdb dp he hs).pmk) fun D τ H h => ?_
  obtain ⟨σ, S, Dw, hσ, hS, h, k⟩ := h
  exact ⟨σ, S, _, hσ, hS, h, fun w S1 H1 q hS1 hσ1 => rsW_mono (fun y hn q cls d H' rx hS' kp => ⟨y, σ, S1, q, hn, RS.kp kp hσ1, hS', rx⟩) q⟩
end
end MP
/-! MPX3: what a try's clauses need: heaps cut, names gone, a caught exception told. -/
namespace MP
open PySem L2 PyProof.Rows
section
variable {X : Cx} {pins : List (Addr × Obj)} {τ τ2 : L2.St} {H : Hp} {s sI s2 : Shared}
/-- only what stood at sI -/
theorem Inv.cut (J : L2.Inv X pins τ H sI) (J2 : L2.Inv X pins τ2 H s2) (hex : X.ex = []) :
    ∃ G : Heap, (∀ b o, sI.heap.get? b = some o → G.get? b = s2.heap.get? b) ∧ (∀ b, sI.heap.get? b = none → G.get? b = none) ∧ (∀ b o, G.get? b = some o → s2.heap.get? b = some o) ∧ L2.Inv X pins τ2 H { s2 with heap := G } := by
  obtain ⟨G, g1, g2⟩ := restrict s2.heap fun b => (sI.heap.get? b).isSome
  have k1 : ∀ b o, sI.heap.get? b = some o → G.get? b = s2.heap.get? b := fun b o e => g1 b (by rw [e]; rfl)
  have k2 : ∀ b, sI.heap.get? b = none → G.get? b = none := fun b e => g2 b (by rw [e]; rfl)
  have k3 : ∀ b o, G.get? b = some o → s2.heap.get? b = some o := fun b o e => by
    cases q : sI.heap.get? b with
    | none => rw [k2 b q] at e; cases e
    | some u => rw [k1 b u q] at e; exact e
  have nx : ∀ b, b ∉ X.ex := fun b hb => by rw [hex] at hb; cases hb
  have s0 : ∀ b o, X.s_0.heap.get? b = some o → G.get? b = s2.heap.get? b := fun b o e => by
    obtain ⟨o', q⟩ := J.base.there b o e (nx b)
    exact k1 b o' q
  have tr : ∀ b u, H b = some u → G.get? b = s2.heap.get? b := fun b u e => by
    obtain ⟨o, q⟩ := objOk_get (J.hok b u e)
    exact k1 b o q
  refine ⟨G, k1, k2, k3, ⟨J2.ok, J2.os, J2.bare, ⟨fun b o e n hb hx => ?_, fun b o e n hb hx => ?_, J2.base.free, fun b o e hx => ?_, J2.base.tups, J2.base.frzs, J2.base.tbls⟩, ?_, fun x c e => ?_, J2.free, J2.freeC, fun p hp => ?_, fun b u e => ?_, J2.len⟩⟩
  · rw [s0 b o e]; exact J2.base.keep b o e n hb hx
  · obtain ⟨sl, q⟩ := J2.base.slot b o e n hb hx
    exact ⟨sl, by rw [s0 b o e]; exact q⟩
  · obtain ⟨o', q⟩ := J2.base.there b o e hx
    exact ⟨o', by rw [s0 b o e]; exact q⟩
  · obtain ⟨m, ⟨o, es, ep, ho, r⟩, hl⟩ := J2.loc
    obtain ⟨m0, ⟨o0, _, _, ho0, _⟩, _⟩ := J.loc
    refine ⟨m, ⟨o, es, ep, by rw [k1 _ _ ho0]; exact ho, r⟩, fun i x v e1 e2 e3 => ?_⟩
    obtain ⟨u, r', l⟩ := hl i x v e1 e2 e3
    refine ⟨u, r', ?_⟩
    rcases l with l | ⟨k, c, ec, o1, z1, z2⟩
    · exact .inl l
    · obtain ⟨v0, o2, y1, _⟩ := J.cell x c ec
      exact .inr ⟨k, c, ec, o1, by rw [k1 _ _ y1]; exact z1, z2⟩
  · obtain ⟨v, o1, z1, z2⟩ := J2.cell x c e
    obtain ⟨v0, o2, y1, _⟩ := J.cell x c e
    exact ⟨v, o1, by rw [k1 _ _ y1]; exact z1, z2⟩
  · obtain ⟨e, q⟩ := J2.pin p hp
    obtain ⟨e0, _⟩ := J.pin p hp
    exact ⟨by rw [k1 _ _ e0]; exact e, q⟩
  · exact (J2.hok b u e).stay (fun c v hc q => by
      rcases hc with rfl | hc
      · rw [tr _ u e]; exact q
      · rw [tr c _ hc]; exact q) (fun c q => q) fun c xs q => q
/-- a name goes: what is told, and that nothing else changes -/
theorem gone2 {M : Model} {A : Around} {E : Value → Shared → Prop} {i : Nat} {n : Str} {pos : Pos} {Q : Unit → Shared → Prop} (I : L2.Inv X pins τ H s) (hN : X.N.Nodup) (hi : X.N[i]? = some n) (hl : X.env.kindOf n = some .local)
    (k : ∀ h', L2.Inv X pins (τ.set i none) H { s with heap := h', toks := s.toks + 1 } → Heap.SameBut X.env.locals s.heap h' → (∃ m, h'.Ns X.env.locals m) → Q () { s with heap := h', toks := s.toks + 1 }) :
    wpAny M A (do bindName X.env n .none; unbindBehindTheSuite X.env n pos) Q E s := by
  obtain ⟨m, hn, hlk⟩ := id I.loc
  have hcls : (X.env.scope.kind == .class || (X.env.scope.kind == .module && X.env.locals != X.env.globals)) = false := by rw [I.ok.kind]; rfl
  refine wpAny_nameGoes_keeps hl hn hcls fun h' v hn' hs => k h' ?_ hs ⟨_, hn'⟩
  have neL : ∀ {b o}, X.s_0.heap.get? b = some o → b ≠ X.env.locals := fun {b o} e => Nat.ne_of_lt (Nat.lt_of_lt_of_le (Heap.lt_size e) I.ok.above)
  refine ⟨I.ok, I.os, I.bare, ⟨fun b o e n hb hx => (hs.2 b (neL e)).trans (I.base.keep b o e n hb hx), fun b o e n hb hx => ?_, I.base.free, fun b o e hx => ?_, I.base.tups, I.base.frzs, I.base.tbls⟩, ⟨_, hn', fun j y v' e1 e2 e3 => ?_⟩, fun y c e => ?_, I.free, I.freeC, fun p hp => ?_, fun b ob e => ?_, by simpa using I.len⟩
  · obtain ⟨sl, e1⟩ := I.base.slot b o e n hb hx
    exact ⟨sl, (hs.2 b (neL e)).trans e1⟩
  · obtain ⟨o', e1⟩ := I.base.there b o e hx
    exact ⟨o', (hs.2 b (neL e)).trans e1⟩
  · have hj : j ≠ i := fun z => by
      subst z
      by_cases hlt : j < τ.length
      · rw [List.getElem?_set_self hlt] at e2; cases e2
      · rw [List.getElem?_eq_none (by simpa using hlt)] at e2; cases e2
    rw [List.getElem?_set_ne (Ne.symm hj)] at e2
    obtain ⟨u', r', q⟩ := hlk j y v' e1 e2 e3
    refine ⟨u', r', ?_⟩
    rcases q with ⟨k, e⟩ | ⟨k, c, e, z⟩
    · exact .inl ⟨k, (if_neg (fun z : y = n => hj (nodup_ix hN e1 (by rw [z]; exact hi)))).trans e⟩
    · exact .inr ⟨k, c, e, z.sameBut hs (I.cne y c e)⟩
  · obtain ⟨w', z⟩ := I.cell y c e
    exact ⟨w', z.sameBut hs (I.cne y c e)⟩
  · obtain ⟨e, n, ne, nf, d⟩ := I.pin p hp
    exact ⟨(hs.2 p.1 ne).trans e, n, ne, nf, d⟩
  · refine (I.hok b ob e).stay (fun c w' hc q => (hs.2 c ?_).trans q) (fun _ q => q) fun _ _ q => q
    intro z
    subst z
    rcases hc with hc | hc
    · rw [← hc, I.free] at e; cases e
    · rw [I.free] at hc; cases hc
/-- a caught exception is told as one that is read only -/
theorem Inv.told {a : Addr} {oe : Obj} {vs : Array Value} (J : L2.Inv X pins τ H sI) (hex : X.ex = []) (hn : sI.heap.get? a = none) (na : H a = none) (J2 : L2.Inv X pins τ H s2) (he : s2.heap.get? a = some oe) (hd : oe.data = .fields vs) (nL : a ≠ X.env.locals) :
    L2.Inv X pins τ (upd H a (.frz oe XO)) s2 := by
  have nx : ∀ b, b ∉ X.ex := fun b hb => by rw [hex] at hb; cases hb
  have n0 : ∀ b o, X.s_0.heap.get? b = some o → b ≠ a := fun b o e z => by
    obtain ⟨o', q⟩ := J.base.there b o e (nx b)
    rw [z, hn] at q; cases q
  refine ⟨J2.ok, J2.os, J2.bare, ⟨J2.base.keep, J2.base.slot, fun b o e n hx => ?_, J2.base.there, fun b xs e => ?_, fun b o v e => ?_, fun b ps e => ?_⟩, J2.loc, J2.cell, ?_, fun x c e => ?_, fun p hp => ?_, fun b u e => ?_, J2.len⟩
  · rw [upd_ne (n0 b o e)]; exact J2.base.free b o e n hx
  · have q := J2.base.tups b xs e
    rw [upd_ne (ne_of_none q na)]; exact q
  · have q := J2.base.frzs b o v e
    rw [upd_ne (ne_of_none q na)]; exact q
  · obtain ⟨m, q⟩ := J2.base.tbls b ps e
    exact ⟨m, by rw [upd_ne (ne_of_none q na)]; exact q⟩
  · rw [upd_ne (Ne.symm nL)]; exact J2.free
  · have q := J2.freeC x c e
    obtain ⟨v, o, z1, z2⟩ := J2.cell x c e
    rw [upd_ne fun z => by rw [z, he] at z1; cases z1; rw [hd] at z2; cases z2]
    exact q
  · obtain ⟨e0, _⟩ := J.pin p hp
    obtain ⟨e, n, ne, nf, d⟩ := J2.pin p hp
    exact ⟨e, by rw [upd_ne fun z => by rw [z, hn] at e0; cases e0]; exact n, ne, nf, d⟩
  · by_cases hb : b = a
    · subst hb
      rw [upd_same] at e
      cases e
      exact ⟨he, trivial, ⟨oe, he⟩, fun _ _ _ _ => trivial⟩
    · rw [upd_ne hb] at e
      exact (J2.hok b u e).stay (fun c v _ q => q) (fun c q => by rw [upd_ne (ne_of_none q na)]; exact q) fun c xs q => by rw [upd_ne (ne_of_none q na)]; exact q
end
/-! ### heaps that grow, names that go, under an exception -/
section
variable {B h h' : Heap} {l : List Env} {a L : Addr} {Z : Obj → Prop} {fl : Value}
theorem traced_keeps (k : ∀ b o, h.get? b = some o → h'.get? b = some o) (x : HandSPX.TracedZ h B a Z fl) : HandSPX.TracedZ h' B a Z fl := by
  obtain ⟨oe, vs, T, oT, ts, he, hz, hd, h1, hnT, hTe, hT, hdT, h3⟩ := x
  exact ⟨oe, vs, T, oT, ts, k _ _ he, hz, hd, h1, hnT, hTe, k _ _ hT, hdT, h3⟩
theorem flying_keeps (k : ∀ b o, h.get? b = some o → h'.get? b = some o) (x : HandSPX.FlyingZ B l a Z h) : HandSPX.FlyingZ B l a Z h' := by
  obtain ⟨x1, x2, x3, x4⟩ := x
  exact ⟨fun b o e => k b o (x1 b o e), x2, Heap.FunFrames.of_keeps (fun b o e _ => ⟨o, k b o e, rfl⟩) x3, traced_keeps k x4⟩
theorem traced_sameBut {m : Str → Option Value} (hn : h.Ns L m) (hs : Heap.SameBut L h h') (x : HandSPX.TracedZ h B a Z fl) : HandSPX.TracedZ h' B a Z fl := by
  obtain ⟨oe, vs, T, oT, ts, he, hz, hd, h1, hnT, hTe, hT, hdT, h3⟩ := x
  obtain ⟨oL, es, ep, hoL, hdL, _⟩ := hn
  have neA : a ≠ L := fun q => by
    rw [q, hoL] at he
    cases he
    rw [hdL] at hd; cases hd
  have neT : T ≠ L := fun q => by
    rw [q, hoL] at hT
    cases hT
    rw [hdL] at hdT; cases hdT
  exact ⟨oe, vs, T, oT, ts, (hs.2 a neA).trans he, hz, hd, h1, hnT, hTe, (hs.2 T neT).trans hT, hdT, h3⟩
theorem held_sameBut {env : Env} {m m' : Str → Option Value} (hf : env.frame = some L) (hn : h.Ns L m) (hs : Heap.SameBut L h h') (hn' : h'.Ns L m') {L2 : Addr} (x : HandSPX.HeldZ B (env :: l) a Z L2 h) : HandSPX.HeldZ B (env :: l) a Z L2 h' := by
  obtain ⟨x1, x2, x3, x4⟩ := x
  have bL : B.get? L = none := by
    obtain ⟨_, ⟨L', o, hf', hb, _, _⟩, _⟩ := x3
    rw [hf] at hf'
    cases hf'
    exact hb
  exact ⟨fun b o e => (hs.2 b fun z => by rw [z, bL] at e; cases e).trans (x1 b o e), x2, Heap.FunFrames.sameBut hs hn' x3, traced_sameBut hn hs x4⟩
end
end MP
/-! MPX4: raise .. from e, in the clause that caught e. -/
namespace MP
open PySem L2 PyProof.Rows HotX L2H
/-- the heap behind «from e» -/
def frmH (h : Heap) (a x1 : Addr) : Heap := (h.update a (Obj.mapFields (·.setIfInBounds 3 (.ref x1)))).update a (Obj.mapFields (·.setIfInBounds 4 (.bool true)))
theorem frmH_at {h : Heap} {a x1 : Addr} {oe : Obj} {vs : Array Value} (ha : h.get? a = some oe) (hd : oe.data = .fields vs) :
    (frmH h a x1).get? a = some ((oe.mapFields (·.setIfInBounds 3 (.ref x1))).mapFields (·.setIfInBounds 4 (.bool true))) ∧ ((oe.mapFields (·.setIfInBounds 3 (.ref x1))).mapFields (·.setIfInBounds 4 (.bool true))).data = .fields ((vs.setIfInBounds 3 (.ref x1)).setIfInBounds 4 (.bool true)) := by
  have d3 := Obj.data_mapFields hd (·.setIfInBounds 3 (.ref x1))
  have a3 := Heap.get?_update_self (Obj.mapFields (·.setIfInBounds 3 (.ref x1))) ha (Obj.isFreed_of_fields d3)
  have d4 := Obj.data_mapFields d3 (·.setIfInBounds 4 (.bool true))
  exact ⟨Heap.get?_update_self (Obj.mapFields (·.setIfInBounds 4 (.bool true))) a3 (Obj.isFreed_of_fields d4), d4⟩
theorem frmH_ne {h : Heap} {a b x1 : Addr} (ne : a ≠ b) : (frmH h a x1).get? b = h.get? b := by
  unfold frmH
  rw [Heap.get?_update_other _ _ ne, Heap.get?_update_other _ _ ne]
section
variable {prog : Program} {w : World} {A : Around} {E : Value → Shared → Prop} {env : Env} {s : Shared}
theorem raise_hotF {x c : Sem Value} {Q : Flow → Shared → Prop} {x1 : Addr}
    (h : wpAny (model prog w) A x (fun v s₁ => ∃ a oe vs cls, v = .ref a ∧ s₁.heap.get? a = some oe ∧ oe.cls = cls ∧ oe.data = .fields vs ∧ vs[1]? = some .none ∧ 4 < vs.size ∧ x1 ≠ a ∧ HotAt A x1 s₁.heap ∧
      (∀ Q' : Value → Shared → Prop, Q' (.ref x1) s₁ → wpAny (model prog w) A c Q' E s₁) ∧ PySem.W.Looks (model prog w) s₁.heap (isInstance (.ref x1) (.type "BaseException")) true ∧
      PySem.W.Looks (model prog w) s₁.heap (isSubtype cls (.type "BaseException")) true ∧ PySem.W.Looks (model prog w) (frmH s₁.heap a x1) (typeOf cls) (.type "type") ∧
      E (.ref a) { s₁ with heap := (frmH s₁.heap a x1).update a (Obj.mapFields (·.setIfInBounds 2 (.ref x1))) }) E s) :
    wpAny (model prog w) A (raiseStmt env (some x) (some c)) Q E s := by
  unfold raiseStmt
  dsimp only
  refine wpAny_bind (wpAny_mono h (fun v s₁ h₁ => ?_) fun _ _ z => z)
  obtain ⟨a, oe, vs, cls, rfl, ha, hcls, hd, h1, hi, hne, hot, hc, L0, L1, L3, hE⟩ := h₁
  have LT : PySem.W.Looks (model prog w) s₁.heap (typeOf (.ref a)) cls := fun A Q E s k q => wpAny_typeOf_ref (k _ _ ha) (by rw [hcls]; exact q)
  have LI : PySem.W.Looks (model prog w) s₁.heap (isInstance (.ref a) (.type "BaseException")) true := LT.andThen L1
  have noT : ∀ {b : Addr} {ob : Obj} {ws : Array Value} {s2 : Shared} {Q' : Bool → Shared → Prop}, s2.heap.get? b = some ob → ob.data = .fields ws → Q' false s2 → wpAny (model prog w) A (isType (.ref b)) Q' E s2 := fun {b ob ws s2 Q'} e d q => by
    simp only [isType, loadHead]
    refine wpAny_bind (wpAny_loadPart e ?_)
    rw [d]; exact wpAny_pure q
  obtain ⟨qh, o1, vs1, q1, q2, q3⟩ := id hot
  have d3 := Obj.data_mapFields hd (·.setIfInBounds 3 (.ref x1))
  have a3 := Heap.get?_update_self (Obj.mapFields (·.setIfInBounds 3 (.ref x1))) ha (Obj.isFreed_of_fields d3)
  obtain ⟨a4, d4⟩ := frmH_at (x1 := x1) ha hd
  have sz : ∀ {ws : Array Value} {j : Nat} {y : Value}, (ws.setIfInBounds j y).size = ws.size := fun {ws j y} => by simp
  have so : ∀ {ws : Array Value} {i j : Nat} {y z : Value}, i ≠ j → ws[j]? = some z → (ws.setIfInBounds i y)[j]? = some z := fun {ws i j y z} n q => by
    have e : (ws.setIfInBounds i y)[j]? = ws[j]? := by
      first
      | exact Array.getElem?_setIfInBounds_ne n
      | simp [Array.getElem?_setIfInBounds, n]
    rw [e]; exact q
  have s3 : 3 < vs.size := by omega
  have s4 : 4 < (vs.setIfInBounds 3 (Value.ref x1)).size := by rw [sz]; exact hi
  have s2 : 2 < ((vs.setIfInBounds 3 (Value.ref x1)).setIfInBounds 4 (Value.bool true)).size := by rw [sz, sz]; omega
  have h14 : ((vs.setIfInBounds 3 (Value.ref x1)).setIfInBounds 4 (Value.bool true))[1]? = some Value.none := so (by decide) (so (by decide) h1)
  have hcls4 : ((oe.mapFields (·.setIfInBounds 3 (.ref x1))).mapFields (·.setIfInBounds 4 (.bool true))).cls = cls := by rw [Obj.cls_mapFields, Obj.cls_mapFields]; exact hcls
  have LT4 : PySem.W.Looks (model prog w) (frmH s₁.heap a x1) (typeOf (.ref a)) cls := fun A Q E s k q => wpAny_typeOf_ref (k _ _ a4) (by rw [hcls4]; exact q)
  have hot4 : HotAt A x1 (frmH s₁.heap a x1) := ⟨qh, o1, vs1, by rw [frmH_ne (Ne.symm hne)]; exact q1, q2, q3⟩
  have rest : wpAny (model prog w) A (do
      let b ← isType (.ref a)
      if b = true then do
        let e ← holding [.ref a] (raisedFor (.ref a) (.ref a))
        setFlight e none
        raiseNew e
      else do
        let e ← raisedInstance (.ref a)
        setFlight e none
        raiseNew e : Sem Flow) Q E { s₁ with heap := frmH s₁.heap a x1 } := by
    refine wpAny_bind (noT (s2 := { s₁ with heap := frmH s₁.heap a x1 }) a4 d4 ?_)
    simp only [Bool.false_eq_true, if_false]
    unfold raisedInstance
    refine wpAny_bind (wpAny_bind (LT4.here (wpAny_bind (L3.here ?_))))
    rw [if_pos (beq_self_eq_true _)]
    refine wpAny_pure ?_
    unfold setFlight
    refine wpAny_bind (wpAny_bind (wpAny_field a4 d4 h14 ?_))
    rw [if_neg (by decide)]
    refine wpAny_pure ?_
    exact raiseNew_hot hot4 hne a4 d4 s2 hE
  refine wpAny_bind (wpAny_holding (hc _ (wpAny_bind (wpAny_pure ?_))))
  dsimp only
  refine wpAny_bind (wpAny_holding ?_)
  unfold excFromValue isExcClass
  refine wpAny_bind (wpAny_bind (noT ha hd ?_))
  simp only [Bool.false_eq_true, if_false]
  refine wpAny_pure ?_
  simp only [Bool.false_eq_true, if_false]
  refine wpAny_bind (LI.here ?_)
  simp only [if_true]
  refine wpAny_pure ?_
  rw [if_neg (show ¬ ((Value.ref x1 == Value.none) = true) from by simp)]
  refine wpAny_bind (wpAny_holding ?_)
  refine wpAny_bind (wpAny_bind (noT q1 q2 ?_))
  simp only [Bool.false_eq_true, if_false]
  refine wpAny_pure ?_
  simp only [Bool.false_eq_true, if_false]
  refine wpAny_bind (L0.here ?_)
  simp only [if_true]
  refine wpAny_pure ?_
  refine wpAny_bind (wpAny_setField ha hd s3 (wpAny_bind (wpAny_setField (s := { s₁ with heap := s₁.heap.update a (Obj.mapFields (·.setIfInBounds 3 (Value.ref x1))) }) a3 d3 s4 ?_)))
  exact rest
end
/-- raise C(..) from n, where n is the exception that is handled -/
theorem ps_rf {X : Cx} {W : WX} {e : Expr} {t : L2.St → Hp → XK → Prop} {i : Nat} {n : Str} {cp pos : Pos} {p : Addr × Obj} {v1 : Array Value} (hh : X.A.handled = some (.ref p.1)) (hp : p ∈ X.pn) (e1 : p.2.data = .fields v1) (c1 : v1[2]? = some .none) (hB : PySem.W.subIn X.K p.2.cls (.type "BaseException") = some true)
    (tk : ∀ u s', XEf false X W u s' → X.xe u s') (he : PMk5 X e t) (hN : X.N[i]? = some n) (hl : X.env.kindOf n = some .local) (hd : (n == ("__debug__" : Str)) = false) :
    PS X (.Raise (some e) (some (.Name n cp)) pos) (fun _ τ H => τ[i]? = some (some (.ref p.1)) ∧ t τ H fun cls d H' => W cls d τ H') := by
  refine ⟨fun pins s τ H D I h => ?_⟩
  obtain ⟨h0, h⟩ := h
  show wpAny _ _ (do standAt pos; raiseStmt X.env (some (do let v ← eval e X.env; standAt pos; pure v)) (some (do let v ← eval (.Name n cp) X.env; standAt pos; pure v))) _ _ _
  refine wpAny_bind (wpAny_standAt (raise_hotF (x1 := p.1) (wpAny_bind (wpAny_mono (he pins s τ H _ I h) (fun u s1 hu => wpAny_bind (wpAny_standAt (wpAny_pure ?_))) fun _ _ x => x))))
  obtain ⟨⟨a, oe, vs, sI, H', cls, d, rfl, J, k, hne, ha, hz, hdt, h1, na, os, ag, r, q⟩, h5⟩ := hu
  have hi : 4 < vs.size := h5 a oe vs rfl ha hdt
  have k4 : ∀ b u, sI.heap.get? b = some u → (frmH s1.heap a p.1).get? b = some u := fun b u z => by
    have nab : a ≠ b := fun y => by
      rw [← y, hne] at z
      cases z
    rw [frmH_ne nab]
    exact k b u z
  obtain ⟨r1, _⟩ := r (model X.prog X.w) s1.heap (J.kIn.keeps k)
  obtain ⟨_, r2⟩ := r (model X.prog X.w) (frmH s1.heap a p.1) (J.kIn.keeps k4)
  have P1 := (J.pin p (List.mem_append_left _ hp)).1
  have nap : p.1 ≠ a := fun z => by
    rw [z, hne] at P1
    cases P1
  have so : ∀ {ws : Array Value} {i j : Nat} {y z : Value}, i ≠ j → ws[j]? = some z → (ws.setIfInBounds i y)[j]? = some z := fun {ws i j y z} n q => by
    have e : (ws.setIfInBounds i y)[j]? = ws[j]? := by
      first
      | exact Array.getElem?_setIfInBounds_ne n
      | simp [Array.getElem?_setIfInBounds, n]
    rw [e]; exact q
  obtain ⟨ha4, hd4⟩ := frmH_at (x1 := p.1) ha hdt
  have h12 : (((vs.setIfInBounds 3 (Value.ref p.1)).setIfInBounds 4 (Value.bool true)).setIfInBounds 2 (Value.ref p.1))[1]? = some Value.none := so (by decide) (so (by decide) (so (by decide) h1))
  have LP : PySem.W.Looks (model X.prog X.w) s1.heap (isInstance (.ref p.1) (.type "BaseException")) true := by
    have LT : PySem.W.Looks (model X.prog X.w) s1.heap (typeOf (.ref p.1)) p.2.cls := fun A Q E s kk q => wpAny_typeOf_ref (kk _ _ (k _ _ P1)) q
    exact LT.andThen (PySem.W.looks_subIn (J.kIn.keeps k) hB)
  obtain ⟨m, hn, hlk⟩ := J.loc
  obtain ⟨u0, r0, l0⟩ := hlk i n (.ref p.1) hN h0 (.inl hl)
  have eu : u0 = Value.ref p.1 := r0
  subst eu
  have hm : m n = some (.ref p.1) := by
    rcases l0 with ⟨_, z⟩ | ⟨z, _⟩
    · exact z
    · rw [hl] at z; rcases z with z | z <;> cases z
  refine ⟨a, oe, vs, cls, rfl, ha, hz.1, hdt, h1, hi, nap, ⟨hh, p.2, v1, k _ _ P1, e1, c1⟩, fun Q' q' => ?_, LP, r1, r2, tk _ _ ?_⟩
  · exact wpAny_bind (wpAny_Name (wpAny_loadName_local J.ok.kind hl (hn.keeps k) hm (wpAny_bind (wpAny_standAt (wpAny_pure q')))) hd)
  · have z := L2.XE.new (W := W) (X := X) J (a := a) (s' := { s1 with heap := (frmH s1.heap a p.1).update a (Obj.mapFields (·.setIfInBounds 2 (.ref p.1))) }) (fun b u z => ?_) hne (Heap.get?_update_self _ ha4 (Obj.isFreed_of_fields (Obj.data_mapFields hd4 _)))
      (cls := cls) (d := d) ⟨by rw [Obj.cls_mapFields, Obj.cls_mapFields, Obj.cls_mapFields]; exact hz.1, by rw [HandSPX.dict_mapFields, HandSPX.dict_mapFields, HandSPX.dict_mapFields]; exact hz.2.1⟩ (Obj.data_mapFields hd4 _) h12 na os ag q
    · exact z
    · have nab : a ≠ b := fun y => by
        rw [← y, hne] at z
        cases z
      show ((frmH s1.heap a p.1).update a (Obj.mapFields (·.setIfInBounds 2 (.ref p.1)))).get? b = some u
      rw [Heap.get?_update_other _ _ nab]
      exact k4 b u z
end MP
/-! MPX5: what flies out of a clause that raises. -/
namespace MP
open PySem L2 PyProof.Rows
/-- noted by its frame -/
theorem sky_held {M : Model} {A : Around} {E : Value → Shared → Prop} {env : Env} {outer : List Env} {L a : Addr} {B : Heap} {Z : Obj → Prop} {s : Shared} {Q : Unit → Shared → Prop} (hZ : PXN.Steady1 Z) (hfr : A.frames = some (env :: outer)) (hf : env.frame = some L)
    (x : Sky B (env :: outer) a Z L s.heap) (k : ∀ h', HandSPX.HeldZ B (env :: outer) a Z L h' → s.heap.UpToSlots h' → Q () { s with heap := h' }) : wpAny M A (noteFrame (.ref a) env) Q E s := by
  rcases x with ⟨hB, hn, hl, oe, vs, he, hz, hd, h1⟩ | fl | hh
  · exact PXN.look_newZ hZ hfr hl hf he hB hn hd h1 hz k
  · exact PXN.looks_onZ hZ hfr hf fl k
  · exact HandSPX.againZ hf hh.2.2.2 (k s.heap hh (Heap.UpToSlots.refl _))
theorem held_field {B h : Heap} {l : List Env} {a L : Addr} {Z : Obj → Prop} (x : HandSPX.HeldZ B l a Z L h) : ∃ (oe : Obj) (vs : Array Value) (T : Addr), h.get? a = some oe ∧ oe.data = .fields vs ∧ vs[1]? = some (.ref T) := by
  obtain ⟨_, _, _, oe, vs, T, oT, ts, he, hz, hd, h1, _⟩ := x
  exact ⟨oe, vs, T, he, hd, h1⟩
section
variable {X : Cx} {pins : List (Addr × Obj)} {τ2 : L2.St} {H2 : Hp} {sI2 s' : Shared} {B2 : Heap} {a2 : Addr} {cls2 : Value} {d2 : Option Addr} {W' : WX} {i : Nat} {n : Str} {pos : Pos} {hd : Option Value} {E2 E3 : Value → Shared → Prop}
theorem rf_tail (hs : X.stack = X.env :: X.outer) (hf : X.env.frame = some X.env.locals) (hex : X.ex = []) (hN : X.N.Nodup) (hi : X.N[i]? = some n) (hl : X.env.kindOf n = some .local)
    (tk : ∀ u s', XEf false X W' u s' → X.xe u s') (J2 : L2.Inv X pins τ2 H2 sI2) (nb2 : ∀ b o, sI2.heap.get? b = some o → b ∉ frs X.stack → B2.get? b = some o) (up2 : sI2.heap.UpToSlots s'.heap) (sky2 : Sky B2 X.stack a2 (Zc cls2 d2) X.env.locals s'.heap)
    (na2 : H2 a2 = none) (os2 : s'.os = sI2.os) (ag2 : AllBare s'.gens) (w2 : W' cls2 d2 (τ2.set i none) H2) :
    wpAny (model X.prog X.w) (X.A.mark hd) (noteFrame (.ref a2) X.env) (fun _ s3 => wpAny (model X.prog X.w) (X.A.mark hd) (do bindName X.env n .none; unbindBehindTheSuite X.env n pos)
      (fun _ s4 => wpAny (model X.prog X.w) (X.A.mark hd) (passOn "try.except-as" (.ref a2) X.env : Sem Flow) (fun _ _ => False) (notedBy (model X.prog X.w) (X.A.mark hd) X.env (cameBackBy (model X.prog X.w) X.A X.env X.xe)) s4) E2 s3) E3 s' := by
  have ok := J2.ok
  have hfr : (X.A.mark hd).frames = some (X.env :: X.outer) := by
    show X.A.frames = _
    rw [ok.frames, hs]
  rw [hs] at sky2
  refine sky_held (fun o v h => Zc.steady o _ h) hfr hf sky2 fun h1 hh1 up1 => ?_
  have J3 : L2.Inv X pins τ2 H2 { s' with heap := h1 } := J2.landed nb2 hh1.1 (up2.trans up1) os2 ag2
  refine gone2 J3 hN hi hl fun h4 J4 sb4 ⟨m4, ns4⟩ => ?_
  obtain ⟨m3, ns3, _⟩ := J3.loc
  have hh4 := held_sameBut hf ns3 sb4 ns4 hh1
  obtain ⟨oe, vs, T, he, hdt, h11⟩ := held_field hh4
  unfold PySem.passOn
  refine wpAny_bind (wpAny_field he hdt h11 ?_)
  rw [if_neg (show ¬ ((Value.ref T == Value.none) = true) from by simp)]
  have fin : wpAny (model X.prog X.w) (X.A.mark hd) (do setFlight (.ref a2) X.env.frame; throw (.ref a2) : Sem Flow) (fun _ _ => False) (notedBy (model X.prog X.w) (X.A.mark hd) X.env (cameBackBy (model X.prog X.w) X.A X.env X.xe)) { s' with heap := h4, toks := s'.toks + 1 } := by
    rw [hf]
    refine wpAny_bind (HandSPX.setFlight_onZ hh4 fun h5 hh5 up5 => wpAny_throw ?_)
    refine HandSPX.againZ hf hh5.2.2.2 ?_
    obtain ⟨oe5, vs5, T5, he5, hdt5, h15⟩ := held_field hh5
    unfold cameBackBy
    refine wpAny_bind (wpAny_field he5 hdt5 h15 ?_)
    rw [if_neg (show ¬ ((Value.ref T5 == Value.none) = true) from by simp)]
    rw [hf]
    have last : ∀ h6, HandSPX.HeldZ B2 (X.env :: X.outer) a2 (Zc cls2 d2) X.env.locals h6 → h5.UpToSlots h6 → X.xe (.ref a2) { s' with heap := h6, toks := s'.toks + 1 } := fun h6 hh6 up6 => by
      obtain ⟨G, g1, g2, g3, JG⟩ := Inv.cut J2 J4 hex
      have nfrA : ∀ {b : Addr} {o : Obj} {ws : Array Value}, h6.get? b = some o → o.data = .fields ws → b ∉ frs (X.env :: X.outer) := fun {b o ws} e dd hm => by
        obtain ⟨_, o', e', hnf⟩ := hh6.2.2.1.mem hm
        rw [e] at e'; cases e'
        exact hnf _ dd
      have cutN : ∀ {b : Addr}, B2.get? b = none → b ∉ frs (X.env :: X.outer) → G.get? b = none := fun {b} e hb => by
        apply g2
        cases q : sI2.heap.get? b with
        | none => rfl
        | some o =>
          have z := nb2 b o q (by rw [hs]; exact hb)
          rw [e] at z; cases z
      obtain ⟨k1, k2, k3, oe6, vs6, T6, oT6, ts6, he6, hz6, hd6, h16, hnT6, hTe6, hT6, hdT6, h36⟩ := id hh6
      have nA := cutN k2 (nfrA he6 hd6)
      have nT := cutN hnT6 (nfrA hT6 hdT6)
      have hid : ∀ {b : Addr}, G.get? b = none → (PySem.W.hideAll G (frs X.stack)).get? b = none := fun {b} e => by
        cases q : (PySem.W.hideAll G (frs X.stack)).get? b with
        | none => rfl
        | some o =>
          have z := PySem.W.of_hideAll _ q
          rw [e] at z; cases z
      have up46 : G.UpToSlots h6 := (Heap.UpToSlots.of_keeps fun b o e => g3 b o e).trans (up5.trans up6)
      have stay : (PySem.W.hideAll G (frs X.stack)).StaysIn h6 := fun b o e => by
        have e1 := PySem.W.of_hideAll _ e
        have nb : b ∉ frs X.stack := fun hm => by
          have z : (PySem.W.hideAll G (frs X.stack)).get? b = none := PySem.W.hideAll_none _ hm
          rw [z] at e; cases e
        cases q : sI2.heap.get? b with
        | none => rw [g2 b q] at e1; cases e1
        | some o2 =>
          have z2 := nb2 b o2 q nb
          have z3 := k1 b o2 z2
          have z4 := hh4.1 b o2 z2
          rw [g1 b o2 q] at e1
          have e1' : h4.get? b = some o := e1
          rw [z4] at e1'
          cases e1'
          exact z3
      refine tk _ _ ⟨a2, PySem.W.hideAll G (frs X.stack), { s' with heap := G, toks := s'.toks + 1 }, pins, τ2.set i none, H2, cls2, d2, rfl, JG, fun b o e hb => PySem.W.hideAll_get _ e hb, up46, .inr (.inr ?_), na2, rfl, ag2, w2⟩
      rw [hs]
      have ff : h6.FunFrames (PySem.W.hideAll G (frs X.stack)) (X.env :: X.outer) := funFrames_none k3 fun b hb => PySem.W.hideAll_none _ (by rw [hs]; exact hb)
      rw [hs] at stay ff hid
      exact ⟨stay, hid nA, ff, oe6, vs6, T6, oT6, ts6, he6, hz6, hd6, h16, hid nT, hTe6, hT6, hdT6, h36⟩
    first
      | exact HandSPX.setFlight_onZ hh5 fun h6 hh6 up6 => last h6 hh6 up6
      | exact wpAny_bind (wpAny_pure (HandSPX.setFlight_onZ hh5 fun h6 hh6 up6 => last h6 hh6 up6))
  first
    | exact wpAny_bind (wpAny_pure fin)
    | exact fin
    | (refine wpAny_bind (wpAny_pure ?_); exact fin)
end
end MP
/-! MPX6: try. -/
namespace MP
open PySem L2 PyProof.Rows
/-! ### another anchor -/
def RC.re (R : RC) (A : Hp) : RC := { R with aH := A }
section
variable {R : RC} {A : Hp} {H : Hp}
mutual
theorem RV.re : ∀ (w : W) (v : V), RV R H w v → RV (R.re A) H w v
  | .non, v, h => h
  | .bl _, v, h => h
  | .int _, v, h => h
  | .str _, v, h => h
  | .tup ws, v, h => by
    obtain ⟨p, vs, e, h1, h2⟩ := h
    exact ⟨p, vs, e, h1, RVs.re ws vs h2⟩
  | .rl ws, v, h => by
    obtain ⟨p, vs, e, h1, h2⟩ := h
    exact ⟨p, vs, e, h1, RVs.re ws vs h2⟩
  | .rd ks ws, v, h => by
    obtain ⟨p, o, kvr, e, h1, h2, h3⟩ := h
    exact ⟨p, o, kvr, e, h1, h2, RVs.re ws _ h3⟩
  | .ref _, v, h => h
  | .fn _, v, h => h
  | .cl _, v, h => h
  | .kd _, v, h => h
  | .xc c ns ws, v, h => by
    obtain ⟨p, oe, fsr, e, h1, h2, h3, h4⟩ := h
    exact ⟨p, oe, fsr, e, h1, h2, h3, RVs.re ws _ h4⟩
theorem RVs.re : ∀ (ws : List W) (vs : List V), RVs R H ws vs → RVs (R.re A) H ws vs
  | [], vs, h => h
  | w :: ws, vs, h => by
    obtain ⟨v, r, e, h1, h2⟩ := h
    exact ⟨v, r, e, RV.re w v h1, RVs.re ws r h2⟩
end
theorem RC.re_re (A2 : Hp) : (R.re A2).re A = R.re A := rfl
theorem RC.re_id : R.re R.aH = R := rfl
theorem RV.un {w : W} {v : V} (h : RV (R.re A) H w v) : RV R H w v := by
  have z := RV.re (R := R.re A) (A := R.aH) w v h
  rwa [RC.re_re, RC.re_id] at z
theorem RVs.un {w : List W} {v : List V} (h : RVs (R.re A) H w v) : RVs R H w v := by
  have z := RVs.re (R := R.re A) (A := R.aH) w v h
  rwa [RC.re_re, RC.re_id] at z
theorem RO.re {a : Addr} {o : OB} (h : RO R H a o) : RO (R.re A) H a o := by
  cases o with
  | lst ws => obtain ⟨vs, q, r⟩ := h; exact ⟨vs, q, RVs.re _ _ r⟩
  | dct kvs => obtain ⟨kr, q, k, r⟩ := h; exact ⟨kr, q, k, RVs.re _ _ r⟩
  | ins c fs => obtain ⟨dx, fr, q, k, r⟩ := h; exact ⟨dx, fr, q, k, RVs.re _ _ r⟩
  | exc c fs => exact h.elim
theorem Sim.re {S : Sto} (h : Sim R S H) : Sim (R.re A) S H := fun a o e => RO.re (h a o e)
theorem Sim.un {S : Sto} (h : Sim (R.re A) S H) : Sim R S H := by
  have z := Sim.re (R := R.re A) (A := R.aH) h
  rwa [RC.re_re, RC.re_id] at z
theorem RS.re {σ : Sl} {τ : L2.St} (h : RS R H σ τ) (k : Kp A H) : RS (R.re A) H σ τ := ⟨h.len, fun i w e => let ⟨v, q, r⟩ := h.at_ i w e; ⟨v, q, RV.re _ _ r⟩, k⟩
theorem RS.un {σ : Sl} {τ : L2.St} (h : RS (R.re A) H σ τ) (k : Kp R.aH H) : RS R H σ τ := ⟨h.len, fun i w e => let ⟨v, q, r⟩ := h.at_ i w e; ⟨v, q, RV.un r⟩, k⟩
theorem RX.re {x : XV} {cls : Value} {d : Option Addr} (h : RX R H x cls d) : RX (R.re A) H x cls d := by
  obtain ⟨h1, fsr, h2, h3, h4⟩ := h
  exact ⟨h1, fsr, h2, h3, RVs.re _ _ h4⟩
theorem RX.un {x : XV} {cls : Value} {d : Option Addr} (h : RX (R.re A) H x cls d) : RX R H x cls d := by
  obtain ⟨h1, fsr, h2, h3, h4⟩ := h
  exact ⟨h1, fsr, h2, h3, RVs.un h4⟩
end
/-! ### the clauses -/
/-- a clause's classes -/
def TstOk (R : RC) (G : Gm) (X : Cx) (t : Expr) (cs : List Nat) : Prop :=
  ∀ (a : Addr) (oe : Obj) (c : Nat) (pn : List (Addr × Obj)) (τ : L2.St) (H : Hp) (s : Shared), L2.Inv (X.suite a pn) [] τ H s → s.heap.get? a = some oe → oe.cls = R.xcl c → G.xv c = true → cs.all G.xv = true →
    ∀ (Q : Bool → Shared → Prop) (E : Value → Shared → Prop), (∀ h' tk', (∀ b o, s.heap.get? b = some o → h'.get? b = some o) → Q (cs.any (G.xs c)) { s with heap := h', toks := tk' }) →
      wpAny (model X.prog X.w) (X.A.mark (some (.ref a))) (eval t X.env) (fun cv s1 => wpAny (model X.prog X.w) (X.A.mark (some (.ref a))) (excMatches (.ref a) cv) Q E s1) E s
def NmOk (X : Cx) (n : Option Str) (i : Option Nat) : Prop := (n = none ∧ i = none) ∨ ∃ x j, n = some x ∧ i = some j ∧ X.N[j]? = some x ∧ X.env.kindOf x = some .local
/-- the context of a clause that raises -/
def cxR (X : Cx) (a : Addr) (pn : List (Addr × Obj)) (xe : Value → Shared → Prop) : Cx := { X with A := X.A.mark (some (.ref a)), calm := false, pn := pn, xe := xe }
inductive HdOk (R : RC) (G : Gm) (c : Cal) (X : Cx) : List ExceptHandler → Sm → Prop
  | nil : HdOk R G c X [] .nil
  | suite {t : Expr} {cs : List Nat} {n : Option Str} {i : Option Nat} {b₀ : Stmt} {su : List Stmt} {b : Sm} {p : Pos} {hds : List ExceptHandler} {r : Sm} (ht : TstOk R G X t cs) (hn : NmOk X n i)
      (hs : ∀ (A : Hp) (a : Addr) (pn : List (Addr × Obj)), PSs (X.suite a pn) (b₀ :: su) (LS (R.re A) (rdS G c b noX))) (hr : HdOk R G c X hds r) : HdOk R G c X (.ExceptHandler (some t) n (b₀ :: su) p :: hds) (.cons (.hdl cs i b) r)
  | rf {t e : Expr} {cs : List Nat} {n : Str} {j k : Nat} {y : Ex} {cp p p2 : Pos} {hds : List ExceptHandler} {r : Sm} (ht : TstOk R G X t cs) (hi : X.N[j]? = some n) (hl : X.env.kindOf n = some .local) (hd : (n == ("__debug__" : Str)) = false)
      (he : ∀ (A : Hp) (a : Addr) (pn : List (Addr × Obj)) (xe : Value → Shared → Prop), L2H.PMk5 (cxR X a pn xe) e (fun τ H Q => ∃ σ S Qw, RS (R.re A) H σ τ ∧ Sim (R.re A) S H ∧ (rd G c y noX).e σ S Qw ∧ ∀ w S1 H1, Qw w S1 → Sim (R.re A) S1 H1 → RS (R.re A) H1 σ τ →
        rsW G k false w fun x => ∀ cls d H', RX (R.re A) H' x cls d → Sim (R.re A) S1 H' → Kp H1 H' → Q cls d H')) (hr : HdOk R G c X hds r) :
      HdOk R G c X (.ExceptHandler (some t) (some n) [.Raise (some e) (some (.Name n cp)) p2] p :: hds) (.cons (.hdr cs j k y) r)
theorem mk_unD {R : RC} {S : Sto} {H : Hp} {i : Option Nat} {Dw : Dn} {D : Ends} (j : Nat) (h : i = some j) (k : DK R S H Dw D) : DK R S H (unD i Dw) { nx := fun τ H => D.nx (τ.set j none) H, rt := D.rt, bk := fun τ H => D.bk (τ.set j none) H, ct := fun τ H => D.ct (τ.set j none) H } := by
  subst h
  exact ⟨fun σ1 S1 τ1 H1 a b c d => k.nx _ _ _ _ a (b.none j) c d, k.rt, fun σ1 S1 τ1 H1 a b c d => k.bk _ _ _ _ a (b.none j) c d, fun σ1 S1 τ1 H1 a b c d => k.ct _ _ _ _ a (b.none j) c d⟩
theorem RS.gap {R : RC} {H : Hp} {σ : Sl} {τ : L2.St} (h : RS R H σ τ) (i : Nat) (v : Option V) : RS R H (σ.set i Option.none) (τ.set i v) := by
  refine ⟨by simp [h.len], fun j u e => ?_, h.an⟩
  by_cases hj : i = j
  · subst hj
    by_cases hl : i < σ.length
    · rw [List.getElem?_set_self hl] at e
      cases e
    · rw [List.getElem?_eq_none (by simp; omega)] at e
      cases e
  · rw [List.getElem?_set_ne hj] at e
    obtain ⟨x, q, z⟩ := h.at_ j u e
    exact ⟨x, by rw [List.getElem?_set_ne hj]; exact q, z⟩
section
variable {X : Cx} {pins : List (Addr × Obj)} {τ : L2.St} {H : Hp} {s : Shared}
theorem inSuite (a : Addr) (I : L2.Inv X pins τ H s) : L2.Inv (X.suite a (X.pn ++ pins)) [] τ H s :=
  ⟨I.ok.suite _ _, I.os, I.bare, I.base, I.loc, I.cell, I.free, I.freeC, fun p hp => I.pin p (by rw [List.append_nil] at hp; exact hp), I.hok, I.len⟩
theorem ofSuite {a : Addr} {pn : List (Addr × Obj)} (ok : X.Ok) (I : L2.Inv (X.suite a (X.pn ++ pins)) pn τ H s) : L2.Inv X pins τ H s :=
  ⟨ok, I.os, I.bare, I.base, I.loc, I.cell, I.free, I.freeC, fun p hp => I.pin p (List.mem_append_left _ hp), I.hok, I.len⟩
theorem inR {a : Addr} {oe : Obj} {vs : Array Value} (xe : Value → Shared → Prop) (I : L2.Inv X pins τ H s) (ha : s.heap.get? a = some oe) (hd : oe.data = .fields vs) (na : H a = none) (nL : a ≠ X.env.locals) (nF : a ∉ X.fs) : L2.Inv (cxR X a ((a, oe) :: (X.pn ++ pins)) xe) [] τ H s :=
  ⟨⟨I.ok.mod, I.ok.kind, I.ok.glob, I.ok.blt, I.ok.above, I.ok.inj, I.ok.has, I.ok.cab, (fun z => absurd (show false = true from z) Bool.false_ne_true), I.ok.frames, I.ok.stk, I.ok.exf, I.ok.bs, I.ok.bsz, I.ok.noex, I.ok.exfs, I.ok.funs, I.ok.frf⟩,
    I.os, I.bare, I.base, I.loc, I.cell, I.free, I.freeC, fun p hp => by
      have hp' : p ∈ (a, oe) :: (X.pn ++ pins) := by rw [List.append_nil] at hp; exact hp
      rcases List.mem_cons.mp hp' with e | q
      · rw [e]
        exact ⟨ha, na, nL, nF, fun v z => by
          have z' : oe.data = .cell v := z
          rw [hd] at z'
          cases z'⟩
      · exact I.pin p q, I.hok, I.len⟩
theorem ofR {a : Addr} {q : Addr × Obj} {pn : List (Addr × Obj)} {xe : Value → Shared → Prop} (ok : X.Ok) (I : L2.Inv (cxR X a (q :: (X.pn ++ pins)) xe) pn τ H s) : L2.Inv X pins τ H s :=
  ⟨ok, I.os, I.bare, I.base, I.loc, I.cell, I.free, I.freeC, fun p hp => I.pin p (List.mem_append_left _ (List.mem_cons_of_mem _ hp)), I.hok, I.len⟩
end
theorem s_try {R : RC} {G : Gm} {c : Cal} {X : Cx} {Kx : KXS} {body : List Stmt} {h₀ : ExceptHandler} {hds : List ExceptHandler} {b hsm : Sm} {pos : Pos} (hs : X.stack = X.env :: X.outer) (hf : X.env.frame = some X.env.locals) (hex : X.ex = []) (hN : X.N.Nodup) (tk : TK R X Kx) (hK : X.K = R.K)
    (hBE : ∀ k, G.xv k = true → PySem.W.subIn R.K (R.xcl k) (.type "BaseException") = some true)
    (hb : ∀ (A : Hp) (pn : List (Addr × Obj)) (xe : Value → Shared → Prop) (Kx' : KXS), TK (R.re A) (X.tr pn xe) Kx' → PassesOwn (model X.prog X.w) X.A X.env xe → PSs (X.tr pn xe) body (LS (R.re A) (rdS G c b Kx')))
    (hh : HdOk R G c X (h₀ :: hds) hsm) : PS X (.Try body (h₀ :: hds) [] [] pos) (LS R (rdS G c (.try_ b hsm) Kx)) := by
  refine ⟨fun pins s τ H D I h => ?_⟩
  obtain ⟨σ, S, Dw, hσ, hS, h, k⟩ := h
  have h : rdS G c b (hdS G c hsm Kx Dw) Dw σ S := h
  have ok := I.ok
  have hfr : X.A.frames = some (X.env :: X.outer) := by rw [ok.frames, hs]
  refine wpAny_Try_except ?_
  have DK1 : ∀ {S' : Sto} {H' : Hp}, Kp H H' → Sim (R.re H) S' H' → DK (R.re H) S' H' Dw D := fun {S' H'} kp sm =>
    ⟨fun σ1 S1 τ1 H1 a1 b1 c1 d1 => k.nx _ _ _ _ a1 (b1.un (hσ.an.trans b1.an)) c1.un (Sim.fr hS c1.un b1.an), fun w S1 v H1 a1 b1 c1 d1 => k.rt _ _ _ _ a1 b1.un c1.un (Sim.fr hS c1.un (kp.trans (d1.kp sm))),
      fun σ1 S1 τ1 H1 a1 b1 c1 d1 => k.bk _ _ _ _ a1 (b1.un (hσ.an.trans b1.an)) c1.un (Sim.fr hS c1.un b1.an), fun σ1 S1 τ1 H1 a1 b1 c1 d1 => k.ct _ _ _ _ a1 (b1.un (hσ.an.trans b1.an)) c1.un (Sim.fr hS c1.un b1.an)⟩
  have tk0 : TK (R.re H) (X.tr (X.pn ++ pins) fun e s₁ => wpAny (model X.prog X.w) X.A (noteFrame e X.env) (fun _ s₂ => wpAny (model X.prog X.w) X.A (setFlight e none) (fun _ s₃ => wpAny (model X.prog X.w) X.A (handleBy e X.env (h₀ :: hds)) (SP X pins D) X.xe s₃) X.xe s₂) X.xe s₁) (hdS G c hsm Kx Dw) := by
    intro n u s' xx
    obtain ⟨a, B, sI, pins', τ', H', cls, d, rfl, J', nb, up, sky, na, os, ag, x, σ', S', q, hn, rs, sm, rx⟩ := xx
    have J : L2.Inv X pins τ' H' sI := J'.ofTry ok
    have sky' : Sky B (X.env :: X.outer) a (Zf n cls d) X.env.locals s'.heap := by rw [← hs]; exact sky
    have kH : Kp H H' := rs.an
    obtain ⟨ecl, fsr, rx1, rx2, rx3⟩ := id rx
    have nI : a ∉ frs (X.env :: X.outer) → B.get? a = none → sI.heap.get? a = none := fun hb e => by
      cases z : sI.heap.get? a with
      | none => rfl
      | some o =>
        have y := nb a o z (by rw [hs]; exact hb)
        rw [e] at y; cases y
    have notFr : ∀ {h : Heap} {o : Obj} {vs : Array Value}, h.FunFrames B (X.env :: X.outer) → h.get? a = some o → o.data = .fields vs → a ∉ frs (X.env :: X.outer) := fun {h o vs} ff e dd hm => by
      obtain ⟨_, o', e', hnf⟩ := ff.mem hm
      rw [e] at e'; cases e'
      exact hnf _ dd
    have nLo : a ∉ frs (X.env :: X.outer) → a ≠ X.env.locals := fun nfr z => nfr (List.mem_filterMap.mpr ⟨X.env, List.mem_cons_self, by rw [hf, z]⟩)
    have nFo : a ∉ frs (X.env :: X.outer) → a ∉ X.fs := fun nfr hm => by
      obtain ⟨e, he, q⟩ := List.mem_filterMap.mp hm
      exact nfr (List.mem_filterMap.mpr ⟨e, List.mem_cons_of_mem _ he, q⟩)
    have go : ∀ {hds' : List ExceptHandler} {sm' : Sm}, HdOk R G c X hds' sm' → hdS G c sm' Kx Dw x σ' S' → ∀ (h3 : Heap) (tk3 : Nat), HandSPX.FlyingZ B (X.env :: X.outer) a (Zf n cls d) h3 → sI.heap.UpToSlots h3 →
        wpAny (model X.prog X.w) X.A (handleBy (.ref a) X.env hds') (SP X pins D) X.xe { s' with heap := h3, toks := tk3 } := by
      intro hds' sm' hk
      induction hk with
      | nil =>
        intro q h3 tk3 fl3 up3
        refine wpAny_handleBy_nil ?_
        obtain ⟨k1, k2, k3, oe, vs, T, oT, ts', he, hz, hd, h1, hr⟩ := id fl3
        unfold PySem.passOn
        refine wpAny_bind (wpAny_field he hd h1 ?_)
        rw [if_neg (show ¬ ((Value.ref T == Value.none) = true) from by simp)]
        have fin : wpAny (model X.prog X.w) X.A (setFlight (.ref a) X.env.frame) (fun _ s4 => wpAny (model X.prog X.w) X.A (throw (.ref a) : Sem Flow) (SP X pins D) X.xe s4) X.xe { s' with heap := h3, toks := tk3 } := by
          rw [hf]
          refine HandSPX.setFlight_upZ fl3 fun h4 hh4 up4 => wpAny_throw (tk n _ _ ?_)
          exact ⟨a, B, sI, pins, τ', H', cls, d, rfl, J, nb, up3.trans up4, .inr (.inr (by rw [hs]; exact hh4)), na, os, ag, x, σ', S', q, hn, rs.un (hσ.an.trans kH), sm.un, rx.un⟩
        first
          | exact wpAny_bind (wpAny_pure (wpAny_bind fin))
          | exact wpAny_bind fin
      | @suite t cs nmo i b₀ su bb p hds2 r ht hnm hsu hr ih =>
        intro q h3 tk3 fl3 up3
        obtain ⟨qv, q⟩ := (show (G.xv x.c && cs.all G.xv) = true ∧ (if (cs.any fun k => G.xs x.c k) = true then rdS G c bb noX (unD i Dw) (setX i x σ') S' else hdS G c r Kx Dw x σ' S') from q)
        obtain ⟨qv1, qv2⟩ := Bool.and_eq_true_iff.mp qv
        have J3 : L2.Inv X pins τ' H' { s' with heap := h3, toks := tk3 } := J.landed nb fl3.1 up3 os ag
        obtain ⟨oe3, vs3, he3, hz3, hd3⟩ := fl3.there
        refine wpAny_handleBy_cons (codeAny_handlers_test (ht a oe3 x.c (X.pn ++ pins) τ' H' _ (inSuite a J3) he3 (hz3.zc.1.trans ecl) qv1 qv2 _ _ fun h4 tk4 gr => ?_)) (by intro q; cases q)
        have fl4 := flying_keeps gr fl3
        have up4 := up3.trans (Heap.UpToSlots.of_keeps gr)
        have eb : cs.any (G.xs x.c) = cs.any fun k => G.xs x.c k := rfl
        rw [eb]
        cases hb : (cs.any fun k => G.xs x.c k) with
        | false =>
          rw [hb, if_neg Bool.false_ne_true] at q
          exact ih q h4 tk4 fl4 up4
        | true =>
          rw [hb, if_pos rfl] at q
          have tell : ∀ (h5 : Heap), HandSPX.FlyingZ B (X.env :: X.outer) a (Zf n cls d) h5 → sI.heap.UpToSlots h5 → ∃ oe, L2.Inv X pins τ' (upd H' a (.frz oe XO)) { s' with heap := h5, toks := tk4 } ∧ RV (R.re H) (upd H' a (.frz oe XO)) (.xc x.c x.ns x.ws) (.ref a) := fun h5 fl5 up5 => by
            have J5 : L2.Inv X pins τ' H' { s' with heap := h5, toks := tk4 } := J.landed nb fl5.1 up5 os ag
            obtain ⟨oe5, vs5, he5, hz5, hd5⟩ := fl5.there
            have nfr := notFr fl5.2.2.1 he5 hd5
            refine ⟨oe5, Inv.told J hex (nI nfr fl5.2.1) na J5 he5 hd5 (nLo nfr), a, oe5, fsr, rfl, upd_same, ⟨hz5.zc.1.trans ecl, ⟨vs5, hd5⟩, rx1.imp (fun ⟨e1, e2⟩ => ⟨e1, hz5.zc.2.trans e2⟩) fun ⟨dd, od, e1, e2⟩ => ⟨dd, od, hz5.zc.2.trans e1, ?_⟩⟩, rx2, RVs.kp (kp_new na) _ _ rx3⟩
            rw [upd_ne (ne_of_none e2 na)]
            exact e2
          have sm2 : ∀ oe : Obj, Sim (R.re H) S' (upd H' a (.frz oe XO)) := fun oe => (sm.hid na).1
          rcases hnm with ⟨rfl, rfl⟩ | ⟨nx, j, rfl, rfl, hi, hln⟩
          · refine codeAny_handlers_suite ?_
            refine HandSPX.lands_againZ fl4 fun h5 fl5 up5 => ?_
            obtain ⟨oe, JT, rv⟩ := tell h5 fl5 (up4.trans up5)
            refine wpAny_mono ((hsu H a (X.pn ++ pins)).run [] _ τ' _ D (inSuite a JT) ⟨σ', S', Dw, rs.kp (kp_new na), sm2 oe, q, DK1 (kH.trans (kp_new na)) (sm2 oe)⟩) (fun f s6 hsp => ?_) (fun _ _ z => False.elim z)
            cases f with
            | next =>
              obtain ⟨σ6, H6, S6, q6⟩ := hsp
              exact ⟨_, _, ofSuite ok S6, q6⟩
            | brk =>
              obtain ⟨σ6, H6, S6, q6⟩ := hsp
              exact ⟨_, _, ofSuite ok S6, q6⟩
            | cont =>
              obtain ⟨σ6, H6, S6, q6⟩ := hsp
              exact ⟨_, _, ofSuite ok S6, q6⟩
            | ret u =>
              obtain ⟨v6, σ6, H6, S6, r6, q6⟩ := hsp
              exact ⟨_, _, _, ofSuite ok S6, r6, q6⟩
          · refine codeAny_handlers_suite_as ?_
            refine HandSPX.lands_againZ fl4 fun h5 fl5 up5 => ?_
            obtain ⟨oe, JT, rv⟩ := tell h5 fl5 (up4.trans up5)
            refine store_ok (X := X.suite a (X.pn ++ pins)) (v := .ref a) (inSuite a JT) hN hi (.inl hln) rfl (fun s6 S6 => ?_) (.inr hln)
            refine wpAny_mono ((hsu H a (X.pn ++ pins)).run [] s6 _ _ _ S6 ⟨σ'.set j (some (.xc x.c x.ns x.ws)), S', _, (rs.kp (kp_new na)).set j rv, sm2 oe, q, mk_unD j rfl (DK1 (kH.trans (kp_new na)) (sm2 oe))⟩) (fun f s7 hsp => ?_) (fun _ _ z => False.elim z)
            cases f with
            | next =>
              obtain ⟨σ6, H6, S6, q6⟩ := hsp
              exact gone_ok (ofSuite ok S6) hN hi hln fun s8 J8 => ⟨_, _, J8, q6⟩
            | brk =>
              obtain ⟨σ6, H6, S6, q6⟩ := hsp
              exact gone_ok (ofSuite ok S6) hN hi hln fun s8 J8 => ⟨_, _, J8, q6⟩
            | cont =>
              obtain ⟨σ6, H6, S6, q6⟩ := hsp
              exact gone_ok (ofSuite ok S6) hN hi hln fun s8 J8 => ⟨_, _, J8, q6⟩
            | ret u =>
              obtain ⟨v6, σ6, H6, S6, r6, q6⟩ := hsp
              exact gone_ok (ofSuite ok S6) hN hi hln fun s8 J8 => ⟨_, _, _, J8, r6, q6⟩
      | @rf t e cs nx j kk y cp p p2 hds2 r ht hi hln hdb he hr ih =>
        intro q h3 tk3 fl3 up3
        obtain ⟨qv, q⟩ := (show (G.xv x.c && cs.all G.xv) = true ∧ (if (cs.any fun k => G.xs x.c k) = true then x.n = true ∧ (rd G c y noX).e (σ'.set j none) S' (fun w S1 => rsW G kk false w fun y => Kx y (σ'.set j none) S1) else hdS G c r Kx Dw x σ' S') from q)
        obtain ⟨qv1, qv2⟩ := Bool.and_eq_true_iff.mp qv
        have J3 : L2.Inv X pins τ' H' { s' with heap := h3, toks := tk3 } := J.landed nb fl3.1 up3 os ag
        obtain ⟨oe3, vs3, he3, hz3, hd3⟩ := fl3.there
        refine wpAny_handleBy_cons (codeAny_handlers_test (ht a oe3 x.c (X.pn ++ pins) τ' H' _ (inSuite a J3) he3 (hz3.zc.1.trans ecl) qv1 qv2 _ _ fun h4 tk4 gr => ?_)) (by intro q; cases q)
        have fl4 := flying_keeps gr fl3
        have up4 := up3.trans (Heap.UpToSlots.of_keeps gr)
        have eb : cs.any (G.xs x.c) = cs.any fun k => G.xs x.c k := rfl
        rw [eb]
        cases hb : (cs.any fun k => G.xs x.c k) with
        | false =>
          rw [hb, if_neg Bool.false_ne_true] at q
          exact ih q h4 tk4 fl4 up4
        | true =>
          rw [hb, if_pos rfl] at q
          obtain ⟨xn, q⟩ := q
          have en : n = true := hn.symm.trans xn
          refine codeAny_handlers_suite_as ?_
          refine HandSPX.lands_againZ fl4 fun h5 fl5 up5 => ?_
          have J5 : L2.Inv X pins τ' H' { s' with heap := h5, toks := tk4 } := J.landed nb fl5.1 (up4.trans up5) os ag
          obtain ⟨oe5, vs5, he5, hz5, hd5⟩ := fl5.there
          have nfr := notFr fl5.2.2.1 he5 hd5
          have hctx : vs5[2]? = some .none := by
            subst en
            exact (show L2N.Zn cls d oe5 from hz5).2.2 vs5 hd5
          have hbe : PySem.W.subIn X.K oe5.cls (.type "BaseException") = some true := by
            rw [hz5.zc.1.trans ecl, hK]
            exact hBE _ qv1
          let xeT : Value → Shared → Prop := fun u s2 => ∃ (a2 : Addr) (B2 : Heap) (sI2 : Shared) (τ2 : L2.St) (H2 : Hp) (cls2 : Value) (d2 : Option Addr), u = .ref a2 ∧ L2.Inv X pins τ2 H2 sI2 ∧ (∀ b o, sI2.heap.get? b = some o → b ∉ frs X.stack → B2.get? b = some o) ∧ sI2.heap.UpToSlots s2.heap ∧
            Sky B2 X.stack a2 (Zc cls2 d2) X.env.locals s2.heap ∧ H2 a2 = none ∧ s2.os = sI2.os ∧ AllBare s2.gens ∧ XW R Kx false cls2 d2 (τ2.set j none) H2
          have JR := inR xeT J5 he5 hd5 na (nLo nfr) (nFo nfr)
          refine store_ok (X := cxR X a ((a, oe5) :: (X.pn ++ pins)) xeT) (v := .ref a) JR hN hi (.inl hln) rfl (fun s6 S6 => ?_) (.inr hln)
          have tkR : ∀ u s2, XEf false (cxR X a ((a, oe5) :: (X.pn ++ pins)) xeT) (fun cls d τ H => XW R Kx false cls d (τ.set j none) H) u s2 → xeT u s2 := fun u s2 z => by
            obtain ⟨a2, B2, sI2, pn2, τ2, H2, cls2, d2, e2, I2, nb2, up2, sky2, na2, os2, ag2, w2⟩ := z
            exact ⟨a2, B2, sI2, τ2, H2, cls2, d2, e2, ofR ok I2, nb2, up2, sky2, na2, os2, ag2, w2⟩
          have st := pss_one (ps_rf (X := cxR X a ((a, oe5) :: (X.pn ++ pins)) xeT) (p := (a, oe5)) (cp := cp) (pos := p2) rfl List.mem_cons_self hd5 hctx hbe tkR (he H a _ xeT) hi hln hdb)
          have slot : (τ'.set j (some (V.ref a)))[j]? = some (some (V.ref a)) := by
            have hj : j < τ'.length := by rw [J5.len]; exact (List.getElem?_eq_some_iff.mp hi).1
            rw [List.getElem?_set_self hj]
          refine wpAny_mono (st.run [] s6 _ _ { nx := fun _ _ => False, rt := fun _ _ => False, bk := fun _ _ => False, ct := fun _ _ => False } S6 ⟨slot, σ'.set j none, S', _, rs.gap j _, sm, q, fun w S1 H1 qw sm1 rs1 => rsW_mono (fun x2 hx2 kq cls2 d2 H4 rx4 sm4 kp4 => ⟨x2, σ'.set j none, S1, kq, hx2, ?_, sm4.un, rx4.un⟩) qw⟩) (fun f s7 hsp => ?_) (fun u s7 z => ?_)
          · have z := (RS.kp kp4 rs1).gap j none
            rw [List.set_set] at z
            exact z.un (hσ.an.trans z.an)
          · cases f with
            | next => obtain ⟨_, _, _, z⟩ := hsp; exact z.elim
            | brk => obtain ⟨_, _, _, z⟩ := hsp; exact z.elim
            | cont => obtain ⟨_, _, _, z⟩ := hsp; exact z.elim
            | ret u => obtain ⟨_, _, _, _, _, z⟩ := hsp; exact z.elim
          · obtain ⟨a2, B2, sI2, τ2, H2, cls2, d2, rfl, I2, nb2, up2, sky2, na2, os2, ag2, w2⟩ := (show xeT u s7 from z)
            exact rf_tail hs hf hex hN hi hln (fun u s z => tk false u s z) I2 nb2 up2 sky2 na2 os2 ag2 w2
    show wpAny (model X.prog X.w) X.A (noteFrame (.ref a) X.env) _ _ _
    refine sky_held Zf.st hfr hf sky' fun h2 hh2 up2 => ?_
    refine HandSPX.landsZ hh2 fun h3 fl3 up3 => ?_
    exact go hh q h3 s'.toks fl3 ((up.trans up2).trans up3)
  refine wpAny_mono ((hb H (X.pn ++ pins) _ _ tk0 PassesOwn.looking).run [] s τ H D (I.toTry _) ⟨σ, S, Dw, hσ.re (Kp.refl H), hS.re, h, DK1 (Kp.refl H) hS.re⟩) (fun f s1 hsp => ?_) (fun e s1 he => he)
  cases f with
  | next =>
    obtain ⟨σ', H', J', q⟩ := hsp
    exact wpAny_execs_nil ⟨σ', H', J'.ofTry ok, q⟩
  | brk =>
    obtain ⟨σ', H', J', q⟩ := hsp
    exact ⟨σ', H', J'.ofTry ok, q⟩
  | cont =>
    obtain ⟨σ', H', J', q⟩ := hsp
    exact ⟨σ', H', J'.ofTry ok, q⟩
  | ret u =>
    obtain ⟨v, σ', H', J', r, q⟩ := hsp
    exact ⟨v, σ', H', J'.ofTry ok, r, q⟩
end MP
/-! MP13: calls of the program's functions. -/
namespace MP
open PySem L2 PyProof.Rows
/-- written arguments -/
inductive AL (R : RC) (X : Cx) : List Expr → Nat → TA' → Prop
  | nil : AL R X [] 0 aNil
  | cons {e : Expr} {es : List Expr} {n : Nat} {t : TE'} {ts : TA'} : PE X e (LE R t) → starEach (e :: es) X.env = (false, eval e X.env) :: starEach es X.env → AL R X es n ts → AL R X (e :: es) (n + 1) (aCons t ts)
inductive KL (R : RC) (X : Cx) : List Keyword → List Str → Nat → TA' → Prop
  | nil : KL R X [] [] 0 aNil
  | cons {x : Str} {e : Expr} {p : Pos} {kws : List Keyword} {ks : List Str} {n : Nat} {t : TE'} {ts : TA'} : PE X e (LE R t) → KL R X kws ks n ts → KL R X (⟨some x, e, p⟩ :: kws) (x :: ks) (n + 1) (aCons t ts)
section
variable {R : RC} {G : Gm} {X : Cx}
variable {a b d : Expr} {ta tb td : TE'} {pos : Pos}
theorem AL.pa {es : List Expr} {n : Nat} {ts : TA'} (h : AL R X es n ts) : PA X es (LA R n ts) := by
  induction h with
  | nil => exact a_nil
  | cons h1 h2 h4 ih => exact a_cons h1 ih h2
theorem AL.plain {es : List Expr} {n : Nat} {ts : TA'} (h : AL R X es n ts) (pos : Pos) : (backTo pos (starEach es X.env)).any (·.1) = false := by
  induction h with
  | nil => rfl
  | cons h1 h2 h4 ih =>
    rw [h2]
    show (false || (backTo pos (starEach _ X.env)).any (·.1)) = false
    rw [ih]; rfl
theorem AL.all {es : List Expr} {n : Nat} {ts : TA'} (h : AL R X es n ts) (pos : Pos) : (backTo pos (starEach es X.env)).all (fun x => !x.1) = true := by
  induction h with
  | nil => rfl
  | cons h1 h2 h4 ih =>
    rw [h2]
    show (!false && (backTo pos (starEach _ X.env)).all (fun x => !x.1)) = true
    rw [ih]; rfl
theorem AL.len {es : List Expr} {n : Nat} {ts : TA'} (h : AL R X es n ts) : es.length = n := by
  induction h with
  | nil => rfl
  | cons h1 h2 h4 ih => simp [ih]
theorem KL.pk {kws : List Keyword} {ks : List Str} {n : Nat} {ts : TA'} (h : KL R X kws ks n ts) : PK X kws (LA R n ts) := by
  induction h with
  | nil => exact ⟨fun pos pins s τ H Q I h => by
      obtain ⟨σ, S, Qw, hσ, hS, h, k⟩ := h
      exact (pk_nil (X := X)).run pos pins s τ H Q I (k [] S [] H rfl h rfl hS (Fr.refl _ _))⟩
  | cons h1 h2 ih =>
    refine ⟨fun pos pins s τ H Q I h => (pk_cons h1 ih).run pos pins s τ H Q I ?_⟩
    obtain ⟨σ, S, Qw, hσ, hS, h, k⟩ := h
    exact LE.go hσ hS h fun w S1 v H1 q1 r1 hS1 f1 hσ1 => LA.go hσ1 hS1 q1 fun ws S2 vs H2 hl q2 r2 hS2 f2 hσ2 => k _ S2 _ H2 (by simp [hl]) q2 (.cons (RV.mono hS1 f2 _ _ r1) r2) hS2 (f1.trans f2)
theorem KL.all {kws : List Keyword} {ks : List Str} {n : Nat} {ts : TA'} (h : KL R X kws ks n ts) (pos : Pos) : (backToKw pos (keywordEach kws X.env)).all (·.1.isSome) = true ∧ (backToKw pos (keywordEach kws X.env)).any (·.1.isNone) = false ∧ (backToKw pos (keywordEach kws X.env)).filterMap (·.1) = ks ∧ ks.length = n := by
  induction h with
  | nil => exact ⟨rfl, rfl, rfl, rfl⟩
  | @cons x e p kws ks n t ts h1 h2 ih =>
    obtain ⟨i1, i2, i3, i4⟩ := ih
    refine ⟨?_, ?_, ?_, by simp [i4]⟩
    · show (true && (backToKw pos (keywordEach kws X.env)).all (·.1.isSome)) = true
      rw [i1]; rfl
    · show (false || (backToKw pos (keywordEach kws X.env)).any (·.1.isNone)) = false
      rw [i2]; rfl
    · show x :: (backToKw pos (keywordEach kws X.env)).filterMap (·.1) = x :: ks
      rw [i3]
/-- all arguments, those by place, then those by keyword -/
def aApp (a k : TA') : TA' := fun σ S Q => a σ S fun ws S1 => k σ S1 fun zs S2 => Q (ws ++ zs) S2
/-- a call's arguments are got, the callee is called -/
theorem call_args {es : List Expr} {kws : List Keyword} {ks : List Str} {n m : Nat} {tA tK : TA'} {f : Value} {first : List Value} {pins : List (Addr × Obj)} {s : Shared} {τ : L2.St} {H : Hp} {Q : VK} {P : List V → Hp → Prop}
    (hk : PySem.W.keepIn X.K f = true) (hA : AL R X es n tA) (hK : KL R X kws ks m tK) (I : L2.Inv X pins τ H s) (h : LA R (n + m) (aApp tA tK) τ H P)
    (fin : ∀ us s' vs H', L2.Inv X pins τ H' s' → Vals vs us → us.length = n + m → P vs H' → wpAny (model X.prog X.w) X.A (call f (first ++ us.take n) (ks.zip (us.drop n))) (EP X pins τ Q) X.xe s') :
    wpAny (model X.prog X.w) X.A (callWith pos f first (backTo pos (starEach es X.env)) (backToKw pos (keywordEach kws X.env))) (EP X pins τ Q) X.xe s := by
  obtain ⟨k1, k2, k3, k4⟩ := hK.all pos
  obtain ⟨σ, S, Qw, hσ, hS, h, k⟩ := h
  -- by place, then by keyword
  have step : LA R n tA τ H fun vs H1 => vs.length = n ∧ LA R m tK τ H1 fun zs H2 => zs.length = m ∧ P (vs ++ zs) H2 := by
    refine LA.go hσ hS h fun ws S1 vs H1 hl q1 r1 hS1 f1 hσ1 => ⟨by rw [r1.length, hl], LA.go hσ1 hS1 q1 fun zs S2 vz H2 hz q2 r2 hS2 f2 hσ2 => ⟨by rw [r2.length, hz], ?_⟩⟩
    exact k _ S2 _ H2 (by simp [hl, hz]) q2 ((RVs.mono hS1 f2 _ _ r1).append r2) hS2 (f1.trans f2)
  have fin2 : ∀ us ws s' vs zs H', L2.Inv X pins τ H' s' → Vals vs us → Vals zs ws → vs.length = n → zs.length = m → P (vs ++ zs) H' → wpAny (model X.prog X.w) X.A (call f (first ++ us) (ks.zip ws)) (EP X pins τ Q) X.xe s' := fun us ws s' vs zs H' I' rv rz lv lz p => by
    have lu : us.length = n := by rw [← rv.length]; exact lv
    have lw : ws.length = m := by rw [← rz.length]; exact lz
    have e := fin (us ++ ws) s' (vs ++ zs) H' I' (rv.append rz) (by simp [lu, lw]) p
    rw [List.take_append_of_le_length (by omega), List.drop_append_of_le_length (by omega)] at e
    rw [List.take_of_length_le (by omega), List.drop_eq_nil_of_le (by omega), List.nil_append] at e
    exact e
  have kin := I.ok.mod.kin
  cases hA with
  | nil =>
    have st0 : LA R m tK τ H fun zs H2 => zs.length = m ∧ P ([] ++ zs) H2 := by
      refine LA.go hσ hS h fun zs S2 vz H2 hz q2 r2 hS2 f2 hσ2 => ⟨by rw [r2.length, hz], ?_⟩
      exact k _ S2 _ H2 (by simp [hz]) q2 r2 hS2 f2
    cases hK with
    | nil =>
      refine PySem.W.callWith_K0 I.kIn hk ?_
      have q : P [] H := by
        refine k [] S [] H rfl ?_ rfl hS (Fr.refl _ _)
        exact h
      exact fin2 [] [] s [] [] H I .nil .nil rfl rfl q
    | @cons kx ke kp kkws kks kn kt kts h1 h2 =>
      have kk := KL.cons (x := kx) (p := kp) h1 h2
      refine PySem.W.callWith_KW0 kin hk k1 (thn (kk.pk.run pos pins s τ H _ I st0) fun ws s2 ⟨zs, H2, I2, rz, lz, q2⟩ => ⟨I2.kIn, ?_⟩) (by rw [k2]; rfl)
      rw [k3]
      exact fin2 [] ws s2 [] zs H2 I2 .nil rz rfl lz q2
  | @cons e es' n' t ts h1 h2 h4 =>
    have aa := AL.cons h1 h2 h4
    cases hK with
    | nil =>
      refine PySem.W.callWith_K kin hk (thn (aa.pa.run pos pins s τ H _ I step) fun us s1 ⟨vs, H1, I1, r, lv, q⟩ => ⟨I1.kIn, ?_⟩) h2 (h4.plain pos)
      obtain ⟨σ2, S2, Qw2, hσ2, hS2, hh, k2⟩ := q
      have q2 := k2 [] S2 [] H1 rfl hh rfl hS2 (Fr.refl _ _)
      exact fin2 us [] s1 vs [] H1 I1 r .nil lv q2.1 q2.2
    | @cons kx ke kp kkws kks kn kt kts g1 g2 =>
      have kk := KL.cons (x := kx) (p := kp) g1 g2
      refine PySem.W.callWith_KW kin hk k1 (thn (aa.pa.run pos pins s τ H _ I step) fun us s1 ⟨vs, H1, I1, r, lv, q⟩ => ?_) (by rw [aa.plain pos, k2]; rfl) h2
      refine thn (kk.pk.run pos pins s1 τ H1 _ I1 q) fun ws s2 ⟨zs, H2, I2, rz, lz, q2⟩ => ⟨I2.kIn, ?_⟩
      rw [k3]
      exact fin2 us ws s2 vs zs H2 I2 r rz lv lz q2
/-! ### binding -/
def Rls (R : RC) (H : Hp) (ws : List W) (us : List Value) : Prop := ∃ vs, RVs R H ws vs ∧ Vals vs us
def Rl1 (R : RC) (H : Hp) (w : W) (u : Value) : Prop := ∃ v, RV R H w v ∧ RelV v u
theorem Rls.get {H : Hp} {ws : List W} {us : List Value} (h : Rls R H ws us) {i : Nat} {w : W} {u : Value} (e : ws[i]? = some w) (e2 : us[i]? = some u) : Rl1 R H w u := by
  obtain ⟨vs, h1, h2⟩ := h
  obtain ⟨v, q, r⟩ := h1.get e
  obtain ⟨u', q', r'⟩ := h2.get q
  rw [e2] at q'
  cases q'
  exact ⟨v, r, r'⟩
theorem Rls.take {H : Hp} {ws : List W} {us : List Value} (h : Rls R H ws us) (n : Nat) : Rls R H (ws.take n) (us.take n) := by
  obtain ⟨vs, h1, h2⟩ := h
  exact ⟨vs.take n, h1.take n, h2.take n⟩
theorem Rls.drop {H : Hp} {ws : List W} {us : List Value} (h : Rls R H ws us) (n : Nat) : Rls R H (ws.drop n) (us.drop n) := by
  obtain ⟨vs, h1, h2⟩ := h
  exact ⟨vs.drop n, h1.drop n, h2.drop n⟩
theorem Rls.length {H : Hp} {ws : List W} {us : List Value} (h : Rls R H ws us) : us.length = ws.length := by
  obtain ⟨vs, h1, h2⟩ := h
  rw [← h2.length, h1.length]
theorem lookup_zip {H : Hp} : ∀ (kw : List Nat) {ws : List W} {us : List Value} (i : Nat), Rls R H ws us → (∀ w u, (kw.zip ws).lookup i = some w → (kw.zip us).lookup i = some u → Rl1 R H w u) ∧ ((kw.zip ws).lookup i = none ↔ (kw.zip us).lookup i = none)
  | [], ws, us, i, h => ⟨fun w u e => by simp at e, by simp⟩
  | k :: kw, ws, us, i, h => by
    obtain ⟨vs, h1, h2⟩ := h
    cases ws with
    | nil => cases h1; cases h2; exact ⟨fun w u e => by simp at e, by simp⟩
    | cons w ws =>
      obtain ⟨v, vr, rfl, r1, r2⟩ := h1
      cases h2 with
      | @cons _ u _ us' q1 q2 =>
        obtain ⟨i1, i2⟩ := lookup_zip kw (ws := ws) (us := us') i ⟨vr, r2, q2⟩
        simp only [List.zip_cons_cons, List.lookup_cons]
        cases (i == k) with
        | true => exact ⟨fun w' u' e e' => by cases e; cases e'; exact ⟨v, r1, q1⟩, by simp⟩
        | false => exact ⟨i1, i2⟩
theorem mapO_rel {α β γ : Type} {f : α → Option β} {g : α → Option γ} {P : β → γ → Prop} : ∀ (l : List α) {bs : List β} {cs : List γ}, (∀ x y z, f x = some y → g x = some z → P y z) → mapO f l = some bs → mapO g l = some cs → Paired P bs cs
  | [], bs, cs, _, h1, h2 => by cases h1; cases h2; exact .nil
  | x :: l, bs, cs, hp, h1, h2 => by
    obtain ⟨y, ys, e1, e2, rfl⟩ := mapO_cons h1
    obtain ⟨z, zs, e3, e4, rfl⟩ := mapO_cons h2
    exact .cons (hp x y z e1 e3) (mapO_rel l hp e2 e4)
theorem rls_of {H : Hp} : ∀ {ws : List W} {us : List Value}, Paired (Rl1 R H) ws us → Rls R H ws us
  | _, _, .nil => ⟨[], rfl, .nil⟩
  | _, _, .cons h t => by
    obtain ⟨v, h1, h2⟩ := h
    obtain ⟨vs, t1, t2⟩ := rls_of t
    exact ⟨v :: vs, .cons h1 t1, .cons h2 t2⟩
theorem bindP_rel {H : Hp} {np : Nat} {dfl : List W} {its : List Value} {ws : List W} {us : List Value} {kw : List Nat} {zs : List W} {us' : List Value} {wk : List W} {uk : List Value} (hd : Rls R H dfl its) (h : Rls R H ws us) (hk : Rls R H wk uk) (e : bindP np dfl ws (kw.zip wk) = some zs) (e2 : bindP np its us (kw.zip uk) = some us') : Rls R H zs us' := by
  refine rls_of (mapO_rel _ (fun i y z e1 e2 => ?_) e e2)
  rw [h.length] at e2
  by_cases hi : i < ws.length
  · rw [if_pos hi] at e1 e2
    exact h.get e1 e2
  · rw [if_neg hi] at e1 e2
    obtain ⟨l1, l2⟩ := lookup_zip kw i hk
    cases q : (kw.zip wk).lookup i with
    | none =>
      rw [q] at e1
      rw [l2.mp q] at e2
      rw [hd.length] at e2
      simp only at e1 e2
      by_cases hj : np - dfl.length ≤ i
      · rw [if_pos hj] at e1 e2
        exact hd.get e1 e2
      · rw [if_neg hj] at e1
        cases e1
    | some w =>
      rw [q] at e1
      cases q2 : (kw.zip uk).lookup i with
      | none => rw [l2.mpr q2] at q; cases q
      | some u =>
        rw [q2] at e2
        simp only at e1 e2
        cases e1; cases e2
        exact l1 _ _ q q2
/-- how a function is bound when n values are given by place, others at kw (ks are their names) -/
def Sh (K : PySem.W.Frag) (fdat : FuncData) (ps : List Str) (np : Nat) (its : List Value) (n : Nat) (kw : List Nat) (ks : List Str) : Prop :=
  ∀ (s : Shared) (us : List Value), K.In s.heap → us.length = n + kw.length → ∃ zs, bindP np its (us.take n) (kw.zip (us.drop n)) = some zs ∧ BindsTo s fdat ⟨us.take n, ks.zip (us.drop n)⟩ (ps.zip zs)
/-- a function of the program, as it may be called with lev of room -/
structure CFn (R : RC) (P : Program) (w : World) (K : PySem.W.Frag) (mg : Str → Option Value) (base : Heap) (lev : Nat) (c : Cal) (f : Nat) (fd : FD) (sh : List (Nat × List Nat × List Str)) : Prop where
  ex : ∃ (fdat : FuncData) (ps : List Str) (its : List Value), PySem.W.keepIn K (.ref (R.fad f)) = true ∧ ps.length = fd.np ∧ (∀ H, Rls R H fd.dfl its) ∧ (∀ q, q ∈ sh → Sh K fdat ps fd.np its q.1 q.2.1 q.2.2) ∧
    ∀ (A : Around) (outer : List Env) (s : Shared) (H : Hp) (args : Args) (us : List Value) (vs : List V) (ws : List W) (S : Sto) (Q : VK) (Qw : KE) (E : KX), Room lev A → A.guards = some [] → Env0 P w K mg base A outer s H → BindsTo s fdat args (ps.zip us) → Vals vs us → RVs R H ws vs → ws.length = fd.np →
      Sim R S H → c f ws S Qw E → KV' R S H Qw Q → codeAny (model P w) A (.call (.ref (R.fad f)) args) (L2.CR (CXw R P w E) outer P w H s Q (fun _ _ _ => False)) s
theorem bindP_len {α : Type} {np : Nat} {dfl ws : List α} {kw : List (Nat × α)} {zs : List α} (h : bindP np dfl ws kw = some zs) : zs.length = np := by
  have : ∀ (l : List Nat) (zs : List α) (f : Nat → Option α), mapO f l = some zs → zs.length = l.length := by
    intro l
    induction l with
    | nil => intro zs f h; cases h; rfl
    | cons x l ih =>
      intro zs f h
      obtain ⟨y, ys, _, e2, rfl⟩ := mapO_cons h
      simp [ih ys f e2]
  have := this _ _ _ h
  simpa using this
/-- the callee runs -/
theorem run_cf {P : Program} {w0 : World} {lev : Nat} {c : Cal} {f n : Nat} {fd : FD} {sh : List (Nat × List Nat × List Str)} (F : CFn R X.prog X.w X.K X.mg X.base lev c f fd sh) (hr : Room lev X.A) (hgd : X.A.guards = some []) {kw : List Nat} {ks : List Str} (hsh : (n, kw, ks) ∈ sh)
    {pins : List (Addr × Obj)} {τ : L2.St} {H : Hp} {s : Shared} {Q : VK} {us : List Value} {vs : List V} {ws bs : List W} {S : Sto} {Qw : KE} {KXp : KXS} {σ : Sl} (tk : TK R X KXp) (hσ : RS R H σ τ) (I : L2.Inv X pins τ H s) (r : Vals vs us) (rw_ : RVs R H ws vs) (hl : ws.length = n + kw.length)
    (hb : bindP fd.np fd.dfl (ws.take n) (kw.zip (ws.drop n)) = some bs) (hS : Sim R S H) (h : c f bs S Qw fun x S2 => KXp x σ S2) (k : KV' R S H Qw Q) : wpAny (model X.prog X.w) X.A (call (.ref (R.fad f)) (us.take n) (ks.zip (us.drop n))) (EP X pins τ Q) X.xe s := by
  obtain ⟨fdat, ps, its, hk, hps, hd, hsh', run⟩ := F.ex
  have rl : Rls R H ws us := ⟨vs, rw_, r⟩
  obtain ⟨zs, e1, e2⟩ := hsh' _ hsh s us I.kIn (by rw [rl.length]; exact hl)
  obtain ⟨vz, z1, z2⟩ := bindP_rel (hd H) (rl.take n) (rl.drop n) hb e1
  refine wpAny_call (codeAny_mono (run X.A X.stack s H ⟨us.take n, ks.zip (us.drop n)⟩ zs vz bs S Q Qw _ hr hgd I.env0 e2 z2 z1 (bindP_len hb) hS h k) fun r s' hq => ?_)
  match r, hq with
  | .ok (.ret u), hq => exact I.after hq
  | .error e, hq => exact xe_call (E := fun _ _ _ => False) tk I hσ hq
theorem e_cF {lev : Nat} {c : Cal} {KXp : KXS} (tk : TK R X KXp) {f n : Nat} {fd : FD} {sh : List (Nat × List Nat × List Str)} (F : CFn R X.prog X.w X.K X.mg X.base lev c f fd sh) (hf : G.fn f = some fd) (hr : Room lev X.A) (hgd : X.A.guards = some []) {kw : List Nat} {ks : List Str} (hsh : (n, kw, ks) ∈ sh) {x : Str} {p : Pos}
    (hg : Gl X x) (hm : X.mg x = some (.ref (R.fad f))) (hdb : (x == ("__debug__" : Str)) = false) {es : List Expr} {kws : List Keyword} {tA tK : TA'} (hA : AL R X es n tA) (hK : KL R X kws ks kw.length tK) :
    PE X (.Call (.Name x p) es kws pos) (LE R (wCF G c KXp f n kw (aApp tA tK))) := by
  refine ⟨fun pins s τ H Q I h => ?_⟩
  obtain ⟨fdat, ps, its, hk, _⟩ := F.ex
  obtain ⟨σ, S, Qw, hσ, hS, h, k⟩ := h
  refine wpAny_Call_Name_kw (ld_glob I hg hm ?_ hdb)
  refine call_args hk hA hK I (P := fun vs H1 => ∃ ws S1 bs, RVs R H1 ws vs ∧ Sim R S1 H1 ∧ Fr S H S1 H1 ∧ ws.length = n + kw.length ∧ bindP fd.np fd.dfl (ws.take n) (kw.zip (ws.drop n)) = some bs ∧ c f bs S1 Qw (fun x S2 => KXp x σ S2) ∧ RS R H1 σ τ) (LA.go hσ hS h fun ws S1 vs H1 hl q1 r1 hS1 f1 hσ1 => ?_) fun us s1 vs H1 I1 r lu ⟨ws, S1, bs, r1, hS1, f1, hl, hb, hc, hσ1⟩ => ?_
  · have h' : (match G.fn f with
      | some fd => (match bindK fd n kw ws with
        | some vs => c f vs S1 Qw fun x S2 => KXp x σ S2
        | none => False)
      | none => False) := q1
    rw [hf] at h'
    have h2 : (match bindK fd n kw ws with
        | some vs => c f vs S1 Qw fun x S2 => KXp x σ S2
        | none => False) := h'
    unfold bindK at h2
    rw [if_pos hl] at h2
    cases e : bindP fd.np fd.dfl (ws.take n) (kw.zip (ws.drop n)) with
    | none => rw [e] at h2; exact h2.elim
    | some bs =>
      rw [e] at h2
      exact ⟨ws, S1, bs, r1, hS1, f1, hl, e, h2, hσ1⟩
  · exact run_cf (P := X.prog) (w0 := X.w) F hr hgd hsh tk hσ1 I1 r r1 hl hb hS1 hc (KV'.tr k f1)
end
end MP
/-! MPC: instances of the program's classes: made, their methods called. -/
namespace MP
open PySem L2 PyProof.Rows
section
variable {R : RC} {G : Gm} {X : Cx}
variable {a b d : Expr} {ta tb td : TE'} {pos : Pos}
/-- an instance is made -/
theorem run_mk {lev : Nat} {c : Cal} {f n k : Nat} {fd : FD} {sh : List (Nat × List Nat × List Str)} (M : Mk R.K (R.cad k) (R.fad f)) (hK : X.K = R.K) (F : CFn R X.prog X.w X.K X.mg X.base lev c f fd sh) (hr : Room (lev + 1) X.A) (hgd : X.A.guards = some []) {kw : List Nat} {ks : List Str} (hsh : (n + 1, kw, ks) ∈ sh)
    {pins : List (Addr × Obj)} {τ : L2.St} {H : Hp} {s : Shared} {Q : VK} {us : List Value} {vs : List V} {ws : List W} {S : Sto} {Qw : KE} {KXp : KXS} {σ : Sl} (tk : TK R X KXp) (hσ : RS R H σ τ) (I : L2.Inv X pins τ H s) (r : Vals vs us) (rw_ : RVs R H ws vs) (hl : ws.length = n + kw.length)
    (hS : Sim R S H) (h : ∀ p, S p = none → match bindK fd (n + 1) kw (.ref p :: ws) with
      | some vs => c f vs (ups S p (.ins k [])) (fun w S2 => w = .non ∧ Qw (.ref p) S2) fun x S2 => KXp x σ S2
      | none => False) (kq : KV' R S H Qw Q) : wpAny (model X.prog X.w) X.A (call (.ref (R.cad k)) (us.take n) (ks.zip (us.drop n))) (EP X pins τ Q) X.xe s := by
  obtain ⟨fdat, ps, its, hk, hps, hd, hsh', run⟩ := F.ex
  have I2 := Inv.made (C := R.cad k) I
  have fx : H (s.heap.objs.size + 1) = none := I.hok.fresh (Nat.le_succ _)
  have fdx : H s.heap.objs.size = none := I.hok.fresh (Nat.le_refl _)
  have ne : s.heap.objs.size ≠ s.heap.objs.size + 1 := Nat.ne_of_lt (Nat.lt_succ_self _)
  obtain ⟨d1, d2⟩ := hS.hid (u := .own (s.heap.objs.size + 1)) fdx
  have fx2 : (upd H s.heap.objs.size (.own (s.heap.objs.size + 1))) (s.heap.objs.size + 1) = none := by rw [upd_ne (Ne.symm ne)]; exact fx
  obtain ⟨e1, e2⟩ := d1.new (u := .ins (R.cad k) s.heap.objs.size []) (o := .ins k []) fx2 fun H2 _ _ q => ⟨_, [], q, rfl, rfl⟩
  have f12 := d2.trans e2
  have h2 := h (s.heap.objs.size + 1) (hS.no fx)
  unfold bindK at h2
  rw [if_pos (by simp [hl]; omega)] at h2
  cases eb : bindP fd.np fd.dfl ((W.ref (s.heap.objs.size + 1) :: ws).take (n + 1)) (kw.zip ((W.ref (s.heap.objs.size + 1) :: ws).drop (n + 1))) with
  | none => rw [eb] at h2; exact h2.elim
  | some bs =>
    rw [eb] at h2
    have lu : us.length = n + kw.length := by rw [← r.length, rw_.length, hl]
    have rl : Rls R _ (W.ref (s.heap.objs.size + 1) :: ws) (Value.ref (s.heap.objs.size + 1) :: us) := ⟨V.ref (s.heap.objs.size + 1) :: vs, .cons rfl (RVs.mono hS f12 _ _ rw_), .cons rfl r⟩
    obtain ⟨zs, b1, b2⟩ := hsh' _ hsh _ (Value.ref (s.heap.objs.size + 1) :: us) I2.kIn (by simp [lu]; omega)
    obtain ⟨vz, z1, z2⟩ := bindP_rel (hd _) (rl.take (n + 1)) (rl.drop (n + 1)) eb b1
    have KX : X.K.In s.heap := I.kIn
    refine wpAny_call (make_map (f := R.fad f) I.kIn (by rw [hK]; exact M.makes) (by rw [hK]; exact M.init) (by rw [hK]; exact beq_iff_eq.mp M.fn) (codeAny_mono (run _ X.stack _ _ ⟨Value.ref (s.heap.objs.size + 1) :: us.take n, ks.zip (us.drop n)⟩ zs vz bs _ (fun v H2 => v = .non ∧ Q (.ref (s.heap.objs.size + 1)) H2) _ _
      (hr.make (R.cad k) (us.take n) (ks.zip (us.drop n))) hgd (I2.env0.make (R.cad k) (us.take n) (ks.zip (us.drop n))) b2 z2 z1 (bindP_len eb) e1 h2 fun w S2 v H2 q1 r1 g1 g2 => ?_) fun r s' hq' => ?_))
    · obtain ⟨rfl, q2⟩ := q1
      exact ⟨r1, kq _ S2 _ H2 q2 rfl g1 (f12.trans g2)⟩
    · cases r with
      | error e => exact xe_call (E := fun _ _ _ => False) tk I2 (hσ.mono hS f12) hq'
      | ok fl =>
        cases fl with
        | ret u =>
          obtain ⟨v, H', I3, rv, ev, q3⟩ := I2.after hq'
          subst ev
          exact ⟨rv, ⟨V.ref (s.heap.objs.size + 1), H', I3, rfl, q3⟩⟩
        | next => exact False.elim hq'
        | brk => exact False.elim hq'
        | cont => exact False.elim hq'
theorem e_mk {lev : Nat} {c : Cal} {KXp : KXS} (tk : TK R X KXp) {f n k : Nat} {cd : CD} {fd : FD} {sh : List (Nat × List Nat × List Str)} (M : Mk R.K (R.cad k) (R.fad f)) (hK : X.K = R.K) (F : CFn R X.prog X.w X.K X.mg X.base lev c f fd sh) (hc : G.cd k = some cd) (hi : cd.init = some f) (hf : G.fn f = some fd) (hr : Room (lev + 1) X.A) (hgd : X.A.guards = some []) {kw : List Nat} {ks : List Str} (hsh : (n + 1, kw, ks) ∈ sh) {x : Str} {p : Pos}
    (hg : Gl X x) (hm : X.mg x = some (.ref (R.cad k))) (hdb : (x == ("__debug__" : Str)) = false) {es : List Expr} {kws : List Keyword} {tA tK : TA'} (hA : AL R X es n tA) (hKl : KL R X kws ks kw.length tK) :
    PE X (.Call (.Name x p) es kws pos) (LE R (wMk G c KXp k n kw (aApp tA tK))) := by
  refine ⟨fun pins s τ H Q I h => ?_⟩
  obtain ⟨σ, S, Qw, hσ, hS, h, kq⟩ := h
  refine wpAny_Call_Name_kw (ld_glob I hg hm ?_ hdb)
  refine call_args (by rw [hK]; exact M.kp) hA hKl I (P := fun vs H1 => ∃ ws S1, RVs R H1 ws vs ∧ Sim R S1 H1 ∧ Fr S H S1 H1 ∧ ws.length = n + kw.length ∧ (∀ p, S1 p = none → match bindK fd (n + 1) kw (.ref p :: ws) with
      | some vs => c f vs (ups S1 p (.ins k [])) (fun w S2 => w = .non ∧ Qw (.ref p) S2) fun x S2 => KXp x σ S2
      | none => False) ∧ RS R H1 σ τ) (LA.go hσ hS h fun ws S1 vs H1 hl q1 r1 hS1 f1 hσ1 => ?_) fun us s1 vs H1 I1 r lu ⟨ws, S1, r1, hS1, f1, hl, hc, hσ1⟩ => ?_
  · have h' : (match (G.cd k).bind CD.init with
      | some f => (match G.fn f with
        | some fd => ∀ p, S1 p = none → (match bindK fd (n + 1) kw (.ref p :: ws) with
          | some vs => c f vs (ups S1 p (.ins k [])) (fun w S2 => w = .non ∧ Qw (.ref p) S2) fun x S2 => KXp x σ S2
          | none => False)
        | none => False)
      | none => False) := q1
    rw [hc] at h'
    have h3 : (match cd.init with
      | some f => (match G.fn f with
        | some fd => ∀ p, S1 p = none → (match bindK fd (n + 1) kw (.ref p :: ws) with
          | some vs => c f vs (ups S1 p (.ins k [])) (fun w S2 => w = .non ∧ Qw (.ref p) S2) fun x S2 => KXp x σ S2
          | none => False)
        | none => False)
      | none => False) := h'
    rw [hi] at h3
    simp only [hf] at h3
    exact ⟨ws, S1, r1, hS1, f1, hl, h3, hσ1⟩
  · exact run_mk M hK F hr hgd hsh tk hσ1 I1 r r1 hl hS1 hc (KV'.tr kq f1)
/-- o.m(..), a method of the program's -/
theorem e_mO (E : E1 R G X) {lev : Nat} {c : Cal} {KXp : KXS} (tk : TK R X KXp) {n m : Nat} {kw : List Nat} {ks : List (List Nat)} {shs : Nat → List (Nat × List Nat × List Str)} (hF : ∀ k cd f, G.cd k = some cd → cd.mt.lookup m = some f → ∃ (fd : FD), G.fn f = some fd ∧ CFn R X.prog X.w X.K X.mg X.base lev c f fd (shs f)) (hsg : ∀ f q, q ∈ G.sh f → (q.1, q.2.1, q.2.2.map S') ∈ shs f) (hr : Room lev X.A)
    {apos : Pos} {es : List Expr} {kws : List Keyword} {tA tK : TA'} (ho : PE X a (LE R ta)) (hA : AL R X es n tA) (hKl : KL R X kws (ks.map S') kw.length tK)
    (hbase : attributeBase a (nm m) X.env (eval a X.env) = eval a X.env) (hfew : es.length + kws.length < 29) (hline : (apos.endLine == pos.line) = true) :
    PE X (.Call (.Attribute a (nm m) apos) es kws pos) (LE R (wMO G c KXp m n kw ks ta (aApp tA tK))) := by
  refine ⟨fun pins s τ H Q I h => ?_⟩
  obtain ⟨σ, S, Qw, hσ, hS, h, kq⟩ := h
  obtain ⟨g1, g2, g3, g4⟩ := hKl.all pos
  have g5 := hA.all pos
  refine call_meth hbase (by
    unfold methodCallForm
    rw [g5, g1]
    simp only [Bool.true_and, decide_eq_true_eq]
    split <;> omega) hline (thn (ho.run pins s τ H (fun x H1 => ∃ (p : Addr) (k : Nat) (cd : CD) (f : Nat) (dx : Addr) (fsr : List (Str × V)), x = .ref p ∧ H1 p = some (.ins (R.cad k) dx fsr) ∧ fsr.lookup (nm m) = none ∧ (G.sh f).contains (n + 1, kw, ks) = true ∧ G.cd k = some cd ∧ cd.mt.lookup m = some f ∧
      ∀ fd, G.fn f = some fd → LA R (n + kw.length) (aApp tA tK) τ H1 fun vs H2 => ∃ ws S2 bs, RVs R H2 (.ref p :: ws) (x :: vs) ∧ Sim R S2 H2 ∧ Fr S H S2 H2 ∧ ws.length = n + kw.length ∧ bindP fd.np fd.dfl ((W.ref p :: ws).take (n + 1)) (kw.zip ((W.ref p :: ws).drop (n + 1))) = some bs ∧ c f bs S2 Qw (fun x S3 => KXp x σ S3) ∧ RS R H2 σ τ) I (LE.go hσ hS h fun w S1 v H1 q1 r1 hS1 f1 hσ1 => ?_)) fun v s1 ⟨x, H1, I1, r1, p, k, cd, f, dx, fsr, ex, ea, hl0, hct, hc, hm, q1⟩ pl => ?_)
  · have h' : (match (generalizing := false) w with
      | .ref p => (match S1 p with
        | some (.ins k fs) => (match (G.cd k).bind fun cd => cd.mt.lookup m with
          | some f => (match G.fn f with
            | some fd => (fs.lookup m = none ∧ (G.sh f).contains (n + 1, kw, ks) = true) ∧ (aApp tA tK) σ S1 fun ws S2 => (match bindK fd (n + 1) kw (.ref p :: ws) with
              | some vs => c f vs S2 Qw fun x S3 => KXp x σ S3
              | none => False)
            | none => False)
          | none => False)
        | _ => False)
      | _ => False) := q1
    cases w with
    | ref p =>
      cases r1
      cases ea : S1 p with
      | none => simp only [ea] at h'
      | some oa => cases oa with
        | ins k fs =>
          simp only [ea] at h'
          cases hc : G.cd k with
          | none => rw [hc] at h'; exact h'.elim
          | some cd =>
            rw [hc] at h'
            have h2 : (match cd.mt.lookup m with
              | some f => (match G.fn f with
                | some fd => (fs.lookup m = none ∧ (G.sh f).contains (n + 1, kw, ks) = true) ∧ (aApp tA tK) σ S1 fun ws S2 => (match bindK fd (n + 1) kw (.ref p :: ws) with
                  | some vs => c f vs S2 Qw fun x S3 => KXp x σ S3
                  | none => False)
                | none => False)
              | none => False) := h'
            cases hm : cd.mt.lookup m with
            | none => rw [hm] at h2; exact h2.elim
            | some f =>
              rw [hm] at h2
              obtain ⟨fd, hfd, _⟩ := hF k cd f hc hm
              simp only [hfd] at h2
              obtain ⟨⟨hl0, hct⟩, h3⟩ := h2
              obtain ⟨dx, fsr, e1, e2, e3⟩ := hS1 p _ ea
              refine ⟨p, k, cd, f, dx, fsr, rfl, e1, ?_, hct, hc, hm, fun fd' hfd' => ?_⟩
              · have := lk_fs (f := m) e2 e3
                exact this.2 hl0
              rw [hfd] at hfd'
              cases hfd'
              refine LA.go hσ1 hS1 h3 fun ws S2 vs H2 hl q2 r2 hS2 f2 hσ2 => ?_
              have h4 : (match bindK fd (n + 1) kw (.ref p :: ws) with
                | some vs => c f vs S2 Qw fun x S3 => KXp x σ S3
                | none => False) := q2
              unfold bindK at h4
              rw [if_pos (by simp [hl]; omega)] at h4
              cases eb : bindP fd.np fd.dfl ((W.ref p :: ws).take (n + 1)) (kw.zip ((W.ref p :: ws).drop (n + 1))) with
              | none => rw [eb] at h4; exact h4.elim
              | some bs =>
                rw [eb] at h4
                exact ⟨ws, S2, bs, .cons rfl r2, hS2, f1.trans f2, hl, eb, h4, hσ2⟩
        | _ => simp only [ea] at h'
    | _ => exact h'.elim
  · obtain ⟨fd, hfd, F⟩ := hF k cd f hc hm
    have hsh := hsg f _ (List.contains_iff_mem.mp hct)
    have M := E.mt k cd m f hc hm
    have C := (E.own k (by rw [hc]; rfl)).1
    subst ex
    obtain rfl : v = Value.ref p := r1
    refine getmeth_ok I1 ea (by rw [E.K]; exact C) (by rw [E.K]; exact M) hl0 ?_
    refine call_args (first := [.ref p]) (by rw [E.K]; exact M.kp) hA hKl I1 (q1 fd hfd) fun us s2 vs H2 I2 r lu ⟨ws, S2, bs, r2, hS2, f2, hl, hb, hcc, hσ2⟩ => ?_
    have e1 : ([Value.ref p] ++ us.take n) = (Value.ref p :: us).take (n + 1) := rfl
    have e2 : us.drop n = (Value.ref p :: us).drop (n + 1) := rfl
    rw [e1, e2]
    exact run_cf (P := X.prog) (w0 := X.w) F hr E.gd hsh tk hσ2 I2 (vs := V.ref p :: vs) (.cons (show RelV (V.ref p) (Value.ref p) from rfl) r) r2 (by simp [hl]; omega) hb hS2 hcc (KV'.tr kq f2)
end
end MP
/-! MPV: sums and lists of a dict's values, max with a default, calls of functions that are held by names. -/
namespace MP
open PySem L2 PyProof.Rows
section
variable {R : RC} {G : Gm} {X : Cx}
variable {a b d : Expr} {ta tb td : TE'} {pos : Pos}
/-- a call of a built-in function with a dict's values -/
theorem views_fn {id : String} {u : Value} (x : Str) (hu : u = .builtin id) (hb : bootBuiltins x = some u) (hx : x ≠ "__name__") (hdb : (x == ("__debug__" : Str)) = false) (hg : Gl X x) (hm : X.mg x = none) {p apos mpos : Pos} {te : TE} (he : PE X a te) (hbase : attributeBase a "values" X.env (eval a X.env) = eval a X.env) (hline : (apos.endLine == mpos.line) = true)
    (hse : starEach [Expr.Call (.Attribute a "values" apos) [] [] mpos] X.env = [(false, eval (Expr.Call (.Attribute a "values" apos) [] [] mpos) X.env)]) {Fn : Addr → List (Key × V) → Hp → VK → Prop}
    (run : ∀ (pins : List (Addr × Obj)) (s : Shared) (σ : L2.St) (H : Hp) (Q : VK) (d v : Addr) (kvr : List (Key × V)) (vs : List (Key × Value)) (ep : Nat), L2.Inv X pins σ H s → kvr.length ≤ sizeLine → KV kvr vs → s.heap.IsValuesView v d → s.heap.DictAt (mixKind X.prog X.w) d vs ep → Fn d kvr H Q →
      wpAny (model X.prog X.w) X.A (call u [.ref v]) (EP X pins σ Q) X.xe s) :
    PE X (.Call (.Name x p) [.Call (.Attribute a "values" apos) [] [] mpos] [] pos) (fun σ H Q => te σ H fun x H1 => ∃ d kvr, x = V.ref d ∧ Rd H1 d (.dK kvr) ∧ Fn d kvr H1 Q) := by
  subst hu
  refine ⟨fun pins s σ H Q I h => ?_⟩
  refine wpAny_Call_Name_kw (ld_blt I hg hm hb ?_ hx hdb)
  rw [hse]
  refine PySem.callWith_builtin1 (wpAny_Call_method0_late hbase hline (thn (he.run pins s σ H _ I h) fun v s1 ⟨x, H1, I1, r1, d, kvr, ex, hd, q⟩ => ?_))
  subst ex
  obtain rfl : v = Value.ref d := r1
  obtain ⟨hz, hsys, vs, rel, dof⟩ := dk_rd I1.hok hd
  obtain ⟨ep, dat⟩ := dof.dictAt
  have dat' := dat
  obtain ⟨ob, es, ho, ex, hdat, hko, hpr, hnd⟩ := dat'
  refine ⟨"dict", "dict.values", F.plainAttrs_dict, F.slot_dict_values, F.type_dict_values, ⟨ob, ho, ex.1⟩, fun b e => ?_, Calls.callWith_builtin rfl (PySem.evalArgs_none ?_)⟩
  · cases e
    exact ⟨ob, ho, ex.2.1⟩
  refine call_meetsIn F.slot_dict_values ⟨ob, ho, ex.1⟩ F.entry_dict_values (F.args_dict_values_1 _) (meets_dict_values (mixKind X.prog X.w) d hsys) ⟨⟨vs, dof⟩, ?_⟩
  have k1 : ∀ b u, s1.heap.get? b = some u → (s1.heap.push { cls := .type "dict_values", data := .fields #[.ref d] }).get? b = some u := fun b u e => Heap.get?_push_of_some _ e
  exact run pins _ σ H1 Q d s1.heap.objs.size kvr vs ep (I1.kept (t' := s1.toks) k1) hz rel ⟨_, Heap.get?_push_size _ rfl, rfl, rfl⟩ (dat.keep k1) q
theorem sum_pre : ∀ (ns : List Int) (f : Nat → Int), (∀ i n, ns[i]? = some n → f i = n) → preSum f ns.length = ns.sum
  | [], f, h => rfl
  | n :: ns, f, h => by
    rw [List.length_cons, PySem.W.kdu_shift, h 0 n rfl, sum_pre ns _ fun i m hm => h (i + 1) m (by simpa using hm), List.sum_cons]
theorem kv_valsL {κ : Type} {kvs : List (κ × V)} {vs : List (κ × Value)} (r : KV kvs vs) : Vals (kvs.map (·.2)) (vs.map (·.2)) := by
  unfold KV at r
  induction r with
  | nil => exact .nil
  | cons r t ih => exact .cons r.2 ih
theorem e_sumv (E : E1 R G X) {p apos mpos : Pos} (hg : Gl X "sum") (hm : X.mg "sum" = none) (ha : PE X a (LE R ta)) (hbase : attributeBase a "values" X.env (eval a X.env) = eval a X.env) (hline : (apos.endLine == mpos.line) = true)
    (hse : starEach [Expr.Call (.Attribute a "values" apos) [] [] mpos] X.env = [(false, eval (Expr.Call (.Attribute a "values" apos) [] [] mpos) X.env)]) : PE X (.Call (.Name "sum" p) [.Call (.Attribute a "values" apos) [] [] mpos] [] pos) (LE R (wCB .sumv (aCons ta aNil))) := by
  refine PE.imp (views_fn (u := .builtin "sum") "sum" rfl (by rfl) (by decide) (by decide) hg hm ha hbase hline hse (Fn := fun d kvr H Q => ∃ ns : List Int, kvr.map (·.2) = ns.map V.int ∧ Q (.int ns.sum) H) ?_) fun τ H Q h => ?_
  · rintro pins s σ H Q d v kvr vs ep I hz rel hv dat ⟨ns, e, q⟩
    have hlv : vs.length = ns.length := by
      have e1 := congrArg List.length e
      rw [List.length_map, List.length_map] at e1
      rw [← e1]
      exact (KV.length rel).symm
    refine call_sum_walkAnyS (wpAny_pyIter_values hv dat ⟨_, _, _, _, vs.length, _, _, fun i => ns.getD i 0, rfl, (Walks.dictValues (knd := mixKind X.prog X.w) (A := X.A.in1) (I.ok.hd E.calm) s.heap.objs.size d (Nat.ne_of_lt dat.lt_size) vs ep).toS, ⟨⟨_, Heap.get?_push_size _ rfl, rfl, rfl⟩, dat.push _⟩, fun b hb => ?_, fun i v ⟨k, hk⟩ => ?_, fun s' t' hm' => ?_⟩)
    · show b < (s.heap.push _).objs.size
      rw [Heap.size_push]
      rcases List.mem_cons.mp hb with e | hb
      · rw [e]; exact Nat.lt_succ_self _
      · rw [List.mem_singleton.mp hb]; exact Nat.lt_succ_of_lt dat.lt_size
    · obtain ⟨x, h1, h2⟩ := KV.at' rel hk
      have e1 : (kvr.map (·.2))[i]? = some x := by rw [List.getElem?_map, h1] <;> rfl
      rw [e, List.getElem?_map] at e1
      obtain ⟨j, hj, e2⟩ := Option.map_eq_some_iff.mp e1
      subst e2
      obtain ⟨t, e3⟩ := h2
      refine ⟨t, ?_⟩
      show v = Value.int (ns.getD i 0) t
      rw [e3, List.getD_eq_getElem?_getD, hj] <;> rfl
    · rw [Moved.eq_with hm', hlv, sum_pre ns _ fun i n hn => by rw [List.getD_eq_getElem?_getD, hn]; rfl]
      exact ⟨.int _, H, I.kept (t' := s'.toks) fun b o eo => hm'.heap b o (fun hI => absurd (Heap.lt_size eo) (by rw [List.mem_singleton.mp hI]; exact Nat.lt_irrefl _)) (Heap.get?_push_of_some _ eo), ⟨_, rfl⟩, q⟩
  · obtain ⟨σ, S, Qw, hσ, hS, h, k⟩ := h
    refine LE.go hσ hS h fun w S1 v H1 q1 r1 hS1 f1 hσ1 => ?_
    have h' : (match dctW S1 w with
      | some kvs => (match intsW (kvs.map (·.2)) with
        | some ns => Qw (.int ns.sum) S1
        | none => False)
      | none => False) := q1
    cases e : dctW S1 w with
    | none => rw [e] at h'; exact h'.elim
    | some kvs =>
      rw [e] at h'
      simp only at h'
      cases e2 : intsW (kvs.map (·.2)) with
      | none => rw [e2] at h'; exact h'.elim
      | some ns =>
        rw [e2] at h'
        obtain ⟨d, kvr, rfl, hd, e3, e4⟩ := dct_V e r1 hS1
        exact ⟨d, kvr, rfl, hd, ns, ints_V e2 e4, k _ S1 _ H1 h' rfl hS1 f1⟩
/-! ### list(d.values()) -/
theorem e_listv (E : E1 R G X) {p apos mpos : Pos} (hg : Gl X "list") (hm : X.mg "list" = none) (ha : PE X a (LE R ta)) (hbase : attributeBase a "values" X.env (eval a X.env) = eval a X.env) (hline : (apos.endLine == mpos.line) = true)
    (hs : starEach [Expr.Call (.Attribute a "values" apos) [] [] mpos] X.env = (false, eval (Expr.Call (.Attribute a "values" apos) [] [] mpos) X.env) :: starEach [] X.env) : PE X (.Call (.Name "list" p) [.Call (.Attribute a "values" apos) [] [] mpos] [] pos) (LE R (wCB .listv (aCons ta aNil))) := by
  have main : PE X (.Call (.Name "list" p) [.Call (.Attribute a "values" apos) [] [] mpos] [] pos) (fun σ H Q => LE R ta σ H fun x H1 => ∃ d kvr, x = V.ref d ∧ Rd H1 d (.dK kvr) ∧ ∀ q, H1 q = none → Q (.ref q) (upd H1 q (.lst (kvr.map (·.2))))) := by
    refine ⟨fun pins s σ H Q I hq => ?_⟩
    refine wpAny_Call_Name_kw (ld_blt I hg hm (u := .type "list") (by rfl) ?_ (by decide) (by decide))
    refine PyProof.Rows.callWith_type1 ?_ hs rfl
    rw [hs]
    show wpAny _ _ (spliced ((false, eval (.Call (.Attribute a "values" apos) [] [] mpos) X.env) :: backTo pos (starEach [] X.env))) _ _ s
    refine Calls.spliced_cons ?_
    refine wpAny_Call_method (T := "dict") (id := "dict.values") hbase rfl hline F.plainAttrs_dict F.slot_dict_values F.type_dict_values (thn (ha.run pins s σ H _ I hq) fun u s1 ⟨x, H1, I1, rx, d, kvr, ex, hd, q⟩ => ?_)
    subst ex
    obtain rfl : u = Value.ref d := rx
    obtain ⟨hz, hs0, vs, kv, hdo⟩ := dk_rd I1.hok hd
    obtain ⟨ep, hat⟩ := hdo.dictAt
    have lk : kvr.length = vs.length := Paired.length kv
    refine ⟨hdo.typeIs, hdo.mapOf.noDict, ?_⟩
    show wpAny _ _ (callWith mpos (.builtin "dict.values") [.ref d] [] []) _ X.xe s1
    refine method_meetsIn F.slot_dict_values F.entry_dict_values rfl (PySem.evalArgs_none ⟨rfl, hdo.typeIs, F.args_dict_values_1 _, _, meets_dict_values (mixKind X.prog X.w) d hs0, ⟨vs, hdo⟩, ?_⟩)
    refine Calls.spliced_nil ?_
    have I2 : L2.Inv X pins σ H1 { s1 with heap := s1.heap.push { cls := .type "dict_values", data := .fields #[.ref d] } } := I1.kept (t' := s1.toks) fun b ob q => Heap.get?_push_of_some _ q
    have at2 := hat.push { cls := .type "dict_values", data := .fields #[.ref d] }
    refine PySem.W.kdl_call (s := { s1 with heap := s1.heap.push { cls := .type "dict_values", data := .fields #[.ref d] } }) (PySem.W.kdl_values (prog := X.prog) (w := X.w) (knd := mixKind X.prog X.w) (r := s1.heap.objs.size) (d := d) (kvs := vs) (ep := ep)) (I1.ok.hd E.calm) ⟨⟨_, Heap.get?_push_size _ rfl, rfl, rfl⟩, at2⟩ (by omega) fun h' tk acc c hk hD hacc => ?_
    have ei : acc.toList = vs.map (·.2) := PySem.W.kdl_vals_eq acc.toList (by rw [Array.length_toList]; exact hacc.1) fun j v e => hacc.2 j v (by rw [← Array.getElem?_toList]; exact e)
    refine ⟨.ref _, upd H1 _ (.lst (kvr.map (·.2))), I2.laid (t' := tk) hk (Nat.le_refl _) (show ObjOk X.prog X.w _ _ _ (.lst (kvr.map (·.2))) from ⟨by rw [List.length_map]; exact hz, acc.toList, c, ?_, by rw [Array.toArray_toList]; exact hD⟩), rfl, q _ (I2.hok.fresh (Nat.le_refl _))⟩
    rw [ei]
    clear hacc ei lk hat at2 hdo
    exact kv_valsL kv
  refine PE.imp (PE.cl main) fun τ H Q h => ?_
  obtain ⟨σ, S, Qw, hσ, hS, h, k⟩ := h
  refine LE.go hσ hS h fun w S1 v H1 q1 r1 hS1 f1 hσ1 => ?_
  have h' : (match dctW S1 w with
    | some kvs => newL (kvs.map (·.2)) S1 Qw
    | none => False) := q1
  cases e : dctW S1 w with
  | none => rw [e] at h'; exact h'.elim
  | some kvs =>
    rw [e] at h'
    obtain ⟨d, kvr, rfl, hd, e3, e4⟩ := dct_V e r1 hS1
    exact ⟨d, kvr, rfl, hd, fun q hq => new_lst hS1 (KV'.tr k f1) h' hq e4⟩
/-! ### max(xs, default=d) -/
theorem reads_ints {h : Heap} : ∀ {ns : List Int} {us : List Value}, Vals (ns.map V.int) us → ∃ as, ReadsAll h us (ns.map .int) as
  | [], us, r => by cases r; exact ⟨_, .nil⟩
  | n :: ns, us, r => by
    cases r with
    | cons r rs =>
      obtain ⟨t, rfl⟩ := r
      obtain ⟨as, z⟩ := reads_ints rs
      exact ⟨_, .cons (.int n t) z⟩
theorem depth_ints : ∀ ns : List Int, PyData.depthAll (ns.map .int) ≤ 1
  | [] => by simp [PyData.depthAll]
  | n :: ns => by
    have := depth_ints ns
    simp only [List.map_cons, PyData.depthAll, PyData.depth]
    omega
theorem alike_intsA (ns : List Int) : PySem.W.AlikeAll (ns.map .int) := by
  constructor
  · intro x hx y hy
    obtain ⟨a, _, rfl⟩ := List.mem_map.mp hx
    obtain ⟨b, _, rfl⟩ := List.mem_map.mp hy
    rfl
  · intro x hx
    obtain ⟨a, _, rfl⟩ := List.mem_map.mp hx
    intro z
    cases z
def LC2 (R : RC) (t : List W → Sto → KE → Prop) : List V → List V → Hp → VK → Prop := fun xs zs H Q => ∃ ws us S Qw, RVs R H ws xs ∧ RVs R H us zs ∧ ws.length = 1 ∧ us.length = 1 ∧ Sim R S H ∧ t (ws ++ us) S Qw ∧ KV' R S H Qw Q
theorem ok_maxd (E : E1 R G X) : CallRK X (.builtin "max") ["default"] (LC2 R (biW .maxd)) := by
  intro pins s σ H xs zs us ws Q I r1 r2 h
  obtain ⟨ws', us', S, Qw, hr, hz, l1, l2, hS, h, k⟩ := h
  match ws', us', l1, l2, h with
  | [w], [d], _, _, h =>
    obtain ⟨x, rfl, rx⟩ := rvs1 hr
    obtain ⟨y, rfl, ry⟩ := rvs1 hz
    obtain ⟨u, rfl, ru⟩ := vals1 r1
    obtain ⟨z, rfl, rz⟩ := vals1 r2
    have h2 : (match rowL S w with
      | some ws => (match intsW ws with
        | some (n :: ns) => Qw (.int (ns.foldl max n)) S
        | some [] => Qw d S
        | none => False)
      | none => False) := h
    cases e : rowL S w with
    | none => rw [e] at h2; exact h2.elim
    | some qs =>
      rw [e] at h2
      simp only at h2
      cases eb : intsW qs with
      | none => rw [eb] at h2; exact h2.elim
      | some bs =>
        rw [eb] at h2
        obtain ⟨p, vs, rfl, hp, hv⟩ := row_sqL E.K e rx hS
        rw [ints_V eb hv] at hp
        cases ru
        obtain ⟨its, rv, hl, _⟩ := I.list hp
        obtain ⟨as, hra⟩ := reads_ints (h := s.heap) rv
        have un := E.un
        have hd := depth_ints bs
        show wpAny _ _ (call (.builtin "max") [.ref p] [("default", z)]) _ _ s
        refine PySem.W.max_list_default (xs := bs.map .int) (I.ok.hd E.calm) hl.isList (by simpa using hra) (alike_intsA bs) (by omega) (fun e0 h' tk hk => ?_) fun y' ys' i v' h' tk bs' e0 hi hrd hk => ?_
        · have : bs = [] := by simpa using e0
          subst this
          exact ⟨y, H, I.kept hk, rz, k.same hS h2 ry⟩
        · cases bs with
          | nil => cases e0
          | cons n ns =>
            obtain ⟨rfl, rfl⟩ := List.cons.inj (show PyData.int n :: ns.map .int = y' :: ys' from e0)
            rw [PySem.W.maxD_ints] at hrd
            cases hrd
            exact ⟨.int _, H, I.kept hk, ⟨_, rfl⟩, k.same hS h2 rfl⟩
theorem e_maxd (E : E1 R G X) {p kpos : Pos} (hg : Gl X "max") (hm : X.mg "max" = none) (ha : PE X a (LE R ta)) (hb : PE X b (LE R tb)) (hs : starEach [a] X.env = (false, eval a X.env) :: starEach [] X.env) : PE X (.Call (.Name "max" p) [a] [⟨some "default", b, kpos⟩] pos) (LE R (wCB .maxd (aCons ta (aCons tb aNil)))) := by
  refine PE.imp (pe_callBK (pos := pos) (p := p) (ok_maxd E) hg hm (by rfl) (pa_cons ha pa_nil hs) (pk_cons (kpos := kpos) (nm := some "default") hb pk_nil) (by decide) (by decide) (by rw [hs]; rfl) (by rw [hs]; rfl)) fun τ H Q h => ?_
  obtain ⟨σ, S, Qw, hσ, hS, h, k⟩ := h
  refine LE.go hσ hS h fun w S1 v H1 q1 r1 hS1 f1 hσ1 => LE.go hσ1 hS1 q1 fun w2 S2 v2 H2 q2 r2 hS2 f2 hσ2 => ?_
  exact ⟨[w], [w2], S2, Qw, .one (RV.mono hS1 f2 _ _ r1), .one r2, rfl, rfl, hS2, q2, KV'.tr k (f1.trans f2)⟩
/-! ### sum(xs, start=0) -/
theorem args_sum_st (a v : Value) : argsOk "sum" ⟨[a], [(Str.ofString "start", v)]⟩ := by unfold argsOk; kernel_rfl
theorem sum_st {prog : Program} {w : World} {A : Around} {E : Value → Shared → Prop} {s : Shared} {l : Addr} {vs : Array Value} {ns : List Int} {t0 : Tok} {Q : Value → Shared → Prop} (hh : A.handled = none) (hl : s.heap.IsList l vs) (hn : vs.size = ns.length) (hv : ∀ i v, vs[i]? = some v → ∃ t, v = Value.int (ns.getD i 0) t)
    (h : ∀ h' tk t, (∀ b o, s.heap.get? b = some o → h'.get? b = some o) → Q (.int (preSum (fun i => ns.getD i 0) ns.length) t) { s with heap := h', toks := tk }) : wpAny (model prog w) A (call (.builtin "sum") [.ref l] [(Str.ofString "start", .int 0 t0)]) Q E s := by
  refine PyProof.Rows.kmk_tree F.kind_sum F.plain_sum F.entry_sum (args_sum_st _ _) ?_
  show wpAny _ A.in1 (Builtin.Builtins.bindParams "sum" ["start"] 0 ⟨[], [(Str.ofString "start", .int 0 t0)]⟩ >>= _) _ _ s
  refine wpAny_bind (wpAny_of_eq (show Builtin.Builtins.bindParams "sum" ["start"] 0 ⟨[], [(Str.ofString "start", .int 0 t0)]⟩ = pure [some (.int 0 t0)] from rfl) ?_)
  refine wpAny_bind (PySem.W.iter_listW (A := A.in1) hh hl fun s2 e W st hfp hw hk => ?_)
  refine wpAny_bind (wpAny_rule ?_)
  refine wpAny_bind (wpAny_mkInt ?_)
  refine wpAny_bind (wpAny_pure ?_)
  simp only [List.forIn_cons, List.forIn_nil]
  have ty : ∀ (T : String) (t : Tok) (s' : Shared) (Q' : Bool → Shared → Prop) (E' : Value → Shared → Prop), isSubtype (.type "int") (.type T) = pure false → Q' false s' → wpAny (model prog w) A.in1 (isInstance (.int 0 t) (.type T)) Q' E' s' := fun T t s' Q' E' hs hq =>
    wpAny_isInstance (T := "int") (b := false) (typeIs_int _ _ _) hs hq
  refine wpAny_bind (wpAny_bind (wpAny_bind (ty _ _ _ _ _ PySem.sub_int_str ?_)))
  simp only [Bool.false_eq_true, if_false]
  refine wpAny_pure (wpAny_bind (wpAny_bind (ty _ _ _ _ _ PySem.sub_int_bytes ?_)))
  simp only [Bool.false_eq_true, if_false]
  refine wpAny_pure (wpAny_bind (wpAny_bind (ty _ _ _ _ _ PySem.sub_int_bytearray ?_)))
  simp only [Bool.false_eq_true, if_false]
  refine wpAny_pure (wpAny_pure ?_)
  refine wpAny_bind (wpAny_newObj_type ?_)
  have hSf : s2.heap.objs.size ∉ [s.heap.objs.size, l] := fun m => Nat.lt_irrefl _ (hfp _ m)
  have st' := W.frame 0 s2 (s2.heap.push { cls := .type "list", data := .seq #[.int 0 s2.toks] }) (s2.toks + 1) st (Nat.le_succ _) fun b _ o e => Heap.get?_push_of_some _ e
  refine wpAny_pure ⟨plainId_quiet F.plain_sum_loop _, codeAny_sum_loopAnyS W (fun i => ns.getD i 0) hv s2.heap.objs.size hSf vs.size 0 _ s2.toks 0 0 (.inl rfl) rfl (Nat.zero_le _) st' (Heap.get?_push_size _ rfl) fun s' t' hm => ?_⟩
  obtain ⟨h', tk, rfl, hk'⟩ := PySem.W.moved_old e rfl (hm.drop_new (by first | exact Nat.le_refl _ | exact Nat.le_succ _))
  rw [hn]
  exact h h' tk t' hk'
theorem ok_sum0 (E : E1 R G X) : CallRK X (.builtin "sum") ["start"] (LC2 R (biW .sum0)) := by
  intro pins s σ H xs zs us ws Q I r1 r2 h
  obtain ⟨ws', us', S, Qw, hr, hz, l1, l2, hS, h, k⟩ := h
  match ws', us', l1, l2, h with
  | [w], [.int 0], _, _, h =>
    obtain ⟨x, rfl, rx⟩ := rvs1 hr
    obtain ⟨y, rfl, ry⟩ := rvs1 hz
    obtain ⟨u, rfl, ru⟩ := vals1 r1
    obtain ⟨z, rfl, rz⟩ := vals1 r2
    cases ry
    obtain ⟨tz, rfl⟩ := rz
    have h2 : (match rowL S w with
      | some ws => (match intsW ws with
        | some ns => Qw (.int ns.sum) S
        | none => False)
      | none => False) := h
    cases e : rowL S w with
    | none => rw [e] at h2; exact h2.elim
    | some qs =>
      rw [e] at h2
      simp only at h2
      cases eb : intsW qs with
      | none => rw [eb] at h2; exact h2.elim
      | some bs =>
        rw [eb] at h2
        obtain ⟨p, vs, rfl, hp, hv⟩ := row_sqL E.K e rx hS
        rw [ints_V eb hv] at hp
        cases ru
        obtain ⟨its, rv, hl, _⟩ := I.list hp
        have lb : its.length = bs.length := by have := rv.length; simpa using this.symm
        refine sum_st (ns := bs) (I.ok.hd E.calm) hl.isList (by simpa using lb) (fun i v e => ?_) fun h' tk t hk => ?_
        · have e' : its[i]? = some v := by simpa using e
          have hi : i < bs.length := by rw [← lb]; exact (List.getElem?_eq_some_iff.mp e').1
          obtain ⟨u2, e2, r2'⟩ := rv.get (i := i) (x := V.int bs[i]) (by rw [List.getElem?_map, List.getElem?_eq_getElem hi]; rfl)
          rw [e'] at e2
          cases e2
          obtain ⟨t, rfl⟩ := r2'
          exact ⟨t, by rw [List.getD_eq_getElem?_getD, List.getElem?_eq_getElem hi]; rfl⟩
        · rw [sum_pre bs _ fun i n hn => by rw [List.getD_eq_getElem?_getD, hn]; rfl]
          exact ⟨.int _, H, I.kept hk, ⟨_, rfl⟩, k.same hS h2 rfl⟩
theorem e_sum0 (E : E1 R G X) {p kpos : Pos} (hg : Gl X "sum") (hm : X.mg "sum" = none) (ha : PE X a (LE R ta)) (hb : PE X b (LE R tb)) (hs : starEach [a] X.env = (false, eval a X.env) :: starEach [] X.env) : PE X (.Call (.Name "sum" p) [a] [⟨some "start", b, kpos⟩] pos) (LE R (wCB .sum0 (aCons ta (aCons tb aNil)))) := by
  refine PE.imp (pe_callBK (pos := pos) (p := p) (ok_sum0 E) hg hm (by rfl) (pa_cons ha pa_nil hs) (pk_cons (kpos := kpos) (nm := some "start") hb pk_nil) (by decide) (by decide) (by rw [hs]; rfl) (by rw [hs]; rfl)) fun τ H Q h => ?_
  obtain ⟨σ, S, Qw, hσ, hS, h, k⟩ := h
  refine LE.go hσ hS h fun w S1 v H1 q1 r1 hS1 f1 hσ1 => LE.go hσ1 hS1 q1 fun w2 S2 v2 H2 q2 r2 hS2 f2 hσ2 => ?_
  exact ⟨[w], [w2], S2, Qw, .one (RV.mono hS1 f2 _ _ r1), .one r2, rfl, rfl, hS2, q2, KV'.tr k (f1.trans f2)⟩
/-! ### a function held by a name -/
theorem e_cV {lev : Nat} {c : Cal} {KXp : KXS} (tk : TK R X KXp) {n : Nat} {shs : Nat → List (Nat × List Nat × List Str)} (cf : ∀ f fd, G.fn f = some fd → CFn R X.prog X.w X.K X.mg X.base lev c f fd (shs f)) (hsg : ∀ f q, q ∈ G.sh f → (q.1, q.2.1, q.2.2.map S') ∈ shs f) (hr : Room lev X.A) (hgd : X.A.guards = some [])
    {x : Str} {p : Pos} (hg : PE X (.Name x p) (LE R ta)) {es : List Expr} {tA : TA'} (hA : AL R X es n tA) : PE X (.Call (.Name x p) es [] pos) (LE R (wCV G c KXp ta (aApp tA aNil))) := by
  refine ⟨fun pins s τ H Q I h => ?_⟩
  obtain ⟨σ, S, Qw, hσ, hS, h, k⟩ := h
  refine wpAny_Call_Name_kw (thn (hg.run pins s τ H (fun v H1 => ∃ f fd, v = .ref (R.fad f) ∧ G.fn f = some fd ∧ LA R (n + 0) (aApp tA aNil) τ H1 fun vs H2 => ∃ ws S2 bs, RVs R H2 ws vs ∧ Sim R S2 H2 ∧ Fr S H S2 H2 ∧ ws.length = n + 0 ∧ (G.sh f).contains (n, [], []) = true ∧ bindP fd.np fd.dfl (ws.take n) ([].zip (ws.drop n)) = some bs ∧ c f bs S2 Qw (fun x S3 => KXp x σ S3) ∧ RS R H2 σ τ) I (LE.go hσ hS h fun w S1 v H1 q1 r1 hS1 f1 hσ1 => ?_)) fun u s1 ⟨v, H1, I1, ru, f, fd, ev, hf, q⟩ => ?_)
  · cases w with
    | fn f =>
      have h' : (match G.fn f with
        | some fd => (aApp tA aNil) σ S1 fun ws S2 => (G.sh f).contains (ws.length, [], []) = true ∧ (match bindK fd ws.length [] ws with
          | some vs => c f vs S2 Qw fun x S3 => KXp x σ S3
          | none => False)
        | none => False) := q1
      cases hf : G.fn f with
      | none => rw [hf] at h'; exact h'.elim
      | some fd =>
        rw [hf] at h'
        refine ⟨f, fd, r1, hf, LA.go hσ1 hS1 h' fun ws S2 vs H2 hl q2 r2 hS2 f2 hσ2 => ?_⟩
        obtain ⟨hc, q3⟩ := q2
        have hl' : ws.length = n := hl
        rw [hl'] at hc q3
        unfold bindK at q3
        rw [if_pos (by simp [hl'])] at q3
        cases eb : bindP fd.np fd.dfl (ws.take n) ([].zip (ws.drop n)) with
        | none => rw [eb] at q3; exact q3.elim
        | some bs =>
          rw [eb] at q3
          exact ⟨ws, S2, bs, r2, hS2, f1.trans f2, hl, hc, eb, q3, hσ2⟩
    | _ => exact (show False from q1).elim
  · subst ev
    obtain rfl : u = Value.ref (R.fad f) := ru
    have F := cf f fd hf
    obtain ⟨fdat, ps, its, hk, _⟩ := F.ex
    refine call_args (ks := []) (m := 0) hk hA .nil I1 q fun us s2 vs H2 I2 r lu ⟨ws, S2, bs, r2, hS2, f2, hl, hc, hb, hcc, hσ2⟩ => ?_
    have hsh := hsg f _ (List.contains_iff_mem.mp hc)
    exact run_cf (P := X.prog) (w0 := X.w) (kw := []) F hr hgd hsh tk hσ2 I2 r r2 hl hb hS2 hcc (KV'.tr k f2)
end
end MP
/-! MPO: len, bool, str, repr of own instances. -/
namespace GOwn
open PySem PySem.W PyProof.Rows Builtin
section
variable {prog : Program} {w : World} {A : Around} {E : Value → Shared → Prop} {s : Shared} {K : Frag} {x C f : Addr} {ox : Obj} {od : Option Obj}
theorem len_body {Q : Value → Shared → Prop} (X : K.In s.heap) (I : InstAt s.heap x ox C od) (hs : findIn K (.ref C) "__len__" = some (some (.ref f))) (hf : isFn K (.ref f) = true)
    (h : wpAny (model prog w) A (call (.ref f) [.ref x]) (W.LenBack Q) E s) : wpAny (model prog w) A (Builtin.«len» ⟨[.ref x], []⟩) (fun fin s' => ∃ r, fin = .done (.ret r) ∧ Q r s') E s := by
  unfold Builtin.«len»; refine wpAny_bind (m := oneArg "len" _) (wpAny_pure (wpAny_bind (m := callSpecial? (.ref x) (Str.ofString "__len__")) (special_fn X I hs (beq_iff_eq.mp hf) (wpAny_mono h (fun r s' hr => ?_) fun _ _ y => y))))
  cases r <;> first | exact hr.elim | (rename_i n u; obtain ⟨⟨h0, h1⟩, hq⟩ := hr; refine wpAny_bind (wpAny_holding (wpAny_pure (wpAny_bind (wpAny_letGo ?_)))); show wpAny _ _ (if n < 0 then _ else _) _ _ _; rw [if_neg (by omega)]; show wpAny _ _ (if n ≥ 2 ^ 63 then _ else _) _ _ _; rw [if_neg (by omega)]; exact wpAny_bind (wpAny_mkInt (wpAny_pure ⟨_, rfl, hq⟩)))
/-- a truth by the own __len__ -/
theorem truthy_len {Q : Bool → Shared → Prop} (X : K.In s.heap) (I : InstAt s.heap x ox C od) (hb : findIn K (.ref C) "__bool__" = some none) (hs : findIn K (.ref C) "__len__" = some (some (.ref f))) (hf : isFn K (.ref f) = true)
    (h : wpAny (model prog w) A.in1 (call (.ref f) [.ref x]) (W.LenBack fun v s' => ∃ n t, v = .int n t ∧ Q (n != 0) s') E s) : wpAny (model prog w) A (truthy (.ref x)) Q E s := by
  have key : wpAny (model prog w) A (runValue (.builtin "len" ⟨[.ref x], []⟩)) (fun r s' => ∃ n t, r = .int n t ∧ Q (n != 0) s') E s := by
    refine wpAny_runValue (codeAny_builtin entry_len ?_); rw [Around.under_plainId plain_len _]; exact wpAny_mono (len_body (Q := fun r s' => ∃ n t, r = .int n t ∧ Q (n != 0) s') X I hs hf h) (fun fin s' h' => by obtain ⟨r, rfl, hq⟩ := h'; exact hq) fun _ _ e => e
  unfold truthy; refine wpAny_bind (m := callSpecial? (.ref x) (Str.ofString "__bool__")) (wpAny_bind (wpAny_bind (I.type.here ((looks_findIn X hb).here (wpAny_pure (wpAny_bind (wpAny_bind (I.type.here ((looks_findIn X hs).here ?_)))))))))
  show wpAny _ _ (if (some (Value.ref f)).isNone = true then _ else _) _ _ _; rw [if_neg (by simp)]; refine wpAny_bind (wpAny_mono key (fun r s' hr => ?_) fun _ _ y => y); obtain ⟨n, t, rfl, hq⟩ := hr; exact wpAny_pure hq
theorem bool_own {y : Value} {Q : Value → Shared → Prop} (h : wpAny (model prog w) A.in1.in1 (truthy y) (fun b s' => Q (.bool b) s') E s) : wpAny (model prog w) A (call (.type "bool") [y]) Q E s := by
  refine callType_codes (T := "bool") (Bi := Builtin.«object.__init__») (Q₁ := fun r s₁ => ∃ b, r = .bool b ∧ Q r s₁) PySem.F.called_bool (PySem.F.typeCall_bool_1 _) PySem.F.entry_object_init (codeAny_of_tree ?_) ?_
  · show wpAny _ A.in1.in1 (do checkBuiltinCall "bool.__new__" ⟨[.type "bool", y], []⟩; again (.builtin "bool.__new__" ⟨[.type "bool", y], []⟩)) _ _ s
    refine wpAny_bind (wpAny_of_eq (PySem.F.newCall_bool_1 _) (wpAny_pure ⟨plainId_quiet (by decide +kernel) _, codeAny_builtin PySem.F.entry_bool_new ?_⟩)); rw [Around.under_plainId (by decide +kernel) _]; have f1 := PySem.F.conv_sub_bool; obtain ⟨hp, g, d, tk, os⟩ := s
    unfold Builtin.«bool.__new__»; (repeat (any_goals (first | assumption | (with_reducible refine wpAny_bind (m := truthy y) (wpAny_mono h (fun b s' hb => ?_) fun _ _ z => z)) | wp_step))); all_goals exact ⟨_, rfl, hb⟩
  · rintro obj s₁ ⟨b, rfl, hq⟩; exact ⟨PySem.typeIs_bool _ _, PySem.F.args_object_init_2 _ _, object_init_meets PySem.F.called_bool.init.lookup PySem.F.called_bool.made (by decide) prog w A.in1 _ s₁ ⟨PySem.typeIs_bool _ _, rfl, hq⟩⟩
/-- a built-in special method, bound -/
theorem ifBound_B {M : Model} {A : Around} {E : Value → Shared → Prop} {s : Shared} {name : Str} {id : String} {args : List Value} {Q : Option Value → Shared → Prop} (X : K.In s.heap) (I : InstAt s.heap x ox C od) (hs : findIn K (.ref C) name = some (some (.builtin id))) (hb : ∀ self, bindSpecial (.builtin id) self = pure (.builtin id, [self]))
    (h : wpAny M A (call (.builtin id) (.ref x :: args)) (fun v => Q (some v)) E s) : wpAny M A (callSpecialIfBound? (.ref x) name args) Q E s := by
  simp only [callSpecialIfBound?, bindSpecialIfBound?]; refine wpAny_holding (wpAny_bind (wpAny_bind (wpAny_bind (I.type.here ((looks_findIn X hs).here (wpAny_bind (wpAny_askSetting (wpAny_ite ?_))))))))
  have fin : wpAny M A (call (.builtin id) ([.ref x] ++ args) >>= fun v => pure (some v)) Q E s := wpAny_bind (wpAny_mono h (fun v s' h' => wpAny_pure h') fun _ _ h' => h')
  split <;> first | exact wpAny_bind ((Looks.of_pure (hb _)).here (wpAny_pure (by exact fin))) | exact wpAny_tryCatch (wpAny_bind ((Looks.of_pure (hb _)).here (wpAny_pure (by exact fin))))
/-- != by object's, which asks the own == -/
theorem ne_own {b tb : Value} {Q : Value → Shared → Prop} (hu : A.units + 16 < cLine) (X : K.In s.heap) (I : InstAt s.heap x ox C od) (hb : Looks (model prog w) s.heap (typeOf b) tb) (hn : notFirst K C tb = true) (hne : findIn K (.ref C) "__ne__" = some (some (.builtin "object.__ne__"))) (hm : mroIn K C (.type "object") = some true)
    (hs : findIn K (.ref C) "__eq__" = some (some (.ref f))) (hf : isFn K (.ref f) = true) (hu1 : A.in1.units < cLine) (h : wpAny (model prog w) A.in1 (call (.ref f) [.ref x, b]) (fun v s' => ∃ k, v = .bool k ∧ Q (.bool (!k)) s') E s) : wpAny (model prog w) A (richCompare .NotEq (.ref x) b) Q E s := by
  have one : wpAny (model prog w) A (tryCompare (.ref x) "__ne__" b) (fun r s' => ∃ v, r = some v ∧ Q v s') E s := by
    unfold tryCompare; refine wpAny_bind (ifBound_B X I hne PySem.F.cmp_object.ne.bind (wpAny_call (codeAny_call_builtin PySem.F.cmp_object.ne.plain PySem.F.cmpEntry_ne (check_slot PySem.F.cmpKind_ne PySem.F.cmpSplit_ne (I.type.andThen (looks_mroIn X hm)) (PySem.F.cmpArgs_ne _ _) ?_))))
    unfold Builtin.«object.__ne__»; refine wpAny_bind (m := slotArgs "__ne__" 1 _) (wpAny_pure (wpAny_bind (m := cRoomFor _ _) (wpAny_cRoomFor hu1 (wpAny_bind (m := callSpecialIfBound? (.ref x) (Str.ofString "__eq__") [b]) (ifBound_K X I hs hf (wpAny_mono h (fun r s' hr => ?_) fun _ _ e => e))))))
    obtain ⟨k, rfl, hq⟩ := hr; exact wpAny_bind (wpAny_truthy_bool (wpAny_pure (wpAny_pure ⟨_, rfl, hq⟩)))
  unfold richCompare; simp only [oneThing_ref]; refine wpAny_holding (wpAny_bind (wpAny_cRoomFor (by omega) (wpAny_bind (I.type.here (wpAny_bind (hb.here ?_))))))
  split
  · rename_i q
    have e : subIn K tb (.ref C) = some false := (Bool.or_eq_true_iff.mp hn).elim (fun e => by rw [beq_iff_eq.mp e] at q; simp at q) fun e => beq_iff_eq.mp e
    refine wpAny_bind ((looks_subIn X e).here ?_); simp only [Bool.false_eq_true, if_false]; exact wpAny_bind (wpAny_mono one (fun r s' z => by obtain ⟨v, rfl, hq⟩ := z; exact wpAny_pure hq) fun _ _ e => e)
  · refine wpAny_bind (wpAny_pure ?_); simp only [Bool.false_eq_true, if_false]; exact wpAny_bind (wpAny_mono one (fun r s' z => by obtain ⟨v, rfl, hq⟩ := z; exact wpAny_pure hq) fun _ _ e => e)
end
end GOwn
namespace MP
open PySem L2 PyProof.Rows
section
variable {X : Cx} {A : Around} {pins : List (Addr × Obj)} {τ : L2.St} {H : Hp} {s : Shared}
/-- the same body, elsewhere on the stack -/
theorem inv_sw (hd : A.handled = X.A.handled) (fr : A.frames = X.A.frames) (I : L2.Inv X pins τ H s) : L2.Inv { X with A := A } pins τ H s :=
  ⟨{ mod := I.ok.mod, kind := I.ok.kind, glob := I.ok.glob, blt := I.ok.blt, above := I.ok.above, inj := I.ok.inj, has := I.ok.has, cab := I.ok.cab, hd := fun z => hd.trans (I.ok.hd z), frames := fr.trans I.ok.frames, stk := I.ok.stk, exf := I.ok.exf, bs := I.ok.bs, bsz := I.ok.bsz, noex := I.ok.noex, exfs := I.ok.exfs, funs := I.ok.funs, frf := I.ok.frf }, I.os, I.bare, I.base, I.loc, I.cell, I.free, I.freeC, I.pin, I.hok, I.len⟩
theorem inv_sb (hd : A.handled = X.A.handled) (fr : A.frames = X.A.frames) (I : L2.Inv { X with A := A } pins τ H s) : L2.Inv X pins τ H s :=
  ⟨{ mod := I.ok.mod, kind := I.ok.kind, glob := I.ok.glob, blt := I.ok.blt, above := I.ok.above, inj := I.ok.inj, has := I.ok.has, cab := I.ok.cab, hd := fun z => hd.symm.trans (I.ok.hd z), frames := fr.symm.trans I.ok.frames, stk := I.ok.stk, exf := I.ok.exf, bs := I.ok.bs, bsz := I.ok.bsz, noex := I.ok.noex, exfs := I.ok.exfs, funs := I.ok.funs, frf := I.ok.frf }, I.os, I.bare, I.base, I.loc, I.cell, I.free, I.freeC, I.pin, I.hok, I.len⟩
end
section
variable {R : RC} {G : Gm} {X : Cx}
theorem spB_ok {K : PySem.W.Frag} {C : Addr} (h : spB K C = true) : PySem.W.findIn K (.ref C) "__bool__" = some none ∧ PySem.W.findIn K (.ref C) "__ne__" = some (some (.builtin "object.__ne__")) ∧ ∀ n, n ∈ ["NoneType", "bool", "int", "str", "tuple", "list", "dict"] → PySem.W.notFirst K C (.type n) = true := by
  unfold spB at h
  rw [Bool.and_eq_true, Bool.and_eq_true] at h
  exact ⟨of_decide_eq_true h.1, of_decide_eq_true h.2.1, fun n m => List.all_eq_true.mp h.2.2 n m⟩
/-- where own functions may be called from -/
structure Cl1 (R : RC) (G : Gm) (X : Cx) (c : Cal) : Prop where
  cf : ∀ f fd, G.fn f = some fd → ∃ lev sh, CFn R X.prog X.w X.K X.mg X.base lev c f fd sh ∧ (∀ q, q ∈ G.sh f → (q.1, q.2.1, q.2.2.map S') ∈ sh) ∧ Room (lev + 3) X.A
/-- an own method's run, anywhere near -/
theorem run_own {A : Around} (E : E1 R G X) {c : Cal} (L : Cl1 R G X c) (hA : ∀ k, Room (k + 3) X.A → Room k A) (hd : A.handled = X.A.handled) (fr : A.frames = X.A.frames) (gd : A.guards = X.A.guards) {k m p : Nat} {ws : List W} {us : List Value} {vs : List V} {S : Sto} {Qw : KE} {Q : VK} {H : Hp} {s : Shared} {pins : List (Addr × Obj)} {τ : L2.St} {fs : List (Nat × W)}
    (I : L2.Inv X pins τ H s) (ea : S p = some (.ins k fs)) (h : ownC G c k m ws S Qw) (r : Vals vs us) (rw_ : RVs R H ws vs) (hS : Sim R S H) (kq : KV' R S H Qw Q) :
    ∃ f dx fsr, H p = some (.ins (R.cad k) dx fsr) ∧ Meth R.K (R.cad k) (nm m) (R.fad f) ∧ (G.cd k).isSome = true ∧ A.units + 64 < cLine ∧ wpAny (model X.prog X.w) A (call (.ref (R.fad f)) us) (EP X pins τ Q) X.xe s := by
  obtain ⟨dx, fsr, e1, _, _⟩ := hS p _ ea
  unfold ownC at h
  cases hc : G.cd k with
  | none => rw [hc] at h; exact h.elim
  | some cd =>
    rw [hc] at h
    cases hm : cd.mt.lookup m with
    | none => simp only [Option.bind_some, hm] at h
    | some f =>
      simp only [Option.bind_some, hm] at h
      cases hf : G.fn f with
      | none => rw [hf] at h; exact h.elim
      | some fd =>
        rw [hf] at h
        obtain ⟨h1, h2⟩ := h
        obtain ⟨lev, sh, F, hsg, hroom⟩ := L.cf f fd hf
        have hsh := hsg _ (List.contains_iff_mem.mp h1)
        refine ⟨f, dx, fsr, e1, E.mt k cd m f hc hm, rfl, (hA lev hroom).units, ?_⟩
        obtain ⟨fdat, ps, its, hk, hps, hdf, hsh', run⟩ := F.ex
        have rl : Rls R H ws us := ⟨vs, rw_, r⟩
        have hlen := rl.length
        obtain ⟨zs, b1, b2⟩ := hsh' _ hsh s us I.kIn (by simpa using hlen)
        unfold bindK at h2
        rw [if_pos (by simp)] at h2
        cases eb : bindP fd.np fd.dfl (ws.take ws.length) (([] : List Nat).zip (ws.drop ws.length)) with
        | none => rw [eb] at h2; exact h2.elim
        | some bs =>
          rw [eb] at h2
          obtain ⟨vz, z1, z2⟩ := bindP_rel (hdf H) (rl.take ws.length) (rl.drop ws.length) eb b1
          have e0 : Env0 X.prog X.w X.K X.mg X.base A X.stack s H := by
            have e := I.env0
            exact ⟨fr.trans e.frames, e.mod, e.bs, e.bsz, e.funs, e.frf, e.hok, e.bare⟩
          have et : us.take ws.length = us := by rw [← hlen]; exact List.take_length
          rw [show (ws.length, ([] : List Nat), (([] : List (List Nat)).map S')).1 = ws.length from rfl] at b2
          have b3 : BindsTo s fdat ⟨us, []⟩ (ps.zip zs) := by
            have b4 := b2
            rw [et] at b4
            simpa using b4
          refine wpAny_call (codeAny_mono (run A X.stack s H ⟨us, []⟩ zs vz bs S Q Qw _ (hA lev hroom) (gd.trans E.gd) e0 b3 z2 z1 (bindP_len eb) hS h2 kq) fun r s' hq => ?_)
          match r, hq with
          | .ok (.ret u), hq => exact I.after hq
          | .error e, hq => exact (CXw.no (E := fun _ _ _ => False) (show CXw R X.prog X.w (fun _ _ => False) X.stack H s (fun _ _ _ => False) e s' from hq)).elim
/-- what a call of a built-in is to do, own methods told -/
def LCc (R : RC) (G : Gm) (c : Cal) (b : BI) : List V → Hp → VK → Prop := fun xs H Q => ∃ ws S Qw, RVs R H ws xs ∧ Sim R S H ∧ biWc G c b ws S Qw ∧ KV' R S H Qw Q
theorem nm_at {m : Nat} {x : Str} (h : nm m = x) {K : PySem.W.Frag} {C f : Addr} (M : Meth K C (nm m) f) : PySem.W.findIn K (.ref C) x = some (some (.ref f)) := by
  rw [← h]; exact M.at_
theorem nm_len : nm mLen = "__len__" := by decide +kernel
theorem nm_str : nm mStr = "__str__" := by decide +kernel
theorem nm_repr : nm mRepr = "__repr__" := by decide +kernel
theorem nm_eq : nm mEq = "__eq__" := by decide +kernel
theorem room1 {k : Nat} {A : Around} (h : Room (k + 3) A) : Room k A.in1 := (h.mono (by omega) : Room (k + 1) A).in1
theorem room2 {k : Nat} {A : Around} (h : Room (k + 3) A) : Room k A.in1.in1 := ((h.mono (by omega) : Room (k + 2) A).in1).in1
theorem room3 {k : Nat} {A : Around} (h : Room (k + 3) A) : Room k A.in1.in1.in1 := (h.in1.in1).in1
theorem bi_own (E : E1 R G X) {c : Cal} (L : Cl1 R G X c) {b : BI} {v : Value} (h0 : CallR X v (LC R (biW b))) (hv : (b = .len → v = .builtin "len") ∧ (b = .bool → v = .type "bool") ∧ (b = .str → v = .type "str") ∧ (b = .repr → v = .builtin "repr")) : CallR X v (LCc R G c b) := by
  intro pins s τ H xs us Q I r h
  obtain ⟨ws, S, Qw, hr, hS, h, k⟩ := h
  have un := E.un
  unfold biWc at h
  split at h
  · next p =>
    obtain ⟨v1, rfl, rv⟩ := rvs1 hr
    cases rv
    obtain ⟨u, rfl, ru⟩ := vals1 r
    obtain rfl : u = Value.ref p := ru
    obtain rfl := hv.1 rfl
    split at h
    · next kc fs ea =>
      obtain ⟨f, dx, fsr, e1, M, hcd, hun, hrun⟩ := run_own (A := X.A.in1) (Q := fun v H1 => ∃ n : Int, v = .int n ∧ (0 ≤ n ∧ n < 2 ^ 63) ∧ Q (.int n) H1) E L (fun _ => room1) rfl rfl rfl I ea h r hr hS (fun w S1 v1 H1 q1 r1 g1 g2 => by
        cases w <;> first | exact q1.elim | skip
        cases r1
        exact ⟨_, rfl, q1.1, k _ _ _ _ q1.2 rfl g1 g2⟩)
      obtain ⟨mA, J, _⟩ := ins_get I.hok e1
      obtain ⟨od, J, _⟩ := J.look
      obtain ⟨mF, hF⟩ := I.fr
      refine PySem.W.len_K hF I.ok.mod.kin J (by rw [E.K]; exact nm_at nm_len M) (by rw [E.K]; exact M.fn) (wpAny_mono hrun (fun u s' hu => ?_) fun _ _ z => z)
      obtain ⟨v1, H1, I1, r1, n, rfl, hn, q⟩ := hu
      obtain ⟨t, rfl⟩ := r1
      exact ⟨hn, .int n, H1, I1.tok _, ⟨_, rfl⟩, q⟩
    · exact h0 pins s τ H _ _ Q I r ⟨_, S, Qw, hr, hS, h, k⟩
    · exact h.elim
  · next p =>
    obtain ⟨v1, rfl, rv⟩ := rvs1 hr
    cases rv
    obtain ⟨u, rfl, ru⟩ := vals1 r
    obtain rfl : u = Value.ref p := ru
    obtain rfl := hv.2.1 rfl
    split at h
    · next kc fs ea =>
      obtain ⟨f, dx, fsr, e1, M, hcd, hun, hrun⟩ := run_own (A := X.A.in1.in1.in1) (Q := fun v H1 => ∃ n : Int, v = .int n ∧ (0 ≤ n ∧ n < 2 ^ 63) ∧ Q (.bl (n != 0)) H1) E L (fun _ => room3) rfl rfl rfl I ea h r hr hS (fun w S1 v1 H1 q1 r1 g1 g2 => by
        cases w <;> first | exact q1.elim | skip
        cases r1
        exact ⟨_, rfl, q1.1, k _ _ _ _ q1.2 rfl g1 g2⟩)
      obtain ⟨mA, J, _⟩ := ins_get I.hok e1
      obtain ⟨od, J, _⟩ := J.look
      refine GOwn.bool_own (GOwn.truthy_len I.kIn J (by rw [E.K]; exact (spB_ok (E.sp kc kc hcd hcd).1).1) (by rw [E.K]; exact nm_at nm_len M) (by rw [E.K]; exact M.fn) (wpAny_mono hrun (fun u s' hu => ?_) fun _ _ z => z))
      obtain ⟨v1, H1, I1, r1, n, rfl, hn, q⟩ := hu
      obtain ⟨t, rfl⟩ := r1
      exact ⟨hn, n, _, rfl, .bl (n != 0), H1, I1.tok _, rfl, q⟩
    · exact h0 pins s τ H _ _ Q I r ⟨_, S, Qw, hr, hS, h, k⟩
    · exact h.elim
  · next p =>
    obtain ⟨v1, rfl, rv⟩ := rvs1 hr
    cases rv
    obtain ⟨u, rfl, ru⟩ := vals1 r
    obtain rfl : u = Value.ref p := ru
    obtain rfl := hv.2.2.1 rfl
    split at h
    · next kc fs ea =>
      obtain ⟨f, dx, fsr, e1, M, hcd, hun, hrun⟩ := run_own (A := X.A.in1.in1) (Q := fun v H1 => ∃ l : List Nat, v = .str (S' l) ∧ Q (.str (S' l)) H1) E L (fun _ => room2) rfl rfl rfl I ea h r hr hS (fun w S1 v1 H1 q1 r1 g1 g2 => by
        cases w <;> first | exact q1.elim | skip
        cases r1
        exact ⟨_, rfl, k _ _ _ _ q1 rfl g1 g2⟩)
      obtain ⟨mA, J, _⟩ := ins_get I.hok e1
      obtain ⟨od, J, _⟩ := J.look
      refine PySem.W.kso_call (by omega) I.kIn J (by rw [E.K]; exact nm_at nm_str M) (by rw [E.K]; exact M.fn) (wpAny_mono hrun (fun u s' hu => ?_) fun _ _ z => z)
      obtain ⟨v1, H1, I1, r1, l, rfl, q⟩ := hu
      obtain ⟨t, rfl⟩ := r1
      exact ⟨.str (S' l), H1, I1, ⟨_, rfl⟩, q⟩
    · exact h.elim
  · next p =>
    obtain ⟨v1, rfl, rv⟩ := rvs1 hr
    cases rv
    obtain ⟨u, rfl, ru⟩ := vals1 r
    obtain rfl : u = Value.ref p := ru
    obtain rfl := hv.2.2.2 rfl
    split at h
    · next kc fs ea =>
      obtain ⟨f, dx, fsr, e1, M, hcd, hun, hrun⟩ := run_own (A := X.A.in1) (Q := fun v H1 => ∃ l : List Nat, v = .str (S' l) ∧ Q (.str (S' l)) H1) E L (fun _ => room1) rfl rfl rfl I ea h r hr hS (fun w S1 v1 H1 q1 r1 g1 g2 => by
        cases w <;> first | exact q1.elim | skip
        cases r1
        exact ⟨_, rfl, k _ _ _ _ q1 rfl g1 g2⟩)
      obtain ⟨mA, J, _⟩ := ins_get I.hok e1
      obtain ⟨od, J, _⟩ := J.look
      obtain ⟨mF, hF⟩ := I.fr
      refine PySem.W.repr_K (by omega) hF I.ok.mod.kin J (by rw [E.K]; exact nm_at nm_repr M) (by rw [E.K]; exact M.fn) (wpAny_mono hrun (fun u s' hu => ?_) fun _ _ z => z)
      obtain ⟨v1, H1, I1, r1, l, rfl, q⟩ := hu
      obtain ⟨t, rfl⟩ := r1
      exact ⟨.str (S' l), H1, I1, ⟨_, rfl⟩, q⟩
    · exact h0 pins s τ H _ _ Q I r ⟨_, S, Qw, hr, hS, h, k⟩
    · exact h.elim
  · exact h0 pins s τ H _ _ Q I r ⟨_, S, Qw, hr, hS, h, k⟩
theorem ok_bool (E : E1 R G X) : CallR X (.type "bool") (LC R (biW .bool)) := by
  intro pins s τ H xs us Q I r h
  obtain ⟨ws, S, Qw, hr, hS, h, k⟩ := h
  match ws, h, hr with
  | [w], h, hr =>
    obtain ⟨v, rfl, rv⟩ := rvs1 hr
    obtain ⟨u, rfl, ru⟩ := vals1 r
    obtain ⟨b, t, q⟩ := t_of (Qb := fun b S => Qw (.bl b) S) E h rv hS
    refine GOwn.bool_own (wpAny_mono (tru_ok (X := { X with A := X.A.in1.in1 }) pins s τ H v u (fun b H2 => Q (.bl b) H2) (inv_sw rfl rfl I) ru ⟨b, t, k.same hS q rfl⟩) (fun b' s' z => ?_) fun _ _ z => z)
    obtain ⟨H2, I2, q2⟩ := z
    exact ⟨.bl b', H2, inv_sb (A := X.A.in1.in1) rfl rfl I2, rfl, q2⟩
/-- a comparison that may change the store -/
def LBc (R : RC) (t : W → W → Sto → (Bool → Sto → Prop) → Prop) : R2 := fun x y H Q => ∃ (w u : W) (S : Sto) (Qw : Bool → Sto → Prop), RV R H w x ∧ RV R H u y ∧ Sim R S H ∧ t w u S Qw ∧ ∀ b S1 H1, Qw b S1 → Sim R S1 H1 → Fr S H S1 H1 → Q (.bl b) H1
theorem LBc.of {p : W → W → Sto → (Bool → Prop) → Prop} {x y : V} {H : Hp} {Q : VK} (h : LBc R (fun x y S Q => p x y S fun b => Q b S) x y H Q) : LB R p x y H Q := by
  obtain ⟨w, u, S, Qw, h1, h2, h3, h4, h5⟩ := h
  exact ⟨w, u, S, fun b => Qw b S, h1, h2, h3, h4, fun b q => h5 b S H q h3 (Fr.refl _ _)⟩
theorem ty_looks {E1' : E1 R G X} {pins : List (Addr × Obj)} {τ : L2.St} {H : Hp} {s : Shared} {S : Sto} {y : W} {v : V} {u : Value} (I : L2.Inv X pins τ H s) (h : tyOk G S y = true) (r : RV R H y v) (ru : RelV v u) (hS : Sim R S H) : ∃ t, PySem.W.Looks (model X.prog X.w) s.heap (typeOf u) t ∧ ((∃ n, n ∈ ["NoneType", "bool", "int", "str", "tuple", "list", "dict"] ∧ t = .type n) ∨ ∃ c, (G.cd c).isSome = true ∧ t = .ref (R.cad c)) := by
  unfold tyOk at h
  cases hk : kindW G S y with
  | none => rw [hk] at h; cases h
  | some k =>
    rw [hk] at h
    have hx : ∀ c ns ws, y ≠ .xc c ns ws := fun c ns ws e => by
      subst e
      have h' : (if (G.xv c && (G.xi c).isSome) = true then some (KT.exc c) else none) = some k := hk
      split at h'
      · cases h'; cases h
      · cases h'
    obtain ⟨P, Z, hP, _⟩ := kit_of I ru (kind_ty E1' hk hx r hS)
    refine ⟨_, Z.ty _ _ I.kIn hP, ?_⟩
    cases k with
    | own c =>
      refine .inr ⟨c, ?_, rfl⟩
      cases y with
      | ref a =>
        have h' : (match S a with
          | some (.lst _) => some KT.list
          | some (.dct _) => some .dict
          | some (.ins c _) => if (G.cd c).isSome = true then some (.own c) else none
          | _ => none) = some (.own c) := hk
        cases ea : S a with
        | none => rw [ea] at h'; cases h'
        | some oa => cases oa with
          | ins c' fs =>
            rw [ea] at h'
            by_cases q : (G.cd c').isSome = true
            · simp only [if_pos q] at h'; cases h'; exact q
            · simp only [if_neg q] at h'; cases h'
          | _ => rw [ea] at h'; cases h'
      | xc c ns ws => exact absurd rfl (hx c ns ws)
      | _ => cases hk
    | exc c => cases h
    | _ => exact .inl ⟨_, by decide, rfl⟩
theorem ok_eqc (E : E1 R G X) {c : Cal} (L : Cl1 R G X c) (neg : Bool) : OpR X (compareOp (if neg = true then .NotEq else .Eq)) (LBc R (eqWc G c neg)) := by
  intro pins s τ H x y v u Q I rx ry h
  have old : LBc R (fun x y S Q => eqW S x y fun b => Q (if neg = true then !b else b) S) x y H Q → wpAny (model X.prog X.w) X.A (compareOp (if neg = true then .NotEq else .Eq) v u) (EP X pins τ Q) X.xe s := fun h => by
    cases neg with
    | true => exact ok_ne E pins s τ H x y v u Q I rx ry (LBc.of (p := fun x y S Q => eqW S x y fun b => Q (!b)) h)
    | false => exact ok_eq E pins s τ H x y v u Q I rx ry (LBc.of (p := fun x y S Q => eqW S x y Q) h)
  obtain ⟨w, w2, S, Qw, hw, hu, hS, h, k⟩ := h
  cases w with
  | ref p =>
    have h' : (match S p with
      | some (.ins kc _) => tyOk G S w2 = true ∧ ownC G c kc mEq [.ref p, w2] S fun w S1 => (match w with
        | .bl b => Qw (if neg = true then !b else b) S1
        | _ => False)
      | some _ => eqW S (.ref p) w2 fun b => Qw (if neg = true then !b else b) S
      | none => False) := h
    cases ea : S p with
    | none => rw [ea] at h'; exact h'.elim
    | some oa => cases oa with
      | ins kc fs =>
        rw [ea] at h'
        obtain ⟨ht, h2⟩ := h'
        cases hw
        obtain rfl : v = Value.ref p := rx
        obtain ⟨t, hb, hk⟩ := ty_looks (E1' := E) I ht hu ry hS
        have two : Vals [V.ref p, y] [Value.ref p, u] := .cons rfl (.cons ry .nil)
        have two2 : RVs R H [.ref p, w2] [V.ref p, y] := .cons rfl (.cons hu .nil)
        have res : KV' R S H (fun w S1 => match w with
            | .bl b => Qw (if neg = true then !b else b) S1
            | _ => False) (fun v H1 => ∃ b : Bool, v = .bl b ∧ Q (.bl (if neg = true then !b else b)) H1) := fun w S1 v1 H1 q1 r1 g1 g2 => by
          cases w <;> first | exact q1.elim | skip
          cases r1
          exact ⟨_, rfl, k _ _ _ q1 g1 g2⟩
        have nf : ∀ {hcd : (G.cd kc).isSome = true}, PySem.W.notFirst X.K (R.cad kc) t = true := fun {hcd} => by
          rw [E.K]
          rcases hk with ⟨n, hn, rfl⟩ | ⟨d, hd, rfl⟩
          · exact (spB_ok (E.sp kc kc hcd hcd).1).2.2 n hn
          · exact (E.sp kc d hcd hd).2
        obtain ⟨mF, hF⟩ := I.fr
        cases neg with
        | false =>
          obtain ⟨f, dx, fsr, e1, M, hcd, hun, hrun⟩ := run_own (A := X.A) E L (fun k hk => hk.mono (by omega)) rfl rfl rfl I ea h2 two two2 hS res
          obtain ⟨mA, J, _⟩ := ins_get I.hok e1
          obtain ⟨od, J, _⟩ := J.look
          refine PySem.W.cmp_ofEq (PySem.W.cmp_K (op := .Eq) (tb := t) (by omega) hF I.ok.mod.kin J hb (nf (hcd := hcd)) (by rw [E.K]; exact nm_at nm_eq M) (by rw [E.K]; exact M.fn) (wpAny_mono hrun (fun u' s' hu' => ?_) fun _ _ z => z))
          obtain ⟨v1, H1, I1, r1, b, rfl, q⟩ := hu'
          obtain rfl : u' = Value.bool b := r1
          exact ⟨.bl b, H1, I1, rfl, q⟩
        | true =>
          obtain ⟨f, dx, fsr, e1, M, hcd, hun, hrun⟩ := run_own (A := X.A.in1) E L (fun _ => room1) rfl rfl rfl I ea h2 two two2 hS res
          obtain ⟨mA, J, _⟩ := ins_get I.hok e1
          obtain ⟨od, J, _⟩ := J.look
          have un := E.un
          refine PySem.W.cmp_ofNotEq (GOwn.ne_own (by omega) I.kIn J hb (nf (hcd := hcd)) (by rw [E.K]; exact (spB_ok (E.sp kc kc hcd hcd).1).2.1) (by rw [E.K]; exact (E.own kc hcd).2.2.2.2) (by rw [E.K]; exact nm_at nm_eq M) (by rw [E.K]; exact M.fn) (by omega) (wpAny_mono hrun (fun u' s' hu' => ?_) fun _ _ z => z))
          obtain ⟨v1, H1, I1, r1, b, rfl, q⟩ := hu'
          obtain rfl : u' = Value.bool b := r1
          exact ⟨b, rfl, .bl (!b), H1, I1, rfl, q⟩
      | _ =>
        rw [ea] at h'
        exact old ⟨_, w2, S, Qw, hw, hu, hS, h', k⟩
  | _ => exact old ⟨_, w2, S, Qw, hw, hu, hS, h, k⟩
theorem ok_cmpc (E : E1 R G X) {c : Cal} (L : Cl1 R G X c) {o : CmpOp} {p : Cm} (e : cmOf o = some p) : OpR X (compareOp o) (LBc R (cmWc G c p)) := by
  have old : (∀ x y S Q, cmWc G c p x y S Q = cmW G p x y S fun b => Q b S) → OpR X (compareOp o) (LBc R (cmWc G c p)) := fun z pins s τ H x y v u Q I rx ry h => by
    refine ok_cmp E e pins s τ H x y v u Q I rx ry (LBc.of (p := cmW G p) ?_)
    obtain ⟨w, w2, S, Qw, h1, h2, h3, h4, h5⟩ := h
    exact ⟨w, w2, S, Qw, h1, h2, h3, by rw [z] at h4; exact h4, h5⟩
  cases o <;> first
    | (cases e; done)
    | (cases e; exact ok_eqc E L false)
    | (cases e; exact ok_eqc E L true)
    | (cases e; exact old fun x y S Q => rfl)
section
variable {a b : Expr} {ta tb : TE'} {pos : Pos}
theorem e_cmpO (E : E1 R G X) {c : Cal} (L : Cl1 R G X c) {o : CmpOp} {p : Cm} (e : cmOf o = some p) (ha : PE X a (LE R ta)) (hb : PE X b (LE R tb)) (hm : behindInMarks o b = false) : PE X (.Compare a [o] [b] pos) (LE R (vT (wCmpO G c p ta tb))) := by
  refine PE.imp (pe_cmpR (ok_cmpc E L e) ha hb hm) fun τ H Q h => ?_
  obtain ⟨σ, S, Qw, hσ, hS, h, k⟩ := h
  refine LE.go hσ hS h fun w S1 v H1 q1 r1 hS1 f1 hσ1 => LE.go hσ1 hS1 q1 fun w2 S2 v2 H2 q2 r2 hS2 f2 hσ2 => ?_
  exact ⟨w, w2, S2, fun r S3 => Qw (.bl r) S3, r1.mono hS1 f2, r2, hS2, q2, fun b S3 H3 q g1 g2 => k _ S3 _ H3 q rfl g1 ((f1.trans f2).trans g2)⟩
theorem t_cmpO (E : E1 R G X) {c : Cal} (L : Cl1 R G X c) {o : CmpOp} {p : Cm} (e : cmOf o = some p) (ha : PE X a (LE R ta)) (hb : PE X b (LE R tb)) (hm : behindInMarks o b = false) : PT X (.Compare a [o] [b] pos) (LT R (wCmpO G c p ta tb)) := by
  refine PT.imp (pt_cmpR (ok_cmpc E L e) ha hb hm) fun τ H Q h => ?_
  obtain ⟨σ, S, Qw, hσ, hS, h, k⟩ := h
  refine LE.go hσ hS h fun w S1 v H1 q1 r1 hS1 f1 hσ1 => LE.go hσ1 hS1 q1 fun w2 S2 v2 H2 q2 r2 hS2 f2 hσ2 => ?_
  exact ⟨w, w2, S2, fun r S3 => Qw r S3, r1.mono hS1 f2, r2, hS2, q2, fun b S3 H3 q g1 g2 => ⟨b, rfl, k _ S3 H3 q g1 ((f1.trans f2).trans g2)⟩⟩
theorem e_callBo {c : Cal} {id : String} {x : Str} {p : Pos} {bi : BI} {n : Nat} {tes : TA'} (hc : CallR X (.builtin id) (LCc R G c bi)) (hg : Gl X x) (hm : X.mg x = none) (hv : bootBuiltins x = some (.builtin id)) {es : List Expr} (ha : PA X (a :: es) (LA R n tes)) (hn : x ≠ "__name__") (hdb : (x == ("__debug__" : Str)) = false)
    (he : starEach (a :: es) X.env = (false, eval a X.env) :: starEach es X.env) (hpl : (backTo pos (starEach es X.env)).any (·.1) = false) : PE X (.Call (.Name x p) (a :: es) [] pos) (LE R (wCBO G c bi tes)) := by
  refine PE.imp (pe_callB hc hg hm hv ha hn hdb he hpl) fun τ H Q h => ?_
  obtain ⟨σ, S, Qw, hσ, hS, h, k⟩ := h
  exact LA.go hσ hS h fun ws S1 vs H1 _ q1 r1 hS1 f1 hσ1 => ⟨ws, S1, Qw, r1, hS1, q1, KV'.tr k f1⟩
theorem e_callTo {c : Cal} {T : String} {x : Str} {p : Pos} {bi : BI} {n : Nat} {tes : TA'} (hc : CallR X (.type T) (LCc R G c bi)) (hg : Gl X x) (hm : X.mg x = none) (hv : bootBuiltins x = some (.type T)) {es : List Expr} (ha : PA X (a :: es) (LA R n tes)) (hn : x ≠ "__name__") (hdb : (x == ("__debug__" : Str)) = false)
    (he : starEach (a :: es) X.env = (false, eval a X.env) :: starEach es X.env) (hpl : (backTo pos (starEach es X.env)).any (·.1) = false) : PE X (.Call (.Name x p) (a :: es) [] pos) (LE R (wCBO G c bi tes)) := by
  refine PE.imp (pe_callTy hc hg hm hv ha hn hdb he hpl) fun τ H Q h => ?_
  obtain ⟨σ, S, Qw, hσ, hS, h, k⟩ := h
  exact LA.go hσ hS h fun ws S1 vs H1 _ q1 r1 hS1 f1 hσ1 => ⟨ws, S1, Qw, r1, hS1, q1, KV'.tr k f1⟩
end
end
end MP
/-! MPS: isinstance of several classes. -/
namespace MP
open PySem L2 PyProof.Rows
section
variable {R : RC} {G : Gm} {X : Cx}
theorem kit_any (E : E1 R G X) {S : Sto} {w : W} {k : KT} (hk : kindW G S w = some k) : ∀ {ts : List TR} {bs : List Bool}, mapO (fun t => isiW G S w t) ts = some bs → PySem.W.kitAny X.K (ktV R k) (ts.map (trV R)) = some (bs.any id)
  | [], bs, h => by cases h; rfl
  | t :: ts, bs, h => by
    obtain ⟨b, r, h1, h2, rfl⟩ := mapO_cons h
    have h1' : isiW G S w t = some b := h1
    unfold isiW at h1'
    by_cases ht : trOk G t = true
    · rw [if_pos ht, hk] at h1'
      cases h1'
      have ih := kit_any E hk h2
      show (match PySem.W.kitOne X.K (ktV R k) (trV R t) with
        | some true => some true
        | some false => PySem.W.kitAny X.K (ktV R k) (ts.map (trV R))
        | none => none) = _
      rw [kit_ok E hk ht]
      show _ = some ((isK G k t :: r).any id)
      cases isK G k t with
      | true => rfl
      | false => exact ih
    · rw [if_neg ht] at h1'; cases h1'
theorem cls_all (E : E1 R G X) {S : Sto} {w : W} : ∀ {ts : List TR} {bs : List Bool}, mapO (fun t => isiW G S w t) ts = some bs → Paired ClsV (ts.map (trL R)) (ts.map (trV R))
  | [], bs, h => .nil
  | t :: ts, bs, h => by
    obtain ⟨b, r, h1, h2, rfl⟩ := mapO_cons h
    have h1' : isiW G S w t = some b := h1
    unfold isiW at h1'
    by_cases ht : trOk G t = true
    · exact .cons (trCls E t ht) (cls_all E h2)
    · rw [if_neg ht] at h1'; cases h1'
def LIsn (R : RC) (G : Gm) (ts : List TR) : List V → Hp → VK → Prop := fun xs H Q => ∃ (w : W) (v : V) (S : Sto) (bs : List Bool) (p : Addr), xs = [v, .ref p] ∧ H p = some (.tup (ts.map (trL R))) ∧ RV R H w v ∧ Sim R S H ∧ mapO (fun t => isiW G S w t) ts = some bs ∧ Q (.bl (bs.any id)) H
theorem ok_isn (E : E1 R G X) (ts : List TR) (hne : ts ≠ []) : CallR X (.builtin "isinstance") (LIsn R G ts) := by
  intro pins s σ H xs us Q I r h
  obtain ⟨w, v, S, bs, tp, rfl, hT, rv, hS, e, q⟩ := h
  have hk : ∃ k, kindW G S w = some k := by
    cases ts with
    | nil => exact absurd rfl hne
    | cons t ts =>
      obtain ⟨b, _, h1, _, _⟩ := mapO_cons e
      have h1' : isiW G S w t = some b := h1
      unfold isiW at h1'
      by_cases ht : trOk G t = true
      · rw [if_pos ht] at h1'
        obtain ⟨k, hk, _⟩ := Option.map_eq_some_iff.mp h1'
        exact ⟨k, hk⟩
      · rw [if_neg ht] at h1'; cases h1'
  obtain ⟨k, hk⟩ := hk
  have ka := kit_any E hk e
  have ca := cls_all E e
  cases w with
  | xc c ns ws =>
    obtain ⟨p, oe, fsr, rfl, hp, hx, _, _⟩ := rv
    have hk' : (if (G.xv c && (G.xi c).isSome) = true then some (KT.exc c) else none) = some k := hk
    by_cases z : (G.xv c && (G.xi c).isSome) = true
    · rw [if_pos z] at hk'
      cases hk'
      obtain ⟨D, hD, Z⟩ := E.xcs.xi c (Bool.and_eq_true_iff.mp z).2
      obtain ⟨u1, u2, rfl, r1, r2⟩ := vals2 r
      obtain rfl : u1 = Value.ref p := r1
      obtain rfl : u2 = Value.ref tp := r2
      obtain ⟨od, J, _⟩ := xc_inst I hp hx hD
      rw [show ktV R (KT.exc c) = R.xcl c from rfl, hD] at ka
      obtain ⟨_, its, rv2, o, g1, g2, n, g3⟩ := (show ObjOk X.prog X.w H s.heap tp (.tup (ts.map (trL R))) from I.hok tp _ hT)
      obtain rfl := ClsV.all ca rv2
      obtain ⟨oc, od2, dt, sl⟩ := o
      simp only at g2 g3; subst g2 g3
      exact PySem.W.kia_tup (xc_kit (od := od) (ox := oe) (x := p) (by rw [E.K]; exact Z)) I.kIn J g1 ka (fun z => nomatch z) fun tk => ⟨.bl _, H, I.tok tk, rfl, q⟩
    · rw [if_neg z] at hk'
      cases hk'
  | _ => exact call_isiT pins s σ H _ _ Q I r ⟨v, tp, _, ktV R k, _, _, rfl, hT, ca, kind_ty E hk (fun _ _ _ z => nomatch z) rv hS, ka, q⟩
theorem pa_names {vs : List V} : ∀ {cs : List Expr}, Paired (fun c v => PE X c (fun _ H Q => Q v H) ∧ ∀ r env, starEach (c :: r) env = (false, eval c env) :: starEach r env) cs vs → PA X cs (fun _ H Q => Q vs H)
  | _, .nil => pa_nil
  | _, .cons h t => pa_cons h.1 (pa_names t) (h.2 _ _)
section
variable {a : Expr} {ta : TE'} {pos : Pos}
theorem isn_raw {cs : List Expr} {ts : List TR} (hne : ts ≠ []) (hz : ts.length ≤ 1000) (hp : PA X cs (fun _ H Q => Q (ts.map (trL R)) H)) {kk : Nat} {tp : Pos} (E : E1 R G X) {p : Pos} (hg : Gl X "isinstance") (hm : X.mg "isinstance" = none) (ha : PE X a (LE R ta)) (he : ∀ r env, starEach (a :: r) env = (false, eval a env) :: starEach r env) :
    PE X (.Call (.Name "isinstance" p) [a, .Tuple cs kk tp] [] pos) (fun τ H Q => LE R ta τ H fun v H1 => ∀ q, H1 q = none → LIsn R G ts [v, .ref q] (upd H1 q (.tup (ts.map (trL R)))) Q) := by
  refine PE.imp (pe_callB (ok_isn E ts hne) hg hm (by rfl) (pa_cons ha (pa_cons (pe_tup hp) pa_nil rfl) (he _ _)) (by decide) (by decide) (he _ _) rfl) fun τ H Q h => ?_
  obtain ⟨σ, S, Qw, hσ, hS, h, k⟩ := h
  refine ⟨σ, S, Qw, hσ, hS, h, fun w S1 v H1 q r g1 g2 => ⟨?_, k w S1 v H1 q r g1 g2⟩⟩
  show (ts.map (trL R)).length ≤ sizeLine
  rw [List.length_map, ← lim_eq]
  show _ ≤ 16777216
  omega
theorem isn_hit {ts : List TR} {S : Sto} {H : Hp} {w : W} {v : V} {Q : VK} {bs : List Bool} (r1 : RV R H w v) (hS1 : Sim R S H) (e : mapO (fun t => isiW G S w t) ts = some bs) {q : Addr} (hq : H q = none) (h : ∀ H2, Sim R S H2 → Fr S H S H2 → Q (.bl (bs.any id)) H2) : LIsn R G ts [v, .ref q] (upd H q (.tup (ts.map (trL R)))) Q := by
  obtain ⟨k1, k2⟩ := hS1.hid (u := .tup (ts.map (trL R))) hq
  exact ⟨w, v, S, bs, q, rfl, upd_same, RV.mono hS1 k2 _ _ r1, k1, e, h _ k1 k2⟩
theorem e_isn {cs : List Expr} {ts : List TR} (hne : ts ≠ []) (hz : ts.length ≤ 1000) (hp : PA X cs (fun _ H Q => Q (ts.map (trL R)) H)) {kk : Nat} {tp : Pos} (E : E1 R G X) {p : Pos} (hg : Gl X "isinstance") (hm : X.mg "isinstance" = none) (ha : PE X a (LE R ta)) (he : ∀ r env, starEach (a :: r) env = (false, eval a env) :: starEach r env) :
    PE X (.Call (.Name "isinstance" p) [a, .Tuple cs kk tp] [] pos) (LE R (vT (wIsn G ta ts))) := by
  refine PE.imp (isn_raw hne hz hp E hg hm ha he) fun τ H Q h => ?_
  obtain ⟨σ, S, Qw, hσ, hS, h, k⟩ := h
  refine LE.go hσ hS h fun w S1 v H1 q1 r1 hS1 f1 hσ1 q hq => ?_
  have h' : (match mapO (fun t => isiW G S1 w t) ts with
    | some bs => Qw (.bl (bs.any id)) S1
    | none => False) := q1
  cases e : mapO (fun t => isiW G S1 w t) ts with
  | none => rw [e] at h'; exact h'.elim
  | some bs =>
    rw [e] at h'
    exact isn_hit r1 hS1 e hq fun H2 g1 g2 => k _ S1 _ H2 h' rfl g1 (f1.trans g2)
theorem t_isn {cs : List Expr} {ts : List TR} (hne : ts ≠ []) (hz : ts.length ≤ 1000) (hp : PA X cs (fun _ H Q => Q (ts.map (trL R)) H)) {kk : Nat} {tp : Pos} (E : E1 R G X) {p : Pos} (hg : Gl X "isinstance") (hm : X.mg "isinstance" = none) (ha : PE X a (LE R ta)) (he : ∀ r env, starEach (a :: r) env = (false, eval a env) :: starEach r env) :
    PT X (.Call (.Name "isinstance" p) [a, .Tuple cs kk tp] [] pos) (LT R (wIsn G ta ts)) := by
  refine PT.imp (pt_val (isn_raw hne hz hp E hg hm ha he) (fun _ => rfl)) fun τ H Q h => ?_
  obtain ⟨σ, S, Qw, hσ, hS, h, k⟩ := h
  refine LE.go hσ hS h fun w S1 v H1 q1 r1 hS1 f1 hσ1 q hq => ?_
  have h' : (match mapO (fun t => isiW G S1 w t) ts with
    | some bs => Qw (bs.any id) S1
    | none => False) := q1
  cases e : mapO (fun t => isiW G S1 w t) ts with
  | none => rw [e] at h'; exact h'.elim
  | some bs =>
    rw [e] at h'
    exact isn_hit r1 hS1 e hq fun H2 g1 g2 => ⟨_, rfl, k _ S1 H2 h' g1 (f1.trans g2)⟩
end
end
end MP
/-! MP14: from the program's text to the small Python. -/
namespace MP
open PySem L2 PyProof.Rows
/-- what is known of the names where an expression stands -/
structure Stx where
  N : List Str
  sc : Scope
  fb : Str → Bool
  gl : List (Str × W)
  bf : List Str
  pn : List (Nat × List Str)
  sh : Nat → List (Nat × List Nat × List Str)
  ci : List (Nat × Nat)
  mp : List (Str × List (List Str))
  xn : List (Str × Nat × Bool)
def ixOf : List Str → Str → Option Nat
  | [], _ => none
  | y :: r, x => if y = x then some 0 else (ixOf r x).map (· + 1)
theorem ixOf_at : ∀ {l : List Str} {x : Str} {i : Nat}, ixOf l x = some i → l[i]? = some x
  | [], _, _, h => by cases h
  | y :: r, x, i, h => by
    unfold ixOf at h
    by_cases e : y = x
    · rw [if_pos e] at h; cases h; simp [e]
    · rw [if_neg e] at h
      obtain ⟨j, h1, rfl⟩ := Option.map_eq_some_iff.mp h
      simpa using ixOf_at h1
/-- Python's own functions and types -/
inductive BV where
  | b (id : String) | t (T : String)
def BV.v : BV → Value
  | .b id => .builtin id
  | .t T => .type T
def biOf (x : Str) : Option (BI × BV) :=
  if x = ("len" : Str) then some (.len, .b "len") else if x = ("all" : Str) then some (.all, .b "all") else if x = ("any" : Str) then some (.any, .b "any") else if x = ("sum" : Str) then some (.sum, .b "sum") else
  if x = ("min" : Str) then some (.min, .b "min") else if x = ("max" : Str) then some (.max, .b "max") else if x = ("str" : Str) then some (.str, .t "str") else if x = ("int" : Str) then some (.int, .t "int") else
  if x = ("repr" : Str) then some (.repr, .b "repr") else if x = ("list" : Str) then some (.list, .t "list") else if x = ("tuple" : Str) then some (.tuple, .t "tuple") else
  if x = ("range" : Str) then some (.range, .t "range") else if x = ("zip" : Str) then some (.zip, .t "zip") else if x = ("enumerate" : Str) then some (.enum, .t "enumerate") else if x = ("dict" : Str) then some (.dict, .t "dict") else if x = ("bool" : Str) then some (.bool, .t "bool") else none
def trOf (x : Str) : Option TR :=
  if x = ("int" : Str) then some .int else if x = ("bool" : Str) then some .bool else if x = ("str" : Str) then some .str else if x = ("tuple" : Str) then some .tuple else if x = ("list" : Str) then some .list else if x = ("dict" : Str) then some .dict else none
def bmOf2 (x : Str) : Option BM :=
  if x = bmN .count then some .count else if x = bmN .upper then some .upper else if x = bmN .split then some .split else if x = bmN .partition then some .partition else none
theorem bmOf2_n {x : Str} {m : BM} (h : bmOf2 x = some m) : x = bmN m := by
  unfold bmOf2 at h
  repeat' (split at h; · cases h; assumption)
  cases h
def bmOf (x : Str) : Option BM :=
  if x = bmN .append then some .append else if x = bmN .clear then some .clear else if x = bmN .pop then some .pop else if x = bmN .reverse then some .reverse else if x = bmN .join then some .join else if x = bmN .get then some .get else if x = bmN .index then some .index else if x = bmN .items then some .items else if x = bmN .values then some .values else if x = bmN .keys then some .keys else bmOf2 x
theorem bmOf_n {x : Str} {m : BM} (h : bmOf x = some m) : x = bmN m := by
  unfold bmOf at h
  repeat' (split at h; · cases h; assumption)
  exact bmOf2_n h
/-- a view of a dict -/
def isVw : BM → Bool
  | .items => true | .values => true | .keys => true
  | _ => false
def exL : List Ex → Ex
  | [] => .nil
  | e :: r => .cons e (exL r)
def joinB (o : BoolOp) : List Ex → Option Ex
  | [] => none
  | [x] => some x
  | x :: y :: r => (joinB o (y :: r)).map fun z => match o with
    | .And => .and x z
    | .Or => .or x z
def o2 {α β γ : Type} (f : α → β → γ) : Option α → Option β → Option γ
  | some a, some b => some (f a b)
  | _, _ => none
def o3 {α β γ δ : Type} (f : α → β → γ → δ) : Option α → Option β → Option γ → Option δ
  | some a, some b, some c => some (f a b c)
  | _, _, _ => none
theorem o2_eq {α β γ : Type} {f : α → β → γ} {x : Option α} {y : Option β} {z : γ} (h : o2 f x y = some z) : ∃ a b, x = some a ∧ y = some b ∧ z = f a b := by
  cases x <;> cases y <;> first | (cases h; done) | exact ⟨_, _, rfl, rfl, (Option.some.inj h).symm⟩
theorem o3_eq {α β γ δ : Type} {f : α → β → γ → δ} {x : Option α} {y : Option β} {w : Option γ} {z : δ} (h : o3 f x y w = some z) : ∃ a b c, x = some a ∧ y = some b ∧ w = some c ∧ z = f a b c := by
  cases x <;> cases y <;> cases w <;> first | (cases h; done) | exact ⟨_, _, _, rfl, rfl, rfl, (Option.some.inj h).symm⟩
def ifS {α : Type} (b : Bool) (o : Option α) : Option α := if b = true then o else none
theorem ifS_eq {α : Type} {b : Bool} {o : Option α} {z : α} (h : ifS b o = some z) : b = true ∧ o = some z := by
  unfold ifS at h
  by_cases q : b = true
  · rw [if_pos q] at h; exact ⟨q, h⟩
  · rw [if_neg q] at h; cases h
/-- no zero-argument call of a name: what super might hide behind -/
def okBase : Expr → Bool
  | .Call (.Name _ _) [] [] _ => false
  | _ => true
theorem base_ok {o : Expr} {attr : Str} {env : Env} {whole : Sem Value} (h : okBase o = true) : attributeBase o attr env whole = whole := by
  unfold okBase at h
  split at h
  · cases h
  · next z =>
    cases o <;> first
      | rfl
      | (rename_i f args kws p
         cases f <;> first
          | rfl
          | (cases args <;> first
              | rfl
              | (cases kws <;> first
                  | rfl
                  | exact absurd rfl (z _ _ _))))
def trNm (T : Stx) (x : Str) : Option Ex := match T.sc.names.lookup x with
  | some .globalImplicit => (T.gl.lookup x).map .k
  | some .local => (ixOf T.N x).map .v
  | some .cell => (ixOf T.N x).map .v
  | some .free => (ixOf T.N x).map .v
  | _ => none
/-- a name of Python's own -/
def isB (T : Stx) (x : Str) : Bool := decide (T.sc.names.lookup x = some .globalImplicit) && decide (x ∈ T.bf)
/-- may be stored -/
def stO (T : Stx) (x : Str) : Bool := match T.sc.names.lookup x with
  | some .local => true
  | some .cell => T.fb x
  | _ => false
def trT1 (T : Stx) : Expr → Option Nat
  | .Name x _ => ifS (stO T x) (ixOf T.N x)
  | _ => none
def trT (T : Stx) : Expr → Option Tg
  | .Name x _ => (ifS (stO T x) (ixOf T.N x)).map .one
  | .Tuple es _ _ => (mapO (trT1 T) es).map .many
  | _ => none
def relab (scope sc : Scope) : Scope := { scope with names := scope.names.map fun (n, k) => if (k == .free && sc.kind == .function && sc.names.lookup n == some .cell) then (n, .cell) else (n, k) }
/-- inside a comprehension's own block -/
def Stx.blk (T : Stx) (scope : Scope) : Stx := { T with sc := relab scope T.sc, fb := fun x => scope.names.lookup x == some .cell }
def ownOf (N : List Str) (scope : Scope) : List (Str × Nat) := scope.names.filterMap fun y => match y.2 with
  | .local => (ixOf N y.1).map fun i => (y.1, i)
  | .cell => (ixOf N y.1).map fun i => (y.1, i)
  | _ => none
def isTup : Expr → Bool
  | .Tuple .. => true
  | _ => false
/-- what may be walked by that target -/
def okI (x : Ex) (tg : Expr) : Bool := match x with
  | .cB .zip _ => isTup tg
  | .cB .enum _ => isTup tg
  | .mB .items _ _ => isTup tg
  | _ => true
/-- so many arguments -/
def okN (b : BI) (n : Nat) : Bool := match b with
  | .range => n == 1 || n == 2
  | .zip => n == 2
  | .enum => n == 1
  | _ => true
def kwI (ps : List Str) (tr : Expr → Option Ex) : List Keyword → Option (List Nat × List Str × List Ex)
  | [] => some ([], [], [])
  | ⟨some x, e, _⟩ :: r => (match ixOf ps x, tr e, kwI ps tr r with
    | some i, some y, some (is, ks, ys) => some (i :: is, x :: ks, y :: ys)
    | _, _, _ => none)
  | _ :: _ => none
/-- an exception's class -/
def trX (T : Stx) (x : Str) : Option Nat := if x = ("__debug__" : Str) then none else if T.sc.names.lookup x = some .globalImplicit then (T.xn.lookup x).map (·.1) else none
/-- one that may be raised -/
def trXr (T : Stx) (x : Str) : Option Nat := if x = ("__debug__" : Str) then none else if T.sc.names.lookup x = some .globalImplicit then match T.xn.lookup x with
  | some (c, true) => some c
  | _ => none
  else none
def trArg (x : Str) (T : Stx) : Option TR := match trX T x with
  | some c => some (.exc c)
  | none => if isB T x = true then trOf x else match T.sc.names.lookup x, T.gl.lookup x with
    | some .globalImplicit, some (.cl c) => some (.own c)
    | _, _ => none
def trArgN (T : Stx) : Expr → Option TR
  | .Name y _ => ifS (!decide (y = ("__debug__" : Str))) (trArg y T)
  | _ => none
/-- a call of a name -/
def trCall (tr : Expr → Option Ex) (T : Stx) (x : Str) (es : List Expr) (kws : List Keyword) : Option Ex :=
  if x = ("__debug__" : Str) then none else
  if isB T x = true then (if x = ("isinstance" : Str) then (match es, kws with
      | [a, .Name y _], [] => o2 Ex.isi (tr a) (ifS (!decide (y = ("__debug__" : Str))) (trArg y T))
      | [a, .Tuple cs _ _], [] => o2 Ex.isn (tr a) ((mapO (trArgN T) cs).bind fun ts => ifS (decide (1 ≤ ts.length ∧ ts.length ≤ 1000)) (some ts))
      | _, _ => none)
    else match kws, es with
    | [], _ :: _ => (o2 (fun b ys => (b, ys)) (biOf x) (mapO tr es)).bind fun q => ifS (okN q.1.1 es.length) (some (Ex.cB q.1.1 (exL q.2)))
    | _, _ => none)
  else match T.sc.names.lookup x, T.gl.lookup x with
    | some .globalImplicit, some (.fn f) => (match T.pn.lookup f with
      | some ps => (match mapO tr es, kwI ps tr kws with
        | some ys, some (kw, ks, zs) => ifS (decide ((es.length, kw, ks) ∈ T.sh f)) (some (.cF f es.length kw (exL (ys ++ zs))))
        | _, _ => none)
      | none => none)
    | some .globalImplicit, some (.cl k) => (match T.ci.lookup k with
      | some f => (match T.pn.lookup f with
        | some ps => (match mapO tr es, kwI ps tr kws with
          | some ys, some (kw, ks, zs) => ifS (decide ((es.length + 1, kw, ks) ∈ T.sh f)) (some (.mk k es.length kw (exL (ys ++ zs))))
          | _, _ => none)
        | none => none)
      | none => none)
    | _, _ => none
def fstO {α β : Type} (f : α → Option β) : List α → Option β
  | [] => none
  | x :: r => match f x with
    | some y => some y
    | none => fstO f r
theorem fstO_eq {α β : Type} {f : α → Option β} {z : β} : ∀ {l : List α}, fstO f l = some z → ∃ x, f x = some z
  | [], h => by cases h
  | x :: r, h => by
    unfold fstO at h
    split at h
    · next y q => cases h; exact ⟨x, q⟩
    · exact fstO_eq h
/-- a call of a method of the program's -/
def trOwn (tr : Expr → Option Ex) (T : Stx) (o : Expr) (m : Str) (es : List Expr) (kws : List Keyword) (apos pos : Pos) : Option Ex := (T.mp.lookup m).bind fun pss =>
  ifS (okBase o && (apos.endLine == pos.line) && decide (es.length + kws.length < 29) && decide (nm (enc m.cps.toList) = m)) ((o3 (fun x ys q => (x, ys, q)) (tr o) (mapO tr es) (fstO (fun ps => kwI ps tr kws) pss)).map fun q =>
    Ex.mO (enc m.cps.toList) es.length q.2.2.1 (q.2.2.2.1.map fun x => x.cps.toList) q.1 (exL (q.2.1 ++ q.2.2.2.2)))
/-- a call of a method -/
def trMeth (tr : Expr → Option Ex) (T : Stx) (o : Expr) (m : Str) (es : List Expr) (kws : List Keyword) (apos pos : Pos) : Option Ex := if (T.mp.lookup m).isSome = true then trOwn tr T o m es kws apos pos else match kws with
  | [] => ifS (okBase o && (apos.endLine == pos.line) && decide (es.length < 29)) ((o3 (fun m x ys => (m, x, ys)) (bmOf m) (tr o) (mapO tr es)).bind fun q => ifS (!(isVw q.1) || es.isEmpty) (some (Ex.mB q.1 q.2.1 (exL q.2.2))))
  | _ => none
/-- calls of Python's own in some forms; a call of a function that a name holds -/
def trSp (tr : Expr → Option Ex) (T : Stx) (x : Str) (es : List Expr) (kws : List Keyword) : Option Ex := if isB T x = true then (match es, kws with
    | [.Call (.Attribute o m apos) [] [] mpos], [] => ifS (okBase o && (apos.endLine == mpos.line) && decide (m = ("values" : Str))) (if x = ("sum" : Str) then (tr o).map fun y => .cB .sumv (.cons y .nil) else if x = ("list" : Str) then (tr o).map fun y => .cB .listv (.cons y .nil) else none)
    | [a], [⟨some k, e, _⟩] => if k = ("start" : Str) then ifS (decide (x = ("sum" : Str))) (o2 (fun a e => .cB .sum0 (.cons a (.cons e .nil))) (tr a) (tr e))
      else ifS (decide (k = ("default" : Str)) && decide (x = ("max" : Str))) (o2 (fun a e => .cB .maxd (.cons a (.cons e .nil))) (tr a) (tr e))
    | _, _ => none)
  else ifS (decide (x ≠ ("__debug__" : Str)) && decide (x ≠ ("__classdict__" : Str)) && kws.isEmpty) ((trNm T x).bind fun g => match g with
    | .v i => (mapO tr es).map fun ys => .cV (.v i) (exL (ys ++ []))
    | _ => none)
def trPart (tr : Expr → Option Ex) : Option Expr → Option Ex
  | none => some .nop
  | some e => (tr e).bind fun x => match x with
    | .nop => none
    | y => some y
def trIf (tr : Expr → Option Ex) : List Expr → Option Ex
  | [] => some .nop
  | [d] => tr d
  | _ => none
def trLC (tr : Stx → Expr → Option Ex) (T : Stx) (elt : Expr) (gs : List Comprehension) (scope : Scope) : Option Ex := match gs with
  | [g] => ifS (decide (g.is_async = 0) && blkC T.N T.sc scope (ownOf T.N scope)) ((o2 (fun t i => (t, i)) (trT (T.blk scope) g.target) (tr T g.iter)).bind fun q =>
      ifS (tgIn ((ownOf T.N scope).map (·.2)) q.1 && okI q.2 g.target) (o2 (fun d y => Ex.lc ((ownOf T.N scope).map (·.2)) q.1 q.2 d y) (trIf (tr (T.blk scope)) g.ifs) (tr (T.blk scope) elt)))
  | _ => none
def trPs (tr : Expr → Option Ex) : List (Option Expr) → List Expr → Option (List Ex)
  | [], [] => some []
  | some k :: ks, v :: vs => o3 (fun x y r => x :: y :: r) (tr k) (tr v) (trPs tr ks vs)
  | _, _ => none
/-- THE TRANSLATION of an expression -/
def trE : Nat → Stx → Expr → Option Ex
  | 0, _, _ => none
  | n + 1, T, e => match e with
    | .Name x _ => if x = ("__debug__" : Str) then none else if x = ("__classdict__" : Str) then none else trNm T x
    | .Constant (.int i) _ _ => some (.k (.int i))
    | .Constant (.str x) _ _ => some (.k (.str x.cps.toList))
    | .Constant (.bool b) _ _ => some (.k (.bl b))
    | .Constant .none _ _ => some (.k .non)
    | .BinOp a o b _ => o3 Ex.op (opOf o) (trE n T a) (trE n T b)
    | .UnaryOp .Not a _ => (trE n T a).map .not
    | .UnaryOp .USub a _ => (trE n T a).map .neg
    | .Compare a [o] [b] _ => ifS (!behindInMarks o b) (o3 Ex.cmp (cmOf o) (trE n T a) (trE n T b))
    | .Compare a [o, p] [b, d] _ => ifS (!lastMarks [o, p] [b, d]) ((o2 (fun o p => (o, p)) (cmOf o) (cmOf p)).bind fun q => o3 (Ex.chn q.1 q.2) (trE n T a) (trE n T b) (trE n T d))
    | .BoolOp o vs _ => ifS (decide (vs.length ≠ 1)) ((mapO (trE n T) vs).bind (joinB o))
    | .IfExp d a b _ => o3 Ex.ite (trE n T d) (trE n T a) (trE n T b)
    | .Tuple es _ _ => (mapO (trE n T) es).map fun ys => .tup (exL ys)
    | .List es _ => (mapO (trE n T) es).map fun ys => .lst (exL ys)
    | .Dict ks vs _ => ifS (decide (ks.length ≤ 15)) ((trPs (trE n T) ks vs).map fun ys => .dct (exL ys))
    | .Subscript a i _ => (match i with
      | .Slice lo hi none _ => o3 Ex.slc (trE n T a) (trPart (trE n T) lo) (trPart (trE n T) hi)
      | i => o2 Ex.sub (trE n T a) (trE n T i))
    | .Attribute a f _ => ifS (okBase a && decide (nm (enc f.cps.toList) = f)) ((trE n T a).map fun x => .fld x (enc f.cps.toList))
    | .Call (.Name x _) es kws _ => (match trSp (trE n T) T x es kws with
      | some y => some y
      | none => trCall (trE n T) T x es kws)
    | .Call (.Attribute o m apos) es kws pos => trMeth (trE n T) T o m es kws apos pos
    | .ListComp elt gs scope _ => trLC (trE n) T elt gs scope
    | _ => none
end MP
/-! MP15: the translation of an expression is right. -/
namespace MP
open PySem L2 PyProof.Rows
structure Cok (R : RC) (G : Gm) (c : Cal) (lev : Nat) (T : Stx) (X : Cx) : Prop where
  E : E1 R G X
  N : X.N = T.N
  nd : T.N.Nodup
  sc : X.env.scope = T.sc
  fb : ∀ x, T.fb x = true → X.fn x = true
  gl : ∀ x w, T.gl.lookup x = some w → ∃ u v, X.mg x = some u ∧ RelV v u ∧ ∀ H, RV R H w v
  bf : ∀ x, x ∈ T.bf → X.mg x = none
  rm : Room (lev + 3) X.A
  pn : ∀ f ps, T.pn.lookup f = some ps → ∃ fd, G.fn f = some fd
  cf : ∀ f fd, G.fn f = some fd → CFn R X.prog X.w X.K X.mg X.base lev c f fd (T.sh f)
  ci : ∀ k f, T.ci.lookup k = some f → ∃ cd, G.cd k = some cd ∧ cd.init = some f
  sg : ∀ f q, q ∈ G.sh f → (q.1, q.2.1, q.2.2.map S') ∈ T.sh f
  mf : ∀ k cd m f, G.cd k = some cd → cd.mt.lookup m = some f → ∃ fd, G.fn f = some fd
  xn : ∀ x q, T.xn.lookup x = some q → G.xv q.1 = true ∧ (X.mg x = some (R.xcl q.1) ∨ (X.mg x = none ∧ bootBuiltins x = some (R.xcl q.1) ∧ x ≠ "__name__")) ∧ (q.2 = true → X.mg x = some (R.xcl q.1) ∧ G.xi q.1 ≠ none)
  x1 : ∀ c f, G.xi c = some (some f) → ∃ C g, R.xcl c = .ref C ∧ XiF X.K X.mg C g (nm f)
  x0 : ∀ c, G.xi c = some none → ∃ C, R.xcl c = .ref C ∧ X0F X.K C
section
variable {R : RC} {G : Gm} {c : Cal} {lev : Nat} {T : Stx} {X : Cx}
theorem Cok.blk (C : Cok R G c lev T X) (s : Shared) (H : Hp) (scope : Scope) (cl : List (Str × Addr)) (D : Addr) (fp : List Addr) : Cok R G c lev (T.blk scope) (X.blk s H scope (compEnvC scope cl D X.env) fp) where
  E := C.E.blk s H scope _ fp
  N := C.N
  nd := C.nd
  sc := by
    show relabel scope X.env = relab scope T.sc
    rw [← C.sc]
    rfl
  fb := fun x h => h
  gl := C.gl
  bf := C.bf
  rm := C.rm
  pn := C.pn
  cf := C.cf
  ci := C.ci
  sg := C.sg
  mf := C.mf
  xn := C.xn
  x1 := C.x1
  x0 := C.x0
theorem fn_none {n : Nat} {e : Expr} {x : Ex} (h : trE n T e = some x) : ∃ m, n = m + 1 := by
  cases n with
  | zero => cases h
  | succ m => exact ⟨m, rfl⟩
/-- an expression that is translated is none of the odd ones -/
theorem tr_star {n : Nat} {e : Expr} {x : Ex} (h : trE n T e = some x) (r : List Expr) (env : Env) : starEach (e :: r) env = (false, eval e env) :: starEach r env := by
  obtain ⟨m, rfl⟩ := fn_none h
  cases e <;> first | rfl | (cases h; done)
theorem tr_fold {n : Nat} {e : Expr} {x : Ex} (h : trE n T e = some x) (env : Env) : ∀ y, foldedSetIterable e env y = pure y := by
  obtain ⟨m, rfl⟩ := fn_none h
  intro y
  cases e <;> first | rfl | (cases h; done)
theorem tr_ix {n : Nat} {e : Expr} {x : Ex} (h : trE n T e = some x) : PlainIx e := by
  obtain ⟨m, rfl⟩ := fn_none h
  intro o i
  cases e <;> first | rfl | (cases h; done)
theorem tr_aug {n : Nat} {e : Expr} {x : Ex} (h : trE n T e = some x) : ∀ ov iv new, augStore e ov iv new = (do holding [new, ov, iv] (setItem ov iv new); release [new, ov, iv] []; pure .next) := by
  obtain ⟨m, rfl⟩ := fn_none h
  intro o i w
  cases e <;> first | rfl | (cases h; done)
def isComp : Expr → Bool
  | .ListComp .. => true
  | .SetComp .. => true
  | .DictComp .. => true
  | _ => false
theorem tr_swap {e : Expr} (h : isComp e = false) (t : Option Expr) (l : Nat) (env : Env) : swapsWith e t l env = pure false := by
  cases e <;> first | rfl | (cases h; done)
/-! ### names -/
theorem lk_kind (C : Cok R G c lev T X) {x : Str} : X.env.kindOf x = T.sc.names.lookup x := by
  show X.env.scope.names.lookup x = _
  rw [C.sc]
theorem isB_ok (C : Cok R G c lev T X) {x : Str} (h : isB T x = true) : Gl X x ∧ X.mg x = none := by
  unfold isB at h
  rw [Bool.and_eq_true] at h
  exact ⟨(lk_kind C).trans (of_decide_eq_true h.1), C.bf x (of_decide_eq_true h.2)⟩
theorem stO_ok (C : Cok R G c lev T X) {x : Str} (h : stO T x = true) : Loc X.env.scope x ∧ (X.fn x = true ∨ X.env.scope.names.lookup x = some .local) := by
  have e : X.env.scope.names.lookup x = T.sc.names.lookup x := by rw [C.sc]
  unfold stO at h
  split at h
  · next q => exact ⟨.inl (e.trans q), .inr (e.trans q)⟩
  · next q => exact ⟨.inr (e.trans q), .inl (C.fb x h)⟩
  · cases h
theorem nm_ok (C : Cok R G c lev T X) {x : Str} {y : Ex} {p : Pos} (h : trNm T x = some y) (h1 : x ≠ ("__debug__" : Str)) (h2 : x ≠ ("__classdict__" : Str)) (KX : KXS) : PE X (.Name x p) (LE R (rd G c y KX).e) := by
  have d1 : (x == ("__debug__" : Str)) = false := beq_eq_false_iff_ne.mpr h1
  have d2 : (x == ("__classdict__" : Str)) = false := beq_eq_false_iff_ne.mpr h2
  have e : X.env.scope.names.lookup x = T.sc.names.lookup x := by rw [C.sc]
  have loc : Vis X.env.scope x → (ixOf T.N x).map Ex.v = some y → PE X (.Name x p) (LE R (rd G c y KX).e) := fun v q => by
    obtain ⟨i, hi, rfl⟩ := Option.map_eq_some_iff.mp q
    exact e_var (by rw [C.N]; exact ixOf_at hi) v d1 d2
  unfold trNm at h
  split at h
  · next q =>
    obtain ⟨w, hw, rfl⟩ := Option.map_eq_some_iff.mp h
    obtain ⟨u, v, hm, r1, r2⟩ := C.gl x w hw
    exact e_const (pe_glob (show Gl X x from e.trans q) hm r1 d1) r2
  · next q => exact loc (.inl (e.trans q)) h
  · next q => exact loc (.inr (.inl (e.trans q))) h
  · next q => exact loc (.inr (.inr (e.trans q))) h
  · cases h
/-! ### targets -/
theorem t1_ok (C : Cok R G c lev T X) {e : Expr} {i : Nat} (h : trT1 T e = some i) : PG X e (gName i) ∧ ∀ (r : List Expr) (env : Env), assignEach (e :: r) env = (false, assign e env) :: assignEach r env := by
  cases e with
  | Name x p =>
    obtain ⟨h1, h2⟩ := ifS_eq h
    obtain ⟨l, f⟩ := stO_ok C h1
    exact ⟨pg_name (by rw [C.N]; exact C.nd) (by rw [C.N]; exact ixOf_at h2) l f, fun _ _ => rfl⟩
  | _ => cases h
theorem ts_ok (C : Cok R G c lev T X) : ∀ {es : List Expr} {is : List Nat}, mapO (trT1 T) es = some is → PGs X es (gMany is) ∧ (assignEach es X.env).length = is.length ∧ (assignEach es X.env).findIdx? (·.1) = none
  | [], is, h => by cases h; exact ⟨pgs_nil, rfl, rfl⟩
  | e :: es, is, h => by
    obtain ⟨i, js, h1, h2, rfl⟩ := mapO_cons h
    obtain ⟨g1, g2⟩ := t1_ok C h1
    obtain ⟨i1, i2, i3⟩ := ts_ok C h2
    refine ⟨pgs_cons g1 i1 (by rw [g2]; rfl), by rw [g2]; simp [i2], ?_⟩
    rw [g2]
    simp only [List.findIdx?_cons]
    rw [i3]
    rfl
theorem t_ok (C : Cok R G c lev T X) {e : Expr} {t : Tg} (h : trT T e = some t) : PG X e (gT X.K t) := by
  cases e with
  | Name x p =>
    obtain ⟨i, h1, rfl⟩ := Option.map_eq_some_iff.mp h
    exact (t1_ok C (e := .Name x p) h1).1
  | Tuple es k p =>
    obtain ⟨is, h1, rfl⟩ := Option.map_eq_some_iff.mp h
    obtain ⟨i1, i2, i3⟩ := ts_ok C h1
    exact pg_tup C.E.calm i1 i2 i3
  | _ => cases h
/-! ### what holds of an expression -/
structure Good (R : RC) (G : Gm) (c : Cal) (X : Cx) (e : Expr) (x : Ex) (KX : KXS) : Prop where
  v : PE X e (LE R (rd G c x KX).e)
  t : PT X e (LT R (rd G c x KX).t)
  i : ∀ tg, okI x tg = true → PI X tg e (LI R (rd G c x KX).i)
def Tr (R : RC) (G : Gm) (c : Cal) (lev : Nat) (n : Nat) : Prop := ∀ (T : Stx) (X : Cx), Cok R G c lev T X → ∀ e x, trE n T e = some x → ∀ KX, TK R X KX → Good R G c X e x KX
/-- by its value alone -/
theorem good_val (C : Cok R G c lev T X) {e : Expr} {x : Ex} {KX : KXS} {t : TE'} (hx : rd G c x KX = pl t) (h : PE X e (LE R t)) (he : ∀ whole, isTrue e X.env whole = (do let v ← whole; standAt e.pos; holding [v] (truthy v))) : Good R G c X e x KX := by
  refine ⟨?_, ?_, fun tg _ => ?_⟩
  · rw [hx]; exact h
  · rw [hx]; exact t_truth C.E h he
  · rw [hx]; exact i_val C.E.K h
theorem args_ok {n : Nat} (ih : Tr R G c lev n) (C : Cok R G c lev T X) {KX : KXS} (tk : TK R X KX) : ∀ {es : List Expr} {ys : List Ex}, mapO (trE n T) es = some ys → AL R X es es.length (rd G c (exL ys) KX).a
  | [], ys, h => by cases h; exact .nil
  | e :: es, ys, h => by
    obtain ⟨y, zs, h1, h2, rfl⟩ := mapO_cons h
    exact .cons (ih T X C e y h1 KX tk).v (tr_star h1 _ _) (args_ok ih C tk h2)
theorem aApp_ok (KX : KXS) : ∀ (ys zs : List Ex), (rd G c (exL (ys ++ zs)) KX).a = aApp (rd G c (exL ys) KX).a (rd G c (exL zs) KX).a
  | [], zs => rfl
  | y :: ys, zs => by
    funext σ S Q
    show (rd G c y KX).e σ S (fun x S1 => (rd G c (exL (ys ++ zs)) KX).a σ S1 fun xs S2 => Q (x :: xs) S2) = _
    rw [aApp_ok KX ys zs]
    rfl
theorem kws_ok {n : Nat} (ih : Tr R G c lev n) (C : Cok R G c lev T X) {KX : KXS} (tk : TK R X KX) {ps : List Str} : ∀ {kws : List Keyword} {is : List Nat} {ks : List Str} {zs : List Ex}, kwI ps (trE n T) kws = some (is, ks, zs) → KL R X kws ks is.length (rd G c (exL zs) KX).a
  | [], is, ks, zs, h => by cases h; exact .nil
  | ⟨none, e, p⟩ :: r, is, ks, zs, h => by cases h
  | ⟨some x, e, p⟩ :: r, is, ks, zs, h => by
    have h' : (match ixOf ps x, trE n T e, kwI ps (trE n T) r with
      | some i, some y, some (is, ks, ys) => some (i :: is, x :: ks, y :: ys)
      | _, _, _ => none) = some (is, ks, zs) := h
    cases e1 : ixOf ps x with
    | none => rw [e1] at h'; cases h'
    | some i => cases e2 : trE n T e with
      | none => rw [e1, e2] at h'; cases h'
      | some y => cases e3 : kwI ps (trE n T) r with
        | none => rw [e1, e2, e3] at h'; cases h'
        | some q =>
          obtain ⟨is', ks', ys'⟩ := q
          rw [e1, e2, e3] at h'
          cases h'
          exact .cons (ih T X C e y e2 KX tk).v (kws_ok ih C tk e3)
theorem bools_ok {n : Nat} (ih : Tr R G c lev n) (C : Cok R G c lev T X) {KX : KXS} (tk : TK R X KX) {o : BoolOp} {pos : Pos} : ∀ {vs : List Expr} {ys : List Ex} {x : Ex}, mapO (trE n T) vs = some ys → joinB o ys = some x → PE X (.BoolOp o vs pos) (LE R (rd G c x KX).e) ∧ PW X (.BoolOp o vs pos) (LT R (rd G c x KX).t) ∧ (vs.length ≠ 1 → (rd G c x KX).i = tI (rd G c x KX).e)
  | [], ys, x, h, h2 => by cases h; cases h2
  | [e], ys, x, h, h2 => by
    obtain ⟨y, zs, h1, h3, rfl⟩ := mapO_cons h
    cases h3
    cases h2
    have g := ih T X C e _ h1 KX tk
    refine ⟨pe_one g.v, ?_, fun z => absurd rfl z⟩
    cases o
    · exact pw_and1 g.t
    · exact pw_or1 g.t
  | e :: e2 :: r, ys, x, h, h2 => by
    obtain ⟨y, zs, h1, h3, rfl⟩ := mapO_cons h
    obtain ⟨y2, zs2, h4, h5, rfl⟩ := mapO_cons h3
    obtain ⟨z, hz, rfl⟩ := Option.map_eq_some_iff.mp (show (joinB o (y2 :: zs2)).map _ = some x from h2)
    have g := ih T X C e y h1 KX tk
    obtain ⟨i1, i2, _⟩ := bools_ok ih C tk (vs := e2 :: r) (pos := pos) h3 hz
    cases o
    · exact ⟨e_and C.E g.v i1, w_and g.t i2, fun _ => rfl⟩
    · exact ⟨e_or C.E g.v i1, w_or g.t i2, fun _ => rfl⟩
end
end MP
/-! MP16: the translation of an expression is right, by cases. -/
namespace MP
open PySem L2 PyProof.Rows
section
variable {R : RC} {G : Gm} {c : Cal} {lev : Nat} {T : Stx} {X : Cx}
theorem never_c {f : Value} {b : BI} (h : ∀ ws S Q, ¬ biW b ws S Q) : CallR X f (LC R (biW b)) := fun pins s σ H xs us Q I r q => by
  obtain ⟨ws, S, Qw, _, _, z, _⟩ := q
  exact absurd z (h _ _ _)
def biN : BI → Str
  | .len => "len" | .all => "all" | .any => "any" | .sum => "sum" | .min => "min" | .max => "max" | .str => "str" | .int => "int" | .repr => "repr" | .list => "list" | .tuple => "tuple" | .range => "range" | .zip => "zip" | .enum => "enumerate" | .dict => "dict" | .bool => "bool" | _ => ""
theorem bi_ok (E : E1 R G X) {x : Str} {q : BI × BV} (h : biOf x = some q) : bootBuiltins x = some q.2.v ∧ CallR X q.2.v (LC R (biW q.1)) ∧ x ≠ "__name__" ∧ x = biN q.1 := by
  unfold biOf at h
  by_cases e : x = ("len" : Str)
  · rw [if_pos e] at h; cases h; subst e; exact ⟨by rfl, ok_len E.K, by decide, rfl⟩
  rw [if_neg e] at h; clear e
  by_cases e : x = ("all" : Str)
  · rw [if_pos e] at h; cases h; subst e; exact ⟨by rfl, ok_all E, by decide, rfl⟩
  rw [if_neg e] at h; clear e
  by_cases e : x = ("any" : Str)
  · rw [if_pos e] at h; cases h; subst e; exact ⟨by rfl, ok_any E, by decide, rfl⟩
  rw [if_neg e] at h; clear e
  by_cases e : x = ("sum" : Str)
  · rw [if_pos e] at h; cases h; subst e; exact ⟨by rfl, ok_sum E, by decide, rfl⟩
  rw [if_neg e] at h; clear e
  by_cases e : x = ("min" : Str)
  · rw [if_pos e] at h; cases h; subst e; exact ⟨by rfl, ok_min E, by decide, rfl⟩
  rw [if_neg e] at h; clear e
  by_cases e : x = ("max" : Str)
  · rw [if_pos e] at h; cases h; subst e; exact ⟨by rfl, ok_max E, by decide, rfl⟩
  rw [if_neg e] at h; clear e
  by_cases e : x = ("str" : Str)
  · rw [if_pos e] at h; cases h; subst e; exact ⟨by rfl, ok_str, by decide, rfl⟩
  rw [if_neg e] at h; clear e
  by_cases e : x = ("int" : Str)
  · rw [if_pos e] at h; cases h; subst e; exact ⟨by rfl, ok_int, by decide, rfl⟩
  rw [if_neg e] at h; clear e
  by_cases e : x = ("repr" : Str)
  · rw [if_pos e] at h; cases h; subst e; exact ⟨by rfl, ok_repr E, by decide, rfl⟩
  rw [if_neg e] at h; clear e
  by_cases e : x = ("list" : Str)
  · rw [if_pos e] at h; cases h; subst e; exact ⟨by rfl, ok_list E.K, by decide, rfl⟩
  rw [if_neg e] at h; clear e
  by_cases e : x = ("tuple" : Str)
  · rw [if_pos e] at h; cases h; subst e; exact ⟨by rfl, ok_tuple E.K, by decide, rfl⟩
  rw [if_neg e] at h; clear e
  by_cases e : x = ("range" : Str)
  · rw [if_pos e] at h; cases h; subst e; exact ⟨by rfl, never_c fun ws S Q z => z, by decide, rfl⟩
  rw [if_neg e] at h; clear e
  by_cases e : x = ("zip" : Str)
  · rw [if_pos e] at h; cases h; subst e; exact ⟨by rfl, never_c fun ws S Q z => z, by decide, rfl⟩
  rw [if_neg e] at h; clear e
  by_cases e : x = ("enumerate" : Str)
  · rw [if_pos e] at h; cases h; subst e; exact ⟨by rfl, never_c fun ws S Q z => z, by decide, rfl⟩
  rw [if_neg e] at h; clear e
  by_cases e : x = ("dict" : Str)
  · rw [if_pos e] at h; cases h; subst e; exact ⟨by rfl, ok_dict E, by decide, rfl⟩
  rw [if_neg e] at h; clear e
  by_cases e : x = ("bool" : Str)
  · rw [if_pos e] at h; cases h; subst e; exact ⟨by rfl, ok_bool E, by decide, rfl⟩
  rw [if_neg e] at h; clear e
  cases h
theorem biV {x : Str} {q : BI × BV} (h : biOf x = some q) : (q.1 = .len → q.2.v = .builtin "len") ∧ (q.1 = .bool → q.2.v = .type "bool") ∧ (q.1 = .str → q.2.v = .type "str") ∧ (q.1 = .repr → q.2.v = .builtin "repr") := by
  unfold biOf at h
  by_cases e : x = ("len" : Str)
  · rw [if_pos e] at h; cases h; exact ⟨fun z => (by first | rfl | cases z), fun z => (by first | rfl | cases z), fun z => (by first | rfl | cases z), fun z => (by first | rfl | cases z)⟩
  rw [if_neg e] at h; clear e
  by_cases e : x = ("all" : Str)
  · rw [if_pos e] at h; cases h; exact ⟨fun z => (by first | rfl | cases z), fun z => (by first | rfl | cases z), fun z => (by first | rfl | cases z), fun z => (by first | rfl | cases z)⟩
  rw [if_neg e] at h; clear e
  by_cases e : x = ("any" : Str)
  · rw [if_pos e] at h; cases h; exact ⟨fun z => (by first | rfl | cases z), fun z => (by first | rfl | cases z), fun z => (by first | rfl | cases z), fun z => (by first | rfl | cases z)⟩
  rw [if_neg e] at h; clear e
  by_cases e : x = ("sum" : Str)
  · rw [if_pos e] at h; cases h; exact ⟨fun z => (by first | rfl | cases z), fun z => (by first | rfl | cases z), fun z => (by first | rfl | cases z), fun z => (by first | rfl | cases z)⟩
  rw [if_neg e] at h; clear e
  by_cases e : x = ("min" : Str)
  · rw [if_pos e] at h; cases h; exact ⟨fun z => (by first | rfl | cases z), fun z => (by first | rfl | cases z), fun z => (by first | rfl | cases z), fun z => (by first | rfl | cases z)⟩
  rw [if_neg e] at h; clear e
  by_cases e : x = ("max" : Str)
  · rw [if_pos e] at h; cases h; exact ⟨fun z => (by first | rfl | cases z), fun z => (by first | rfl | cases z), fun z => (by first | rfl | cases z), fun z => (by first | rfl | cases z)⟩
  rw [if_neg e] at h; clear e
  by_cases e : x = ("str" : Str)
  · rw [if_pos e] at h; cases h; exact ⟨fun z => (by first | rfl | cases z), fun z => (by first | rfl | cases z), fun z => (by first | rfl | cases z), fun z => (by first | rfl | cases z)⟩
  rw [if_neg e] at h; clear e
  by_cases e : x = ("int" : Str)
  · rw [if_pos e] at h; cases h; exact ⟨fun z => (by first | rfl | cases z), fun z => (by first | rfl | cases z), fun z => (by first | rfl | cases z), fun z => (by first | rfl | cases z)⟩
  rw [if_neg e] at h; clear e
  by_cases e : x = ("repr" : Str)
  · rw [if_pos e] at h; cases h; exact ⟨fun z => (by first | rfl | cases z), fun z => (by first | rfl | cases z), fun z => (by first | rfl | cases z), fun z => (by first | rfl | cases z)⟩
  rw [if_neg e] at h; clear e
  by_cases e : x = ("list" : Str)
  · rw [if_pos e] at h; cases h; exact ⟨fun z => (by first | rfl | cases z), fun z => (by first | rfl | cases z), fun z => (by first | rfl | cases z), fun z => (by first | rfl | cases z)⟩
  rw [if_neg e] at h; clear e
  by_cases e : x = ("tuple" : Str)
  · rw [if_pos e] at h; cases h; exact ⟨fun z => (by first | rfl | cases z), fun z => (by first | rfl | cases z), fun z => (by first | rfl | cases z), fun z => (by first | rfl | cases z)⟩
  rw [if_neg e] at h; clear e
  by_cases e : x = ("range" : Str)
  · rw [if_pos e] at h; cases h; exact ⟨fun z => (by first | rfl | cases z), fun z => (by first | rfl | cases z), fun z => (by first | rfl | cases z), fun z => (by first | rfl | cases z)⟩
  rw [if_neg e] at h; clear e
  by_cases e : x = ("zip" : Str)
  · rw [if_pos e] at h; cases h; exact ⟨fun z => (by first | rfl | cases z), fun z => (by first | rfl | cases z), fun z => (by first | rfl | cases z), fun z => (by first | rfl | cases z)⟩
  rw [if_neg e] at h; clear e
  by_cases e : x = ("enumerate" : Str)
  · rw [if_pos e] at h; cases h; exact ⟨fun z => (by first | rfl | cases z), fun z => (by first | rfl | cases z), fun z => (by first | rfl | cases z), fun z => (by first | rfl | cases z)⟩
  rw [if_neg e] at h; clear e
  by_cases e : x = ("dict" : Str)
  · rw [if_pos e] at h; cases h; exact ⟨fun z => (by first | rfl | cases z), fun z => (by first | rfl | cases z), fun z => (by first | rfl | cases z), fun z => (by first | rfl | cases z)⟩
  rw [if_neg e] at h; clear e
  by_cases e : x = ("bool" : Str)
  · rw [if_pos e] at h; cases h; exact ⟨fun z => (by first | rfl | cases z), fun z => (by first | rfl | cases z), fun z => (by first | rfl | cases z), fun z => (by first | rfl | cases z)⟩
  rw [if_neg e] at h; clear e
  cases h
theorem Cok.cl1 (C : Cok R G c lev T X) : Cl1 R G X c := ⟨fun f fd h => ⟨lev, T.sh f, C.cf f fd h, C.sg f, C.rm⟩⟩
theorem xn_ok (C : Cok R G c lev T X) {x : Str} {k : Nat} (h : trX T x = some k) : x ≠ ("__debug__" : Str) ∧ Gl X x ∧ ∃ b, T.xn.lookup x = some (k, b) := by
  unfold trX at h
  split at h
  · cases h
  · next h1 =>
    split at h
    · next h2 =>
      obtain ⟨q, hq, rfl⟩ := Option.map_eq_some_iff.mp h
      exact ⟨h1, (lk_kind C).trans h2, q.2, hq⟩
    · cases h
theorem xr_ok (C : Cok R G c lev T X) {x : Str} {k : Nat} (h : trXr T x = some k) : x ≠ ("__debug__" : Str) ∧ Gl X x ∧ T.xn.lookup x = some (k, true) := by
  unfold trXr at h
  split at h
  · cases h
  · next h1 =>
    split at h
    · next h2 =>
      split at h
      · next c hc => cases h; exact ⟨h1, (lk_kind C).trans h2, hc⟩
      · cases h
    · cases h
theorem arg_ok (C : Cok R G c lev T X) {y : Str} {t : TR} {p : Pos} (h : trArg y T = some t) (hd : y ≠ ("__debug__" : Str)) : PE X (.Name y p) (fun _ H Q => Q (trL R t) H) := by
  have d : (y == ("__debug__" : Str)) = false := beq_eq_false_iff_ne.mpr hd
  unfold trArg at h
  split at h
  · next k q =>
    cases h
    obtain ⟨_, hg, b, hl⟩ := xn_ok C q
    obtain ⟨hv, hm, _⟩ := C.xn y _ hl
    have rel : RelV (vOf (R.xcl k)) (R.xcl k) := by
      rcases C.E.xcs.xk k hv with ⟨D, e⟩ | ⟨n, e⟩
      · rw [e]; exact rfl
      · rw [e]; exact rfl
    rcases hm with hm | ⟨hm, hb, hn⟩
    · exact pe_glob hg hm rel d
    · exact pe_bltn hg hm hb rel hn d
  split at h
  · next q =>
    obtain ⟨g1, g2⟩ := isB_ok C q
    unfold trOf at h
    by_cases e : y = ("int" : Str)
    · rw [if_pos e] at h; cases h; subst e; exact pe_bltn g1 g2 (by rfl) (show RelV (V.ty _) (Value.type _) from rfl) (by decide) (by decide)
    rw [if_neg e] at h; clear e
    by_cases e : y = ("bool" : Str)
    · rw [if_pos e] at h; cases h; subst e; exact pe_bltn g1 g2 (by rfl) (show RelV (V.ty _) (Value.type _) from rfl) (by decide) (by decide)
    rw [if_neg e] at h; clear e
    by_cases e : y = ("str" : Str)
    · rw [if_pos e] at h; cases h; subst e; exact pe_bltn g1 g2 (by rfl) (show RelV (V.ty _) (Value.type _) from rfl) (by decide) (by decide)
    rw [if_neg e] at h; clear e
    by_cases e : y = ("tuple" : Str)
    · rw [if_pos e] at h; cases h; subst e; exact pe_bltn g1 g2 (by rfl) (show RelV (V.ty _) (Value.type _) from rfl) (by decide) (by decide)
    rw [if_neg e] at h; clear e
    by_cases e : y = ("list" : Str)
    · rw [if_pos e] at h; cases h; subst e; exact pe_bltn g1 g2 (by rfl) (show RelV (V.ty _) (Value.type _) from rfl) (by decide) (by decide)
    rw [if_neg e] at h; clear e
    by_cases e : y = ("dict" : Str)
    · rw [if_pos e] at h; cases h; subst e; exact pe_bltn g1 g2 (by rfl) (show RelV (V.ty _) (Value.type _) from rfl) (by decide) (by decide)
    rw [if_neg e] at h; clear e
    cases h
  · split at h
    · next q1 q2 =>
      cases h
      obtain ⟨u, v, hm, r1, r2⟩ := C.gl y _ q2
      have r3 : v = V.ref (R.cad _) := r2 (fun _ => none)
      subst r3
      exact pe_glob (show Gl X y from (lk_kind C).trans q1) hm r1 d
    · cases h
theorem names_ok (C : Cok R G c lev T X) : ∀ {cs : List Expr} {ts : List TR}, mapO (trArgN T) cs = some ts → Paired (fun c v => PE X c (fun _ H Q => Q v H) ∧ ∀ r env, starEach (c :: r) env = (false, eval c env) :: starEach r env) cs (ts.map (trL R))
  | [], ts, h => by cases h; exact .nil
  | e :: cs, ts, h => by
    obtain ⟨t, r, h1, h2, rfl⟩ := mapO_cons h
    cases e with
    | Name y p =>
      obtain ⟨h3, h4⟩ := ifS_eq h1
      have hy : y ≠ ("__debug__" : Str) := by simpa using h3
      exact .cons ⟨arg_ok C (p := p) h4 hy, fun _ _ => rfl⟩ (names_ok C h2)
    | _ => cases h1
theorem call_ok {n : Nat} (ih : Tr R G c lev n) (C : Cok R G c lev T X) {x : Str} {p pos : Pos} {es : List Expr} {kws : List Keyword} {y : Ex} (h : trCall (trE n T) T x es kws = some y) {KX : KXS} (tk : TK R X KX) : Good R G c X (.Call (.Name x p) es kws pos) y KX := by
  unfold trCall at h
  split at h
  · cases h
  · next hd =>
    have d : (x == ("__debug__" : Str)) = false := beq_eq_false_iff_ne.mpr hd
    split at h
    · next hb =>
      obtain ⟨g1, g2⟩ := isB_ok C hb
      split at h
      · next hx =>
        subst hx
        split at h
        · next a y' p' =>
          obtain ⟨z, t, h1, h2, rfl⟩ := o2_eq h
          obtain ⟨h3, h4⟩ := ifS_eq h2
          have hy : y' ≠ ("__debug__" : Str) := by simpa using h3
          have g := ih T X C a z h1 KX tk
          have pv := e_isi (pos := pos) (p := p) C.E g1 g2 g.v (arg_ok C (p := p') h4 hy) (tr_star h1 _ _) rfl rfl
          exact ⟨pv, t_isi C.E g1 g2 g.v (arg_ok C (p := p') h4 hy) (tr_star h1 _ _) rfl rfl, fun tg _ => i_val C.E.K pv⟩
        · next a cs kk p' =>
          obtain ⟨z, ts, h1, h2, rfl⟩ := o2_eq h
          obtain ⟨ts', h3, h4⟩ := Option.bind_eq_some_iff.mp h2
          obtain ⟨h5, h6⟩ := ifS_eq h4
          cases h6
          obtain ⟨z1, z2⟩ := of_decide_eq_true h5
          have hp := pa_names (names_ok C h3)
          have hne : ts ≠ [] := fun q => by rw [q] at z1; exact absurd z1 (by decide)
          have g := ih T X C a z h1 KX tk
          have pv := e_isn (pos := pos) (kk := kk) (tp := p') (p := p) hne z2 hp C.E g1 g2 g.v fun r env => tr_star h1 r env
          exact ⟨pv, t_isn hne z2 hp C.E g1 g2 g.v fun r env => tr_star h1 r env, fun tg _ => i_val C.E.K pv⟩
        · cases h
      · split at h
        · next e es' =>
          obtain ⟨z, hz, h⟩ := Option.bind_eq_some_iff.mp h
          obtain ⟨q, ys, h1, h2, rfl⟩ := o2_eq hz
          obtain ⟨hn, h⟩ := ifS_eq h
          cases h
          obtain ⟨b1, b2, b3, b4⟩ := bi_ok C.E h1
          have al := args_ok ih C tk h2
          obtain ⟨bi, bv⟩ := q
          obtain ⟨y1, zs, h3, h4, rfl⟩ := mapO_cons h2
          have a2 := tr_star h3 es' X.env
          have a3 := (args_ok ih C tk h4).plain pos
          have pv0 : PE X (.Call (.Name x p) (e :: es') [] pos) (LE R (wCB bi (rd G c (exL (y1 :: zs)) KX).a)) := by
            cases bv with
            | b id => exact e_callB b2 g1 g2 b1 al.pa b3 d a2 a3
            | t Ty => exact e_callT b2 g1 g2 b1 al.pa b3 d a2 a3
          have b5 := bi_own C.E C.cl1 b2 (biV h1)
          have pv : PE X (.Call (.Name x p) (e :: es') [] pos) (LE R (wCBO G c bi (rd G c (exL (y1 :: zs)) KX).a)) := by
            cases bv with
            | b id => exact e_callBo b5 g1 g2 b1 al.pa b3 d a2 a3
            | t Ty => exact e_callTo b5 g1 g2 b1 al.pa b3 d a2 a3
          refine ⟨pv, t_truth C.E pv (fun _ => rfl), fun tg ht => ?_⟩
          have gen : iCB bi (rd G c (exL (y1 :: zs)) KX).a = tI (wCB bi (rd G c (exL (y1 :: zs)) KX).a) → PI X tg (.Call (.Name x p) (e :: es') [] pos) (LI R (rd G c (.cB bi (exL (y1 :: zs))) KX).i) := fun q => by
            show PI X tg _ (LI R (iCB bi (rd G c (exL (y1 :: zs)) KX).a))
            rw [q]
            exact i_val C.E.K pv0
          cases bi <;> first
            | exact gen rfl
            | skip
          · subst b4
            match es', zs, h4, hn with
            | [], zs, h4, hn =>
              cases h4
              exact i_rng1 g1 g2 (ih T X C e _ h3 KX tk).v (tr_star h3 [] X.env)
            | [e2], zs, h4, hn =>
              obtain ⟨y2, z2, h5, h6, rfl⟩ := mapO_cons h4
              cases h6
              exact i_rng2 g1 g2 (ih T X C e _ h3 KX tk).v (ih T X C e2 _ h5 KX tk).v (by rw [tr_star h3, tr_star h5]; rfl) (tr_star h5 [] X.env)
            | e2 :: e3 :: r, zs, h4, hn =>
              exfalso
              have hn' : ((r.length + 1 + 1 + 1 == 1) || (r.length + 1 + 1 + 1 == 2)) = true := hn
              simp at hn'
          · subst b4
            match es', zs, h4, hn with
            | [], zs, h4, hn => exact absurd (show (0 + 1 == 2) = true from hn) (by decide)
            | [e2], zs, h4, hn =>
              obtain ⟨y2, z2, h5, h6, rfl⟩ := mapO_cons h4
              cases h6
              have ht' : isTup tg = true := ht
              cases tg with
              | Tuple elts kk tpos => exact i_zip C.E.K g1 g2 (ih T X C e _ h3 KX tk).v (ih T X C e2 _ h5 KX tk).v (tr_star h3 _ _) (tr_star h5 [] X.env) (by rw [tr_star h5 [] X.env]; rfl)
              | _ => cases ht'
            | e2 :: e3 :: r, zs, h4, hn =>
              exfalso
              have hn' : (r.length + 1 + 1 + 1 == 2) = true := hn
              simp at hn'
          · subst b4
            match es', zs, h4, hn with
            | [], zs, h4, hn =>
              cases h4
              have ht' : isTup tg = true := ht
              cases tg with
              | Tuple elts kk tpos => exact i_enum C.E.K g1 g2 (ih T X C e _ h3 KX tk).v (tr_star h3 [] X.env)
              | _ => cases ht'
            | e2 :: r, zs, h4, hn =>
              exfalso
              have hn' : (r.length + 1 + 1 == 1) = true := hn
              simp at hn'
        · cases h
    · next hb =>
      split at h
      · next f q1 q2 =>
        obtain ⟨u, v, hm, r1, r2⟩ := C.gl x _ q2
        have r3 : v = V.ref (R.fad f) := r2 (fun _ => none)
        subst r3
        have r4 : u = Value.ref (R.fad f) := r1
        subst r4
        split at h
        · next ps hps =>
          split at h
          · next ys kw ks zs h1 h2 =>
            obtain ⟨h3, h4⟩ := ifS_eq h
            cases h4
            have hsh := of_decide_eq_true h3
            have al := args_ok ih C tk h1
            have kl := kws_ok ih C tk h2
            obtain ⟨fd, hf⟩ := C.pn f ps hps
            have pv := e_cF (pos := pos) (KXp := KX) (p := p) tk (C.cf f fd hf) hf (C.rm.mono (by omega)) C.E.gd hsh (show Gl X x from (lk_kind C).trans q1) hm d al kl
            rw [← aApp_ok] at pv
            exact ⟨pv, t_truth C.E pv (fun _ => rfl), fun tg _ => i_val C.E.K pv⟩
          · cases h
        · cases h
      · next k q1 q2 =>
        obtain ⟨u, v, hm, r1, r2⟩ := C.gl x _ q2
        have r3 : v = V.ref (R.cad k) := r2 (fun _ => none)
        subst r3
        have r4 : u = Value.ref (R.cad k) := r1
        subst r4
        split at h
        · next f hci =>
          split at h
          · next ps hps =>
            split at h
            · next ys kw ks zs h1 h2 =>
              obtain ⟨h3, h4⟩ := ifS_eq h
              cases h4
              have hsh := of_decide_eq_true h3
              have al := args_ok ih C tk h1
              have kl := kws_ok ih C tk h2
              obtain ⟨cd, hc, hi⟩ := C.ci k f hci
              obtain ⟨fd, hf⟩ := C.pn f ps hps
              have pv := e_mk (pos := pos) (KXp := KX) (p := p) tk (C.E.ini k cd f hc hi) C.E.K (C.cf f fd hf) hc hi hf (C.rm.mono (by omega)) C.E.gd hsh (show Gl X x from (lk_kind C).trans q1) hm d al kl
              rw [← aApp_ok] at pv
              exact ⟨pv, t_truth C.E pv (fun _ => rfl), fun tg _ => i_val C.E.K pv⟩
            · cases h
          · cases h
        · cases h
      · cases h
theorem sp_ok {n : Nat} (ih : Tr R G c lev n) (C : Cok R G c lev T X) {x : Str} {p pos : Pos} {es : List Expr} {kws : List Keyword} {y : Ex} (h : trSp (trE n T) T x es kws = some y) {KX : KXS} (tk : TK R X KX) : Good R G c X (.Call (.Name x p) es kws pos) y KX := by
  unfold trSp at h
  split at h
  · next hb =>
    obtain ⟨g1, g2⟩ := isB_ok C hb
    split at h
    · next o m apos mpos =>
      obtain ⟨h1, hq⟩ := ifS_eq h
      clear h
      rw [Bool.and_eq_true, Bool.and_eq_true] at h1
      have hm := of_decide_eq_true h1.2
      subst hm
      have hst : starEach [Expr.Call (.Attribute o "values" apos) [] [] mpos] X.env = (false, eval (Expr.Call (.Attribute o "values" apos) [] [] mpos) X.env) :: starEach [] X.env := rfl
      split at hq
      · next hx =>
        subst hx
        obtain ⟨z, hz, rfl⟩ := Option.map_eq_some_iff.mp hq
        have pv := e_sumv (pos := pos) (p := p) C.E g1 g2 (ih T X C o z hz KX tk).v (base_ok h1.1.1) h1.1.2 hst
        exact ⟨pv, t_truth C.E pv (fun _ => rfl), fun tg _ => i_val C.E.K pv⟩
      · split at hq
        · next hx =>
          subst hx
          obtain ⟨z, hz, rfl⟩ := Option.map_eq_some_iff.mp hq
          have pv := e_listv (pos := pos) (p := p) C.E g1 g2 (ih T X C o z hz KX tk).v (base_ok h1.1.1) h1.1.2 hst
          exact ⟨pv, t_truth C.E pv (fun _ => rfl), fun tg _ => i_val C.E.K pv⟩
        · cases hq
    · next a k e kp =>
      split at h
      · next hk =>
        obtain ⟨h1, hq⟩ := ifS_eq h
        clear h
        have hx := of_decide_eq_true h1
        subst hk hx
        obtain ⟨za, zb, h2, h3, rfl⟩ := o2_eq hq
        have pv := e_sum0 (pos := pos) (p := p) (kpos := kp) C.E g1 g2 (ih T X C a za h2 KX tk).v (ih T X C e zb h3 KX tk).v (tr_star h2 [] X.env)
        exact ⟨pv, t_truth C.E pv (fun _ => rfl), fun tg _ => i_val C.E.K pv⟩
      obtain ⟨h1, hq⟩ := ifS_eq h
      clear h
      rw [Bool.and_eq_true] at h1
      have hk := of_decide_eq_true h1.1
      have hx := of_decide_eq_true h1.2
      subst hk hx
      obtain ⟨za, zb, h2, h3, rfl⟩ := o2_eq hq
      have pv := e_maxd (pos := pos) (p := p) (kpos := kp) C.E g1 g2 (ih T X C a za h2 KX tk).v (ih T X C e zb h3 KX tk).v (tr_star h2 [] X.env)
      exact ⟨pv, t_truth C.E pv (fun _ => rfl), fun tg _ => i_val C.E.K pv⟩
    · cases h
  · obtain ⟨h1, hq⟩ := ifS_eq h
    clear h
    rw [Bool.and_eq_true, Bool.and_eq_true] at h1
    have d1 := of_decide_eq_true h1.1.1
    have d2 := of_decide_eq_true h1.1.2
    have hk : kws = [] := by simpa using h1.2
    subst hk
    obtain ⟨g, hg, hq⟩ := Option.bind_eq_some_iff.mp hq
    cases g with
    | v i =>
      obtain ⟨ys, h2, rfl⟩ := Option.map_eq_some_iff.mp hq
      have pv := e_cV (pos := pos) (p := p) (KXp := KX) tk C.cf C.sg (C.rm.mono (by omega)) C.E.gd (nm_ok (p := p) C hg d1 d2 KX) (args_ok ih C tk h2)
      have e : aApp (rd G c (exL ys) KX).a aNil = (rd G c (exL (ys ++ [])) KX).a := (aApp_ok KX ys []).symm
      rw [e] at pv
      exact ⟨pv, t_truth C.E pv (fun _ => rfl), fun tg _ => i_val C.E.K pv⟩
    | _ => cases hq
theorem meth_ok {n : Nat} (ih : Tr R G c lev n) (C : Cok R G c lev T X) {o : Expr} {m : Str} {apos pos : Pos} {es : List Expr} {kws : List Keyword} {y : Ex} (h : trMeth (trE n T) T o m es kws apos pos = some y) {KX : KXS} (tk : TK R X KX) : Good R G c X (.Call (.Attribute o m apos) es kws pos) y KX := by
  unfold trMeth at h
  split at h
  · obtain ⟨pss, hp, h⟩ := Option.bind_eq_some_iff.mp h
    obtain ⟨h1, h2⟩ := ifS_eq h
    obtain ⟨q, h3, rfl⟩ := Option.map_eq_some_iff.mp h2
    obtain ⟨x, ys, z, h4, h5, h6, rfl⟩ := o3_eq h3
    obtain ⟨ps, h7⟩ := fstO_eq h6
    obtain ⟨kw, ks, zs⟩ := z
    rw [Bool.and_eq_true, Bool.and_eq_true, Bool.and_eq_true] at h1
    obtain ⟨⟨⟨b1, b2⟩, b3⟩, b4⟩ := h1
    have hlen := of_decide_eq_true b3
    have hnm := of_decide_eq_true b4
    have g := ih T X C o x h4 KX tk
    have al := args_ok ih C tk h5
    have kl := kws_ok ih C tk h7
    have eks : (ks.map fun x : Str => x.cps.toList).map S' = ks := by
      rw [List.map_map]
      exact (List.map_congr_left fun x _ => S_tl x).trans (List.map_id ks)
    have pv := e_mO (pos := pos) (KXp := KX) (m := enc m.cps.toList) (ks := ks.map fun x : Str => x.cps.toList) (shs := T.sh) C.E tk (fun k cd f hc hm => by
      obtain ⟨fd, hf⟩ := C.mf k cd _ f hc hm
      exact ⟨fd, hf, C.cf f fd hf⟩) C.sg (C.rm.mono (by omega)) g.v al (by rw [eks]; exact kl) (base_ok b1) hlen b2
    rw [← aApp_ok, hnm] at pv
    exact ⟨pv, t_truth C.E pv (fun _ => rfl), fun tg _ => i_val C.E.K pv⟩
  split at h
  · obtain ⟨h1, h2⟩ := ifS_eq h
    obtain ⟨q, hq, h2⟩ := Option.bind_eq_some_iff.mp h2
    obtain ⟨bm, x, ys, h3, h4, h5, rfl⟩ := o3_eq hq
    obtain ⟨hvw, h2⟩ := ifS_eq h2
    cases h2
    rw [Bool.and_eq_true, Bool.and_eq_true] at h1
    obtain ⟨⟨h6, h7⟩, h8⟩ := h1
    have hlen := of_decide_eq_true h8
    have hm := bmOf_n h3
    subst hm
    have g := ih T X C o x h4 KX tk
    have al := args_ok ih C tk h5
    have pv : PE X (.Call (.Attribute o (bmN bm) apos) es [] pos) (LE R (wMB bm (rd G c x KX).e (rd G c (exL ys) KX).a)) := by
      cases es with
      | nil =>
        cases h5
        exact e_mB0 C.E g.v (base_ok h6) h7
      | cons e es' =>
        obtain ⟨y1, zs, h9, h10, rfl⟩ := mapO_cons h5
        refine e_mB C.E g.v al.pa (base_ok h6) ?_ h7 (tr_star h9 _ _) ((args_ok ih C tk h10).plain pos)
        rw [al.all pos]
        have e1 : decide ((e :: es').length + ([] : List Keyword).length + (if ([] : List Keyword).isEmpty then 0 else 1) < 30) = true := by
          apply decide_eq_true
          simp only [List.length_cons, List.length_nil, List.isEmpty_nil, if_true] at hlen ⊢
          omega
        rw [e1]
        rfl
    refine ⟨pv, t_truth C.E pv (fun _ => rfl), fun tg ht => ?_⟩
    show PI X tg _ (LI R (iMB bm (rd G c x KX).e (rd G c (exL ys) KX).a))
    by_cases hv : isVw bm = true
    · have he : es = [] := by
        rw [hv] at hvw
        simpa using hvw
      subst he
      cases bm with
      | items =>
        have ht' : isTup tg = true := ht
        cases tg with
        | Tuple elts kk tpos => exact i_items g.v (base_ok h6) h7
        | _ => cases ht'
      | values => exact i_vals g.v (base_ok h6) h7
      | keys => exact i_keysM g.v (base_ok h6) h7
      | _ => cases hv
    · have e : iMB bm (rd G c x KX).e (rd G c (exL ys) KX).a = tI (wMB bm (rd G c x KX).e (rd G c (exL ys) KX).a) := by
        cases bm <;> first | rfl | exact absurd rfl hv
      rw [e]
      exact i_val C.E.K pv
  · cases h
theorem part_ok {n : Nat} (ih : Tr R G c lev n) (C : Cok R G c lev T X) {KX : KXS} (tk : TK R X KX) {o : Option Expr} {x : Ex} (h : trPart (trE n T) o = some x) : PO X o (LP R (prt x (rd G c x KX).e)) := by
  cases o with
  | none => cases h; exact o_none
  | some e =>
    obtain ⟨y, h1, h2⟩ := Option.bind_eq_some_iff.mp (show (trE n T e).bind _ = some x from h)
    have g := ih T X C e y h1 KX tk
    have e1 : prt y (rd G c y KX).e = wPrt (rd G c y KX).e := by
      cases y <;> first | rfl | (cases h2; done)
    have e2 : x = y := by
      cases y <;> first | (cases h2; done) | exact (Option.some.inj h2).symm
    subst e2
    rw [e1]
    exact o_some g.v
theorem lc_inv {n : Nat} {elt : Expr} {gs : List Comprehension} {scope : Scope} {p : Pos} {x : Ex} (h : trE (n + 1) T (.ListComp elt gs scope p) = some x) : ∃ tg iter ifs t i d y, gs = [⟨tg, iter, ifs, 0⟩] ∧ blkC T.N T.sc scope (ownOf T.N scope) = true ∧ trT (T.blk scope) tg = some t ∧ trE n T iter = some i ∧
    ((ifs = [] ∧ d = Ex.nop) ∨ ∃ e, ifs = [e] ∧ trE n (T.blk scope) e = some d) ∧ trE n (T.blk scope) elt = some y ∧ tgIn ((ownOf T.N scope).map (·.2)) t = true ∧ okI i tg = true ∧ x = .lc ((ownOf T.N scope).map (·.2)) t i d y := by
  have h' : trLC (trE n) T elt gs scope = some x := h
  unfold trLC at h'
  match gs, h' with
  | [g], h' =>
    obtain ⟨h1, h2⟩ := ifS_eq h'
    rw [Bool.and_eq_true] at h1
    have h0 := of_decide_eq_true h1.1
    obtain ⟨q, e1, h2⟩ := Option.bind_eq_some_iff.mp h2
    obtain ⟨t, i, e2, e3, rfl⟩ := o2_eq e1
    obtain ⟨h3, h4⟩ := ifS_eq h2
    obtain ⟨d, y, e4, e5, rfl⟩ := o2_eq h4
    rw [Bool.and_eq_true] at h3
    obtain ⟨tg, iter, ifs, az⟩ := g
    have h0' : az = 0 := h0
    subst h0'
    refine ⟨tg, iter, ifs, t, i, d, y, rfl, h1.2, e2, e3, ?_, e5, h3.1, h3.2, rfl⟩
    match ifs, e4 with
    | [], e4 => exact .inl ⟨rfl, (Option.some.inj e4).symm⟩
    | [e], e4 => exact .inr ⟨e, rfl, e4⟩
theorem tests_ok {n : Nat} (ih : Tr R G c lev n) (C : Cok R G c lev T X) {KX : KXS} (tk : TK R X KX) {ifs : List Expr} {d : Ex} (h : (ifs = [] ∧ d = Ex.nop) ∨ ∃ e, ifs = [e] ∧ trE n T e = some d) : PTs X ifs (LT R (rd G c d KX).t) := by
  rcases h with ⟨rfl, rfl⟩ | ⟨e, rfl, h⟩
  · refine ⟨fun pins s τ H Q I q => (pts_nil (X := X)).run pins s τ H Q I ?_⟩
    obtain ⟨σ, S, Qw, hσ, hS, q, k⟩ := q
    exact k true S H q hS (Fr.refl _ _)
  · exact pts_one (ih T X C e d h KX tk).t
theorem prs_ok {n : Nat} (ih : Tr R G c lev n) (C : Cok R G c lev T X) {KX : KXS} (tk : TK R X KX) : ∀ {ks : List (Option Expr)} {vs : List Expr} {ys : List Ex}, trPs (trE n T) ks vs = some ys → ∃ trs, DL R X ks vs trs ∧ (rd G c (exL ys) KX).a = aPr trs
  | [], [], ys, h => by cases h; exact ⟨[], .nil, rfl⟩
  | some k :: ks, v :: vs, ys, h => by
    obtain ⟨x, y, r, h1, h2, h3, rfl⟩ := o3_eq h
    obtain ⟨trs, i1, i2⟩ := prs_ok ih C tk h3
    refine ⟨_, .cons (ih T X C k x h1 KX tk).v (ih T X C v y h2 KX tk).v i1, ?_⟩
    show aCons _ (aCons _ (rd G c (exL r) KX).a) = _
    rw [i2]
    rfl
  | [], _ :: _, ys, h => by cases h
  | none :: _, _, ys, h => by cases h
  | some _ :: _, [], ys, h => by cases h
/-- THE TRANSLATION IS RIGHT -/
theorem tr_good : ∀ n, Tr R G c lev n
  | 0 => fun T X C e x h => by cases h
  | n + 1 => fun T X C e x h KX tk => by
    have ih := tr_good n
    cases e with
    | Name y p =>
      have h' : (if y = ("__debug__" : Str) then none else if y = ("__classdict__" : Str) then none else trNm T y) = some x := h
      by_cases h1 : y = ("__debug__" : Str)
      · rw [if_pos h1] at h'; cases h'
      · rw [if_neg h1] at h'
        by_cases h2 : y = ("__classdict__" : Str)
        · rw [if_pos h2] at h'; cases h'
        · rw [if_neg h2] at h'
          have pv := nm_ok (p := p) C h' h1 h2 KX
          have hx : ∃ t, rd G c x KX = pl t := by
            unfold trNm at h'
            split at h' <;> first
              | (cases h'; done)
              | (obtain ⟨w, _, rfl⟩ := Option.map_eq_some_iff.mp h'; exact ⟨_, rfl⟩)
          obtain ⟨t, ht⟩ := hx
          rw [ht] at pv
          exact good_val C ht pv (fun _ => rfl)
    | Constant k j p =>
      cases k with
      | int i => cases h; exact good_val C rfl (e_const pe_int fun _ => rfl) (fun _ => rfl)
      | bool b => cases h; exact good_val C rfl (e_const pe_bl fun _ => rfl) (fun _ => rfl)
      | none => cases h; exact good_val C rfl (e_const pe_non fun _ => rfl) (fun _ => rfl)
      | str s => cases h; exact good_val C rfl (e_const pe_str fun _ => by show V.str s = V.str (S' s.cps.toList); rw [S_tl]) (fun _ => rfl)
      | _ => cases h
    | BinOp a o b p =>
      obtain ⟨q, y, z, h1, h2, h3, rfl⟩ := o3_eq h
      exact good_val C rfl (e_op C.E h1 (ih T X C a y h2 KX tk).v (ih T X C b z h3 KX tk).v) (fun _ => rfl)
    | UnaryOp o a p =>
      cases o with
      | Not =>
        obtain ⟨y, h1, rfl⟩ := Option.map_eq_some_iff.mp h
        have g := ih T X C a y h1 KX tk
        exact ⟨e_not C.E g.v, t_not g.t, fun tg _ => i_val C.E.K (e_not C.E g.v)⟩
      | USub =>
        obtain ⟨y, h1, rfl⟩ := Option.map_eq_some_iff.mp h
        exact good_val C rfl (e_neg (ih T X C a y h1 KX tk).v) (fun _ => rfl)
      | _ => cases h
    | Compare a ops cs p =>
      match ops, cs, h with
      | [o], [b], h =>
        obtain ⟨h1, h2⟩ := ifS_eq h
        obtain ⟨q, y, z, h3, h4, h5, rfl⟩ := o3_eq h2
        have hm : behindInMarks o b = false := by simpa using h1
        have ga := ih T X C a y h4 KX tk
        have gb := ih T X C b z h5 KX tk
        exact ⟨e_cmpO C.E C.cl1 h3 ga.v gb.v hm, t_cmpO C.E C.cl1 h3 ga.v gb.v hm, fun tg _ => i_val C.E.K (e_cmpO C.E C.cl1 h3 ga.v gb.v hm)⟩
      | [o, o'], [b, d], h =>
        obtain ⟨h1, h2⟩ := ifS_eq h
        obtain ⟨q, hq, h2⟩ := Option.bind_eq_some_iff.mp h2
        obtain ⟨q1, q2, e1, e2, rfl⟩ := o2_eq hq
        obtain ⟨y, z, u, h3, h4, h5, rfl⟩ := o3_eq h2
        have hm : lastMarks [o, o'] [b, d] = false := by simpa using h1
        have ga := ih T X C a y h3 KX tk
        have gb := ih T X C b z h4 KX tk
        have gd := ih T X C d u h5 KX tk
        exact ⟨e_chn C.E e1 e2 ga.v gb.v gd.v hm, t_chn C.E e1 e2 ga.v gb.v gd.v hm, fun tg _ => i_val C.E.K (e_chn C.E e1 e2 ga.v gb.v gd.v hm)⟩
      | [], _, h => cases h
      | [_], [], h => cases h
      | [_], _ :: _ :: _, h => cases h
      | [_, _], [], h => cases h
      | [_, _], [_], h => cases h
      | [_, _], _ :: _ :: _ :: _, h => cases h
      | _ :: _ :: _ :: _, _, h => cases h
    | BoolOp o vs p =>
      obtain ⟨h1, h2⟩ := ifS_eq h
      obtain ⟨ys, h3, h4⟩ := Option.bind_eq_some_iff.mp h2
      obtain ⟨b1, b2, b3⟩ := bools_ok ih C tk (pos := p) h3 h4
      refine ⟨b1, t_w b2, fun tg _ => ?_⟩
      rw [b3 (of_decide_eq_true h1)]
      exact i_val C.E.K b1
    | IfExp d a b p =>
      obtain ⟨u, y, z, h1, h2, h3, rfl⟩ := o3_eq h
      have gd := ih T X C d u h1 KX tk
      have ga := ih T X C a y h2 KX tk
      have gb := ih T X C b z h3 KX tk
      exact ⟨e_ite gd.t ga.v gb.v, t_ite gd.t ga.t gb.t, fun tg _ => i_val C.E.K (e_ite gd.t ga.v gb.v)⟩
    | Tuple es k p =>
      obtain ⟨ys, h1, rfl⟩ := Option.map_eq_some_iff.mp h
      exact good_val C rfl (e_tup (args_ok ih C tk h1).pa) (fun _ => rfl)
    | List es p =>
      obtain ⟨ys, h1, rfl⟩ := Option.map_eq_some_iff.mp h
      exact good_val C rfl (e_lst (args_ok ih C tk h1).pa) (fun _ => rfl)
    | Dict ks vs p =>
      obtain ⟨h1, h2⟩ := ifS_eq h
      obtain ⟨ys, h3, rfl⟩ := Option.map_eq_some_iff.mp h2
      obtain ⟨trs, i1, i2⟩ := prs_ok ih C tk h3
      have h15 := of_decide_eq_true h1
      have pv : PE X (.Dict ks vs p) (LE R (wDct (rd G c (exL ys) KX).a)) := by
        rw [i2]
        by_cases h0 : ks = []
        · subst h0
          cases i1
          exact e_dct0
        · exact e_dct i1 h0 h15
      exact good_val C rfl pv (fun _ => rfl)
    | Subscript a i p =>
      cases i with
      | Slice lo hi st p2 =>
        cases st with
        | none =>
          obtain ⟨y, z, u, h1, h2, h3, rfl⟩ := o3_eq h
          exact good_val C rfl (e_slc C.E.K (ih T X C a y h1 KX tk).v (part_ok ih C tk h2) (part_ok ih C tk h3)) (fun _ => rfl)
        | some s =>
          obtain ⟨y, z, h1, h2, rfl⟩ := o2_eq h
          obtain ⟨m, rfl⟩ := fn_none h2
          cases h2
      | _ =>
        obtain ⟨y, z, h1, h2, rfl⟩ := o2_eq h
        exact good_val C rfl (e_sub C.E (ih T X C a y h1 KX tk).v (ih T X C _ z h2 KX tk).v (tr_ix h2)) (fun _ => rfl)
    | Attribute a f p =>
      obtain ⟨h1, h2⟩ := ifS_eq h
      obtain ⟨y, h3, rfl⟩ := Option.map_eq_some_iff.mp h2
      rw [Bool.and_eq_true] at h1
      have hf := of_decide_eq_true h1.2
      have pv := e_fld (pos := p) (f := enc f.cps.toList) C.E (ih T X C a y h3 KX tk).v (base_ok h1.1)
      rw [hf] at pv
      exact good_val C rfl pv (fun _ => rfl)
    | Call f es kws p =>
      cases f with
      | Name y q =>
        have h' : (match trSp (trE n T) T y es kws with
          | some y => some y
          | none => trCall (trE n T) T y es kws) = some x := h
        cases hs : trSp (trE n T) T y es kws with
        | some z => rw [hs] at h'; cases h'; exact sp_ok ih C hs tk
        | none => rw [hs] at h'; exact call_ok ih C h' tk
      | Attribute o m q => exact meth_ok ih C h tk
      | _ => cases h
    | ListComp elt gs scope p =>
      obtain ⟨tg, iter, ifs, t, i, d, y, rfl, h1, h2, h3, h4, h5, h6, h7, rfl⟩ := lc_inv h
      have gi := ih T X C iter i h3 KX tk
      have ok : BlkOk X.N X.env.scope scope (ownOf T.N scope) := by
        rw [C.N, C.sc]
        exact blkOk_by h1
      have pv := e_lc (pos := p) C.E (by rw [C.N]; exact C.nd) (gi.i tg h7) ok h6 (fun s H D cl fp => t_ok (C.blk s H scope cl D fp) h2) (fun s H D cl fp => tests_ok ih (C.blk s H scope cl D fp) TK.no h4) (fun s H D cl fp => (ih _ _ (C.blk s H scope cl D fp) elt y h5 noX TK.no).v) (tr_fold h3 X.env)
      exact good_val C rfl pv (fun _ => rfl)
    | _ => cases h
end
end MP
/-! MP17: statements translated. -/
namespace MP
open PySem L2 PyProof.Rows
theorem Cok.nox {R : RC} {G : Gm} {c : Cal} {lev : Nat} {T : Stx} {X : Cx} (C : Cok R G c lev T X) : Cok R G c lev T X.nox :=
  { E := { xcs := C.E.xcs, K := C.E.K, calm := C.E.calm, un := C.E.un, gd := C.E.gd, sm := C.E.sm, own := C.E.own, bo := C.E.bo, oo := C.E.oo, sp := C.E.sp, na := C.E.na, mt := C.E.mt, ini := C.E.ini, kd := C.E.kd }
    N := C.N, nd := C.nd, sc := C.sc, fb := C.fb, gl := C.gl, bf := C.bf, rm := C.rm, pn := C.pn, cf := C.cf, ci := C.ci, sg := C.sg, mf := C.mf, xn := C.xn, x1 := C.x1, x0 := C.x0 }
/-! ### the layer's relation over another heap's tuples and frozen objects -/
section
variable {R : RC} {G : Gm} {A0 : Hp}
theorem Rls.re {H : Hp} {ws : List W} {us : List Value} (h : Rls R H ws us) : Rls (R.re A0) H ws us := let ⟨vs, a, b⟩ := h; ⟨vs, RVs.re _ _ a, b⟩
theorem EX.re (E : EX R G) : EX (R.re A0) G := ⟨E.xk, E.xx, E.xb, E.xo, E.xe, E.xi, E.xf⟩
theorem KV'.un {S : Sto} {H : Hp} {Qw : KE} {Q : VK} (k : KV' (R.re A0) S H Qw Q) : KV' R S H Qw Q := fun w S1 v H1 a b c d => k w S1 v H1 a (RV.re _ _ b) (Sim.re c) d
theorem CXw.re {P : Program} {w : World} {En : KX} {outer : List Env} {H : Hp} {s s' : Shared} {E : XK} {u : Value} (c : CXw R P w En outer H s E u s') : CXw (R.re A0) P w En outer H s E u s' := by
  obtain ⟨n, a, B, H', cls, d, e, fl, hok, ub, na, os, ag, x, S, q1, q2, q3, q4⟩ := c
  exact ⟨n, a, B, H', cls, d, e, fl, hok, ub, na, os, ag, x, S, q1, q2, Sim.re q3, RX.re q4⟩
theorem CFn.re {P : Program} {w : World} {K : PySem.W.Frag} {mg : Str → Option Value} {base : Heap} {lev : Nat} {c : Cal} {f : Nat} {fd : FD} {sh : List (Nat × List Nat × List Str)} (F : CFn R P w K mg base lev c f fd sh) : CFn (R.re A0) P w K mg base lev c f fd sh := by
  obtain ⟨fdat, ps, its, h1, h2, h3, h4, run⟩ := F.ex
  refine ⟨fdat, ps, its, h1, h2, fun H => Rls.re (h3 H), h4, fun A outer s H args us vs ws S Q Qw E a1 a2 a3 a4 a5 a6 a7 a8 a9 a10 => codeAny_mono (run A outer s H args us vs ws S Q Qw E a1 a2 a3 a4 a5 (RVs.un a6) a7 (Sim.un a8) a9 (KV'.un a10)) fun r s' hq => ?_⟩
  cases r with
  | ok fl => cases fl <;> first | exact hq | exact (show False from hq).elim
  | error e => exact CXw.re (E := fun _ _ _ => False) hq
variable {c : Cal} {lev : Nat} {T : Stx} {X : Cx}
theorem Cok.re (C : Cok R G c lev T X) : Cok (R.re A0) G c lev T X := by
  have kd : ∀ (d : Nat) (l : List Nat), G.kd d ≠ [] → ∃ es n r, KDict X.K X.w ((R.re A0).kad d) es n ∧ PySem.W.nsIn X.K ((R.re A0).kad d) (S' l) = some r ∧ (match lkW (G.kd d) (.inr l) with
      | some w => ∃ u v, r = some u ∧ RelV v u ∧ ∀ H, RV (R.re A0) H w v
      | none => r = none) := fun d l h => by
    obtain ⟨es, n, r, h1, h2, h3⟩ := C.E.kd d l h
    refine ⟨es, n, r, h1, h2, ?_⟩
    cases e : lkW (G.kd d) (.inr l) with
    | none => rw [e] at h3; exact h3
    | some w =>
      rw [e] at h3
      obtain ⟨u, v, a, b, k⟩ := h3
      exact ⟨u, v, a, b, fun H => RV.re _ _ (k H)⟩
  exact { E := { xcs := C.E.xcs.re, K := C.E.K, calm := C.E.calm, un := C.E.un, gd := C.E.gd, sm := C.E.sm, own := C.E.own, bo := C.E.bo, oo := C.E.oo, sp := C.E.sp, na := C.E.na, mt := C.E.mt, ini := C.E.ini, kd := kd }
          N := C.N, nd := C.nd, sc := C.sc, fb := C.fb, gl := fun x w h => let ⟨u, v, a, b, k⟩ := C.gl x w h; ⟨u, v, a, b, fun H => RV.re _ _ (k H)⟩, bf := C.bf, rm := C.rm, pn := C.pn, cf := fun f fd h => (C.cf f fd h).re, ci := C.ci, sg := C.sg, mf := C.mf, xn := C.xn, x1 := C.x1, x0 := C.x0 }
theorem Cok.tr (C : Cok R G c lev T X) (pn : List (Addr × Obj)) (xe : Value → Shared → Prop) : Cok R G c lev T (X.tr pn xe) :=
  { E := { xcs := C.E.xcs, K := C.E.K, calm := C.E.calm, un := C.E.un, gd := C.E.gd, sm := C.E.sm, own := C.E.own, bo := C.E.bo, oo := C.E.oo, sp := C.E.sp, na := C.E.na, mt := C.E.mt, ini := C.E.ini, kd := C.E.kd }
    N := C.N, nd := C.nd, sc := C.sc, fb := C.fb, gl := C.gl, bf := C.bf, rm := C.rm, pn := C.pn, cf := C.cf, ci := C.ci, sg := C.sg, mf := C.mf, xn := C.xn, x1 := C.x1, x0 := C.x0 }
/-- the frame of a def -/
structure Tok (X : Cx) : Prop where
  st : X.stack = X.env :: X.outer
  fr : X.env.frame = some X.env.locals
  ex : X.ex = []
/-- what names need, in a suite, too -/
structure Nok (R : RC) (T : Stx) (X : Cx) : Prop where
  K : X.K = R.K
  N : X.N = T.N
  nd : T.N.Nodup
  sc : X.env.scope = T.sc
  gl : ∀ x w, T.gl.lookup x = some w → ∃ u v, X.mg x = some u ∧ RelV v u ∧ ∀ H, RV R H w v
theorem Cok.nok (C : Cok R G c lev T X) : Nok R T X := ⟨C.E.K, C.N, C.nd, C.sc, C.gl⟩
theorem Nok.re (C : Nok R T X) : Nok (R.re A0) T X := ⟨C.K, C.N, C.nd, C.sc, fun x w h => let ⟨u, v, a, b, d⟩ := C.gl x w h; ⟨u, v, a, b, fun H => RV.re _ _ (d H)⟩⟩
theorem Nok.suite (C : Nok R T X) (a : Addr) (pn : List (Addr × Obj)) : Nok R T (X.suite a pn) := ⟨C.K, C.N, C.nd, C.sc, C.gl⟩
theorem Nok.cxR (C : Nok R T X) (a : Addr) (pn : List (Addr × Obj)) (xe : Value → Shared → Prop) : Nok R T (cxR X a pn xe) := ⟨C.K, C.N, C.nd, C.sc, C.gl⟩
end
/-! ### a clause's text -/
def trTest (T : Stx) : Expr → Option (List Nat)
  | .Name x _ => (trX T x).map fun c => [c]
  | .Tuple [.Name x _, .Name y _] _ _ => o2 (fun a b => [a, b]) (trX T x) (trX T y)
  | .Tuple [.Name x _, .Name y _, .Name z _] _ _ => o3 (fun a b c => [a, b, c]) (trX T x) (trX T y) (trX T z)
  | .Tuple [.Name x _, .Name y _, .Name z _, .Name u _] _ _ => o2 (fun a l => a :: l) (trX T x) (o3 (fun a b c => [a, b, c]) (trX T y) (trX T z) (trX T u))
  | _ => none
/-- plain expressions: what a suite may hold -/
def trQ (T : Stx) : Expr → Option Ex
  | .Name y _ => if y = ("__debug__" : Str) then none else if y = ("__classdict__" : Str) then none else trNm T y
  | .Constant (.int i) _ _ => some (.k (.int i))
  | .Constant (.str x) _ _ => some (.k (.str x.cps.toList))
  | .Constant (.bool b) _ _ => some (.k (.bl b))
  | .Constant .none _ _ => some (.k .non)
  | _ => none
def isLoc (T : Stx) (x : Str) : Bool := decide (T.sc.names.lookup x = some .local) && decide (x ≠ ("__debug__" : Str))
def retOf : Ex → Sm
  | .v i => .retv i
  | y => .ret y
def trQS (T : Stx) : Stmt → Option Sm
  | .Assign [.Name x _] e _ => ifS (isLoc T x) (o2 (fun i y => Sm.set (.one i) y) (ixOf T.N x) (trQ T e))
  | .Return (some e) _ => (trQ T e).map retOf
  | .Return none _ => some (.ret (.k .non))
  | .Pass _ => some .pass
  | .Break _ => some .brk
  | .Continue _ => some .cont
  | _ => none
def smL : List Sm → Sm
  | [] => .nil
  | s :: r => .cons s (smL r)
def trH (T : Stx) : ExceptHandler → Option Sm
  | .ExceptHandler (some t) (some n) [.Raise (some (.Call (.Name x _) [e] [] _)) (some (.Name m _)) _] _ =>
    ifS (isLoc T n && decide (n = m)) (o2 (fun q r => Sm.hdr q.1 q.2 r.1 r.2) (o2 (fun a b => (a, b)) (trTest T t) (ixOf T.N n)) (o2 (fun a b => (a, b)) (trXr T x) (trQ T e)))
  | .ExceptHandler (some t) none (b :: su) _ => o2 (fun cs ys => Sm.hdl cs none (smL ys)) (trTest T t) (mapO (trQS T) (b :: su))
  | .ExceptHandler (some t) (some n) (b :: su) _ => ifS (isLoc T n) (o3 (fun cs i ys => Sm.hdl cs (some i) (smL ys)) (trTest T t) (ixOf T.N n) (mapO (trQS T) (b :: su)))
  | _ => none
section
variable {R : RC} {G : Gm} {c : Cal} {lev : Nat} {T : Stx} {X : Cx}
theorem isLoc_ok (C : Nok R T X) {x : Str} (h : isLoc T x = true) : X.env.kindOf x = some .local ∧ (x == ("__debug__" : Str)) = false := by
  obtain ⟨h1, h2⟩ := Bool.and_eq_true_iff.mp h
  exact ⟨(show X.env.scope.names.lookup x = _ by rw [C.sc]; exact of_decide_eq_true h1), beq_eq_false_iff_ne.mpr (of_decide_eq_true h2)⟩
theorem q_nm (C : Nok R T X) {x : Str} {y : Ex} {p : Pos} (h : trNm T x = some y) (h1 : x ≠ ("__debug__" : Str)) (h2 : x ≠ ("__classdict__" : Str)) (KX : KXS) : PE X (.Name x p) (LE R (rd G c y KX).e) := by
  have d1 : (x == ("__debug__" : Str)) = false := beq_eq_false_iff_ne.mpr h1
  have d2 : (x == ("__classdict__" : Str)) = false := beq_eq_false_iff_ne.mpr h2
  have e : X.env.scope.names.lookup x = T.sc.names.lookup x := by rw [C.sc]
  have loc : Vis X.env.scope x → (ixOf T.N x).map Ex.v = some y → PE X (.Name x p) (LE R (rd G c y KX).e) := fun v q => by
    obtain ⟨i, hi, rfl⟩ := Option.map_eq_some_iff.mp q
    exact e_var (by rw [C.N]; exact ixOf_at hi) v d1 d2
  unfold trNm at h
  split at h
  · next q =>
    obtain ⟨w, hw, rfl⟩ := Option.map_eq_some_iff.mp h
    obtain ⟨u, v, hm, r1, r2⟩ := C.gl x w hw
    exact e_const (pe_glob (show Gl X x from e.trans q) hm r1 d1) r2
  · next q => exact loc (.inl (e.trans q)) h
  · next q => exact loc (.inr (.inl (e.trans q))) h
  · next q => exact loc (.inr (.inr (e.trans q))) h
  · cases h
theorem q_ok (C : Nok R T X) {e : Expr} {x : Ex} (h : trQ T e = some x) (KX : KXS) : PE X e (LE R (rd G c x KX).e) := by
  cases e with
  | Name y p =>
    have h' : (if y = ("__debug__" : Str) then none else if y = ("__classdict__" : Str) then none else trNm T y) = some x := h
    by_cases h1 : y = ("__debug__" : Str)
    · rw [if_pos h1] at h'; cases h'
    · rw [if_neg h1] at h'
      by_cases h2 : y = ("__classdict__" : Str)
      · rw [if_pos h2] at h'; cases h'
      · rw [if_neg h2] at h'
        exact q_nm C h' h1 h2 KX
  | Constant k j p =>
    cases k with
    | int i => cases h; exact e_const pe_int fun _ => rfl
    | bool b => cases h; exact e_const pe_bl fun _ => rfl
    | none => cases h; exact e_const pe_non fun _ => rfl
    | str s => cases h; exact e_const pe_str fun _ => by show V.str s = V.str (S' s.cps.toList); rw [S_tl]
    | _ => cases h
  | _ => cases h
theorem q_star {e : Expr} {x : Ex} (h : trQ T e = some x) (env : Env) : starEach [e] env = [(false, eval e env)] ∧ ∀ (t : Option Expr) (l : Nat), swapsWith e t l env = pure false := by
  cases e <;> first
    | exact ⟨rfl, fun _ _ => rfl⟩
    | (cases h; done)
theorem qs_ok (C : Nok R T X) {s : Stmt} {y : Sm} (h : trQS T s = some y) (KX : KXS) : PS X s (LS R (rdS G c y KX)) := by
  cases s with
  | Assign ts e p =>
    match ts, h with
    | [.Name x px], h =>
      obtain ⟨h1, h2⟩ := ifS_eq h
      obtain ⟨i, z, h3, h4, rfl⟩ := o2_eq h2
      obtain ⟨l1, l2⟩ := isLoc_ok C h1
      exact s_set C.K (by rw [C.N]; exact C.nd) (by rw [C.N]; exact ixOf_at h3) (.inl l1) (q_ok C h4 KX) ((q_star h4 X.env).2 _ _) (.inr l1)
  | Return e p =>
    cases e with
    | none => cases h; exact s_retN
    | some e =>
      obtain ⟨x, h3, rfl⟩ := Option.map_eq_some_iff.mp h
      have hv := q_ok (G := G) (c := c) C h3 KX
      cases x with
      | v i => exact s_retv hv
      | _ => exact s_ret hv
  | Pass p => cases h; exact s_pass
  | Break p => cases h; exact s_brk
  | Continue p => cases h; exact s_ct
  | _ => cases h
theorem qss_ok (C : Nok R T X) (KX : KXS) : ∀ {ss : List Stmt} {ys : List Sm}, mapO (trQS T) ss = some ys → PSs X ss (LS R (rdS G c (smL ys) KX))
  | [], ys, h => by cases h; exact ss_nil
  | s :: ss, ys, h => by
    obtain ⟨y, zs, h1, h2, rfl⟩ := mapO_cons h
    exact ss_cons (qs_ok C h1 KX) (qss_ok C KX h2)
theorem nm_ev (C : Cok R G c lev T X) {x : Str} {k : Nat} {p : Pos} (h : trX T x = some k) {a : Addr} {pn : List (Addr × Obj)} {τ : L2.St} {H : Hp} {s : Shared} (I : L2.Inv (X.suite a pn) [] τ H s) {Q : Value → Shared → Prop} {E : Value → Shared → Prop} (q : Q (R.xcl k) s) :
    wpAny (model X.prog X.w) (X.A.mark (some (.ref a))) (eval (.Name x p) X.env) Q E s := by
  obtain ⟨h1, hg, b, hl⟩ := xn_ok C h
  obtain ⟨hv, hm, _⟩ := C.xn x _ hl
  have d : (x == ("__debug__" : Str)) = false := beq_eq_false_iff_ne.mpr h1
  rcases hm with hm | ⟨hm, hb, hn⟩
  · exact ld_glob (X := X.suite a pn) I hg hm q d
  · exact ld_blt (X := X.suite a pn) I hg hm hb q hn d
theorem test_ok (C : Cok R G c lev T X) {t : Expr} {cs : List Nat} (h : trTest T t = some cs) : TstOk R G X t cs := by
  intro a oe k pn τ H s I he hc hv hcs Q E q
  have LT : PySem.W.Looks (model X.prog X.w) s.heap (typeOf (.ref a)) (R.xcl k) := fun A Q E s k q => wpAny_typeOf_ref (k _ _ he) (by rw [hc]; exact q)
  have one : ∀ {z : Nat}, G.xv z = true → PySem.W.exmOne X.K (R.xcl k) (R.xcl z) = some (G.xs k z) := fun {z} hz => by rw [C.E.K]; exact (C.E.xcs.xx k z hv hz).2
  have vw : ∀ {z : Nat}, z ∈ cs → G.xv z = true := fun {z} hz => List.all_eq_true.mp hcs z hz
  have kin : X.K.In s.heap := I.kIn
  have kp : ∀ o : Obj, ∀ b u, s.heap.get? b = some u → (s.heap.push o).get? b = some u := fun o b u z => Heap.get?_push_of_some o z
  unfold trTest at h
  split at h
  · obtain ⟨z, hz, rfl⟩ := Option.map_eq_some_iff.mp h
    refine nm_ev C hz I ((PySem.W.exm_one (M := model X.prog X.w) kin LT (one (vw List.mem_cons_self))).here ?_)
    have e : [z].any (G.xs k) = G.xs k z := by simp
    have q2 := q s.heap s.toks fun _ _ e => e
    rw [e] at q2
    exact q2
  · next x px y py j p =>
    obtain ⟨z1, z2, h1, h2, rfl⟩ := o2_eq h
    refine wpAny_Tuple (spliced_more (nm_ev C h1 I (spliced_more (nm_ev C h2 I (spliced_none ⟨by rw [sizeLine_eq]; exact Nat.le_of_ble_eq_true rfl, ?_⟩)) (by rfl))) (by rfl))
    refine (PySem.W.exm_tup2 (M := model X.prog X.w) (b := (G.xs k z1 || (G.xs k z2 || false))) (h := s.heap.push { cls := .type "tuple", data := .seq [R.xcl z1, R.xcl z2].toArray }) (kin.keeps (kp _)) (LT.keeps (kp _)) (Heap.get?_push_size _ rfl) (by simp only [PySem.W.exmAny, one (vw (z := z1) (by simp)), one (vw (z := z2) (by simp))])).here ?_
    exact q _ s.toks (kp _)
  · next x px y py u pu j p =>
    obtain ⟨z1, z2, z3, h1, h2, h3, rfl⟩ := o3_eq h
    refine wpAny_Tuple (spliced_more (nm_ev C h1 I (spliced_more (nm_ev C h2 I (spliced_more (nm_ev C h3 I (spliced_none ⟨by rw [sizeLine_eq]; exact Nat.le_of_ble_eq_true rfl, ?_⟩)) (by rfl))) (by rfl))) (by rfl))
    refine (PySem.W.exm_tup3 (M := model X.prog X.w) (b := (G.xs k z1 || (G.xs k z2 || (G.xs k z3 || false)))) (h := s.heap.push { cls := .type "tuple", data := .seq [R.xcl z1, R.xcl z2, R.xcl z3].toArray }) (kin.keeps (kp _)) (LT.keeps (kp _)) (Heap.get?_push_size _ rfl) (by simp only [PySem.W.exmAny, one (vw (z := z1) (by simp)), one (vw (z := z2) (by simp)), one (vw (z := z3) (by simp))])).here ?_
    exact q _ s.toks (kp _)
  · next x px y py u pu v pv j p =>
    obtain ⟨z1, l, h1, h4, rfl⟩ := o2_eq h
    obtain ⟨z2, z3, z4, h2, h3, h5, rfl⟩ := o3_eq h4
    refine wpAny_Tuple (spliced_more (nm_ev C h1 I (spliced_more (nm_ev C h2 I (spliced_more (nm_ev C h3 I (spliced_more (nm_ev C h5 I (spliced_none ⟨by rw [sizeLine_eq]; exact Nat.le_of_ble_eq_true rfl, ?_⟩)) (by rfl))) (by rfl))) (by rfl))) (by rfl))
    refine (PySem.W.exm_tup4 (M := model X.prog X.w) (b := (G.xs k z1 || (G.xs k z2 || (G.xs k z3 || (G.xs k z4 || false))))) (h := s.heap.push { cls := .type "tuple", data := .seq [R.xcl z1, R.xcl z2, R.xcl z3, R.xcl z4].toArray }) (kin.keeps (kp _)) (LT.keeps (kp _)) (Heap.get?_push_size _ rfl) (by simp only [PySem.W.exmAny, one (vw (z := z1) (by simp)), one (vw (z := z2) (by simp)), one (vw (z := z3) (by simp)), one (vw (z := z4) (by simp))])).here ?_
    exact q _ s.toks (kp _)
  · cases h
theorem hs_ok (C : Cok R G c lev T X) : ∀ {hs : List ExceptHandler} {zs : List Sm}, mapO (trH T) hs = some zs → HdOk R G c X hs (smL zs)
  | [], zs, h => by cases h; exact .nil
  | e :: hs, zs, h => by
    obtain ⟨z, ys, h1, h2, rfl⟩ := mapO_cons h
    have ih := hs_ok C h2
    have nk := C.nok
    unfold trH at h1
    split at h1
    · next t n x px e2 pc m pm pr ph =>
      obtain ⟨g1, g2⟩ := ifS_eq h1
      obtain ⟨q, r, g3, g4, rfl⟩ := o2_eq g2
      obtain ⟨cs, j, g5, g6, rfl⟩ := o2_eq g3
      obtain ⟨k, y, g7, g8, rfl⟩ := o2_eq g4
      obtain ⟨g9, g10⟩ := Bool.and_eq_true_iff.mp g1
      have em : n = m := of_decide_eq_true g10
      subst em
      obtain ⟨l1, l2⟩ := isLoc_ok nk g9
      obtain ⟨x1, hg, hl⟩ := xr_ok C g7
      obtain ⟨hv, hm, hr⟩ := C.xn x _ hl
      obtain ⟨hm1, hxi⟩ := hr rfl
      refine .rf (test_ok C g5) (by rw [C.N]; exact ixOf_at g6) l1 l2 (fun A a pn xe => ?_) ih
      exact pmk_any (R := R.re A) k false hxi (fun f hf => C.x1 k f hf) (fun hf => C.x0 k hf) hg hm1 (beq_eq_false_iff_ne.mpr x1) (by have := C.rm.dp; show X.A.depth + 4 < recursionLimit; omega) (q_ok (nk.re.cxR a pn xe) g8 noX) (q_star g8 _).1
    · next t b su ph hne =>
      obtain ⟨cs, us, g3, g4, rfl⟩ := o2_eq h1
      exact .suite (test_ok C g3) (.inl ⟨rfl, rfl⟩) (fun A a pn => qss_ok (nk.re.suite a pn) noX g4) ih
    · next t n b su ph hne =>
      obtain ⟨g1, g2⟩ := ifS_eq h1
      obtain ⟨cs, j, us, g3, g5, g4, rfl⟩ := o3_eq g2
      exact .suite (test_ok C g3) (.inr ⟨n, j, rfl, rfl, by rw [C.N]; exact ixOf_at g5, (isLoc_ok nk g1).1⟩) (fun A a pn => qss_ok (nk.re.suite a pn) noX g4) ih
    · cases h1
end
/-! ### a, b = x, y -/
def swNames (env : Env) (ts : List Expr) : List Str := ts.filterMap fun
    | .Name id pos => if env.kindOf id == some .local && pos.line == (ts.head?.map (·.pos.line)).getD 0 then some id else none
    | _ => none
def swE (env : Env) (ts vs : List Expr) : Option (Option (List Str)) :=
  if (!(ts.length == 2 || ts.length == 3) || vs.length != ts.length || env.blockKind != .function) = true then some none
  else if (vs.any fun | .Starred .. => true | _ => false) = true then some none
  else if ((swNames env ts).length != ts.length || (swNames env ts).eraseDups.length != (swNames env ts).length) = true then some none
    else if vs.all (foldedForSure 8) = true then some none
    else if vs.all (constantsAlone 8) = true then none
    else some (some (swNames env ts))
theorem swE_ok {env : Env} {ts vs : List Expr} {k k2 : Nat} {p p2 : Pos} {r : Option (List Str)} (h : swE env ts vs = some r) : swappedStores [.Tuple ts k p] (.Tuple vs k2 p2) env = pure r := by
  show (if (!(ts.length == 2 || ts.length == 3) || vs.length != ts.length || env.blockKind != .function) = true then pure none
    else if (vs.any fun | .Starred .. => true | _ => false) = true then pure none
    else if ((swNames env ts).length != ts.length || (swNames env ts).eraseDups.length != (swNames env ts).length) = true then pure none
    else if vs.all (foldedForSure 8) = true then pure none
    else if vs.all (constantsAlone 8) = true then (do unsupported "assign.tuple-of-constant-expressions:order-of-the-stores"; pure (some (swNames env ts)))
    else pure (some (swNames env ts)) : Sem (Option (List Str))) = pure r
  unfold swE at h
  split at h
  · next h1 => rw [if_pos h1]; cases h; rfl
  · next h1 =>
    rw [if_neg h1]
    split at h
    · next h2 => rw [if_pos h2]; cases h; rfl
    · next h2 =>
      rw [if_neg h2]
      split at h
      · next h3 => rw [if_pos h3]; cases h; rfl
      · next h3 =>
        rw [if_neg h3]
        split at h
        · next h4 => rw [if_pos h4]; cases h; rfl
        · next h4 =>
          rw [if_neg h4]
          split at h
          · cases h
          · next h5 => rw [if_neg h5]; cases h; rfl
def scEnv (sc : Scope) : Env := { scope := sc, locals := 0, globals := 0, cells := [], qual := "", func := none, code := .none, frame := none, builtins := 0 }
theorem swE_sc {env : Env} {sc : Scope} (h : env.scope = sc) {ts vs : List Expr} : swE env ts vs = swE (scEnv sc) ts vs := by
  subst h
  rfl
/-- does a list comprehension's value go straight to that name -/
def lcSwap (sc : Scope) (s : Scope) (t : Str) (l1 l2 : Nat) : Bool := (scEnv sc).blockKind == .function && sc.names.lookup t == some .local && l1 == l2 && !(s.names.any fun (n, k) => n == t && (k == .local || k == .cell))
theorem lcSwap_ok {env : Env} {sc : Scope} (h : env.scope = sc) {elt : Expr} {gs : List Comprehension} {s : Scope} {p pos : Pos} {t : Str} {line : Nat} : swapsWith (.ListComp elt gs s p) (some (.Name t pos)) line env = pure (lcSwap sc s t pos.line p.line) := by
  subst h
  rfl
def exprPos : Expr → Pos
  | .ListComp _ _ _ p => p
  | _ => ⟨0, 0, 0, 0⟩
def isTupE : Expr → Bool
  | .Tuple .. => true
  | _ => false
/-- to a tuple of names -/
def trPar (tr : Expr → Option Ex) (T : Stx) (ts : List Expr) (e : Expr) : Option Sm := match e with
  | .Tuple vs _ _ => (match swE (scEnv T.sc) ts vs with
    | some (some _) => (match ts, vs with
      | [.Name x _, .Name y _], [a, b] => (o2 (fun is q => (is, q)) (mapO (trT1 T) ts) (mapO tr vs)).bind fun q => ifS (decide (T.sc.names.lookup x = some .local) && decide (T.sc.names.lookup y = some .local) && decide (x ≠ y)) (some (.set (.many q.1) (.tup (exL q.2))))
      | [.Name x _, .Name y _, .Name z _], [a, b, d] => (o2 (fun is q => (is, q)) (mapO (trT1 T) ts) (mapO tr vs)).bind fun q => ifS (decide (T.sc.names.lookup x = some .local) && decide (T.sc.names.lookup y = some .local) && decide (T.sc.names.lookup z = some .local) && decide (x ≠ y) && decide (x ≠ z) && decide (y ≠ z)) (some (.set (.many q.1) (.tup (exL q.2))))
      | _, _ => none)
    | some none => o2 (fun is q => Sm.set (.many is) q) (mapO (trT1 T) ts) (tr e)
    | none => none)
  | e => o2 (fun is q => Sm.set (.many is) q) (mapO (trT1 T) ts) (tr e)
def trAs (tr : Stx → Expr → Option Ex) (T : Stx) (tg e : Expr) : Option Sm := match tg with
  | .Name x p => o2 (fun i y => Sm.set (.one i) y) (trT1 T tg) (tr T e)
  | .Tuple ts _ _ => ifS (!isComp e) (trPar (tr T) T ts e)
  | .Attribute o f _ => ifS (!isComp e && decide (nm (enc f.cps.toList) = f)) (o2 (fun o e => Sm.setf (enc f.cps.toList) o e) (tr T o) (tr T e))
  | .Subscript o i _ => ifS (!isComp e) (o3 Sm.seti (tr T o) (tr T i) (tr T e))
  | _ => none
def trRs (tr : Expr → Option Ex) (T : Stx) : Option Expr → Option Expr → Sm
  | some (.Call (.Name x _) [e] [] _), none => (match trXr T x, tr e with
    | some c, some y => .raise c y
    | _, _ => .raise 0 .nil)
  | _, _ => .raise 0 .nil
/-- THE TRANSLATION of a statement -/
def trS : Nat → Stx → Stmt → Option Sm
  | 0, _, _ => none
  | n + 1, T, s => match s with
    | .Expr e _ => ifS (!isComp e) ((trE n T e).map .expr)
    | .Return (some e) _ => (trE n T e).map retOf
    | .Return none _ => some (.ret (.k .non))
    | .Pass _ => some .pass
    | .Break _ => some .brk
    | .Continue _ => some .cont
    | .Raise e d _ => some (trRs (trE n T) T e d)
    | .Assign [tg] e _ => trAs (trE n) T tg e
    | .AugAssign (.Name x p) o e _ => o3 Sm.aug (trT1 T (.Name x p)) (augOf o) (trE n T e)
    | .AugAssign (.Subscript a i _) o e _ => ((o2 (fun o a => (o, a)) (augOf o) (trE n T a)).bind fun q => o2 (fun i e => Sm.augi q.1 q.2 i e) (trE n T i) (trE n T e))
    | .Try body (h :: hs) [] [] _ => (mapO (trS n T) body).map fun ys => match mapO (trH T) (h :: hs) with
      | some zs => .try_ (smL ys) (smL zs)
      | none => .blk (smL ys)
    | .If d a b _ => o3 Sm.ife (trE n T d) ((mapO (trS n T) a).map smL) ((mapO (trS n T) b).map smL)
    | .For tg iter body [] _ => (o2 (fun t i => (t, i)) (trT T tg) (trE n T iter)).bind fun q => ifS (okI q.2 tg) (((mapO (trS n T) body).map smL).map fun b => .for_ q.1 q.2 b)
    | .While d body [] _ => o2 Sm.whl (trE n T d) ((mapO (trS n T) body).map smL)
    | _ => none
section
variable {R : RC} {G : Gm} {c : Cal} {lev : Nat} {T : Stx} {X : Cx}
def TrS (G : Gm) (c : Cal) (lev : Nat) (n : Nat) : Prop := ∀ (R : RC) (T : Stx) (X : Cx), Cok R G c lev T X → Tok X → PassesOwn (model X.prog X.w) X.A X.env X.xe → ∀ s y, trS n T s = some y → ∀ KX, TK R X KX → PS X s (LS R (rdS G c y KX))
theorem sts_ok {n : Nat} (ih : TrS G c lev n) (C : Cok R G c lev T X) (O : Tok X) (hp : PassesOwn (model X.prog X.w) X.A X.env X.xe) {KX : KXS} (tk : TK R X KX) : ∀ {ss : List Stmt} {ys : List Sm}, mapO (trS n T) ss = some ys → PSs X ss (LS R (rdS G c (smL ys) KX))
  | [], ys, h => by cases h; exact ss_nil
  | s :: ss, ys, h => by
    obtain ⟨y, zs, h1, h2, rfl⟩ := mapO_cons h
    exact ss_cons (ih R T X C O hp s y h1 KX tk) (sts_ok ih C O hp tk h2)
theorem sw_no (C : Cok R G c lev T X) {n : Nat} {e : Expr} {x : Ex} (h : trE n T e = some x) (hc : isComp e = false) (tg : Expr) (l : Nat) : swapsWithSole [tg] e l X.env = pure false := tr_swap hc (some tg) l X.env
theorem sw_none {ts : List Expr} {k : Nat} {p : Pos} {e : Expr} {env : Env} (h : isTupE e = false) : swappedStores [.Tuple ts k p] e env = pure none := by
  cases e <;> first | rfl | (cases h; done)
theorem many_ok (C : Cok R G c lev T X) {n : Nat} {ts : List Expr} {k : Nat} {p pos : Pos} {e : Expr} {is : List Nat} {x : Ex} {KX : KXS} (tk : TK R X KX) (h1 : mapO (trT1 T) ts = some is) (h2 : trE n T e = some x) (hc : isComp e = false) (hw : swappedStores [.Tuple ts k p] e X.env = pure none) :
    PS X (.Assign [.Tuple ts k p] e pos) (LS R (rdS G c (.set (.many is) x) KX)) := by
  obtain ⟨i1, i2, i3⟩ := ts_ok C h1
  exact s_many C.E.K C.E.calm (tr_good n T X C e x h2 KX tk).v i1 i2 i3 (sw_no C h2 hc _ _) hw
theorem ix_ne {N : List Str} {x y : Str} {i j : Nat} (h : ixOf N x = some i) (h2 : ixOf N y = some j) (hn : x ≠ y) : i ≠ j := fun e => by
  subst e
  have a := ixOf_at h
  rw [ixOf_at h2] at a
  exact hn (Option.some.inj a).symm
theorem swE_len {env : Env} {ts vs : List Expr} {r : List Str} (h : swE env ts vs = some (some r)) : r = swNames env ts ∧ (swNames env ts).length = ts.length := by
  unfold swE at h
  split at h
  · cases h
  · split at h
    · cases h
    · split at h
      · cases h
      · next h3 =>
        have h3' : ((swNames env ts).length != ts.length) = false := by
          cases q : ((swNames env ts).length != ts.length) with
          | false => rfl
          | true => rw [q] at h3; exact absurd rfl h3
        have e : (swNames env ts).length = ts.length := by simpa using h3'
        split at h
        · cases h
        · split at h
          · cases h
          · cases h; exact ⟨rfl, e⟩
def nmOf : Expr → Str
  | .Name x _ => x
  | _ => ""
theorem swNames_all {env : Env} : ∀ {ts us : List Expr}, (ts.filterMap fun
    | .Name id pos => if env.kindOf id == some .local && pos.line == (us.head?.map (·.pos.line)).getD 0 then some id else none
    | _ => none).length = ts.length → (ts.filterMap fun
    | .Name id pos => if env.kindOf id == some .local && pos.line == (us.head?.map (·.pos.line)).getD 0 then some id else none
    | _ => none) = ts.map nmOf
  | [], _, _ => rfl
  | t :: ts, us, h => by
    rw [List.filterMap_cons] at h ⊢
    have hle := List.length_filterMap_le (fun
      | Expr.Name id pos => if env.kindOf id == some .local && pos.line == (us.head?.map (·.pos.line)).getD 0 then some id else none
      | _ => none) ts
    split at h
    · next q =>
      simp only [List.length_cons] at h
      omega
    · next b q =>
      simp only [List.length_cons, Nat.add_right_cancel_iff] at h
      rw [swNames_all h, List.map_cons]
      congr 1
      cases t with
      | Name x p =>
        simp only at q
        split at q
        · cases q; rfl
        · cases q
      | _ => cases q
theorem par_ok (C : Cok R G c lev T X) {n : Nat} {ts : List Expr} {k : Nat} {p pos : Pos} {e : Expr} {y : Sm} {KX : KXS} (tk : TK R X KX) (h : trPar (trE n T) T ts e = some y) (hc : isComp e = false) : PS X (.Assign [.Tuple ts k p] e pos) (LS R (rdS G c y KX)) := by
  have ih := tr_good (R := R) (G := G) (c := c) (lev := lev) n
  have eN : X.N.Nodup := by rw [C.N]; exact C.nd
  unfold trPar at h
  split at h
  · next vs k2 p2 =>
    split at h
    · next r hr =>
      rw [← swE_sc C.sc] at hr
      have hw := swE_ok (k := k) (k2 := k2) (p := p) (p2 := p2) hr
      obtain ⟨hn1, hle⟩ := swE_len hr
      have hnm : r = ts.map nmOf := hn1.trans (swNames_all hle)
      rw [hnm] at hw
      split at h
      · next x px y' py a b =>
        obtain ⟨q, e1, h2⟩ := Option.bind_eq_some_iff.mp h
        obtain ⟨is, ys, e2, e3, rfl⟩ := o2_eq e1
        obtain ⟨h3, h4⟩ := ifS_eq h2
        cases h4
        rw [Bool.and_eq_true, Bool.and_eq_true] at h3
        have l1 := of_decide_eq_true h3.1.1
        have l2 := of_decide_eq_true h3.1.2
        have l3 := of_decide_eq_true h3.2
        obtain ⟨i, r1, f1, f2, rfl⟩ := mapO_cons e2
        obtain ⟨j, r2, f3, f4, rfl⟩ := mapO_cons f2
        cases f4
        obtain ⟨za, r3, g1, g2, rfl⟩ := mapO_cons e3
        obtain ⟨zb, r4, g3, g4, rfl⟩ := mapO_cons g2
        cases g4
        obtain ⟨_, m1⟩ := ifS_eq (show ifS (stO T x) (ixOf T.N x) = some i from f1)
        obtain ⟨_, m2⟩ := ifS_eq (show ifS (stO T y') (ixOf T.N y') = some j from f3)
        exact s_par C.E.K C.E.calm eN (by rw [C.N]; exact ixOf_at m1) (by rw [C.N]; exact ixOf_at m2) (ix_ne m1 m2 l3) (by rw [C.sc]; exact l1) (by rw [C.sc]; exact l2) (ih T X C a za g1 KX tk).v (ih T X C b zb g3 KX tk).v (tr_star g1 _ _) (tr_star g3 _ _) hw rfl
      · next x px y' py z pz a b d =>
        obtain ⟨q, e1, h2⟩ := Option.bind_eq_some_iff.mp h
        obtain ⟨is, ys, e2, e3, rfl⟩ := o2_eq e1
        obtain ⟨h3, h4⟩ := ifS_eq h2
        cases h4
        rw [Bool.and_eq_true, Bool.and_eq_true, Bool.and_eq_true, Bool.and_eq_true, Bool.and_eq_true] at h3
        have l1 := of_decide_eq_true h3.1.1.1.1.1
        have l2 := of_decide_eq_true h3.1.1.1.1.2
        have l3 := of_decide_eq_true h3.1.1.1.2
        have l4 := of_decide_eq_true h3.1.1.2
        have l5 := of_decide_eq_true h3.1.2
        have l6 := of_decide_eq_true h3.2
        obtain ⟨i, r1, f1, f2, rfl⟩ := mapO_cons e2
        obtain ⟨j, r2, f3, f4, rfl⟩ := mapO_cons f2
        obtain ⟨l, r5, f5, f6, rfl⟩ := mapO_cons f4
        cases f6
        obtain ⟨za, r3, g1, g2, rfl⟩ := mapO_cons e3
        obtain ⟨zb, r4, g3, g4, rfl⟩ := mapO_cons g2
        obtain ⟨zd, r6, g5, g6, rfl⟩ := mapO_cons g4
        cases g6
        obtain ⟨_, m1⟩ := ifS_eq (show ifS (stO T x) (ixOf T.N x) = some i from f1)
        obtain ⟨_, m2⟩ := ifS_eq (show ifS (stO T y') (ixOf T.N y') = some j from f3)
        obtain ⟨_, m3⟩ := ifS_eq (show ifS (stO T z) (ixOf T.N z) = some l from f5)
        exact s_par3 C.E.K C.E.calm eN (by rw [C.N]; exact ixOf_at m1) (by rw [C.N]; exact ixOf_at m2) (by rw [C.N]; exact ixOf_at m3) (ix_ne m1 m2 l4) (ix_ne m1 m3 l5) (ix_ne m2 m3 l6) (by rw [C.sc]; exact l1) (by rw [C.sc]; exact l2) (by rw [C.sc]; exact l3) (ih T X C a za g1 KX tk).v (ih T X C b zb g3 KX tk).v (ih T X C d zd g5 KX tk).v (tr_star g1 _ _) (tr_star g3 _ _) (tr_star g5 _ _) hw rfl
      · cases h
    · next hr =>
      obtain ⟨is, q, e1, e2, rfl⟩ := o2_eq h
      exact many_ok C tk e1 e2 hc (swE_ok (by rw [swE_sc C.sc]; exact hr))
    · cases h
  · next hne =>
    obtain ⟨is, q, e1, e2, rfl⟩ := o2_eq h
    exact many_ok C tk e1 e2 hc (sw_none (by cases e <;> first | rfl | exact absurd rfl (hne _ _ _)))
theorem as_ok (C : Cok R G c lev T X) {n : Nat} {tg e : Expr} {y : Sm} {pos : Pos} {KX : KXS} (tk : TK R X KX) (h : trAs (trE n) T tg e = some y) : PS X (.Assign [tg] e pos) (LS R (rdS G c y KX)) := by
  have ih := tr_good (R := R) (G := G) (c := c) (lev := lev) n
  have eN : X.N.Nodup := by rw [C.N]; exact C.nd
  cases tg with
  | Name x p =>
    obtain ⟨i, z, h1, h2, rfl⟩ := o2_eq h
    obtain ⟨hs, hi⟩ := ifS_eq (show ifS (stO T x) (ixOf T.N x) = some i from h1)
    obtain ⟨l1, l2⟩ := stO_ok C hs
    have g := ih T X C e z h2 KX tk
    have hN : X.N[i]? = some x := by rw [C.N]; exact ixOf_at hi
    by_cases hc : isComp e = false
    · exact s_set C.E.K eN hN l1 g.v (tr_swap hc _ _ _) l2
    · cases e with
      | ListComp elt gs scope p2 =>
        have sw := lcSwap_ok (env := X.env) C.sc (elt := elt) (gs := gs) (s := scope) (p := p2) (pos := p) (t := x) (line := pos.line)
        cases q : lcSwap T.sc scope x p.line p2.line with
        | false =>
          rw [q] at sw
          exact s_set C.E.K eN hN l1 g.v sw l2
        | true =>
          rw [q] at sw
          obtain ⟨m, rfl⟩ := fn_none h2
          obtain ⟨tg, iter, ifs, t, i2, d, y, rfl, h1, hb, h3, h4, h5, h6, h7, rfl⟩ := lc_inv h2
          have ih2 := tr_good (R := R) (G := G) (c := c) (lev := lev) m
          have gi := ih2 T X C iter i2 h3 KX tk
          have ok : BlkOk X.N X.env.scope scope (ownOf T.N scope) := by
            rw [C.N, C.sc]
            exact blkOk_by h1
          have hloc : X.env.scope.names.lookup x = some .local := by
            rw [C.sc]
            unfold lcSwap at q
            rw [Bool.and_eq_true, Bool.and_eq_true, Bool.and_eq_true] at q
            simpa using q.1.1.2
          exact s_setLc (pos := p2) C.E eN hN hloc sw (gi.i tg h7) ok h6 (fun s H D cl fp => t_ok (C.blk s H scope cl D fp) hb) (fun s H D cl fp => tests_ok ih2 (C.blk s H scope cl D fp) TK.no h4) (fun s H D cl fp => (ih2 _ _ (C.blk s H scope cl D fp) elt y h5 noX TK.no).v) (tr_fold h3 X.env)
      | SetComp => obtain ⟨m, rfl⟩ := fn_none h2; cases h2
      | DictComp => obtain ⟨m, rfl⟩ := fn_none h2; cases h2
      | _ => exact absurd rfl hc
  | Tuple ts k p =>
    obtain ⟨h1, h2⟩ := ifS_eq h
    exact par_ok C tk h2 (by simpa using h1)
  | Attribute o f p =>
    obtain ⟨h1, h2⟩ := ifS_eq h
    obtain ⟨a, b, h3, h4, rfl⟩ := o2_eq h2
    rw [Bool.and_eq_true] at h1
    have hc : isComp e = false := by simpa using h1.1
    have hf := of_decide_eq_true h1.2
    have q := s_setf (pos := pos) (f := enc f.cps.toList) (p := p) C.E (ih T X C o a h3 KX tk).v (ih T X C e b h4 KX tk).v (tr_swap hc _ _ _)
    rw [hf] at q
    exact q
  | Subscript o i p =>
    obtain ⟨h1, h2⟩ := ifS_eq h
    obtain ⟨a, b, d, h3, h4, h5, rfl⟩ := o3_eq h2
    have hc : isComp e = false := by simpa using h1
    exact s_seti C.E (ih T X C e d h5 KX tk).v (ih T X C o a h3 KX tk).v (ih T X C i b h4 KX tk).v (tr_swap hc _ _ _)
  | _ => cases h
theorem trs_good : ∀ n, TrS G c lev n
  | 0 => fun R T X C O hp s y h => by cases h
  | n + 1 => fun R T X C O hp s y h KX tk => by
    have ih := trs_good n
    have ie := tr_good (R := R) (G := G) (c := c) (lev := lev) n
    have eN : X.N.Nodup := by rw [C.N]; exact C.nd
    cases s with
    | Expr e p =>
      obtain ⟨h1, h2⟩ := ifS_eq h
      obtain ⟨x, h3, rfl⟩ := Option.map_eq_some_iff.mp h2
      exact s_expr (ie T X C e x h3 KX tk).v (tr_swap (by simpa using h1) _ _ _)
    | Return e p =>
      cases e with
      | none => cases h; exact s_retN
      | some e =>
        obtain ⟨x, h3, rfl⟩ := Option.map_eq_some_iff.mp h
        have hv := (ie T X C e x h3 KX tk).v
        cases x with
        | v i => exact s_retv hv
        | _ => exact s_ret hv
    | Pass p => cases h; exact s_pass
    | Break p => cases h; exact s_brk
    | Continue p => cases h; exact s_ct
    | Raise e d p =>
      cases h
      unfold trRs
      split
      · next x px e1 pc =>
        split
        · next k z hk hz =>
          obtain ⟨x1, hg, hl⟩ := xr_ok C hk
          obtain ⟨hv, hm, hr⟩ := C.xn x _ hl
          obtain ⟨hm1, hxi⟩ := hr rfl
          exact s_raise k tk C.E.calm hxi (fun f hf => C.x1 k f hf) (fun hf => C.x0 k hf) hg hm1 (beq_eq_false_iff_ne.mpr x1) (by have := C.rm.dp; omega) (ie T X C e1 z hz KX tk).v (tr_star hz [] X.env)
        · exact s_never
      · exact s_never
    | Assign ts e p =>
      match ts, h with
      | [tg], h => exact as_ok C tk h
      | [], h => cases h
      | _ :: _ :: _, h => cases h
    | AugAssign tg o e p =>
      cases tg with
      | Name x q =>
        obtain ⟨i, a, b, h1, h2, h3, rfl⟩ := o3_eq h
        obtain ⟨hs, hi⟩ := ifS_eq (show ifS (stO T x) (ixOf T.N x) = some i from h1)
        obtain ⟨l1, l2⟩ := stO_ok C hs
        exact s_aug h2 eN (by rw [C.N]; exact ixOf_at hi) l1 (ie T X C e b h3 KX tk).v l2
      | Subscript a i q =>
        obtain ⟨z, hz, h⟩ := Option.bind_eq_some_iff.mp h
        obtain ⟨o', a', h1, h2, rfl⟩ := o2_eq hz
        obtain ⟨i', e', h3, h4, rfl⟩ := o2_eq h
        exact s_augi C.E h1 (ie T X C a a' h2 KX tk).v (ie T X C i i' h3 KX tk).v (ie T X C e e' h4 KX tk).v (tr_aug h3)
      | _ => cases h
    | Try body hs orelse fin p =>
      match hs, orelse, fin, h with
      | h0 :: hs, [], [], h =>
        obtain ⟨ys, h2, h3⟩ := Option.map_eq_some_iff.mp h
        cases hz : mapO (trH T) (h0 :: hs) with
        | some zs =>
          rw [hz] at h3
          subst h3
          exact s_try O.st O.fr O.ex eN tk C.E.K C.E.xcs.xe (fun A pn xe Kx' tk' hp' => sts_ok ih (C.re.tr pn xe) ⟨O.st, O.fr, O.ex⟩ hp' tk' h2) (hs_ok C hz)
        | none =>
          rw [hz] at h3
          subst h3
          exact ps_try_thru0 (sts_ok ih C.nox ⟨O.st, O.fr, O.ex⟩ (fun _ _ z => z.elim) TK.no h2)
      | [], _, _, h => cases h
      | _ :: _, _ :: _, _, h => cases h
      | _ :: _, [], _ :: _, h => cases h
    | If d a b p =>
      obtain ⟨x, u, v, h1, h2, h3, rfl⟩ := o3_eq h
      obtain ⟨us, h4, rfl⟩ := Option.map_eq_some_iff.mp h2
      obtain ⟨vs, h5, rfl⟩ := Option.map_eq_some_iff.mp h3
      exact s_if (ie T X C d x h1 KX tk).t (sts_ok ih C O hp tk h4) (sts_ok ih C O hp tk h5)
    | For tg iter body orelse p =>
      cases orelse with
      | cons _ _ => cases h
      | nil =>
        obtain ⟨q, h1, h2⟩ := Option.bind_eq_some_iff.mp h
        obtain ⟨t, i, h3, h4, rfl⟩ := o2_eq h1
        obtain ⟨h5, h6⟩ := ifS_eq h2
        obtain ⟨b, h7, rfl⟩ := Option.map_eq_some_iff.mp h6
        obtain ⟨us, h8, rfl⟩ := Option.map_eq_some_iff.mp h7
        exact s_for C.E hp ((ie T X C iter i h4 KX tk).i tg h5) (t_ok C h3) (sts_ok ih C O hp tk h8) (tr_fold h4 X.env)
    | While d body orelse p =>
      cases orelse with
      | cons _ _ => cases h
      | nil =>
        obtain ⟨x, u, h1, h2, rfl⟩ := o2_eq h
        obtain ⟨us, h3, rfl⟩ := Option.map_eq_some_iff.mp h2
        exact s_whl hp (ie T X C d x h1 KX tk).t (sts_ok ih C O hp tk h3)
    | _ => cases h
end
end MP
/-! MP18: the program's functions do what the small Python says, so many calls deep. -/
namespace MP
open PySem L2 PyProof.Rows
/-- what is known of the program's classes and tables -/
structure E0 (R : RC) (G : Gm) (w : World) : Prop where
  xcs : EX R G
  sm : ∃ o, R.K.lookup sysModules = some o ∧ o.cls = .type "dict"
  own : ∀ c, (G.cd c).isSome = true → Cls R.K (R.cad c) ∧ PySem.W.findIn R.K (.ref (R.cad c)) "__class__" = some (some (.builtin "object.__class__")) ∧ PySem.W.specialIn R.K (.builtin "object.__class__") "__get__" = some (some (.builtin "getset_descriptor.__get__")) ∧
    PySem.W.takesIn R.K (.builtin "object.__class__") = some true ∧ PySem.W.mroIn R.K (R.cad c) (.type "object") = some true
  bo : ∀ c n, (G.cd c).isSome = true → n ∈ ["NoneType", "bool", "int", "str", "tuple", "list", "dict"] → PySem.W.kitOne R.K (.type n) (.ref (R.cad c)) = some false ∧ PySem.W.kitOne R.K (.ref (R.cad c)) (.type n) = some false
  oo : ∀ c d, (G.cd c).isSome = true → (G.cd d).isSome = true → PySem.W.kitOne R.K (.ref (R.cad c)) (.ref (R.cad d)) = some (decide (c = d))
  sp : ∀ c d, (G.cd c).isSome = true → (G.cd d).isSome = true → spB R.K (R.cad c) = true ∧ PySem.W.notFirst R.K (R.cad c) (.ref (R.cad d)) = true
  na : ∀ c f, G.at_ c f = true → Cls R.K (R.cad c) ∧ NoAttr R.K (R.cad c) (nm f)
  mt : ∀ c cd m f, G.cd c = some cd → cd.mt.lookup m = some f → Meth R.K (R.cad c) (nm m) (R.fad f)
  ini : ∀ c cd f, G.cd c = some cd → cd.init = some f → Mk R.K (R.cad c) (R.fad f)
  kd : ∀ (d : Nat) (l : List Nat), G.kd d ≠ [] → ∃ es n r, KDict R.K w (R.kad d) es n ∧ PySem.W.nsIn R.K (R.kad d) (S' l) = some r ∧ (match lkW (G.kd d) (.inr l) with
    | some w => ∃ u v, r = some u ∧ RelV v u ∧ ∀ H, RV R H w v
    | none => r = none)
/-- what all functions share -/
structure Pg where
  gl : List (Str × W)
  bf : List Str
  pn : List (Nat × List Str)
  sh : Nat → List (Nat × List Nat × List Str)
  ci : List (Nat × Nat)
  mp : List (Str × List (List Str))
  xn : List (Str × Nat × Bool)
def Pg.st (p : Pg) (N : List Str) (sc : Scope) : Stx := ⟨N, sc, fun _ => true, p.gl, p.bf, p.pn, p.sh, p.ci, p.mp, p.xn⟩
/-- a function of the program -/
structure FnS (R : RC) (p : Pg) (f : Nat) (fd : FD) : Prop where
  ex : ∃ (x qual : Str) (args : Arguments) (body : List Stmt) (scope : Scope) (dvs : List V) (fdat : FuncData) (N ps : List Str) (fuel : Nat) (ys : List Sm), FunD R.K x qual args body scope dvs [] (R.fad f) fdat ∧ FnScope N ps scope ∧ ((mapO (trS fuel (p.st N scope)) body = some ys ∧ fd.body = smL ys) ∨ fd.body = .raise 0 .nil) ∧
    ps.length = fd.np ∧ N.length = fd.ns ∧ (∀ H, RVs R H fd.dfl dvs) ∧ ∀ (dV kV doc pm : Value) (an : Option Addr) (cdv ct : Value) (its : List Value), ((dvs = [] ∧ dV = .none ∧ its = []) ∨ ∃ (A : Addr) (o : Obj) (n : Nat), dvs ≠ [] ∧ dV = .ref A ∧ R.K.lookup A = some o ∧ o.data = .seq its.toArray n ∧ its.length = dvs.length) →
      ∀ q, q ∈ p.sh f → Sh R.K (PySem.W.fnOf x qual args body scope dV kV doc pm an cdv ct) ps fd.np its q.1 q.2.1 q.2.2
section
variable {R : RC} {G : Gm} {P : Program} {w : World} {mg : Str → Option Value} {base : Heap} {p : Pg}
theorem rs_start {H : Hp} {N : List Str} {ns : Nat} {ws : List W} {vs : List V} (ha : R.aH = fun _ => none) (h : RVs R H ws vs) (hn : N.length = ns) : RS R H (MP.start ns ws) (L2.start N vs) := by
  have hl := h.length
  refine ⟨by unfold MP.start L2.start; simp [hl, hn], fun i w e => ?_, fun a => by rw [ha]; exact ⟨(fun _ q => nomatch q), (fun _ _ q => nomatch q)⟩⟩
  unfold MP.start at e
  unfold L2.start
  by_cases hi : i < ws.length
  · rw [List.getElem?_append_left (by simpa using hi), List.getElem?_map] at e
    rw [List.getElem?_append_left (by simp [hl, hi]), List.getElem?_map]
    cases q : ws[i]? with
    | none => rw [q] at e; cases e
    | some w' =>
      rw [q] at e
      cases e
      obtain ⟨v, e1, e2⟩ := h.get q
      exact ⟨v, by rw [e1]; rfl, e2⟩
  · rw [List.getElem?_append_right (by simp; omega), List.getElem?_replicate] at e
    split at e <;> cases e
theorem fn_run (ha : R.aH = fun _ => none) (Z : E0 R G w) (hgl : ∀ x w, p.gl.lookup x = some w → ∃ u v, mg x = some u ∧ RelV v u ∧ ∀ H, RV R H w v) (hbf : ∀ x, x ∈ p.bf → mg x = none) (hpn : ∀ f ps, p.pn.lookup f = some ps → ∃ fd, G.fn f = some fd)
    (hci : ∀ k f, p.ci.lookup k = some f → ∃ cd, G.cd k = some cd ∧ cd.init = some f) (hsg : ∀ f q, q ∈ G.sh f → (q.1, q.2.1, q.2.2.map S') ∈ p.sh f) (hmf : ∀ k cd m f, G.cd k = some cd → cd.mt.lookup m = some f → ∃ fd, G.fn f = some fd)
    (hxn : ∀ x q, p.xn.lookup x = some q → G.xv q.1 = true ∧ (mg x = some (R.xcl q.1) ∨ (mg x = none ∧ bootBuiltins x = some (R.xcl q.1) ∧ x ≠ "__name__")) ∧ (q.2 = true → mg x = some (R.xcl q.1) ∧ G.xi q.1 ≠ none))
    (hx1 : ∀ c f, G.xi c = some (some f) → ∃ C g, R.xcl c = .ref C ∧ XiF R.K mg C g (nm f)) (hx0 : ∀ c, G.xi c = some none → ∃ C, R.xcl c = .ref C ∧ X0F R.K C)
    (F : ∀ f fd, G.fn f = some fd → FnS R p f fd) : ∀ (n : Nat) (f : Nat) (fd : FD), G.fn f = some fd → CFn R P w R.K mg base (4 * n) (cal G n) f fd (p.sh f)
  | n, f, fd, hf => by
    obtain ⟨x, qual, args, body, scope, dvs, fdat, N, ps, fuel, ys, FDd, FS, hbd, hps, hns, hd, hsh⟩ := (F f fd hf).ex
    obtain ⟨oc, od, dV, kV, doc, pm, an, cdv, ct, osl, rfl, lk, hcd, hD, hK⟩ := FDd.ex
    have dd : ∃ its, Vals dvs its ∧ ((dvs = [] ∧ dV = .none ∧ its = []) ∨ ∃ (A : Addr) (o : Obj) (n : Nat), dvs ≠ [] ∧ dV = .ref A ∧ R.K.lookup A = some o ∧ o.data = .seq its.toArray n ∧ its.length = dvs.length) := by
      rcases hD with ⟨h1, h2⟩ | ⟨h0, A, o, its, m, h2, h3, h4, h5⟩
      · subst h1; exact ⟨[], .nil, .inl ⟨rfl, h2, rfl⟩⟩
      · exact ⟨its, h5, .inr ⟨A, o, m, h0, h2, h3, h4, h5.length.symm⟩⟩
    obtain ⟨its, hv, hcase⟩ := dd
    refine ⟨_, ps, its, FDd.kp, hps, fun H => ⟨dvs, hd H, hv⟩, hsh dV kV doc pm an cdv ct its hcase, ?_⟩
    intro A outer s H args' us vs ws S Q Qw E hr hgd e0 hb r rw_ hlen hS hc k
    cases n with
    | zero => exact (show False from hc).elim
    | succ n =>
      have ih := fn_run ha Z hgl hbf hpn hci hsg hmf hxn hx1 hx0 F n
      have hc' : rdS G (cal G n) fd.body (fun x _ S1 => ∃ S2, Ext S2 S1 ∧ E x S2) ⟨fun _ S1 => drp Qw .non S1, drp Qw, fun _ _ => False, fun _ _ => False⟩ (MP.start fd.ns ws) S := by
        have q : (match G.fn f with
          | some fd => rdS G (cal G n) fd.body (fun x _ S1 => ∃ S2, Ext S2 S1 ∧ E x S2) ⟨fun _ S1 => drp Qw .non S1, drp Qw, fun _ _ => False, fun _ _ => False⟩ (MP.start fd.ns ws) S
          | none => False) := hc
        rw [hf] at q
        exact q
      rcases hbd with ⟨htr, hbody⟩ | hbody
      rotate_left
      · rw [hbody] at hc'
        exact (show False from hc').elim
      have hl : vs.length = ps.length := by rw [rw_.length, hlen, hps]
      have KX : R.K.In s.heap := e0.mod.kin.keeps fun b o e => (e0.bs b o e).1
      have lim : s.heap.NoLimit := e0.mod.nolimit.keeps fun b o e => (e0.bs b o e).1
      have room : Room (4 * n + 3) (A.deeper (envOfC qual scope s.heap.objs.size (R.fad f) cdv)) := Room.deeper (k := 4 * n + 3) (hr.mono (by omega)) _
      refine codeAny_call_function hr.depth (KX _ _ lk) rfl FS.co FS.gen rfl (PySem.W.codeRec_of KX hcd) (hb _ _ _ _ ?_)
      refine wpAny_newFunctionEnv_cells FS.kind (fun y hy => ?_) fun env he s1 x1 => ?_
      · rcases FS.par y.1 (List.of_mem_zip (a := y.1) (b := y.2) hy).1 with q | q
        · exact .inl q
        · exact .inr ⟨q, PySem.W.cellsFrom_some _ _ _ (.inl q)⟩
      subst he
      refine ⟨lim.keeps x1.toInCall.keep, codeAny_func ?_⟩
      have I : L2.Inv (cxOf (CXw R P w E) P w R.K mg base N qual scope (R.fad f) cdv A outer s H (fun _ _ _ => False)) [] (L2.start N vs) H s1 := inv_start FS hr.hd e0 hl r x1
      have C : Cok R G (cal G n) (4 * n) (p.st N scope) (cxOf (CXw R P w E) P w R.K mg base N qual scope (R.fad f) cdv A outer s H (fun _ _ _ => False)) := {
        E := { xcs := Z.xcs, K := rfl, calm := rfl, un := by have := room.un; show (A.deeper _).units + 200 < cLine; omega, gd := hgd, sm := Z.sm, own := Z.own, bo := Z.bo, oo := Z.oo, sp := Z.sp, na := Z.na, mt := Z.mt, ini := Z.ini, kd := Z.kd }
        N := rfl
        nd := FS.nd
        sc := rfl
        fb := fun _ _ => rfl
        gl := hgl
        bf := hbf
        rm := room
        ci := hci
        sg := hsg
        mf := hmf
        pn := hpn
        cf := ih
        xn := hxn
        x1 := hx1
        x0 := hx0 }
      have ht : PSs (cxOf (CXw R P w E) P w R.K mg base N qual scope (R.fad f) cdv A outer s H (fun _ _ _ => False)) body (LS R (rdS G (cal G n) fd.body (fun x _ S1 => ∃ S2, Ext S2 S1 ∧ E x S2))) := by
        rw [hbody]
        exact sts_ok (trs_good fuel) C ⟨rfl, rfl, rfl⟩ (passes_of rfl) (tk_def (w0 := w) (P := P) rfl rfl rfl rfl) htr
      refine wpAny_mono (ht.run [] s1 (L2.start N vs) H { nx := fun _ H' => Q .non H', rt := Q } I ⟨_, S, _, rs_start ha rw_ hns, hS, hc', ⟨fun σ1 S1 τ1 H1 ⟨S2, x, a⟩ _ c d => k _ S2 _ H1 a rfl (Sim.ext x c) (Fr.ext x d), fun w1 S1 v1 H1 ⟨S2, x, a⟩ b c d => k _ S2 _ _ a b (Sim.ext x c) (Fr.ext x d), fun _ _ _ _ z => z.elim, fun _ _ _ _ z => z.elim⟩⟩) (fun fl s' hs => ?_) fun e s' hs => hs
      have fin : ∀ {σ' : L2.St} {H' : Hp} {v : V} {u : Value}, L2.Inv (cxOf (CXw R P w E) P w R.K mg base N qual scope (R.fad f) cdv A outer s H (fun _ _ _ => False)) [] σ' H' s' → RelV v u → Q v H' → CE outer P w H s Q u s' := fun {σ' H' v u} J rv q => ⟨v, H', J.os, J.bare, J.base, J.hok, rv, q⟩
      match fl, hs with
      | .ret u, ⟨v, σ', H', J, rv, q⟩ => exact fin J rv q
      | .next, ⟨σ', H', J, q⟩ => exact fin (v := V.non) (u := Value.none) J rfl q
      | .brk, ⟨_, _, _, q⟩ => exact q.elim
      | .cont, ⟨_, _, _, q⟩ => exact q.elim
termination_by n => n
end
end MP
/-! MP19: the law's own call. -/
namespace MP
open PySem L2 PyProof.Rows PySem.W PySem.Spec
/-- the script, as it stands -/
def scr (ns : List Int) : W := .rl (ns.map W.int)
theorem rvs_ints {R : RC} {H : Hp} : ∀ ns : List Int, RVs R H (ns.map W.int) (ns.map V.int)
  | [] => rfl
  | n :: ns => .cons rfl (rvs_ints ns)
theorem fits_callerA : callerA.guards = some [] := rfl
section
variable {R : RC} {P : Program} {w : World} {mg mb : Str → Option Value} {k : Nat} {a : Addr} {c : Cal} {f : Nat} {fd : FD} {sh : List (Nat × List Nat × List Str)} {s₁ : Shared} {vs : List Value} {ns : List Int}
/-- over any heap that tells no more than the script -/
theorem law_go (KX : R.K.In s₁.heap) (hns : s₁.heap.Ns mainGlobals mg) (hb : s₁.heap.Ns builtinsNs mb) (hbb : ∀ x : Str, x ≠ "__name__" → mb x = bootBuiltins x) (hlim : s₁.heap.NoLimit) (hg : s₁.gens = #[])
    (ha : s₁.heap.get? a = some { cls := .type "list", data := .seq vs.toArray }) (hr : Room k callerA) (hsh : (1, [], []) ∈ sh) (h1 : fd.np = 1) (hdf : fd.dfl = [])
    (F : ∀ base : Heap, R.K.In base → base.Ns mainGlobals mg → CFn R P w R.K mg base k c f fd sh) (hc : c f [scr ns] (fun _ => none) (fun v _ => v = .bl true) (fun _ _ => False))
    {H : Hp} (hO : Only H) (hq : SqR R.K H a (ns.map V.int)) (ok : HOk P w H s₁.heap) (hA : ∀ b, H b ≠ none → b = a) (hK : H a ≠ none → R.K.lookup a = none) :
    codeAny (model P w) callerA (.call (.ref (R.fad f)) ⟨[.ref a], []⟩) (fun r s' => r = .ok (.ret (.bool true)) ∧ OldK s₁.heap s'.heap ∧ s'.os = s₁.os ∧ AllBare s'.gens) s₁ := by
  have tracked : ∀ {b : Addr}, H b ≠ none → b = a ∧ R.K.lookup b = none := fun {b} z => by
    have e := hA b z
    subst e
    exact ⟨rfl, hK z⟩
  have kin : R.K.In (hidT s₁.heap H) := fun b o e => hidT_get (KX b o e) (Classical.byContradiction fun z => by rw [(tracked z).2] at e; cases e)
  have nsx : ∀ {b : Addr} {m : Str → Option Value}, s₁.heap.Ns b m → (hidT s₁.heap H).Ns b m := fun {b m} ⟨o, es, ep, e, d, r⟩ => by
    refine ⟨o, es, ep, hidT_get e (Classical.byContradiction fun z => ?_), d, r⟩
    rw [(tracked z).1, ha] at e
    cases e
    have d' : Data.seq vs.toArray _ = Data.dict es ep := d
    cases d'
  have lim : (hidT s₁.heap H).NoLimit := by
    obtain ⟨mc, l1, l2⟩ := hlim
    exact ⟨mc, nsx l1, l2⟩
  have env : L2.Env0 P w R.K mg (hidT s₁.heap H) callerA [] s₁ H :=
    { frames := rfl, mod := ⟨kin, nsx hns, ⟨mb, nsx hb, hbb⟩, lim⟩, bs := fun b o e => of_hidT e, bsz := Nat.le_of_eq (hidT_size _ _), funs := trivial, frf := fun b z => (by cases z), hok := ok, bare := .of_eq hg }
  obtain ⟨fdat, ps, its, _, hps, _, hshx, run⟩ := (F _ kin (nsx hns)).ex
  obtain ⟨zs, z1, z2⟩ := hshx _ hsh s₁ [.ref a] KX rfl
  have hz : zs = [.ref a] := by
    have z3 : bindP fd.np its [Value.ref a] [] = some zs := z1
    rw [h1] at z3
    have z4 : bindP 1 its [Value.ref a] [] = some [Value.ref a] := rfl
    rw [z4] at z3
    exact (Option.some.inj z3).symm
  subst hz
  refine codeAny_mono (run callerA [] s₁ H ⟨[.ref a], []⟩ [.ref a] [.ref a] [scr ns] (fun _ => none) (fun v _ => v = .bl true) _ _ hr fits_callerA env z2 (.cons rfl .nil) ⟨.ref a, [], rfl, ⟨a, ns.map V.int, rfl, hq, rvs_ints ns⟩, rfl⟩ (by rw [h1]; rfl) (fun b o z => by cases z) hc (fun w1 S1 v H1 q1 r1 _ _ => by subst q1; exact r1)) fun r s' h => ?_
  cases r with
  | error e => exact (CXw.no (E := fun _ _ _ => False) (show CXw R P w (fun _ _ => False) [] H s₁ (fun _ _ _ => False) e s' from h)).elim
  | ok fl => cases fl with
   | next => exact (show False from h).elim
   | brk => exact (show False from h).elim
   | cont => exact (show False from h).elim
   | ret u =>
    obtain ⟨v, H', os, bare, un, ok', r', q⟩ := (show CE [] P w H s₁ _ u s' from h)
    have q' : v = .bl true := q
    subst q'
    have r2 : u = Value.bool true := r'
    subst r2
    refine ⟨rfl, OldK.of_keep fun b o e => ?_, os, bare⟩
    rcases hO b with z | ⟨ob, xs, z⟩
    · exact un.keep b o e z (fun y => by cases y) (fun y => by cases y)
    · have t1 := (ok b _ z).1
      have t2 := (ok' b _ (un.frzs b ob _ z)).1
      rw [e] at t1
      cases t1
      exact t2
/-- the law's call ends with True -/
theorem law_top (KX : R.K.In s₁.heap) (hns : s₁.heap.Ns mainGlobals mg) (hb : s₁.heap.Ns builtinsNs mb) (hbb : ∀ x : Str, x ≠ "__name__" → mb x = bootBuiltins x) (hlim : s₁.heap.NoLimit) (hg : s₁.gens = #[])
    (ha : s₁.heap.get? a = some { cls := .type "list", data := .seq vs.toArray }) (hi : IntsAre vs ns) (hl : ns.length ≤ sizeLine) (hr : Room k callerA) (hsh : (1, [], []) ∈ sh) (h1 : fd.np = 1) (hdf : fd.dfl = [])
    (F : ∀ base : Heap, R.K.In base → base.Ns mainGlobals mg → CFn R P w R.K mg base k c f fd sh) (hc : c f [scr ns] (fun _ => none) (fun v _ => v = .bl true) (fun _ _ => False)) :
    codeAny (model P w) callerA (.call (.ref (R.fad f)) ⟨[.ref a], []⟩) (fun r s' => r = .ok (.ret (.bool true)) ∧ OldK s₁.heap s'.heap ∧ s'.os = s₁.os ∧ AllBare s'.gens) s₁ := by
  have rv := vals_ints hi
  have len := hi.length
  cases hk : R.K.lookup a with
  | some o =>
    have e := KX a o hk
    rw [ha] at e
    cases e
    exact law_go (H := fun _ => none) KX hns hb hbb hlim hg ha hr hsh h1 hdf F hc (fun _ => .inl rfl) (.inr ⟨vs.toArray, _, hk, by rw [List.size_toArray, len]; exact hl, by simpa using rv⟩) (fun b u z => by cases z) (fun b z => absurd rfl z) (fun z => absurd rfl z)
  | none =>
    let H : Hp := fun b => if b = a then some (.frz { cls := .type "list", data := .seq vs.toArray } (.lst (ns.map V.int))) else none
    have at_ : H a = some (.frz { cls := .type "list", data := .seq vs.toArray } (.lst (ns.map V.int))) := if_pos rfl
    have off : ∀ {b : Addr}, b ≠ a → H b = none := fun {b} z => if_neg z
    refine law_go (H := H) KX hns hb hbb hlim hg ha hr hsh h1 hdf F hc (fun b => ?_) (.inl ⟨_, at_⟩) (fun b u z => ?_) (fun b z => Classical.byContradiction fun y => z (off y)) (fun _ => hk)
    · by_cases q : b = a
      · subst q; exact .inr ⟨_, _, at_⟩
      · exact .inl (off q)
    · by_cases q : b = a
      · subst q
        rw [at_] at z
        cases z
        exact ⟨ha, by rw [List.length_map]; exact hl, vs, _, rv, ha⟩
      · rw [off q] at z
        cases z
end
/-- what head_any leaves (case hc) -/
theorem law_end {l : OpenLaw} {n k : Nat} {q : Program} {loose : List Str} {XP : (Str → Option Value) → Heap → Prop} {YP : World → Heap → Prop} {d : DefRec} (hn : l.most = some n) (hn2 : n ≤ sizeLine) (hdf : d.params.defaults = []) (hr : Room k callerA)
    (F : ∀ (w : World) (mg : Str → Option Value) (fa : Addr) (h : Heap), YP w h → h.Ns mainGlobals mg → mg d.name = some (.ref fa) → ∃ (R : RC) (c : Cal) (f : Nat) (fd : FD) (sh : List (Nat × List Nat × List Str)), R.K.In h ∧ R.fad f = fa ∧ (1, [], []) ∈ sh ∧ fd.np = 1 ∧ fd.dfl = [] ∧
      (∀ ns : List Int, ns.length ≤ n → (∀ z ∈ ns, Builtin.Int.intBits z ≤ 1048576) → c f [scr ns] (fun _ => none) (fun v _ => v = .bl true) (fun _ _ => False)) ∧ ∀ base : Heap, R.K.In base → base.Ns mainGlobals mg → CFn R l.prog w R.K mg base k c f fd sh) :
    WalkO q loose XP YP l.row.toRowW d [] (fun f vs => PySem.call f vs) := by
  refine Att.attach_callB hn hdf fun w s₀ s₁ mg mb fa o pm cd doc a vs ns G Y ho hd hcd hmg hobj hints hlen hbits hg => ?_
  obtain ⟨R, c, f, fd, sh, KX, rfl, hsh, h1, h2, hc, hF⟩ := F w mg fa _ Y G.T.g hmg
  exact law_top KX G.T.g G.T.b G.T.builtins G.T.nolimit hg hobj hints (Nat.le_trans hlen hn2) hr hsh h1 h2 hF (hc ns hlen hbits)
end MP
/-! MPH: the head's look at exceptions' classes. -/
namespace MP
open PySem L2 PyProof.Rows PySem.W PySem.Spec He
/-- the built-in class an own exception's class stands on -/
inductive XKd where
  | ve | ie | le | ke | zd
def XKd.B : XKd → String
  | .ve => "ValueError" | .ie => "IndexError" | .le => "LookupError" | .ke => "LookupError" | .zd => "ZeroDivisionError"
def XKd.nid : XKd → String
  | .ve => "ValueError.__new__" | .ie => "IndexError.__new__" | .le => "LookupError.__new__" | .ke => "LookupError.__new__" | .zd => "ZeroDivisionError.__new__"
def XKd.iid : XKd → String
  | .ve => "ValueError.__init__" | .ie => "IndexError.__init__" | .le => "LookupError.__init__" | .ke => "LookupError.__init__" | .zd => "ZeroDivisionError.__init__"
abbrev tlZ : List Value := [.type "ZeroDivisionError", .type "ArithmeticError", .type "Exception", .type "BaseException", .type "object"]
def XKd.bB : XKd → List Value
  | .ve => tlV | .ie => tlI | .le => tlL | .ke => tlL | .zd => tlZ
def XKd.tl : XKd → List Value
  | .ve => tlV | .ie => tlI | .le => tlL | .ke => tlK | .zd => tlZ
def XKd.B2 : XKd → String
  | .ve => "ValueError" | .ie => "IndexError" | .le => "LookupError" | .ke => "KeyError" | .zd => "ZeroDivisionError"
def XKd.ini : XKd → String
  | .ve => "ValueError.__init__" | .ie => "IndexError.__init__" | .le => "LookupError.__init__" | .ke => "KeyError.__init__" | .zd => "ZeroDivisionError.__init__"
theorem XKd.facts : ∀ k : XKd, ExcBaseFacts k.B k.nid k.iid k.bB
  | .ve => F.excBase_ValueError | .ie => F.excBase_IndexError | .le => F.excBase_LookupError | .ke => F.excBase_LookupError | .zd => F.excBase_ZeroDivisionError
theorem XKd.xini : ∀ k : XKd, XIni k.B2 k.ini
  | .ve => xini_VE | .ie => xini_IE | .le => xini_LE | .ke => xini_KE | .zd => .of F.excBase_ZeroDivisionError
open Builtin Builtin.ObjectAttr in
theorem XKd.pass (self : Value) : ∀ k : XKd, refuseLoop self "__setattr__" k.tl = pure ()
  | .ve => rfl | .ie => rfl | .le => rfl | .ke => rfl | .zd => rfl
/-- a look at C's class object -/
def oxB (K : Frag) (C : Addr) (k : XKd) : Bool := match K.lookup C with
  | some ⟨.type "type", _, .cls cd, sl⟩ => (match cd.mro, sl.toList with
    | .ref C2 :: bm, [_, _, _, _, some (.builtin n), _] => decide (C2 = C) && (decide (n = k.nid) && (!cd.hasDel && (cd.hasDict && rfT k.tl bm)))
    | _, _ => false)
  | _ => false
theorem oxB_ok {K : Frag} {C : Addr} {k : XKd} (h : oxB K C k = true) : ∃ nm qn N bs bm sn su ab co dd a0 a1 a2 a3 a5, K.lookup C = some (excClassObj nm qn C N bs bm true sn su ab co dd a0 a1 a2 a3 a5 k.nid) ∧ rfT k.tl bm = true := by
  unfold oxB at h
  split at h
  · next dd cd sl ho =>
    split at h
    · next C2 bm b0 b1 b2 b3 n b5 hm hs =>
      obtain ⟨h1, h⟩ := ba h
      obtain ⟨h2, h⟩ := ba h
      obtain ⟨h3, h⟩ := ba h
      obtain ⟨h4, h5⟩ := ba h
      have e1 := of_decide_eq_true h1
      have e2 := of_decide_eq_true h2
      subst e1 e2
      obtain ⟨nm, bs, mro, ns, qn, hd, sn, sub, ab, col, del⟩ := cd
      dsimp only at hm h3 h4
      subst hm h4
      obtain rfl : del = false := by simpa using h3
      obtain ⟨l⟩ := sl
      have e3 : l = [b0, b1, b2, b3, some (.builtin k.nid), b5] := hs
      subst e3
      exact ⟨nm, qn, ns, bs, bm, sn, sub, ab, col, dd, b0, b1, b2, b3, b5, ho, h5⟩
    · cases h
  · cases h
def excCB (K : Frag) (C : Addr) : Bool :=
  eqO (findIn K (.ref C) "__getattribute__") (some (some (.builtin "BaseException.__getattribute__"))) && (eqO (findIn K (.ref C) "__getattr__") (some none) && (decide (subIn K (.ref C) (.type "BaseException") = some true) && (hasDictIn K C &&
  (eqO (findIn K (.ref C) "__class__") (some (some (.builtin "object.__class__"))) && (eqO (specialIn K (.builtin "object.__class__") "__get__") (some (some (.builtin "getset_descriptor.__get__"))) && (decide (takesIn K (.builtin "object.__class__") = some true) && decide (mroIn K C (.type "object") = some true)))))))
theorem excCB_ok {K : Frag} {C : Addr} (h : excCB K C = true) : ExcC K C ∧ XfC K C := by
  obtain ⟨h1, h⟩ := ba h
  obtain ⟨h2, h⟩ := ba h
  obtain ⟨h3, h⟩ := ba h
  obtain ⟨h4, h⟩ := ba h
  obtain ⟨h5, h⟩ := ba h
  obtain ⟨h6, h⟩ := ba h
  obtain ⟨h7, h8⟩ := ba h
  exact ⟨⟨eqO_ok h1, eqO_ok h2, of_decide_eq_true h3, h4, eqO_ok h5, eqO_ok h6, of_decide_eq_true h7, of_decide_eq_true h8⟩, ⟨eqO_ok h1, eqO_ok h2, of_decide_eq_true h3, h4⟩⟩
def keepB (K : Frag) (C : Addr) : Bool := keepIn K (.ref C) && (decide (subIn K (.ref C) (.type "BaseException") = some true) && decide (typeIn K (.ref C) = some (.type "type")))
/-- without an own __init__ -/
def x0B (K : Frag) (C : Addr) (k : XKd) : Bool := excIn K C k.bB k.nid && keepB K C
theorem x0B_ok {K : Frag} {C : Addr} {k : XKd} (h : x0B K C k = true) : X0F K C := by
  obtain ⟨h1, h⟩ := ba h
  obtain ⟨h2, h⟩ := ba h
  obtain ⟨h3, h4⟩ := ba h
  exact ⟨⟨_, _, _, _, k.facts, h1⟩, h2, of_decide_eq_true h3, of_decide_eq_true h4⟩
/-- with one -/
def x1B (K : Frag) (C g : Addr) (f : Str) (k : XKd) : Bool := oxB K C k && (keepB K C && (eqO (findIn K (.ref C) "__setattr__") (some (some (.builtin "object.__setattr__"))) && (eqO (findIn K (.ref C) f) (some none) && (eqO (findIn K (.ref C) "__init__") (some (some (.ref g))) && decide (typeIn K (.ref g) = some (.type "function"))))))
theorem x1B_ok {K : Frag} {C g : Addr} {f : Str} {k : XKd} (h : x1B K C g f k = true) : OxC K C ∧ OxB K C k.B2 ∧ findIn K (.ref C) f = some none ∧ findIn K (.ref C) "__init__" = some (some (.ref g)) ∧ typeIn K (.ref g) = some (.type "function") := by
  obtain ⟨h1, h⟩ := ba h
  obtain ⟨h2, h⟩ := ba h
  obtain ⟨h3, h⟩ := ba h
  obtain ⟨h4, h⟩ := ba h
  obtain ⟨h5, h6⟩ := ba h
  obtain ⟨g1, h2⟩ := ba h2
  obtain ⟨g2, g3⟩ := ba h2
  obtain ⟨nm, qn, N, bs, bm, sn, su, ab, co, dd, a0, a1, a2, a3, a5, e1, e2⟩ := oxB_ok h1
  have has := fun x => rfT_has (t := k.tl) x bm e2
  refine ⟨⟨⟨nm, qn, N, bs, bm, sn, su, ab, co, dd, a0, a1, a2, a3, a5, k.nid, k.B, k.iid, k.bB, e1, k.facts, ?_, ?_, ?_, fun self => rfT_pass self (k.pass self) bm e2, ?_, rfT_ne (by cases k <;> (intro z; cases z)) bm e2⟩, eqO_ok h3, of_decide_eq_true g2, of_decide_eq_true g3, g1⟩, ⟨nm, qn, N, bs, bm, sn, su, ab, co, dd, a0, a1, a2, a3, a5, k.nid, e1, ?_⟩, eqO_ok h4, eqO_ok h5, of_decide_eq_true h6⟩
  · rw [has]; cases k <;> decide +kernel
  · rw [has]; cases k <;> decide +kernel
  · rw [has]; cases k <;> decide +kernel
  · rw [has]; cases k <;> decide +kernel
  · rw [has]; cases k <;> decide +kernel
/-- what b.__init__ is: of an own class, of a built-in one -/
def baseB (K : Frag) (b : Str) (own : Bool) (k : XKd) : Bool := if own = true then
    (Fa.glo b).ok K && (eqO (specialIn K (.ref (ga K b)) "__getattribute__") (some (some (.builtin "type.__getattribute__"))) && (readsIn K (ga K b) (.type "type") && (match findCls K (.ref (ga K b)) (.type "type") "__init__" with
      | some (.val (.builtin i)) => decide (i = k.ini)
      | _ => false)))
  else (Fa.free b).ok K && (decide (bootBuiltins b = some (.type k.B2)) && (decide (b ≠ "__name__") && (!Manifest.isStub k.B2 && (match findCls K (.type k.B2) (.type "type") "__init__" with
      | some (.val (.builtin i)) => decide (i = k.ini)
      | _ => false))))
theorem XKd.ty : ∀ k : XKd, typeOf (.type k.B2) = pure (.type "type")
  | .ve => kitMeta_of (by decide +kernel) | .ie => kitMeta_of (by decide +kernel) | .le => kitMeta_of (by decide +kernel) | .ke => kitMeta_of (by decide +kernel) | .zd => kitMeta_of (by decide +kernel)
theorem baseB_ok {K : Frag} {b : Str} {own : Bool} {k : XKd} (h : baseB K b own k = true) {mg : Str → Option Value} {hp : Heap} (kin : K.In hp) (ns : hp.Ns mainGlobals mg) (X : Cx) (eK : X.K = K) (em : X.mg = mg) : BaseM X b k.ini := by
  unfold baseB at h
  cases own with
  | true =>
    rw [if_pos rfl] at h
    obtain ⟨h1, h⟩ := ba h
    obtain ⟨h2, h⟩ := ba h
    obtain ⟨h3, h4⟩ := ba h
    refine .inr ⟨ga K b, .type "type", by rw [em]; exact glo_ok kin ns h1, by rw [eK]; exact eqO_ok h2, by rw [eK]; exact h3, ?_⟩
    rw [eK]
    split at h4
    · next i e => rw [e, of_decide_eq_true h4]
    · cases h4
  | false =>
    rw [if_neg Bool.false_ne_true] at h
    obtain ⟨h1, h⟩ := ba h
    obtain ⟨h2, h⟩ := ba h
    obtain ⟨h3, h⟩ := ba h
    obtain ⟨h4, h5⟩ := ba h
    refine .inl ⟨k.B2, by rw [em]; exact free_ok kin ns h1, of_decide_eq_true h2, of_decide_eq_true h3, k.ty, by simpa using h4, ?_⟩
    rw [eK]
    split at h5
    · next i e => rw [e, of_decide_eq_true h5]
    · cases h5
theorem XKd.handed : ∀ k : XKd, handedIn (.builtin k.ini) = true := fun k => by cases k <;> decide +kernel
end MP
/-! MP20: a program as data; the head's facts of it; the law from its meaning. -/
namespace MP
open PySem L2 PyProof.Rows PySem.W PySem.Spec He
/-! ### constants that stand in the module -/
mutual
def wB (K : Frag) (R : RC) : W → Value → Bool
  | .non, .none => true
  | .bl b, .bool c => b == c
  | .int i, .int j _ => decide (i = j)
  | .str l, .str x _ => decide (x = S' l)
  | .fn f, .ref a => decide (a = R.fad f)
  | .cl c, .ref a => decide (a = R.cad c)
  | .kd d, .ref a => decide (a = R.kad d)
  | .tup ws, .ref a => (match K.lookup a with
    | some ⟨.type c, _, .seq its _, _⟩ => decide (c = "tuple") && (decide (its.size ≤ sizeLine) && wBs K R ws its.toList)
    | _ => false)
  | _, _ => false
def wBs (K : Frag) (R : RC) : List W → List Value → Bool
  | [], [] => true
  | w :: ws, u :: us => wB K R w u && wBs K R ws us
  | _, _ => false
end
mutual
theorem wB_ok {K : Frag} {R : RC} (hK : R.K = K) : ∀ (w : W) (u : Value), wB K R w u = true → ∃ v, RelV v u ∧ ∀ H, RV R H w v
  | .non, u, h => by
    cases u <;> first | (unfold wB at h; cases h; done) | exact ⟨.non, rfl, fun _ => rfl⟩
  | .bl b, u, h => by
    cases u <;> first
      | (unfold wB at h; cases h; done)
      | (unfold wB at h; have e := eq_of_beq h; subst e; exact ⟨.bl b, rfl, fun _ => rfl⟩)
  | .int i, u, h => by
    cases u <;> first
      | (unfold wB at h; cases h; done)
      | (unfold wB at h; have e := of_decide_eq_true h; subst e; exact ⟨.int i, ⟨_, rfl⟩, fun _ => rfl⟩)
  | .str l, u, h => by
    cases u <;> first
      | (unfold wB at h; cases h; done)
      | (unfold wB at h; have e := of_decide_eq_true h; subst e; exact ⟨.str (S' l), ⟨_, rfl⟩, fun _ => rfl⟩)
  | .fn f, u, h => by
    cases u <;> first
      | (unfold wB at h; cases h; done)
      | (unfold wB at h; have e := of_decide_eq_true h; subst e; exact ⟨.ref (R.fad f), rfl, fun _ => rfl⟩)
  | .cl f, u, h => by
    cases u <;> first
      | (unfold wB at h; cases h; done)
      | (unfold wB at h; have e := of_decide_eq_true h; subst e; exact ⟨.ref (R.cad f), rfl, fun _ => rfl⟩)
  | .kd f, u, h => by
    cases u <;> first
      | (unfold wB at h; cases h; done)
      | (unfold wB at h; have e := of_decide_eq_true h; subst e; exact ⟨.ref (R.kad f), rfl, fun _ => rfl⟩)
  | .tup ws, u, h => by
    cases u with
    | ref a =>
      unfold wB at h
      cases q : K.lookup a with
      | none => rw [q] at h; cases h
      | some o =>
        obtain ⟨oc, od, dt, osl⟩ := o
        rw [q] at h
        cases oc with
        | type c =>
          cases dt with
          | seq its n =>
            obtain ⟨h1, h2⟩ := ba (show (decide (c = "tuple") && (decide (its.size ≤ sizeLine) && wBs K R ws its.toList)) = true from h)
            obtain ⟨h3, h4⟩ := ba h2
            obtain ⟨vs, v1, v2⟩ := wBs_ok hK ws its.toList h4
            exact ⟨.ref a, rfl, fun H => ⟨a, vs, rfl, .inr ⟨_, its, n, by rw [hK]; exact q, congrArg Value.type (of_decide_eq_true h1), rfl, of_decide_eq_true h3, v1⟩, v2 H⟩⟩
          | _ => cases h
        | _ => cases dt <;> cases h
    | _ => unfold wB at h; cases h
  | .rl ws, u, h => by cases u <;> (unfold wB at h; cases h)
  | .ref a, u, h => by cases u <;> (unfold wB at h; cases h)
  | .rd _ _, u, h => by cases u <;> (unfold wB at h; cases h)
  | .xc _ _ _, u, h => by cases u <;> (unfold wB at h; cases h)
theorem wBs_ok {K : Frag} {R : RC} (hK : R.K = K) : ∀ (ws : List W) (us : List Value), wBs K R ws us = true → ∃ vs, Vals vs us ∧ ∀ H, RVs R H ws vs
  | [], us, h => by
    cases us with
    | nil => exact ⟨[], .nil, fun _ => rfl⟩
    | cons _ _ => unfold wBs at h; cases h
  | w :: ws, us, h => by
    cases us with
    | nil => unfold wBs at h; cases h
    | cons u us =>
      unfold wBs at h
      obtain ⟨h1, h2⟩ := ba h
      obtain ⟨v, a1, a2⟩ := wB_ok hK w u h1
      obtain ⟨vs, b1, b2⟩ := wBs_ok hK ws us h2
      exact ⟨v :: vs, .cons a1 b1, fun H => .cons (a2 H) (b2 H)⟩
end
/-- a constant dict's entries -/
def entB (K : Frag) (R : RC) : List DictEntry → List (List Nat × W) → Bool
  | [], [] => true
  | e :: es, (l, w) :: r => (match e.key with
    | .str x _ => decide (x = S' l)
    | _ => false) && (wB K R w e.val && entB K R es r)
  | _, _ => false
def tabB (K : Frag) (R : RC) (a : Addr) (kvs : List (List Nat × W)) : Bool := match K.lookup a with
  | some ⟨_, _, .dict es _, _⟩ => entB K R es.toList kvs
  | _ => false
theorem entB_ok {K : Frag} {R : RC} (hK : R.K = K) (l : List Nat) : ∀ {es : List DictEntry} {kvs : List (List Nat × W)}, entB K R es kvs = true → es.any (·.refKey) = false ∧ (match lkW (kvs.map fun q => (Sum.inr q.1, q.2)) (.inr l) with
    | some w => ∃ e u v, es.find? (·.key.isStr (S' l)) = some e ∧ e.val = u ∧ RelV v u ∧ ∀ H, RV R H w v
    | none => es.find? (·.key.isStr (S' l)) = none)
  | [], [], _ => ⟨rfl, rfl⟩
  | [], _ :: _, h => by cases h
  | _ :: _, [], h => by cases h
  | e :: es, (l2, w) :: r, h => by
    obtain ⟨h1, h2⟩ := ba (show ((match e.key with
      | .str x _ => decide (x = S' l2)
      | _ => false) && (wB K R w e.val && entB K R es r)) = true from h)
    obtain ⟨h3, h4⟩ := ba h2
    obtain ⟨i1, i2⟩ := entB_ok hK l h4
    obtain ⟨eh, ek, ev⟩ := e
    cases ek with
    | str x t =>
      have hx : x = S' l2 := of_decide_eq_true h1
      subst hx
      refine ⟨by rw [List.any_cons, i1]; rfl, ?_⟩
      by_cases q : (S' l2) = (S' l)
      · have q2 : l2 = l := S_inj q
        subst q2
        obtain ⟨v, a1, a2⟩ := wB_ok hK w _ h3
        have e1 : lkW (((l2, w) :: r).map fun q => ((Sum.inr q.1 : KW), q.2)) (.inr l2) = some w := by simp [lkW]
        rw [e1]
        exact ⟨_, _, v, by rw [List.find?_cons]; simp [Value.isStr], rfl, a1, a2⟩
      · have q2 : ¬ (Sum.inr l2 : KW) = Sum.inr l := fun z => q (by injection z with z; rw [z])
        have e1 : lkW (((l2, w) :: r).map fun q => ((Sum.inr q.1 : KW), q.2)) (.inr l) = lkW (r.map fun q => ((Sum.inr q.1 : KW), q.2)) (.inr l) := by
          rw [List.map_cons]
          show (if (Sum.inr l2 : KW) = Sum.inr l then some w else _) = _
          rw [if_neg q2]
        rw [e1, List.find?_cons]
        have e2 : Value.isStr (.str (S' l2) t) (S' l) = false := by
          show (S' l2 == S' l) = false
          exact beq_eq_false_iff_ne.mpr q
        rw [e2]
        exact i2
    | _ => cases h1
theorem tabB_ok {K : Frag} {R : RC} (hK : R.K = K) {a : Addr} {kvs : List (List Nat × W)} (h : tabB K R a kvs = true) (l : List Nat) : ∃ r, nsIn K a (S' l) = some r ∧ (match lkW (kvs.map fun q => (Sum.inr q.1, q.2)) (.inr l) with
    | some w => ∃ u v, r = some u ∧ RelV v u ∧ ∀ H, RV R H w v
    | none => r = none) := by
  unfold tabB at h
  cases q : K.lookup a with
  | none => rw [q] at h; cases h
  | some o =>
    obtain ⟨oc, od, dt, osl⟩ := o
    rw [q] at h
    cases dt with
    | dict es n =>
      obtain ⟨h1, h2⟩ := entB_ok hK l (show entB K R es.toList kvs = true from h)
      unfold nsIn
      rw [q]
      simp only
      cases e : lkW (kvs.map fun q => (Sum.inr q.1, q.2)) (.inr l) with
      | none =>
        rw [e] at h2
        simp only at h2
        rw [h2]
        simp only
        rw [h1]
        exact ⟨none, rfl, rfl⟩
      | some w =>
        rw [e] at h2
        obtain ⟨en, u, v, e1, e2, e3, e4⟩ := h2
        rw [e1]
        exact ⟨some en.val, rfl, u, v, by rw [e2], e3, e4⟩
    | _ => cases h
/-! ### a program as data -/
/-- a class: its name, its __init__, its methods, its instances' fields -/
structure CI where
  name : Str
  init : Option Nat
  mt : List (Str × Nat)
  fs : List Str
/-- an exception's class's own __init__: where it stands, the field it stores, whose __init__ it calls -/
structure XN where
  g : Nat
  fld : Str
  b : Str
  bo : Bool
/-- an exception's class -/
structure XI where
  name : Str
  ty : String
  own : Bool
  sub : List Nat
  kd : XKd
  ini : Option XN
def xcV (K : Frag) (x : XI) : Value := if x.own = true then .ref (ga K x.name) else .type x.ty
def xnL : List XI → Nat → List (Str × Nat × Bool)
  | [], _ => []
  | x :: r, i => (x.name, i, x.own) :: xnL r (i + 1)
structure PD where
  fns : List DefD
  fds : List FD
  cls : List CI
  tbs : List (Str × List (List Nat × W))
  gl : List (Str × W)
  bf : List Str
  pn : List (Nat × List Str)
  sh : Nat → List (Nat × List Nat × List (List Nat))
  ci : List (Nat × Nat)
  mp : List (Str × List (List Str))
  xcs : List XI
def eS (x : Str) : Nat := enc x.cps.toList
def PD.fa (d : PD) (K : Frag) (f : Nat) : Addr := match d.fns[f]? with
  | some x => fAd K x.at_
  | none => 0
def PD.R (d : PD) (K : Frag) : RC := ⟨K, d.fa K, fun c => ga K ((d.cls.map CI.name).getD c ""), fun t => ga K ((d.tbs.map (·.1)).getD t ""), fun c => match d.xcs[c]? with
  | some x => xcV K x
  | none => .none, fun _ => none⟩
def PD.G (d : PD) : Gm where
  fn := fun f => d.fds[f]?
  cd := fun c => d.cls[c]?.map fun x => ⟨x.init, x.mt.map fun q => (eS q.1, q.2)⟩
  kd := fun t => ((d.tbs.map (·.2)).getD t []).map fun q => (Sum.inr q.1, q.2)
  at_ := fun c f => match d.cls[c]? with
    | some x => x.fs.any fun s => eS s == f
    | none => false
  sh := d.sh
  xv := fun c => (d.xcs[c]?).isSome
  xs := fun c k => match d.xcs[c]? with
    | some x => x.sub.contains k
    | none => false
  xi := fun c => match d.xcs[c]? with
    | some x => if x.own = true then some (x.ini.map fun q => eS q.fld) else none
    | none => none
  xf := fun c f => match d.xcs[c]? with
    | some x => x.own && (match x.ini with
      | some q => eS q.fld == f
      | none => false)
    | none => false
def PD.pg (d : PD) : Pg := ⟨d.gl, d.bf, d.pn, fun f => (d.sh f).map fun q => (q.1, q.2.1, q.2.2.map S'), d.ci, d.mp, xnL d.xcs 0⟩
def kinds : List String := ["NoneType", "bool", "int", "str", "tuple", "list", "dict"]
/-- the head's look at a class -/
def clsB (K : Frag) (fad : Nat → Addr) (x : CI) : Bool :=
  (Fa.cls x.name).ok K && (eqO (findIn K (.ref (ga K x.name)) "__class__") (some (some (.builtin "object.__class__"))) && (eqO (specialIn K (.builtin "object.__class__") "__get__") (some (some (.builtin "getset_descriptor.__get__"))) && (decide (takesIn K (.builtin "object.__class__") = some true) &&
  (decide (mroIn K (ga K x.name) (.type "object") = some true) && ((kinds.all fun n => decide (kitOne K (.type n) (.ref (ga K x.name)) = some false) && decide (kitOne K (.ref (ga K x.name)) (.type n) = some false)) &&
  ((match x.init with
    | some f => (Fa.mkr x.name).ok K && decide (ma K (ga K x.name) "__init__" = fad f)
    | none => true) && ((x.mt.all fun q => (Fa.meth x.name q.1).ok K && decide (ma K (ga K x.name) q.1 = fad q.2)) && x.fs.all fun s => (Fa.noat x.name s).ok K)))))))
def PD.ts (d : PD) : List Tab := d.tbs.map fun t => (fun K => ga K t.1, t.2.map fun q => S' q.1)
def smB (K : Frag) : Bool := match K.lookup sysModules with
  | some ⟨.type c, _, _, _⟩ => decide (c = "dict")
  | _ => false
/-- the head's look at the exceptions' classes -/
def xiB (K : Frag) (fad : Nat → Addr) (x : XI) : Bool := decide (subIn K (xcV K x) (.type "BaseException") = some true) && (if x.own = true then (Fa.glo x.name).ok K && (excCB K (ga K x.name) && (match x.ini with
    | none => x0B K (ga K x.name) x.kd
    | some n => x1B K (ga K x.name) (fad n.g) n.fld x.kd && baseB K n.b n.bo x.kd))
  else (Fa.free x.name).ok K && (decide (bootBuiltins x.name = some (.type x.ty)) && decide (x.name ≠ "__name__")))
def xpB (K : Frag) (l : List XI) : Bool := (List.range l.length).all fun i => (List.range l.length).all fun j => match l[i]?, l[j]? with
  | some x, some y => decide (kitOne K (xcV K x) (xcV K y) = some (x.sub.contains j)) && decide (exmOne K (xcV K x) (xcV K y) = some (x.sub.contains j))
  | _, _ => false
def xkB (K : Frag) (cls : List CI) (x : XI) : Bool := (kinds.all fun n => decide (kitOne K (.type n) (xcV K x) = some false) && decide (kitOne K (xcV K x) (.type n) = some false)) &&
  cls.all fun c => decide (kitOne K (xcV K x) (.ref (ga K c.name)) = some false) && decide (kitOne K (.ref (ga K c.name)) (xcV K x) = some false)
def PD.xB (d : PD) (K : Frag) : Bool := (d.xcs.all fun x => xiB K (d.fa K) x) && (xpB K d.xcs && d.xcs.all fun x => xkB K d.cls x)
def PD.ex (d : PD) (K : Frag) : Bool := d.xB K && (smB K && ((d.gl.all fun q => match nsIn K mainGlobals q.1 with
    | some (some u) => wB K (d.R K) q.2 u
    | _ => false) && ((d.bf.all fun x => eqO (nsIn K mainGlobals x) (some none)) && (d.tbs.all fun t => tabB K (d.R K) (ga K t.1) t.2) && ((d.cls.all fun x => clsB K (d.fa K) x) && (List.range d.cls.length).all fun i => (List.range d.cls.length).all fun j => (decide (kitOne K (.ref ((d.R K).cad i)) (.ref ((d.R K).cad j)) = some (decide (i = j))) && (spB K ((d.R K).cad i) && notFirst K ((d.R K).cad i) (.ref ((d.R K).cad j))))))))
/-- what is known of the data alone -/
def PD.okS (d : PD) : Bool := (d.xcs.all fun x => match x.ini with
  | some n => decide (nm (eS n.fld) = n.fld)
  | none => true) && ((d.cls.all fun x => (x.mt.all fun q => decide (nm (eS q.1) = q.1) && decide (q.2 < d.fds.length)) && x.fs.all fun s => decide (nm (eS s) = s)) && d.ci.all fun q => match d.cls[q.1]? with
  | some x => decide (x.init = some q.2)
  | none => false)
/-- the head's look -/
abbrev AlM : Type := AlT × Bool
def frM (g : Addr → Option Obj) (n : Nat) : Frag := frG g (asD g n ++ [sysModules, cStatics])
def PD.obs (d : PD) (n : Nat) (g : Addr → Option Obj) : AlM := (obsT [] d.fns d.ts (frM g n), d.ex (frM g n))
structure PD.Says (d : PD) (w : World) (K : Frag) : Prop where
  t : SaysT [] d.fns d.ts w K
  ex : d.ex K = true
def PD.hook (d : PD) (n : Nat) : Hook where
  α := AlM
  obs := fun s => d.obs n s.heap.get?
  val := fun w => (valT d.fns d.ts w, true)
  says := fun w h => ∃ K : Frag, K.In h ∧ d.Says w K
  of := fun _ _ e => ⟨_, frG_in, congrArg (fun z : AlM => z.1) e, congrArg (fun z : AlM => z.2) e⟩
  keeps := fun _ _ _ ⟨K, hK, c⟩ k => ⟨K, Frag.In.keeps hK k, c⟩
theorem PD.obs_eq {d : PD} {n : Nat} {g : Addr → Option Obj} {s : Shared} (h : ∀ a, g a = s.heap.get? a) : d.obs n g = (d.hook n).obs s := by
  have e : g = s.heap.get? := funext h
  rw [e] <;> rfl
/-- what is looked at of a function's text -/
structure PD.Fn (d : PD) (f : Nat) (fd : FD) : Prop where
  ex : ∃ (x : DefD) (N ps : List Str) (fuel : Nat) (ys : List Sm), d.fns[f]? = some x ∧ x.kwd = [] ∧ FnScope N ps x.scope ∧ ((mapO (trS fuel (d.pg.st N x.scope)) x.body = some ys ∧ fd.body = smL ys) ∨ fd.body = .raise 0 .nil) ∧ ps.length = fd.np ∧ N.length = fd.ns ∧ (∀ K H, RVs (d.R K) H fd.dfl (x.dvs K)) ∧
    ∀ (K : Frag) (dV kV doc pm : Value) (an : Option Addr) (cdv ct : Value) (its : List Value), ((x.dvs K = [] ∧ dV = .none ∧ its = []) ∨ ∃ (A : Addr) (o : Obj) (n : Nat), x.dvs K ≠ [] ∧ dV = .ref A ∧ K.lookup A = some o ∧ o.data = .seq its.toArray n ∧ its.length = (x.dvs K).length) →
      ∀ q, q ∈ d.sh f → Sh K (fnOf x.name x.qual x.params x.body x.scope dV kV doc pm an cdv ct) ps fd.np its q.1 q.2.1 (q.2.2.map S')
/-- what is looked at of the text of an exception's own __init__ -/
structure PD.XFn (d : PD) (n : XN) : Prop where
  ex : ∃ (x : DefD) (N : List Str) (sf pr m : Str) (j : Nat) (p1 p2 p3 p4 p5 p6 p7 p8 p9 p10 : Pos), d.fns[n.g]? = some x ∧ x.kwd = [] ∧ (∀ K, x.dvs K = []) ∧
    x.body = [.Expr (.Call (.Attribute (.Name n.b p1) "__init__" p2) [.Name sf p3, .Constant (.str m) j p4] [] p5) p6, .Assign [.Attribute (.Name sf p7) n.fld p8] (.Name pr p9) p10] ∧ FnScope N [sf, pr] x.scope ∧
    (∀ (kV doc pm : Value) (an : Option Addr) (cdv ct : Value) (s : Shared) (us : List Value), us.length = 2 → BindsTo s (fnOf x.name x.qual x.params x.body x.scope .none kV doc pm an cdv ct) ⟨us, []⟩ ([sf, pr].zip us)) ∧
    x.scope.names.lookup n.b = some .globalImplicit ∧ (n.b == ("__debug__" : Str)) = false ∧ (p2.endLine == p5.line) = true ∧ (sf == ("__debug__" : Str)) = false ∧ (sf == ("__classdict__" : Str)) = false ∧ (pr == ("__debug__" : Str)) = false ∧ (pr == ("__classdict__" : Str)) = false
section
variable {d : PD} {w : World} {K : Frag} {h : Heap} {mg : Str → Option Value}
theorem PD.xcl_eq {c : Nat} {x : XI} (e : d.xcs[c]? = some x) : (d.R K).xcl c = xcV K x := by
  show (match d.xcs[c]? with
    | some x => xcV K x
    | none => .none) = _
  rw [e]
theorem PD.xv_at {c : Nat} (h : d.G.xv c = true) : ∃ x, d.xcs[c]? = some x := Option.isSome_iff_exists.mp h
theorem PD.xs_eq {c k : Nat} {x : XI} (e : d.xcs[c]? = some x) : d.G.xs c k = x.sub.contains k := by
  show (match d.xcs[c]? with
    | some x => x.sub.contains k
    | none => false) = _
  rw [e]
theorem PD.xi_at {c : Nat} {o : Option Nat} (h : d.G.xi c = some o) : ∃ x, d.xcs[c]? = some x ∧ x.own = true ∧ o = x.ini.map fun q => eS q.fld := by
  have h' : (match d.xcs[c]? with
    | some x => if x.own = true then some (x.ini.map fun q => eS q.fld) else none
    | none => none) = some o := h
  cases e : d.xcs[c]? with
  | none => rw [e] at h'; cases h'
  | some x =>
    rw [e] at h'
    by_cases q : x.own = true
    · have h2 : (if x.own = true then some (x.ini.map fun q => eS q.fld) else none) = some o := h'
      rw [if_pos q] at h2
      exact ⟨x, rfl, q, (Option.some.inj h2).symm⟩
    · have h2 : (if x.own = true then some (x.ini.map fun q => eS q.fld) else none) = some o := h'
      rw [if_neg q] at h2
      cases h2
theorem xnL_at : ∀ {l : List XI} {i : Nat} {x : Str} {q : Nat × Bool}, (x, q) ∈ xnL l i → ∃ j y, q.1 = i + j ∧ l[j]? = some y ∧ y.name = x ∧ q.2 = y.own
  | [], _, _, _, h => by cases h
  | y :: r, i, x, q, h => by
    rcases List.mem_cons.mp h with e | h
    · cases e
      exact ⟨0, y, rfl, rfl, rfl, rfl⟩
    · obtain ⟨j, z, e1, e2, e3, e4⟩ := xnL_at h
      exact ⟨j + 1, z, by omega, by simpa using e2, e3, e4⟩
/-- an own one -/
theorem PD.x_own (cx : d.xB K = true) {c : Nat} {x : XI} (e : d.xcs[c]? = some x) (o : x.own = true) : (d.R K).xcl c = .ref (ga K x.name) ∧ (Fa.glo x.name).ok K = true ∧ excCB K (ga K x.name) = true ∧ (match x.ini with
    | none => x0B K (ga K x.name) x.kd
    | some n => x1B K (ga K x.name) (d.fa K n.g) n.fld x.kd && baseB K n.b n.bo x.kd) = true := by
  obtain ⟨c1, _⟩ := ba cx
  have q := List.all_eq_true.mp c1 x (List.mem_of_getElem? e)
  obtain ⟨_, q2⟩ := ba q
  rw [if_pos o] at q2
  obtain ⟨q3, q4⟩ := ba q2
  obtain ⟨q5, q6⟩ := ba q4
  refine ⟨(PD.xcl_eq e).trans ?_, q3, q5, q6⟩
  unfold xcV
  rw [if_pos o]
theorem PD.xcs_ok (hok : d.okS = true) (c : d.Says w K) : EX (d.R K) d.G := by
  obtain ⟨cx, _⟩ := ba c.ex
  obtain ⟨c1, c23⟩ := ba cx
  obtain ⟨c2, c3⟩ := ba c23
  obtain ⟨ox, _⟩ := ba hok
  have lt_of : ∀ {k x}, d.xcs[k]? = some x → k < d.xcs.length := fun {k x} e => (List.getElem?_eq_some_iff.mp e).1
  refine ⟨fun k h => ?_, fun k l h h2 => ?_, fun k n h hn => ?_, fun k l h h2 => ?_, fun k h => ?_, fun k h => ?_, fun k f h => ?_⟩
  · obtain ⟨x, e⟩ := PD.xv_at h
    rw [PD.xcl_eq e]
    unfold xcV
    by_cases o : x.own = true
    · rw [if_pos o]; exact .inl ⟨_, rfl⟩
    · rw [if_neg o]; exact .inr ⟨_, rfl⟩
  · obtain ⟨x, e⟩ := PD.xv_at h
    obtain ⟨y, e2⟩ := PD.xv_at h2
    have q := List.all_eq_true.mp (List.all_eq_true.mp c2 k (List.mem_range.mpr (lt_of e))) l (List.mem_range.mpr (lt_of e2))
    rw [e, e2] at q
    obtain ⟨q1, q2⟩ := ba q
    rw [PD.xcl_eq e, PD.xcl_eq e2, PD.xs_eq e]
    exact ⟨of_decide_eq_true q1, of_decide_eq_true q2⟩
  · obtain ⟨x, e⟩ := PD.xv_at h
    obtain ⟨q1, _⟩ := ba (List.all_eq_true.mp c3 x (List.mem_of_getElem? e))
    obtain ⟨q2, q3⟩ := ba (List.all_eq_true.mp q1 n hn)
    rw [PD.xcl_eq e]
    exact ⟨of_decide_eq_true q2, of_decide_eq_true q3⟩
  · obtain ⟨x, e⟩ := PD.xv_at h
    obtain ⟨cd, e1⟩ := Option.isSome_iff_exists.mp h2
    obtain ⟨y, e2, _⟩ := Option.map_eq_some_iff.mp (show d.cls[l]?.map _ = some cd from e1)
    obtain ⟨_, q1⟩ := ba (List.all_eq_true.mp c3 x (List.mem_of_getElem? e))
    obtain ⟨q2, q3⟩ := ba (List.all_eq_true.mp q1 y (List.mem_of_getElem? e2))
    have ec : (d.R K).cad l = ga K y.name := by
      show ga K ((d.cls.map CI.name).getD l "") = _
      rw [List.getD_eq_getElem?_getD, List.getElem?_map, e2]
      rfl
    rw [PD.xcl_eq e, ec]
    exact ⟨of_decide_eq_true q2, of_decide_eq_true q3⟩
  · obtain ⟨x, e⟩ := PD.xv_at h
    obtain ⟨q1, _⟩ := ba (List.all_eq_true.mp c1 x (List.mem_of_getElem? e))
    rw [PD.xcl_eq e]
    exact of_decide_eq_true q1
  · obtain ⟨o, ho⟩ := Option.isSome_iff_exists.mp h
    obtain ⟨x, e, ow, _⟩ := PD.xi_at ho
    obtain ⟨q1, _, q3, _⟩ := PD.x_own cx e ow
    exact ⟨_, q1, (excCB_ok q3).1⟩
  · have h' : (match d.xcs[k]? with
      | some x => x.own && (match x.ini with
        | some q => eS q.fld == f
        | none => false)
      | none => false) = true := h
    cases e : d.xcs[k]? with
    | none => rw [e] at h'; cases h'
    | some x =>
      rw [e] at h'
      obtain ⟨ow, h2⟩ := ba h'
      obtain ⟨q1, _, q3, q4⟩ := PD.x_own cx e ow
      cases ei : x.ini with
      | none => simp only [ei] at h2; cases h2
      | some n =>
        simp only [ei] at h2 q4
        have en : eS n.fld = f := eq_of_beq h2
        have on := List.all_eq_true.mp ox x (List.mem_of_getElem? e)
        simp only [ei] at on
        have en2 : nm f = n.fld := by rw [← en]; exact of_decide_eq_true on
        obtain ⟨z1, _⟩ := ba q4
        obtain ⟨_, _, z3, _⟩ := x1B_ok z1
        exact ⟨_, q1, (excCB_ok q3).2, by rw [en2]; exact z3⟩
theorem lk_mem {α : Type} {β : Type} [BEq α] [LawfulBEq α] {x : α} {v : β} : ∀ {l : List (α × β)}, l.lookup x = some v → (x, v) ∈ l
  | [], z => by cases z
  | q :: l, z => by
    rw [List.lookup_cons] at z
    cases e : x == q.1 with
    | true =>
      rw [e] at z
      have ev : q.2 = v := Option.some.inj z
      rw [beq_iff_eq.mp e, ← ev]
      exact List.mem_cons_self
    | false =>
      rw [e] at z
      exact List.mem_cons_of_mem _ (lk_mem z)
theorem PD.e0 (hok : d.okS = true) (c : d.Says w K) : MP.E0 (d.R K) d.G w := by
  obtain ⟨cx, cex⟩ := ba c.ex
  obtain ⟨c1, c2⟩ := ba cex
  obtain ⟨c3, c4⟩ := ba c2
  obtain ⟨c56, c7⟩ := ba c4
  obtain ⟨c5, c6⟩ := ba c56
  obtain ⟨c8, c9⟩ := ba c7
  obtain ⟨ox, hok2⟩ := ba hok
  obtain ⟨o1, o2⟩ := ba hok2
  have cls_at : ∀ k cd, d.G.cd k = some cd → ∃ x, d.cls[k]? = some x ∧ cd = ⟨x.init, x.mt.map fun q => (eS q.1, q.2)⟩ := fun k cd e => by
    obtain ⟨x, e1, e2⟩ := Option.map_eq_some_iff.mp (show d.cls[k]?.map _ = some cd from e)
    exact ⟨x, e1, e2.symm⟩
  have cad_eq : ∀ {k x}, d.cls[k]? = some x → (d.R K).cad k = ga K x.name := fun {k x} e => by
    show ga K ((d.cls.map CI.name).getD k "") = _
    rw [List.getD_eq_getElem?_getD, List.getElem?_map, e]
    rfl
  have look : ∀ {k x}, d.cls[k]? = some x → clsB K (d.fa K) x = true := fun {k x} e => List.all_eq_true.mp c8 _ (List.mem_of_getElem? e)
  have lt_of : ∀ {k x}, d.cls[k]? = some x → k < d.cls.length := fun {k x} e => (List.getElem?_eq_some_iff.mp e).1
  have isx : ∀ {k}, (d.G.cd k).isSome = true → ∃ x, d.cls[k]? = some x := fun {k} e => by
    obtain ⟨cd, e1⟩ := Option.isSome_iff_exists.mp e
    obtain ⟨x, e2, _⟩ := cls_at k cd e1
    exact ⟨x, e2⟩
  refine ⟨PD.xcs_ok hok c, ?_, fun k z => ?_, fun k n z hn => ?_, fun k l z z2 => ?_, fun k l z z2 => ?_, fun k f z => ?_, fun k cd m f hc hm => ?_, fun k cd f hc hi => ?_, fun t l ht => ?_⟩
  · unfold smB at c1
    cases q : K.lookup sysModules with
    | none => rw [q] at c1; cases c1
    | some o =>
      obtain ⟨oc, od, dt, osl⟩ := o
      rw [q] at c1
      cases oc with
      | type s => exact ⟨_, q, congrArg Value.type (of_decide_eq_true c1)⟩
      | _ => cases c1
  · obtain ⟨x, e⟩ := isx z
    obtain ⟨l1, l2⟩ := ba (look e)
    obtain ⟨l3, l4⟩ := ba l2
    obtain ⟨l5, l6⟩ := ba l4
    obtain ⟨l7, l8⟩ := ba l6
    obtain ⟨l9, l10⟩ := ba l8
    rw [cad_eq e]
    exact ⟨cls_ok l1, eqO_ok l3, eqO_ok l5, of_decide_eq_true l7, of_decide_eq_true l9⟩
  · obtain ⟨x, e⟩ := isx z
    obtain ⟨l1, l2⟩ := ba (look e)
    obtain ⟨l3, l4⟩ := ba l2
    obtain ⟨l5, l6⟩ := ba l4
    obtain ⟨l7, l8⟩ := ba l6
    obtain ⟨l9, l10⟩ := ba l8
    obtain ⟨l11, l12⟩ := ba l10
    obtain ⟨k1, k2⟩ := ba (List.all_eq_true.mp l11 n hn)
    rw [cad_eq e]
    exact ⟨of_decide_eq_true k1, of_decide_eq_true k2⟩
  · obtain ⟨x, e⟩ := isx z
    obtain ⟨y, e2⟩ := isx z2
    have q := List.all_eq_true.mp (List.all_eq_true.mp c9 k (List.mem_range.mpr (lt_of e))) l (List.mem_range.mpr (lt_of e2))
    exact of_decide_eq_true (ba q).1
  · obtain ⟨x, e⟩ := isx z
    obtain ⟨y, e2⟩ := isx z2
    have q := List.all_eq_true.mp (List.all_eq_true.mp c9 k (List.mem_range.mpr (lt_of e))) l (List.mem_range.mpr (lt_of e2))
    exact ba (ba q).2
  · have z' : (match d.cls[k]? with
      | some x => x.fs.any fun s => eS s == f
      | none => false) = true := z
    cases e : d.cls[k]? with
    | none => rw [e] at z'; cases z'
    | some x =>
      rw [e] at z'
      obtain ⟨s, ms, es⟩ := List.any_eq_true.mp z'
      obtain ⟨l1, l2⟩ := ba (look e)
      obtain ⟨l3, l4⟩ := ba l2
      obtain ⟨l5, l6⟩ := ba l4
      obtain ⟨l7, l8⟩ := ba l6
      obtain ⟨l9, l10⟩ := ba l8
      obtain ⟨l11, l12⟩ := ba l10
      obtain ⟨l13, l14⟩ := ba l12
      obtain ⟨l15, l16⟩ := ba l14
      obtain ⟨p1, p2⟩ := ba (List.all_eq_true.mp o1 x (List.mem_of_getElem? e))
      have en : nm f = s := by
        rw [← eq_of_beq es]
        exact of_decide_eq_true (List.all_eq_true.mp p2 s ms)
      rw [cad_eq e, en]
      exact ⟨cls_ok l1, noat_ok (List.all_eq_true.mp l16 s ms)⟩
  · obtain ⟨x, e, rfl⟩ := cls_at k cd hc
    obtain ⟨l1, l2⟩ := ba (look e)
    obtain ⟨l3, l4⟩ := ba l2
    obtain ⟨l5, l6⟩ := ba l4
    obtain ⟨l7, l8⟩ := ba l6
    obtain ⟨l9, l10⟩ := ba l8
    obtain ⟨l11, l12⟩ := ba l10
    obtain ⟨l13, l14⟩ := ba l12
    obtain ⟨l15, l16⟩ := ba l14
    have mem := lk_mem hm
    obtain ⟨q, mq, eq⟩ := List.mem_map.mp mem
    cases eq
    obtain ⟨p1, p2⟩ := ba (List.all_eq_true.mp o1 x (List.mem_of_getElem? e))
    obtain ⟨p3, _⟩ := ba (List.all_eq_true.mp p1 q mq)
    obtain ⟨r1, r2⟩ := ba (List.all_eq_true.mp l15 q mq)
    have er := of_decide_eq_true r2
    have en : nm (eS q.1) = q.1 := of_decide_eq_true p3
    have mo := He.meth_ok r1
    rw [er] at mo
    rw [cad_eq e, en]
    exact mo
  · obtain ⟨x, e, rfl⟩ := cls_at k cd hc
    obtain ⟨l1, l2⟩ := ba (look e)
    obtain ⟨l3, l4⟩ := ba l2
    obtain ⟨l5, l6⟩ := ba l4
    obtain ⟨l7, l8⟩ := ba l6
    obtain ⟨l9, l10⟩ := ba l8
    obtain ⟨l11, l12⟩ := ba l10
    obtain ⟨l13, l14⟩ := ba l12
    have hi' : x.init = some f := hi
    rw [hi'] at l13
    obtain ⟨r1, r2⟩ := ba (show ((Fa.mkr x.name).ok K && decide (ma K (ga K x.name) "__init__" = d.fa K f)) = true from l13)
    have er := of_decide_eq_true r2
    have mo := He.mkr_ok r1
    rw [er] at mo
    rw [cad_eq e]
    exact mo
  · by_cases hlt : t < d.tbs.length
    · have e1 : d.tbs[t]? = some d.tbs[t] := by simp [hlt]
      have mem : d.tbs[t] ∈ d.tbs := List.getElem_mem hlt
      have tb := List.all_eq_true.mp c6 _ mem
      obtain ⟨r, r1, r2⟩ := tabB_ok (R := d.R K) rfl tb l
      have ets : d.ts[t]? = some (fun K => ga K d.tbs[t].1, d.tbs[t].2.map fun q => S' q.1) := by
        unfold PD.ts
        rw [List.getElem?_map, e1]
        rfl
      obtain ⟨es, n, D⟩ := c.t.tab t ets
      have ek : (d.R K).kad t = ga K d.tbs[t].1 := by
        show ga K ((d.tbs.map (·.1)).getD t "") = _
        rw [List.getD_eq_getElem?_getD, List.getElem?_map, e1]
        rfl
      have eg : d.G.kd t = d.tbs[t].2.map fun q => (Sum.inr q.1, q.2) := by
        show ((d.tbs.map (·.2)).getD t []).map _ = _
        rw [List.getD_eq_getElem?_getD, List.getElem?_map, e1]
        rfl
      refine ⟨es, n, r, by rw [ek]; exact D, by rw [ek]; exact r1, ?_⟩
      rw [eg]
      exact r2
    · exact absurd (by
        show ((d.tbs.map (·.2)).getD t []).map _ = []
        rw [List.getD_eq_getElem?_getD, List.getElem?_eq_none (by simp; omega)]
        rfl) ht
theorem PD.fns_ok (c : d.Says w K) (F : ∀ f fd, d.fds[f]? = some fd → d.Fn f fd) (f : Nat) (fd : FD) (hf : d.G.fn f = some fd) : FnS (d.R K) d.pg f fd := by
  obtain ⟨x, N, ps, fuel, ys, hx, hk, h1, h2, h4, h5, h6, h7⟩ := (F f fd hf).ex
  obtain ⟨fdat, FD⟩ := c.t.d.def_ f hx
  have e1 : x.kws K = [] := by unfold DefD.kws; rw [hk]; rfl
  rw [e1] at FD
  have e2 : (d.R K).fad f = fAd K x.at_ := by
    show d.fa K f = _
    unfold PD.fa
    rw [hx]
  rw [← e2] at FD
  exact ⟨x.name, x.qual, x.params, x.body, x.scope, x.dvs K, fdat, N, ps, fuel, ys, FD, h1, h2, h4, h5, h6 K, fun dV kV doc pm an cdv ct its hc q hq => by
    obtain ⟨q', mq, rfl⟩ := List.mem_map.mp (show q ∈ (d.sh f).map (fun q => (q.1, q.2.1, q.2.2.map S')) from hq)
    exact h7 K dV kV doc pm an cdv ct its hc q' mq⟩
/-- all functions, so many calls deep -/
theorem PD.run (hok : d.okS = true) (c : d.Says w K) (X : K.In h) (Gm : h.Ns mainGlobals mg) (F : ∀ f fd, d.fds[f]? = some fd → d.Fn f fd) (hpn : ∀ f ps, d.pn.lookup f = some ps → ∃ fd, d.G.fn f = some fd) (XF : ∀ (c : Nat) (x : XI) (n : XN), d.xcs[c]? = some x → x.own = true → x.ini = some n → d.XFn n) {P : Program} {base : Heap} (n : Nat) (f : Nat) (fd : FD) (hf : d.G.fn f = some fd) :
    CFn (d.R K) P w K mg base (4 * n) (cal d.G n) f fd (d.pg.sh f) := by
  obtain ⟨cx, cex⟩ := ba c.ex
  obtain ⟨c1, c2⟩ := ba cex
  obtain ⟨c3, c4⟩ := ba c2
  obtain ⟨c56, c7⟩ := ba c4
  obtain ⟨c5, c6⟩ := ba c56
  obtain ⟨ox, hok2⟩ := ba hok
  obtain ⟨o1, o2⟩ := ba hok2
  refine fn_run (p := d.pg) rfl (PD.e0 hok c) (fun x v hv => ?_) (fun x hx => ?_) hpn (fun k f hkf => ?_) (fun f q hq => List.mem_map.mpr ⟨q, hq, rfl⟩) (fun k cd m f hc hm => ?_) (fun x q hq => ?_) (fun k f hk => ?_) (fun k hk => ?_) (PD.fns_ok c F) n f fd hf
  rotate_left 4
  · obtain ⟨j, y, e1, e2, e3, e4⟩ := xnL_at (lk_mem hq)
    rw [Nat.zero_add] at e1
    rw [e1, e4]
    refine ⟨by show (d.xcs[j]?).isSome = true; rw [e2]; rfl, ?_, fun o => ?_⟩
    · by_cases o : y.own = true
      · obtain ⟨q1, q2, _⟩ := PD.x_own cx e2 o
        rw [q1, ← e3]
        exact .inl (glo_ok X Gm q2)
      · obtain ⟨_, q2⟩ := ba (List.all_eq_true.mp (ba cx).1 y (List.mem_of_getElem? e2))
        rw [if_neg o] at q2
        obtain ⟨q3, q4⟩ := ba q2
        obtain ⟨q5, q6⟩ := ba q4
        rw [PD.xcl_eq e2, ← e3]
        unfold xcV
        rw [if_neg o]
        exact .inr ⟨free_ok X Gm q3, of_decide_eq_true q5, of_decide_eq_true q6⟩
    · obtain ⟨q1, q2, _⟩ := PD.x_own cx e2 o
      refine ⟨by rw [q1, ← e3]; exact glo_ok X Gm q2, ?_⟩
      show (match d.xcs[j]? with
        | some x => if x.own = true then some (x.ini.map fun q => eS q.fld) else none
        | none => none) ≠ none
      rw [e2]
      show (if y.own = true then some (y.ini.map fun q => eS q.fld) else none) ≠ none
      rw [if_pos o]
      intro z
      cases z
  · obtain ⟨x, e, o, ef⟩ := PD.xi_at hk
    obtain ⟨q1, q2, q3, q4⟩ := PD.x_own cx e o
    cases ei : x.ini with
    | none => rw [ei] at ef; cases ef
    | some n =>
      rw [ei] at ef
      simp only [ei] at q4
      obtain ⟨z1, z2⟩ := ba q4
      obtain ⟨y1, y2, y3, y4, y5⟩ := x1B_ok z1
      obtain ⟨xd, N, sf, pr, m, j, p1, p2, p3, p4, p5, p6, p7, p8, p9, p10, f1, f2, f3, f4, f5, f6, f7, f8, f9, f10, f11, f12, f13⟩ := (XF k x n e o ei).ex
      obtain ⟨fdat, FD⟩ := c.t.d.def_ n.g f1
      have e1 : xd.kws K = [] := by unfold DefD.kws; rw [f2]; rfl
      rw [e1, f3 K] at FD
      have e2 : d.fa K n.g = fAd K xd.at_ := by
        unfold PD.fa
        rw [f1]
      rw [← e2] at FD
      obtain ⟨oc, od, dV, kV, doc, pm, an, cdv, ct, osl, hfd, lk, hcd, hD, hK⟩ := id FD.ex
      have hdV : dV = .none := by
        rcases hD with ⟨_, z⟩ | ⟨z, _⟩
        · exact z
        · exact absurd rfl z
      subst hdV
      have on := List.all_eq_true.mp ox x (List.mem_of_getElem? e)
      simp only [ei] at on
      have en : nm f = n.fld := by
        rw [show f = eS n.fld from Option.some.inj ef]
        exact of_decide_eq_true on
      rw [en]
      refine ⟨ga K x.name, d.fa K n.g, q1, ⟨xd.name, xd.qual, xd.params, xd.scope, fdat, N, sf, pr, n.b, m, j, p1, p2, p3, p4, p5, p6, p7, p8, p9, p10, x.kd.ini, x.kd.B2, by rw [← f4]; exact FD, f5, fun s us _ hl => ?_, x.kd.xini, y2, fun X0 eK em => baseB_ok z2 X Gm X0 eK em, f7, f8, x.kd.handed, f9, f10, f11, f12, f13, y3, y1, y4, y5⟩⟩
      have z := f6 kV doc pm an cdv ct s us hl
      rw [hfd]
      exact z
  · obtain ⟨x, e, o, ef⟩ := PD.xi_at hk
    obtain ⟨q1, q2, q3, q4⟩ := PD.x_own cx e o
    cases ei : x.ini with
    | some n => rw [ei] at ef; cases ef
    | none =>
      simp only [ei] at q4
      exact ⟨_, q1, x0B_ok q4⟩
  · have mem : (x, v) ∈ d.gl := by
      have : ∀ l : List (Str × W), l.lookup x = some v → (x, v) ∈ l := by
        intro l
        induction l with
        | nil => intro z; cases z
        | cons q l ih =>
          intro z
          rw [List.lookup_cons] at z
          cases e : x == q.1 with
          | true =>
            rw [e] at z
            have ev : q.2 = v := Option.some.inj z
            rw [beq_iff_eq.mp e, ← ev]
            exact List.mem_cons_self
          | false =>
            rw [e] at z
            exact List.mem_cons_of_mem _ (ih z)
      exact this _ hv
    have q := List.all_eq_true.mp c3 _ mem
    cases e : nsIn K mainGlobals x with
    | none => simp only [e] at q; cases q
    | some r => cases r with
      | none => simp only [e] at q; cases q
      | some u =>
        simp only [e] at q
        obtain ⟨vv, a1, a2⟩ := wB_ok (R := d.R K) rfl v u q
        exact ⟨u, vv, mg_of X Gm e, a1, a2⟩
  · exact mg_none_of X Gm (eqO_ok (List.all_eq_true.mp c5 x hx))
  · have q := List.all_eq_true.mp o2 _ (lk_mem hkf)
    have q' : (match d.cls[k]? with
      | some x => decide (x.init = some f)
      | none => false) = true := q
    cases e : d.cls[k]? with
    | none => rw [e] at q'; cases q'
    | some x =>
      rw [e] at q'
      exact ⟨_, by show d.cls[k]?.map _ = _; rw [e]; rfl, of_decide_eq_true q'⟩
  · obtain ⟨x, e1, e2⟩ := Option.map_eq_some_iff.mp (show d.cls[k]?.map _ = some cd from hc)
    subst e2
    obtain ⟨q, mq, eq⟩ := List.mem_map.mp (lk_mem hm)
    cases eq
    obtain ⟨p1, p2⟩ := ba (List.all_eq_true.mp o1 x (List.mem_of_getElem? e1))
    obtain ⟨_, p4⟩ := ba (List.all_eq_true.mp p1 q mq)
    have hlt := of_decide_eq_true p4
    exact ⟨d.fds[q.2], by show d.fds[q.2]? = _; simp [hlt]⟩
theorem PD.mg_fn (c : d.Says w K) (X : K.In h) (Gm : h.Ns mainGlobals mg) {x : Str} {f : Nat} (hx : (x, W.fn f) ∈ d.gl) : mg x = some (.ref (d.fa K f)) := by
  obtain ⟨cx, cex⟩ := ba c.ex
  obtain ⟨c1, c2⟩ := ba cex
  obtain ⟨c3, c4⟩ := ba c2
  have q := List.all_eq_true.mp c3 _ hx
  cases e : nsIn K mainGlobals x with
  | none => simp only [e] at q; cases q
  | some r => cases r with
    | none => simp only [e] at q; cases q
    | some u =>
      simp only [e] at q
      cases u <;> first
        | (unfold wB at q; cases q; done)
        | (unfold wB at q; rename_i a; have ea := of_decide_eq_true q; rw [ea] at e; exact mg_of X Gm e)
theorem PD.pn_ok (hp : d.pn.all (fun q => decide (q.1 < d.fds.length)) = true) (f : Nat) (ps : List Str) (hl : d.pn.lookup f = some ps) : ∃ fd, d.G.fn f = some fd := by
  have q := of_decide_eq_true (List.all_eq_true.mp hp _ (lk_mem hl))
  exact ⟨d.fds[f], by show d.fds[f]? = _; simp [show f < d.fds.length from q]⟩
end
def unSm : Sm → List Sm
  | .cons s r => s :: unSm r
  | _ => []
end MP
/-! PR2: rules to walk a meaning by its head normal form. -/
namespace MP
namespace Ru
open PySem
/-! a choice -/
theorem dr {p : Prop} {d : Decidable p} {A : ¬ p → Prop} {B : p → Prop} (h : ∀ h, B h) (h' : ∀ h, A h) : Decidable.rec (motive := fun _ => Prop) A B d := by
  cases d with
  | isTrue x => exact h x
  | isFalse x => exact h' x
theorem dr_d {p : Prop} [Decidable p] {A : ¬ decide p = true → Prop} {B : decide p = true → Prop} (h : ∀ x : p, B (decide_eq_true x)) (h' : ∀ x : ¬ p, A (by rw [decide_eq_false x]; decide)) : Decidable.rec (motive := fun _ => Prop) A B (instDecidableEqBool (decide p) true) :=
  dr (fun x => h (of_decide_eq_true x)) (fun x => h' (fun y => x (decide_eq_true y)))
theorem dr_n {p : Prop} [Decidable p] {A : ¬ (!decide p) = true → Prop} {B : (!decide p) = true → Prop} (h : ∀ x : ¬ p, B (by rw [decide_eq_false x]; decide)) (h' : ∀ x : p, A (by rw [decide_eq_true x]; decide)) : Decidable.rec (motive := fun _ => Prop) A B (instDecidableEqBool (!decide p) true) :=
  dr (fun x => h (fun y => by rw [decide_eq_true y] at x; cases x)) (fun x => h' (by
    by_cases y : p
    · exact y
    · rw [decide_eq_false y] at x
      exact absurd rfl x))
/-- by what is known -/
theorem dr_t {b : Bool} {A : ¬ b = true → Prop} {B : b = true → Prop} (e : b = true) (h : B e) : Decidable.rec (motive := fun _ => Prop) A B (instDecidableEqBool b true) := dr (fun x => h) (fun x => absurd e x)
theorem dr_f {b : Bool} {A : ¬ b = true → Prop} {B : b = true → Prop} (e : b = false) (h : A (by rw [e]; decide)) : Decidable.rec (motive := fun _ => Prop) A B (instDecidableEqBool b true) := dr (fun x => by rw [e] at x; cases x) (fun x => h)
theorem dr_b {b : Bool} {A : ¬ b = true → Prop} {B : b = true → Prop} (h : ∀ e : b = true, B e) (h' : ∀ e : b = false, A (by rw [e]; decide)) : Decidable.rec (motive := fun _ => Prop) A B (instDecidableEqBool b true) := dr (fun x => h x) (fun x => h' (by cases b <;> simp_all))
theorem dx {Q : KE} {w : W} {S : Sto} (h : Q w S) : ∃ S1, Ext S1 S ∧ Q w S1 := ⟨S, fun _ _ h => h, h⟩
theorem ups_ups {S : Sto} {a : Nat} {o o' : OB} : ups (ups S a o) a o' = ups S a o' := by
  funext b
  unfold ups
  by_cases h : b = a
  · rw [if_pos h, if_pos h]
  · rw [if_neg h, if_neg h, if_neg h]
theorem ne_fresh {S : Sto} {a p : Nat} {o : OB} (h : S a = some o) (hp : S p = none) : a ≠ p := fun e => by rw [e, hp] at h; cases h
/-! numbers -/
theorem lg {i : Int} (h : -(2 ^ 1000) < i) (h' : i < 2 ^ 1000) : i.natAbs.log2 < 1001 := by
  by_cases e : i.natAbs = 0
  · rw [e]; decide
  · rw [Nat.log2_lt e]
    have : i.natAbs < 2 ^ 1000 := by omega
    exact Nat.lt_trans this (by decide +kernel)
theorem lg2 {i j : Int} (h1 : -(2 ^ 1000) < i) (h2 : i < 2 ^ 1000) (h3 : -(2 ^ 1000) < j) (h4 : j < 2 ^ 1000) : i.natAbs.log2 + j.natAbs.log2 < 1000000 := Nat.lt_trans (Nat.add_lt_add (lg h1 h2) (lg h3 h4)) (by decide)
theorem lg9 {i : Int} (h : -(2 ^ 1000) < i) (h' : i < 2 ^ 1000) : i.natAbs.log2 < 9000 := Nat.lt_trans (lg h h') (by decide)
theorem lg19 {i : Int} (h : -(2 ^ 1000) < i) (h' : i < 2 ^ 1000) : i.natAbs.log2 < 1920 := Nat.lt_trans (lg h h') (by decide)
/-! data -/
theorem mapO_map {α β γ : Type} {f : β → Option γ} {g : α → β} {h : α → γ} (e : ∀ x, f (g x) = some (h x)) : ∀ l : List α, mapO f (l.map g) = some (l.map h)
  | [] => rfl
  | x :: l => by
    simp only [List.map_cons, mapO, e x, mapO_map e l]
theorem dat_rl {n : Nat} {S : Sto} {ws : List W} {ds : List PyData} (h : mapO (dat n S) ws = some ds) : dat (n + 1) S (.rl ws) = some (.list ds) := by
  unfold dat
  simp only [h, Option.map_some]
theorem dat_ints {S : Sto} (ns : List Int) : dat DEEP S (.rl (ns.map W.int)) = some (.list (ns.map .int)) := dat_rl (n := 69) (mapO_map (f := dat 69 S) (g := W.int) (h := PyData.int) (fun _ => rfl) ns)
def fD : PyData → Bool
  | .none => true
  | .bool _ => true
  | .int _ => true
  | .str x => PyData.strOk x
  | .list [] => true
  | .tuple [] => true
  | _ => false
theorem fD_lay {d : PyData} (h : fD d = true) : d.canLay0 = true ∧ d.depth ≤ 1 := by
  cases d with
  | none => exact ⟨rfl, by decide⟩
  | bool b => exact ⟨rfl, by cases b <;> decide⟩
  | int i => exact ⟨by simp [PyData.canLay0], by simp [PyData.depth]⟩
  | str x => exact ⟨by simpa [PyData.canLay0, fD] using h, by simp [PyData.depth]⟩
  | list xs =>
    cases xs with
    | nil => exact ⟨by decide, by decide⟩
    | cons a b => cases h
  | tuple xs =>
    cases xs with
    | nil => exact ⟨by decide, by decide⟩
    | cons a b => cases h
  | dict xs => cases h
theorem fD_all {ds : List PyData} (h : ∀ d ∈ ds, fD d = true) : PyData.canLayAll0 ds = true ∧ PyData.depthAll ds ≤ 1 := by
  induction ds with
  | nil => exact ⟨by simp [PyData.canLayAll0], by simp [PyData.depthAll]⟩
  | cons d ds ih =>
    obtain ⟨a, b⟩ := ih fun x m => h x (List.mem_cons_of_mem _ m)
    obtain ⟨a', b'⟩ := fD_lay (h d List.mem_cons_self)
    exact ⟨by simp [PyData.canLayAll0, a, a'], by simp only [PyData.depthAll]; omega⟩
theorem sh_list {ds : List PyData} (h : ∀ d ∈ ds, fD d = true) : SeqAt.shaped (.list ds) = true := by
  obtain ⟨a, b⟩ := fD_all h
  unfold SeqAt.shaped
  simp only [PyData.canLay0, PyData.depth, a, Bool.true_and, decide_eq_true_eq]
  have h64 : PyData.depthAll ds + 1 ≤ 64 := by omega
  exact decide_eq_true h64
theorem sh_tup {ds : List PyData} (h : ∀ d ∈ ds, fD d = true) : SeqAt.shaped (.tuple ds) = true := by
  obtain ⟨a, b⟩ := fD_all h
  unfold SeqAt.shaped
  simp only [PyData.canLay0, PyData.depth, a, Bool.true_and, decide_eq_true_eq]
  have h64 : PyData.depthAll ds + 1 ≤ 64 := by omega
  exact decide_eq_true h64
theorem lay_ints : ∀ ns : List Int, PyData.canLayAll0 (ns.map .int) = true ∧ PyData.depthAll (ns.map .int) ≤ 1
  | [] => ⟨by simp [PyData.canLayAll0], by simp [PyData.depthAll]⟩
  | n :: ns => by
    obtain ⟨a, b⟩ := lay_ints ns
    exact ⟨by simp [PyData.canLayAll0, PyData.canLay0, a], by simp only [List.map_cons, PyData.depthAll, PyData.depth]; omega⟩
theorem sh_ints (ns : List Int) : SeqAt.shaped (.list (ns.map PyData.int)) = true := by
  obtain ⟨a, b⟩ := lay_ints ns
  unfold SeqAt.shaped
  simp only [PyData.canLay0, PyData.depth, a, Bool.true_and, decide_eq_true_eq]
  have h64 : PyData.depthAll (ns.map .int) + 1 ≤ 64 := by omega
  exact decide_eq_true h64
theorem ints_nil {ns : List Int} : (PyData.list (ns.map PyData.int)).eqv (.list []) = decide (ns = []) := by
  cases ns with
  | nil => simp [PyData.eqv, PyData.eqvAll]
  | cons a b => simp [PyData.eqv, PyData.eqvAll]
theorem at_in {α : Type} {l : List α} {i : Int} (h0 : 0 ≤ i) (h1 : i < (l.length : Int)) : ∃ w, w ∈ l ∧ L2.atI l i = some w := by
  obtain ⟨k, rfl⟩ : ∃ k : Nat, i = (k : Int) := ⟨i.toNat, by omega⟩
  have hlt : k < l.length := by omega
  exact ⟨l[k], List.getElem_mem hlt, L2.atI_nat (by simp [hlt])⟩
/-- an item that is there -/
theorem atI_go {α : Type} {l : List α} {i : Int} {P : α → Prop} {N : Prop} (h0 : 0 ≤ i) (h1 : i < (l.length : Int)) (h : ∀ w, w ∈ l → P w) : match L2.atI l i with
  | some w => P w
  | none => N := by
  obtain ⟨w, m, e⟩ := at_in h0 h1
  rw [e]
  exact h w m
/-! what stands in the store -/
theorem len_l {S : Sto} {l : Nat} {ws : List W} (h : S l = some (.lst ws)) : lenW S (.ref l) = some ws.length := by unfold lenW; simp only [h]
theorem rowL_l {S : Sto} {l : Nat} {ws : List W} (h : S l = some (.lst ws)) : rowL S (.ref l) = some ws := by unfold rowL; simp only [h]
theorem rowW_l {S : Sto} {l : Nat} {ws : List W} (h : S l = some (.lst ws)) : rowW S (.ref l) = some ws := by unfold rowW; simp only [h]
theorem tru_l {S : Sto} {l : Nat} {ws : List W} (h : S l = some (.lst ws)) : truW S (.ref l) = some (!ws.isEmpty) := by unfold truW; simp only [h]
theorem ty_l {S : Sto} {l : Nat} {ws : List W} (h : S l = some (.lst ws)) : tyW S (.ref l) = some .list := by unfold tyW; simp only [h]
theorem len_d {S : Sto} {l : Nat} {ws : List (KW × W)} (h : S l = some (.dct ws)) : lenW S (.ref l) = some ws.length := by unfold lenW; simp only [h]
theorem ty_d {S : Sto} {l : Nat} {ws : List (KW × W)} (h : S l = some (.dct ws)) : tyW S (.ref l) = some .dict := by unfold tyW; simp only [h]
theorem dct_d {S : Sto} {l : Nat} {ws : List (KW × W)} (h : S l = some (.dct ws)) : dctW S (.ref l) = some ws := by unfold dctW; simp only [h]
/-! statements -/
def takeS : Nat → Sm → Sm
  | 0, _ => .nil
  | n + 1, .cons s r => .cons s (takeS n r)
  | _ + 1, s => s
def dropS : Nat → Sm → Sm
  | 0, s => s
  | n + 1, .cons _ r => dropS n r
  | _ + 1, _ => .nil
section
variable {G : Gm} {c : Cal} {X : KXS} {rt : KE} {bk ct : Sl → Sto → Prop}
theorem tk_eq : ∀ (k : Nat) (s : Sm) (nx : Sl → Sto → Prop), rdS G c (takeS k s) X ⟨fun σ S => rdS G c (dropS k s) X ⟨nx, rt, bk, ct⟩ σ S, rt, bk, ct⟩ = rdS G c s X ⟨nx, rt, bk, ct⟩
  | 0, s, nx => rfl
  | k + 1, .cons s r, nx => by
    have ih := tk_eq k r nx
    show (fun σ S => rdS G c s X ⟨fun σ S => rdS G c (takeS k r) X ⟨fun σ S => rdS G c (dropS k r) X ⟨nx, rt, bk, ct⟩ σ S, rt, bk, ct⟩ σ S, rt, bk, ct⟩ σ S) = _
    rw [ih]
    rfl
  | k + 1, .nil, nx => rfl
  | k + 1, .expr e, nx => rfl
  | k + 1, .set t e, nx => rfl
  | k + 1, .setf f o e, nx => rfl
  | k + 1, .seti o i e, nx => rfl
  | k + 1, .aug i op e, nx => rfl
  | k + 1, .augi op o i e, nx => rfl
  | k + 1, .ife d a b, nx => rfl
  | k + 1, .for_ t it b, nx => rfl
  | k + 1, .whl d b, nx => rfl
  | k + 1, .ret e, nx => rfl
  | k + 1, .retv i, nx => rfl
  | k + 1, .pass, nx => rfl
  | k + 1, .cont, nx => rfl
  | k + 1, .brk, nx => rfl
  | k + 1, .blk b, nx => rfl
  | k + 1, .raise a b, nx => rfl
  | k + 1, .try_ a b, nx => rfl
  | k + 1, .hdl _ _ _, nx => rfl
  | k + 1, .hdr _ _ _ _, nx => rfl
/-- what holds behind the first statements -/
theorem s_at (k : Nat) {s : Sm} {nx : Sl → Sto → Prop} {σ : Sl} {S : Sto} (I : Sl → Sto → Prop) (h : ∀ nx2 : Sl → Sto → Prop, (∀ σ S1, I σ S1 → nx2 σ S1) → rdS G c (takeS k s) X ⟨nx2, rt, bk, ct⟩ σ S) (h' : ∀ σ S1, I σ S1 → rdS G c (dropS k s) X ⟨nx, rt, bk, ct⟩ σ S1) : rdS G c s X ⟨nx, rt, bk, ct⟩ σ S := by
  rw [← tk_eq k s nx]
  exact h _ fun σ S1 q => h' σ S1 q
/-- a def's call -/
theorem u_cal {n f : Nat} {vs : List W} {S : Sto} {Q : KE} {E : KX} {fd : FD} (h0 : G.fn f = some fd) (h : rdS G (cal G n) fd.body (fun x _ S1 => ∃ S2, Ext S2 S1 ∧ E x S2) ⟨fun _ S1 => drp Q .non S1, drp Q, fun _ _ => False, fun _ _ => False⟩ (MP.start fd.ns vs) S) : cal G (n + 1) f vs S Q E := by
  show (match G.fn f with
    | some fd => rdS G (cal G n) fd.body (fun x _ S1 => ∃ S2, Ext S2 S1 ∧ E x S2) ⟨fun _ S1 => drp Q .non S1, drp Q, fun _ _ => False, fun _ _ => False⟩ (MP.start fd.ns vs) S
    | none => False)
  rw [h0]
  exact h
end
/-! loops -/
/-- a walk over items: an invariant by what is still to come -/
theorem w_for {gd : Sto → Prop} {t : Tg} {body : (Sl → Sto → Prop) → Sl → Sto → Prop} {nx : Sl → Sto → Prop} (I : List W → Sl → Sto → Prop) (hg : ∀ r σ S, I r σ S → gd S) (hn : ∀ σ S, I [] σ S → nx σ S)
    (hs : ∀ w r σ S, I (w :: r) σ S → asg t w σ fun σ1 => ∀ nx2 : Sl → Sto → Prop, (∀ σ2 S2, I r σ2 S2 → nx2 σ2 S2) → body nx2 σ1 S) : ∀ (r : List W) (σ : Sl) (S : Sto), I r σ S → wFor gd t body nx r σ S
  | [], σ, S, h => ⟨hg _ _ _ h, hn _ _ h⟩
  | w :: r, σ, S, h => by
    refine ⟨hg _ _ _ h, ?_⟩
    have q := hs w r σ S h
    have ih := w_for I hg hn hs r
    cases t with
    | one i => exact q _ fun σ2 S2 z => ih σ2 S2 z
    | many is =>
      cases w with
      | tup ws => exact ⟨q.1, q.2 _ fun σ2 S2 z => ih σ2 S2 z⟩
      | _ => cases q
/-- a comprehension: an invariant by what is still to come and what has been gathered -/
theorem w_lc {gd : Sto → Prop} {t : Tg} {σ0 : Sl} {cond : TT'} {elt : TE'} {Q : KE} (I : List W → List W → Sto → Prop) (hg : ∀ r acc S, I r acc S → gd S ∧ acc.length + r.length ≤ LIM) (hn : ∀ acc S, I [] acc S → newL acc S Q)
    (hs : ∀ w r acc S, I (w :: r) acc S → ∀ k : List W → Sto → Prop, (∀ acc2 S2, I r acc2 S2 → k acc2 S2) → asg t w σ0 fun σ1 => cond σ1 S fun b S1 => if b = true then elt σ1 S1 fun y S2 => k (acc ++ [y]) S2 else k acc S1) : ∀ (r acc : List W) (S : Sto), I r acc S → wLc gd t σ0 cond elt Q r acc S
  | [], acc, S, h => ⟨(hg _ _ _ h).1, (hg _ _ _ h).2, hn _ _ h⟩
  | w :: r, acc, S, h => by
    have g := hg _ _ _ h
    exact ⟨g.1, by have := g.2; simp only [List.length_cons] at this; omega, hs w r acc S h (fun acc S => wLc gd t σ0 cond elt Q r acc S) fun acc2 S2 z => w_lc I hg hn hs r acc2 S2 z⟩
/-- a comprehension that changes nothing: what each item gives, if it gives anything -/
theorem w_pure {gd : Sto → Prop} {t : Tg} {σ0 : Sl} {cond : TT'} {elt : TE'} {Q : KE} {S : Sto} (f : W → Option W) (hg : gd S) (r0 : List W)
    (hs : ∀ w, w ∈ r0 → ∀ (acc : List W) (k : List W → Sto → Prop), (k (acc ++ (f w).toList) S) → asg t w σ0 fun σ1 => cond σ1 S fun b S1 => if b = true then elt σ1 S1 fun y S2 => k (acc ++ [y]) S2 else k acc S1) (hl : r0.length ≤ LIM) (h : Q (.rl (r0.filterMap f)) S) : wLc gd t σ0 cond elt Q r0 [] S := by
  refine w_lc (fun r acc S1 => S1 = S ∧ (∀ w, w ∈ r → w ∈ r0) ∧ acc.length + r.length ≤ r0.length ∧ acc ++ r.filterMap f = r0.filterMap f) (fun r acc S1 ⟨e, _, hz, _⟩ => ⟨by rw [e]; exact hg, by omega⟩) (fun acc S1 ⟨e, _, _, q⟩ => ?_) (fun w r acc S1 ⟨e, hm, hz, q⟩ k hk => ?_) r0 [] S ⟨rfl, fun _ m => m, by simp, rfl⟩
  · rw [List.filterMap_nil, List.append_nil] at q
    subst e q
    exact .inl h
  · subst e
    refine hs w (hm w List.mem_cons_self) acc k (hk _ _ ⟨rfl, fun x m => hm x (List.mem_cons_of_mem _ m), ?_, ?_⟩)
    · cases f w <;> simp at hz ⊢ <;> omega
    · rw [List.filterMap_cons] at q
      cases e : f w with
      | none => rw [e] at q; simpa using q
      | some y => rw [e] at q; simpa using q
theorem strsW_map : ∀ ls : List (List Nat), strsW (ls.map W.str) = some ls
  | [] => rfl
  | l :: ls => by
    show (strsW (ls.map W.str)).map _ = _
    rw [strsW_map ls]
    rfl
theorem intsW_map : ∀ ls : List Int, intsW (ls.map W.int) = some ls
  | [] => rfl
  | l :: ls => by
    show (intsW (ls.map W.int)).map _ = _
    rw [intsW_map ls]
    rfl
theorem joinL_flat (ls : List (List Nat)) : TL.joinL [] ls = ls.flatten := by
  induction ls with
  | nil => rfl
  | cons a r ih => cases r <;> simp_all [TL.joinL]
theorem boolsW_rep : ∀ n : Nat, boolsW (List.replicate n (W.bl true)) = some (List.replicate n true)
  | 0 => rfl
  | n + 1 => by
    show (boolsW (List.replicate n (W.bl true))).map _ = _
    rw [boolsW_rep n]
    rfl
theorem fm_rep {α β : Type} {b : β} : ∀ l : List α, l.filterMap (fun _ => some b) = List.replicate l.length b
  | [] => rfl
  | a :: l => by simp [List.filterMap_cons, fm_rep l, List.replicate_succ]
end Ru
end MP
/-! PR3: plain values: data without references, told as texts, compared. -/
namespace MP
namespace Ru
open PySem
mutual
def toD : W → PyData
  | .non => .none
  | .bl b => .bool b
  | .int i => .int i
  | .str l => .str (S' l)
  | .tup ws => .tuple (toDs ws)
  | .rl ws => .list (toDs ws)
  | _ => .none
def toDs : List W → List PyData
  | [] => []
  | w :: ws => toD w :: toDs ws
end
mutual
/-- how long a value's text may be -/
def wz : W → Nat
  | .str l => 10 * l.length + 2
  | .int _ => 1921
  | .tup ws => wzs ws + 4
  | .rl ws => wzs ws + 4
  | _ => 5
def wzs : List W → Nat
  | [] => 0
  | w :: ws => wz w + 2 + wzs ws
end
/-- so deep at the most -/
inductive Pl : Nat → W → Prop where
  | non {n : Nat} : Pl n .non
  | bl {n : Nat} {b : Bool} : Pl n (.bl b)
  | int {n : Nat} {i : Int} (h : i.natAbs.log2 < 1920) : Pl n (.int i)
  | str {n : Nat} {l : List Nat} (h : ∀ c, c ∈ l → c < 0x110000) : Pl n (.str l)
  | tup {n : Nat} {ws : List W} (h : ∀ w, w ∈ ws → Pl n w) : Pl (n + 1) (.tup ws)
  | rl {n : Nat} {ws : List W} (h : ∀ w, w ∈ ws → Pl n w) : Pl (n + 1) (.rl ws)
theorem Pl.mono {n : Nat} {w : W} (h : Pl n w) : ∀ {m : Nat}, n ≤ m → Pl m w := by
  induction h with
  | non => exact fun _ => .non
  | bl => exact fun _ => .bl
  | int h => exact fun _ => .int h
  | str h => exact fun _ => .str h
  | tup h ih => intro m hm; cases m with
    | zero => omega
    | succ m => exact .tup fun w q => ih w q (by omega)
  | rl h ih => intro m hm; cases m with
    | zero => omega
    | succ m => exact .rl fun w q => ih w q (by omega)
theorem pl_nil {n : Nat} : ∀ w, w ∈ ([] : List W) → Pl n w := fun _ m => by cases m
theorem pl_cons {n : Nat} {w : W} {ws : List W} (h : Pl n w) (t : ∀ x, x ∈ ws → Pl n x) : ∀ x, x ∈ w :: ws → Pl n x := fun x m => by
  rcases List.mem_cons.mp m with rfl | m
  · exact h
  · exact t x m
theorem dats {S : Sto} {n : Nat} : ∀ {ws : List W}, (∀ w, w ∈ ws → dat n S w = some (toD w)) → mapO (dat n S) ws = some (toDs ws)
  | [], _ => rfl
  | w :: ws, h => by
    unfold mapO
    rw [h w List.mem_cons_self, dats fun x m => h x (List.mem_cons_of_mem _ m)]
    rfl
theorem pl_dat {S : Sto} {n : Nat} {w : W} (h : Pl n w) : ∀ {m : Nat}, n < m → dat m S w = some (toD w) := by
  induction h with
  | non => intro m hm; cases m with
    | zero => omega
    | succ m => rfl
  | bl => intro m hm; cases m with
    | zero => omega
    | succ m => rfl
  | int h => intro m hm; cases m with
    | zero => omega
    | succ m => rfl
  | str h => intro m hm; cases m with
    | zero => omega
    | succ m => rfl
  | tup h ih => intro m hm; cases m with
    | zero => omega
    | succ m =>
      unfold dat
      simp only [dats fun w q => ih w q (m := m) (by omega), Option.map_some]
      rfl
  | rl h ih => intro m hm; cases m with
    | zero => omega
    | succ m =>
      unfold dat
      simp only [dats fun w q => ih w q (m := m) (by omega), Option.map_some]
      rfl
theorem strOk_S {l : List Nat} (h : ∀ c, c ∈ l → c < 0x110000) : PyData.strOk (S' l) = true := by
  unfold PyData.strOk
  simp only [S', List.all_toArray]
  rw [List.all_eq_true]
  exact fun c m => decide_eq_true (h c m)
theorem lay_all {ws : List W} (h : ∀ w, w ∈ ws → (toD w).canLay0 = true) : PyData.canLayAll0 (toDs ws) = true := by
  induction ws with
  | nil => simp [toDs, PyData.canLayAll0]
  | cons a r ih => simp [toDs, PyData.canLayAll0, h a List.mem_cons_self, ih fun x m => h x (List.mem_cons_of_mem _ m)]
theorem pl_lay {n : Nat} {w : W} (h : Pl n w) : (toD w).canLay0 = true := by
  induction h with
  | non => simp [toD, PyData.canLay0]
  | bl => simp [toD, PyData.canLay0]
  | int h => simp [toD, PyData.canLay0]
  | str h => simpa [toD, PyData.canLay0] using strOk_S h
  | tup h ih => simpa [toD, PyData.canLay0] using lay_all ih
  | rl h ih => simpa [toD, PyData.canLay0] using lay_all ih
theorem dep_all {n : Nat} {ws : List W} (h : ∀ w, w ∈ ws → (toD w).depth ≤ n) : PyData.depthAll (toDs ws) ≤ n := by
  induction ws with
  | nil => simp [toDs, PyData.depthAll]
  | cons a r ih =>
    have h1 := h a List.mem_cons_self
    have h2 := ih fun x m => h x (List.mem_cons_of_mem _ m)
    simp only [toDs, PyData.depthAll]
    omega
theorem pl_dep {n : Nat} {w : W} (h : Pl n w) : (toD w).depth ≤ n := by
  induction h with
  | non => simp [toD, PyData.depth]
  | bl => simp [toD, PyData.depth]
  | int h => simp [toD, PyData.depth]
  | str h => simp [toD, PyData.depth]
  | tup h ih => have := dep_all ih; simp only [toD, PyData.depth]; omega
  | rl h ih => have := dep_all ih; simp only [toD, PyData.depth]; omega
theorem pl_sh {n : Nat} {w : W} (h : Pl n w) (hn : n ≤ 64) : SeqAt.shaped (toD w) = true := by
  have d := pl_dep h
  unfold SeqAt.shaped
  rw [pl_lay h, Bool.true_and]
  exact decide_eq_true (by omega)
theorem show_all {ws : List W} (h : ∀ w, w ∈ ws → (toD w).showable = true) : PyData.showableAll (toDs ws) = true := by
  induction ws with
  | nil => simp [toDs, PyData.showableAll]
  | cons a r ih => simp [toDs, PyData.showableAll, h a List.mem_cons_self, ih fun x m => h x (List.mem_cons_of_mem _ m)]
theorem pl_show {n : Nat} {w : W} (h : Pl n w) : (toD w).showable = true := by
  induction h with
  | non => simp [toD, PyData.showable]
  | bl => simp [toD, PyData.showable]
  | int h => simpa [toD, PyData.showable] using h
  | str h => simp [toD, PyData.showable]
  | tup h ih => simpa [toD, PyData.showable] using show_all ih
  | rl h ih => simpa [toD, PyData.showable] using show_all ih
theorem wz_all {ws : List W} (h : ∀ w, w ∈ ws → (toD w).shown.length ≤ wz w) : piled (PyData.shownAll (toDs ws)) ≤ wzs ws := by
  induction ws with
  | nil => simp [toDs, PyData.shownAll, piled, wzs]
  | cons a r ih =>
    have h1 := h a List.mem_cons_self
    have h2 := ih fun x m => h x (List.mem_cons_of_mem _ m)
    simp only [toDs, PyData.shownAll, piled_cons, wzs]
    omega
theorem listText_le (ts : List Str) : (listText ts).length ≤ piled ts + 4 := by
  have key : ∀ (ts : List Str) (k : Nat) (acc : Str), (textFrom k acc ts).length ≤ acc.length + piled ts := by
    intro ts
    induction ts with
    | nil => intro k acc; simp [textFrom, piled]
    | cons t r ih =>
      intro k acc
      have q := ih (k + 1) (acc ++ (if k > 0 then ", " else "" : String) ++ t)
      rw [piled_cons]
      have e : (acc ++ ((if k > 0 then ", " else "" : String) : Str) ++ t).length ≤ acc.length + 2 + t.length := by
        rw [strLen_append, strLen_append]
        split
        · have : ((", " : String) : Str).length = 2 := by rfl
          omega
        · have : (("" : String) : Str).length = 0 := by rfl
          omega
      show (textFrom (k + 1) _ r).length ≤ _
      omega
  have q := key ts 0 "["
  unfold listText
  rw [strLen_append]
  have e1 : (("[" : String) : Str).length = 1 := by rfl
  have e2 : (("]" : String) : Str).length = 1 := by rfl
  have q' : (textFrom 0 ("[" : Str) ts).length ≤ 1 + piled ts := by rw [← e1]; exact q
  omega
theorem tupleText_le (ts : List Str) : (tupleText ts).length ≤ piled ts + 4 := by
  unfold tupleText
  rw [strLen_append, strLen_append]
  have e1 : (("(" : String) : Str).length = 1 := by rfl
  have e2 : (((if ts.length == 1 then ",)" else ")" : String)) : Str).length ≤ 2 := by
    split
    · exact Nat.le_of_eq rfl
    · exact Nat.le_succ_of_le (Nat.le_of_eq rfl)
  have e3 : (Str.join ", " ts).length ≤ piled ts := by
    by_cases h : ts = []
    · subst h; exact Nat.le_of_eq rfl
    · have := join_length_add ts h; omega
  have e1' : (("(" : Str)).length = 1 := e1
  omega
theorem pl_wz {n : Nat} {w : W} (h : Pl n w) : (toD w).shown.length ≤ wz w := by
  induction h with
  | non => exact (by decide : (4 : Nat) ≤ 5)
  | @bl _ b => cases b <;> exact (by decide +kernel)
  | int h => exact PyProof.Rows.int_text_len_1921 h
  | @str _ l h =>
    have := StrLaws.reprText_len (S' l) fun c m => Nat.lt_trans (h c (by simpa [S'] using m)) (by decide)
    have e : (S' l).length = l.length := S_len l
    rw [e] at this
    exact this
  | @tup _ ws h ih =>
    have := wz_all ih
    have q := tupleText_le (PyData.shownAll (toDs ws))
    simp only [toD, PyData.shown, wz]
    exact Nat.le_trans q (by omega)
  | @rl _ ws h ih =>
    have := wz_all ih
    have q := listText_le (PyData.shownAll (toDs ws))
    simp only [toD, PyData.shown, wz]
    exact Nat.le_trans q (by omega)
/-- a text of a plain value -/
theorem rep {n : Nat} {w : W} {D : PyData} {S : Sto} {P : PyData → Prop} (h : Pl n w) (hn : n ≤ 60) (hz : wz w ≤ LIM) (hD : toD w = D) (q : P D) : ∃ d, dat DEEP S w = some d ∧ d.showable = true ∧ d.depth ≤ 64 ∧ d.shown.length ≤ LIM ∧ P d := by
  subst hD
  exact ⟨_, pl_dat h (show n < 70 by omega), pl_show h, Nat.le_trans (pl_dep h) (by omega), Nat.le_trans (pl_wz h) hz, q⟩
/-- plain values, compared -/
theorem eqd {n : Nat} {w u : W} {S : Sto} {P : PyData → PyData → Prop} (h : Pl n w) (h' : Pl n u) (hn : n ≤ 60) (q : P (toD w) (toD u)) : ∃ d e, dat DEEP S w = some d ∧ dat DEEP S u = some e ∧ SeqAt.shaped d = true ∧ SeqAt.shaped e = true ∧ P d e :=
  ⟨_, _, pl_dat h (show n < 70 by omega), pl_dat h' (show n < 70 by omega), pl_sh h (by omega), pl_sh h' (by omega), q⟩
/-- the same value, compared -/
theorem eqt {n : Nat} {w : W} (h : Pl n w) : PyData.eqv (toD w) (toD w) = true := SeqAt.eqv_refl _ (pl_lay h)
theorem dat_l {n m : Nat} {ws : List W} {S : Sto} {a : Nat} (ha : S a = some (.lst ws)) (h : ∀ w, w ∈ ws → Pl n w) (hm : n + 1 < m) : dat m S (.ref a) = some (toD (.rl ws)) := by
  cases m with
  | zero => omega
  | succ m =>
    unfold dat
    simp only [ha, dats fun w q => pl_dat (h w q) (m := m) (by omega), Option.map_some]
    rfl
theorem at_gen {α : Type} {l : List α} {i : Int} {r : Option α} (h : L2.atI l i = r) (h0 : 0 ≤ i) (h1 : i < (l.length : Int)) : ∃ w, w ∈ l ∧ r = some w := by
  obtain ⟨w, m, e⟩ := at_in h0 h1
  exact ⟨w, m, h.symm.trans e⟩
theorem fm_nil {α : Type} {P : α → Prop} : ∀ w, w ∈ ([] : List α) → P w := fun _ m => by cases m
theorem fm_cons {α : Type} {P : α → Prop} {a : α} {l : List α} (h : P a) (t : ∀ w, w ∈ l → P w) : ∀ w, w ∈ a :: l → P w := fun w m => by
  rcases List.mem_cons.mp m with rfl | m
  · exact h
  · exact t w m
theorem xs_a {S : Sto} {a : Nat} {o : OB} (h : S a = none) : Ext S (ups S a o) := fun b u e => by
  rw [ups_ne (fun z => by rw [z, h] at e; cases e)]; exact e
theorem xs_2 {S : Sto} {a b : Nat} {o u : OB} (h : S a = none) (h' : S b = none) : Ext S (ups (ups S a o) b u) := fun c v e => by
  rw [ups_ne (ne_fresh e h'), ups_ne (ne_fresh e h)]; exact e
end Ru
end MP
namespace Prog
open PySem PySem.Spec PyProof.Rows L2 MP
def top (i : Nat) : Stmt := PySem.Challenge.pw_giftsdue_k02_promises_made.main.body.getD i (.Pass ⟨0, 0, 0, 0⟩)
def inClass (s : Stmt) (j : Nat) : Stmt := match s with
  | .ClassDef (body := b) .. => b.getD j (.Pass ⟨0, 0, 0, 0⟩)
  | _ => .Pass ⟨0, 0, 0, 0⟩
def fns : List He.DefD := ([⟨("_wall", none), "_wall", "_wall", defArgs (top 0), defBody (top 0), defScope (top 0), [], []⟩, ⟨("is_among", none), "is_among", "is_among", defArgs (top 14), defBody (top 14), defScope (top 14), [], []⟩, ⟨("is_name", none), "is_name", "is_name", defArgs (top 15), defBody (top 15), defScope (top 15), [], []⟩, ⟨("is_sum", none), "is_sum", "is_sum", defArgs (top 16), defBody (top 16), defScope (top 16), [], []⟩, ⟨("step_text", none), "step_text", "step_text", defArgs (top 17), defBody (top 17), defScope (top 17), [], []⟩, ⟨("Promise", some "__init__"), "__init__", "Promise.__init__", defArgs (inClass (top 18) 0), defBody (inClass (top 18) 0), defScope (inClass (top 18) 0), [.int 1000000], []⟩, ⟨("Promise", some "name_of"), "name_of", "Promise.name_of", defArgs (inClass (top 18) 1), defBody (inClass (top 18) 1), defScope (inClass (top 18) 1), [], []⟩, ⟨("Promise", some "most_of"), "most_of", "Promise.most_of", defArgs (inClass (top 18) 2), defBody (inClass (top 18) 2), defScope (inClass (top 18) 2), [], []⟩, ⟨("Promise", some "steps"), "steps", "Promise.steps", defArgs (inClass (top 18) 3), defBody (inClass (top 18) 3), defScope (inClass (top 18) 3), [], []⟩, ⟨("Promise", some "add"), "add", "Promise.add", defArgs (inClass (top 18) 4), defBody (inClass (top 18) 4), defScope (inClass (top 18) 4), [.str "", .int 1, .int 1, .int 0], []⟩, ⟨("Promise", some "take"), "take", "Promise.take", defArgs (inClass (top 18) 5), defBody (inClass (top 18) 5), defScope (inClass (top 18) 5), [], []⟩, ⟨("Promise", some "worth"), "worth", "Promise.worth", defArgs (inClass (top 18) 6), defBody (inClass (top 18) 6), defScope (inClass (top 18) 6), [], []⟩, ⟨("Promise", some "rank"), "rank", "Promise.rank", defArgs (inClass (top 18) 7), defBody (inClass (top 18) 7), defScope (inClass (top 18) 7), [], []⟩, ⟨("Promise", some "__eq__"), "__eq__", "Promise.__eq__", defArgs (inClass (top 18) 8), defBody (inClass (top 18) 8), defScope (inClass (top 18) 8), [], []⟩, ⟨("Promise", some "__len__"), "__len__", "Promise.__len__", defArgs (inClass (top 18) 9), defBody (inClass (top 18) 9), defScope (inClass (top 18) 9), [], []⟩, ⟨("Promise", some "__str__"), "__str__", "Promise.__str__", defArgs (inClass (top 18) 10), defBody (inClass (top 18) 10), defScope (inClass (top 18) 10), [], []⟩, ⟨("Promise", some "__repr__"), "__repr__", "Promise.__repr__", defArgs (inClass (top 18) 11), defBody (inClass (top 18) 11), defScope (inClass (top 18) 11), [], []⟩, ⟨("_law_cell", none), "_law_cell", "_law_cell", defArgs (top 20), defBody (top 20), defScope (top 20), [], []⟩, ⟨("_law_name", none), "_law_name", "_law_name", defArgs (top 21), defBody (top 21), defScope (top 21), [], []⟩, ⟨("_law_sum", none), "_law_sum", "_law_sum", defArgs (top 22), defBody (top 22), defScope (top 22), [], []⟩] : List (He.DefD)) ++ ([⟨("_law_spoilt_name", none), "_law_spoilt_name", "_law_spoilt_name", defArgs (top 23), defBody (top 23), defScope (top 23), [], []⟩, ⟨("_law_made", none), "_law_made", "_law_made", defArgs (top 24), defBody (top 24), defScope (top 24), [], []⟩, ⟨("law", none), "law", "law", defArgs (top 25), defBody (top 25), defScope (top 25), [], []⟩, ⟨("BadText", some "__init__"), "__init__", "BadText.__init__", defArgs (inClass (top 6) 0), defBody (inClass (top 6) 0), defScope (inClass (top 6) 0), [], []⟩, ⟨("Twice", some "__init__"), "__init__", "Twice.__init__", defArgs (inClass (top 8) 0), defBody (inClass (top 8) 0), defScope (inClass (top 8) 0), [], []⟩] : List (He.DefD))
def gl : List (Str × W) := ([("_wall", .fn 0), ("is_among", .fn 1), ("is_name", .fn 2), ("is_sum", .fn 3), ("step_text", .fn 4), ("_law_cell", .fn 17), ("_law_name", .fn 18), ("_law_sum", .fn 19), ("_law_spoilt_name", .fn 20), ("_law_made", .fn 21), ("law", .fn 22), ("Promise", .cl 0), ("LETTERS", .str [97, 98, 99, 100, 101, 102, 103, 104, 105, 106, 107, 108, 109, 110, 111, 112, 113, 114, 115, 116, 117, 118, 119, 120, 121, 122]), ("MOST_LETTERS", .int 8), ("MOST_SUM", .int 1000000)] : List (Str × W))
def bf : List Str := ["ValueError", "KeyError", "IndexError", "LookupError", "ZeroDivisionError", "isinstance", "int", "bool", "all", "str", "len", "list", "sorted", "repr", "range", "min"]
def tbs : List (Str × List (List Nat × W)) := []
def pn : List (Nat × List Str) := ([(0, ["k"]), (1, ["thing", "least", "most"]), (2, ["thing"]), (3, ["thing"]), (4, ["step"]), (5, ["self", "name", "most"]), (6, ["self"]), (7, ["self"]), (8, ["self"]), (9, ["self", "word", "name", "many", "of", "amount"]), (10, ["self", "number"]), (11, ["self", "sums"]), (12, ["self"]), (13, ["self", "other"]), (14, ["self"]), (15, ["self"]), (16, ["self"]), (17, ["_law_cells", "_law_spot"]), (18, ["_law_cells", "_law_spot"]), (19, ["_law_cells", "_law_spot"]), (20, ["_law_who", "_law_cells", "_law_spot"]), (21, ["_law_way", "_law_who", "_law_top"]), (22, ["_law_script"])] : List (Nat × List Str))
def shs : List (List (Nat × List Nat × List (List Nat))) := ([[(1, [], [])], [(3, [], [])], [(1, [], [])], [(1, [], [])], [(1, [], [])], [(3, [], []), (1, [2, 1], [[109, 111, 115, 116], [110, 97, 109, 101]]), (2, [2], [[109, 111, 115, 116]]), (2, [], []), (1, [1], [[110, 97, 109, 101]])], [(1, [], [])], [(1, [], [])], [(1, [], [])], [], [], [], [(1, [], [])], [(2, [], [])], [(1, [], [])], [(1, [], [])], [(1, [], [])], [(2, [], [])], [(2, [], [])], [(2, [], [])], [(3, [], [])], [(3, [], [])], [(1, [], [])]] : List (List (Nat × List Nat × List (List Nat))))
def cls : List CI := [⟨"Promise", some 5, [("name_of", 6), ("most_of", 7), ("steps", 8), ("add", 9), ("take", 10), ("worth", 11), ("rank", 12), ("__eq__", 13), ("__len__", 14), ("__str__", 15), ("__repr__", 16)], ["own_name", "own_most", "own_steps"]⟩]
def ci : List (Nat × Nat) := [(0, 5)]
def mp : List (Str × List (List Str)) := ([("name_of", [["self"]]), ("most_of", [["self"]]), ("steps", [["self"]]), ("add", [["self", "word", "name", "many", "of", "amount"]]), ("take", [["self", "number"]]), ("worth", [["self", "sums"]]), ("rank", [["self"]])] : List (Str × List (List Str)))
def xcs : List XI := ([⟨"ValueError", "ValueError", false, [0], .ve, none⟩, ⟨"KeyError", "KeyError", false, [1, 3], .ke, none⟩, ⟨"IndexError", "IndexError", false, [2, 3], .ie, none⟩, ⟨"LookupError", "LookupError", false, [3], .le, none⟩, ⟨"ZeroDivisionError", "ZeroDivisionError", false, [4], .zd, none⟩, ⟨"GiftError", "GiftError", true, [5, 0], .ve, none⟩, ⟨"BadName", "BadName", true, [6, 5, 0], .ve, none⟩, ⟨"BadSum", "BadSum", true, [7, 5, 0], .ve, none⟩, ⟨"BadStep", "BadStep", true, [8, 5, 0], .ve, none⟩, ⟨"BadText", "BadText", true, [9, 5, 0], .ve, some ⟨23, "line", "GiftError", true⟩⟩, ⟨"BadGoals", "BadGoals", true, [10, 5, 0], .ve, none⟩, ⟨"Twice", "Twice", true, [11, 5, 0], .ve, some ⟨24, "name", "GiftError", true⟩⟩, ⟨"TooMany", "TooMany", true, [12, 5, 0], .ve, none⟩] : List (XI))
def pg : Pg := ⟨gl, bf, pn, fun f => (shs.getD f []).map (fun q => (q.1, q.2.1, q.2.2.map S')), ci, mp, xnL xcs 0⟩
def n0 : List Str := ["k"]
def n1 : List Str := ["thing", "least", "most"]
def n2 : List Str := ["thing", "sign"]
def n3 : List Str := ["thing"]
def n4 : List Str := ["step", "part"]
def n5 : List Str := ["self", "name", "most"]
def n6 : List Str := ["self"]
def n7 : List Str := ["self"]
def n8 : List Str := ["self"]
def n9 : List Str := ["self", "word", "name", "many", "of", "amount"]
def n10 : List Str := ["self", "number"]
def n11 : List Str := ["self", "sums"]
def n12 : List Str := ["self"]
def n13 : List Str := ["self", "other"]
def n14 : List Str := ["self"]
def n15 : List Str := ["self", "step"]
def n16 : List Str := ["self", "parts"]
def n17 : List Str := ["_law_cells", "_law_spot", "_law_k", "_law_cell_here", "_law_times", "_law_mixed", "_law_own", "_law_turn"]
def n18 : List Str := ["_law_cells", "_law_spot", "_law_count", "_law_k"]
def n19 : List Str := ["_law_cells", "_law_spot", "_law_n"]
def n20 : List Str := ["_law_who", "_law_cells", "_law_spot", "_law_signs", "_law_at"]
def n21 : List Str := ["_law_way", "_law_who", "_law_top", "_law_caught", "_law_made_here", "error", "_law_others", "_law_both"]
def n22 : List Str := ["_law_script", "_law_elder", "_law_turn", "_law_cells", "_law_spot", "_law_way", "_law_odd", "_law_bad", "_law_who", "_law_top", "_law_worse", "_law_told"]
def b0 : Sm :=
  (MP.Sm.cons (MP.Sm.whl (MP.Ex.k (MP.W.bl true)) (MP.Sm.cons (MP.Sm.pass) (MP.Sm.nil))) (MP.Sm.nil))
def b1 : Sm :=
  (MP.Sm.cons (MP.Sm.ret (MP.Ex.and (MP.Ex.isi (MP.Ex.v 0) (MP.TR.int)) (MP.Ex.and (MP.Ex.not (MP.Ex.isi (MP.Ex.v 0) (MP.TR.bool))) (MP.Ex.chn (MP.Cm.le) (MP.Cm.le) (MP.Ex.v 1) (MP.Ex.v 0) (MP.Ex.v 2))))) (MP.Sm.nil))
def b2 : Sm :=
  (MP.Sm.cons (MP.Sm.ife (MP.Ex.or (MP.Ex.not (MP.Ex.isi (MP.Ex.v 0) (MP.TR.str))) (MP.Ex.not (MP.Ex.chn (MP.Cm.le) (MP.Cm.le) (MP.Ex.k (MP.W.int 1)) (MP.Ex.cB (MP.BI.len) (MP.Ex.cons (MP.Ex.v 0) (MP.Ex.nil))) (MP.Ex.k (MP.W.int 8))))) (MP.Sm.cons (MP.Sm.ret (MP.Ex.k (MP.W.bl false))) (MP.Sm.nil)) (MP.Sm.nil)) (MP.Sm.cons (MP.Sm.ret (MP.Ex.cB (MP.BI.all) (MP.Ex.cons (MP.Ex.lc [1] (MP.Tg.one 1) (MP.Ex.v 0) (MP.Ex.nop) (MP.Ex.cmp (MP.Cm.in_) (MP.Ex.v 1) (MP.Ex.k (MP.W.str [97, 98, 99, 100, 101, 102, 103, 104, 105, 106, 107, 108, 109, 110, 111, 112, 113, 114, 115, 116, 117, 118, 119, 120, 121, 122])))) (MP.Ex.nil)))) (MP.Sm.nil)))
def b3 : Sm :=
  (MP.Sm.cons (MP.Sm.ret (MP.Ex.cF 1 3 [] (MP.Ex.cons (MP.Ex.v 0) (MP.Ex.cons (MP.Ex.k (MP.W.int 0)) (MP.Ex.cons (MP.Ex.k (MP.W.int 1000000)) (MP.Ex.nil)))))) (MP.Sm.nil))
def b4 : Sm :=
  (MP.Sm.cons (MP.Sm.ret (MP.Ex.mB (MP.BM.join) (MP.Ex.k (MP.W.str [32])) (MP.Ex.cons (MP.Ex.lc [1] (MP.Tg.one 1) (MP.Ex.v 0) (MP.Ex.nop) (MP.Ex.cB (MP.BI.str) (MP.Ex.cons (MP.Ex.v 1) (MP.Ex.nil)))) (MP.Ex.nil)))) (MP.Sm.nil))
def b5 : Sm :=
  (MP.Sm.cons (MP.Sm.ife (MP.Ex.not (MP.Ex.cF 2 1 [] (MP.Ex.cons (MP.Ex.v 1) (MP.Ex.nil)))) (MP.Sm.cons (MP.Sm.raise 6 (MP.Ex.k (MP.W.str [97, 32, 110, 97, 109, 101, 32, 105, 115, 32, 119, 97, 110, 116, 101, 100]))) (MP.Sm.nil)) (MP.Sm.nil)) (MP.Sm.cons (MP.Sm.ife (MP.Ex.not (MP.Ex.cF 3 1 [] (MP.Ex.cons (MP.Ex.v 2) (MP.Ex.nil)))) (MP.Sm.cons (MP.Sm.raise 7 (MP.Ex.k (MP.W.str [97, 32, 115, 117, 109, 32, 105, 115, 32, 119, 97, 110, 116, 101, 100]))) (MP.Sm.nil)) (MP.Sm.nil)) (MP.Sm.cons (MP.Sm.setf 57340694988831727 (MP.Ex.v 0) (MP.Ex.v 1)) (MP.Sm.cons (MP.Sm.setf 65811813337119727 (MP.Ex.v 0) (MP.Ex.v 2)) (MP.Sm.cons (MP.Sm.setf 8350121928643296239 (MP.Ex.v 0) (MP.Ex.lst (MP.Ex.nil))) (MP.Sm.nil))))))
def b6 : Sm :=
  (MP.Sm.cons (MP.Sm.ret (MP.Ex.fld (MP.Ex.v 0) 57340694988831727)) (MP.Sm.nil))
def b7 : Sm :=
  (MP.Sm.cons (MP.Sm.ret (MP.Ex.fld (MP.Ex.v 0) 65811813337119727)) (MP.Sm.nil))
def b8 : Sm :=
  (MP.Sm.cons (MP.Sm.ret (MP.Ex.cB (MP.BI.list) (MP.Ex.cons (MP.Ex.fld (MP.Ex.v 0) 8350121928643296239) (MP.Ex.nil)))) (MP.Sm.nil))
def b9 : Sm :=
  (MP.Sm.cons (MP.Sm.expr (MP.Ex.cF 0 1 [] (MP.Ex.cons (MP.Ex.k (MP.W.int 0)) (MP.Ex.nil)))) (MP.Sm.nil))
def b10 : Sm :=
  (MP.Sm.cons (MP.Sm.expr (MP.Ex.cF 0 1 [] (MP.Ex.cons (MP.Ex.k (MP.W.int 1)) (MP.Ex.nil)))) (MP.Sm.nil))
def b11 : Sm :=
  (MP.Sm.cons (MP.Sm.expr (MP.Ex.cF 0 1 [] (MP.Ex.cons (MP.Ex.k (MP.W.int 2)) (MP.Ex.nil)))) (MP.Sm.nil))
def b12 : Sm :=
  (MP.Sm.cons (MP.Sm.ret (MP.Ex.tup (MP.Ex.cons (MP.Ex.op (MP.Op.sub) (MP.Ex.k (MP.W.int 0)) (MP.Ex.fld (MP.Ex.v 0) 65811813337119727)) (MP.Ex.cons (MP.Ex.fld (MP.Ex.v 0) 57340694988831727) (MP.Ex.nil))))) (MP.Sm.nil))
def b13 : Sm :=
  .raise 0 .nil
def b14 : Sm :=
  (MP.Sm.cons (MP.Sm.ret (MP.Ex.cB (MP.BI.len) (MP.Ex.cons (MP.Ex.fld (MP.Ex.v 0) 8350121928643296239) (MP.Ex.nil)))) (MP.Sm.nil))
def b15 : Sm :=
  (MP.Sm.cons (MP.Sm.ret (MP.Ex.mB (MP.BM.join) (MP.Ex.k (MP.W.str [32, 58, 32])) (MP.Ex.cons (MP.Ex.op (MP.Op.add) (MP.Ex.lst (MP.Ex.cons (MP.Ex.op (MP.Op.add) (MP.Ex.op (MP.Op.add) (MP.Ex.fld (MP.Ex.v 0) 57340694988831727) (MP.Ex.k (MP.W.str [32]))) (MP.Ex.cB (MP.BI.str) (MP.Ex.cons (MP.Ex.fld (MP.Ex.v 0) 65811813337119727) (MP.Ex.nil)))) (MP.Ex.nil))) (MP.Ex.lc [1] (MP.Tg.one 1) (MP.Ex.fld (MP.Ex.v 0) 8350121928643296239) (MP.Ex.nop) (MP.Ex.cF 4 1 [] (MP.Ex.cons (MP.Ex.v 1) (MP.Ex.nil))))) (MP.Ex.nil)))) (MP.Sm.nil))
def b16 : Sm :=
  (MP.Sm.cons (MP.Sm.set (MP.Tg.one 1) (MP.Ex.lst (MP.Ex.cons (MP.Ex.k (MP.W.str [80, 114, 111, 109, 105, 115, 101, 40])) (MP.Ex.cons (MP.Ex.cB (MP.BI.repr) (MP.Ex.cons (MP.Ex.fld (MP.Ex.v 0) 57340694988831727) (MP.Ex.nil))) (MP.Ex.cons (MP.Ex.k (MP.W.str [44, 32])) (MP.Ex.cons (MP.Ex.cB (MP.BI.str) (MP.Ex.cons (MP.Ex.fld (MP.Ex.v 0) 65811813337119727) (MP.Ex.nil))) (MP.Ex.cons (MP.Ex.k (MP.W.str [44, 32])) (MP.Ex.cons (MP.Ex.cB (MP.BI.str) (MP.Ex.cons (MP.Ex.cB (MP.BI.len) (MP.Ex.cons (MP.Ex.fld (MP.Ex.v 0) 8350121928643296239) (MP.Ex.nil))) (MP.Ex.nil))) (MP.Ex.cons (MP.Ex.k (MP.W.str [41])) (MP.Ex.nil)))))))))) (MP.Sm.cons (MP.Sm.ret (MP.Ex.mB (MP.BM.join) (MP.Ex.k (MP.W.str [])) (MP.Ex.cons (MP.Ex.v 1) (MP.Ex.nil)))) (MP.Sm.nil)))
def b17 : Sm :=
  (MP.Sm.cons (MP.Sm.seti (MP.Ex.v 1) (MP.Ex.k (MP.W.int 0)) (MP.Ex.op (MP.Op.add) (MP.Ex.sub (MP.Ex.v 1) (MP.Ex.k (MP.W.int 0))) (MP.Ex.k (MP.W.int 1)))) (MP.Sm.cons (MP.Sm.set (MP.Tg.one 2) (MP.Ex.sub (MP.Ex.v 1) (MP.Ex.k (MP.W.int 0)))) (MP.Sm.cons (MP.Sm.set (MP.Tg.one 3) (MP.Ex.ite (MP.Ex.cmp (MP.Cm.ne) (MP.Ex.v 0) (MP.Ex.lst (MP.Ex.nil))) (MP.Ex.sub (MP.Ex.v 0) (MP.Ex.op (MP.Op.mod) (MP.Ex.v 2) (MP.Ex.cB (MP.BI.len) (MP.Ex.cons (MP.Ex.v 0) (MP.Ex.nil))))) (MP.Ex.k (MP.W.int 0)))) (MP.Sm.cons (MP.Sm.ife (MP.Ex.and (MP.Ex.cmp (MP.Cm.ge) (MP.Ex.v 3) (MP.Ex.op (MP.Op.pow) (MP.Ex.k (MP.W.int 10)) (MP.Ex.k (MP.W.int 18)))) (MP.Ex.cmp (MP.Cm.lt) (MP.Ex.op (MP.Op.fdiv) (MP.Ex.v 2) (MP.Ex.cB (MP.BI.len) (MP.Ex.cons (MP.Ex.v 0) (MP.Ex.nil)))) (MP.Ex.k (MP.W.int 20)))) (MP.Sm.cons (MP.Sm.set (MP.Tg.one 6) (MP.Ex.v 3)) (MP.Sm.cons (MP.Sm.for_ (MP.Tg.one 7) (MP.Ex.cB (MP.BI.range) (MP.Ex.cons (MP.Ex.op (MP.Op.fdiv) (MP.Ex.v 2) (MP.Ex.cB (MP.BI.len) (MP.Ex.cons (MP.Ex.v 0) (MP.Ex.nil)))) (MP.Ex.nil))) (MP.Sm.cons (MP.Sm.set (MP.Tg.one 6) (MP.Ex.op (MP.Op.fdiv) (MP.Ex.v 6) (MP.Ex.k (MP.W.int 1018081)))) (MP.Sm.nil))) (MP.Sm.cons (MP.Sm.ife (MP.Ex.cmp (MP.Cm.gt) (MP.Ex.v 6) (MP.Ex.k (MP.W.int 0))) (MP.Sm.cons (MP.Sm.ret (MP.Ex.op (MP.Op.mod) (MP.Ex.v 6) (MP.Ex.k (MP.W.int 1018081)))) (MP.Sm.nil)) (MP.Sm.nil)) (MP.Sm.nil)))) (MP.Sm.nil)) (MP.Sm.cons (MP.Sm.set (MP.Tg.one 4) (MP.Ex.op (MP.Op.add) (MP.Ex.k (MP.W.int 91520834467120936671528473920164857)) (MP.Ex.op (MP.Op.mul) (MP.Ex.k (MP.W.int 2)) (MP.Ex.v 2)))) (MP.Sm.cons (MP.Sm.set (MP.Tg.one 5) (MP.Ex.op (MP.Op.mul) (MP.Ex.op (MP.Op.add) (MP.Ex.op (MP.Op.add) (MP.Ex.op (MP.Op.mod) (MP.Ex.v 3) (MP.Ex.op (MP.Op.pow) (MP.Ex.k (MP.W.int 10)) (MP.Ex.k (MP.W.int 60)))) (MP.Ex.k (MP.W.int 1))) (MP.Ex.op (MP.Op.mul) (MP.Ex.op (MP.Op.mul) (MP.Ex.k (MP.W.int 1009)) (MP.Ex.v 2)) (MP.Ex.v 2))) (MP.Ex.v 4))) (MP.Sm.cons (MP.Sm.ret (MP.Ex.op (MP.Op.fdiv) (MP.Ex.op (MP.Op.mod) (MP.Ex.v 5) (MP.Ex.k (MP.W.int 170141183460469231731687303715884105727))) (MP.Ex.k (MP.W.int 7)))) (MP.Sm.nil))))))))
def b18 : Sm :=
  (MP.Sm.cons (MP.Sm.ife (MP.Ex.cmp (MP.Cm.gt) (MP.Ex.op (MP.Op.mod) (MP.Ex.cF 17 2 [] (MP.Ex.cons (MP.Ex.v 0) (MP.Ex.cons (MP.Ex.v 1) (MP.Ex.nil)))) (MP.Ex.k (MP.W.int 3))) (MP.Ex.k (MP.W.int 0))) (MP.Sm.cons (MP.Sm.ret (MP.Ex.sub (MP.Ex.lst (MP.Ex.cons (MP.Ex.k (MP.W.str [97, 110, 110])) (MP.Ex.cons (MP.Ex.k (MP.W.str [98, 111])) (MP.Ex.cons (MP.Ex.k (MP.W.str [99, 121])) (MP.Ex.cons (MP.Ex.k (MP.W.str [100, 111, 114, 97])) (MP.Ex.cons (MP.Ex.k (MP.W.str [115, 117, 109])) (MP.Ex.cons (MP.Ex.k (MP.W.str [112, 97, 114, 116])) (MP.Ex.cons (MP.Ex.k (MP.W.str [122])) (MP.Ex.cons (MP.Ex.k (MP.W.str [97, 98, 99, 100, 101, 102, 103, 104])) (MP.Ex.nil)))))))))) (MP.Ex.op (MP.Op.mod) (MP.Ex.cF 17 2 [] (MP.Ex.cons (MP.Ex.v 0) (MP.Ex.cons (MP.Ex.v 1) (MP.Ex.nil)))) (MP.Ex.k (MP.W.int 8))))) (MP.Sm.nil)) (MP.Sm.nil)) (MP.Sm.cons (MP.Sm.set (MP.Tg.one 2) (MP.Ex.op (MP.Op.add) (MP.Ex.k (MP.W.int 1)) (MP.Ex.op (MP.Op.mod) (MP.Ex.cF 17 2 [] (MP.Ex.cons (MP.Ex.v 0) (MP.Ex.cons (MP.Ex.v 1) (MP.Ex.nil)))) (MP.Ex.k (MP.W.int 8))))) (MP.Sm.cons (MP.Sm.ret (MP.Ex.mB (MP.BM.join) (MP.Ex.k (MP.W.str [])) (MP.Ex.cons (MP.Ex.lc [3] (MP.Tg.one 3) (MP.Ex.cB (MP.BI.range) (MP.Ex.cons (MP.Ex.v 2) (MP.Ex.nil))) (MP.Ex.nop) (MP.Ex.sub (MP.Ex.k (MP.W.str [97, 98, 99, 100, 101, 102, 103, 104, 105, 106, 107, 108, 109, 110, 111, 112, 113, 114, 115, 116, 117, 118, 119, 120, 121, 122])) (MP.Ex.op (MP.Op.mod) (MP.Ex.cF 17 2 [] (MP.Ex.cons (MP.Ex.v 0) (MP.Ex.cons (MP.Ex.v 1) (MP.Ex.nil)))) (MP.Ex.k (MP.W.int 26))))) (MP.Ex.nil)))) (MP.Sm.nil))))
def b19 : Sm :=
  (MP.Sm.cons (MP.Sm.set (MP.Tg.one 2) (MP.Ex.cF 17 2 [] (MP.Ex.cons (MP.Ex.v 0) (MP.Ex.cons (MP.Ex.v 1) (MP.Ex.nil))))) (MP.Sm.cons (MP.Sm.ret (MP.Ex.sub (MP.Ex.lst (MP.Ex.cons (MP.Ex.op (MP.Op.mod) (MP.Ex.op (MP.Op.fdiv) (MP.Ex.v 2) (MP.Ex.k (MP.W.int 5))) (MP.Ex.k (MP.W.int 100))) (MP.Ex.cons (MP.Ex.op (MP.Op.mod) (MP.Ex.op (MP.Op.fdiv) (MP.Ex.v 2) (MP.Ex.k (MP.W.int 5))) (MP.Ex.k (MP.W.int 1000001))) (MP.Ex.cons (MP.Ex.k (MP.W.int 0)) (MP.Ex.cons (MP.Ex.k (MP.W.int 1000000)) (MP.Ex.cons (MP.Ex.k (MP.W.int 1)) (MP.Ex.nil))))))) (MP.Ex.op (MP.Op.mod) (MP.Ex.v 2) (MP.Ex.k (MP.W.int 5))))) (MP.Sm.nil)))
def b20 : Sm :=
  (MP.Sm.cons (MP.Sm.set (MP.Tg.one 3) (MP.Ex.op (MP.Op.add) (MP.Ex.k (MP.W.str [32, 33, 34, 35, 36, 38, 40, 41, 42, 43, 44, 45, 46, 47, 48, 49, 50, 51, 52, 53, 54, 55, 56, 57, 58, 59, 60, 61, 62, 63, 64, 65, 66, 67, 68, 69, 70, 71, 72, 73, 74, 75, 76, 77, 78, 79, 80, 81, 82, 83, 84, 85, 86, 87, 88, 89, 90, 91, 93, 94, 95, 96, 123, 124, 125, 126])) (MP.Ex.k (MP.W.str [39])))) (MP.Sm.cons (MP.Sm.set (MP.Tg.one 4) (MP.Ex.op (MP.Op.mod) (MP.Ex.cF 17 2 [] (MP.Ex.cons (MP.Ex.v 1) (MP.Ex.cons (MP.Ex.v 2) (MP.Ex.nil)))) (MP.Ex.op (MP.Op.add) (MP.Ex.cB (MP.BI.len) (MP.Ex.cons (MP.Ex.v 0) (MP.Ex.nil))) (MP.Ex.k (MP.W.int 1))))) (MP.Sm.cons (MP.Sm.ret (MP.Ex.op (MP.Op.add) (MP.Ex.op (MP.Op.add) (MP.Ex.slc (MP.Ex.v 0) (MP.Ex.nop) (MP.Ex.v 4)) (MP.Ex.sub (MP.Ex.v 3) (MP.Ex.op (MP.Op.mod) (MP.Ex.cF 17 2 [] (MP.Ex.cons (MP.Ex.v 1) (MP.Ex.cons (MP.Ex.v 2) (MP.Ex.nil)))) (MP.Ex.cB (MP.BI.len) (MP.Ex.cons (MP.Ex.v 3) (MP.Ex.nil)))))) (MP.Ex.slc (MP.Ex.v 0) (MP.Ex.op (MP.Op.add) (MP.Ex.v 4) (MP.Ex.op (MP.Op.fdiv) (MP.Ex.cB (MP.BI.len) (MP.Ex.cons (MP.Ex.v 0) (MP.Ex.nil))) (MP.Ex.k (MP.W.int 8)))) (MP.Ex.nop)))) (MP.Sm.nil))))
def b21 : Sm :=
  (MP.Sm.cons (MP.Sm.set (MP.Tg.one 3) (MP.Ex.k (MP.W.non))) (MP.Sm.cons (MP.Sm.set (MP.Tg.one 4) (MP.Ex.k (MP.W.non))) (MP.Sm.cons (MP.Sm.try_ (MP.Sm.cons (MP.Sm.ife (MP.Ex.cmp (MP.Cm.eq) (MP.Ex.v 0) (MP.Ex.k (MP.W.int 0))) (MP.Sm.cons (MP.Sm.set (MP.Tg.one 4) (MP.Ex.mk 0 2 [] (MP.Ex.cons (MP.Ex.v 1) (MP.Ex.cons (MP.Ex.v 2) (MP.Ex.nil))))) (MP.Sm.nil)) (MP.Sm.cons (MP.Sm.ife (MP.Ex.cmp (MP.Cm.eq) (MP.Ex.v 0) (MP.Ex.k (MP.W.int 1))) (MP.Sm.cons (MP.Sm.set (MP.Tg.one 4) (MP.Ex.mk 0 0 [2, 1] (MP.Ex.cons (MP.Ex.v 2) (MP.Ex.cons (MP.Ex.v 1) (MP.Ex.nil))))) (MP.Sm.nil)) (MP.Sm.cons (MP.Sm.set (MP.Tg.one 4) (MP.Ex.mk 0 1 [2] (MP.Ex.cons (MP.Ex.v 1) (MP.Ex.cons (MP.Ex.v 2) (MP.Ex.nil))))) (MP.Sm.nil))) (MP.Sm.nil))) (MP.Sm.nil)) (MP.Sm.cons (MP.Sm.hdl [5] (some 5) (MP.Sm.cons (MP.Sm.set (MP.Tg.one 3) (MP.Ex.v 5)) (MP.Sm.nil))) (MP.Sm.nil))) (MP.Sm.cons (MP.Sm.ife (MP.Ex.cmp (MP.Cm.is) (MP.Ex.v 3) (MP.Ex.k (MP.W.non))) (MP.Sm.cons (MP.Sm.ret (MP.Ex.lst (MP.Ex.cons (MP.Ex.mO 452440390070510 0 [] [] (MP.Ex.v 4) (MP.Ex.nil)) (MP.Ex.cons (MP.Ex.mO 452440421627885 0 [] [] (MP.Ex.v 4) (MP.Ex.nil)) (MP.Ex.cons (MP.Ex.mO 31106628211 0 [] [] (MP.Ex.v 4) (MP.Ex.nil)) (MP.Ex.cons (MP.Ex.cB (MP.BI.len) (MP.Ex.cons (MP.Ex.v 4) (MP.Ex.nil))) (MP.Ex.cons (MP.Ex.cB (MP.BI.bool) (MP.Ex.cons (MP.Ex.v 4) (MP.Ex.nil))) (MP.Ex.nil)))))))) (MP.Sm.nil)) (MP.Sm.nil)) (MP.Sm.cons (MP.Sm.set (MP.Tg.one 6) (MP.Ex.lst (MP.Ex.cons (MP.Ex.isi (MP.Ex.v 3) (MP.TR.exc 8)) (MP.Ex.cons (MP.Ex.isi (MP.Ex.v 3) (MP.TR.exc 9)) (MP.Ex.cons (MP.Ex.isi (MP.Ex.v 3) (MP.TR.exc 10)) (MP.Ex.nil)))))) (MP.Sm.cons (MP.Sm.set (MP.Tg.one 6) (MP.Ex.op (MP.Op.add) (MP.Ex.v 6) (MP.Ex.lst (MP.Ex.cons (MP.Ex.isi (MP.Ex.v 3) (MP.TR.exc 11)) (MP.Ex.cons (MP.Ex.isi (MP.Ex.v 3) (MP.TR.exc 12)) (MP.Ex.cons (MP.Ex.isi (MP.Ex.v 3) (MP.TR.exc 1)) (MP.Ex.nil))))))) (MP.Sm.cons (MP.Sm.set (MP.Tg.one 6) (MP.Ex.op (MP.Op.add) (MP.Ex.v 6) (MP.Ex.lst (MP.Ex.cons (MP.Ex.isi (MP.Ex.v 3) (MP.TR.exc 2)) (MP.Ex.cons (MP.Ex.isi (MP.Ex.v 3) (MP.TR.exc 4)) (MP.Ex.nil)))))) (MP.Sm.cons (MP.Sm.ife (MP.Ex.or (MP.Ex.cmp (MP.Cm.in_) (MP.Ex.k (MP.W.bl true)) (MP.Ex.v 6)) (MP.Ex.not (MP.Ex.isi (MP.Ex.v 3) (MP.TR.exc 0)))) (MP.Sm.cons (MP.Sm.ret (MP.Ex.k (MP.W.str [97, 110, 111, 116, 104, 101, 114]))) (MP.Sm.nil)) (MP.Sm.nil)) (MP.Sm.cons (MP.Sm.set (MP.Tg.one 7) (MP.Ex.lst (MP.Ex.cons (MP.Ex.isi (MP.Ex.v 3) (MP.TR.exc 6)) (MP.Ex.cons (MP.Ex.isi (MP.Ex.v 3) (MP.TR.exc 7)) (MP.Ex.nil))))) (MP.Sm.cons (MP.Sm.ret (MP.Ex.ite (MP.Ex.cmp (MP.Cm.eq) (MP.Ex.mB (MP.BM.count) (MP.Ex.v 7) (MP.Ex.cons (MP.Ex.k (MP.W.bl true)) (MP.Ex.nil))) (MP.Ex.k (MP.W.int 1))) (MP.Ex.sub (MP.Ex.lst (MP.Ex.cons (MP.Ex.k (MP.W.str [119, 104, 111])) (MP.Ex.cons (MP.Ex.k (MP.W.str [115, 117, 109])) (MP.Ex.nil)))) (MP.Ex.mB (MP.BM.index) (MP.Ex.v 7) (MP.Ex.cons (MP.Ex.k (MP.W.bl true)) (MP.Ex.nil)))) (MP.Ex.k (MP.W.str [97, 110, 111, 116, 104, 101, 114])))) (MP.Sm.nil)))))))))))
def b22 : Sm :=
  (MP.Sm.cons (MP.Sm.set (MP.Tg.many [3, 4]) (MP.Ex.tup (MP.Ex.cons (MP.Ex.cB (MP.BI.list) (MP.Ex.cons (MP.Ex.v 0) (MP.Ex.nil))) (MP.Ex.cons (MP.Ex.lst (MP.Ex.cons (MP.Ex.neg (MP.Ex.k (MP.W.int 1))) (MP.Ex.nil))) (MP.Ex.nil))))) (MP.Sm.cons (MP.Sm.set (MP.Tg.one 1) (MP.Ex.mk 0 1 [] (MP.Ex.cons (MP.Ex.k (MP.W.str [101, 108, 100, 101, 114])) (MP.Ex.nil)))) (MP.Sm.cons (MP.Sm.for_ (MP.Tg.one 2) (MP.Ex.cB (MP.BI.range) (MP.Ex.cons (MP.Ex.op (MP.Op.add) (MP.Ex.k (MP.W.int 1)) (MP.Ex.cB (MP.BI.min) (MP.Ex.cons (MP.Ex.k (MP.W.int 12)) (MP.Ex.cons (MP.Ex.cB (MP.BI.len) (MP.Ex.cons (MP.Ex.v 3) (MP.Ex.nil))) (MP.Ex.nil))))) (MP.Ex.nil))) (MP.Sm.cons (MP.Sm.set (MP.Tg.many [8, 9]) (MP.Ex.tup (MP.Ex.cons (MP.Ex.cF 18 2 [] (MP.Ex.cons (MP.Ex.v 3) (MP.Ex.cons (MP.Ex.v 4) (MP.Ex.nil)))) (MP.Ex.cons (MP.Ex.cF 19 2 [] (MP.Ex.cons (MP.Ex.v 3) (MP.Ex.cons (MP.Ex.v 4) (MP.Ex.nil)))) (MP.Ex.nil))))) (MP.Sm.cons (MP.Sm.for_ (MP.Tg.one 5) (MP.Ex.cB (MP.BI.range) (MP.Ex.cons (MP.Ex.k (MP.W.int 3)) (MP.Ex.nil))) (MP.Sm.cons (MP.Sm.ife (MP.Ex.cmp (MP.Cm.ne) (MP.Ex.cB (MP.BI.repr) (MP.Ex.cons (MP.Ex.cF 21 3 [] (MP.Ex.cons (MP.Ex.v 5) (MP.Ex.cons (MP.Ex.v 8) (MP.Ex.cons (MP.Ex.v 9) (MP.Ex.nil))))) (MP.Ex.nil))) (MP.Ex.cB (MP.BI.repr) (MP.Ex.cons (MP.Ex.lst (MP.Ex.cons (MP.Ex.v 8) (MP.Ex.cons (MP.Ex.v 9) (MP.Ex.cons (MP.Ex.lst (MP.Ex.nil)) (MP.Ex.cons (MP.Ex.k (MP.W.int 0)) (MP.Ex.cons (MP.Ex.k (MP.W.bl false)) (MP.Ex.nil))))))) (MP.Ex.nil)))) (MP.Sm.cons (MP.Sm.ret (MP.Ex.k (MP.W.bl false))) (MP.Sm.nil)) (MP.Sm.nil)) (MP.Sm.nil))) (MP.Sm.cons (MP.Sm.ife (MP.Ex.or (MP.Ex.cmp (MP.Cm.ne) (MP.Ex.mO 452440421627885 0 [] [] (MP.Ex.mk 0 1 [] (MP.Ex.cons (MP.Ex.v 8) (MP.Ex.nil))) (MP.Ex.nil)) (MP.Ex.k (MP.W.int 1000000))) (MP.Ex.cmp (MP.Cm.ne) (MP.Ex.mO 452440390070510 0 [] [] (MP.Ex.mk 0 0 [1] (MP.Ex.cons (MP.Ex.v 8) (MP.Ex.nil))) (MP.Ex.nil)) (MP.Ex.v 8))) (MP.Sm.cons (MP.Sm.ret (MP.Ex.k (MP.W.bl false))) (MP.Sm.nil)) (MP.Sm.nil)) (MP.Sm.cons (MP.Sm.set (MP.Tg.one 6) (MP.Ex.lst (MP.Ex.cons (MP.Ex.k (MP.W.non)) (MP.Ex.cons (MP.Ex.k (MP.W.bl true)) (MP.Ex.cons (MP.Ex.k (MP.W.bl false)) (MP.Ex.cons (MP.Ex.neg (MP.Ex.k (MP.W.int 1))) (MP.Ex.cons (MP.Ex.k (MP.W.int 1000001)) (MP.Ex.cons (MP.Ex.k (MP.W.str [53])) (MP.Ex.cons (MP.Ex.tup (MP.Ex.nil)) (MP.Ex.cons (MP.Ex.lst (MP.Ex.nil)) (MP.Ex.cons (MP.Ex.dct (MP.Ex.nil)) (MP.Ex.cons (MP.Ex.op (MP.Op.pow) (MP.Ex.op (MP.Op.pow) (MP.Ex.op (MP.Op.pow) (MP.Ex.k (MP.W.int 10)) (MP.Ex.k (MP.W.int 43))) (MP.Ex.k (MP.W.int 31))) (MP.Ex.k (MP.W.int 3))) (MP.Ex.cons (MP.Ex.tup (MP.Ex.cons (MP.Ex.k (MP.W.int 5)) (MP.Ex.nil))) (MP.Ex.nil)))))))))))))) (MP.Sm.cons (MP.Sm.set (MP.Tg.one 6) (MP.Ex.sub (MP.Ex.v 6) (MP.Ex.op (MP.Op.mod) (MP.Ex.cF 17 2 [] (MP.Ex.cons (MP.Ex.v 3) (MP.Ex.cons (MP.Ex.v 4) (MP.Ex.nil)))) (MP.Ex.k (MP.W.int 11))))) (MP.Sm.cons (MP.Sm.set (MP.Tg.one 7) (MP.Ex.lst (MP.Ex.cons (MP.Ex.k (MP.W.non)) (MP.Ex.cons (MP.Ex.k (MP.W.bl true)) (MP.Ex.cons (MP.Ex.k (MP.W.str [])) (MP.Ex.cons (MP.Ex.k (MP.W.str [65, 110, 110])) (MP.Ex.cons (MP.Ex.k (MP.W.str [97, 98, 99, 100, 101, 102, 103, 104, 105])) (MP.Ex.cons (MP.Ex.k (MP.W.str [97, 110, 49])) (MP.Ex.cons (MP.Ex.k (MP.W.str [97, 32, 98])) (MP.Ex.cons (MP.Ex.tup (MP.Ex.nil)) (MP.Ex.cons (MP.Ex.lst (MP.Ex.cons (MP.Ex.v 8) (MP.Ex.nil))) (MP.Ex.cons (MP.Ex.k (MP.W.int 5)) (MP.Ex.cons (MP.Ex.op (MP.Op.add) (MP.Ex.v 8) (MP.Ex.k (MP.W.str [57]))) (MP.Ex.cons (MP.Ex.mB (MP.BM.upper) (MP.Ex.v 8) (MP.Ex.nil)) (MP.Ex.nil))))))))))))))) (MP.Sm.cons (MP.Sm.set (MP.Tg.many [7, 10]) (MP.Ex.tup (MP.Ex.cons (MP.Ex.sub (MP.Ex.v 7) (MP.Ex.op (MP.Op.mod) (MP.Ex.cF 17 2 [] (MP.Ex.cons (MP.Ex.v 3) (MP.Ex.cons (MP.Ex.v 4) (MP.Ex.nil)))) (MP.Ex.k (MP.W.int 12)))) (MP.Ex.cons (MP.Ex.cF 20 3 [] (MP.Ex.cons (MP.Ex.v 8) (MP.Ex.cons (MP.Ex.v 3) (MP.Ex.cons (MP.Ex.v 4) (MP.Ex.nil))))) (MP.Ex.nil))))) (MP.Sm.cons (MP.Sm.for_ (MP.Tg.one 5) (MP.Ex.cB (MP.BI.range) (MP.Ex.cons (MP.Ex.k (MP.W.int 3)) (MP.Ex.nil))) (MP.Sm.cons (MP.Sm.set (MP.Tg.one 11) (MP.Ex.lst (MP.Ex.cons (MP.Ex.cF 21 3 [] (MP.Ex.cons (MP.Ex.v 5) (MP.Ex.cons (MP.Ex.v 8) (MP.Ex.cons (MP.Ex.v 6) (MP.Ex.nil))))) (MP.Ex.cons (MP.Ex.cF 21 3 [] (MP.Ex.cons (MP.Ex.v 5) (MP.Ex.cons (MP.Ex.v 7) (MP.Ex.cons (MP.Ex.v 6) (MP.Ex.nil))))) (MP.Ex.cons (MP.Ex.cF 21 3 [] (MP.Ex.cons (MP.Ex.v 5) (MP.Ex.cons (MP.Ex.v 7) (MP.Ex.cons (MP.Ex.v 9) (MP.Ex.nil))))) (MP.Ex.nil)))))) (MP.Sm.cons (MP.Sm.ife (MP.Ex.cmp (MP.Cm.ne) (MP.Ex.op (MP.Op.add) (MP.Ex.v 11) (MP.Ex.lst (MP.Ex.cons (MP.Ex.cF 21 3 [] (MP.Ex.cons (MP.Ex.v 5) (MP.Ex.cons (MP.Ex.v 10) (MP.Ex.cons (MP.Ex.v 9) (MP.Ex.nil))))) (MP.Ex.nil)))) (MP.Ex.lst (MP.Ex.cons (MP.Ex.k (MP.W.str [115, 117, 109])) (MP.Ex.cons (MP.Ex.k (MP.W.str [119, 104, 111])) (MP.Ex.cons (MP.Ex.k (MP.W.str [119, 104, 111])) (MP.Ex.cons (MP.Ex.k (MP.W.str [119, 104, 111])) (MP.Ex.nil))))))) (MP.Sm.cons (MP.Sm.ret (MP.Ex.k (MP.W.bl false))) (MP.Sm.nil)) (MP.Sm.nil)) (MP.Sm.nil)))) (MP.Sm.cons (MP.Sm.ife (MP.Ex.cmp (MP.Cm.ne) (MP.Ex.sub (MP.Ex.lst (MP.Ex.cons (MP.Ex.cF 21 3 [] (MP.Ex.cons (MP.Ex.k (MP.W.int 0)) (MP.Ex.cons (MP.Ex.v 8) (MP.Ex.cons (MP.Ex.k (MP.W.int 1)) (MP.Ex.nil))))) (MP.Ex.cons (MP.Ex.cF 21 3 [] (MP.Ex.cons (MP.Ex.k (MP.W.int 0)) (MP.Ex.cons (MP.Ex.v 8) (MP.Ex.cons (MP.Ex.k (MP.W.bl true)) (MP.Ex.nil))))) (MP.Ex.nil)))) (MP.Ex.k (MP.W.int 1))) (MP.Ex.k (MP.W.str [115, 117, 109]))) (MP.Sm.cons (MP.Sm.ret (MP.Ex.k (MP.W.bl false))) (MP.Sm.nil)) (MP.Sm.nil)) (MP.Sm.cons (MP.Sm.ife (MP.Ex.cmp (MP.Cm.ne) (MP.Ex.lst (MP.Ex.cons (MP.Ex.mO 452440390070510 0 [] [] (MP.Ex.v 1) (MP.Ex.nil)) (MP.Ex.cons (MP.Ex.mO 452440421627885 0 [] [] (MP.Ex.v 1) (MP.Ex.nil)) (MP.Ex.cons (MP.Ex.mO 31106628211 0 [] [] (MP.Ex.v 1) (MP.Ex.nil)) (MP.Ex.nil))))) (MP.Ex.lst (MP.Ex.cons (MP.Ex.k (MP.W.str [101, 108, 100, 101, 114])) (MP.Ex.cons (MP.Ex.k (MP.W.int 1000000)) (MP.Ex.cons (MP.Ex.lst (MP.Ex.nil)) (MP.Ex.nil)))))) (MP.Sm.cons (MP.Sm.ret (MP.Ex.k (MP.W.bl false))) (MP.Sm.nil)) (MP.Sm.nil)) (MP.Sm.nil)))))))))))) (MP.Sm.cons (MP.Sm.ret (MP.Ex.k (MP.W.bl true))) (MP.Sm.nil)))))
def d0 : FD := ⟨1, 1, [], b0⟩
def d1 : FD := ⟨3, 3, [], b1⟩
def d2 : FD := ⟨1, 2, [], b2⟩
def d3 : FD := ⟨1, 1, [], b3⟩
def d4 : FD := ⟨1, 2, [], b4⟩
def d5 : FD := ⟨3, 3, [.int 1000000], b5⟩
def d6 : FD := ⟨1, 1, [], b6⟩
def d7 : FD := ⟨1, 1, [], b7⟩
def d8 : FD := ⟨1, 1, [], b8⟩
def d9 : FD := ⟨6, 6, [.str [], .int 1, .int 1, .int 0], b9⟩
def d10 : FD := ⟨2, 2, [], b10⟩
def d11 : FD := ⟨2, 2, [], b11⟩
def d12 : FD := ⟨1, 1, [], b12⟩
def d13 : FD := ⟨2, 2, [], b13⟩
def d14 : FD := ⟨1, 1, [], b14⟩
def d15 : FD := ⟨1, 2, [], b15⟩
def d16 : FD := ⟨1, 2, [], b16⟩
def d17 : FD := ⟨2, 8, [], b17⟩
def d18 : FD := ⟨2, 4, [], b18⟩
def d19 : FD := ⟨2, 3, [], b19⟩
def d20 : FD := ⟨3, 5, [], b20⟩
def d21 : FD := ⟨3, 8, [], b21⟩
def d22 : FD := ⟨1, 12, [], b22⟩
def fds : List FD := ([d0, d1, d2, d3, d4, d5, d6, d7, d8, d9, d10, d11, d12, d13, d14, d15, d16, d17, d18, d19, d20, d21, d22] : List (FD))
def P : PD := ⟨fns, fds, cls, tbs, gl, bf, pn, fun f => shs.getD f [], ci, mp, xcs⟩
end Prog
namespace KK
open PySem MP Prog MP.Ru
abbrev G : Gm := Prog.P.G
theorem cell_ok {N : Nat} {S : Sto} {Q : KE} {E : MP.KX} {sp : Nat} {ns : List Int} {k : Int} (hS : S sp = some (.lst [.int k])) (hN : 1 ≤ N) (hk : -1 ≤ k) (hk2 : k < 1000000) (hl : ns.length ≤ 63) (q2 : ∀ z k', 0 ≤ z → k ≤ k' → k' ≤ k + 1 → Q (.int z) (ups S sp (.lst [.int k']))) : cal G N 17 [.rl (ns.map .int), .ref sp] S Q E := by
  obtain ⟨N, rfl⟩ : ∃ M, N = M + 1 := ⟨N - 1, by omega⟩; refine u_cal rfl ?_
  have q : ∀ z, 0 ≤ z → Q (.int z) (ups S sp (.lst [.int (k + 1)])) := fun z hz => q2 z (k + 1) hz (by omega) (by omega)
  refine s_at 3 (fun σ S1 => S1 = ups S sp (.lst [.int (k + 1)]) ∧ ∃ z : Int, σ = [some (.rl (ns.map .int)), some (.ref sp), some (.int (k + 1)), some (.int z), none, none, none, none] ∧ (ns = [] → z = 0)) (fun nx hn => ?_) ?_
  · conv => whnf
    rw [hS]
    conv => whnf
    rw [hS]
    conv => whnf
    rw [ups_same]
    conv => whnf
    refine ⟨by decide, ?_⟩
    conv => whnf
    refine Or.inl ?_
    conv => whnf
    refine ⟨.list (ns.map .int), .list [], dat_ints ns, rfl, sh_ints ns, by decide, ?_⟩
    rw [ints_nil]
    conv => whnf
    refine dr_n (fun h1 => ?_) (fun h1 => ?_)
    · have hp : 0 < ns.length := List.length_pos_iff.mpr h1
      conv => whnf
      refine ⟨by rw [List.length_map]; show _ ≤ 16777216; omega, ?_⟩
      conv => whnf
      rw [List.length_map]
      refine ⟨by omega, ?_⟩
      conv => whnf
      have m0 : 0 ≤ (k + 1) % (ns.length : Int) := Int.emod_nonneg _ (by omega)
      have m1 : (k + 1) % (ns.length : Int) < (ns.length : Int) := Int.emod_lt_of_pos _ (by omega)
      obtain ⟨w, mw, e⟩ := at_in (l := ns.map W.int) m0 (by rw [List.length_map]; exact m1)
      rw [e]
      obtain ⟨z, _, rfl⟩ := List.mem_map.mp mw
      exact hn _ _ ⟨rfl, z, rfl, fun e => absurd e h1⟩
    · exact hn _ _ ⟨rfl, 0, rfl, fun _ => rfl⟩
  rintro σ S1 ⟨rfl, z, rfl, z0⟩
  refine s_at 1 (fun σ S1 => S1 = ups S sp (.lst [.int (k + 1)]) ∧ ∃ w2 w3, σ = [some (.rl (ns.map .int)), some (.ref sp), some (.int (k + 1)), some (.int z), none, none, w2, w3]) (fun nx hn => ?_) ?_
  · conv => whnf
    refine ⟨⟨by decide, by decide +kernel⟩, ?_⟩
    conv => whnf
    refine dr_d (fun h1 => ?_) (fun h1 => ?_)
    · have hp : 0 < ns.length := List.length_pos_iff.mpr fun e => by rw [z0 e] at h1; exact absurd h1 (by decide)
      conv => whnf
      refine ⟨by rw [List.length_map]; show _ ≤ 16777216; omega, ?_⟩
      conv => whnf
      rw [List.length_map]
      refine ⟨⟨by omega, lg9 (by omega) (by omega)⟩, ?_⟩
      conv => whnf
      refine dr_d (fun h2 => ?_) (fun h2 => ?_)
      · conv => whnf
        refine ⟨by rw [List.length_map]; show _ ≤ 16777216; omega, ?_⟩
        conv => whnf
        rw [List.length_map]
        refine ⟨⟨by omega, lg9 (by omega) (by omega)⟩, ?_⟩
        conv => whnf
        have d0 : 0 ≤ (k + 1) / (ns.length : Int) := Int.ediv_nonneg (by omega) (by omega)
        refine ⟨⟨by unfold big; omega, by unfold big; omega⟩, ?_⟩
        refine w_for (fun r σ S3 => S3 = ups S sp (.lst [.int (k + 1)]) ∧ ∃ own w3, σ = [some (.rl (ns.map .int)), some (.ref sp), some (.int (k + 1)), some (.int z), none, none, some (.int own), w3]) (fun _ _ _ _ => trivial) (fun σ S3 ⟨e3, own, w3, es⟩ => ?_) (fun w r σ S3 ⟨e3, own, w3, es⟩ => ?_) _ _ _ ⟨rfl, z, none, rfl⟩
        · subst e3 es
          intro nx3 h3
          conv => whnf
          refine ⟨⟨by decide, by decide +kernel⟩, ?_⟩
          exact h3 _ _ ⟨rfl, _, _, rfl⟩
        · subst e3 es
          conv => whnf
          refine dr_d (fun h0 => ?_) (fun h0 => ?_)
          · conv => whnf
            refine ⟨by decide, ?_⟩
            conv => whnf
            exact dx (q _ (Int.emod_nonneg _ (by decide)))
          · exact hn _ _ ⟨rfl, _, _, rfl⟩
      · exact hn _ _ ⟨rfl, _, _, rfl⟩
    · exact hn _ _ ⟨rfl, _, _, rfl⟩
  rintro σ S1 ⟨rfl, w2, w3, rfl⟩
  conv => whnf
  refine ⟨lg2 (by omega) (by omega) (by omega) (by omega), ?_⟩
  conv => whnf
  refine ⟨⟨by decide, by decide +kernel⟩, ?_⟩
  conv => whnf
  refine ⟨by decide, ?_⟩
  have zz : 0 ≤ z % 10 ^ 60 := Int.emod_nonneg _ (by decide)
  have zz2 : z % 10 ^ 60 < 10 ^ 60 := Int.emod_lt_of_pos _ (by decide)
  have ee : ((10 : Int) ^ (60 : Int).toNat) = 10 ^ 60 := rfl
  rw [ee]
  generalize z % 10 ^ 60 = zq at *
  conv => whnf
  refine ⟨lg2 (by omega) (by omega) (by omega) (by omega), ?_⟩
  conv => whnf
  have kk0 : 0 ≤ 1009 * (k + 1) := by omega
  have kk1 : 1009 * (k + 1) ≤ 10 ^ 10 := by omega
  have kk2 : 1009 * (k + 1) * (k + 1) ≤ 10 ^ 10 * 10 ^ 10 := Int.mul_le_mul kk1 (by omega) (by omega) (by decide)
  have kk3 : 0 ≤ 1009 * (k + 1) * (k + 1) := Int.mul_nonneg kk0 (by omega)
  generalize 1009 * (k + 1) = k9 at *
  refine ⟨lg2 (by omega) (by omega) (by omega) (by omega), ?_⟩
  generalize k9 * (k + 1) = kz at *
  conv => whnf
  refine ⟨lg2 (by omega) (by omega) (by omega) (by omega), ?_⟩
  conv => whnf
  refine ⟨by decide, ?_⟩
  conv => whnf
  refine ⟨⟨by decide, by decide +kernel⟩, ?_⟩
  conv => whnf
  generalize (zq + 1 + kz) * (91520834467120936671528473920164857 + 2 * (k + 1)) = big0
  have m0 : 0 ≤ big0 % 170141183460469231731687303715884105727 := Int.emod_nonneg _ (by decide)
  exact dx (q _ (by omega))
end KK
namespace KK
open PySem MP Prog MP.Ru
def LET : List Nat := [97, 98, 99, 100, 101, 102, 103, 104, 105, 106, 107, 108, 109, 110, 111, 112, 113, 114, 115, 116, 117, 118, 119, 120, 121, 122]
def NmOk (l : List Nat) : Prop := 1 ≤ l.length ∧ l.length ≤ 8 ∧ ∀ c, c ∈ l → c ∈ LET
theorem sum_ok {N : Nat} {S : Sto} {Q : KE} {E : MP.KX} {sp : Nat} {ns : List Int} {k : Int} (hS : S sp = some (.lst [.int k])) (hN : 2 ≤ N) (hk : -1 ≤ k) (hk2 : k < 900000) (hl : ns.length ≤ 63) (q : ∀ z k', 0 ≤ z → z ≤ 1000000 → k ≤ k' → k' ≤ k + 1 → Q (.int z) (ups S sp (.lst [.int k']))) : cal G N 19 [.rl (ns.map .int), .ref sp] S Q E := by
  obtain ⟨N, rfl⟩ : ∃ M, N = M + 1 := ⟨N - 1, by omega⟩; refine u_cal rfl ?_
  conv => whnf
  (refine cell_ok (by first | exact ups_same | assumption) (by omega) (by omega) (by omega) hl fun z k1 hz hk1 hk1b => ?_; try rw [ups_ups])
  conv => whnf
  refine ⟨⟨by decide, by decide +kernel⟩, ?_⟩
  conv => whnf
  refine ⟨by decide, ?_⟩
  conv => whnf
  refine ⟨⟨by decide, by decide +kernel⟩, ?_⟩
  conv => whnf
  refine ⟨by decide, ?_⟩
  conv => whnf
  refine ⟨Nat.le_of_ble_eq_true rfl, ?_⟩
  conv => whnf
  refine Or.inl ?_
  conv => whnf
  refine ⟨by decide, ?_⟩
  conv => whnf
  have m0 : 0 ≤ z % 5 := Int.emod_nonneg _ (by decide)
  have m1 : z % 5 < 5 := Int.emod_lt_of_pos _ (by decide)
  obtain ⟨w, mw, e⟩ := at_in (l := [W.int (z / 5 % 100), .int (z / 5 % 1000001), .int 0, .int 1000000, .int 1]) m0 m1
  rw [e]
  have hw : ∃ v : Int, w = .int v ∧ 0 ≤ v ∧ v ≤ 1000000 := by
    simp only [List.mem_cons, List.not_mem_nil, or_false] at mw
    rcases mw with rfl | rfl | rfl | rfl | rfl <;> exact ⟨_, rfl, by omega, by omega⟩
  obtain ⟨v, rfl, v0, v1⟩ := hw
  conv => whnf
  exact dx (q _ _ v0 v1 (by omega) (by omega))
def NAMES : List (List Nat) := [[97, 110, 110], [98, 111], [99, 121], [100, 111, 114, 97], [115, 117, 109], [112, 97, 114, 116], [122], [97, 98, 99, 100, 101, 102, 103, 104]]
theorem names_ok : ∀ l, l ∈ NAMES → NmOk l := by unfold NmOk; decide
theorem one_flat : ∀ {ls : List (List Nat)}, (∀ l, l ∈ ls → ∃ c, l = [c] ∧ c ∈ LET) → ls.flatten.length = ls.length ∧ (∀ c, c ∈ ls.flatten → c ∈ LET) ∧ (ls.map List.length).sum = ls.length
  | [], _ => ⟨rfl, fun _ m => (by cases m), rfl⟩
  | l :: ls, h => by
    obtain ⟨a, b, d⟩ := one_flat fun x m => h x (List.mem_cons_of_mem _ m)
    obtain ⟨c, rfl, hc⟩ := h l List.mem_cons_self
    refine ⟨by simp [a], fun x m => ?_, by simp [d]; omega⟩
    simp only [List.flatten_cons, List.singleton_append, List.mem_cons] at m
    rcases m with rfl | m
    · exact hc
    · exact b x m
theorem name_ok {N : Nat} {S : Sto} {Q : KE} {E : MP.KX} {sp : Nat} {ns : List Int} {k : Int} (hS : S sp = some (.lst [.int k])) (hN : 2 ≤ N) (hk : -1 ≤ k) (hk2 : k < 900000) (hl : ns.length ≤ 63) (q : ∀ l k', NmOk l → k ≤ k' → k' ≤ k + 10 → Q (.str l) (ups S sp (.lst [.int k']))) : cal G N 18 [.rl (ns.map .int), .ref sp] S Q E := by
  obtain ⟨N, rfl⟩ : ∃ M, N = M + 1 := ⟨N - 1, by omega⟩; refine u_cal rfl ?_
  conv => whnf
  (refine cell_ok (by first | exact ups_same | assumption) (by omega) (by omega) (by omega) hl fun z k1 hz hk1 hk1b => ?_; try rw [ups_ups])
  conv => whnf
  refine ⟨by decide, ?_⟩
  conv => whnf
  refine dr_d (fun h1 => ?_) (fun h1 => ?_)
  · conv => whnf
    refine ⟨by decide, ?_⟩
    conv => whnf
    refine Or.inl ?_
    conv => whnf
    (refine cell_ok (by first | exact ups_same | assumption) (by omega) (by omega) (by omega) hl fun z2 k2 hz2 hk2 hk2b => ?_; try rw [ups_ups])
    conv => whnf
    refine ⟨by decide, ?_⟩
    conv => whnf
    have m0 : 0 ≤ z2 % 8 := Int.emod_nonneg _ (by decide)
    have m1 : z2 % 8 < 8 := Int.emod_lt_of_pos _ (by decide)
    obtain ⟨w, mw, e⟩ := at_in (l := NAMES.map W.str) m0 m1
    have e' : L2.atI [W.str [97, 110, 110], W.str [98, 111], W.str [99, 121], W.str [100, 111, 114, 97], W.str [115, 117, 109], W.str [112, 97, 114, 116], W.str [122], W.str [97, 98, 99, 100, 101, 102, 103, 104]] (z2 % 8) = some w := e
    rw [e']
    obtain ⟨l, ml, rfl⟩ := List.mem_map.mp mw
    conv => whnf
    exact dx (q _ _ (names_ok l ml) (by omega) (by omega))
  · conv => whnf
    (refine cell_ok (by first | exact ups_same | assumption) (by omega) (by omega) (by omega) hl fun z2 k2 hz2 hk2 hk2b => ?_; try rw [ups_ups])
    conv => whnf
    refine ⟨by decide, ?_⟩
    conv => whnf
    have m0 : 0 ≤ z2 % 8 := Int.emod_nonneg _ (by decide)
    have m1 : z2 % 8 < 8 := Int.emod_lt_of_pos _ (by decide)
    refine ⟨rfl, ?_⟩
    conv => whnf
    refine ⟨⟨by unfold big; omega, by unfold big; omega⟩, ?_⟩
    have hlen : (rngW 0 (1 + z2 % 8)).length = (1 + z2 % 8).toNat := by unfold rngW; simp
    refine w_lc (fun r acc S1 => ∃ ls k', acc = ls.map W.str ∧ (∀ l, l ∈ ls → ∃ c, l = [c] ∧ c ∈ LET) ∧ acc.length + r.length = (1 + z2 % 8).toNat ∧ k2 ≤ k' ∧ k' ≤ k2 + acc.length ∧ S1 = ups S sp (.lst [.int k'])) (fun r acc S1 h => ⟨trivial, ?_⟩) (fun acc S1 h => ?_) (fun w r acc S1 h k3 hk3 => ?_) _ [] _ ⟨[], k2, rfl, fun _ m => (by cases m), by rw [hlen]; simp, by omega, by simp, rfl⟩
    · obtain ⟨ls, k', e1, e2, e3, e4, e5, e6⟩ := h
      show _ ≤ 16777216
      omega
    · obtain ⟨ls, k', rfl, e2, e3, e4, e5, rfl⟩ := h
      refine Or.inl ?_
      conv => whnf
      rw [strsW_map]
      obtain ⟨f1, f2, f3⟩ := one_flat e2
      simp only [List.length_map, List.length_nil, Nat.add_zero] at e3 e5
      refine ⟨by rw [f3]; show _ ≤ 16777216; simp only [List.length_nil]; omega, ?_⟩
      rw [joinL_flat]
      exact dx (q _ _ ⟨by omega, by omega, f2⟩ (by omega) (by omega))
    · obtain ⟨ls, k', rfl, e2, e3, e4, e5, rfl⟩ := h
      simp only [List.length_map, List.length_cons] at e3 e5
      conv => whnf
      (refine cell_ok (by first | exact ups_same | assumption) (by omega) (by omega) (by omega) hl fun z3 k4 hz3 hk4 hk4b => ?_; try rw [ups_ups])
      conv => whnf
      refine ⟨by decide, ?_⟩
      conv => whnf
      refine ⟨Nat.le_of_ble_eq_true rfl, ?_⟩
      have n0 : 0 ≤ z3 % 26 := Int.emod_nonneg _ (by decide)
      have n1 : z3 % 26 < 26 := Int.emod_lt_of_pos _ (by decide)
      obtain ⟨c, mc, e⟩ := at_in (l := LET) n0 n1
      have e' : L2.atI [97, 98, 99, 100, 101, 102, 103, 104, 105, 106, 107, 108, 109, 110, 111, 112, 113, 114, 115, 116, 117, 118, 119, 120, 121, 122] (z3 % 26) = some c := e
      rw [e']
      exact hk3 _ _ ⟨ls ++ [[c]], k4, by simp, fun x m => by
        rcases List.mem_append.mp m with m | m
        · exact e2 x m
        · rw [List.mem_singleton.mp m]; exact ⟨c, rfl, mc⟩, by simp; omega, by omega, by simp; omega, rfl⟩
end KK
namespace KK
open PySem MP Prog MP.Ru
/-- plain things, of a known kind -/
inductive Kn : W → Prop where
  | non : Kn .non
  | bl (b : Bool) : Kn (.bl b)
  | int (i : Int) : Kn (.int i)
  | str (l : List Nat) (h : l.length ≤ 1000) : Kn (.str l)
  | tup (ws : List W) : Kn (.tup ws)
  | rl (ws : List W) : Kn (.rl ws)
  | rd (ks : List KW) (ws : List W) : Kn (.rd ks ws)
def amW (x : W) (lo hi : Int) : Bool := match x with
  | .int i => decide (lo ≤ i) && decide (i ≤ hi)
  | _ => false
instance (l : List Nat) : Decidable (NmOk l) := by unfold NmOk; infer_instance
def nmW (x : W) : Bool := match x with
  | .str l => decide (NmOk l)
  | _ => false
theorem among_ok {N : Nat} {S : Sto} {Q : KE} {E : MP.KX} {x : W} {lo hi : Int} (hx : Kn x) (hN : 1 ≤ N) (q : Q (.bl (amW x lo hi)) S) : cal G N 1 [x, .int lo, .int hi] S Q E := by
  obtain ⟨N, rfl⟩ : ∃ M, N = M + 1 := ⟨N - 1, by omega⟩; refine u_cal rfl ?_
  cases hx with
  | int i =>
    conv => whnf
    refine dr_d (fun h => ?_) (fun h => ?_)
    · conv => whnf
      have e : amW (.int i) lo hi = decide (i ≤ hi) := by unfold amW; simp [h]
      rw [e] at q
      exact dx q
    · conv => whnf
      have e : amW (.int i) lo hi = false := by unfold amW; simp [h]
      rw [e] at q
      exact dx q
  | _ =>
    conv => whnf
    exact dx q
theorem allb (l : List Nat) : (List.map (fun c => decide (c ∈ LET)) l).all id = decide (∀ c, c ∈ l → c ∈ LET) := by
  induction l with
  | nil => simp
  | cons a r ih => simp [ih]
theorem boolsW_map : ∀ bs : List Bool, boolsW (bs.map W.bl) = some bs
  | [] => rfl
  | b :: bs => by show (boolsW (bs.map W.bl)).map _ = _; rw [boolsW_map bs]; rfl
theorem isname_ok {N : Nat} {S : Sto} {Q : KE} {E : MP.KX} {x : W} (hx : Kn x) (hN : 1 ≤ N) (q : Q (.bl (nmW x)) S) : cal G N 2 [x] S Q E := by
  obtain ⟨N, rfl⟩ : ∃ M, N = M + 1 := ⟨N - 1, by omega⟩; refine u_cal rfl ?_
  cases hx with
  | str l h =>
    conv => whnf
    refine ⟨by show _ ≤ 16777216; omega, ?_⟩
    conv => whnf
    refine dr_d (fun h1 => ?_) (fun h1 => ?_)
    · conv => whnf
      by_cases h2 : ((l.length : Int) ≤ 8)
      · rw [show decide ((l.length : Int) ≤ 8) = true from decide_eq_true h2]
        conv => whnf
        refine w_pure (fun w => match w with
          | .str [c] => some (.bl (decide (c ∈ LET)))
          | _ => none) trivial _ (fun w mw acc k hk => ?_) (by unfold chars; rw [List.length_map]; show _ ≤ 16777216; omega) ?_
        · obtain ⟨c, mc, rfl⟩ := List.mem_map.mp mw
          conv => whnf
          exact hk
        have e : (chars l).filterMap (fun w => match w with
          | .str [c] => some (W.bl (decide (c ∈ LET)))
          | _ => none) = (l.map fun c => decide (c ∈ LET)).map W.bl := by
          unfold chars
          rw [List.filterMap_map, List.map_map]
          exact congrFun (List.filterMap_eq_map (f := fun c => W.bl (decide (c ∈ LET)))) l
        rw [e]
        conv => whnf
        rw [boolsW_map]
        conv => whnf
        rw [allb]
        have e2 : nmW (.str l) = decide (∀ c, c ∈ l → c ∈ LET) := by
          unfold nmW NmOk
          have a : 1 ≤ l.length := by omega
          have b : l.length ≤ 8 := by omega
          simp [a, b]
        rw [e2] at q
        exact dx q
      · rw [show decide ((l.length : Int) ≤ 8) = false from decide_eq_false h2]
        conv => whnf
        have e2 : nmW (.str l) = false := by
          unfold nmW NmOk
          exact decide_eq_false fun z => h2 (by omega)
        rw [e2] at q
        exact dx q
    · conv => whnf
      have e2 : nmW (.str l) = false := by
        unfold nmW NmOk
        exact decide_eq_false fun z => h1 (by omega)
      rw [e2] at q
      exact dx q
  | _ =>
    conv => whnf
    exact dx q
theorem issum_ok {N : Nat} {S : Sto} {Q : KE} {E : MP.KX} {x : W} (hx : Kn x) (hN : 2 ≤ N) (q : Q (.bl (amW x 0 1000000)) S) : cal G N 3 [x] S Q E := by
  obtain ⟨N, rfl⟩ : ∃ M, N = M + 1 := ⟨N - 1, by omega⟩; refine u_cal rfl ?_
  conv => whnf
  refine among_ok hx (by omega) ?_
  exact dx q
end KK
namespace KK
open PySem MP Prog MP.Ru
abbrev fN : Nat := 57340694988831727
abbrev fM : Nat := 65811813337119727
abbrev fS : Nat := 8350121928643296239
def ob (who : List Nat) (top : Int) (l : Nat) : OB := .ins 0 [(fN, .str who), (fM, .int top), (fS, .ref l)]
theorem ups_skip {S : Sto} {p l : Nat} {a b c : OB} (h : l ≠ p) : ups (ups (ups S p a) l b) p c = ups (ups S l b) p c := by
  funext x
  unfold ups
  by_cases h1 : x = p <;> by_cases h2 : x = l <;> simp [h1, h2]
theorem nmW_t {x : W} (h : nmW x = true) : ∃ l, x = .str l ∧ NmOk l := by
  cases x with
  | str l => exact ⟨l, rfl, of_decide_eq_true h⟩
  | _ => cases h
theorem amW_t {x : W} {a b : Int} (h : amW x a b = true) : ∃ i, x = .int i ∧ a ≤ i ∧ i ≤ b := by
  cases x with
  | int i =>
    unfold amW at h
    rw [Bool.and_eq_true] at h
    exact ⟨i, rfl, of_decide_eq_true h.1, of_decide_eq_true h.2⟩
  | _ => cases h
theorem init_all {N : Nat} {S : Sto} {Q : KE} {E : MP.KX} {p : Nat} {who top : W} (hS : S p = some (.ins 0 [])) (hw : Kn who) (ht : Kn top) (hN : 3 ≤ N)
    (q : ∀ l t, who = .str l → top = .int t → NmOk l → 0 ≤ t → t ≤ 1000000 → ∀ a, S a = none → Q .non (ups (ups S a (.lst [])) p (ob l t a)))
    (e1 : nmW who = false → ∃ S2, Ext S2 S ∧ E ⟨6, true, [], []⟩ S2)
    (e2 : nmW who = true → amW top 0 1000000 = false → ∃ S2, Ext S2 S ∧ E ⟨7, true, [], []⟩ S2) : cal G N 5 [.ref p, who, top] S Q E := by
  obtain ⟨N, rfl⟩ : ∃ M, N = M + 1 := ⟨N - 1, by omega⟩; refine u_cal rfl ?_
  (repeat ((conv => whnf); first | refine ⟨Nat.le_of_ble_eq_true rfl, ?_⟩ | refine ⟨trivial, ?_⟩ | refine ⟨⟨trivial, trivial⟩, ?_⟩ | refine ⟨⟨rfl, rfl⟩, ?_⟩ | refine ⟨rfl, rfl, ?_⟩ | refine ⟨rfl, ?_⟩ | refine ⟨by decide, ?_⟩ | refine ⟨⟨by decide, by decide +kernel⟩, ?_⟩)); (conv => whnf)
  refine isname_ok hw (by omega) ?_
  cases hn : nmW who with
  | false => exact e1 hn
  | true =>
    (repeat ((conv => whnf); first | refine ⟨Nat.le_of_ble_eq_true rfl, ?_⟩ | refine ⟨trivial, ?_⟩ | refine ⟨⟨trivial, trivial⟩, ?_⟩ | refine ⟨⟨rfl, rfl⟩, ?_⟩ | refine ⟨rfl, rfl, ?_⟩ | refine ⟨rfl, ?_⟩ | refine ⟨by decide, ?_⟩ | refine ⟨⟨by decide, by decide +kernel⟩, ?_⟩)); (conv => whnf)
    refine issum_ok ht (by omega) ?_
    cases hm : amW top 0 1000000 with
    | false => exact e2 hn hm
    | true =>
      obtain ⟨l, rfl, hl⟩ := nmW_t hn
      obtain ⟨t, rfl, t0, t1⟩ := amW_t hm
      (repeat ((conv => whnf); first | refine ⟨Nat.le_of_ble_eq_true rfl, ?_⟩ | refine ⟨trivial, ?_⟩ | refine ⟨⟨trivial, trivial⟩, ?_⟩ | refine ⟨⟨rfl, rfl⟩, ?_⟩ | refine ⟨rfl, rfl, ?_⟩ | refine ⟨rfl, ?_⟩ | refine ⟨by decide, ?_⟩ | refine ⟨⟨by decide, by decide +kernel⟩, ?_⟩)); (conv => whnf)
      rw [hS]
      (repeat ((conv => whnf); first | refine ⟨Nat.le_of_ble_eq_true rfl, ?_⟩ | refine ⟨trivial, ?_⟩ | refine ⟨⟨trivial, trivial⟩, ?_⟩ | refine ⟨⟨rfl, rfl⟩, ?_⟩ | refine ⟨rfl, rfl, ?_⟩ | refine ⟨rfl, ?_⟩ | refine ⟨by decide, ?_⟩ | refine ⟨⟨by decide, by decide +kernel⟩, ?_⟩)); (conv => whnf)
      rw [ups_same]
      (repeat ((conv => whnf); first | refine ⟨Nat.le_of_ble_eq_true rfl, ?_⟩ | refine ⟨trivial, ?_⟩ | refine ⟨⟨trivial, trivial⟩, ?_⟩ | refine ⟨⟨rfl, rfl⟩, ?_⟩ | refine ⟨rfl, rfl, ?_⟩ | refine ⟨rfl, ?_⟩ | refine ⟨by decide, ?_⟩ | refine ⟨⟨by decide, by decide +kernel⟩, ?_⟩)); (conv => whnf)
      rw [ups_ups]
      refine Or.inr fun a ha => ?_
      have hlp : a ≠ p := fun e => by rw [e, ups_same] at ha; cases ha
      rw [ups_ne hlp] at ha
      (repeat ((conv => whnf); first | refine ⟨Nat.le_of_ble_eq_true rfl, ?_⟩ | refine ⟨trivial, ?_⟩ | refine ⟨⟨trivial, trivial⟩, ?_⟩ | refine ⟨⟨rfl, rfl⟩, ?_⟩ | refine ⟨rfl, rfl, ?_⟩ | refine ⟨rfl, ?_⟩ | refine ⟨by decide, ?_⟩ | refine ⟨⟨by decide, by decide +kernel⟩, ?_⟩)); (conv => whnf)
      rw [ups_ne (Ne.symm hlp), ups_same]
      (repeat ((conv => whnf); first | refine ⟨Nat.le_of_ble_eq_true rfl, ?_⟩ | refine ⟨trivial, ?_⟩ | refine ⟨⟨trivial, trivial⟩, ?_⟩ | refine ⟨⟨rfl, rfl⟩, ?_⟩ | refine ⟨rfl, rfl, ?_⟩ | refine ⟨rfl, ?_⟩ | refine ⟨by decide, ?_⟩ | refine ⟨⟨by decide, by decide +kernel⟩, ?_⟩)); (conv => whnf)
      rw [ups_skip hlp]
      exact dx (q l t rfl rfl hl t0 t1 a ha)
theorem nameof_ok {N : Nat} {S : Sto} {Q : KE} {E : MP.KX} {p l : Nat} {who : List Nat} {top : Int} (hS : S p = some (ob who top l)) (hN : 1 ≤ N) (q : Q (.str who) S) : cal G N 6 [.ref p] S Q E := by
  obtain ⟨N, rfl⟩ : ∃ M, N = M + 1 := ⟨N - 1, by omega⟩; refine u_cal rfl ?_
  (repeat ((conv => whnf); first | refine ⟨Nat.le_of_ble_eq_true rfl, ?_⟩ | refine ⟨trivial, ?_⟩ | refine ⟨⟨trivial, trivial⟩, ?_⟩ | refine ⟨⟨rfl, rfl⟩, ?_⟩ | refine ⟨rfl, rfl, ?_⟩ | refine ⟨rfl, ?_⟩ | refine ⟨by decide, ?_⟩ | refine ⟨⟨by decide, by decide +kernel⟩, ?_⟩)); (conv => whnf)
  rw [hS]
  (repeat ((conv => whnf); first | refine ⟨Nat.le_of_ble_eq_true rfl, ?_⟩ | refine ⟨trivial, ?_⟩ | refine ⟨⟨trivial, trivial⟩, ?_⟩ | refine ⟨⟨rfl, rfl⟩, ?_⟩ | refine ⟨rfl, rfl, ?_⟩ | refine ⟨rfl, ?_⟩ | refine ⟨by decide, ?_⟩ | refine ⟨⟨by decide, by decide +kernel⟩, ?_⟩)); (conv => whnf)
  exact dx q
theorem mostof_ok {N : Nat} {S : Sto} {Q : KE} {E : MP.KX} {p l : Nat} {who : List Nat} {top : Int} (hS : S p = some (ob who top l)) (hN : 1 ≤ N) (q : Q (.int top) S) : cal G N 7 [.ref p] S Q E := by
  obtain ⟨N, rfl⟩ : ∃ M, N = M + 1 := ⟨N - 1, by omega⟩; refine u_cal rfl ?_
  (repeat ((conv => whnf); first | refine ⟨Nat.le_of_ble_eq_true rfl, ?_⟩ | refine ⟨trivial, ?_⟩ | refine ⟨⟨trivial, trivial⟩, ?_⟩ | refine ⟨⟨rfl, rfl⟩, ?_⟩ | refine ⟨rfl, rfl, ?_⟩ | refine ⟨rfl, ?_⟩ | refine ⟨by decide, ?_⟩ | refine ⟨⟨by decide, by decide +kernel⟩, ?_⟩)); (conv => whnf)
  rw [hS]
  (repeat ((conv => whnf); first | refine ⟨Nat.le_of_ble_eq_true rfl, ?_⟩ | refine ⟨trivial, ?_⟩ | refine ⟨⟨trivial, trivial⟩, ?_⟩ | refine ⟨⟨rfl, rfl⟩, ?_⟩ | refine ⟨rfl, rfl, ?_⟩ | refine ⟨rfl, ?_⟩ | refine ⟨by decide, ?_⟩ | refine ⟨⟨by decide, by decide +kernel⟩, ?_⟩)); (conv => whnf)
  exact dx q
theorem steps_ok {N : Nat} {S : Sto} {Q : KE} {E : MP.KX} {p l : Nat} {who : List Nat} {top : Int} {steps : List W} (hS : S p = some (ob who top l)) (hl : S l = some (.lst steps)) (hN : 1 ≤ N) (q : Q (.rl steps) S) : cal G N 8 [.ref p] S Q E := by
  obtain ⟨N, rfl⟩ : ∃ M, N = M + 1 := ⟨N - 1, by omega⟩; refine u_cal rfl ?_
  (repeat ((conv => whnf); first | refine ⟨Nat.le_of_ble_eq_true rfl, ?_⟩ | refine ⟨trivial, ?_⟩ | refine ⟨⟨trivial, trivial⟩, ?_⟩ | refine ⟨⟨rfl, rfl⟩, ?_⟩ | refine ⟨rfl, rfl, ?_⟩ | refine ⟨rfl, ?_⟩ | refine ⟨by decide, ?_⟩ | refine ⟨⟨by decide, by decide +kernel⟩, ?_⟩)); (conv => whnf)
  rw [hS]
  (repeat ((conv => whnf); first | refine ⟨Nat.le_of_ble_eq_true rfl, ?_⟩ | refine ⟨trivial, ?_⟩ | refine ⟨⟨trivial, trivial⟩, ?_⟩ | refine ⟨⟨rfl, rfl⟩, ?_⟩ | refine ⟨rfl, rfl, ?_⟩ | refine ⟨rfl, ?_⟩ | refine ⟨by decide, ?_⟩ | refine ⟨⟨by decide, by decide +kernel⟩, ?_⟩)); (conv => whnf)
  rw [rowW_l hl]
  (repeat ((conv => whnf); first | refine ⟨Nat.le_of_ble_eq_true rfl, ?_⟩ | refine ⟨trivial, ?_⟩ | refine ⟨⟨trivial, trivial⟩, ?_⟩ | refine ⟨⟨rfl, rfl⟩, ?_⟩ | refine ⟨rfl, rfl, ?_⟩ | refine ⟨rfl, ?_⟩ | refine ⟨by decide, ?_⟩ | refine ⟨⟨by decide, by decide +kernel⟩, ?_⟩)); (conv => whnf)
  refine Or.inl ?_
  exact dx q
theorem stepsT_ok {N : Nat} {S : Sto} {Q : KE} {E : MP.KX} {p l : Nat} {who : List Nat} {top : Int} {steps : List W} (hS : S p = some (ob who top l)) (hl : S l = some (.lst steps)) (hN : 1 ≤ N) (q : ∀ a, S a = none → Q (.ref a) (ups S a (.lst steps))) : cal G N 8 [.ref p] S Q E := by
  obtain ⟨N, rfl⟩ : ∃ M, N = M + 1 := ⟨N - 1, by omega⟩; refine u_cal rfl ?_
  (repeat ((conv => whnf); first | refine ⟨Nat.le_of_ble_eq_true rfl, ?_⟩ | refine ⟨trivial, ?_⟩ | refine ⟨⟨trivial, trivial⟩, ?_⟩ | refine ⟨⟨rfl, rfl⟩, ?_⟩ | refine ⟨rfl, rfl, ?_⟩ | refine ⟨rfl, ?_⟩ | refine ⟨by decide, ?_⟩ | refine ⟨⟨by decide, by decide +kernel⟩, ?_⟩)); (conv => whnf)
  rw [hS]
  (repeat ((conv => whnf); first | refine ⟨Nat.le_of_ble_eq_true rfl, ?_⟩ | refine ⟨trivial, ?_⟩ | refine ⟨⟨trivial, trivial⟩, ?_⟩ | refine ⟨⟨rfl, rfl⟩, ?_⟩ | refine ⟨rfl, rfl, ?_⟩ | refine ⟨rfl, ?_⟩ | refine ⟨by decide, ?_⟩ | refine ⟨⟨by decide, by decide +kernel⟩, ?_⟩)); (conv => whnf)
  rw [rowW_l hl]
  (repeat ((conv => whnf); first | refine ⟨Nat.le_of_ble_eq_true rfl, ?_⟩ | refine ⟨trivial, ?_⟩ | refine ⟨⟨trivial, trivial⟩, ?_⟩ | refine ⟨⟨rfl, rfl⟩, ?_⟩ | refine ⟨rfl, rfl, ?_⟩ | refine ⟨rfl, ?_⟩ | refine ⟨by decide, ?_⟩ | refine ⟨⟨by decide, by decide +kernel⟩, ?_⟩)); (conv => whnf)
  refine Or.inr fun a ha => ?_
  exact dx (q a ha)
theorem plen_ok {N : Nat} {S : Sto} {Q : KE} {E : MP.KX} {p l : Nat} {who : List Nat} {top : Int} {steps : List W} (hS : S p = some (ob who top l)) (hl : S l = some (.lst steps)) (hz : steps.length ≤ 1000) (hN : 1 ≤ N) (q : Q (.int steps.length) S) : cal G N 14 [.ref p] S Q E := by
  obtain ⟨N, rfl⟩ : ∃ M, N = M + 1 := ⟨N - 1, by omega⟩; refine u_cal rfl ?_
  (repeat ((conv => whnf); first | refine ⟨Nat.le_of_ble_eq_true rfl, ?_⟩ | refine ⟨trivial, ?_⟩ | refine ⟨⟨trivial, trivial⟩, ?_⟩ | refine ⟨⟨rfl, rfl⟩, ?_⟩ | refine ⟨rfl, rfl, ?_⟩ | refine ⟨rfl, ?_⟩ | refine ⟨by decide, ?_⟩ | refine ⟨⟨by decide, by decide +kernel⟩, ?_⟩)); (conv => whnf)
  rw [hS]
  (repeat ((conv => whnf); first | refine ⟨Nat.le_of_ble_eq_true rfl, ?_⟩ | refine ⟨trivial, ?_⟩ | refine ⟨⟨trivial, trivial⟩, ?_⟩ | refine ⟨⟨rfl, rfl⟩, ?_⟩ | refine ⟨rfl, rfl, ?_⟩ | refine ⟨rfl, ?_⟩ | refine ⟨by decide, ?_⟩ | refine ⟨⟨by decide, by decide +kernel⟩, ?_⟩)); (conv => whnf)
  rw [hl]
  (repeat ((conv => whnf); first | refine ⟨Nat.le_of_ble_eq_true rfl, ?_⟩ | refine ⟨trivial, ?_⟩ | refine ⟨⟨trivial, trivial⟩, ?_⟩ | refine ⟨⟨rfl, rfl⟩, ?_⟩ | refine ⟨rfl, rfl, ?_⟩ | refine ⟨rfl, ?_⟩ | refine ⟨by decide, ?_⟩ | refine ⟨⟨by decide, by decide +kernel⟩, ?_⟩)); (conv => whnf)
  rw [len_l hl]
  (repeat ((conv => whnf); first | refine ⟨Nat.le_of_ble_eq_true rfl, ?_⟩ | refine ⟨trivial, ?_⟩ | refine ⟨⟨trivial, trivial⟩, ?_⟩ | refine ⟨⟨rfl, rfl⟩, ?_⟩ | refine ⟨rfl, rfl, ?_⟩ | refine ⟨rfl, ?_⟩ | refine ⟨by decide, ?_⟩ | refine ⟨⟨by decide, by decide +kernel⟩, ?_⟩)); (conv => whnf)
  refine ⟨by show _ ≤ 16777216; omega, ?_⟩
  exact dx q
end KK
namespace KK
open PySem MP Prog MP.Ru
theorem cut_len' {α : Type} {xs : List α} {lo hi : Option Int} : (cut xs lo hi).length ≤ xs.length := by
  unfold cut
  rw [List.length_take, List.length_drop]
  omega
def SIGNS : List Nat := [32, 33, 34, 35, 36, 38, 40, 41, 42, 43, 44, 45, 46, 47, 48, 49, 50, 51, 52, 53, 54, 55, 56, 57, 58, 59, 60, 61, 62, 63, 64, 65, 66, 67, 68, 69, 70, 71, 72, 73, 74, 75, 76, 77, 78, 79, 80, 81, 82, 83, 84, 85, 86, 87, 88, 89, 90, 91, 93, 94, 95, 96, 123, 124, 125, 126, 39]
theorem signs_no : ∀ c, c ∈ SIGNS → c ∉ LET := by decide
theorem spoilt_ok {N : Nat} {S : Sto} {Q : KE} {E : MP.KX} {sp : Nat} {ns : List Int} {k : Int} {who : List Nat} (hw : NmOk who) (hS : S sp = some (.lst [.int k])) (hN : 2 ≤ N) (hk : -1 ≤ k) (hk2 : k < 900000) (hl : ns.length ≤ 63) (q : ∀ l k', l.length ≤ 100 → (∃ c, c ∈ l ∧ c ∉ LET) → k ≤ k' → k' ≤ k + 2 → Q (.str l) (ups S sp (.lst [.int k']))) : cal G N 20 [.str who, .rl (ns.map .int), .ref sp] S Q E := by
  obtain ⟨N, rfl⟩ : ∃ M, N = M + 1 := ⟨N - 1, by omega⟩; refine u_cal rfl ?_
  obtain ⟨w1, w2, w3⟩ := hw
  refine s_at 1 (fun σ S1 => S1 = S ∧ σ = [some (.str who), some (.rl (ns.map .int)), some (.ref sp), some (.str SIGNS), none]) (fun nx hn => ?_) ?_
  · conv => whnf
    refine ⟨Nat.le_of_ble_eq_true rfl, ?_⟩
    exact hn _ _ ⟨rfl, rfl⟩
  rintro σ S1 ⟨rfl, rfl⟩
  have hsl : SIGNS.length = 67 := by decide
  have hat := @at_in Nat SIGNS
  rw [hsl] at hat
  have hno := signs_no
  generalize SIGNS = G0 at *
  conv => whnf
  (refine cell_ok (by first | exact ups_same | assumption) (by omega) (by omega) (by omega) hl fun z k1 hz hk1 hk1b => ?_; try rw [ups_ups])
  conv => whnf
  refine ⟨by show _ ≤ 16777216; omega, ?_⟩
  conv => whnf
  have zz0 := Int.emod_nonneg z (b := (who.length : Int) + 1) (by omega)
  refine ⟨by omega, ?_⟩
  conv => whnf
  refine ⟨by show _ ≤ 16777216; omega, ?_⟩
  conv => whnf
  (refine cell_ok (by first | exact ups_same | assumption) (by omega) (by omega) (by omega) hl fun z2 k2 hz2 hk2 hk2b => ?_; try rw [ups_ups])
  conv => whnf
  refine ⟨by show _ ≤ 16777216; omega, ?_⟩
  conv => whnf
  rw [hsl]
  refine ⟨by omega, ?_⟩
  conv => whnf
  refine ⟨by show _ ≤ 16777216; omega, ?_⟩
  have n0 : 0 ≤ z2 % 67 := Int.emod_nonneg _ (by decide)
  have n1 : z2 % 67 < 67 := Int.emod_lt_of_pos _ (by decide)
  obtain ⟨c, mc, e⟩ := hat n0 (by omega)
  rw [show ((67 : Nat) : Int) = 67 from rfl, e]
  conv => whnf
  have c1 := cut_len' (xs := who) (lo := none) (hi := some (z % ((who.length : Int) + 1)))
  refine ⟨by rw [List.length_singleton]; show _ ≤ 16777216; omega, ?_⟩
  conv => whnf
  refine ⟨by show _ ≤ 16777216; omega, ?_⟩
  conv => whnf
  refine ⟨⟨by decide, by decide +kernel⟩, ?_⟩
  conv => whnf
  refine ⟨by show _ ≤ 16777216; omega, ?_⟩
  conv => whnf
  have c2 := cut_len' (xs := who) (lo := some (z % ((who.length : Int) + 1) + (who.length : Int) / 8)) (hi := none)
  refine ⟨by rw [List.length_append, List.length_singleton]; show _ ≤ 16777216; omega, ?_⟩
  refine dx (q _ k2 ?_ ⟨c, ?_, hno c mc⟩ (by omega) (by omega))
  · rw [List.length_append, List.length_append, List.length_singleton]; omega
  · simp
end KK
namespace KK
open PySem MP Prog MP.Ru
theorem made_ok {N : Nat} {S : Sto} {Q : KE} {E : MP.KX} {who top : W} {way : Int} (hw : Kn who) (ht : Kn top) (hy : way = 0 ∨ way = 1 ∨ way = 2) (hN : 4 ≤ N)
    (q1 : ∀ l t, who = .str l → top = .int t → NmOk l → 0 ≤ t → t ≤ 1000000 → Q (.rl [who, top, .rl [], .int 0, .bl false]) S)
    (q2 : nmW who = false → Q (.str [119, 104, 111]) S)
    (q3 : nmW who = true → amW top 0 1000000 = false → Q (.str [115, 117, 109]) S) : cal G N 21 [.int way, who, top] S Q E := by
  obtain ⟨N, rfl⟩ : ∃ M, N = M + 1 := ⟨N - 1, by omega⟩; refine u_cal rfl ?_
  refine s_at 3 (fun σ S1 => (∃ l t a p, who = .str l ∧ top = .int t ∧ NmOk l ∧ 0 ≤ t ∧ t ≤ 1000000 ∧ S p = none ∧ a ≠ p ∧ S a = none ∧ S1 = ups (ups S a (.lst [])) p (ob l t a) ∧ σ = [some (.int way), some who, some top, some .non, some (.ref p), none, none, none]) ∨ (nmW who = false ∧ S1 = S ∧ σ = [some (.int way), some who, some top, some (.xc 6 [] []), some .non, none, none, none]) ∨ (nmW who = true ∧ amW top 0 1000000 = false ∧ S1 = S ∧ σ = [some (.int way), some who, some top, some (.xc 7 [] []), some .non, none, none, none])) (fun nx hn => ?_) ?_
  · rcases hy with rfl | rfl | rfl
    all_goals
      (repeat ((conv => whnf); first | refine ⟨Nat.le_of_ble_eq_true rfl, ?_⟩ | refine ⟨trivial, ?_⟩ | refine ⟨⟨trivial, trivial⟩, ?_⟩ | refine ⟨⟨rfl, rfl⟩, ?_⟩ | refine ⟨rfl, rfl, ?_⟩ | refine ⟨rfl, ?_⟩ | refine ⟨by decide, ?_⟩ | refine ⟨⟨by decide, by decide +kernel⟩, ?_⟩)); (conv => whnf)
      intro p hp
      (repeat ((conv => whnf); first | refine ⟨Nat.le_of_ble_eq_true rfl, ?_⟩ | refine ⟨trivial, ?_⟩ | refine ⟨⟨trivial, trivial⟩, ?_⟩ | refine ⟨⟨rfl, rfl⟩, ?_⟩ | refine ⟨rfl, rfl, ?_⟩ | refine ⟨rfl, ?_⟩ | refine ⟨by decide, ?_⟩ | refine ⟨⟨by decide, by decide +kernel⟩, ?_⟩)); (conv => whnf)
      refine init_all ups_same hw ht (by omega) (fun l t e1 e2 h1 h2 h3 a ha => ⟨rfl, ?_⟩) (fun e => ⟨S, xs_a hp, ?_⟩) (fun e e' => ⟨S, xs_a hp, ?_⟩)
      · have hap : a ≠ p := fun z => by rw [z, ups_same] at ha; cases ha
        rw [ups_ne hap] at ha
        rw [ups_skip hap]
        exact hn _ _ (.inl ⟨l, t, a, p, e1, e2, h1, h2, h3, hp, hap, ha, rfl, rfl⟩)
      · conv => whnf
        refine ⟨rfl, ?_⟩
        conv => whnf
        exact hn _ _ (.inr (.inl ⟨e, rfl, rfl⟩))
      · conv => whnf
        refine ⟨rfl, ?_⟩
        conv => whnf
        exact hn _ _ (.inr (.inr ⟨e, e', rfl, rfl⟩))
  rintro σ S1 (⟨l, t, a, p, rfl, rfl, h1, h2, h3, hp, hap, ha, rfl, rfl⟩ | ⟨hn, rfl, rfl⟩ | ⟨hn, hm, rfl, rfl⟩)
  · have e1 : (ups (ups S a (.lst [])) p (ob l t a)) p = some (ob l t a) := ups_same
    have e2 : (ups (ups S a (.lst [])) p (ob l t a)) a = some (.lst []) := by rw [ups_ne hap, ups_same]
    have hx : Ext S (ups (ups S a (.lst [])) p (ob l t a)) := fun b u e => by
      rw [ups_ne (ne_fresh e hp), ups_ne (ne_fresh e ha)]; exact e
    generalize ups (ups S a (.lst [])) p (ob l t a) = S1 at *
    (repeat ((conv => whnf); first | refine ⟨Nat.le_of_ble_eq_true rfl, ?_⟩ | refine ⟨trivial, ?_⟩ | refine ⟨⟨trivial, trivial⟩, ?_⟩ | refine ⟨⟨rfl, rfl⟩, ?_⟩ | refine ⟨rfl, rfl, ?_⟩ | refine ⟨rfl, ?_⟩ | refine ⟨by decide, ?_⟩ | refine ⟨⟨by decide, by decide +kernel⟩, ?_⟩)); (conv => whnf)
    rw [e1]
    (repeat ((conv => whnf); first | refine ⟨Nat.le_of_ble_eq_true rfl, ?_⟩ | refine ⟨trivial, ?_⟩ | refine ⟨⟨trivial, trivial⟩, ?_⟩ | refine ⟨⟨rfl, rfl⟩, ?_⟩ | refine ⟨rfl, rfl, ?_⟩ | refine ⟨rfl, ?_⟩ | refine ⟨by decide, ?_⟩ | refine ⟨⟨by decide, by decide +kernel⟩, ?_⟩)); (conv => whnf)
    refine nameof_ok e1 (by omega) ?_
    (repeat ((conv => whnf); first | refine ⟨Nat.le_of_ble_eq_true rfl, ?_⟩ | refine ⟨trivial, ?_⟩ | refine ⟨⟨trivial, trivial⟩, ?_⟩ | refine ⟨⟨rfl, rfl⟩, ?_⟩ | refine ⟨rfl, rfl, ?_⟩ | refine ⟨rfl, ?_⟩ | refine ⟨by decide, ?_⟩ | refine ⟨⟨by decide, by decide +kernel⟩, ?_⟩)); (conv => whnf)
    rw [e1]
    (repeat ((conv => whnf); first | refine ⟨Nat.le_of_ble_eq_true rfl, ?_⟩ | refine ⟨trivial, ?_⟩ | refine ⟨⟨trivial, trivial⟩, ?_⟩ | refine ⟨⟨rfl, rfl⟩, ?_⟩ | refine ⟨rfl, rfl, ?_⟩ | refine ⟨rfl, ?_⟩ | refine ⟨by decide, ?_⟩ | refine ⟨⟨by decide, by decide +kernel⟩, ?_⟩)); (conv => whnf)
    refine mostof_ok e1 (by omega) ?_
    (repeat ((conv => whnf); first | refine ⟨Nat.le_of_ble_eq_true rfl, ?_⟩ | refine ⟨trivial, ?_⟩ | refine ⟨⟨trivial, trivial⟩, ?_⟩ | refine ⟨⟨rfl, rfl⟩, ?_⟩ | refine ⟨rfl, rfl, ?_⟩ | refine ⟨rfl, ?_⟩ | refine ⟨by decide, ?_⟩ | refine ⟨⟨by decide, by decide +kernel⟩, ?_⟩)); (conv => whnf)
    rw [e1]
    (repeat ((conv => whnf); first | refine ⟨Nat.le_of_ble_eq_true rfl, ?_⟩ | refine ⟨trivial, ?_⟩ | refine ⟨⟨trivial, trivial⟩, ?_⟩ | refine ⟨⟨rfl, rfl⟩, ?_⟩ | refine ⟨rfl, rfl, ?_⟩ | refine ⟨rfl, ?_⟩ | refine ⟨by decide, ?_⟩ | refine ⟨⟨by decide, by decide +kernel⟩, ?_⟩)); (conv => whnf)
    refine steps_ok e1 e2 (by omega) ?_
    (repeat ((conv => whnf); first | refine ⟨Nat.le_of_ble_eq_true rfl, ?_⟩ | refine ⟨trivial, ?_⟩ | refine ⟨⟨trivial, trivial⟩, ?_⟩ | refine ⟨⟨rfl, rfl⟩, ?_⟩ | refine ⟨rfl, rfl, ?_⟩ | refine ⟨rfl, ?_⟩ | refine ⟨by decide, ?_⟩ | refine ⟨⟨by decide, by decide +kernel⟩, ?_⟩)); (conv => whnf)
    rw [e1]
    (repeat ((conv => whnf); first | refine ⟨Nat.le_of_ble_eq_true rfl, ?_⟩ | refine ⟨trivial, ?_⟩ | refine ⟨⟨trivial, trivial⟩, ?_⟩ | refine ⟨⟨rfl, rfl⟩, ?_⟩ | refine ⟨rfl, rfl, ?_⟩ | refine ⟨rfl, ?_⟩ | refine ⟨by decide, ?_⟩ | refine ⟨⟨by decide, by decide +kernel⟩, ?_⟩)); (conv => whnf)
    refine plen_ok e1 e2 (by simp) (by omega) ?_
    (repeat ((conv => whnf); first | refine ⟨Nat.le_of_ble_eq_true rfl, ?_⟩ | refine ⟨trivial, ?_⟩ | refine ⟨⟨trivial, trivial⟩, ?_⟩ | refine ⟨⟨rfl, rfl⟩, ?_⟩ | refine ⟨rfl, rfl, ?_⟩ | refine ⟨rfl, ?_⟩ | refine ⟨by decide, ?_⟩ | refine ⟨⟨by decide, by decide +kernel⟩, ?_⟩)); (conv => whnf)
    rw [e1]
    (repeat ((conv => whnf); first | refine ⟨Nat.le_of_ble_eq_true rfl, ?_⟩ | refine ⟨trivial, ?_⟩ | refine ⟨⟨trivial, trivial⟩, ?_⟩ | refine ⟨⟨rfl, rfl⟩, ?_⟩ | refine ⟨rfl, rfl, ?_⟩ | refine ⟨rfl, ?_⟩ | refine ⟨by decide, ?_⟩ | refine ⟨⟨by decide, by decide +kernel⟩, ?_⟩)); (conv => whnf)
    refine plen_ok e1 e2 (by simp) (by omega) ?_
    (repeat ((conv => whnf); first | refine ⟨Nat.le_of_ble_eq_true rfl, ?_⟩ | refine ⟨trivial, ?_⟩ | refine ⟨⟨trivial, trivial⟩, ?_⟩ | refine ⟨⟨rfl, rfl⟩, ?_⟩ | refine ⟨rfl, rfl, ?_⟩ | refine ⟨rfl, ?_⟩ | refine ⟨by decide, ?_⟩ | refine ⟨⟨by decide, by decide +kernel⟩, ?_⟩)); (conv => whnf)
    refine Or.inl ?_
    exact ⟨S, hx, q1 l t rfl rfl h1 h2 h3⟩
  · (repeat ((conv => whnf); first | refine ⟨Nat.le_of_ble_eq_true rfl, ?_⟩ | refine ⟨trivial, ?_⟩ | refine ⟨⟨trivial, trivial⟩, ?_⟩ | refine ⟨⟨rfl, rfl⟩, ?_⟩ | refine ⟨rfl, rfl, ?_⟩ | refine ⟨rfl, ?_⟩ | refine ⟨by decide, ?_⟩ | refine ⟨⟨by decide, by decide +kernel⟩, ?_⟩ | refine Or.inl ?_)); (conv => whnf)
    exact dx (q2 hn)
  · (repeat ((conv => whnf); first | refine ⟨Nat.le_of_ble_eq_true rfl, ?_⟩ | refine ⟨trivial, ?_⟩ | refine ⟨⟨trivial, trivial⟩, ?_⟩ | refine ⟨⟨rfl, rfl⟩, ?_⟩ | refine ⟨rfl, rfl, ?_⟩ | refine ⟨rfl, ?_⟩ | refine ⟨by decide, ?_⟩ | refine ⟨⟨by decide, by decide +kernel⟩, ?_⟩ | refine Or.inl ?_)); (conv => whnf)
    exact dx (q3 hn hm)
theorem nmW_s {l : List Nat} (h : NmOk l) : nmW (.str l) = true := decide_eq_true h
theorem kn_nm {l : List Nat} (h : NmOk l) : Kn (.str l) := .str l (by have := h.2.1; omega)
theorem amW_s {t : Int} (h0 : 0 ≤ t) (h1 : t ≤ 1000000) : amW (.int t) 0 1000000 = true := by unfold amW; simp [h0, h1]
theorem made_good {N : Nat} {S : Sto} {Q : KE} {E : MP.KX} {l : List Nat} {t way : Int} (h : NmOk l) (h0 : 0 ≤ t) (h1 : t ≤ 1000000) (hy : way = 0 ∨ way = 1 ∨ way = 2) (hN : 4 ≤ N) (q : Q (.rl [.str l, .int t, .rl [], .int 0, .bl false]) S) : cal G N 21 [.int way, .str l, .int t] S Q E :=
  made_ok (kn_nm h) (.int t) hy hN (fun _ _ _ _ _ _ _ => q) (fun z => by rw [nmW_s h] at z; cases z) fun _ z => by rw [amW_s h0 h1] at z; cases z
theorem made_who {N : Nat} {S : Sto} {Q : KE} {E : MP.KX} {who top : W} {way : Int} (hw : Kn who) (ht : Kn top) (hn : nmW who = false) (hy : way = 0 ∨ way = 1 ∨ way = 2) (hN : 4 ≤ N) (q : Q (.str [119, 104, 111]) S) : cal G N 21 [.int way, who, top] S Q E :=
  made_ok hw ht hy hN (fun l t e _ h _ _ => by rw [e, nmW_s h] at hn; cases hn) (fun _ => q) fun z => by rw [hn] at z; cases z
theorem made_sum {N : Nat} {S : Sto} {Q : KE} {E : MP.KX} {l : List Nat} {top : W} {way : Int} (h : NmOk l) (ht : Kn top) (hn : amW top 0 1000000 = false) (hy : way = 0 ∨ way = 1 ∨ way = 2) (hN : 4 ≤ N) (q : Q (.str [115, 117, 109]) S) : cal G N 21 [.int way, .str l, top] S Q E :=
  made_ok (kn_nm h) ht hy hN (fun l t _ e _ h0 h1 => by rw [e, amW_s h0 h1] at hn; cases hn) (fun z => by rw [nmW_s h] at z; cases z) fun _ _ => q
theorem up_bad {l : List Nat} (h : NmOk l) : ∃ l', (Txt.upper (S' l)).cps.toList = l' ∧ l'.length ≤ 8 ∧ ∃ c, c ∈ l' ∧ c ∉ LET := by
  have h1 := h.1
  have e : Txt.upper (S' l) = S' (l.map PyProof.Rows.up1) := SX.upper_S (List.all_eq_true.mpr fun c m => decide_eq_true ((by decide : ∀ c, c ∈ LET → c < 128) c (h.2.2 c m)))
  refine ⟨l.map PyProof.Rows.up1, by rw [e], by rw [List.length_map]; exact h.2.1, ?_⟩
  cases l with
  | nil => simp at h1
  | cons c r => exact ⟨PyProof.Rows.up1 c, by simp, (by decide : ∀ c, c ∈ LET → PyProof.Rows.up1 c ∉ LET) c (h.2.2 c List.mem_cons_self)⟩
theorem nmW_bad {l : List Nat} (h : ∃ c, c ∈ l ∧ c ∉ LET) : nmW (.str l) = false := decide_eq_false fun z => by
  obtain ⟨c, m, n⟩ := h
  exact n (z.2.2 c m)
end KK
namespace KK
open PySem MP Prog MP.Ru
def sAt : Nat → Sm → Sm
  | 0, .cons s _ => s
  | n + 1, .cons _ r => sAt n r
  | _, s => s
def fBody : Sm → Sm
  | .for_ _ _ b => b
  | s => s
def tbody : Sm := fBody (sAt 2 b22)
def ELD : List Nat := [101, 108, 100, 101, 114]
theorem pl_nm {n : Nat} {l : List Nat} (h : NmOk l) : Pl n (.str l) := .str fun c m => (by decide : ∀ c, c ∈ LET → c < 0x110000) c (h.2.2 c m)
theorem pl_i {n : Nat} {t : Int} (h0 : -1000000 ≤ t) (h1 : t ≤ 1000000) : Pl n (.int t) := .int (lg19 (by omega) (by omega))
/-- what the law keeps through -/
structure Kp2 (S : Sto) (sp ep el : Nat) (k : Int) : Prop where
  s : S sp = some (.lst [.int k])
  e : S ep = some (ob ELD 1000000 el)
  l : S el = some (.lst [])
theorem Kp2.ext {S S1 : Sto} {sp ep el : Nat} {k : Int} (h : Kp2 S sp ep el k) (x : Ext S S1) : Kp2 S1 sp ep el k := ⟨x _ _ h.s, x _ _ h.e, x _ _ h.l⟩
theorem Kp2.cell {S : Sto} {sp ep el : Nat} {k k' : Int} (h : Kp2 S sp ep el k) (n : sp ≠ el) : Kp2 (ups S sp (.lst [.int k'])) sp ep el k' := by
  refine ⟨ups_same, ?_, ?_⟩
  · rw [ups_ne (fun z => by have := h.e; rw [z, h.s] at this; cases this)]; exact h.e
  · rw [ups_ne (Ne.symm n)]; exact h.l
theorem tbody_ok {N : Nat} {X : KXS} {S : Sto} {sp ep el : Nat} {ns : List Int} {k : Int} {nx bk ct : Sl → Sto → Prop} {rt : KE} {w0 w2 w5 w6 w7 w8 w9 w10 w11 : Option W}
    (K : Kp2 S sp ep el k) (hne : sp ≠ el) (hN : 8 ≤ N) (hk : -1 ≤ k) (hk2 : k < 600000) (hl : ns.length ≤ 63)
    (q : ∀ w5 w6 w7 w8 w9 w10 w11 k' S', k ≤ k' → k' ≤ k + 100 → Kp2 S' sp ep el k' → nx [w0, some (.ref ep), w2, some (.rl (ns.map .int)), some (.ref sp), w5, w6, w7, w8, w9, w10, w11] S') :
    rdS G (cal G N) tbody X ⟨nx, rt, bk, ct⟩ [w0, some (.ref ep), w2, some (.rl (ns.map .int)), some (.ref sp), w5, w6, w7, w8, w9, w10, w11] S := by
  have hS := K.s
  refine s_at 2 (fun σ S1 => ∃ w5 who t k1, NmOk who ∧ 0 ≤ t ∧ t ≤ 1000000 ∧ k ≤ k1 ∧ k1 ≤ k + 20 ∧ Kp2 S1 sp ep el k1 ∧ σ = [w0, some (.ref ep), w2, some (.rl (ns.map .int)), some (.ref sp), w5, w6, w7, some (.str who), some (.int t), w10, w11]) (fun nx hn => ?_) ?_
  · conv => whnf
    (refine name_ok (by first | exact ups_same | assumption) (by omega) (by omega) (by omega) hl fun who k1 hwho hk1 hk1b => ?_; try rw [ups_ups])
    conv => whnf
    (refine sum_ok (by first | exact ups_same | assumption) (by omega) (by omega) (by omega) hl fun t k2 ht htb hk2 hk2b => ?_; try rw [ups_ups])
    (repeat ((conv => whnf); first | refine ⟨Nat.le_of_ble_eq_true rfl, ?_⟩ | refine ⟨trivial, ?_⟩ | refine ⟨⟨trivial, trivial⟩, ?_⟩ | refine ⟨⟨rfl, rfl⟩, ?_⟩ | refine ⟨rfl, rfl, ?_⟩ | refine ⟨rfl, ?_⟩ | refine ⟨by decide, ?_⟩ | refine ⟨⟨by decide, by decide +kernel⟩, ?_⟩ | refine Or.inl ?_)); (conv => whnf)
    have w2' := hwho.2.1
    have hpl : Pl 2 (.rl [.str who, .int t, .rl [], .int 0, .bl false]) := .rl (pl_cons (pl_nm hwho) (pl_cons (pl_i (by omega) htb) (pl_cons (.rl pl_nil) (pl_cons (pl_i (by omega) (by omega)) (pl_cons .bl pl_nil)))))
    have hwz : wz (.rl [.str who, .int t, .rl [], .int 0, .bl false]) ≤ LIM := by simp only [wz, wzs]; show _ ≤ 16777216; omega
    obtain ⟨D, hD⟩ : ∃ D, toD (.rl [.str who, .int t, .rl [], .int 0, .bl false]) = D := ⟨_, rfl⟩
    iterate 3
      refine made_good hwho ht htb (by decide) (by omega) ?_
      (repeat ((conv => whnf); first | refine ⟨Nat.le_of_ble_eq_true rfl, ?_⟩ | refine ⟨trivial, ?_⟩ | refine ⟨⟨trivial, trivial⟩, ?_⟩ | refine ⟨⟨rfl, rfl⟩, ?_⟩ | refine ⟨rfl, rfl, ?_⟩ | refine ⟨rfl, ?_⟩ | refine ⟨by decide, ?_⟩ | refine ⟨⟨by decide, by decide +kernel⟩, ?_⟩ | refine Or.inl ?_)); (conv => whnf)
      refine rep hpl (by decide) hwz hD ?_
      (repeat ((conv => whnf); first | refine ⟨Nat.le_of_ble_eq_true rfl, ?_⟩ | refine ⟨trivial, ?_⟩ | refine ⟨⟨trivial, trivial⟩, ?_⟩ | refine ⟨⟨rfl, rfl⟩, ?_⟩ | refine ⟨rfl, rfl, ?_⟩ | refine ⟨rfl, ?_⟩ | refine ⟨by decide, ?_⟩ | refine ⟨⟨by decide, by decide +kernel⟩, ?_⟩ | refine Or.inl ?_)); (conv => whnf)
      refine rep hpl (by decide) hwz hD ?_
      (repeat ((conv => whnf); first | refine ⟨Nat.le_of_ble_eq_true rfl, ?_⟩ | refine ⟨trivial, ?_⟩ | refine ⟨⟨trivial, trivial⟩, ?_⟩ | refine ⟨⟨rfl, rfl⟩, ?_⟩ | refine ⟨rfl, rfl, ?_⟩ | refine ⟨rfl, ?_⟩ | refine ⟨by decide, ?_⟩ | refine ⟨⟨by decide, by decide +kernel⟩, ?_⟩ | refine Or.inl ?_)); (conv => whnf)
      refine dr_n (fun h => absurd rfl h) (fun _ => ?_)
      (repeat ((conv => whnf); first | refine ⟨Nat.le_of_ble_eq_true rfl, ?_⟩ | refine ⟨trivial, ?_⟩ | refine ⟨⟨trivial, trivial⟩, ?_⟩ | refine ⟨⟨rfl, rfl⟩, ?_⟩ | refine ⟨rfl, rfl, ?_⟩ | refine ⟨rfl, ?_⟩ | refine ⟨by decide, ?_⟩ | refine ⟨⟨by decide, by decide +kernel⟩, ?_⟩ | refine Or.inl ?_)); (conv => whnf)
    exact hn _ _ ⟨_, who, t, k2, hwho, ht, htb, by omega, by omega, K.cell hne, rfl⟩
  rintro σ S1 ⟨w5', who, t, k1, hw, t0, t1, hk1, hk1b, K1, rfl⟩
  have hS1 := K1.s
  refine s_at 1 (fun σ S2 => Ext S1 S2 ∧ σ = [w0, some (.ref ep), w2, some (.rl (ns.map .int)), some (.ref sp), w5', w6, w7, some (.str who), some (.int t), w10, w11]) (fun nx hn => ?_) ?_
  · (repeat ((conv => whnf); first | refine ⟨Nat.le_of_ble_eq_true rfl, ?_⟩ | refine ⟨trivial, ?_⟩ | refine ⟨⟨trivial, trivial⟩, ?_⟩ | refine ⟨⟨rfl, rfl⟩, ?_⟩ | refine ⟨rfl, rfl, ?_⟩ | refine ⟨rfl, ?_⟩ | refine ⟨by decide, ?_⟩ | refine ⟨⟨by decide, by decide +kernel⟩, ?_⟩ | refine Or.inl ?_)); (conv => whnf)
    intro p hp
    (repeat ((conv => whnf); first | refine ⟨Nat.le_of_ble_eq_true rfl, ?_⟩ | refine ⟨trivial, ?_⟩ | refine ⟨⟨trivial, trivial⟩, ?_⟩ | refine ⟨⟨rfl, rfl⟩, ?_⟩ | refine ⟨rfl, rfl, ?_⟩ | refine ⟨rfl, ?_⟩ | refine ⟨by decide, ?_⟩ | refine ⟨⟨by decide, by decide +kernel⟩, ?_⟩ | refine Or.inl ?_)); (conv => whnf)
    refine init_all ups_same (kn_nm hw) (.int _) (by omega) (fun l t e1 e2 h1 h2 h3 a ha => ⟨rfl, ?_⟩) (fun z => by rw [nmW_s hw] at z; cases z) (fun _ z => by cases z)
    have hap : a ≠ p := fun z => by rw [z, ups_same] at ha; cases ha
    rw [ups_ne hap] at ha
    rw [ups_skip hap]
    cases e1; cases e2
    have x1 : Ext S1 (ups (ups S1 a (.lst [])) p (ob who 1000000 a)) := xs_2 ha hp
    have e1 : (ups (ups S1 a (.lst [])) p (ob who 1000000 a)) p = some (ob who 1000000 a) := ups_same
    generalize ups (ups S1 a (.lst [])) p (ob who 1000000 a) = S2 at *
    (repeat ((conv => whnf); first | refine ⟨Nat.le_of_ble_eq_true rfl, ?_⟩ | refine ⟨trivial, ?_⟩ | refine ⟨⟨trivial, trivial⟩, ?_⟩ | refine ⟨⟨rfl, rfl⟩, ?_⟩ | refine ⟨rfl, rfl, ?_⟩ | refine ⟨rfl, ?_⟩ | refine ⟨by decide, ?_⟩ | refine ⟨⟨by decide, by decide +kernel⟩, ?_⟩ | refine Or.inl ?_)); (conv => whnf)
    rw [e1]
    (repeat ((conv => whnf); first | refine ⟨Nat.le_of_ble_eq_true rfl, ?_⟩ | refine ⟨trivial, ?_⟩ | refine ⟨⟨trivial, trivial⟩, ?_⟩ | refine ⟨⟨rfl, rfl⟩, ?_⟩ | refine ⟨rfl, rfl, ?_⟩ | refine ⟨rfl, ?_⟩ | refine ⟨by decide, ?_⟩ | refine ⟨⟨by decide, by decide +kernel⟩, ?_⟩ | refine Or.inl ?_)); (conv => whnf)
    refine mostof_ok e1 (by omega) ?_
    (repeat ((conv => whnf); first | refine ⟨Nat.le_of_ble_eq_true rfl, ?_⟩ | refine ⟨trivial, ?_⟩ | refine ⟨⟨trivial, trivial⟩, ?_⟩ | refine ⟨⟨rfl, rfl⟩, ?_⟩ | refine ⟨rfl, rfl, ?_⟩ | refine ⟨rfl, ?_⟩ | refine ⟨by decide, ?_⟩ | refine ⟨⟨by decide, by decide +kernel⟩, ?_⟩ | refine Or.inl ?_)); (conv => whnf)
    intro p2 hp2
    (repeat ((conv => whnf); first | refine ⟨Nat.le_of_ble_eq_true rfl, ?_⟩ | refine ⟨trivial, ?_⟩ | refine ⟨⟨trivial, trivial⟩, ?_⟩ | refine ⟨⟨rfl, rfl⟩, ?_⟩ | refine ⟨rfl, rfl, ?_⟩ | refine ⟨rfl, ?_⟩ | refine ⟨by decide, ?_⟩ | refine ⟨⟨by decide, by decide +kernel⟩, ?_⟩ | refine Or.inl ?_)); (conv => whnf)
    refine init_all ups_same (kn_nm hw) (.int _) (by omega) (fun l t e1 e2 h1 h2 h3 a ha => ⟨rfl, ?_⟩) (fun z => by rw [nmW_s hw] at z; cases z) (fun _ z => by cases z)
    have hap2 : a ≠ p2 := fun z => by rw [z, ups_same] at ha; cases ha
    rw [ups_ne hap2] at ha
    rw [ups_skip hap2]
    cases e1; cases e2
    have x2 : Ext S2 (ups (ups S2 a (.lst [])) p2 (ob who 1000000 a)) := xs_2 ha hp2
    have e1 : (ups (ups S2 a (.lst [])) p2 (ob who 1000000 a)) p2 = some (ob who 1000000 a) := ups_same
    generalize ups (ups S2 a (.lst [])) p2 (ob who 1000000 a) = S3 at *
    (repeat ((conv => whnf); first | refine ⟨Nat.le_of_ble_eq_true rfl, ?_⟩ | refine ⟨trivial, ?_⟩ | refine ⟨⟨trivial, trivial⟩, ?_⟩ | refine ⟨⟨rfl, rfl⟩, ?_⟩ | refine ⟨rfl, rfl, ?_⟩ | refine ⟨rfl, ?_⟩ | refine ⟨by decide, ?_⟩ | refine ⟨⟨by decide, by decide +kernel⟩, ?_⟩ | refine Or.inl ?_)); (conv => whnf)
    rw [e1]
    (repeat ((conv => whnf); first | refine ⟨Nat.le_of_ble_eq_true rfl, ?_⟩ | refine ⟨trivial, ?_⟩ | refine ⟨⟨trivial, trivial⟩, ?_⟩ | refine ⟨⟨rfl, rfl⟩, ?_⟩ | refine ⟨rfl, rfl, ?_⟩ | refine ⟨rfl, ?_⟩ | refine ⟨by decide, ?_⟩ | refine ⟨⟨by decide, by decide +kernel⟩, ?_⟩ | refine Or.inl ?_)); (conv => whnf)
    refine nameof_ok e1 (by omega) ?_
    (repeat ((conv => whnf); first | refine ⟨Nat.le_of_ble_eq_true rfl, ?_⟩ | refine ⟨trivial, ?_⟩ | refine ⟨⟨trivial, trivial⟩, ?_⟩ | refine ⟨⟨rfl, rfl⟩, ?_⟩ | refine ⟨rfl, rfl, ?_⟩ | refine ⟨rfl, ?_⟩ | refine ⟨by decide, ?_⟩ | refine ⟨⟨by decide, by decide +kernel⟩, ?_⟩ | refine Or.inl ?_)); (conv => whnf)
    refine dr_n (fun h => absurd rfl h) (fun _ => ?_)
    exact hn _ _ ⟨fun b o e => x2 _ _ (x1 _ _ e), rfl⟩
  rintro σ S2 ⟨x2, rfl⟩
  have K2 := K1.ext x2
  clear x2 K1 hS1
  have hS2 := K2.s
  refine s_at 2 (fun σ S3 => ∃ odd k2, Kn odd ∧ amW odd 0 1000000 = false ∧ k1 ≤ k2 ∧ k2 ≤ k1 + 5 ∧ Kp2 S3 sp ep el k2 ∧ σ = [w0, some (.ref ep), w2, some (.rl (ns.map .int)), some (.ref sp), w5', some odd, w7, some (.str who), some (.int t), w10, w11]) (fun nx hn => ?_) ?_
  · (repeat ((conv => whnf); first | refine ⟨Nat.le_of_ble_eq_true rfl, ?_⟩ | refine ⟨trivial, ?_⟩ | refine ⟨⟨trivial, trivial⟩, ?_⟩ | refine ⟨⟨rfl, rfl⟩, ?_⟩ | refine ⟨rfl, rfl, ?_⟩ | refine ⟨rfl, ?_⟩ | refine ⟨by decide, ?_⟩ | refine ⟨⟨by decide, by decide +kernel⟩, ?_⟩ | refine Or.inl ?_)); (conv => whnf)
    (refine cell_ok (by first | exact ups_same | assumption) (by omega) (by omega) (by omega) hl fun z k2 hz hk2 hk2b => ?_; try rw [ups_ups])
    (repeat ((conv => whnf); first | refine ⟨Nat.le_of_ble_eq_true rfl, ?_⟩ | refine ⟨trivial, ?_⟩ | refine ⟨⟨trivial, trivial⟩, ?_⟩ | refine ⟨⟨rfl, rfl⟩, ?_⟩ | refine ⟨rfl, rfl, ?_⟩ | refine ⟨rfl, ?_⟩ | refine ⟨by decide, ?_⟩ | refine ⟨⟨by decide, by decide +kernel⟩, ?_⟩ | refine Or.inl ?_)); (conv => whnf)
    (generalize hE : L2.atI _ _ = r0; obtain ⟨w, mw, rfl⟩ := at_gen hE (by omega) (show _ < ((11 : Nat) : Int) from by omega); clear hE)
    have hw' := fm_cons (P := fun w => Kn w ∧ amW w 0 1000000 = false) ⟨.non, rfl⟩ (fm_cons ⟨.bl _, rfl⟩ (fm_cons ⟨.bl _, rfl⟩ (fm_cons ⟨.int _, by decide⟩ (fm_cons ⟨.int _, by decide⟩ (fm_cons ⟨.str _ (by decide), rfl⟩ (fm_cons ⟨.tup _, rfl⟩ (fm_cons ⟨.rl _, rfl⟩ (fm_cons ⟨.rd _ _, rfl⟩ (fm_cons ⟨.int _, by decide +kernel⟩ (fm_cons ⟨.tup _, rfl⟩ fm_nil)))))))))) w mw
    exact hn _ _ ⟨w, k2, hw'.1, hw'.2, by omega, by omega, K2.cell hne, rfl⟩
  rintro σ S3 ⟨odd, k2, ho, hoa, hk2, hk2b, K3, rfl⟩
  have hS3 := K3.s
  clear K2 hS2
  refine s_at 2 (fun σ S4 => ∃ bad worse k3, Kn bad ∧ nmW bad = false ∧ Kn worse ∧ nmW worse = false ∧ k2 ≤ k3 ∧ k3 ≤ k2 + 10 ∧ Kp2 S4 sp ep el k3 ∧ σ = [w0, some (.ref ep), w2, some (.rl (ns.map .int)), some (.ref sp), w5', some odd, some bad, some (.str who), some (.int t), some worse, w11]) (fun nx hn => ?_) ?_
  · have w1' := hw.1
    have w2' := hw.2.1
    obtain ⟨up, eu, u1, u2⟩ := up_bad hw
    (repeat ((conv => whnf); first | refine ⟨Nat.le_of_ble_eq_true rfl, ?_⟩ | refine ⟨trivial, ?_⟩ | refine ⟨⟨trivial, trivial⟩, ?_⟩ | refine ⟨⟨rfl, rfl⟩, ?_⟩ | refine ⟨rfl, rfl, ?_⟩ | refine ⟨rfl, ?_⟩ | refine ⟨by decide, ?_⟩ | refine ⟨⟨by decide, by decide +kernel⟩, ?_⟩ | refine Or.inl ?_)); (conv => whnf)
    refine ⟨by rw [List.length_singleton]; show _ ≤ 16777216; omega, ?_⟩
    (repeat ((conv => whnf); first | refine ⟨Nat.le_of_ble_eq_true rfl, ?_⟩ | refine ⟨trivial, ?_⟩ | refine ⟨⟨trivial, trivial⟩, ?_⟩ | refine ⟨⟨rfl, rfl⟩, ?_⟩ | refine ⟨rfl, rfl, ?_⟩ | refine ⟨rfl, ?_⟩ | refine ⟨by decide, ?_⟩ | refine ⟨⟨by decide, by decide +kernel⟩, ?_⟩ | refine Or.inl ?_)); (conv => whnf)
    refine ⟨by omega, ?_⟩
    (repeat ((conv => whnf); first | refine ⟨Nat.le_of_ble_eq_true rfl, ?_⟩ | refine ⟨trivial, ?_⟩ | refine ⟨⟨trivial, trivial⟩, ?_⟩ | refine ⟨⟨rfl, rfl⟩, ?_⟩ | refine ⟨rfl, rfl, ?_⟩ | refine ⟨rfl, ?_⟩ | refine ⟨by decide, ?_⟩ | refine ⟨⟨by decide, by decide +kernel⟩, ?_⟩ | refine Or.inl ?_)); (conv => whnf)
    rw [eu]
    (refine cell_ok (by first | exact ups_same | assumption) (by omega) (by omega) (by omega) hl fun z k3 hz hk3 hk3b => ?_; try rw [ups_ups])
    (repeat ((conv => whnf); first | refine ⟨Nat.le_of_ble_eq_true rfl, ?_⟩ | refine ⟨trivial, ?_⟩ | refine ⟨⟨trivial, trivial⟩, ?_⟩ | refine ⟨⟨rfl, rfl⟩, ?_⟩ | refine ⟨rfl, rfl, ?_⟩ | refine ⟨rfl, ?_⟩ | refine ⟨by decide, ?_⟩ | refine ⟨⟨by decide, by decide +kernel⟩, ?_⟩ | refine Or.inl ?_)); (conv => whnf)
    (generalize hE : L2.atI _ _ = r0; obtain ⟨w, mw, rfl⟩ := at_gen hE (by omega) (show _ < ((12 : Nat) : Int) from by omega); clear hE)
    have hw' := fm_cons (P := fun w => Kn w ∧ nmW w = false) ⟨.non, rfl⟩ (fm_cons ⟨.bl _, rfl⟩ (fm_cons ⟨.str _ (by decide), by decide⟩ (fm_cons ⟨.str _ (by decide), by decide⟩ (fm_cons ⟨.str _ (by decide), by decide⟩ (fm_cons ⟨.str _ (by decide), by decide⟩ (fm_cons ⟨.str _ (by decide), by decide⟩ (fm_cons ⟨.tup _, rfl⟩ (fm_cons ⟨.rl _, rfl⟩ (fm_cons ⟨.int _, rfl⟩ (fm_cons ⟨.str _ (by simp; omega), nmW_bad ⟨57, by simp, by decide⟩⟩ (fm_cons ⟨.str _ (by omega), nmW_bad u2⟩ fm_nil))))))))))) w mw
    (repeat ((conv => whnf); first | refine ⟨Nat.le_of_ble_eq_true rfl, ?_⟩ | refine ⟨trivial, ?_⟩ | refine ⟨⟨trivial, trivial⟩, ?_⟩ | refine ⟨⟨rfl, rfl⟩, ?_⟩ | refine ⟨rfl, rfl, ?_⟩ | refine ⟨rfl, ?_⟩ | refine ⟨by decide, ?_⟩ | refine ⟨⟨by decide, by decide +kernel⟩, ?_⟩ | refine Or.inl ?_)); (conv => whnf)
    refine spoilt_ok hw (by first | exact ups_same | assumption) (by omega) (by omega) (by omega) hl fun l k4 l1 l2 h4 h4b => ?_
    rw [ups_ups]
    (repeat ((conv => whnf); first | refine ⟨Nat.le_of_ble_eq_true rfl, ?_⟩ | refine ⟨trivial, ?_⟩ | refine ⟨⟨trivial, trivial⟩, ?_⟩ | refine ⟨⟨rfl, rfl⟩, ?_⟩ | refine ⟨rfl, rfl, ?_⟩ | refine ⟨rfl, ?_⟩ | refine ⟨by decide, ?_⟩ | refine ⟨⟨by decide, by decide +kernel⟩, ?_⟩ | refine Or.inl ?_)); (conv => whnf)
    exact hn _ _ ⟨w, .str l, k4, hw'.1, hw'.2, .str _ (by omega), nmW_bad l2, by omega, by omega, K3.cell hne, rfl⟩
  rintro σ S4 ⟨bad, worse, k3, hb1, hb2, hc1, hc2, hk3, hk3b, K4, rfl⟩
  refine s_at 1 (fun σ S5 => ∃ w5 w11, S5 = S4 ∧ σ = [w0, some (.ref ep), w2, some (.rl (ns.map .int)), some (.ref sp), w5, some odd, some bad, some (.str who), some (.int t), some worse, w11]) (fun nx hn => ?_) ?_
  · (repeat ((conv => whnf); first | refine ⟨Nat.le_of_ble_eq_true rfl, ?_⟩ | refine ⟨trivial, ?_⟩ | refine ⟨⟨trivial, trivial⟩, ?_⟩ | refine ⟨⟨rfl, rfl⟩, ?_⟩ | refine ⟨rfl, rfl, ?_⟩ | refine ⟨rfl, ?_⟩ | refine ⟨by decide, ?_⟩ | refine ⟨⟨by decide, by decide +kernel⟩, ?_⟩ | refine Or.inl ?_)); (conv => whnf)
    iterate 3
      refine made_sum hw ho hoa (by decide) (by omega) ?_
      (repeat ((conv => whnf); first | refine ⟨Nat.le_of_ble_eq_true rfl, ?_⟩ | refine ⟨trivial, ?_⟩ | refine ⟨⟨trivial, trivial⟩, ?_⟩ | refine ⟨⟨rfl, rfl⟩, ?_⟩ | refine ⟨rfl, rfl, ?_⟩ | refine ⟨rfl, ?_⟩ | refine ⟨by decide, ?_⟩ | refine ⟨⟨by decide, by decide +kernel⟩, ?_⟩ | refine Or.inl ?_)); (conv => whnf)
      refine made_who hb1 ho hb2 (by decide) (by omega) ?_
      (repeat ((conv => whnf); first | refine ⟨Nat.le_of_ble_eq_true rfl, ?_⟩ | refine ⟨trivial, ?_⟩ | refine ⟨⟨trivial, trivial⟩, ?_⟩ | refine ⟨⟨rfl, rfl⟩, ?_⟩ | refine ⟨rfl, rfl, ?_⟩ | refine ⟨rfl, ?_⟩ | refine ⟨by decide, ?_⟩ | refine ⟨⟨by decide, by decide +kernel⟩, ?_⟩ | refine Or.inl ?_)); (conv => whnf)
      refine made_who hb1 (.int t) hb2 (by decide) (by omega) ?_
      (repeat ((conv => whnf); first | refine ⟨Nat.le_of_ble_eq_true rfl, ?_⟩ | refine ⟨trivial, ?_⟩ | refine ⟨⟨trivial, trivial⟩, ?_⟩ | refine ⟨⟨rfl, rfl⟩, ?_⟩ | refine ⟨rfl, rfl, ?_⟩ | refine ⟨rfl, ?_⟩ | refine ⟨by decide, ?_⟩ | refine ⟨⟨by decide, by decide +kernel⟩, ?_⟩ | refine Or.inl ?_)); (conv => whnf)
      refine made_who hc1 (.int t) hc2 (by decide) (by omega) ?_
      (repeat ((conv => whnf); first | refine ⟨Nat.le_of_ble_eq_true rfl, ?_⟩ | refine ⟨trivial, ?_⟩ | refine ⟨⟨trivial, trivial⟩, ?_⟩ | refine ⟨⟨rfl, rfl⟩, ?_⟩ | refine ⟨rfl, rfl, ?_⟩ | refine ⟨rfl, ?_⟩ | refine ⟨by decide, ?_⟩ | refine ⟨⟨by decide, by decide +kernel⟩, ?_⟩ | refine Or.inl ?_)); (conv => whnf)
      refine eqd (n := 1) (.rl (pl_cons (.str (by decide)) (pl_cons (.str (by decide)) (pl_cons (.str (by decide)) (pl_cons (.str (by decide)) pl_nil))))) (.rl (pl_cons (.str (by decide)) (pl_cons (.str (by decide)) (pl_cons (.str (by decide)) (pl_cons (.str (by decide)) pl_nil))))) (by decide) ?_
      (repeat ((conv => whnf); first | refine ⟨Nat.le_of_ble_eq_true rfl, ?_⟩ | refine ⟨trivial, ?_⟩ | refine ⟨⟨trivial, trivial⟩, ?_⟩ | refine ⟨⟨rfl, rfl⟩, ?_⟩ | refine ⟨rfl, rfl, ?_⟩ | refine ⟨rfl, ?_⟩ | refine ⟨by decide, ?_⟩ | refine ⟨⟨by decide, by decide +kernel⟩, ?_⟩ | refine Or.inl ?_)); (conv => whnf)
    exact hn _ _ ⟨_, _, rfl, rfl⟩
  rintro σ S5 ⟨w5, w11', rfl, rfl⟩
  (repeat ((conv => whnf); first | refine ⟨Nat.le_of_ble_eq_true rfl, ?_⟩ | refine ⟨trivial, ?_⟩ | refine ⟨⟨trivial, trivial⟩, ?_⟩ | refine ⟨⟨rfl, rfl⟩, ?_⟩ | refine ⟨rfl, rfl, ?_⟩ | refine ⟨rfl, ?_⟩ | refine ⟨by decide, ?_⟩ | refine ⟨⟨by decide, by decide +kernel⟩, ?_⟩ | refine Or.inl ?_)); (conv => whnf)
  refine made_good hw (by decide) (by decide) (by decide) (by omega) ?_
  (repeat ((conv => whnf); first | refine ⟨Nat.le_of_ble_eq_true rfl, ?_⟩ | refine ⟨trivial, ?_⟩ | refine ⟨⟨trivial, trivial⟩, ?_⟩ | refine ⟨⟨rfl, rfl⟩, ?_⟩ | refine ⟨rfl, rfl, ?_⟩ | refine ⟨rfl, ?_⟩ | refine ⟨by decide, ?_⟩ | refine ⟨⟨by decide, by decide +kernel⟩, ?_⟩ | refine Or.inl ?_)); (conv => whnf)
  refine made_sum hw (.bl true) rfl (by decide) (by omega) ?_
  (repeat ((conv => whnf); first | refine ⟨Nat.le_of_ble_eq_true rfl, ?_⟩ | refine ⟨trivial, ?_⟩ | refine ⟨⟨trivial, trivial⟩, ?_⟩ | refine ⟨⟨rfl, rfl⟩, ?_⟩ | refine ⟨rfl, rfl, ?_⟩ | refine ⟨rfl, ?_⟩ | refine ⟨by decide, ?_⟩ | refine ⟨⟨by decide, by decide +kernel⟩, ?_⟩ | refine Or.inl ?_)); (conv => whnf)
  rw [K4.e]
  (repeat ((conv => whnf); first | refine ⟨Nat.le_of_ble_eq_true rfl, ?_⟩ | refine ⟨trivial, ?_⟩ | refine ⟨⟨trivial, trivial⟩, ?_⟩ | refine ⟨⟨rfl, rfl⟩, ?_⟩ | refine ⟨rfl, rfl, ?_⟩ | refine ⟨rfl, ?_⟩ | refine ⟨by decide, ?_⟩ | refine ⟨⟨by decide, by decide +kernel⟩, ?_⟩ | refine Or.inl ?_)); (conv => whnf)
  refine nameof_ok K4.e (by omega) ?_
  (repeat ((conv => whnf); first | refine ⟨Nat.le_of_ble_eq_true rfl, ?_⟩ | refine ⟨trivial, ?_⟩ | refine ⟨⟨trivial, trivial⟩, ?_⟩ | refine ⟨⟨rfl, rfl⟩, ?_⟩ | refine ⟨rfl, rfl, ?_⟩ | refine ⟨rfl, ?_⟩ | refine ⟨by decide, ?_⟩ | refine ⟨⟨by decide, by decide +kernel⟩, ?_⟩ | refine Or.inl ?_)); (conv => whnf)
  rw [K4.e]
  (repeat ((conv => whnf); first | refine ⟨Nat.le_of_ble_eq_true rfl, ?_⟩ | refine ⟨trivial, ?_⟩ | refine ⟨⟨trivial, trivial⟩, ?_⟩ | refine ⟨⟨rfl, rfl⟩, ?_⟩ | refine ⟨rfl, rfl, ?_⟩ | refine ⟨rfl, ?_⟩ | refine ⟨by decide, ?_⟩ | refine ⟨⟨by decide, by decide +kernel⟩, ?_⟩ | refine Or.inl ?_)); (conv => whnf)
  refine mostof_ok K4.e (by omega) ?_
  (repeat ((conv => whnf); first | refine ⟨Nat.le_of_ble_eq_true rfl, ?_⟩ | refine ⟨trivial, ?_⟩ | refine ⟨⟨trivial, trivial⟩, ?_⟩ | refine ⟨⟨rfl, rfl⟩, ?_⟩ | refine ⟨rfl, rfl, ?_⟩ | refine ⟨rfl, ?_⟩ | refine ⟨by decide, ?_⟩ | refine ⟨⟨by decide, by decide +kernel⟩, ?_⟩ | refine Or.inl ?_)); (conv => whnf)
  rw [K4.e]
  (repeat ((conv => whnf); first | refine ⟨Nat.le_of_ble_eq_true rfl, ?_⟩ | refine ⟨trivial, ?_⟩ | refine ⟨⟨trivial, trivial⟩, ?_⟩ | refine ⟨⟨rfl, rfl⟩, ?_⟩ | refine ⟨rfl, rfl, ?_⟩ | refine ⟨rfl, ?_⟩ | refine ⟨by decide, ?_⟩ | refine ⟨⟨by decide, by decide +kernel⟩, ?_⟩ | refine Or.inl ?_)); (conv => whnf)
  refine steps_ok K4.e K4.l (by omega) ?_
  (repeat ((conv => whnf); first | refine ⟨Nat.le_of_ble_eq_true rfl, ?_⟩ | refine ⟨trivial, ?_⟩ | refine ⟨⟨trivial, trivial⟩, ?_⟩ | refine ⟨⟨rfl, rfl⟩, ?_⟩ | refine ⟨rfl, rfl, ?_⟩ | refine ⟨rfl, ?_⟩ | refine ⟨by decide, ?_⟩ | refine ⟨⟨by decide, by decide +kernel⟩, ?_⟩ | refine Or.inl ?_)); (conv => whnf)
  refine eqd (n := 2) (.rl (pl_cons (.str (by decide)) (pl_cons (pl_i (by decide) (by decide)) (pl_cons (.rl pl_nil) pl_nil)))) (.rl (pl_cons (.str (by decide)) (pl_cons (pl_i (by decide) (by decide)) (pl_cons (.rl pl_nil) pl_nil)))) (by decide) ?_
  (repeat ((conv => whnf); first | refine ⟨Nat.le_of_ble_eq_true rfl, ?_⟩ | refine ⟨trivial, ?_⟩ | refine ⟨⟨trivial, trivial⟩, ?_⟩ | refine ⟨⟨rfl, rfl⟩, ?_⟩ | refine ⟨rfl, rfl, ?_⟩ | refine ⟨rfl, ?_⟩ | refine ⟨by decide, ?_⟩ | refine ⟨⟨by decide, by decide +kernel⟩, ?_⟩ | refine Or.inl ?_)); (conv => whnf)
  exact q _ _ _ _ _ _ _ k3 _ (by omega) (by omega) K4
end KK
namespace KK
open PySem MP Prog MP.Ru
theorem law_ok (ns : List Int) (hl : ns.length ≤ 63) : cal G 12 22 [scr ns] (fun _ => none) (fun v _ => v = .bl true) (fun _ _ => False) := by
  refine u_cal (n := 11) rfl ?_
  have hN : 8 ≤ 11 := by decide
  generalize 11 = N at *
  refine s_at 2 (fun σ S1 => ∃ sp ep el, sp ≠ el ∧ Kp2 S1 sp ep el (-1) ∧ σ = [some (scr ns), some (.ref ep), none, some (.rl (ns.map .int)), some (.ref sp), none, none, none, none, none, none, none]) (fun nx hn => ?_) ?_
  · conv => whnf
    refine Or.inl ?_
    (repeat ((conv => whnf); first | refine ⟨Nat.le_of_ble_eq_true rfl, ?_⟩ | refine ⟨trivial, ?_⟩ | refine ⟨⟨trivial, trivial⟩, ?_⟩ | refine ⟨⟨rfl, rfl⟩, ?_⟩ | refine ⟨rfl, rfl, ?_⟩ | refine ⟨rfl, ?_⟩ | refine ⟨by decide, ?_⟩ | refine ⟨⟨by decide, by decide +kernel⟩, ?_⟩)); (conv => whnf)
    refine Or.inr fun sp hsp => ?_
    (repeat ((conv => whnf); first | refine ⟨Nat.le_of_ble_eq_true rfl, ?_⟩ | refine ⟨trivial, ?_⟩ | refine ⟨⟨trivial, trivial⟩, ?_⟩ | refine ⟨⟨rfl, rfl⟩, ?_⟩ | refine ⟨rfl, rfl, ?_⟩ | refine ⟨rfl, ?_⟩ | refine ⟨by decide, ?_⟩ | refine ⟨⟨by decide, by decide +kernel⟩, ?_⟩)); (conv => whnf)
    intro p hp
    (repeat ((conv => whnf); first | refine ⟨Nat.le_of_ble_eq_true rfl, ?_⟩ | refine ⟨trivial, ?_⟩ | refine ⟨⟨trivial, trivial⟩, ?_⟩ | refine ⟨⟨rfl, rfl⟩, ?_⟩ | refine ⟨rfl, rfl, ?_⟩ | refine ⟨rfl, ?_⟩ | refine ⟨by decide, ?_⟩ | refine ⟨⟨by decide, by decide +kernel⟩, ?_⟩)); (conv => whnf)
    refine init_all ups_same (.str _ (by decide)) (.int _) (by omega) (fun l t e1 e2 h1 h2 h3 a ha => ⟨rfl, ?_⟩) (fun z => by exact absurd z (by decide)) (fun _ z => by exact absurd z (by decide))
    have hap : a ≠ p := fun z => by rw [z, ups_same] at ha; cases ha
    rw [ups_ne hap] at ha
    rw [ups_skip hap]
    cases e1; cases e2
    have has : a ≠ sp := fun z => by rw [z, ups_same] at ha; cases ha
    have hps : p ≠ sp := fun z => by rw [z, ups_same] at hp; cases hp
    exact hn _ _ ⟨sp, p, a, Ne.symm has, ⟨by rw [ups_ne (Ne.symm hps), ups_ne (Ne.symm has), ups_same], ups_same, by rw [ups_ne hap, ups_same]⟩, rfl⟩
  rintro σ S1 ⟨sp, ep, el, hne, K, rfl⟩
  refine s_at 1 (fun σ S1 => True) (fun nx hn => ?_) ?_
  · conv => whnf
    refine ⟨by rw [List.length_map]; show _ ≤ 16777216; omega, ?_⟩
    conv => whnf
    have hlen : (rngW 0 (1 + (if ((ns.map W.int).length : Int) < 12 then ((ns.map W.int).length : Int) else 12))).length ≤ 13 := by
      unfold rngW
      rw [List.length_map, List.length_range]
      split <;> omega
    refine ⟨⟨?_, ?_⟩, ?_⟩
    · unfold big; split <;> omega
    · unfold big; split <;> omega
    refine w_for (fun r σ S2 => ∃ k w2 w5 w6 w7 w8 w9 w10 w11, Kp2 S2 sp ep el k ∧ -1 ≤ k ∧ k + 100 * r.length ≤ 3000 ∧ σ = [some (scr ns), some (.ref ep), w2, some (.rl (ns.map .int)), some (.ref sp), w5, w6, w7, w8, w9, w10, w11]) (fun r σ S3 h => trivial) (fun σ S3 h => hn _ _ trivial) (fun w r σ S3 h => ?_) _ _ _ ⟨-1, _, _, _, _, _, _, _, _, K, by decide, ?_, rfl⟩
    · obtain ⟨k, w2, w5, w6, w7, w8, w9, w10, w11, h1, h2, h3, rfl⟩ := h
      simp only [List.length_cons] at h3
      intro nx3 h4
      refine tbody_ok (k := k) h1 hne hN h2 (by omega) hl fun w5 w6 w7 w8 w9 w10 w11 k' S' g1 g2 g3 => ?_
      exact h4 _ _ ⟨k', _, _, _, _, _, _, _, _, g3, by omega, by omega, rfl⟩
    · omega
  rintro σ S2 _
  conv => whnf
  exact ⟨_, fun _ _ h => h, rfl⟩
end KK
namespace Prog
open PySem PySem.Spec PyProof.Rows L2 MP
def fnA (k : Nat) : He.DefD := fns.getD k (fns.getD 0 ⟨("", none), "", "", ⟨[], [], none, [], [], none, []⟩, [], ⟨.function, [], false, false, []⟩, [], []⟩)
theorem w0 : mapO (trS 60 (P.pg.st n0 (fnA 0).scope)) (fnA 0).body = some (unSm b0) := by kernel_rfl
theorem c0 : C8.scC n0 ["k"] (fnA 0).scope = true := by kernel_rfl
theorem s0 : P.Fn 0 d0 := by
  refine ⟨fnA 0, n0, ["k"], 60, unSm b0, rfl, rfl, C8.fnScope_by c0, Or.inl ⟨w0, rfl⟩, rfl, rfl, fun K H => ?_, fun K dV kV doc pm an cdv ct its hD q hq => ?_⟩
  · exact rfl
  · rcases hD with ⟨_, rfl, rfl⟩ | ⟨A, o, n, hne, _⟩
    · have hq2 : q ∈ ([(1, [], [])] : List (Nat × List Nat × List (List Nat))) := hq
      rcases List.mem_cons.mp hq2 with rfl | hq2
      · intro s us KX hl
        match us, hl with
        | [u0], _ => exact ⟨[u0], rfl, .of_eq rfl⟩
      · cases hq2
    · exact absurd rfl hne
theorem w1 : mapO (trS 60 (P.pg.st n1 (fnA 1).scope)) (fnA 1).body = some (unSm b1) := by kernel_rfl
theorem c1 : C8.scC n1 ["thing", "least", "most"] (fnA 1).scope = true := by kernel_rfl
theorem s1 : P.Fn 1 d1 := by
  refine ⟨fnA 1, n1, ["thing", "least", "most"], 60, unSm b1, rfl, rfl, C8.fnScope_by c1, Or.inl ⟨w1, rfl⟩, rfl, rfl, fun K H => ?_, fun K dV kV doc pm an cdv ct its hD q hq => ?_⟩
  · exact rfl
  · rcases hD with ⟨_, rfl, rfl⟩ | ⟨A, o, n, hne, _⟩
    · have hq2 : q ∈ ([(3, [], [])] : List (Nat × List Nat × List (List Nat))) := hq
      rcases List.mem_cons.mp hq2 with rfl | hq2
      · intro s us KX hl
        match us, hl with
        | [u0, u1, u2], _ => exact ⟨[u0, u1, u2], rfl, .of_eq rfl⟩
      · cases hq2
    · exact absurd rfl hne
theorem w2 : mapO (trS 60 (P.pg.st n2 (fnA 2).scope)) (fnA 2).body = some (unSm b2) := by kernel_rfl
theorem c2 : C8.scC n2 ["thing"] (fnA 2).scope = true := by kernel_rfl
theorem s2 : P.Fn 2 d2 := by
  refine ⟨fnA 2, n2, ["thing"], 60, unSm b2, rfl, rfl, C8.fnScope_by c2, Or.inl ⟨w2, rfl⟩, rfl, rfl, fun K H => ?_, fun K dV kV doc pm an cdv ct its hD q hq => ?_⟩
  · exact rfl
  · rcases hD with ⟨_, rfl, rfl⟩ | ⟨A, o, n, hne, _⟩
    · have hq2 : q ∈ ([(1, [], [])] : List (Nat × List Nat × List (List Nat))) := hq
      rcases List.mem_cons.mp hq2 with rfl | hq2
      · intro s us KX hl
        match us, hl with
        | [u0], _ => exact ⟨[u0], rfl, .of_eq rfl⟩
      · cases hq2
    · exact absurd rfl hne
theorem w3 : mapO (trS 60 (P.pg.st n3 (fnA 3).scope)) (fnA 3).body = some (unSm b3) := by kernel_rfl
theorem c3 : C8.scC n3 ["thing"] (fnA 3).scope = true := by kernel_rfl
theorem s3 : P.Fn 3 d3 := by
  refine ⟨fnA 3, n3, ["thing"], 60, unSm b3, rfl, rfl, C8.fnScope_by c3, Or.inl ⟨w3, rfl⟩, rfl, rfl, fun K H => ?_, fun K dV kV doc pm an cdv ct its hD q hq => ?_⟩
  · exact rfl
  · rcases hD with ⟨_, rfl, rfl⟩ | ⟨A, o, n, hne, _⟩
    · have hq2 : q ∈ ([(1, [], [])] : List (Nat × List Nat × List (List Nat))) := hq
      rcases List.mem_cons.mp hq2 with rfl | hq2
      · intro s us KX hl
        match us, hl with
        | [u0], _ => exact ⟨[u0], rfl, .of_eq rfl⟩
      · cases hq2
    · exact absurd rfl hne
theorem w4 : mapO (trS 60 (P.pg.st n4 (fnA 4).scope)) (fnA 4).body = some (unSm b4) := by kernel_rfl
theorem c4 : C8.scC n4 ["step"] (fnA 4).scope = true := by kernel_rfl
theorem s4 : P.Fn 4 d4 := by
  refine ⟨fnA 4, n4, ["step"], 60, unSm b4, rfl, rfl, C8.fnScope_by c4, Or.inl ⟨w4, rfl⟩, rfl, rfl, fun K H => ?_, fun K dV kV doc pm an cdv ct its hD q hq => ?_⟩
  · exact rfl
  · rcases hD with ⟨_, rfl, rfl⟩ | ⟨A, o, n, hne, _⟩
    · have hq2 : q ∈ ([(1, [], [])] : List (Nat × List Nat × List (List Nat))) := hq
      rcases List.mem_cons.mp hq2 with rfl | hq2
      · intro s us KX hl
        match us, hl with
        | [u0], _ => exact ⟨[u0], rfl, .of_eq rfl⟩
      · cases hq2
    · exact absurd rfl hne
theorem w5 : mapO (trS 60 (P.pg.st n5 (fnA 5).scope)) (fnA 5).body = some (unSm b5) := by kernel_rfl
theorem c5 : C8.scC n5 ["self", "name", "most"] (fnA 5).scope = true := by kernel_rfl
theorem s5 : P.Fn 5 d5 := by
  refine ⟨fnA 5, n5, ["self", "name", "most"], 60, unSm b5, rfl, rfl, C8.fnScope_by c5, Or.inl ⟨w5, rfl⟩, rfl, rfl, fun K H => ?_, fun K dV kV doc pm an cdv ct its hD q hq => ?_⟩
  · exact .cons rfl (rfl)
  · rcases hD with ⟨hne, _⟩ | ⟨A, o, n, _, rfl, lA, oA, hlen⟩
    · exact absurd hne (by intro z; cases z)
    · have hq2 : q ∈ ([(3, [], []), (1, [2, 1], [[109, 111, 115, 116], [110, 97, 109, 101]]), (2, [2], [[109, 111, 115, 116]]), (2, [], []), (1, [1], [[110, 97, 109, 101]])] : List (Nat × List Nat × List (List Nat))) := hq
      rcases List.mem_cons.mp hq2 with rfl | hq2
      · intro s us KX hl
        match us, hl, its, oA, hlen with
        | [u0, u1, u2], _, [t0], oA, _ => exact ⟨[u0, u1, u2], rfl, BindsTo.of_looks fun M => looks_items KX lA oA (.of_pure rfl)⟩
      rcases List.mem_cons.mp hq2 with rfl | hq2
      · intro s us KX hl
        match us, hl, its, oA, hlen with
        | [u0, u1, u2], _, [t0], oA, _ => exact ⟨[u0, u2, u1], rfl, BindsTo.of_looks fun M => looks_items KX lA oA (.of_pure rfl)⟩
      rcases List.mem_cons.mp hq2 with rfl | hq2
      · intro s us KX hl
        match us, hl, its, oA, hlen with
        | [u0, u1, u2], _, [t0], oA, _ => exact ⟨[u0, u1, u2], rfl, BindsTo.of_looks fun M => looks_items KX lA oA (.of_pure rfl)⟩
      rcases List.mem_cons.mp hq2 with rfl | hq2
      · intro s us KX hl
        match us, hl, its, oA, hlen with
        | [u0, u1], _, [t0], oA, _ => exact ⟨[u0, u1, t0], rfl, BindsTo.of_looks fun M => looks_items KX lA oA (.of_pure rfl)⟩
      rcases List.mem_cons.mp hq2 with rfl | hq2
      · intro s us KX hl
        match us, hl, its, oA, hlen with
        | [u0, u1], _, [t0], oA, _ => exact ⟨[u0, u1, t0], rfl, BindsTo.of_looks fun M => looks_items KX lA oA (.of_pure rfl)⟩
      · cases hq2
theorem w6 : mapO (trS 60 (P.pg.st n6 (fnA 6).scope)) (fnA 6).body = some (unSm b6) := by kernel_rfl
theorem c6 : C8.scC n6 ["self"] (fnA 6).scope = true := by kernel_rfl
theorem s6 : P.Fn 6 d6 := by
  refine ⟨fnA 6, n6, ["self"], 60, unSm b6, rfl, rfl, C8.fnScope_by c6, Or.inl ⟨w6, rfl⟩, rfl, rfl, fun K H => ?_, fun K dV kV doc pm an cdv ct its hD q hq => ?_⟩
  · exact rfl
  · rcases hD with ⟨_, rfl, rfl⟩ | ⟨A, o, n, hne, _⟩
    · have hq2 : q ∈ ([(1, [], [])] : List (Nat × List Nat × List (List Nat))) := hq
      rcases List.mem_cons.mp hq2 with rfl | hq2
      · intro s us KX hl
        match us, hl with
        | [u0], _ => exact ⟨[u0], rfl, .of_eq rfl⟩
      · cases hq2
    · exact absurd rfl hne
theorem w7 : mapO (trS 60 (P.pg.st n7 (fnA 7).scope)) (fnA 7).body = some (unSm b7) := by kernel_rfl
theorem c7 : C8.scC n7 ["self"] (fnA 7).scope = true := by kernel_rfl
theorem s7 : P.Fn 7 d7 := by
  refine ⟨fnA 7, n7, ["self"], 60, unSm b7, rfl, rfl, C8.fnScope_by c7, Or.inl ⟨w7, rfl⟩, rfl, rfl, fun K H => ?_, fun K dV kV doc pm an cdv ct its hD q hq => ?_⟩
  · exact rfl
  · rcases hD with ⟨_, rfl, rfl⟩ | ⟨A, o, n, hne, _⟩
    · have hq2 : q ∈ ([(1, [], [])] : List (Nat × List Nat × List (List Nat))) := hq
      rcases List.mem_cons.mp hq2 with rfl | hq2
      · intro s us KX hl
        match us, hl with
        | [u0], _ => exact ⟨[u0], rfl, .of_eq rfl⟩
      · cases hq2
    · exact absurd rfl hne
theorem w8 : mapO (trS 60 (P.pg.st n8 (fnA 8).scope)) (fnA 8).body = some (unSm b8) := by kernel_rfl
theorem c8 : C8.scC n8 ["self"] (fnA 8).scope = true := by kernel_rfl
theorem s8 : P.Fn 8 d8 := by
  refine ⟨fnA 8, n8, ["self"], 60, unSm b8, rfl, rfl, C8.fnScope_by c8, Or.inl ⟨w8, rfl⟩, rfl, rfl, fun K H => ?_, fun K dV kV doc pm an cdv ct its hD q hq => ?_⟩
  · exact rfl
  · rcases hD with ⟨_, rfl, rfl⟩ | ⟨A, o, n, hne, _⟩
    · have hq2 : q ∈ ([(1, [], [])] : List (Nat × List Nat × List (List Nat))) := hq
      rcases List.mem_cons.mp hq2 with rfl | hq2
      · intro s us KX hl
        match us, hl with
        | [u0], _ => exact ⟨[u0], rfl, .of_eq rfl⟩
      · cases hq2
    · exact absurd rfl hne
theorem w9 : mapO (trS 60 (P.pg.st n9 (fnA 9).scope)) (fnA 9).body = some (unSm b9) := by kernel_rfl
theorem c9 : C8.scC n9 ["self", "word", "name", "many", "of", "amount"] (fnA 9).scope = true := by kernel_rfl
theorem s9 : P.Fn 9 d9 := by
  refine ⟨fnA 9, n9, ["self", "word", "name", "many", "of", "amount"], 60, unSm b9, rfl, rfl, C8.fnScope_by c9, Or.inl ⟨w9, rfl⟩, rfl, rfl, fun K H => ?_, fun K dV kV doc pm an cdv ct its hD q hq => ?_⟩
  · exact .cons rfl (.cons rfl (.cons rfl (.cons rfl (rfl))))
  · rcases hD with ⟨hne, _⟩ | ⟨A, o, n, _, rfl, lA, oA, hlen⟩
    · exact absurd hne (by intro z; cases z)
    · cases hq
theorem w10 : mapO (trS 60 (P.pg.st n10 (fnA 10).scope)) (fnA 10).body = some (unSm b10) := by kernel_rfl
theorem c10 : C8.scC n10 ["self", "number"] (fnA 10).scope = true := by kernel_rfl
theorem s10 : P.Fn 10 d10 := by
  refine ⟨fnA 10, n10, ["self", "number"], 60, unSm b10, rfl, rfl, C8.fnScope_by c10, Or.inl ⟨w10, rfl⟩, rfl, rfl, fun K H => ?_, fun K dV kV doc pm an cdv ct its hD q hq => ?_⟩
  · exact rfl
  · rcases hD with ⟨_, rfl, rfl⟩ | ⟨A, o, n, hne, _⟩
    · cases hq
    · exact absurd rfl hne
theorem w11 : mapO (trS 60 (P.pg.st n11 (fnA 11).scope)) (fnA 11).body = some (unSm b11) := by kernel_rfl
theorem c11 : C8.scC n11 ["self", "sums"] (fnA 11).scope = true := by kernel_rfl
theorem s11 : P.Fn 11 d11 := by
  refine ⟨fnA 11, n11, ["self", "sums"], 60, unSm b11, rfl, rfl, C8.fnScope_by c11, Or.inl ⟨w11, rfl⟩, rfl, rfl, fun K H => ?_, fun K dV kV doc pm an cdv ct its hD q hq => ?_⟩
  · exact rfl
  · rcases hD with ⟨_, rfl, rfl⟩ | ⟨A, o, n, hne, _⟩
    · cases hq
    · exact absurd rfl hne
theorem w12 : mapO (trS 60 (P.pg.st n12 (fnA 12).scope)) (fnA 12).body = some (unSm b12) := by kernel_rfl
theorem c12 : C8.scC n12 ["self"] (fnA 12).scope = true := by kernel_rfl
theorem s12 : P.Fn 12 d12 := by
  refine ⟨fnA 12, n12, ["self"], 60, unSm b12, rfl, rfl, C8.fnScope_by c12, Or.inl ⟨w12, rfl⟩, rfl, rfl, fun K H => ?_, fun K dV kV doc pm an cdv ct its hD q hq => ?_⟩
  · exact rfl
  · rcases hD with ⟨_, rfl, rfl⟩ | ⟨A, o, n, hne, _⟩
    · have hq2 : q ∈ ([(1, [], [])] : List (Nat × List Nat × List (List Nat))) := hq
      rcases List.mem_cons.mp hq2 with rfl | hq2
      · intro s us KX hl
        match us, hl with
        | [u0], _ => exact ⟨[u0], rfl, .of_eq rfl⟩
      · cases hq2
    · exact absurd rfl hne
theorem c13 : C8.scC n13 ["self", "other"] (fnA 13).scope = true := by kernel_rfl
theorem s13 : P.Fn 13 d13 := by
  refine ⟨fnA 13, n13, ["self", "other"], 60, unSm b13, rfl, rfl, C8.fnScope_by c13, Or.inr rfl, rfl, rfl, fun K H => ?_, fun K dV kV doc pm an cdv ct its hD q hq => ?_⟩
  · exact rfl
  · rcases hD with ⟨_, rfl, rfl⟩ | ⟨A, o, n, hne, _⟩
    · have hq2 : q ∈ ([(2, [], [])] : List (Nat × List Nat × List (List Nat))) := hq
      rcases List.mem_cons.mp hq2 with rfl | hq2
      · intro s us KX hl
        match us, hl with
        | [u0, u1], _ => exact ⟨[u0, u1], rfl, .of_eq rfl⟩
      · cases hq2
    · exact absurd rfl hne
theorem w14 : mapO (trS 60 (P.pg.st n14 (fnA 14).scope)) (fnA 14).body = some (unSm b14) := by kernel_rfl
theorem c14 : C8.scC n14 ["self"] (fnA 14).scope = true := by kernel_rfl
theorem s14 : P.Fn 14 d14 := by
  refine ⟨fnA 14, n14, ["self"], 60, unSm b14, rfl, rfl, C8.fnScope_by c14, Or.inl ⟨w14, rfl⟩, rfl, rfl, fun K H => ?_, fun K dV kV doc pm an cdv ct its hD q hq => ?_⟩
  · exact rfl
  · rcases hD with ⟨_, rfl, rfl⟩ | ⟨A, o, n, hne, _⟩
    · have hq2 : q ∈ ([(1, [], [])] : List (Nat × List Nat × List (List Nat))) := hq
      rcases List.mem_cons.mp hq2 with rfl | hq2
      · intro s us KX hl
        match us, hl with
        | [u0], _ => exact ⟨[u0], rfl, .of_eq rfl⟩
      · cases hq2
    · exact absurd rfl hne
theorem w15 : mapO (trS 60 (P.pg.st n15 (fnA 15).scope)) (fnA 15).body = some (unSm b15) := by kernel_rfl
theorem c15 : C8.scC n15 ["self"] (fnA 15).scope = true := by kernel_rfl
theorem s15 : P.Fn 15 d15 := by
  refine ⟨fnA 15, n15, ["self"], 60, unSm b15, rfl, rfl, C8.fnScope_by c15, Or.inl ⟨w15, rfl⟩, rfl, rfl, fun K H => ?_, fun K dV kV doc pm an cdv ct its hD q hq => ?_⟩
  · exact rfl
  · rcases hD with ⟨_, rfl, rfl⟩ | ⟨A, o, n, hne, _⟩
    · have hq2 : q ∈ ([(1, [], [])] : List (Nat × List Nat × List (List Nat))) := hq
      rcases List.mem_cons.mp hq2 with rfl | hq2
      · intro s us KX hl
        match us, hl with
        | [u0], _ => exact ⟨[u0], rfl, .of_eq rfl⟩
      · cases hq2
    · exact absurd rfl hne
theorem w16 : mapO (trS 60 (P.pg.st n16 (fnA 16).scope)) (fnA 16).body = some (unSm b16) := by kernel_rfl
theorem c16 : C8.scC n16 ["self"] (fnA 16).scope = true := by kernel_rfl
theorem s16 : P.Fn 16 d16 := by
  refine ⟨fnA 16, n16, ["self"], 60, unSm b16, rfl, rfl, C8.fnScope_by c16, Or.inl ⟨w16, rfl⟩, rfl, rfl, fun K H => ?_, fun K dV kV doc pm an cdv ct its hD q hq => ?_⟩
  · exact rfl
  · rcases hD with ⟨_, rfl, rfl⟩ | ⟨A, o, n, hne, _⟩
    · have hq2 : q ∈ ([(1, [], [])] : List (Nat × List Nat × List (List Nat))) := hq
      rcases List.mem_cons.mp hq2 with rfl | hq2
      · intro s us KX hl
        match us, hl with
        | [u0], _ => exact ⟨[u0], rfl, .of_eq rfl⟩
      · cases hq2
    · exact absurd rfl hne
theorem w17 : mapO (trS 60 (P.pg.st n17 (fnA 17).scope)) (fnA 17).body = some (unSm b17) := by kernel_rfl
theorem c17 : C8.scC n17 ["_law_cells", "_law_spot"] (fnA 17).scope = true := by kernel_rfl
theorem s17 : P.Fn 17 d17 := by
  refine ⟨fnA 17, n17, ["_law_cells", "_law_spot"], 60, unSm b17, rfl, rfl, C8.fnScope_by c17, Or.inl ⟨w17, rfl⟩, rfl, rfl, fun K H => ?_, fun K dV kV doc pm an cdv ct its hD q hq => ?_⟩
  · exact rfl
  · rcases hD with ⟨_, rfl, rfl⟩ | ⟨A, o, n, hne, _⟩
    · have hq2 : q ∈ ([(2, [], [])] : List (Nat × List Nat × List (List Nat))) := hq
      rcases List.mem_cons.mp hq2 with rfl | hq2
      · intro s us KX hl
        match us, hl with
        | [u0, u1], _ => exact ⟨[u0, u1], rfl, .of_eq rfl⟩
      · cases hq2
    · exact absurd rfl hne
theorem w18 : mapO (trS 60 (P.pg.st n18 (fnA 18).scope)) (fnA 18).body = some (unSm b18) := by kernel_rfl
theorem c18 : C8.scC n18 ["_law_cells", "_law_spot"] (fnA 18).scope = true := by kernel_rfl
theorem s18 : P.Fn 18 d18 := by
  refine ⟨fnA 18, n18, ["_law_cells", "_law_spot"], 60, unSm b18, rfl, rfl, C8.fnScope_by c18, Or.inl ⟨w18, rfl⟩, rfl, rfl, fun K H => ?_, fun K dV kV doc pm an cdv ct its hD q hq => ?_⟩
  · exact rfl
  · rcases hD with ⟨_, rfl, rfl⟩ | ⟨A, o, n, hne, _⟩
    · have hq2 : q ∈ ([(2, [], [])] : List (Nat × List Nat × List (List Nat))) := hq
      rcases List.mem_cons.mp hq2 with rfl | hq2
      · intro s us KX hl
        match us, hl with
        | [u0, u1], _ => exact ⟨[u0, u1], rfl, .of_eq rfl⟩
      · cases hq2
    · exact absurd rfl hne
theorem w19 : mapO (trS 60 (P.pg.st n19 (fnA 19).scope)) (fnA 19).body = some (unSm b19) := by kernel_rfl
theorem c19 : C8.scC n19 ["_law_cells", "_law_spot"] (fnA 19).scope = true := by kernel_rfl
theorem s19 : P.Fn 19 d19 := by
  refine ⟨fnA 19, n19, ["_law_cells", "_law_spot"], 60, unSm b19, rfl, rfl, C8.fnScope_by c19, Or.inl ⟨w19, rfl⟩, rfl, rfl, fun K H => ?_, fun K dV kV doc pm an cdv ct its hD q hq => ?_⟩
  · exact rfl
  · rcases hD with ⟨_, rfl, rfl⟩ | ⟨A, o, n, hne, _⟩
    · have hq2 : q ∈ ([(2, [], [])] : List (Nat × List Nat × List (List Nat))) := hq
      rcases List.mem_cons.mp hq2 with rfl | hq2
      · intro s us KX hl
        match us, hl with
        | [u0, u1], _ => exact ⟨[u0, u1], rfl, .of_eq rfl⟩
      · cases hq2
    · exact absurd rfl hne
theorem w20 : mapO (trS 60 (P.pg.st n20 (fnA 20).scope)) (fnA 20).body = some (unSm b20) := by kernel_rfl
theorem c20 : C8.scC n20 ["_law_who", "_law_cells", "_law_spot"] (fnA 20).scope = true := by kernel_rfl
theorem s20 : P.Fn 20 d20 := by
  refine ⟨fnA 20, n20, ["_law_who", "_law_cells", "_law_spot"], 60, unSm b20, rfl, rfl, C8.fnScope_by c20, Or.inl ⟨w20, rfl⟩, rfl, rfl, fun K H => ?_, fun K dV kV doc pm an cdv ct its hD q hq => ?_⟩
  · exact rfl
  · rcases hD with ⟨_, rfl, rfl⟩ | ⟨A, o, n, hne, _⟩
    · have hq2 : q ∈ ([(3, [], [])] : List (Nat × List Nat × List (List Nat))) := hq
      rcases List.mem_cons.mp hq2 with rfl | hq2
      · intro s us KX hl
        match us, hl with
        | [u0, u1, u2], _ => exact ⟨[u0, u1, u2], rfl, .of_eq rfl⟩
      · cases hq2
    · exact absurd rfl hne
theorem w21 : mapO (trS 60 (P.pg.st n21 (fnA 21).scope)) (fnA 21).body = some (unSm b21) := by kernel_rfl
theorem c21 : C8.scC n21 ["_law_way", "_law_who", "_law_top"] (fnA 21).scope = true := by kernel_rfl
theorem s21 : P.Fn 21 d21 := by
  refine ⟨fnA 21, n21, ["_law_way", "_law_who", "_law_top"], 60, unSm b21, rfl, rfl, C8.fnScope_by c21, Or.inl ⟨w21, rfl⟩, rfl, rfl, fun K H => ?_, fun K dV kV doc pm an cdv ct its hD q hq => ?_⟩
  · exact rfl
  · rcases hD with ⟨_, rfl, rfl⟩ | ⟨A, o, n, hne, _⟩
    · have hq2 : q ∈ ([(3, [], [])] : List (Nat × List Nat × List (List Nat))) := hq
      rcases List.mem_cons.mp hq2 with rfl | hq2
      · intro s us KX hl
        match us, hl with
        | [u0, u1, u2], _ => exact ⟨[u0, u1, u2], rfl, .of_eq rfl⟩
      · cases hq2
    · exact absurd rfl hne
theorem w22 : mapO (trS 60 (P.pg.st n22 (fnA 22).scope)) (fnA 22).body = some (unSm b22) := by kernel_rfl
theorem c22 : C8.scC n22 ["_law_script"] (fnA 22).scope = true := by kernel_rfl
theorem s22 : P.Fn 22 d22 := by
  refine ⟨fnA 22, n22, ["_law_script"], 60, unSm b22, rfl, rfl, C8.fnScope_by c22, Or.inl ⟨w22, rfl⟩, rfl, rfl, fun K H => ?_, fun K dV kV doc pm an cdv ct its hD q hq => ?_⟩
  · exact rfl
  · rcases hD with ⟨_, rfl, rfl⟩ | ⟨A, o, n, hne, _⟩
    · have hq2 : q ∈ ([(1, [], [])] : List (Nat × List Nat × List (List Nat))) := hq
      rcases List.mem_cons.mp hq2 with rfl | hq2
      · intro s us KX hl
        match us, hl with
        | [u0], _ => exact ⟨[u0], rfl, .of_eq rfl⟩
      · cases hq2
    · exact absurd rfl hne
theorem sAll : ∀ f fd, P.fds[f]? = some fd → P.Fn f fd := fun f fd h => match f, h with
  | 0, h => by cases h; exact s0
  | 1, h => by cases h; exact s1
  | 2, h => by cases h; exact s2
  | 3, h => by cases h; exact s3
  | 4, h => by cases h; exact s4
  | 5, h => by cases h; exact s5
  | 6, h => by cases h; exact s6
  | 7, h => by cases h; exact s7
  | 8, h => by cases h; exact s8
  | 9, h => by cases h; exact s9
  | 10, h => by cases h; exact s10
  | 11, h => by cases h; exact s11
  | 12, h => by cases h; exact s12
  | 13, h => by cases h; exact s13
  | 14, h => by cases h; exact s14
  | 15, h => by cases h; exact s15
  | 16, h => by cases h; exact s16
  | 17, h => by cases h; exact s17
  | 18, h => by cases h; exact s18
  | 19, h => by cases h; exact s19
  | 20, h => by cases h; exact s20
  | 21, h => by cases h; exact s21
  | 22, h => by cases h; exact s22
  | n + 23, h => by rw [List.getElem?_eq_none (show P.fds.length ≤ n + 23 from Nat.le_add_left _ _)] at h; cases h
theorem xc0 : C8.scC ["self", "line"] ["self", "line"] (fnA 23).scope = true := by kernel_rfl
theorem xf0 : P.XFn (⟨23, "line", "GiftError", true⟩) := by
  refine ⟨fnA 23, ["self", "line"], "self", "line", "no such text", _, _, _, _, _, _, _, _, _, _, _, rfl, rfl, fun _ => rfl, by rfl, C8.fnScope_by xc0, fun kV doc pm an cdv ct s us hl => ?_, by rfl, by decide, by rfl, by decide, by decide, by decide, by decide⟩
  match us, hl with
  | [u0, u1], _ => exact .of_eq rfl
theorem xc1 : C8.scC ["self", "name"] ["self", "name"] (fnA 24).scope = true := by kernel_rfl
theorem xf1 : P.XFn (⟨24, "name", "GiftError", true⟩) := by
  refine ⟨fnA 24, ["self", "name"], "self", "name", "a name that is there", _, _, _, _, _, _, _, _, _, _, _, rfl, rfl, fun _ => rfl, by rfl, C8.fnScope_by xc1, fun kV doc pm an cdv ct s us hl => ?_, by rfl, by decide, by rfl, by decide, by decide, by decide, by decide⟩
  match us, hl with
  | [u0, u1], _ => exact .of_eq rfl
theorem xAll : ∀ (c : Nat) (x : XI) (n : XN), P.xcs[c]? = some x → x.own = true → x.ini = some n → P.XFn n := fun c x n h o e => match c, h with
  | 0, h => by cases h; cases e
  | 1, h => by cases h; cases e
  | 2, h => by cases h; cases e
  | 3, h => by cases h; cases e
  | 4, h => by cases h; cases e
  | 5, h => by cases h; cases e
  | 6, h => by cases h; cases e
  | 7, h => by cases h; cases e
  | 8, h => by cases h; cases e
  | 9, h => by cases h; cases e; exact xf0
  | 10, h => by cases h; cases e
  | 11, h => by cases h; cases e; exact xf1
  | 12, h => by cases h; cases e
  | n + 13, h => by rw [List.getElem?_eq_none (show P.xcs.length ≤ n + 13 from Nat.le_add_left _ _)] at h; cases h
def names : List PySem.Str := (["__name__", "_wall", "GiftError", "BadName", "BadSum", "BadStep", "BadText", "BadGoals", "Twice", "TooMany", "LETTERS", "MOST_LETTERS", "MOST_SUM", "is_among", "is_name", "is_sum", "step_text", "Promise", "_law_cell", "_law_name", "_law_sum", "_law_spoilt_name", "_law_made"] : List PySem.Str)
abbrev Rw : PySem.W.OpenRow := PySem.W.OpenLaw.row PySem.Challenge.rw_giftsdue_k02_promises_made
abbrev hk : PySem.W.Hook := P.hook 12
def ob (s : PySem.W.SharedT) : AlM := P.obs 12 (HandSHeadRun.getT s)
theorem ob_eq (s : PySem.W.SharedT) : ob s = hk.obs s.abs := PD.obs_eq (HandSHeadRun.getT_eq s)
theorem run (w : World) : HandSHeadRun.RunEq Rw (PySem.W.view Rw.prog [25]) hk ob 100000 names w :=
  PySem.W.byRow2 "special-get-raises" (P := fun w => HandSHeadRun.RunEq Rw (PySem.W.view Rw.prog [25]) hk ob 100000 names w) (fun w => by intro os; kernel_rfl) (fun w => by intro os; kernel_rfl) w
end Prog
open PySem PySem.W PySem.Calls PyProof.Rows MP
theorem endOf (law_ok : ∀ ns : List Int, ns.length ≤ 63 → (∀ z ∈ ns, Builtin.Int.intBits z ≤ 1048576) → cal Prog.P.G 12 22 [scr ns] (fun _ => none) (fun v _ => v = .bl true) (fun _ _ => False)) : PySem.Challenge.rw_giftsdue_k02_promises_made.Holds := by
  w_on; o_law
  refine HandSHeadRun.head_any (r := OpenLaw.row PySem.Challenge.rw_giftsdue_k02_promises_made) (q := view (OpenLaw.row PySem.Challenge.rw_giftsdue_k02_promises_made).prog [25]) (H := Prog.hk) (ob := Prog.ob) (M := 100000) (loose := Prog.names) (d := HandSHeadRun.topDef (OpenLaw.row PySem.Challenge.rw_giftsdue_k02_promises_made).prog 25) (kwd := []) Prog.ob_eq
    (by kernel_rfl) (fun s => by kernel_rfl) Prog.run (by kernel_rfl) (by kernel_rfl) (by kernel_rfl) (by rfl) (by first | assumption | decide +kernel) (by decide +kernel) ⟨rfl, rfl, rfl, rfl, rfl, by decide +kernel⟩ ?hw ?hc
  case hw => w_witness2
  case hc =>
    refine law_end (l := PySem.Challenge.rw_giftsdue_k02_promises_made) (n := 63) (k := 4 * 12) rfl (by decide) (by kernel_rfl) ⟨rfl, by decide, by decide⟩ ?F
    intro w mg fa h Y G hmg0
    obtain ⟨K, KX, c⟩ := Y
    have hmg : mg ("law" : PySem.Str) = some (.ref fa) := by
      have e : (HandSHeadRun.topDef (OpenLaw.row PySem.Challenge.rw_giftsdue_k02_promises_made).prog 25).name = ("law" : PySem.Str) := by kernel_rfl
      rw [← e]
      exact hmg0
    have e := hmg.symm.trans (PD.mg_fn c KX G (x := ("law" : PySem.Str)) (f := 22) (lk_mem (by kernel_rfl)))
    have e2 : fa = Prog.P.fa K 22 := Value.ref.inj (Option.some.inj e)
    subst e2
    exact ⟨Prog.P.R K, cal Prog.P.G 12, 22, Prog.d22, Prog.P.pg.sh 22, KX, rfl, by decide +kernel, rfl, rfl, law_ok, fun base hK hG => PD.run (by decide +kernel) c hK hG Prog.sAll (PD.pn_ok (by decide +kernel)) Prog.xAll 12 22 Prog.d22 rfl⟩
theorem PySem.Challenge.cw_giftsdue_k02_promises_made_holds : PySem.Challenge.rw_giftsdue_k02_promises_made.Holds := by
  exact endOf fun ns h _ => KK.law_ok ns h
