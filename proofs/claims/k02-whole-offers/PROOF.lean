import PyProof.Rows.All
import HandS.Text
import KE.SortData
import HandS.Base
import HandS.Call
import HandS.List
import HandS.Exc
import HandS.TupAny
import HandS.Wide
import HandS.Deep
import HandS.Flow
import HandS.Dict
import HandS.Style
import HandS.Words
import HandS.Property
import HandS.HeadWalk
import HandS.IsInst
import HandS.FStr
import PyProof.ListRange
import HandS.Sort
import HandS.ForMost
import PyProof.ReprRoads
import PyProof.P3In
import PyProof.InstEq
import KE.KCallOwn
import HandS.Comp
import HandS.Iter
import HandS.NoneIn
import HandS.Ends
import HandS.EndBits
import HandS.Head0
import HandS.Head1
import HandS.Head2
import HandS.HeadEnd
import HandS.HeadHook1
import HandS.HeadHook2
import HandS.HeadNt
import HandS.WordsExc
import PySem.Challenge.RW_lookcosts_k02_whole_offers_and_their_tex
set_option Elab.async false
set_option linter.all false
section
set_option linter.all false
/-! MiCore: plain data, a list-heap, position-free code and its evaluator. -/
namespace Mi
open PySem

/-- a value: tuples by value, lists, dicts and instances by number -/
inductive D where
  | non | bl (b : Bool) | int (i : Int) | str (x : Str) | tup (ds : List D) | ref (n : Nat)
  | fn (f : Nat) | cls (c : Nat) | ty (n : String) | kd (k : Nat)
  deriving Inhabited

/-- what stands at a number. lst: a list; frz: the script -/
inductive O where
  | lst (ds : List D) | frz (ds : List D)
  | dic (kvs : List (D × D)) | fdic (kvs : List (D × D)) | ins (c : Nat) (fs : List (Str × D))
  deriving Inhabited

abbrev Hea := List O
abbrev Loc := List (Option D)
/-- an exception: its class, its fields -/
abbrev XC := D × List (Str × D)

inductive Out (α : Type) where
  | no
  | ok (a : α) (h : Hea)
  | ex (x : XC) (h : Hea)
namespace Out
def bind {α β : Type} : Out α → (α → Hea → Out β) → Out β
  | .no, _ => .no
  | .ok a h, f => f a h
  | .ex x h, _ => .ex x h
@[simp] theorem bind_no {α β : Type} (f : α → Hea → Out β) : (Out.no : Out α).bind f = .no := rfl
@[simp] theorem bind_ok {α β : Type} (a : α) (h : Hea) (f : α → Hea → Out β) : (Out.ok a h).bind f = f a h := rfl
@[simp] theorem bind_ex {α β : Type} (x : XC) (h : Hea) (f : α → Hea → Out β) : (Out.ex x h : Out α).bind f = .ex x h := rfl
end Out
/-- an exception is not let -/
def noX {α : Type} : Out α → Out α
  | .ok a h => .ok a h
  | _ => .no
@[simp] theorem noX_ok {α : Type} (a : α) (h : Hea) : noX (.ok a h) = .ok a h := rfl
@[simp] theorem noX_no {α : Type} : noX (.no : Out α) = .no := rfl
/-- none is stuck -/
def lift {α : Type} (o : Option α) (h : Hea) : Out α := match o with
  | some a => .ok a h
  | none => .no
@[simp] theorem lift_some {α : Type} (a : α) (h : Hea) : lift (some a) h = .ok a h := rfl
@[simp] theorem lift_none {α : Type} (h : Hea) : lift (none : Option α) h = .no := rfl

/-- a new object -/
def new (o : O) (h : Hea) : Out D := .ok (.ref h.length) (h ++ [o])
def SZ : Nat := 16777216
def rdL (h : Hea) (a : Nat) : Option (List D) := match h[a]? with
  | some (.lst ds) => some ds
  | some (.frz ds) => some ds
  | _ => none
/-- a list or a tuple -/
def seqD (h : Hea) : D → Option (List D)
  | .tup ds => some ds
  | .ref a => rdL h a
  | _ => none

/-! ### equality of data -/
mutual
def pdD (r : Nat → Option PyData) : D → Option PyData
  | .non => some .none
  | .bl b => some (.bool b)
  | .int i => some (.int i)
  | .str x => some (.str x)
  | .tup ds => (pdDs r ds).map .tuple
  | .ref a => r a
  | _ => none
def pdDs (r : Nat → Option PyData) : List D → Option (List PyData)
  | [] => some []
  | d :: ds => (pdD r d).bind fun x => (pdDs r ds).map fun xs => x :: xs
end
def pdR (h : Hea) : Nat → Nat → Option PyData
  | 0, _ => none
  | k + 1, a => (rdL h a).bind fun ds => (pdDs (pdR h k) ds).map .list
def pd (h : Hea) (d : D) : Option PyData := (pdD (pdR h 8) d).bind fun x => if SeqAt.shaped x then some x else none
def eqD (h : Hea) (d e : D) : Option Bool := (pd h d).bind fun x => (pd h e).map fun y => PyData.eqv x y

/-! ### truth -/
def truD (h : Hea) : D → Option Bool
  | .non => some false
  | .bl b => some b
  | .int i => some (i != 0)
  | .str x => if x.length ≤ SZ then some (x.length != 0) else none
  | .tup ds => some (!ds.isEmpty)
  | .ref a => (rdL h a).map fun ds => !ds.isEmpty
  | _ => none

/-! ### operators -/
inductive BOp where | add | sub | mul | fdiv | mod | pow
inductive COp where | eq | ne | lt | le | gt | ge | is | isNot | in_ | notIn
inductive BI where | abs | all | any | bool | dict | divmod | int | len | list | max | min | repr | sorted | str | sum | tuple | isinst
inductive BM where | append | extend | pop | get | join | split | count | index | remove

def mulOk (i j : Int) : Bool := decide (i.natAbs.log2 + j.natAbs.log2 < 100000000)
def divOk (j : Int) : Bool := decide (0 < j) && decide (j.natAbs.log2 < 9000)
def powOk (i j : Int) : Bool := decide (0 ≤ j) && decide (j ≤ 1000000) && decide (i.natAbs < 2 ^ 64)

def opAdd (x y : D) (h : Hea) : Out D := match x, y with
  | .int i, .int j => .ok (.int (i + j)) h
  | .str a, .str b => if a.length + b.length ≤ SZ then .ok (.str (a ++ b)) h else .no
  | .tup a, .tup b => if a.length + b.length ≤ SZ then .ok (.tup (a ++ b)) h else .no
  | .ref a, .ref b => match h[a]?, h[b]? with
    | some (.lst xs), some (.lst ys) => if xs.length + ys.length ≤ SZ then new (.lst (xs ++ ys)) h else .no
    | _, _ => .no
  | _, _ => .no
def opSub (x y : D) (h : Hea) : Out D := match x, y with
  | .int i, .int j => .ok (.int (i - j)) h
  | _, _ => .no
def opMul (x y : D) (h : Hea) : Out D := match x, y with
  | .int i, .int j => if mulOk i j then .ok (.int (i * j)) h else .no
  | .ref a, .int k => match h[a]? with
    | some (.lst xs) => if decide (0 ≤ k) && decide (k < 2 ^ 62) && decide (xs.length * k.toNat ≤ SZ) then new (.lst (List.replicate k.toNat xs).flatten) h else .no
    | _ => .no
  | _, _ => .no
def opFdiv (x y : D) (h : Hea) : Out D := match x, y with
  | .int i, .int j => if divOk j then .ok (.int (i / j)) h else .no
  | _, _ => .no
def opMod (x y : D) (h : Hea) : Out D := match x, y with
  | .int i, .int j => if 0 < j then .ok (.int (i % j)) h else .no
  | _, _ => .no
def opPow (x y : D) (h : Hea) : Out D := match x, y with
  | .int i, .int j => if powOk i j then .ok (.int (i ^ j.toNat)) h else .no
  | _, _ => .no
def opB (o : BOp) : D → D → Hea → Out D := match o with
  | .add => opAdd
  | .sub => opSub
  | .mul => opMul
  | .fdiv => opFdiv
  | .mod => opMod
  | .pow => opPow

def isNon : D → Bool
  | .non => true
  | _ => false
/-- x in y: a text in a text; a datum in a list, in a tuple -/
def inD (h : Hea) (x y : D) : Option Bool := match x, y with
  | .str i, .str j => some (!(Builtin.Str.occurrences j i 0 j.length 1).isEmpty)
  | x, y => (pd h x).bind fun z => (pd h y).bind fun w => match w with
    | .list ws => some (ws.any fun v => PyData.eqv v z)
    | .tuple ws => some (ws.any fun v => PyData.eqv v z)
    | _ => none
def opC (o : COp) (x y : D) (h : Hea) : Option Bool := match o with
  | .eq => eqD h x y
  | .ne => (eqD h x y).map (!·)
  | .lt => match x, y with
    | .int i, .int j => some (decide (i < j))
    | _, _ => none
  | .le => match x, y with
    | .int i, .int j => some (decide (i ≤ j))
    | _, _ => none
  | .gt => match x, y with
    | .int i, .int j => some (decide (j < i))
    | _, _ => none
  | .ge => match x, y with
    | .int i, .int j => some (decide (j ≤ i))
    | _, _ => none
  | .is => match y with
    | .non => some (isNon x)
    | _ => none
  | .isNot => match y with
    | .non => some (!isNon x)
    | _ => none
  | .in_ => inD h x y
  | .notIn => (inD h x y).map (!·)

/-! ### items, slices -/
def strAt (x : Str) (i : Int) : Option Str := (L2.atI x.cps.toList i).map fun c => ⟨#[c]⟩
def idxD (x y : D) (h : Hea) : Option D := match x, y with
  | .tup ds, .int i => L2.atI ds i
  | .ref a, .int i => (rdL h a).bind fun ds => L2.atI ds i
  | .str x, .int i => if x.length ≤ SZ then (strAt x i).map .str else none
  | _, _ => none
def cutD {α : Type} (xs : List α) (lo hi : Option Int) : List α := (xs.drop (HT.sIx xs.length 0 lo)).take (HT.sIx xs.length xs.length hi - HT.sIx xs.length 0 lo)
def sliD (x : D) (lo hi : Option Int) (h : Hea) : Out D := match x with
  | .tup ds => .ok (.tup (cutD ds lo hi)) h
  | .ref a => match rdL h a with
    | some ds => new (.lst (cutD ds lo hi)) h
    | none => .no
  | .str x => if x.length ≤ SZ then .ok (.str (L2.cutS x lo hi)) h else .no
  | _ => .no

/-! ### order -/
def pdL (h : Hea) : List D → Option (List PyData)
  | [] => some []
  | d :: ds => (pd h d).bind fun x => (pdL h ds).map fun xs => x :: xs
def tupNE : PyData → Bool
  | .tuple (_ :: _) => true
  | _ => false
def noTup : PyData → Bool
  | .none => false
  | .tuple _ => false
  | _ => true
def sortOk (ds : List PyData) : Bool := (ds.all fun d => ds.all fun e => PySem.W.alike d e) && (ds.all tupNE || ds.all noTup)
def sortZ (zs : List (D × PyData)) : List (D × PyData) := zs.mergeSort (PySem.W.dataLe false (·.2))
def sortD (h : Hea) (ds : List D) : Option (List D) := (pdL h ds).bind fun xs => if sortOk xs && decide (ds.length ≤ SZ) then some ((sortZ (ds.zip xs)).map (·.1)) else none

/-! ### built-in functions -/
def intsD : List D → Option (List Int)
  | [] => some []
  | .int i :: r => (intsD r).map fun z => i :: z
  | _ :: _ => none
def blsD : List D → Option (List Bool)
  | [] => some []
  | .bl b :: r => (blsD r).map fun z => b :: z
  | _ :: _ => none
def strsD : List D → Option (List Str)
  | [] => some []
  | .str b :: r => (strsD r).map fun z => b :: z
  | _ :: _ => none
def maxI : List Int → Option Int
  | [] => none
  | [i] => some i
  | i :: r => (maxI r).map fun m => if m > i then m else i
def minI : List Int → Option Int
  | [] => none
  | [i] => some i
  | i :: r => (minI r).map fun m => if m < i then m else i
def lenD (h : Hea) : D → Option Int
  | .tup ds => some ds.length
  | .str x => if x.length ≤ SZ then some x.length else none
  | .ref a => match h[a]? with
    | some (.lst ds) => some ds.length
    | some (.frz ds) => some ds.length
    | _ => none
  | _ => none
def reprD (h : Hea) (d : D) : Option Str := (pd h d).bind fun x => if x.showable && decide (x.shown.length ≤ SZ) then some x.shown else none
def smallI (i : Int) : Bool := decide (i.natAbs.log2 < 1920)
/-- of what built-in type a value is -/
def tyD (h : Hea) : D → Option String
  | .non => some "NoneType"
  | .bl _ => some "bool"
  | .int _ => some "int"
  | .str _ => some "str"
  | .tup _ => some "tuple"
  | .ref a => match h[a]? with
    | some (.lst _) => some "list"
    | some (.frz _) => some "list"
    | some (.dic _) => some "dict"
    | _ => none
  | _ => none
/-- what the text's classes are: methods, properties, fields' names, __init__, isinstance -/
structure GE where
  meth : Nat → Str → Option Nat
  prop : Nat → Str → Option Nat
  att : Nat → Str → Bool
  init : Nat → Option Nat
  /-- instance of a class, a class -/
  sub : Nat → Nat → Option Bool
  /-- a value of a built-in type is no instance of the class -/
  tyc : String → Nat → Bool
  /-- an instance of the class is none of the built-in type -/
  cty : Nat → String → Bool
def plainTy (n : String) : Bool := n == "int" || n == "bool" || n == "str" || n == "tuple" || n == "list" || n == "dict"
def isinstD (G : GE) (h : Hea) (x c : D) : Option Bool := match c with
  | .ty n => if plainTy n then (match tyD h x with
    | some t => some (t == n || (t == "bool" && n == "int"))
    | none => match x with
      | .ref a => match h[a]? with
        | some (.ins d _) => if G.cty d n then some false else none
        | _ => none
      | _ => none) else none
  | .cls c => match tyD h x with
    | some t => if G.tyc t c then some false else none
    | none => match x with
      | .ref a => match h[a]? with
        | some (.ins d _) => G.sub d c
        | _ => none
      | _ => none
  | _ => none
def listD (h : Hea) : D → Option (List D)
  | .ref a => rdL h a
  | _ => none
def fAbs (xs : List D) (h : Hea) : Out D := match xs with
  | [.int i] => .ok (.int (if i < 0 then -i else i)) h
  | _ => .no
def fAll (xs : List D) (h : Hea) : Out D := match xs with
  | [x] => lift (((listD h x).bind blsD).map fun bs => .bl (bs.all id)) h
  | _ => .no
def fAny (xs : List D) (h : Hea) : Out D := match xs with
  | [x] => lift (((listD h x).bind blsD).map fun bs => .bl (bs.any id)) h
  | _ => .no
def fBool (xs : List D) (h : Hea) : Out D := match xs with
  | [.int i] => .ok (.bl (i != 0)) h
  | [.bl b] => .ok (.bl b) h
  | _ => .no
def fDivmod (xs : List D) (h : Hea) : Out D := match xs with
  | [.int i, .int j] => if decide (0 < j) && decide (j < 1073741824) then .ok (.tup [.int (i / j), .int (i % j)]) h else .no
  | _ => .no
def fInt (xs : List D) (h : Hea) : Out D := match xs with
  | [.int i] => .ok (.int i) h
  | [.bl b] => .ok (.int (if b then 1 else 0)) h
  | [.str x] => if x.length ≤ 640 then lift ((PySem.intText? x).map .int) h else .no
  | _ => .no
def fLen (xs : List D) (h : Hea) : Out D := match xs with
  | [x] => lift ((lenD h x).map .int) h
  | _ => .no
def fList (xs : List D) (h : Hea) : Out D := match xs with
  | [x] => match seqD h x with
    | some ds => new (.lst ds) h
    | none => .no
  | _ => .no
def fMax (xs : List D) (h : Hea) : Out D := match xs with
  | [.int i, .int j] => .ok (.int (if j > i then j else i)) h
  | [x] => lift ((((listD h x).bind intsD).bind maxI).map .int) h
  | _ => .no
def fMin (xs : List D) (h : Hea) : Out D := match xs with
  | [.int i, .int j] => .ok (.int (if j < i then j else i)) h
  | [x] => lift ((((listD h x).bind intsD).bind minI).map .int) h
  | _ => .no
def isRf : D → Bool
  | .tup _ => true
  | .ref _ => true
  | _ => false
def fRepr (xs : List D) (h : Hea) : Out D := match xs with
  | [x] => if isRf x then lift ((reprD h x).map .str) h else .no
  | _ => .no
def fSorted (xs : List D) (h : Hea) : Out D := match xs with
  | [x] => match (listD h x).bind (sortD h) with
    | some ds => new (.lst ds) h
    | none => .no
  | _ => .no
def fStr (xs : List D) (h : Hea) : Out D := match xs with
  | [.int i] => if smallI i then .ok (.str (toString i)) h else .no
  | _ => .no
def fSum (xs : List D) (h : Hea) : Out D := match xs with
  | [x] => lift (((listD h x).bind intsD).map fun is => .int is.sum) h
  | _ => .no
def fTuple (xs : List D) (h : Hea) : Out D := match xs with
  | [x] => lift ((seqD h x).map .tup) h
  | _ => .no
def fIsinst (G : GE) (xs : List D) (h : Hea) : Out D := match xs with
  | [x, c] => lift ((isinstD G h x c).map .bl) h
  | _ => .no
def callB (G : GE) (b : BI) : List D → Hea → Out D := match b with
  | .abs => fAbs
  | .all => fAll
  | .any => fAny
  | .bool => fBool
  | .dict => fun _ _ => .no
  | .divmod => fDivmod
  | .int => fInt
  | .len => fLen
  | .list => fList
  | .max => fMax
  | .min => fMin
  | .repr => fRepr
  | .sorted => fSorted
  | .str => fStr
  | .sum => fSum
  | .tuple => fTuple
  | .isinst => fIsinst G

/-! ### dicts: keys are data without lists -/
mutual
def keyB : D → D → Bool
  | .int i, .int j => i == j
  | .str x, .str y => x == y
  | .tup a, .tup b => keyBs a b
  | _, _ => false
def keyBs : List D → List D → Bool
  | [], [] => true
  | x :: xs, y :: ys => keyB x y && keyBs xs ys
  | _, _ => false
end
mutual
/-- a key: ints, texts, tuples of these -/
def keyOk : D → Bool
  | .int _ => true
  | .str _ => true
  | .tup ds => keysOk ds
  | _ => false
def keysOk : List D → Bool
  | [] => true
  | x :: xs => keyOk x && keysOk xs
end
def getK (kvs : List (D × D)) (k : D) : Option D := match kvs with
  | [] => none
  | (k', v) :: r => if keyB k' k then some v else getK r k
def putK (kvs : List (D × D)) (k v : D) : List (D × D) := match kvs with
  | [] => [(k, v)]
  | (k', v') :: r => if keyB k' k then (k', v) :: r else (k', v') :: putK r k v

/-! ### methods of built-in types -/
def fmtD : D → Option D
  | .int i => if smallI i then some (.str (toString i)) else none
  | .str x => if x.length ≤ SZ then some (.str x) else none
  | _ => none
def gAppend (x : D) (xs : List D) (h : Hea) : Out D := match x, xs with
  | .ref a, [d] => match h[a]? with
    | some (.lst ds) => if ds.length < SZ then .ok .non (h.set a (.lst (ds ++ [d]))) else .no
    | _ => .no
  | _, _ => .no
def gExtend (x : D) (xs : List D) (h : Hea) : Out D := match x, xs with
  | .ref a, [.ref b] => match h[a]? with
    | some (.lst ds) => match h[b]? with
      | some (.lst es) => if ds.length + es.length ≤ SZ then .ok .non (h.set a (.lst (ds ++ es))) else .no
      | _ => .no
    | _ => .no
  | _, _ => .no
def gPop (x : D) (xs : List D) (h : Hea) : Out D := match x, xs with
  | .ref a, [] => match h[a]? with
    | some (.lst ds) => match ds[ds.length - 1]? with
      | some d => .ok d (h.set a (.lst ds.dropLast))
      | none => .no
    | _ => .no
  | _, _ => .no
def gGet (x : D) (xs : List D) (h : Hea) : Out D := match x, xs with
  | .ref a, [k, d] => match h[a]? with
    | some (.dic kvs) => if keyOk k then .ok ((getK kvs k).getD d) h else .no
    | _ => .no
  | _, _ => .no
def gJoin (x : D) (xs : List D) (h : Hea) : Out D := match x, xs with
  | .str s, [x] => match (seqD h x).bind strsD with
    | some ss => if (ss.map (·.length)).sum + ss.length * s.length ≤ SZ then .ok (.str (PySem.Txt.join s ss)) h else .no
    | none => .no
  | _, _ => .no
def callM (m : BM) : D → List D → Hea → Out D := match m with
  | .append => gAppend
  | .extend => gExtend
  | .pop => gPop
  | .get => gGet
  | .join => gJoin
  | _ => fun _ _ _ => .no

/-- the receiver is of the method's type -/
def recv (m : BM) (x : D) (h : Hea) : Bool := match m with
  | .append => (listD h x).isSome
  | .extend => (listD h x).isSome
  | .pop => (listD h x).isSome
  | .join => match x with
    | .str _ => true
    | _ => false
  | _ => false

/-! ### code -/
inductive Tg where
  | nm (i : Nat) | tp (is : List Nat)
mutual
inductive CE where
  | bad | var (i : Nat) | lit (d : D)
  | bin (o : BOp) (a b : CE) | neg (a : CE) | not (a : CE)
  | cmp (o : COp) (a b : CE) | cmp2 (o p : COp) (a b c : CE)
  | and (a b : CE) | or (a b : CE) | ite (c a b : CE)
  | tup (es : List CE) | lst (es : List CE) | dic
  | idx (a b : CE) | sliL (a lo : CE) | sliH (a hi : CE) | sliB (a lo hi : CE) | rev (a : CE)
  | fld (a : CE) (f : Str)
  | call (f : Nat) (es : List CE) | callv (i : Nat) (ok : Nat → Bool) (es : List CE) | lrng (es : List CE) | callk (f : Nat) (es : List CE) (sh : List (Sum Nat D))
  | mk (c : Nat) (es : List CE) (sh : List (Sum Nat D))
  | meth (a : CE) (m : Str) (es : List CE) (sh : List (Sum Nat D))
  | bi (b : BI) (es : List CE) | bm (m : BM) (a : CE) (es : List CE)
  | lc (own : List Nat) (g : Tg) (it : IT) (c e : CE)
  | fmt (a : CE) | fst (es : List CE)
inductive IT where
  | bad | seq (e : CE) | rng (es : List CE) | enm (e : CE) | zip (a b : CE)
end
inductive TgX where
  | nm (i : Nat) | fl (o : CE) (f : Str) | ix (o i : CE)
inductive CS where
  | bad
  | asg (i : Nat) (e : CE) | asgT (is : List Nat) (e : CE) | asgP (is : List Nat) (es : List CE)
  | asgF (o : CE) (f : Str) (e : CE) | asgI (o i e : CE) | asgM (ts : List TgX) (e : CE)
  | aug (i : Nat) (o : BOp) (e : CE) | augF (o : CE) (f : Str) (p : BOp) (e : CE)
  | exp (e : CE) | iff (c : CE) (a b : List CS) | fr (g : Tg) (it : IT) (b : List CS) | whl (c : CE) (b : List CS)
  | ret (e : CE) | retN | pass | cont | brk | raise (c : Nat) (es : List CE)


/-! ### the evaluator -/
abbrev Orc := Nat → List D → Hea → Out D

def shape (ds : List D) : List (Sum Nat D) → Option (List D)
  | [] => some []
  | .inl i :: r => (ds[i]?).bind fun d => (shape ds r).map fun z => d :: z
  | .inr d :: r => (shape ds r).map fun z => d :: z
def lookF (fs : List (Str × D)) (f : Str) : Option D := match fs with
  | [] => none
  | (g, v) :: r => if g = f then some v else lookF r f
def putF (fs : List (Str × D)) (f : Str) (v : D) : List (Str × D) := match fs with
  | [] => [(f, v)]
  | (g, w) :: r => if g = f then (g, v) :: r else (g, w) :: putF r f v
def insAt (h : Hea) : D → Option (Nat × Nat × List (Str × D))
  | .ref a => match h[a]? with
    | some (.ins c fs) => some (a, c, fs)
    | _ => none
  | _ => none
def setAll (σ : Loc) : List Nat → List D → Loc
  | i :: is, d :: ds => setAll (σ.set i (some d)) is ds
  | _, _ => σ
def bindT (h : Hea) (σ : Loc) (d : D) : Tg → Option Loc
  | .nm i => some (σ.set i (some d))
  | .tp is => (seqD h d).bind fun ds => if ds.length = is.length then some (setAll σ is ds) else none
def asD (d : D) (h : Hea) : Out Bool := lift (truD h d) h
def rngD (lo : Int) (n : Nat) (c : Int) : List D := (List.range n).map fun (i : Nat) => .int (lo + (i : Int) * c)
def smallR (i : Int) : Bool := decide (-(2 ^ 62) ≤ i) && decide (i < 2 ^ 62)
def enumD (ds : List D) : List D := ds.zipIdx.map fun p => .tup [.int p.2, p.1]
def zipD (xs ys : List D) : List D := (xs.zip ys).map fun p => .tup [p.1, p.2]
/-- what is walked -/
inductive Src where
  | fix (ds : List D) | lst (n : Nat) | enl (n : Nat)
def srcAt (h : Hea) (i : Nat) : Src → Option (Option D)
  | .fix ds => some ds[i]?
  | .lst n => (rdL h n).map fun ds => ds[i]?
  | .enl n => (rdL h n).map fun ds => ds[i]?.map fun d => .tup [.int i, d]
def walkD (h : Hea) : D → Option Src
  | .tup ds => some (.fix ds)
  | .str x => if x.length ≤ SZ then some (.fix (x.cps.toList.map fun c => .str ⟨#[c]⟩)) else none
  | .ref n => (rdL h n).map fun _ => .lst n
  | _ => none
def enumW (h : Hea) : D → Option Src
  | .ref n => (rdL h n).map fun _ => .enl n
  | _ => none
def FUEL : Nat := 18446744073709551616

def wipeL (σ : Loc) : List Nat → Loc
  | [] => σ
  | v :: vs => (wipeL σ vs).set v none
def lcGo (g : Tg) (c e : Loc → Hea → Out D) (w : Src) (σ : Loc) : Nat → Nat → List D → Hea → Out (List D)
  | 0, _, _, _ => .no
  | k + 1, i, acc, h => match srcAt h i w with
    | none => .no
    | some none => .ok acc h
    | some (some x) => match bindT h σ x g with
      | none => .no
      | some σ1 => (noX (c σ1 h)).bind fun b h1 => match truD h1 b with
        | none => .no
        | some true => (noX (e σ1 h1)).bind fun d h2 => if acc.length < SZ then lcGo g c e w σ k (i + 1) (acc ++ [d]) h2 else .no
        | some false => lcGo g c e w σ k (i + 1) acc h1
def cmpG (o : COp) (x y : D) (h : Hea) : Out D := lift ((opC o x y h).map .bl) h
/-- an own __eq__ -/
def ownEq (G : GE) (o : COp) (x : D) (h : Hea) : Option Nat := match o with
  | .eq => (insAt h x).bind fun q => G.meth q.2.1 "__eq__"
  | .ne => (insAt h x).bind fun q => G.meth q.2.1 "__eq__"
  | _ => none
def eqOut (o : COp) (R : Out D) : Out D := R.bind fun d h => match d with
  | .bl k => .ok (.bl (match o with | .ne => !k | _ => k)) h
  | _ => .no
def knownI (G : GE) (h : Hea) (y : D) : Bool := match insAt h y with
  | some (_, d, _) => G.cty d "int"
  | none => false
def cmpX (G : GE) (Φ : Orc) (o : COp) (x y : D) (h : Hea) : Out D := match ownEq G o x h with
  | some f => if (tyD h y).isSome || knownI G h y then noX (eqOut o (Φ f [x, y] h)) else .no
  | none => cmpG o x y h

/-- a built-in function; str asks an own __str__ -/
def callX (G : GE) (Φ : Orc) (b : BI) : List D → Hea → Out D := match b with
  | .str => fun ds h => match ds with
    | [x] => match (insAt h x).bind fun q => G.meth q.2.1 "__str__" with
      | some f => noX ((Φ f [x] h).bind fun d h1 => match d with
        | .str s => .ok (.str s) h1
        | _ => .no)
      | none => fStr [x] h
    | _ => .no
  | b => callB G b
section
variable (G : GE) (Φ : Orc)
mutual
def evE : CE → Loc → Hea → Out D
  | .bad, _, _ => .no
  | .var i, σ, h => match σ[i]? with
    | some (some d) => .ok d h
    | _ => .no
  | .lit d, _, h => .ok d h
  | .bin o a b, σ, h => (evE a σ h).bind fun x h1 => (evE b σ h1).bind fun y h2 => opB o x y h2
  | .neg a, σ, h => (evE a σ h).bind fun x h1 => match x with
    | .int i => .ok (.int (-i)) h1
    | _ => .no
  | .not a, σ, h => (evE a σ h).bind fun x h1 => (asD x h1).bind fun b h2 => .ok (.bl (!b)) h2
  | .cmp o a b, σ, h => (evE a σ h).bind fun x h1 => (evE b σ h1).bind fun y h2 => cmpX G Φ o x y h2
  | .cmp2 o p a b c, σ, h => (evE a σ h).bind fun x h1 => (evE b σ h1).bind fun y h2 => (cmpG o x y h2).bind fun k h3 => match k with
    | .bl true => (evE c σ h3).bind fun z h4 => cmpG p y z h4
    | .bl false => .ok (.bl false) h3
    | _ => .no
  | .and a b, σ, h => (evE a σ h).bind fun x h1 => (asD x h1).bind fun k h2 => if k then evE b σ h2 else .ok x h2
  | .or a b, σ, h => (evE a σ h).bind fun x h1 => (asD x h1).bind fun k h2 => if k then .ok x h2 else evE b σ h2
  | .ite c a b, σ, h => (evE c σ h).bind fun x h1 => (asD x h1).bind fun k h2 => if k then evE a σ h2 else evE b σ h2
  | .tup es, σ, h => (evEs es σ h).bind fun ds h1 => if ds.length ≤ SZ then .ok (.tup ds) h1 else .no
  | .lst es, σ, h => (evEs es σ h).bind fun ds h1 => if ds.length ≤ SZ then new (.lst ds) h1 else .no
  | .dic, _, h => new (.dic []) h
  | .idx a b, σ, h => (evE a σ h).bind fun x h1 => (evE b σ h1).bind fun y h2 => lift (idxD x y h2) h2
  | .sliL a lo, σ, h => (evE a σ h).bind fun x h1 => (evE lo σ h1).bind fun l h2 => match l with
    | .int i => sliD x (some i) none h2
    | _ => .no
  | .sliH a hi, σ, h => (evE a σ h).bind fun x h1 => (evE hi σ h1).bind fun u h2 => match u with
    | .int i => sliD x none (some i) h2
    | _ => .no
  | .sliB a lo hi, σ, h => (evE a σ h).bind fun x h1 => (evE lo σ h1).bind fun l h2 => match l with
    | .int i => (evE hi σ h2).bind fun u h3 => match u with
      | .int j => sliD x (some i) (some j) h3
      | _ => .no
    | _ => .no
  | .rev a, σ, h => (evE a σ h).bind fun x h1 => match x with
    | .ref r => match rdL h1 r with
      | some ds => new (.lst ds.reverse) h1
      | none => .no
    | _ => .no
  | .fld a f, σ, h => (evE a σ h).bind fun x h1 => match insAt h1 x with
    | some (r, c, fs) => match G.prop c f with
      | some g => noX (Φ g [.ref r] h1)
      | none => if G.att c f then lift (lookF fs f) h1 else .no
    | none => .no
  | .call f es, σ, h => (evEs es σ h).bind fun ds h1 => Φ f ds h1
  | .callv i ok es, σ, h => match σ[i]? with
    | some (some (.fn f)) => if ok f then (evEs es σ h).bind fun ds h1 => Φ f ds h1 else .no
    | _ => .no
  | .lrng es, σ, h => (evEs es σ h).bind fun ds h1 => match ds with
    | [.int i, .int j] => if smallR i && smallR j && decide ((j - i).toNat ≤ SZ) then new (.lst (rngD i (j - i).toNat 1)) h1 else .no
    | _ => .no
  | .callk f es sh, σ, h => (evEs es σ h).bind fun ds h1 => match shape ds sh with
    | some vs => Φ f vs h1
    | none => .no
  | .mk c es sh, σ, h => (evEs es σ h).bind fun ds h1 => match G.init c, shape (.ref h1.length :: ds) sh with
    | some f, some vs => (Φ f vs (h1 ++ [.ins c []])).bind fun d h2 => match d with
      | .non => .ok (.ref h1.length) h2
      | _ => .no
    | _, _ => .no
  | .meth a m es sh, σ, h => (evE a σ h).bind fun x h1 => match insAt h1 x with
    | some (r, c, fs) => match G.meth c m, lookF fs m with
      | some f, none => (evEs es σ h1).bind fun ds h2 => match shape (.ref r :: ds) sh with
        | some vs => Φ f vs h2
        | none => .no
      | _, _ => .no
    | none => .no
  | .bi b es, σ, h => (evEs es σ h).bind fun ds h1 => callX G Φ b ds h1
  | .bm m a es, σ, h => (evE a σ h).bind fun x h1 => if recv m x h1 then (evEs es σ h1).bind fun ds h2 => callM m x ds h2 else .no
  | .lc own g it c e, σ, h => (evI it σ h).bind fun w h1 => (lcGo g (evE c) (evE e) w (wipeL σ own) FUEL 0 [] h1).bind fun ds h2 => new (.lst ds) h2
  | .fmt a, σ, h => (evE a σ h).bind fun x h1 => lift (fmtD x) h1
  | .fst es, σ, h => (evJ es Str.empty σ h).bind fun x h1 => .ok (.str x) h1
def evJ : List CE → Str → Loc → Hea → Out Str
  | [], acc, _, h => .ok acc h
  | e :: es, acc, σ, h => (evE e σ h).bind fun x h1 => match x with
    | .str y => if (acc ++ y).length ≤ SZ then evJ es (acc ++ y) σ h1 else .no
    | _ => .no
def evEs : List CE → Loc → Hea → Out (List D)
  | [], _, h => .ok [] h
  | e :: es, σ, h => (evE e σ h).bind fun d h1 => (evEs es σ h1).bind fun ds h2 => .ok (d :: ds) h2
def evI : IT → Loc → Hea → Out Src
  | .bad, _, _ => .no
  | .seq e, σ, h => (evE e σ h).bind fun x h1 => lift (walkD h1 x) h1
  | .rng es, σ, h => (evEs es σ h).bind fun ds h1 => match ds with
    | [.int j] => if smallR j then .ok (.fix (rngD 0 j.toNat 1)) h1 else .no
    | [.int i, .int j] => if smallR i && smallR j then .ok (.fix (rngD i (j - i).toNat 1)) h1 else .no
    | [.int i, .int j, .int c] => if smallR i && smallR j && decide (c = -1) then .ok (.fix (rngD i (i - j).toNat c)) h1 else .no
    | _ => .no
  | .enm e, σ, h => (evE e σ h).bind fun x h1 => lift (enumW h1 x) h1
  | .zip a b, σ, h => .no
end

/-- behind a statement -/
inductive Fl where
  | nx (σ : Loc) | rt (d : D) | bk (σ : Loc) | ct (σ : Loc)

def augD (o : BOp) (x y : D) : Option D := match x, y with
  | .int i, .int j => match o with
    | .add => some (.int (i + j))
    | .sub => some (.int (i - j))
    | _ => none
  | _, _ => none
def setF (att : Nat → Str → Bool) (x : D) (f : Str) (v : D) (h : Hea) : Out Unit := match insAt h x with
  | some (a, c, fs) => if att c f && decide (fs.length < 900) then .ok () (h.set a (.ins c (putF fs f v))) else .no
  | none => .no
def setI (x y v : D) (h : Hea) : Out Unit := match x, y with
  | .ref a, .int i => match h[a]? with
    | some (.lst ds) => match L2.ixN ds.length i with
      | some j => .ok () (h.set a (.lst (ds.set j v)))
      | none => .no
    | _ => .no
  | _, _ => .no
def asgTs : List TgX → List D → Loc → Hea → Out Loc
  | [], [], σ, h => .ok σ h
  | .nm i :: ts, d :: ds, σ, h => asgTs ts ds (σ.set i (some d)) h
  | .fl o f :: ts, d :: ds, σ, h => (evE G Φ o σ h).bind fun x h1 => (setF G.att x f d h1).bind fun _ h2 => asgTs ts ds σ h2
  | .ix o i :: ts, d :: ds, σ, h => (evE G Φ o σ h).bind fun x h1 => (evE G Φ i σ h1).bind fun y h2 => (setI x y d h2).bind fun _ h3 => asgTs ts ds σ h3
  | _, _, _, _ => .no
def frGo (g : Tg) (b : Loc → Hea → Out Fl) (w : Src) : Nat → Nat → Loc → Hea → Out Fl
  | 0, _, _, _ => .no
  | k + 1, i, σ, h => match srcAt h i w with
    | none => .no
    | some none => .ok (.nx σ) h
    | some (some x) => match bindT h σ x g with
      | none => .no
      | some σ1 => (b σ1 h).bind fun f h1 => match f with
        | .nx σ2 => frGo g b w k (i + 1) σ2 h1
        | .ct σ2 => frGo g b w k (i + 1) σ2 h1
        | .bk σ2 => .ok (.nx σ2) h1
        | .rt d => .ok (.rt d) h1
def whGo (c : Loc → Hea → Out Bool) (b : Loc → Hea → Out Fl) : Nat → Loc → Hea → Out Fl
  | 0, _, _ => .no
  | n + 1, σ, h => (c σ h).bind fun k h1 => if k then (b σ h1).bind fun f h2 => match f with
      | .nx σ2 => whGo c b n σ2 h2
      | .ct σ2 => whGo c b n σ2 h2
      | .bk σ2 => .ok (.nx σ2) h2
      | .rt d => .ok (.rt d) h2
    else .ok (.nx σ) h1
mutual
def evS : CS → Loc → Hea → Out Fl
  | .bad, _, _ => .no
  | .asg i e, σ, h => (evE G Φ e σ h).bind fun d h1 => .ok (.nx (σ.set i (some d))) h1
  | .asgT is e, σ, h => (evE G Φ e σ h).bind fun d h1 => match seqD h1 d with
    | some ds => if ds.length = is.length then .ok (.nx (setAll σ is ds)) h1 else .no
    | none => .no
  | .asgP is es, σ, h => (evEs G Φ es σ h).bind fun ds h1 => if ds.length = is.length then .ok (.nx (setAll σ is ds)) h1 else .no
  | .asgF o f e, σ, h => (evE G Φ e σ h).bind fun d h1 => (evE G Φ o σ h1).bind fun x h2 => (setF G.att x f d h2).bind fun _ h3 => .ok (.nx σ) h3
  | .asgI o i e, σ, h => (evE G Φ e σ h).bind fun d h1 => (evE G Φ o σ h1).bind fun x h2 => (evE G Φ i σ h2).bind fun y h3 => (setI x y d h3).bind fun _ h4 => .ok (.nx σ) h4
  | .asgM ts e, σ, h => (evE G Φ e σ h).bind fun d h1 => match seqD h1 d with
    | some ds => (noX (asgTs G Φ ts ds σ h1)).bind fun σ1 h2 => .ok (.nx σ1) h2
    | none => .no
  | .aug i o e, σ, h => match σ[i]? with
    | some (some x) => (evE G Φ e σ h).bind fun y h1 => match augD o x y with
      | some z => .ok (.nx (σ.set i (some z))) h1
      | none => .no
    | _ => .no
  | .augF o f p e, σ, h => (evE G Φ o σ h).bind fun r h1 => match insAt h1 r with
    | some (_, c, fs) => match lookF fs f with
      | some x => if G.att c f then (evE G Φ e σ h1).bind fun y h2 => match augD p x y with
        | some z => if (insAt h2 r).map (fun q => q.2.1) = some c then (setF G.att r f z h2).bind fun _ h4 => .ok (.nx σ) h4 else .no
        | none => .no else .no
      | none => .no
    | none => .no
  | .exp e, σ, h => (evE G Φ e σ h).bind fun _ h1 => .ok (.nx σ) h1
  | .iff c a b, σ, h => (evE G Φ c σ h).bind fun x h1 => (asD x h1).bind fun k h2 => if k then evSs a σ h2 else evSs b σ h2
  | .fr g it b, σ, h => (evI G Φ it σ h).bind fun w h1 => frGo g (evSs b) w FUEL 0 σ h1
  | .whl c b, σ, h => whGo (fun s k => (evE G Φ c s k).bind fun x k1 => asD x k1) (evSs b) FUEL σ h
  | .ret e, σ, h => (evE G Φ e σ h).bind fun d h1 => .ok (.rt d) h1
  | .retN, _, h => .ok (.rt .non) h
  | .pass, σ, h => .ok (.nx σ) h
  | .cont, σ, h => .ok (.ct σ) h
  | .brk, σ, h => .ok (.bk σ) h
  | .raise _ _, _, _ => .no
def evSs : List CS → Loc → Hea → Out Fl
  | [], σ, h => .ok (.nx σ) h
  | s :: ss, σ, h => (evS s σ h).bind fun f h1 => match f with
    | .nx σ1 => evSs ss σ1 h1
    | f => .ok f h1
end
end

/-- a def: its slots, its parameters' number, its code -/
structure FC where
  n : Nat
  ps : Nat
  code : List CS
def begin (F : FC) (ds : List D) : Loc := ds.map some ++ List.replicate (F.n - ds.length) none
def runF (G : GE) (Φ : Orc) (F : FC) (ds : List D) (h : Hea) : Out D := if ds.length = F.ps then (evSs G Φ F.code (begin F ds) h).bind fun f h1 => match f with
    | .rt d => .ok d h1
    | .nx _ => .ok .non h1
    | _ => .no
  else .no
/-- the defs, to a depth -/
def callF (G : GE) (T : Nat → Option FC) : Nat → Orc
  | 0 => fun _ _ _ => .no
  | k + 1 => fun f ds h => match T f with
    | some F => runF G (callF G T k) F ds h
    | none => .no
end Mi
end

section
set_option linter.all false
set_option Elab.async false
/-! MiRep: how plain data stand in the abstract heap. -/
namespace Mi
open PySem PySem.Spec PyProof.Rows L2
abbrev St := L2.St

/-- where the text's defs, classes and dicts stand -/
structure GA where
  K : PySem.W.Frag
  fn : Nat → Addr
  cls : Nat → Addr
  kd : Nat → Addr

section
variable (ga : GA) (ρ : List Addr) (H : Hp)
mutual
def Rep : D → V → Prop
  | .non, v => v = .non
  | .bl b, v => v = .bl b
  | .int i, v => v = .int i
  | .str x, v => v = .str x
  | .tup ds, v => ∃ a vs, v = .ref a ∧ SqT ga.K H a vs ∧ Reps ds vs
  | .ref n, v => ∃ a, v = .ref a ∧ ρ[n]? = some a
  | .fn f, v => v = .ref (ga.fn f)
  | .cls c, v => v = .ref (ga.cls c)
  | .ty n, v => v = .ty n
  | .kd k, v => v = .ref (ga.kd k)
def Reps : List D → List V → Prop
  | [], vs => vs = []
  | d :: ds, vs => ∃ v r, vs = v :: r ∧ Rep d v ∧ Reps ds r
end
/-- a flat key -/
def keyV : D → Option Key
  | .int i => some (.inl i)
  | .str x => some (.inr x)
  | _ => none
def keyVs : List D → Option (List Key)
  | [] => some []
  | d :: ds => (keyV d).bind fun k => (keyVs ds).map fun ks => k :: ks
def KvT : List (D × D) → List (List Key × V) → Prop
  | [], xs => xs = []
  | p :: ps, xs => ∃ q r ds, xs = q :: r ∧ p.1 = .tup ds ∧ keyVs ds = some q.1 ∧ Rep ga ρ H p.2 q.2 ∧ KvT ps r
def KvK : List (D × D) → List (Key × V) → Prop
  | [], xs => xs = []
  | p :: ps, xs => ∃ q r, xs = q :: r ∧ keyV p.1 = some q.1 ∧ Rep ga ρ H p.2 q.2 ∧ KvK ps r
def Flds : List (Str × D) → List (Str × V) → Prop
  | [], xs => xs = []
  | p :: ps, xs => ∃ v r, xs = (p.1, v) :: r ∧ Rep ga ρ H p.2 v ∧ Flds ps r
def ORel : O → Option HO → Prop
  | .lst ds, o => ∃ vs, o = some (.lst vs) ∧ Reps ga ρ H ds vs
  | .frz ds, o => ∃ ob vs, o = some (.frz ob (.lst vs)) ∧ Reps ga ρ H ds vs
  | .dic kvs, o => (∃ xs, o = some (.dT xs) ∧ KvT ga ρ H kvs xs) ∨ (∃ xs, o = some (.dK xs) ∧ KvK ga ρ H kvs xs)
  | .fdic kvs, o => (∃ ob xs, o = some (.frz ob (.dT xs)) ∧ KvT ga ρ H kvs xs) ∨ (∃ ob xs, o = some (.frz ob (.dK xs)) ∧ KvK ga ρ H kvs xs)
  | .ins c fs, o => ∃ dx gs, o = some (.ins (ga.cls c) dx gs) ∧ Flds ga ρ H fs gs
end

structure RelH (ga : GA) (ρ : List Addr) (h : Hea) (H : Hp) : Prop where
  len : ρ.length = h.length
  nd : ρ.Nodup
  at_ : ∀ (n : Nat) (o : O) (a : Addr), h[n]? = some o → ρ[n]? = some a → ORel ga ρ H o (H a)
structure RelS (ga : GA) (ρ : List Addr) (H : Hp) (l : Loc) (σ : L2.St) : Prop where
  len : l.length = σ.length
  at_ : ∀ (i : Nat) (d : D), l[i]? = some (some d) → ∃ v, σ[i]? = some (some v) ∧ Rep ga ρ H d v
/-- what is not of ours stands as it was; the new ones are new -/
structure Ext (ρ : List Addr) (H : Hp) (m : List Addr) (H' : Hp) : Prop where
  fresh : ∀ a ∈ m, H a = none
  keep : ∀ a o, a ∉ ρ → H a = some o → H' a = some o

/-- no tuple among ours -/
def NT (ρ : List Addr) (H : Hp) : Prop := ∀ a ∈ ρ, (∃ o, H a = some o) ∧ ∀ xs, ¬ Rd H a (.tup xs)
section
variable {ga : GA} {ρ m m' : List Addr} {h h' : Hea} {H H' H1 H2 : Hp} {l : Loc} {σ : L2.St}
theorem RelH.nt (R : RelH ga ρ h H) : NT ρ H := by
  intro a ha
  obtain ⟨n, hn⟩ := List.mem_iff_getElem?.mp ha
  have hl : n < ρ.length := (List.getElem?_eq_some_iff.mp hn).1
  have hl' : n < h.length := by rw [← R.len]; exact hl
  have r := R.at_ n h[n] a (List.getElem?_eq_getElem hl') hn
  have bad : ∀ u, H a = some u → (∀ ys, u ≠ .tup ys) → (∀ ob ys, u ≠ .frz ob (.tup ys)) → (∃ o, H a = some o) ∧ ∀ xs, ¬ Rd H a (.tup xs) := by
    intro u e n1 n2
    refine ⟨⟨u, e⟩, fun xs q => ?_⟩
    rcases q with q | ⟨ob, q⟩
    · rw [e] at q; exact n1 xs (Option.some.inj q)
    · rw [e] at q; exact n2 ob xs (Option.some.inj q)
  cases ho : h[n] with
  | lst ds => rw [ho] at r; obtain ⟨vs, e, _⟩ := r; exact bad _ e (by intro _ z; cases z) (by intro _ _ z; cases z)
  | frz ds => rw [ho] at r; obtain ⟨ob, vs, e, _⟩ := r; exact bad _ e (by intro _ z; cases z) (by intro _ _ z; cases z)
  | dic kvs => rw [ho] at r; rcases r with ⟨xs, e, _⟩ | ⟨xs, e, _⟩ <;> exact bad _ e (by intro _ z; cases z) (by intro _ _ z; cases z)
  | fdic kvs => rw [ho] at r; rcases r with ⟨ob, xs, e, _⟩ | ⟨ob, xs, e, _⟩ <;> exact bad _ e (by intro _ z; cases z) (by intro _ _ z; cases z)
  | ins c fs => rw [ho] at r; obtain ⟨dx, gs, e, _⟩ := r; exact bad _ e (by intro _ z; cases z) (by intro _ _ z; cases z)

theorem sqT_keep (X : Ext ρ H m H') (N : NT ρ H) {a : Addr} {vs : List V} (q : SqT ga.K H a vs) : SqT ga.K H' a vs := by
  rcases q with q | q
  · have hn : a ∉ ρ := fun hm => (N a hm).2 vs q
    rcases q with q | ⟨ob, q⟩
    · exact .inl (.inl (X.keep a _ hn q))
    · exact .inl (.inr ⟨ob, X.keep a _ hn q⟩)
  · exact .inr q

mutual
theorem Rep.mono (hS : ∀ a vs, SqT ga.K H a vs → SqT ga.K H' a vs) : ∀ (d : D) (v : V), Rep ga ρ H d v → Rep ga (ρ ++ m) H' d v
  | .non, _, r => r
  | .bl _, _, r => r
  | .int _, _, r => r
  | .str _, _, r => r
  | .tup ds, v, r => by
    obtain ⟨a, vs, e, q, rs⟩ := r
    exact ⟨a, vs, e, hS _ _ q, Reps.mono hS ds vs rs⟩
  | .ref n, v, r => by
    obtain ⟨a, e, q⟩ := r
    exact ⟨a, e, by rw [List.getElem?_append_left (List.getElem?_eq_some_iff.mp q).1]; exact q⟩
  | .fn _, _, r => r
  | .cls _, _, r => r
  | .ty _, _, r => r
  | .kd _, _, r => r
theorem Reps.mono (hS : ∀ a vs, SqT ga.K H a vs → SqT ga.K H' a vs) : ∀ (ds : List D) (vs : List V), Reps ga ρ H ds vs → Reps ga (ρ ++ m) H' ds vs
  | [], _, r => r
  | d :: ds, vs, r => by
    obtain ⟨v, t, e, r1, r2⟩ := r
    exact ⟨v, t, e, Rep.mono hS d v r1, Reps.mono hS ds t r2⟩
end
theorem Rep.keep (X : Ext ρ H m H') (N : NT ρ H) (d : D) (v : V) (r : Rep ga ρ H d v) : Rep ga (ρ ++ m) H' d v := Rep.mono (fun _ _ q => sqT_keep X N q) d v r
theorem Reps.keep (X : Ext ρ H m H') (N : NT ρ H) (ds : List D) (vs : List V) (r : Reps ga ρ H ds vs) : Reps ga (ρ ++ m) H' ds vs := Reps.mono (fun _ _ q => sqT_keep X N q) ds vs r
theorem KvT.mono (hS : ∀ a vs, SqT ga.K H a vs → SqT ga.K H' a vs) : ∀ (ds : List (D × D)) (vs : List (List Key × V)), KvT ga ρ H ds vs → KvT ga (ρ ++ m) H' ds vs
  | [], _, r => r
  | d :: ds, vs, r => by
    obtain ⟨q, t, es, e, e1, e2, r1, r2⟩ := r
    exact ⟨q, t, es, e, e1, e2, Rep.mono hS _ _ r1, KvT.mono hS ds t r2⟩
theorem KvK.mono (hS : ∀ a vs, SqT ga.K H a vs → SqT ga.K H' a vs) : ∀ (ds : List (D × D)) (vs : List (Key × V)), KvK ga ρ H ds vs → KvK ga (ρ ++ m) H' ds vs
  | [], _, r => r
  | d :: ds, vs, r => by
    obtain ⟨q, t, e, e1, r1, r2⟩ := r
    exact ⟨q, t, e, e1, Rep.mono hS _ _ r1, KvK.mono hS ds t r2⟩
theorem Flds.mono (hS : ∀ a vs, SqT ga.K H a vs → SqT ga.K H' a vs) : ∀ (ds : List (Str × D)) (vs : List (Str × V)), Flds ga ρ H ds vs → Flds ga (ρ ++ m) H' ds vs
  | [], _, r => r
  | d :: ds, vs, r => by
    obtain ⟨q, t, e, r1, r2⟩ := r
    exact ⟨q, t, e, Rep.mono hS _ _ r1, Flds.mono hS ds t r2⟩
theorem KvT.keep (X : Ext ρ H m H') (N : NT ρ H) (ds : List (D × D)) (vs : List (List Key × V)) (r : KvT ga ρ H ds vs) : KvT ga (ρ ++ m) H' ds vs := KvT.mono (fun _ _ q => sqT_keep X N q) ds vs r
theorem KvK.keep (X : Ext ρ H m H') (N : NT ρ H) (ds : List (D × D)) (vs : List (Key × V)) (r : KvK ga ρ H ds vs) : KvK ga (ρ ++ m) H' ds vs := KvK.mono (fun _ _ q => sqT_keep X N q) ds vs r
theorem Flds.keep (X : Ext ρ H m H') (N : NT ρ H) (ds : List (Str × D)) (vs : List (Str × V)) (r : Flds ga ρ H ds vs) : Flds ga (ρ ++ m) H' ds vs := Flds.mono (fun _ _ q => sqT_keep X N q) ds vs r
theorem ORel.mono (hS : ∀ a vs, SqT ga.K H a vs → SqT ga.K H' a vs) {o : O} {u : Option HO} (r : ORel ga ρ H o u) : ORel ga (ρ ++ m) H' o u := by
  cases o with
  | lst ds => obtain ⟨vs, e, q⟩ := r; exact ⟨vs, e, Reps.mono hS _ _ q⟩
  | frz ds => obtain ⟨ob, vs, e, q⟩ := r; exact ⟨ob, vs, e, Reps.mono hS _ _ q⟩
  | dic kvs =>
    rcases r with ⟨xs, e, q⟩ | ⟨xs, e, q⟩
    · exact .inl ⟨xs, e, KvT.mono hS _ _ q⟩
    · exact .inr ⟨xs, e, KvK.mono hS _ _ q⟩
  | fdic kvs =>
    rcases r with ⟨ob, xs, e, q⟩ | ⟨ob, xs, e, q⟩
    · exact .inl ⟨ob, xs, e, KvT.mono hS _ _ q⟩
    · exact .inr ⟨ob, xs, e, KvK.mono hS _ _ q⟩
  | ins c fs => obtain ⟨dx, gs, e, q⟩ := r; exact ⟨dx, gs, e, Flds.mono hS _ _ q⟩
theorem ORel.keep (X : Ext ρ H m H') (N : NT ρ H) {o : O} {u : Option HO} (r : ORel ga ρ H o u) : ORel ga (ρ ++ m) H' o u := ORel.mono (fun _ _ q => sqT_keep X N q) r
theorem RelS.mono (hS : ∀ a vs, SqT ga.K H a vs → SqT ga.K H' a vs) (r : RelS ga ρ H l σ) : RelS ga (ρ ++ m) H' l σ :=
  ⟨r.len, fun i d e => by
    obtain ⟨v, e2, q⟩ := r.at_ i d e
    exact ⟨v, e2, Rep.mono hS _ _ q⟩⟩
theorem RelS.keep (X : Ext ρ H m H') (N : NT ρ H) (r : RelS ga ρ H l σ) : RelS ga (ρ ++ m) H' l σ :=
  ⟨r.len, fun i d e => by
    obtain ⟨v, e2, q⟩ := r.at_ i d e
    exact ⟨v, e2, Rep.keep X N _ _ q⟩⟩
theorem Ext.refl : Ext ρ H [] H := ⟨fun _ z => by simp at z, fun _ _ _ e => e⟩
theorem Ext.trans (X : Ext ρ H m H1) (N : NT (ρ ++ m) H1) (Y : Ext (ρ ++ m) H1 m' H2) : Ext ρ H (m ++ m') H2 where
  fresh := fun a ha => by
    rcases List.mem_append.mp ha with ha | ha
    · exact X.fresh a ha
    · have e1 := Y.fresh a ha
      cases e : H a with
      | none => rfl
      | some o =>
        by_cases hr : a ∈ ρ
        · obtain ⟨u, e2⟩ := (N a (List.mem_append_left _ hr)).1
          rw [e1] at e2; cases e2
        · rw [X.keep a o hr e] at e1; cases e1
  keep := fun a o hr e => by
    have e1 := X.keep a o hr e
    refine Y.keep a o (fun hm => ?_) e1
    rcases List.mem_append.mp hm with hm | hm
    · exact hr hm
    · rw [X.fresh a hm] at e; cases e

/-! ### steps of the heap -/
/-- a new object that is not of ours (a tuple) -/
theorem Ext.laid {p : Addr} {o : HO} (hn : H p = none) : Ext ρ H [] (upd H p o) :=
  ⟨fun _ z => by simp at z, fun a u _ e => by rw [upd_ne (ne_of_none e hn)]; exact e⟩
theorem RelH.laid {p : Addr} {o : HO} (R : RelH ga ρ h H) (hn : H p = none) : RelH ga ρ h (upd H p o) := by
  have X : Ext ρ H [] (upd H p o) := Ext.laid hn
  refine ⟨R.len, R.nd, fun n o' a e1 e2 => ?_⟩
  have r := ORel.keep X R.nt (R.at_ n o' a e1 e2)
  rw [List.append_nil] at r
  obtain ⟨u, eu⟩ := (R.nt a (List.mem_of_getElem? e2)).1
  rw [upd_ne (ne_of_none eu hn)]
  exact r
/-- a new object of ours -/
theorem Ext.new {p : Addr} {o : HO} (hn : H p = none) : Ext ρ H [p] (upd H p o) :=
  ⟨fun a z => by rw [List.mem_singleton.mp z]; exact hn, fun a u _ e => by rw [upd_ne (ne_of_none e hn)]; exact e⟩
theorem RelH.new {p : Addr} {o : HO} {u : O} (R : RelH ga ρ h H) (hn : H p = none) (r : ORel ga (ρ ++ [p]) (upd H p o) u (some o)) : RelH ga (ρ ++ [p]) (h ++ [u]) (upd H p o) := by
  have X : Ext ρ H [p] (upd H p o) := Ext.new hn
  refine ⟨by simp [R.len], ?_, fun n o' a e1 e2 => ?_⟩
  · refine List.nodup_append.mpr ⟨R.nd, by simp, fun a ha b hb e => ?_⟩
    rw [List.mem_singleton.mp hb] at e
    subst e
    obtain ⟨u, eu⟩ := (R.nt a ha).1
    rw [hn] at eu; cases eu
  · by_cases hl : n < h.length
    · rw [List.getElem?_append_left hl] at e1
      rw [List.getElem?_append_left (by rw [R.len]; exact hl)] at e2
      have r2 := ORel.keep X R.nt (R.at_ n o' a e1 e2)
      obtain ⟨u2, eu⟩ := (R.nt a (List.mem_of_getElem? e2)).1
      rw [upd_ne (ne_of_none eu hn)]
      exact r2
    · have hn1 : n = h.length := by
        have := (List.getElem?_eq_some_iff.mp e1).1
        simp at this
        omega
      subst hn1
      rw [List.getElem?_append_right (Nat.le_refl _)] at e1
      rw [List.getElem?_append_right (by rw [R.len]; exact Nat.le_refl _)] at e2
      simp [R.len] at e1 e2
      subst e1 e2
      rw [upd_same]
      exact r
/-- one of ours is written -/
theorem Ext.set {a : Addr} {o : HO} (ha : a ∈ ρ) : Ext ρ H [] (upd H a o) :=
  ⟨fun _ z => by simp at z, fun b u hb e => by rw [upd_ne (fun z => hb (by rw [z]; exact ha))]; exact e⟩
theorem RelH.set {n : Nat} {a : Addr} {o : HO} {u : O} (R : RelH ga ρ h H) (ha : ρ[n]? = some a) (r : ORel ga ρ (upd H a o) u (some o)) : RelH ga ρ (h.set n u) (upd H a o) := by
  have X : Ext ρ H [] (upd H a o) := Ext.set (List.mem_of_getElem? ha)
  refine ⟨by simp [R.len], R.nd, fun k o' b e1 e2 => ?_⟩
  by_cases hk : n = k
  · subst hk
    rw [ha] at e2; cases e2
    have hl : n < h.length := by rw [← R.len]; exact (List.getElem?_eq_some_iff.mp ha).1
    rw [List.getElem?_set_self hl] at e1
    cases e1
    rw [upd_same]
    exact r
  · rw [List.getElem?_set_ne hk] at e1
    have r2 := ORel.keep X R.nt (R.at_ k o' b e1 e2)
    rw [List.append_nil] at r2
    have hne : b ≠ a := by
      intro z
      subst z
      obtain ⟨l1, g1⟩ := List.getElem?_eq_some_iff.mp ha
      obtain ⟨l2, g2⟩ := List.getElem?_eq_some_iff.mp e2
      exact hk ((List.getElem_inj R.nd).mp (g1.trans g2.symm))
    rw [upd_ne hne]
    exact r2
/-- an object that is not of ours, a list, is written -/
theorem sqT_off {a : Addr} {xs ys : List V} (e : H a = some (.lst xs)) : ∀ b vs, SqT ga.K H b vs → SqT ga.K (upd H a (.lst ys)) b vs := fun b vs q => by
  rcases q with q | q
  · have hn : b ≠ a := by
      rintro rfl
      rcases q with q | ⟨ob, q⟩ <;> rw [e] at q <;> cases q
    rcases q with q | ⟨ob, q⟩
    · exact .inl (.inl (by rw [upd_ne hn]; exact q))
    · exact .inl (.inr ⟨ob, by rw [upd_ne hn]; exact q⟩)
  · exact .inr q
theorem RelH.off {a : Addr} {xs ys : List V} (R : RelH ga ρ h H) (ha : a ∉ ρ) (e : H a = some (.lst xs)) : RelH ga ρ h (upd H a (.lst ys)) := by
  refine ⟨R.len, R.nd, fun n o b e1 e2 => ?_⟩
  have hn : b ≠ a := fun z => ha (by rw [← z]; exact List.mem_of_getElem? e2)
  have r := ORel.mono (m := []) (sqT_off (ys := ys) e) (R.at_ n o b e1 e2)
  rw [List.append_nil] at r
  rw [upd_ne hn]
  exact r
/-- .. becomes one of ours -/
theorem RelH.adopt {a : Addr} {ds : List D} {xs : List V} (R : RelH ga ρ h H) (ha : a ∉ ρ) (e : H a = some (.lst xs)) (r : Reps ga ρ H ds xs) : RelH ga (ρ ++ [a]) (h ++ [.lst ds]) H := by
  refine ⟨by simp [R.len], List.nodup_append.mpr ⟨R.nd, by simp, fun b hb c hc z => ha (by rw [← List.mem_singleton.mp hc, ← z]; exact hb)⟩, fun n o b e1 e2 => ?_⟩
  by_cases hl : n < h.length
  · rw [List.getElem?_append_left hl] at e1
    rw [List.getElem?_append_left (by rw [R.len]; exact hl)] at e2
    exact ORel.mono (fun _ _ q => q) (R.at_ n o b e1 e2)
  · have hn1 : n = h.length := by
      have := (List.getElem?_eq_some_iff.mp e1).1
      simp at this
      omega
    subst hn1
    rw [List.getElem?_append_right (Nat.le_refl _)] at e1
    rw [List.getElem?_append_right (by rw [R.len]; exact Nat.le_refl _)] at e2
    simp [R.len] at e1 e2
    subst e1 e2
    exact ⟨xs, e, Reps.mono (fun _ _ q => q) _ _ r⟩
end
end Mi
end

section
set_option linter.all false
set_option Elab.async false
set_option maxHeartbeats 1000000
/-! MiE: what the evaluator answers, the model answers: operators, names, constants. -/
namespace Mi
open PySem PySem.Spec PyProof.Rows L2

/-- the text, the calls' oracle, the wish about exceptions -/
structure Cn where
  ga : GA
  G : GE
  Φ : Orc
  Wx : WX
/-- an exception as it stands -/
def XRep (ga : GA) (ρ : List Addr) (H : Hp) (x : XC) (c : Value) (d : Option Addr) : Prop := match x with
  | (.cls k, fs) => c = .ref (ga.cls k) ∧ (fs = [] ∨ ∃ dx gs, d = some dx ∧ H dx = some (.xd gs) ∧ Flds ga ρ H fs gs)
  | (.ty T, _) => c = .type T
  | _ => False
def Cn.W (Z : Cn) (x : XC) (ρ : List Addr) (_ : Hea) (σ : L2.St) (H : Hp) : Prop := ∀ c d, XRep Z.ga ρ H x c d → Z.Wx c d σ H

section
variable (Z : Cn) (σ : L2.St) (ρ : List Addr) (H : Hp)
def Post (R : Out D) (Q : VK) : Prop := match R with
  | .no => False
  | .ok d h' => ∀ v H' m, Ext ρ H m H' → RelH Z.ga (ρ ++ m) h' H' → Rep Z.ga (ρ ++ m) H' d v → Q v H'
  | .ex x h' => ∀ H' m, Ext ρ H m H' → RelH Z.ga (ρ ++ m) h' H' → Z.W x (ρ ++ m) h' σ H'
def PostB (R : Out Bool) (Q : Bool → Hp → Prop) : Prop := match R with
  | .no => False
  | .ok d h' => ∀ H' m, Ext ρ H m H' → RelH Z.ga (ρ ++ m) h' H' → Q d H'
  | .ex x h' => ∀ H' m, Ext ρ H m H' → RelH Z.ga (ρ ++ m) h' H' → Z.W x (ρ ++ m) h' σ H'
def PostL (R : Out (List D)) (Q : List V → Hp → Prop) : Prop := match R with
  | .no => False
  | .ok d h' => ∀ v H' m, Ext ρ H m H' → RelH Z.ga (ρ ++ m) h' H' → Reps Z.ga (ρ ++ m) H' d v → Q v H'
  | .ex x h' => ∀ H' m, Ext ρ H m H' → RelH Z.ga (ρ ++ m) h' H' → Z.W x (ρ ++ m) h' σ H'
end
/-- the readings -/
def tEv (Z : Cn) (c : CE) : TE := fun σ H Q => ∃ ρ l h, RelS Z.ga ρ H l σ ∧ RelH Z.ga ρ h H ∧ Post Z σ ρ H (evE Z.G Z.Φ c l h) Q
def tTv (Z : Cn) (c : CE) : TT := fun σ H Q => ∃ ρ l h, RelS Z.ga ρ H l σ ∧ RelH Z.ga ρ h H ∧ PostB Z σ ρ H ((evE Z.G Z.Φ c l h).bind asD) Q
def tAv (Z : Cn) (cs : List CE) : TA := fun σ H Q => ∃ ρ l h, RelS Z.ga ρ H l σ ∧ RelH Z.ga ρ h H ∧ PostL Z σ ρ H (evEs Z.G Z.Φ cs l h) Q

theorem PE.imp {X : Cx} {e : Expr} {t t' : TE} (h : PE X e t) (w : ∀ σ H Q, t' σ H Q → t σ H Q) : PE X e t' := ⟨fun pins s σ H Q I q => h.run pins s σ H Q I (w _ _ _ q)⟩
theorem PE.bad {X : Cx} {e : Expr} {t : TE} (w : ∀ σ H Q, ¬ t σ H Q) : PE X e t := ⟨fun pins s σ H Q I q => (w _ _ _ q).elim⟩
theorem PE.or {X : Cx} {e : Expr} {t t' : TE} (h : PE X e t) (h' : PE X e t') : PE X e (fun σ H Q => t σ H Q ∨ t' σ H Q) := ⟨fun pins s σ H Q I q => q.elim (h.run pins s σ H Q I) (h'.run pins s σ H Q I)⟩
theorem PT.imp {X : Cx} {e : Expr} {t t' : TT} (h : PT X e t) (w : ∀ σ H Q, t' σ H Q → t σ H Q) : PT X e t' := ⟨fun pins s σ H Q I q => h.run pins s σ H Q I (w _ _ _ q)⟩
theorem PT.bad {X : Cx} {e : Expr} {t : TT} (w : ∀ σ H Q, ¬ t σ H Q) : PT X e t := ⟨fun pins s σ H Q I q => (w _ _ _ q).elim⟩
theorem PA.imp {X : Cx} {e : List Expr} {t t' : TA} (h : PA X e t) (w : ∀ σ H Q, t' σ H Q → t σ H Q) : PA X e t' := ⟨fun pos pins s σ H Q I q => h.run pos pins s σ H Q I (w _ _ _ q)⟩

section
variable {Z : Cn} {σ : L2.St} {ρ m : List Addr} {H H1 : Hp} {h h1 : Hea} {l : Loc} {c : CE} {Q Q' : VK}
theorem Post.to {R : Out D} (P : Post Z σ ρ H R Q) (X : Ext ρ H m H1) (R1 : RelH Z.ga (ρ ++ m) h1 H1) : Post Z σ (ρ ++ m) H1 R Q := by
  cases R with
  | no => exact P
  | ok d h' =>
    intro v H' m' X' R' r
    rw [List.append_assoc] at R' r
    exact P v H' (m ++ m') (X.trans R1.nt X') R' r
  | ex x h' =>
    intro H' m' X' R'
    rw [List.append_assoc] at R' ⊢
    exact P H' (m ++ m') (X.trans R1.nt X') R'
theorem PostB.to {R : Out Bool} {Q : Bool → Hp → Prop} (P : PostB Z σ ρ H R Q) (X : Ext ρ H m H1) (R1 : RelH Z.ga (ρ ++ m) h1 H1) : PostB Z σ (ρ ++ m) H1 R Q := by
  cases R with
  | no => exact P
  | ok d h' =>
    intro H' m' X' R'
    rw [List.append_assoc] at R'
    exact P H' (m ++ m') (X.trans R1.nt X') R'
  | ex x h' =>
    intro H' m' X' R'
    rw [List.append_assoc] at R' ⊢
    exact P H' (m ++ m') (X.trans R1.nt X') R'
theorem PostL.to {R : Out (List D)} {Q : List V → Hp → Prop} (P : PostL Z σ ρ H R Q) (X : Ext ρ H m H1) (R1 : RelH Z.ga (ρ ++ m) h1 H1) : PostL Z σ (ρ ++ m) H1 R Q := by
  cases R with
  | no => exact P
  | ok d h' =>
    intro v H' m' X' R' r
    rw [List.append_assoc] at R' r
    exact P v H' (m ++ m') (X.trans R1.nt X') R' r
  | ex x h' =>
    intro H' m' X' R'
    rw [List.append_assoc] at R' ⊢
    exact P H' (m ++ m') (X.trans R1.nt X') R'
/-- nothing is new -/
theorem Post.now {d : D} {v : V} (P : Post Z σ ρ H (.ok d h) Q) (R : RelH Z.ga ρ h H) (r : Rep Z.ga ρ H d v) : Q v H := by
  have e : ρ ++ [] = ρ := List.append_nil ρ
  exact P v H [] Ext.refl (by rw [e]; exact R) (by rw [e]; exact r)
theorem PostB.now {d : Bool} {Q : Bool → Hp → Prop} (P : PostB Z σ ρ H (.ok d h) Q) (R : RelH Z.ga ρ h H) : Q d H := by
  have e : ρ ++ [] = ρ := List.append_nil ρ
  exact P H [] Ext.refl (by rw [e]; exact R)
/-- a part, then what comes behind it -/
theorem tEv_seq {α : Type} {f : D → Hea → Out α} {PP : List Addr → Hp → Out α → Prop} (S : RelS Z.ga ρ H l σ) (R : RelH Z.ga ρ h H)
    (P : PP ρ H ((evE Z.G Z.Φ c l h).bind f)) (hno : ∀ ρ H, ¬ PP ρ H .no) (hex : ∀ x k, PP ρ H (.ex x k) → ∀ H' m, Ext ρ H m H' → RelH Z.ga (ρ ++ m) k H' → Z.W x (ρ ++ m) k σ H')
    (hto : ∀ R m H1 h1, PP ρ H R → Ext ρ H m H1 → RelH Z.ga (ρ ++ m) h1 H1 → PP (ρ ++ m) H1 R)
    (k : ∀ x h1 v H1 m, evE Z.G Z.Φ c l h = .ok x h1 → Ext ρ H m H1 → RelH Z.ga (ρ ++ m) h1 H1 → RelS Z.ga (ρ ++ m) H1 l σ → Rep Z.ga (ρ ++ m) H1 x v → PP (ρ ++ m) H1 (f x h1) → Q' v H1) : tEv Z c σ H Q' := by
  refine ⟨ρ, l, h, S, R, ?_⟩
  cases e : evE Z.G Z.Φ c l h with
  | no => rw [e] at P; exact (hno _ _ P).elim
  | ok x h1 =>
    rw [e] at P
    intro v H' m X R1 r
    exact k x h1 v H' m e X R1 (S.keep X R.nt) r (hto _ m H' h1 P X R1)
  | ex x h1 =>
    rw [e] at P
    exact hex x h1 P
theorem ev_seq {f : D → Hea → Out D} (S : RelS Z.ga ρ H l σ) (R : RelH Z.ga ρ h H) (P : Post Z σ ρ H ((evE Z.G Z.Φ c l h).bind f) Q)
    (k : ∀ x h1 v H1 m, Ext ρ H m H1 → RelH Z.ga (ρ ++ m) h1 H1 → RelS Z.ga (ρ ++ m) H1 l σ → Rep Z.ga (ρ ++ m) H1 x v → Post Z σ (ρ ++ m) H1 (f x h1) Q → Q' v H1) : tEv Z c σ H Q' :=
  tEv_seq (PP := fun ρ H R => Post Z σ ρ H R Q) S R P (fun _ _ z => z) (fun _ _ z => z) (fun _ _ _ _ p X R1 => p.to X R1) fun x h1 v H1 m _ => k x h1 v H1 m
theorem ev_seqB {f : D → Hea → Out Bool} {Q : Bool → Hp → Prop} (S : RelS Z.ga ρ H l σ) (R : RelH Z.ga ρ h H) (P : PostB Z σ ρ H ((evE Z.G Z.Φ c l h).bind f) Q)
    (k : ∀ x h1 v H1 m, Ext ρ H m H1 → RelH Z.ga (ρ ++ m) h1 H1 → RelS Z.ga (ρ ++ m) H1 l σ → Rep Z.ga (ρ ++ m) H1 x v → PostB Z σ (ρ ++ m) H1 (f x h1) Q → Q' v H1) : tEv Z c σ H Q' :=
  tEv_seq (PP := fun ρ H R => PostB Z σ ρ H R Q) S R P (fun _ _ z => z) (fun _ _ z => z) (fun _ _ _ _ p X R1 => p.to X R1) fun x h1 v H1 m _ => k x h1 v H1 m
theorem ev_seqL {f : D → Hea → Out (List D)} {Q : List V → Hp → Prop} (S : RelS Z.ga ρ H l σ) (R : RelH Z.ga ρ h H) (P : PostL Z σ ρ H ((evE Z.G Z.Φ c l h).bind f) Q)
    (k : ∀ x h1 v H1 m, Ext ρ H m H1 → RelH Z.ga (ρ ++ m) h1 H1 → RelS Z.ga (ρ ++ m) H1 l σ → Rep Z.ga (ρ ++ m) H1 x v → PostL Z σ (ρ ++ m) H1 (f x h1) Q → Q' v H1) : tEv Z c σ H Q' :=
  tEv_seq (PP := fun ρ H R => PostL Z σ ρ H R Q) S R P (fun _ _ z => z) (fun _ _ z => z) (fun _ _ _ _ p X R1 => p.to X R1) fun x h1 v H1 m _ => k x h1 v H1 m
end

/-! ### names, constants -/
section
variable {X : Cx} {Z : Cn} {pos : Pos} {a b e : Expr} {ca cb : CE}
theorem me_var {i : Nat} {x : Str} (h : PE X (.Name x pos) (tVar i)) : PE X (.Name x pos) (tEv Z (.var i)) := by
  refine PE.imp h fun σ H Q ⟨ρ, l, h, S, R, P⟩ => ?_
  simp only [evE] at P
  cases e : l[i]? with
  | none => rw [e] at P; exact P.elim
  | some o =>
    cases o with
    | none => rw [e] at P; exact P.elim
    | some d =>
      rw [e] at P
      obtain ⟨v, e2, r⟩ := S.at_ i d e
      exact ⟨v, e2, P.now R r⟩
theorem me_lit {d : D} {v : V} (h : PE X e (tC v)) (r : ∀ ρ H, Rep Z.ga ρ H d v) : PE X e (tEv Z (.lit d)) := by
  refine PE.imp h fun σ H Q ⟨ρ, l, h, S, R, P⟩ => ?_
  simp only [evE] at P
  exact P.now R (r _ _)

/-! ### operators -/
def rB (Z : Cn) (σ : L2.St) (o : BOp) : R2 := fun vx vy H Q => ∃ ρ h x y, RelH Z.ga ρ h H ∧ Rep Z.ga ρ H x vx ∧ Rep Z.ga ρ H y vy ∧ Post Z σ ρ H (opB o x y h) Q
theorem me_bin {o : BOp} {op : Operator} (ho : ∀ σ, OpR X (binaryOp op) (rB Z σ o)) (ha : PE X a (tEv Z ca)) (hb : PE X b (tEv Z cb)) : PE X (.BinOp a op b pos) (tEv Z (.bin o ca cb)) := by
  refine ⟨fun pins s σ H Q I hq => ?_⟩
  refine (pe_op (ho σ) ha hb).run pins s σ H Q I ?_
  obtain ⟨ρ, l, h, S, R, P⟩ := hq
  simp only [evE] at P
  refine ev_seq S R P fun x h1 v1 H1 m1 X1 R1 S1 r1 P1 => ev_seq S1 R1 P1 fun y h2 v2 H2 m2 X2 R2 S2 r2 P2 => ?_
  exact ⟨_, h2, x, y, R2, Rep.keep X2 R1.nt _ _ r1, r2, P2⟩
theorem Post.newL {ρ : List Addr} {H : Hp} {h : Hea} {σ : L2.St} {Q : VK} {ds : List D} {vs : List V} (P : Post Z σ ρ H (new (.lst ds) h) Q) (R : RelH Z.ga ρ h H) (r : Reps Z.ga ρ H ds vs) {p : Addr} (hn : H p = none) : Q (.ref p) (upd H p (.lst vs)) := by
  have X : Ext ρ H [p] (upd H p (.lst vs)) := Ext.new hn
  refine P _ _ [p] X (R.new hn ⟨vs, rfl, Reps.keep X R.nt _ _ r⟩) ⟨p, rfl, ?_⟩
  rw [← R.len]
  simp
theorem Post.newT {ρ : List Addr} {H : Hp} {h : Hea} {σ : L2.St} {Q : VK} {ds : List D} {vs : List V} (P : Post Z σ ρ H (.ok (.tup ds) h) Q) (R : RelH Z.ga ρ h H) (r : Reps Z.ga ρ H ds vs) {p : Addr} (hn : H p = none) : Q (.ref p) (upd H p (.tup vs)) := by
  have X : Ext ρ H [] (upd H p (.tup vs)) := Ext.laid hn
  have e : ρ ++ [] = ρ := List.append_nil ρ
  refine P _ _ [] X (by rw [e]; exact R.laid hn) ?_
  exact ⟨p, vs, rfl, SqT.of upd_same, Reps.keep X R.nt _ _ r⟩
theorem Reps.len {ga : GA} {ρ : List Addr} {H : Hp} : ∀ {ds : List D} {vs : List V}, Reps ga ρ H ds vs → ds.length = vs.length
  | [], _, r => by rw [show _ = [] from r]; rfl
  | d :: ds, _, r => by
    obtain ⟨v, t, e, _, r2⟩ := r
    rw [e, List.length_cons, List.length_cons, Reps.len r2]
theorem Reps.append {ga : GA} {ρ : List Addr} {H : Hp} : ∀ {ds : List D} {vs : List V} {es : List D} {ws : List V}, Reps ga ρ H ds vs → Reps ga ρ H es ws → Reps ga ρ H (ds ++ es) (vs ++ ws)
  | [], _, _, _, r, q => by rw [show _ = [] from r]; exact q
  | d :: ds, _, _, _, r, q => by
    obtain ⟨v, t, e, r1, r2⟩ := r
    rw [e]
    exact ⟨v, _, rfl, r1, Reps.append r2 q⟩
theorem Reps.get {ga : GA} {ρ : List Addr} {H : Hp} : ∀ {ds : List D} {vs : List V} {i : Nat} {d : D}, Reps ga ρ H ds vs → ds[i]? = some d → ∃ v, vs[i]? = some v ∧ Rep ga ρ H d v
  | [], _, _, _, _, e => by simp at e
  | d :: ds, _, 0, d', r, e => by
    obtain ⟨v, t, e1, r1, r2⟩ := r
    simp at e
    subst e e1
    exact ⟨v, rfl, r1⟩
  | d :: ds, _, i + 1, d', r, e => by
    obtain ⟨v, t, e1, r1, r2⟩ := r
    subst e1
    simpa using Reps.get r2 (by simpa using e)
theorem Reps.take {ga : GA} {ρ : List Addr} {H : Hp} : ∀ {ds : List D} {vs : List V} (i : Nat), Reps ga ρ H ds vs → Reps ga ρ H (ds.take i) (vs.take i)
  | _, _, 0, _ => rfl
  | [], _, _ + 1, r => by rw [show _ = [] from r]; rfl
  | d :: ds, _, i + 1, r => by
    obtain ⟨v, t, e1, r1, r2⟩ := r
    subst e1
    exact ⟨v, _, rfl, r1, Reps.take i r2⟩
theorem Reps.drop {ga : GA} {ρ : List Addr} {H : Hp} : ∀ {ds : List D} {vs : List V} (i : Nat), Reps ga ρ H ds vs → Reps ga ρ H (ds.drop i) (vs.drop i)
  | _, _, 0, r => r
  | [], _, _ + 1, r => by rw [show _ = [] from r]; rfl
  | d :: ds, _, i + 1, r => by
    obtain ⟨v, t, e1, r1, r2⟩ := r
    subst e1
    exact Reps.drop i r2
theorem Reps.set {ga : GA} {ρ : List Addr} {H : Hp} {d : D} {v : V} (q : Rep ga ρ H d v) : ∀ {ds : List D} {vs : List V} (i : Nat), Reps ga ρ H ds vs → Reps ga ρ H (ds.set i d) (vs.set i v)
  | [], _, _, r => by rw [show _ = [] from r]; rfl
  | d' :: ds, _, 0, r => by
    obtain ⟨w, t, e1, r1, r2⟩ := r
    subst e1
    exact ⟨v, t, rfl, q, r2⟩
  | d' :: ds, _, i + 1, r => by
    obtain ⟨w, t, e1, r1, r2⟩ := r
    subst e1
    exact ⟨w, _, rfl, r1, Reps.set q i r2⟩
end
section
variable {X : Cx} {Z : Cn}
theorem rep_int {ga : GA} {ρ : List Addr} {H : Hp} {i : Int} {v : V} (r : Rep ga ρ H (.int i) v) : v = .int i := r
theorem mulOk_ok {i j : Int} (h : mulOk i j = true) : IntMulOk i j := by
  have h0 : i.natAbs.log2 + j.natAbs.log2 < 100000000 := of_decide_eq_true h
  have b : ∀ x : Int, Builtin.Int.intBits x ≤ x.natAbs.log2 + 1 := fun x => by
    unfold Builtin.Int.intBits
    split <;> omega
  have h1 := b i
  have h2 := b j
  have e : bitsLine = 134217728 := by decide
  unfold IntMulOk
  intro z
  rw [Bool.and_eq_true] at z
  have z2 := z.2
  unfold Builtin.Int.intTooBig at z2
  have z3 := of_decide_eq_true z2
  rw [e] at z3
  omega
/-- a list of ours -/
theorem RelH.list {ga : GA} {ρ : List Addr} {h : Hea} {H : Hp} {n : Nat} {a : Addr} {ds : List D} (R : RelH ga ρ h H) (e : h[n]? = some (.lst ds)) (ea : ρ[n]? = some a) : ∃ vs, H a = some (.lst vs) ∧ Reps ga ρ H ds vs := R.at_ n _ a e ea
theorem RelH.rd {ga : GA} {ρ : List Addr} {h : Hea} {H : Hp} {n : Nat} {a : Addr} {ds : List D} (R : RelH ga ρ h H) (e : rdL h n = some ds) (ea : ρ[n]? = some a) : ∃ vs, SqL ga.K H a vs ∧ Reps ga ρ H ds vs := by
  unfold rdL at e
  split at e
  · next q =>
    cases e
    obtain ⟨vs, z, r⟩ := R.at_ n _ a q ea
    exact ⟨vs, SqL.of z, r⟩
  · next q =>
    cases e
    obtain ⟨ob, vs, z, r⟩ := R.at_ n _ a q ea
    exact ⟨vs, .inl (.inr ⟨ob, z⟩), r⟩
  · cases e
end
end Mi
end

section
set_option linter.all false
set_option Elab.async false
set_option maxHeartbeats 1000000
/-! MiOp: the operators by their dynamic cases. -/
namespace Mi
open PySem PySem.Spec PyProof.Rows L2
theorem sz_eq : SZ = sizeLine := by decide
section
variable {X : Cx} {Z : Cn} {σ : L2.St}
theorem or_add (hK : X.K = Z.ga.K) : OpR X (binaryOp .Add) (rB Z σ .add) := by
  intro pins s σ' H vx vy v u Q I rx ry ⟨ρ, h, x, y, R, r1, r2, P⟩
  simp only [opB, opAdd] at P
  split at P
  · next i j =>
    exact op_add pins s σ' H vx vy v u Q I rx ry ⟨i, j, r1, r2, P.now R rfl⟩
  · next a b =>
    split at P
    · next hl => exact op_add_str pins s σ' H vx vy v u Q I rx ry ⟨a, b, r1, r2, by rw [← sz_eq]; exact hl, P.now R rfl⟩
    · exact P.elim
  · next ds es =>
    split at P
    · next hl =>
      obtain ⟨a, xs, e1, q1, z1⟩ := r1
      obtain ⟨b, ys, e2, q2, z2⟩ := r2
      refine op_catA pins s σ' H vx vy v u Q I rx ry ⟨a, b, xs, ys, e1, e2, by rw [hK]; exact q1, by rw [hK]; exact q2, by rw [← sz_eq, ← z1.len, ← z2.len]; exact hl, fun e => ?_, fun _ e => ?_, fun _ _ p hp => P.newT R (z1.append z2) hp⟩
      · have : ds = [] := List.length_eq_zero_iff.mp (by rw [z1.len, e]; rfl)
        subst this
        exact P.now R ⟨b, ys, rfl, q2, z2⟩
      · have : es = [] := List.length_eq_zero_iff.mp (by rw [z2.len, e]; rfl)
        subst this
        rw [List.append_nil] at P
        exact P.now R ⟨a, xs, rfl, q1, z1⟩
    · exact P.elim
  · next n k =>
    split at P
    · next xs ys e1 e2 =>
      split at P
      · next hl =>
        obtain ⟨a, ea, n1⟩ := r1
        obtain ⟨b, eb, n2⟩ := r2
        obtain ⟨vs, z1, q1⟩ := R.list e1 n1
        obtain ⟨ws, z2, q2⟩ := R.list e2 n2
        exact op_cat pins s σ' H vx vy v u Q I rx ry ⟨a, b, vs, ws, ea, eb, z1, z2, by rw [← sz_eq, ← q1.len, ← q2.len]; exact hl, fun p hp => P.newL R (q1.append q2) hp⟩
      · exact P.elim
    · exact P.elim
  · exact P.elim
theorem or_sub : OpR X (binaryOp .Sub) (rB Z σ .sub) := by
  intro pins s σ' H vx vy v u Q I rx ry ⟨ρ, h, x, y, R, r1, r2, P⟩
  simp only [opB, opSub] at P
  split at P
  · next i j => exact op_sub pins s σ' H vx vy v u Q I rx ry ⟨i, j, r1, r2, P.now R rfl⟩
  · exact P.elim
theorem Reps.rep {ga : GA} {ρ : List Addr} {H : Hp} {ds : List D} {vs : List V} (r : Reps ga ρ H ds vs) : ∀ k, Reps ga ρ H (List.replicate k ds).flatten (List.replicate k vs).flatten
  | 0 => rfl
  | k + 1 => by
    rw [List.replicate_succ, List.replicate_succ, List.flatten_cons, List.flatten_cons]
    exact r.append (r.rep k)
theorem or_mul : OpR X (binaryOp .Mult) (rB Z σ .mul) := by
  intro pins s σ' H vx vy v u Q I rx ry ⟨ρ, h, x, y, R, r1, r2, P⟩
  simp only [opB, opMul] at P
  split at P
  · next i j =>
    split at P
    · next hm =>
      obtain rfl : vx = .int i := r1
      obtain rfl : vy = .int j := r2
      obtain ⟨t, rfl⟩ := rx
      obtain ⟨t', rfl⟩ := ry
      exact mul_int ⟨.int (i * j), H, I.tok _, ⟨_, rfl⟩, P.now R rfl⟩ (mulOk_ok hm)
    · exact P.elim
  · next n k =>
    split at P
    · next xs e1 =>
      split at P
      · next hl =>
        simp only [Bool.and_eq_true, decide_eq_true_eq] at hl
        obtain ⟨a, ea, n1⟩ := r1
        obtain ⟨vs, z1, q1⟩ := R.list e1 n1
        exact op_rep pins s σ' H vx vy v u Q I rx ry ⟨a, k, vs, ea, r2, z1, by omega, by omega, by rw [← sz_eq, ← q1.len]; exact hl.2, fun p hp => P.newL R (q1.rep _) hp⟩
      · exact P.elim
    · exact P.elim
  · exact P.elim
theorem or_fdiv : OpR X (binaryOp .FloorDiv) (rB Z σ .fdiv) := by
  intro pins s σ' H vx vy v u Q I rx ry ⟨ρ, h, x, y, R, r1, r2, P⟩
  simp only [opB, opFdiv] at P
  split at P
  · next i j =>
    split at P
    · next hl =>
      simp only [divOk, Bool.and_eq_true, decide_eq_true_eq] at hl
      exact op_fdivW pins s σ' H vx vy v u Q I rx ry ⟨i, j, r1, r2, hl, P.now R rfl⟩
    · exact P.elim
  · exact P.elim
theorem or_mod : OpR X (binaryOp .Mod) (rB Z σ .mod) := by
  intro pins s σ' H vx vy v u Q I rx ry ⟨ρ, h, x, y, R, r1, r2, P⟩
  simp only [opB, opMod] at P
  split at P
  · next i j =>
    split at P
    · next hl => exact op_mod pins s σ' H vx vy v u Q I rx ry ⟨i, j, r1, r2, hl, P.now R rfl⟩
    · exact P.elim
  · exact P.elim
theorem or_pow : OpR X (binaryOp .Pow) (rB Z σ .pow) := by
  intro pins s σ' H vx vy v u Q I rx ry ⟨ρ, h, x, y, R, r1, r2, P⟩
  simp only [opB, opPow] at P
  split at P
  · next i j =>
    split at P
    · next hl =>
      simp only [powOk, Bool.and_eq_true, decide_eq_true_eq] at hl
      exact op_pow pins s σ' H vx vy v u Q I rx ry ⟨i, j, r1, r2, ⟨hl.1.1, hl.1.2, hl.2⟩, P.now R rfl⟩
    · exact P.elim
  · exact P.elim
end

/-! ### data, compared -/
section
variable {ga : GA} {ρ : List Addr} {h : Hea} {H : Hp}
mutual
theorem dp_of {r : Nat → Option PyData} (hr : ∀ n x a, r n = some x → ρ[n]? = some a → Dp ga.K H (.ref a) x) : ∀ (d : D) (v : V) (x : PyData), Rep ga ρ H d v → pdD r d = some x → Dp ga.K H v x
  | .non, _, _, q, e => by
    obtain rfl : _ = V.non := q
    cases e
    exact .non
  | .bl b, _, _, q, e => by
    obtain rfl : _ = V.bl b := q
    cases e
    exact .bl b
  | .int i, _, _, q, e => by
    obtain rfl : _ = V.int i := q
    cases e
    exact .int i
  | .str x, _, _, q, e => by
    obtain rfl : _ = V.str x := q
    cases e
    exact .str x
  | .tup ds, v, x, q, e => by
    obtain ⟨a, vs, rfl, z, q2⟩ := q
    have e' : (pdDs r ds).map PyData.tuple = some x := e
    obtain ⟨xs, e1, rfl⟩ := Option.map_eq_some_iff.mp e'
    exact .tup z (dps_of hr ds vs xs q2 e1)
  | .ref n, v, x, q, e => by
    obtain ⟨a, rfl, ea⟩ := q
    exact hr n x a e ea
  | .fn _, _, _, _, e => by cases e
  | .cls _, _, _, _, e => by cases e
  | .ty _, _, _, _, e => by cases e
  | .kd _, _, _, _, e => by cases e
theorem dps_of {r : Nat → Option PyData} (hr : ∀ n x a, r n = some x → ρ[n]? = some a → Dp ga.K H (.ref a) x) : ∀ (ds : List D) (vs : List V) (xs : List PyData), Reps ga ρ H ds vs → pdDs r ds = some xs → DpAll ga.K H vs xs
  | [], vs, xs, q, e => by
    obtain rfl : vs = [] := q
    cases e
    exact .nil
  | d :: ds, vs, xs, q, e => by
    obtain ⟨v, t, rfl, q1, q2⟩ := q
    have e' : ((pdD r d).bind fun x => (pdDs r ds).map fun xs => x :: xs) = some xs := e
    obtain ⟨x, e1, e2⟩ := Option.bind_eq_some_iff.mp e'
    obtain ⟨ys, e3, rfl⟩ := Option.map_eq_some_iff.mp e2
    exact .cons (dp_of hr d v x q1 e1) (dps_of hr ds t ys q2 e3)
end
theorem dp_ref (R : RelH ga ρ h H) : ∀ (k n : Nat) (x : PyData) (a : Addr), pdR h k n = some x → ρ[n]? = some a → Dp ga.K H (.ref a) x
  | 0, _, _, _, e, _ => by cases e
  | k + 1, n, x, a, e, ea => by
    have e' : ((rdL h n).bind fun ds => (pdDs (pdR h k) ds).map PyData.list) = some x := e
    obtain ⟨ds, e1, e2⟩ := Option.bind_eq_some_iff.mp e'
    obtain ⟨xs, e3, rfl⟩ := Option.map_eq_some_iff.mp e2
    obtain ⟨vs, z, q⟩ := R.rd e1 ea
    exact .lst z (dps_of (dp_ref R k) ds vs xs q e3)
theorem pd_ok (R : RelH ga ρ h H) {d : D} {v : V} {x : PyData} (q : Rep ga ρ H d v) (e : pd h d = some x) : Dp ga.K H v x ∧ SeqAt.shaped x = true := by
  unfold pd at e
  obtain ⟨y, e1, e2⟩ := Option.bind_eq_some_iff.mp e
  split at e2
  · next hs => cases e2; exact ⟨dp_of (dp_ref R 8) d v _ q e1, hs⟩
  · cases e2
end
section
variable {X : Cx} {Z : Cn} {σ : L2.St}
def rC (Z : Cn) (σ : L2.St) (o : COp) : R2 := fun vx vy H Q => ∃ ρ h x y, RelH Z.ga ρ h H ∧ Rep Z.ga ρ H x vx ∧ Rep Z.ga ρ H y vy ∧ Post Z σ ρ H (cmpG o x y h) Q
theorem cmpG_some {o : COp} {x y : D} {h : Hea} {ρ : List Addr} {H : Hp} {Q : VK} (P : Post Z σ ρ H (cmpG o x y h) Q) : ∃ k, opC o x y h = some k ∧ Post Z σ ρ H (.ok (.bl k) h) Q := by
  unfold cmpG at P
  cases e : opC o x y h with
  | none => rw [e] at P; exact P.elim
  | some k => rw [e] at P; exact ⟨k, rfl, P⟩
theorem or_eq (hK : X.K = Z.ga.K) (hu : X.A.units + 64 < cLine) : OpR X (compareOp .Eq) (rC Z σ .eq) := by
  intro pins s σ' H vx vy v u Q I rx ry ⟨ρ, h, x, y, R, r1, r2, P⟩
  obtain ⟨k, e, P⟩ := cmpG_some P
  have e' : eqD h x y = some k := e
  unfold eqD at e'
  obtain ⟨d, e1, e2⟩ := Option.bind_eq_some_iff.mp e'
  obtain ⟨d2, e3, rfl⟩ := Option.map_eq_some_iff.mp e2
  obtain ⟨p1, s1⟩ := pd_ok R r1 e1
  obtain ⟨p2, s2⟩ := pd_ok R r2 e3
  exact op_eqD hu pins s σ' H vx vy v u Q I rx ry ⟨d, d2, by rw [hK]; exact p1, by rw [hK]; exact p2, s1, s2, P.now R rfl⟩
theorem or_ne (hK : X.K = Z.ga.K) (hu : X.A.units + 64 < cLine) : OpR X (compareOp .NotEq) (rC Z σ .ne) := by
  intro pins s σ' H vx vy v u Q I rx ry ⟨ρ, h, x, y, R, r1, r2, P⟩
  obtain ⟨k, e, P⟩ := cmpG_some P
  have e' : (eqD h x y).map (!·) = some k := e
  obtain ⟨k', e'', rfl⟩ := Option.map_eq_some_iff.mp e'
  unfold eqD at e''
  obtain ⟨d, e1, e2⟩ := Option.bind_eq_some_iff.mp e''
  obtain ⟨d2, e3, rfl⟩ := Option.map_eq_some_iff.mp e2
  obtain ⟨p1, s1⟩ := pd_ok R r1 e1
  obtain ⟨p2, s2⟩ := pd_ok R r2 e3
  exact op_neD hu pins s σ' H vx vy v u Q I rx ry ⟨d, d2, by rw [hK]; exact p1, by rw [hK]; exact p2, s1, s2, P.now R rfl⟩
theorem or_lt : OpR X (compareOp .Lt) (rC Z σ .lt) := by
  intro pins s σ' H vx vy v u Q I rx ry ⟨ρ, h, x, y, R, r1, r2, P⟩
  obtain ⟨k, e, P⟩ := cmpG_some P
  simp only [opC] at e
  split at e
  · cases e; exact op_lt pins s σ' H vx vy v u Q I rx ry ⟨_, _, r1, r2, P.now R rfl⟩
  · cases e
theorem or_le : OpR X (compareOp .LtE) (rC Z σ .le) := by
  intro pins s σ' H vx vy v u Q I rx ry ⟨ρ, h, x, y, R, r1, r2, P⟩
  obtain ⟨k, e, P⟩ := cmpG_some P
  simp only [opC] at e
  split at e
  · cases e; exact op_le pins s σ' H vx vy v u Q I rx ry ⟨_, _, r1, r2, P.now R rfl⟩
  · cases e
theorem or_gt : OpR X (compareOp .Gt) (rC Z σ .gt) := by
  intro pins s σ' H vx vy v u Q I rx ry ⟨ρ, h, x, y, R, r1, r2, P⟩
  obtain ⟨k, e, P⟩ := cmpG_some P
  simp only [opC] at e
  split at e
  · cases e; exact op_gt pins s σ' H vx vy v u Q I rx ry ⟨_, _, r1, r2, P.now R rfl⟩
  · cases e
theorem or_ge : OpR X (compareOp .GtE) (rC Z σ .ge) := by
  intro pins s σ' H vx vy v u Q I rx ry ⟨ρ, h, x, y, R, r1, r2, P⟩
  obtain ⟨k, e, P⟩ := cmpG_some P
  simp only [opC] at e
  split at e
  · cases e; exact op_ge pins s σ' H vx vy v u Q I rx ry ⟨_, _, r1, r2, P.now R rfl⟩
  · cases e
theorem isNon_rep {ga : GA} {ρ : List Addr} {H : Hp} {x : D} {v : V} (r : Rep ga ρ H x v) : decide (v = .non) = isNon x := by
  cases x with
  | non => obtain rfl : v = .non := r; rfl
  | bl b => obtain rfl : v = .bl b := r; rfl
  | int i => obtain rfl : v = .int i := r; rfl
  | str x => obtain rfl : v = .str x := r; rfl
  | tup ds => obtain ⟨a, vs, rfl, _⟩ := r; rfl
  | ref n => obtain ⟨a, rfl, _⟩ := r; rfl
  | fn f => obtain rfl : v = .ref _ := r; rfl
  | cls f => obtain rfl : v = .ref _ := r; rfl
  | ty n => obtain rfl : v = .ty n := r; rfl
  | kd k => obtain rfl : v = .ref _ := r; rfl
theorem or_is : OpR X (compareOp .Is) (rC Z σ .is) := by
  intro pins s σ' H vx vy v u Q I rx ry ⟨ρ, h, x, y, R, r1, r2, P⟩
  obtain ⟨k, e, P⟩ := cmpG_some P
  simp only [opC] at e
  split at e
  · cases e; exact op_isN pins s σ' H vx vy v u Q I rx ry ⟨r2, by rw [isNon_rep r1]; exact P.now R rfl⟩
  · cases e
theorem or_isNot : OpR X (compareOp .IsNot) (rC Z σ .isNot) := by
  intro pins s σ' H vx vy v u Q I rx ry ⟨ρ, h, x, y, R, r1, r2, P⟩
  obtain ⟨k, e, P⟩ := cmpG_some P
  simp only [opC] at e
  split at e
  · cases e; exact op_notN pins s σ' H vx vy v u Q I rx ry ⟨r2, by rw [isNon_rep r1]; exact P.now R rfl⟩
  · cases e
end
end Mi
end

section
set_option linter.all false
set_option Elab.async false
set_option maxHeartbeats 1000000
/-! MiEx: expressions and tests. -/
namespace Mi
open PySem PySem.Spec PyProof.Rows L2
section
variable {X : Cx} {Z : Cn} {pos : Pos} {a b c e : Expr} {ca cb cc : CE}
theorem truD_ok {ga : GA} {ρ : List Addr} {h : Hea} {H : Hp} {x : D} {v : V} {k : Bool} (R : RelH ga ρ h H) (r : Rep ga ρ H x v) (e : truD h x = some k) : TruV ga.K v H k := by
  cases x with
  | non => obtain rfl : v = .non := r; cases e; exact rfl
  | bl b => obtain rfl : v = .bl b := r; cases e; exact rfl
  | int i => obtain rfl : v = .int i := r; cases e; exact rfl
  | str x =>
    obtain rfl : v = .str x := r
    have e' : (if x.length ≤ SZ then some (x.length != 0) else none) = some k := e
    split at e'
    · next hl =>
      cases e'
      refine ⟨by rw [← sz_eq]; exact hl, ?_⟩
      cases x.length <;> rfl
    · cases e'
  | tup ds =>
    obtain ⟨p, vs, rfl, q, r2⟩ := r
    cases e
    refine .inr (.inl ⟨vs, q, ?_⟩)
    cases ds with
    | nil => rw [show vs = [] from r2]; rfl
    | cons d ds => obtain ⟨v, t, e1, _⟩ := r2; rw [e1]; rfl
  | ref n =>
    obtain ⟨p, rfl, q⟩ := r
    have e' : (rdL h n).map (fun ds => !ds.isEmpty) = some k := e
    obtain ⟨ds, e1, rfl⟩ := Option.map_eq_some_iff.mp e'
    obtain ⟨vs, z, r2⟩ := R.rd e1 q
    refine .inl ⟨vs, z, ?_⟩
    cases ds with
    | nil => rw [show vs = [] from r2]; rfl
    | cons d ds => obtain ⟨v, t, e1, _⟩ := r2; rw [e1]; rfl
  | fn f => cases e
  | cls f => cases e
  | ty n => cases e
  | kd k => cases e
theorem asD_some {α : Type} {x : D} {h : Hea} {ρ : List Addr} {H : Hp} {σ : L2.St} {f : Bool → Hea → Out D} {Q : VK} (P : Post Z σ ρ H ((asD x h).bind f) Q) : ∃ k, truD h x = some k ∧ Post Z σ ρ H (f k h) Q := by
  unfold asD at P
  cases e : truD h x with
  | none => rw [e] at P; exact P.elim
  | some k => rw [e] at P; exact ⟨k, rfl, P⟩
theorem asB_some {x : D} {h : Hea} {ρ : List Addr} {H : Hp} {σ : L2.St} {Q : Bool → Hp → Prop} (P : PostB Z σ ρ H (asD x h) Q) : ∃ k, truD h x = some k ∧ PostB Z σ ρ H (.ok k h) Q := by
  unfold asD at P
  cases e : truD h x with
  | none => rw [e] at P; exact P.elim
  | some k => rw [e] at P; exact ⟨k, rfl, P⟩
/-- a test of any expression -/
theorem mt_truth (hK : X.K = Z.ga.K) (ha : PE X a (tEv Z ca)) (he : ∀ whole, isTrue a X.env whole = (do let v ← whole; standAt a.pos; holding [v] (truthy v))) : PT X a (tTv Z ca) := by
  refine PT.imp (pt_truth ha he) fun σ H Q ⟨ρ, l, h, S, R, P⟩ => ?_
  refine ev_seqB S R P fun x h1 v1 H1 m1 X1 R1 S1 r1 P1 => ?_
  obtain ⟨k, e, P2⟩ := asB_some P1
  exact ⟨k, by rw [hK]; exact truD_ok R1 r1 e, P2.now R1⟩
theorem me_neg (ha : PE X a (tEv Z ca)) : PE X (.UnaryOp .USub a pos) (tEv Z (.neg ca)) := by
  refine PE.imp (pe_un un_neg ha) fun σ H Q ⟨ρ, l, h, S, R, P⟩ => ?_
  simp only [evE] at P
  refine ev_seq S R P fun x h1 v1 H1 m1 X1 R1 S1 r1 P1 => ?_
  split at P1
  · next i => exact ⟨i, r1, P1.now R1 rfl⟩
  · exact P1.elim
theorem me_not (hK : X.K = Z.ga.K) (ha : PE X a (tEv Z ca)) : PE X (.UnaryOp .Not a pos) (tEv Z (.not ca)) := by
  refine PE.imp (pe_notT ha) fun σ H Q ⟨ρ, l, h, S, R, P⟩ => ?_
  simp only [evE] at P
  refine ev_seq S R P fun x h1 v1 H1 m1 X1 R1 S1 r1 P1 => ?_
  obtain ⟨k, e, P2⟩ := asD_some (α := D) P1
  exact ⟨k, by rw [hK]; exact truD_ok R1 r1 e, P2.now R1 rfl⟩
theorem mt_not (ha : PT X a (tTv Z ca)) : PT X (.UnaryOp .Not a pos) (tTv Z (.not ca)) := by
  refine PT.imp (pt_not ha) fun σ H Q ⟨ρ, l, h, S, R, P⟩ => ⟨ρ, l, h, S, R, ?_⟩
  simp only [evE] at P
  cases e : evE Z.G Z.Φ ca l h with
  | no => rw [e] at P; exact P.elim
  | ex x h1 => rw [e] at P; exact P
  | ok x h1 =>
    rw [e] at P
    simp only [Out.bind_ok] at P ⊢
    cases e2 : truD h1 x with
    | none => simp only [asD, e2, lift_none, Out.bind_no] at P; exact P.elim
    | some k =>
      simp only [asD, e2, lift_some, Out.bind_ok] at P ⊢
      exact P
/-! ### and, or -/
def andC (c : CE) : List CE → CE
  | [] => c
  | d :: r => .and c (andC d r)
def orC (c : CE) : List CE → CE
  | [] => c
  | d :: r => .or c (orC d r)
theorem me_and (hK : X.K = Z.ga.K) : ∀ (es : List Expr) (cs : List CE) (a : Expr) (ca : CE), PE X a (tEv Z ca) → Paired (fun e c => PE X e (tEv Z c)) es cs → PE X (.BoolOp .And (a :: es) pos) (tEv Z (andC ca cs))
  | [], [], a, ca, ha, _ => pe_one ha
  | b :: es, d :: cs, a, ca, ha, hp => by
    cases hp with
    | cons hb hr =>
    refine PE.imp (pe_andT ha (me_and hK es cs b d hb hr)) fun σ H Q ⟨ρ, l, h, S, R, P⟩ => ?_
    simp only [andC, evE] at P
    refine ev_seq S R P fun x h1 v1 H1 m1 X1 R1 S1 r1 P1 => ?_
    obtain ⟨k, e, P2⟩ := asD_some (α := D) P1
    refine ⟨k, by rw [hK]; exact truD_ok R1 r1 e, ?_⟩
    cases k with
    | true => exact ⟨_, l, h1, S1, R1, P2⟩
    | false => exact P2.now R1 r1
  | [], _ :: _, _, _, _, hp => by cases hp
  | _ :: _, [], _, _, _, hp => by cases hp
theorem me_or (hK : X.K = Z.ga.K) : ∀ (es : List Expr) (cs : List CE) (a : Expr) (ca : CE), PE X a (tEv Z ca) → Paired (fun e c => PE X e (tEv Z c)) es cs → PE X (.BoolOp .Or (a :: es) pos) (tEv Z (orC ca cs))
  | [], [], a, ca, ha, _ => pe_one ha
  | b :: es, d :: cs, a, ca, ha, hp => by
    cases hp with
    | cons hb hr =>
    refine PE.imp (pe_orT ha (me_or hK es cs b d hb hr)) fun σ H Q ⟨ρ, l, h, S, R, P⟩ => ?_
    simp only [orC, evE] at P
    refine ev_seq S R P fun x h1 v1 H1 m1 X1 R1 S1 r1 P1 => ?_
    obtain ⟨k, e, P2⟩ := asD_some (α := D) P1
    refine ⟨k, by rw [hK]; exact truD_ok R1 r1 e, ?_⟩
    cases k with
    | true => exact P2.now R1 r1
    | false => exact ⟨_, l, h1, S1, R1, P2⟩
  | [], _ :: _, _, _, _, hp => by cases hp
  | _ :: _, [], _, _, _, hp => by cases hp
theorem mt_and : ∀ (es : List Expr) (cs : List CE) (a : Expr) (ca : CE), PT X a (tTv Z ca) → Paired (fun e c => PT X e (tTv Z c)) es cs → PW X (.BoolOp .And (a :: es) pos) (tTv Z (andC ca cs))
  | [], [], a, ca, ha, _ => pw_and1 ha
  | b :: es, d :: cs, a, ca, ha, hp => by
    cases hp with
    | cons hb hr =>
    refine ⟨fun wh pins s σ H Q I q => (pw_and ha (mt_and es cs b d hb hr)).run wh pins s σ H Q I ?_⟩
    obtain ⟨ρ, l, h, S, R, P⟩ := q
    refine ⟨ρ, l, h, S, R, ?_⟩
    simp only [andC, evE] at P
    cases e : evE Z.G Z.Φ ca l h with
    | no => rw [e] at P; exact P.elim
    | ex x h1 => rw [e] at P; exact P
    | ok x h1 =>
      rw [e] at P
      simp only [Out.bind_ok] at P ⊢
      cases e2 : truD h1 x with
      | none => simp only [asD, e2, lift_none, Out.bind_no] at P; exact P.elim
      | some k =>
        simp only [asD, e2, lift_some, Out.bind_ok] at P ⊢
        intro H' m X1 R1
        cases k with
        | true =>
          rw [if_pos rfl]
          exact ⟨_, l, h1, S.keep X1 R.nt, R1, PostB.to P X1 R1⟩
        | false =>
          rw [if_neg (by decide)]
          simp only [Bool.false_eq_true, if_false, Out.bind_ok, asD, e2, lift_some] at P
          exact P H' m X1 R1
  | [], _ :: _, _, _, _, hp => by cases hp
  | _ :: _, [], _, _, _, hp => by cases hp
theorem mt_or : ∀ (es : List Expr) (cs : List CE) (a : Expr) (ca : CE), PT X a (tTv Z ca) → Paired (fun e c => PT X e (tTv Z c)) es cs → PW X (.BoolOp .Or (a :: es) pos) (tTv Z (orC ca cs))
  | [], [], a, ca, ha, _ => pw_or1 ha
  | b :: es, d :: cs, a, ca, ha, hp => by
    cases hp with
    | cons hb hr =>
    refine ⟨fun wh pins s σ H Q I q => (pw_or ha (mt_or es cs b d hb hr)).run wh pins s σ H Q I ?_⟩
    obtain ⟨ρ, l, h, S, R, P⟩ := q
    refine ⟨ρ, l, h, S, R, ?_⟩
    simp only [orC, evE] at P
    cases e : evE Z.G Z.Φ ca l h with
    | no => rw [e] at P; exact P.elim
    | ex x h1 => rw [e] at P; exact P
    | ok x h1 =>
      rw [e] at P
      simp only [Out.bind_ok] at P ⊢
      cases e2 : truD h1 x with
      | none => simp only [asD, e2, lift_none, Out.bind_no] at P; exact P.elim
      | some k =>
        simp only [asD, e2, lift_some, Out.bind_ok] at P ⊢
        intro H' m X1 R1
        cases k with
        | true =>
          rw [if_pos rfl]
          simp only [if_true, Out.bind_ok, asD, e2, lift_some] at P
          exact P H' m X1 R1
        | false =>
          rw [if_neg (by decide)]
          exact ⟨_, l, h1, S.keep X1 R.nt, R1, PostB.to P X1 R1⟩
  | [], _ :: _, _, _, _, hp => by cases hp
  | _ :: _, [], _, _, _, hp => by cases hp

/-! ### a if c else b -/
theorem me_ite (hc : PT X c (tTv Z cc)) (ha : PE X a (tEv Z ca)) (hb : PE X b (tEv Z cb)) : PE X (.IfExp c a b pos) (tEv Z (.ite cc ca cb)) := by
  refine PE.imp (pe_ifExp hc ha hb) fun σ H Q ⟨ρ, l, h, S, R, P⟩ => ⟨ρ, l, h, S, R, ?_⟩
  simp only [evE] at P
  cases e : evE Z.G Z.Φ cc l h with
  | no => rw [e] at P; exact P.elim
  | ex x h1 => rw [e] at P; exact P
  | ok x h1 =>
    rw [e] at P
    simp only [Out.bind_ok] at P ⊢
    cases e2 : truD h1 x with
    | none => simp only [asD, e2, lift_none, Out.bind_no] at P; exact P.elim
    | some k =>
      simp only [asD, e2, lift_some, Out.bind_ok] at P ⊢
      intro H' m X1 R1
      cases k with
      | true => exact ⟨_, l, h1, S.keep X1 R.nt, R1, P.to X1 R1⟩
      | false => exact ⟨_, l, h1, S.keep X1 R.nt, R1, P.to X1 R1⟩
theorem pt_ifExp' {tc ta tb : TT} (hc : PT X c tc) (ha : PT X a ta) (hb : PT X b tb) : PT X (.IfExp c a b pos) (fun σ H Q => tc σ H fun k H1 => if k = true then ta σ H1 Q else tb σ H1 Q) := by
  refine ⟨fun pins s σ H Q I q => ?_⟩
  show wpAny _ _ (do if ← isTrue c X.env (eval c X.env) then isTrue a X.env (eval a X.env) else isTrue b X.env (eval b X.env)) _ _ s
  refine wpAny_bind (thn (hc.run pins s σ H _ I q) fun k s1 ⟨H1, I1, q1⟩ => ?_)
  cases k with
  | true => exact ha.run pins s1 σ H1 Q I1 q1
  | false => exact hb.run pins s1 σ H1 Q I1 q1
theorem mt_ite (hc : PT X c (tTv Z cc)) (ha : PT X a (tTv Z ca)) (hb : PT X b (tTv Z cb)) : PT X (.IfExp c a b pos) (tTv Z (.ite cc ca cb)) := by
  refine PT.imp (pt_ifExp' hc ha hb) fun σ H Q ⟨ρ, l, h, S, R, P⟩ => ⟨ρ, l, h, S, R, ?_⟩
  simp only [evE] at P
  cases e : evE Z.G Z.Φ cc l h with
  | no => rw [e] at P; exact P.elim
  | ex x h1 => rw [e] at P; exact P
  | ok x h1 =>
    rw [e] at P
    simp only [Out.bind_ok] at P ⊢
    cases e2 : truD h1 x with
    | none => simp only [asD, e2, lift_none, Out.bind_no] at P; exact P.elim
    | some k =>
      simp only [asD, e2, lift_some, Out.bind_ok] at P ⊢
      intro H' m X1 R1
      cases k with
      | true => exact ⟨_, l, h1, S.keep X1 R.nt, R1, PostB.to P X1 R1⟩
      | false => exact ⟨_, l, h1, S.keep X1 R.nt, R1, PostB.to P X1 R1⟩

/-! ### comparisons -/
/-- two compared, by an own __eq__ too -/
def rX (Z : Cn) (σ : L2.St) (o : COp) : R2 := fun vx vy H Q => ∃ ρ h x y, RelH Z.ga ρ h H ∧ Rep Z.ga ρ H x vx ∧ Rep Z.ga ρ H y vy ∧ Post Z σ ρ H (cmpX Z.G Z.Φ o x y h) Q
theorem me_cmp {o : COp} {op : CmpOp} (ho : ∀ σ, OpR X (compareOp op) (rX Z σ o)) (ha : PE X a (tEv Z ca)) (hb : PE X b (tEv Z cb)) (hm : behindInMarks op b = false) : PE X (.Compare a [op] [b] pos) (tEv Z (.cmp o ca cb)) := by
  refine ⟨fun pins s σ H Q I hq => ?_⟩
  refine (pe_cmpR (ho σ) ha hb hm).run pins s σ H Q I ?_
  obtain ⟨ρ, l, h, S, R, P⟩ := hq
  simp only [evE] at P
  refine ev_seq S R P fun x h1 v1 H1 m1 X1 R1 S1 r1 P1 => ev_seq S1 R1 P1 fun y h2 v2 H2 m2 X2 R2 S2 r2 P2 => ?_
  exact ⟨_, h2, x, y, R2, Rep.keep X2 R1.nt _ _ r1, r2, P2⟩
theorem cmpG_bl {o : COp} {x y : D} {h : Hea} {ρ : List Addr} {H : Hp} {σ : L2.St} {Q : Bool → Hp → Prop} (P : PostB Z σ ρ H ((cmpG o x y h).bind asD) Q) : Post Z σ ρ H (cmpG o x y h) fun v H' => ∃ k, v = .bl k ∧ Q k H' := by
  unfold cmpG at P ⊢
  cases e : opC o x y h with
  | none => rw [e] at P; exact P.elim
  | some k =>
    rw [e] at P
    intro v H' m X R r
    exact ⟨k, r, P H' m X R⟩
theorem cmpX_bl {o : COp} {x y : D} {h : Hea} {ρ : List Addr} {H : Hp} {σ : L2.St} {Q : Bool → Hp → Prop} (P : PostB Z σ ρ H ((cmpX Z.G Z.Φ o x y h).bind asD) Q) : Post Z σ ρ H (cmpX Z.G Z.Φ o x y h) fun v H' => ∃ k, v = .bl k ∧ Q k H' := by
  unfold cmpX at P ⊢
  split
  · next f ef =>
    rw [ef] at P
    simp only at P
    split
    · next hc =>
      rw [if_pos hc] at P
      cases e : Z.Φ f [x, y] h with
      | no => rw [e] at P; exact P.elim
      | ex z k => rw [e] at P; exact P.elim
      | ok d h' =>
        rw [e] at P
        cases d with
        | bl k => exact fun v H' m X R r => ⟨_, r, P H' m X R⟩
        | _ => exact P.elim
    · next hc =>
      rw [if_neg hc] at P
      exact P.elim
  · next ef =>
    rw [ef] at P
    exact cmpG_bl P
theorem mt_cmp {o : COp} {op : CmpOp} (ho : ∀ σ, OpR X (compareOp op) (rX Z σ o)) (ha : PE X a (tEv Z ca)) (hb : PE X b (tEv Z cb)) (hm : behindInMarks op b = false) : PT X (.Compare a [op] [b] pos) (tTv Z (.cmp o ca cb)) := by
  refine ⟨fun pins s σ H Q I hq => ?_⟩
  refine (pt_cmpR (ho σ) ha hb hm).run pins s σ H Q I ?_
  obtain ⟨ρ, l, h, S, R, P⟩ := hq
  simp only [evE] at P
  have e1 : (Out.bind (evE Z.G Z.Φ ca l h) fun x h1 => Out.bind (evE Z.G Z.Φ cb l h1) fun y h2 => cmpX Z.G Z.Φ o x y h2).bind asD = (evE Z.G Z.Φ ca l h).bind fun x h1 => (evE Z.G Z.Φ cb l h1).bind fun y h2 => (cmpX Z.G Z.Φ o x y h2).bind asD := by
    cases evE Z.G Z.Φ ca l h with
    | no => rfl
    | ex x h1 => rfl
    | ok x h1 =>
      simp only [Out.bind_ok]
      cases evE Z.G Z.Φ cb l h1 <;> rfl
  rw [e1] at P
  refine ev_seqB S R P fun x h1 v1 H1 m1 X1 R1 S1 r1 P1 => ev_seqB S1 R1 P1 fun y h2 v2 H2 m2 X2 R2 S2 r2 P2 => ?_
  exact ⟨_, h2, x, y, R2, Rep.keep X2 R1.nt _ _ r1, r2, cmpX_bl P2⟩
theorem Out.bind_assoc {α β γ : Type} (x : Out α) (f : α → Hea → Out β) (g : β → Hea → Out γ) : (x.bind f).bind g = x.bind fun a h => (f a h).bind g := by
  cases x <;> rfl
theorem me_cmp2 {o o' : COp} {op op' : CmpOp} (ho : ∀ σ, OpR X (compareOp op) (rC Z σ o)) (ho' : ∀ σ, OpR X (compareOp op') (rC Z σ o')) (ha : PE X a (tEv Z ca)) (hb : PE X b (tEv Z cb)) (hc : PE X c (tEv Z cc)) (hm : lastMarks [op, op'] [b, c] = false) :
    PE X (.Compare a [op, op'] [b, c] pos) (tEv Z (.cmp2 o o' ca cb cc)) := by
  refine ⟨fun pins s σ H Q I hq => ?_⟩
  refine (pe_chain (ho σ) (ho' σ) ha hb hc hm).run pins s σ H Q I ?_
  obtain ⟨ρ, l, h, S, R, P⟩ := hq
  simp only [evE] at P
  refine ev_seq S R P fun x h1 v1 H1 m1 X1 R1 S1 r1 P1 => ev_seq S1 R1 P1 fun y h2 v2 H2 m2 X2 R2 S2 r2 P2 => ?_
  refine ⟨_, h2, x, y, R2, Rep.keep X2 R1.nt _ _ r1, r2, ?_⟩
  unfold cmpG at P2 ⊢
  cases e : opC o x y h2 with
  | none => rw [e] at P2; exact P2.elim
  | some k =>
    rw [e] at P2
    simp only [Option.map_some, lift_some, Out.bind_ok] at P2 ⊢
    intro v H' m X3 R3 r3
    refine ⟨k, r3, ?_⟩
    cases k with
    | true =>
      rw [if_pos rfl]
      have P3 := Post.to P2 X3 R3
      refine ev_seq (S2.keep X3 R2.nt) R3 P3 fun z h4 v4 H4 m4 X4 R4 S4 r4 P4 => ?_
      exact ⟨_, h4, y, z, R4, Rep.keep X4 R3.nt _ _ (Rep.keep X3 R2.nt _ _ r2), r4, P4⟩
    | false => exact P2 _ H' m X3 R3 rfl
theorem mt_cmp2 {o o' : COp} {op op' : CmpOp} (ho : ∀ σ, OpR X (compareOp op) (rC Z σ o)) (ho' : ∀ σ, OpR X (compareOp op') (rC Z σ o')) (ha : PE X a (tEv Z ca)) (hb : PE X b (tEv Z cb)) (hc : PE X c (tEv Z cc)) (hm : lastMarks [op, op'] [b, c] = false) :
    PT X (.Compare a [op, op'] [b, c] pos) (tTv Z (.cmp2 o o' ca cb cc)) := by
  refine ⟨fun pins s σ H Q I hq => ?_⟩
  refine (pt_chain (ho σ) (ho' σ) ha hb hc hm).run pins s σ H Q I ?_
  obtain ⟨ρ, l, h, S, R, P⟩ := hq
  simp only [evE, Out.bind_assoc] at P
  refine ev_seqB S R P fun x h1 v1 H1 m1 X1 R1 S1 r1 P1 => ev_seqB S1 R1 P1 fun y h2 v2 H2 m2 X2 R2 S2 r2 P2 => ?_
  refine ⟨_, h2, x, y, R2, Rep.keep X2 R1.nt _ _ r1, r2, ?_⟩
  unfold cmpG at P2 ⊢
  cases e : opC o x y h2 with
  | none => rw [e] at P2; exact P2.elim
  | some k =>
    rw [e] at P2
    simp only [Option.map_some, lift_some, Out.bind_ok] at P2 ⊢
    intro v H' m X3 R3 r3
    refine ⟨k, r3, ?_⟩
    cases k with
    | true =>
      rw [if_pos rfl]
      have P3 := PostB.to P2 X3 R3
      simp only [Out.bind_assoc] at P3
      refine ev_seqB (S2.keep X3 R2.nt) R3 P3 fun z h4 v4 H4 m4 X4 R4 S4 r4 P4 => ?_
      exact ⟨_, h4, y, z, R4, Rep.keep X4 R3.nt _ _ (Rep.keep X3 R2.nt _ _ r2), r4, cmpG_bl P4⟩
    | false => exact ⟨false, rfl, P2 H' m X3 R3⟩

/-! ### displays -/
theorem ma_nil : PA X [] (tAv Z []) := by
  refine PA.imp pa_nil fun σ H Q ⟨ρ, l, h, S, R, P⟩ => ?_
  simp only [evEs] at P
  have e : ρ ++ [] = ρ := List.append_nil ρ
  exact P [] H [] Ext.refl (by rw [e]; exact R) rfl
theorem PostL.cons {ρ : List Addr} {H : Hp} {σ : L2.St} {x : D} {v : V} {h : Hea} {R : Out (List D)} {Q : List V → Hp → Prop} (Rh : RelH Z.ga ρ h H) (r : Rep Z.ga ρ H x v) (P : PostL Z σ ρ H (R.bind fun ds h2 => .ok (x :: ds) h2) Q) : PostL Z σ ρ H R fun vs H' => Q (v :: vs) H' := by
  cases R with
  | no => exact P
  | ex x h => exact P
  | ok ds h' =>
    intro vs H' m X R' rs
    exact P _ H' m X R' ⟨v, vs, rfl, Rep.keep X Rh.nt _ _ r, rs⟩
theorem ma_cons {es : List Expr} {cs : List CE} (ha : PE X e (tEv Z ca)) (hr : PA X es (tAv Z cs)) (hs : starEach (e :: es) X.env = (false, eval e X.env) :: starEach es X.env) : PA X (e :: es) (tAv Z (ca :: cs)) := by
  refine PA.imp (pa_cons ha hr hs) fun σ H Q ⟨ρ, l, h, S, R, P⟩ => ?_
  simp only [evEs] at P
  refine ev_seqL S R P fun x h1 v1 H1 m1 X1 R1 S1 r1 P1 => ⟨_, l, h1, S1, R1, ?_⟩
  exact PostL.cons R1 r1 P1
theorem evEs_len {G : GE} {Φ : Orc} : ∀ (cs : List CE) (l : Loc) (h : Hea) (xs : List D) (h1 : Hea), evEs G Φ cs l h = .ok xs h1 → xs.length = cs.length
  | [], l, h, xs, h1, e => by
    simp only [evEs] at e
    cases e
    rfl
  | c :: cs, l, h, xs, h1, e => by
    simp only [evEs] at e
    cases e1 : evE G Φ c l h with
    | no => rw [e1] at e; cases e
    | ex x k => rw [e1] at e; cases e
    | ok x k =>
      rw [e1, Out.bind_ok] at e
      cases e2 : evEs G Φ cs l k with
      | no => rw [e2] at e; cases e
      | ex x k => rw [e2] at e; cases e
      | ok ys k2 =>
        rw [e2, Out.bind_ok] at e
        cases e
        rw [List.length_cons, List.length_cons, evEs_len cs l k ys _ e2]
/-- a list of parts, then what comes behind -/
theorem ev_seqs {cs : List CE} {l : Loc} {σ : L2.St} {ρ : List Addr} {H : Hp} {h : Hea} {f : List D → Hea → Out D} {Q : VK} {Q' : List V → Hp → Prop} (S : RelS Z.ga ρ H l σ) (R : RelH Z.ga ρ h H) (P : Post Z σ ρ H ((evEs Z.G Z.Φ cs l h).bind f) Q)
    (k : ∀ xs h1 vs H1 m, Ext ρ H m H1 → RelH Z.ga (ρ ++ m) h1 H1 → RelS Z.ga (ρ ++ m) H1 l σ → Reps Z.ga (ρ ++ m) H1 xs vs → xs.length = cs.length → Post Z σ (ρ ++ m) H1 (f xs h1) Q → Q' vs H1) : tAv Z cs σ H Q' := by
  refine ⟨ρ, l, h, S, R, ?_⟩
  cases e : evEs Z.G Z.Φ cs l h with
  | no => rw [e] at P; exact P.elim
  | ex x h1 => rw [e] at P; exact P
  | ok xs h1 =>
    rw [e] at P
    intro vs H' m X R1 r
    exact k xs h1 vs H' m X R1 (S.keep X R.nt) r (evEs_len _ _ _ _ _ e) (Post.to P X R1)
theorem me_tup {es : List Expr} {cs : List CE} {k : Nat} (ha : PA X es (tAv Z cs)) : PE X (.Tuple es k pos) (tEv Z (.tup cs)) := by
  refine PE.imp (pe_tup ha) fun σ H Q ⟨ρ, l, h, S, R, P⟩ => ?_
  simp only [evE] at P
  refine ev_seqs S R P fun xs h1 vs H1 m1 X1 R1 S1 r1 _ P1 => ?_
  split at P1
  · next hl => exact ⟨by rw [← sz_eq, ← r1.len]; exact hl, fun p hp => P1.newT R1 r1 hp⟩
  · exact P1.elim
theorem me_lst {es : List Expr} {cs : List CE} (ha : PA X es (tAv Z cs)) : PE X (.List es pos) (tEv Z (.lst cs)) := by
  refine PE.imp (pe_lst ha) fun σ H Q ⟨ρ, l, h, S, R, P⟩ => ?_
  simp only [evE] at P
  refine ev_seqs S R P fun xs h1 vs H1 m1 X1 R1 S1 r1 _ P1 => ?_
  split at P1
  · next hl => exact ⟨by rw [← sz_eq, ← r1.len]; exact hl, fun p hp => P1.newL R1 r1 hp⟩
  · exact P1.elim
theorem me_dic : PE X (.Dict [] [] pos) (tEv Z .dic) := by
  refine PE.imp pe_dnewT fun σ H Q ⟨ρ, l, h, S, R, P⟩ p hp => ?_
  simp only [evE] at P
  refine P _ _ [p] (Ext.new hp) (R.new hp (.inl ⟨[], rfl, rfl⟩)) ⟨p, rfl, ?_⟩
  rw [← R.len]
  simp
end
end Mi
end

section
set_option linter.all false
set_option Elab.async false
set_option maxHeartbeats 1000000
/-! MiIx: items and slices. -/
namespace Mi
open PySem PySem.Spec PyProof.Rows L2
section
variable {X : Cx} {Z : Cn} {pos : Pos} {a b c e : Expr} {ca cb cc : CE}
theorem atI_rep {ga : GA} {ρ : List Addr} {H : Hp} {ds : List D} {vs : List V} {i : Int} {d : D} (r : Reps ga ρ H ds vs) (e : atI ds i = some d) : ∃ v, atI vs i = some v ∧ Rep ga ρ H d v := by
  unfold atI at e ⊢
  obtain ⟨j, e1, e2⟩ := Option.bind_eq_some_iff.mp e
  rw [r.len] at e1
  obtain ⟨v, e3, q⟩ := r.get e2
  exact ⟨v, by rw [e1]; exact e3, q⟩
/-- a[b] of a list, a tuple, a text -/
def rIx' (Z : Cn) (σ : L2.St) : R2 := fun vx vy H Q => ∃ ρ h x y d, RelH Z.ga ρ h H ∧ Rep Z.ga ρ H x vx ∧ Rep Z.ga ρ H y vy ∧ idxD x y h = some d ∧ Post Z σ ρ H (.ok d h) Q
theorem ix_any (hK : X.K = Z.ga.K) (σ : L2.St) : IxR X (rIx' Z σ) := by
  intro value slice pins s σ' H vx vy v u Q I rx ry ⟨ρ, h, x, y, d, R, r1, r2, e, P⟩ hs
  unfold idxD at e
  split at e
  · next ds i =>
    obtain ⟨p, vs, e1, q, rs⟩ := r1
    obtain ⟨w, e2, q2⟩ := atI_rep rs e
    exact ix_seq value slice pins s σ' H vx vy v u Q I rx ry (.inr (.inl ⟨p, vs, i, w, e1, r2, by rw [hK]; exact q, e2, P.now R q2⟩)) hs
  · next n i =>
    obtain ⟨p, e1, q⟩ := r1
    obtain ⟨ds, e3, e4⟩ := Option.bind_eq_some_iff.mp e
    obtain ⟨vs, z, rs⟩ := R.rd e3 q
    obtain ⟨w, e2, q2⟩ := atI_rep rs e4
    exact ix_seq value slice pins s σ' H vx vy v u Q I rx ry (.inl ⟨p, vs, i, w, e1, r2, by rw [hK]; exact z, e2, P.now R q2⟩) hs
  · next x i =>
    split at e
    · next hl =>
      obtain ⟨z, e1, rfl⟩ := Option.map_eq_some_iff.mp e
      unfold strAt at e1
      obtain ⟨c, e2, rfl⟩ := Option.map_eq_some_iff.mp e1
      exact ix_seq value slice pins s σ' H vx vy v u Q I rx ry (.inr (.inr ⟨x, i, c, r1, r2, by rw [← sz_eq]; exact hl, e2, P.now R rfl⟩)) hs
    · cases e
  · cases e
theorem plainIx (b : Expr) (h : ∀ lo hi st p, b ≠ .Slice lo hi st p) : PlainIx b := by
  intro o i
  cases b <;> first
    | rfl
    | exact absurd rfl (h _ _ _ _)
/-- the evaluator's item, but of a dict -/
theorem me_idx0 (hK : X.K = Z.ga.K) (ha : PE X a (tEv Z ca)) (hb : PE X b (tEv Z cb)) (hs : ∀ lo hi st p, b ≠ .Slice lo hi st p) :
    PE X (.Subscript a b pos) (fun σ H Q => ∃ ρ l h, RelS Z.ga ρ H l σ ∧ RelH Z.ga ρ h H ∧ Post Z σ ρ H ((evE Z.G Z.Φ ca l h).bind fun x h1 => (evE Z.G Z.Φ cb l h1).bind fun y h2 => lift (idxD x y h2) h2) Q) := by
  refine ⟨fun pins s σ H Q I hq => ?_⟩
  refine (pe_ix (ix_any hK σ) ha hb (plainIx b hs)).run pins s σ H Q I ?_
  obtain ⟨ρ, l, h, S, R, P⟩ := hq
  refine ev_seq S R P fun x h1 v1 H1 m1 X1 R1 S1 r1 P1 => ev_seq S1 R1 P1 fun y h2 v2 H2 m2 X2 R2 S2 r2 P2 => ?_
  cases e : idxD x y h2 with
  | none => rw [e] at P2; exact P2.elim
  | some d =>
    rw [e] at P2
    exact ⟨_, h2, x, y, d, R2, Rep.keep X2 R1.nt _ _ r1, r2, e, P2⟩

/-! ### slices -/
def rSl' (Z : Cn) (σ : L2.St) : V → Option Int → Option Int → Hp → VK → Prop := fun vx lo hi H Q => ∃ ρ h x, RelH Z.ga ρ h H ∧ Rep Z.ga ρ H x vx ∧ Post Z σ ρ H (sliD x lo hi h) Q
theorem Reps.cut {ga : GA} {ρ : List Addr} {H : Hp} {ds : List D} {vs : List V} (r : Reps ga ρ H ds vs) (lo hi : Option Int) : Reps ga ρ H (cutD ds lo hi) (cutV vs lo hi) := by
  unfold cutD cutV
  rw [r.len]
  exact Reps.take _ (Reps.drop _ r)
theorem sl_any (hK : X.K = Z.ga.K) (σ : L2.St) : SlR X (rSl' Z σ) := by
  intro pins s σ' H vx v vl vu lo hi sl Q I rx hs pl pu ⟨ρ, h, x, R, r, P⟩
  unfold sliD at P
  split at P
  · next ds =>
    obtain ⟨p, vs, e1, q, rs⟩ := r
    refine sl_tupA pins s σ' H vx v vl vu lo hi sl Q I rx hs pl pu ⟨p, vs, e1, by rw [hK]; exact q, fun hw => ?_, fun _ p2 hp => P.newT R (rs.cut lo hi) hp⟩
    have e2 : cutD ds lo hi = ds := by
      unfold cutD
      rw [rs.len, hw.1, hw.2]
      simp [rs.len.symm]
    rw [e2] at P
    exact P.now R ⟨p, vs, rfl, q, rs⟩
  · next n =>
    split at P
    · next ds e =>
      obtain ⟨p, e1, q⟩ := r
      obtain ⟨vs, z, rs⟩ := R.rd e q
      exact sl_list pins s σ' H vx v vl vu lo hi sl Q I rx hs pl pu ⟨p, vs, e1, by rw [hK]; exact z, fun p2 hp => P.newL R (rs.cut lo hi) hp⟩
    · exact P.elim
  · next x =>
    split at P
    · next hl => exact sl_str pins s σ' H vx v vl vu lo hi sl Q I rx hs pl pu ⟨x, r, by rw [← sz_eq]; exact hl, P.now R rfl⟩
    · exact P.elim
  · exact P.elim
theorem me_sliL {p2 : Pos} {lo : Expr} {cl : CE} (hK : X.K = Z.ga.K) (ha : PE X a (tEv Z ca)) (hl : PE X lo (tEv Z cl)) : PE X (.Subscript a (.Slice (some lo) none none p2) pos) (tEv Z (.sliL ca cl)) := by
  refine ⟨fun pins s σ H Q I hq => ?_⟩
  refine (pe_slice (sl_any hK σ) ha (po_some hl) po_none).run pins s σ H Q I ?_
  obtain ⟨ρ, l, h, S, R, P⟩ := hq
  simp only [evE] at P
  refine ev_seq S R P fun x h1 v1 H1 m1 X1 R1 S1 r1 P1 => ev_seq S1 R1 P1 fun y h2 v2 H2 m2 X2 R2 S2 r2 P2 => ?_
  split at P2
  · next i => exact ⟨i, r2, _, h2, x, R2, Rep.keep X2 R1.nt _ _ r1, P2⟩
  · exact P2.elim
theorem me_sliH {p2 : Pos} {hi : Expr} {cl : CE} (hK : X.K = Z.ga.K) (ha : PE X a (tEv Z ca)) (hl : PE X hi (tEv Z cl)) : PE X (.Subscript a (.Slice none (some hi) none p2) pos) (tEv Z (.sliH ca cl)) := by
  refine ⟨fun pins s σ H Q I hq => ?_⟩
  refine (pe_slice (sl_any hK σ) ha po_none (po_some hl)).run pins s σ H Q I ?_
  obtain ⟨ρ, l, h, S, R, P⟩ := hq
  simp only [evE] at P
  refine ev_seq S R P fun x h1 v1 H1 m1 X1 R1 S1 r1 P1 => ev_seq S1 R1 P1 fun y h2 v2 H2 m2 X2 R2 S2 r2 P2 => ?_
  split at P2
  · next i => exact ⟨i, r2, _, h2, x, R2, Rep.keep X2 R1.nt _ _ r1, P2⟩
  · exact P2.elim
theorem me_sliB {p2 : Pos} {lo hi : Expr} {cl cu : CE} (hK : X.K = Z.ga.K) (ha : PE X a (tEv Z ca)) (hl : PE X lo (tEv Z cl)) (hu : PE X hi (tEv Z cu)) : PE X (.Subscript a (.Slice (some lo) (some hi) none p2) pos) (tEv Z (.sliB ca cl cu)) := by
  refine ⟨fun pins s σ H Q I hq => ?_⟩
  refine (pe_slice (sl_any hK σ) ha (po_some hl) (po_some hu)).run pins s σ H Q I ?_
  obtain ⟨ρ, l, h, S, R, P⟩ := hq
  simp only [evE] at P
  refine ev_seq S R P fun x h1 v1 H1 m1 X1 R1 S1 r1 P1 => ev_seq S1 R1 P1 fun y h2 v2 H2 m2 X2 R2 S2 r2 P2 => ?_
  cases y with
  | int i =>
    refine ⟨i, r2, ev_seq S2 R2 P2 fun z h3 v3 H3 m3 X3 R3 S3 r3 P3 => ?_⟩
    cases z with
    | int j => exact ⟨j, r3, _, h3, x, R3, Rep.keep X3 R2.nt _ _ (Rep.keep X2 R1.nt _ _ r1), P3⟩
    | _ => exact P3.elim
  | _ => exact P2.elim
end
end Mi
end

section
set_option linter.all false
set_option Elab.async false
set_option maxHeartbeats 1000000
/-! MiRv: a list, reversed by a slice. -/
namespace Mi
open PySem PySem.Spec PyProof.Rows L2
section
variable {X : Cx} {Z : Cn} {pos : Pos}
theorem Reps.rev {ga : GA} {ρ : List Addr} {H : Hp} : ∀ {ds : List D} {vs : List V}, Reps ga ρ H ds vs → Reps ga ρ H ds.reverse vs.reverse
  | [], vs, r => by rw [show vs = [] from r]; rfl
  | d :: ds, vs, r => by
    obtain ⟨v, t, rfl, r1, r2⟩ := r
    rw [List.reverse_cons, List.reverse_cons]
    exact (Reps.rev r2).append ⟨v, [], rfl, r1, rfl⟩
theorem me_rev {e : Expr} {ca : CE} {k : Nat} {p1 p2 p3 : Pos} (hK : X.K = Z.ga.K) (he : PE X e (tEv Z ca)) : PE X (.Subscript e (.Slice none none (some (.UnaryOp .USub (.Constant (.int 1) k p1) p2)) p3) pos) (tEv Z (.rev ca)) := by
  refine PE.imp (pe_revL he) fun σ H Q ⟨ρ, l, h, S, R, P⟩ => ?_
  simp only [evE] at P
  refine ev_seq S R P fun x h1 v1 H1 m1 X1 R1 S1 r1 P1 => ?_
  cases x with
  | ref n =>
    obtain ⟨a, rfl, ea⟩ := r1
    simp only at P1
    cases e0 : rdL h1 n with
    | none => rw [e0] at P1; exact P1.elim
    | some ds =>
      rw [e0] at P1
      obtain ⟨vs, z, rs⟩ := R1.rd e0 ea
      exact ⟨a, vs, rfl, by rw [hK]; exact z, fun p hn => P1.newL R1 rs.rev hn⟩
  | _ => exact P1.elim
end
end Mi
end

section
set_option linter.all false
set_option Elab.async false
set_option maxHeartbeats 1000000
/-! MiCall: the call of a def of the text. -/
namespace Mi
open PySem PySem.Spec PyProof.Rows L2

/-- a def keeps its promise, called where no repr is under way -/
structure FnG (P : Program) (w : World) (K : PySem.W.Frag) (mg : Str → Option Value) (base : Heap) (k : Nat) (f : Addr) (fd : FuncData) (ps : List Str) (sp : Sp) : Prop where
  len : ∀ vs H Q E, sp vs H Q E → vs.length = ps.length
  run : ∀ (A : Around) (outer : List Env) (s : Shared) (H : Hp) (args : Args) (us : List Value) (vs : List V) (Q : VK) (E : XK), Room k A → A.guards = some [] →
    Env0 P w K mg base A outer s H → BindsTo s fd args (ps.zip us) → Vals vs us → sp vs H Q E → codeAny (model P w) A (.call (.ref f) args) (CR (L2.CX P w) outer P w H s Q E) s

theorem fnG_of {P : Program} {w : World} {K : PySem.W.Frag} {mg : Str → Option Value} {base : Heap} {k : Nat} {f : Addr} {nm qual : Str} {pa : Arguments} {body : List Stmt} {sc : Scope} {dV kV doc pm cdv ct oc : Value} {an od : Option Addr}
    {osl : Array (Option Value)} {N ps : List Str} {sp : Sp}
    (lk : K.lookup f = some ⟨oc, od, .func (PySem.W.fnOf nm qual pa body sc dV kV doc pm an cdv ct), osl⟩)
    (hcd : PySem.W.codeIn K cdv qual = true) (S : FnScope N ps sc) (len : ∀ vs H Q E, sp vs H Q E → vs.length = ps.length)
    (hbody : ∀ (A : Around) (outer : List Env) (s : Shared) (H : Hp) (vs : List V) (Q : VK) (E : XK),
      Room k (A.deeper (envOfC qual sc s.heap.objs.size f cdv)) → A.guards = some [] → sp vs H Q E →
      ∃ t, PSs (cxOf (L2.CX P w) P w K mg base N qual sc f cdv A outer s H E) body t ∧ t { nx := fun _ H' => Q .non H', rt := Q } (start N vs) H) :
    FnG P w K mg base (k + 1) f (PySem.W.fnOf nm qual pa body sc dV kV doc pm an cdv ct) ps sp where
  len := len
  run := by
    intro A outer s H args us vs Q E hr hg e0 hb rv hs
    have inK : K.In s.heap := e0.mod.kin.keeps fun b o e => (e0.bs b o e).1
    have slots : ∀ y ∈ ps.zip us, sc.names.lookup y.1 = some .local ∨ (sc.names.lookup y.1 = some .cell ∧ ((cellsFrom (s.heap.objs.size + 1) sc.names []).lookup y.1).isSome = true) := by
      rintro ⟨n, v⟩ hy
      cases S.par n (List.of_mem_zip hy).1 with
      | inl q => exact Or.inl q
      | inr q => exact Or.inr ⟨q, PySem.W.cellsFrom_some _ _ _ (Or.inl q)⟩
    refine codeAny_call_function hr.depth (inK _ _ lk) rfl S.co S.gen rfl (PySem.W.codeRec_of inK hcd) (hb _ _ _ _ ?_)
    refine wpAny_newFunctionEnv_cells S.kind slots ?_
    intro env he s1 x
    subst he
    refine ⟨(e0.mod.nolimit.keeps fun b o e => (e0.bs b o e).1).keeps x.toInCall.keep, codeAny_func ?_⟩
    obtain ⟨t, ht, hq⟩ := hbody A outer s H vs Q E (hr.deeper _) hg hs
    have I := inv_start (CX := L2.CX P w) (K := K) (mg := mg) (base := base) (E := E) (H := H) S hr.hd e0 (len _ _ _ _ hs) rv x
    refine wpAny_mono (ht.run [] s1 _ H _ I hq) ?_ (fun _ _ z => z)
    intro fl s' h'
    cases fl with
    | ret u =>
      obtain ⟨v, σ', H', J, r, q⟩ := h'
      exact ⟨v, H', J.os, J.bare, J.base, J.hok, r, q⟩
    | next =>
      obtain ⟨σ', H', J, q⟩ := h'
      exact ⟨.non, H', J.os, J.bare, J.base, J.hok, rfl, q⟩
    | brk => exact h'.elim fun _ z => z.elim fun _ z => z.2.elim
    | cont => exact h'.elim fun _ z => z.elim fun _ z => z.2.elim

/-! ### the arguments in the parameters' order -/
/-- us: the written values; zs: the parameters' -/
def ShV (ga : GA) : List (Sum Nat D) → List Value → List Value → Prop
  | [], _, zs => zs = []
  | .inl i :: r, us, zs => ∃ z t, zs = z :: t ∧ us[i]? = some z ∧ ShV ga r us t
  | .inr d :: r, us, zs => ∃ z t, zs = z :: t ∧ (∃ v, RelV v z ∧ ∀ ρ H, Rep ga ρ H d v) ∧ ShV ga r us t
theorem ShV.ok {ga : GA} {ρ : List Addr} {H : Hp} {ds : List D} {vs : List V} {us : List Value} (r : Reps ga ρ H ds vs) (q : Vals vs us) :
    ∀ {sh : List (Sum Nat D)} {zs : List Value} {es : List D}, ShV ga sh us zs → shape ds sh = some es → ∃ ws, Vals ws zs ∧ Reps ga ρ H es ws
  | [], zs, es, h, e => by
    obtain rfl : zs = [] := h
    cases e
    exact ⟨[], .nil, rfl⟩
  | .inl i :: sh, zs, es, h, e => by
    obtain ⟨z, t, rfl, e1, h2⟩ := h
    obtain ⟨d, e2, e3⟩ := Option.bind_eq_some_iff.mp (show ((ds[i]?).bind fun d => (shape ds sh).map fun z => d :: z) = some es from e)
    obtain ⟨es', e4, rfl⟩ := Option.map_eq_some_iff.mp e3
    obtain ⟨ws, w1, w2⟩ := ShV.ok r q h2 e4
    obtain ⟨v, e5, r5⟩ := r.get e2
    obtain ⟨u, e6, r6⟩ := q.get e5
    rw [e1] at e6
    cases e6
    exact ⟨v :: ws, .cons r6 w1, v, ws, rfl, r5, w2⟩
  | .inr d :: sh, zs, es, h, e => by
    obtain ⟨z, t, rfl, ⟨v, r1, r2⟩, h2⟩ := h
    obtain ⟨es', e4, rfl⟩ := Option.map_eq_some_iff.mp (show ((shape ds sh).map fun z => d :: z) = some es from e)
    obtain ⟨ws, w1, w2⟩ := ShV.ok r q h2 e4
    exact ⟨v :: ws, .cons r1 w1, v, ws, rfl, r2 ρ H, w2⟩
/-- n values by place, the keywords ks -/
def KB (ga : GA) (K : PySem.W.Frag) (fd : FuncData) (ps : List Str) (n : Nat) (ks : List Str) (sh : List (Sum Nat D)) : Prop :=
  sh.length = ps.length ∧ ∀ (s : Shared) (us ws : List Value), K.In s.heap → us.length = n → ws.length = ks.length → ∃ zs, ShV ga sh (us ++ ws) zs ∧ BindsTo s fd ⟨us, ks.zip ws⟩ (ps.zip zs)

/-- what a call of f gives -/
def PostC (ga : GA) (ρ : List Addr) (H : Hp) (R : Out D) (Q : VK) (E : XK) : Prop := match R with
  | .no => False
  | .ok d h' => ∀ v H' m, Ext ρ H m H' → RelH ga (ρ ++ m) h' H' → Rep ga (ρ ++ m) H' d v → Q v H'
  | .ex x h' => ∀ H' m, Ext ρ H m H' → RelH ga (ρ ++ m) h' H' → ∀ c d, XRep ga (ρ ++ m) H' x c d → E c d H'
def spO (ga : GA) (n : Nat) (φ : List D → Hea → Out D) : Sp := fun vs H Q E => ∃ ρ h ds, RelH ga ρ h H ∧ Reps ga ρ H ds vs ∧ ds.length = n ∧ PostC ga ρ H (φ ds h) Q E
theorem Post.c {Z : Cn} {σ : L2.St} {ρ : List Addr} {H : Hp} {R : Out D} {Q : VK} (P : Post Z σ ρ H R Q) : PostC Z.ga ρ H R Q fun c d H' => Z.Wx c d σ H' := by
  cases R with
  | no => exact P
  | ok d h => exact P
  | ex x h => exact fun H' m X R c d z => P H' m X R c d z

/-- the defs that may be called: f stands at ga.fn f, of n parameters, and keeps what Φ says -/
structure Def (Z : Cn) (X : Cx) (k f : Nat) (fd : FuncData) (ps : List Str) : Prop where
  kp : PySem.W.keepIn X.K (.ref (Z.ga.fn f)) = true
  ok : FnG X.prog X.w X.K X.mg X.base k (Z.ga.fn f) fd ps (spO Z.ga ps.length (Z.Φ f))

section
variable {X : Cx} {Z : Cn} {pos : Pos} {a b c e : Expr} {ca cb cc : CE} {σ : L2.St}
/-- the callee runs -/
theorem run_G {k f n : Nat} {fd : FuncData} {ps ks : List Str} {sh : List (Sum Nat D)} {pins : List (Addr × Obj)} {H : Hp} {s : Shared} {Q : VK} {us ws : List Value} {vs : List V} {ρ : List Addr} {h : Hea} {ds es : List D}
    (F : FnG X.prog X.w X.K X.mg X.base k (Z.ga.fn f) fd ps (spO Z.ga ps.length (Z.Φ f))) (hr : Room k X.A) (hg : X.A.guards = some []) (kb : KB Z.ga X.K fd ps n ks sh) (tk : Takes X Z.Wx)
    (I : L2.Inv X pins σ H s) (rv : Vals vs (us ++ ws)) (l1 : us.length = n) (l2 : ws.length = ks.length) (R : RelH Z.ga ρ h H) (r : Reps Z.ga ρ H ds vs) (e : shape ds sh = some es) (P : Post Z σ ρ H (Z.Φ f es h) Q) :
    wpAny (model X.prog X.w) X.A (call (.ref (Z.ga.fn f)) us (ks.zip ws)) (EP X pins σ Q) X.xe s := by
  obtain ⟨zs, sv, hb⟩ := kb.2 s us ws I.kIn l1 l2
  obtain ⟨xs, x1, x2⟩ := ShV.ok r rv sv e
  have ln : ∀ {sh : List (Sum Nat D)} {es : List D}, shape ds sh = some es → es.length = sh.length := by
    intro sh
    induction sh with
    | nil => intro es e; cases e; rfl
    | cons q sh ih =>
      intro es e
      cases q with
      | inl i =>
        obtain ⟨d, _, e3⟩ := Option.bind_eq_some_iff.mp (show ((ds[i]?).bind fun d => (shape ds sh).map fun z => d :: z) = some es from e)
        obtain ⟨es', e4, rfl⟩ := Option.map_eq_some_iff.mp e3
        rw [List.length_cons, List.length_cons, ih e4]
      | inr d =>
        obtain ⟨es', e4, rfl⟩ := Option.map_eq_some_iff.mp (show ((shape ds sh).map fun z => d :: z) = some es from e)
        rw [List.length_cons, List.length_cons, ih e4]
  refine wpAny_call (codeAny_mono (F.run X.A X.stack s H ⟨us, ks.zip ws⟩ zs xs Q (fun c d H' => Z.Wx c d σ H') hr hg I.env0 hb x1 ⟨ρ, h, es, R, x2, by rw [ln e, kb.1], P.c⟩) ?_)
  intro res s' hq
  cases res with
  | error er => exact tk _ _ (XE.of_call I (fun _ _ _ z => z) hq)
  | ok fl =>
    cases fl with
    | ret u => exact I.after hq
    | next => exact False.elim hq
    | brk => exact False.elim hq
    | cont => exact False.elim hq

/-- keywords -/
theorem mk_nil : PK X [] (tAv Z []) := by
  refine ⟨fun pos pins s σ H Q I hq => pk_nil.run pos pins s σ H Q I ?_⟩
  obtain ⟨ρ, l, h, S, R, P⟩ := hq
  simp only [evEs] at P
  have e : ρ ++ [] = ρ := List.append_nil ρ
  exact P [] H [] Ext.refl (by rw [e]; exact R) rfl
theorem mk_cons {kws : List Keyword} {cs : List CE} {nm : Option Str} {kpos : Pos} (ha : PE X e (tEv Z ca)) (hr : PK X kws (tAv Z cs)) : PK X (⟨nm, e, kpos⟩ :: kws) (tAv Z (ca :: cs)) := by
  refine ⟨fun pos pins s σ H Q I hq => (pk_cons ha hr).run pos pins s σ H Q I ?_⟩
  obtain ⟨ρ, l, h, S, R, P⟩ := hq
  simp only [evEs] at P
  refine ev_seqL S R P fun x h1 v1 H1 m1 X1 R1 S1 r1 P1 => ⟨_, l, h1, S1, R1, ?_⟩
  exact PostL.cons R1 r1 P1
theorem evEs_append {G : GE} {Φ : Orc} : ∀ (a b : List CE) (l : Loc) (h : Hea), evEs G Φ (a ++ b) l h = (evEs G Φ a l h).bind fun xs h1 => (evEs G Φ b l h1).bind fun ys h2 => .ok (xs ++ ys) h2
  | [], b, l, h => by
    simp only [List.nil_append, evEs, Out.bind_ok]
    cases evEs G Φ b l h <;> rfl
  | c :: a, b, l, h => by
    simp only [List.cons_append, evEs, evEs_append a b, Out.bind_assoc, Out.bind_ok]
theorem stars_ok {env : Env} {pos : Pos} : ∀ (es : List Expr), (∀ e ∈ es, ∀ z p, e ≠ .Starred z p) → (backTo pos (starEach es env)).any (·.1) = false ∧ (backTo pos (starEach es env)).all (!·.1) = true
  | [], _ => ⟨rfl, rfl⟩
  | e :: es, hn => by
    obtain ⟨i1, i2⟩ := stars_ok (env := env) (pos := pos) es fun z hz => hn z (List.mem_cons_of_mem _ hz)
    have e1 : starEach (e :: es) env = (false, eval e env) :: starEach es env := by
      have := hn e List.mem_cons_self
      cases e <;> first
        | rfl
        | exact absurd rfl (this _ _)
    rw [e1]
    exact ⟨i1, i2⟩
theorem kws_ok {env : Env} {pos : Pos} : ∀ (kws : List Keyword) (ks : List Str), kws.map (·.arg) = ks.map some →
    (backToKw pos (keywordEach kws env)).all (·.1.isSome) = true ∧ (backToKw pos (keywordEach kws env)).any (·.1.isNone) = false ∧ (backToKw pos (keywordEach kws env)).filterMap (·.1) = ks
  | [], ks, e => by
    cases ks with
    | nil => exact ⟨rfl, rfl, rfl⟩
    | cons => cases e
  | kw :: kws, ks, e => by
    cases ks with
    | nil => cases e
    | cons x ks =>
      injection e with e1 e2
      obtain ⟨i1, i2, i3⟩ := kws_ok (env := env) (pos := pos) kws ks e2
      obtain ⟨ka, kv, kp⟩ := kw
      obtain rfl : ka = some x := e1
      exact ⟨i1, i2, congrArg (x :: ·) i3⟩
/-- the arguments by place, then the keywords, then f -/
theorem args_G {args : List Expr} {kws : List Keyword} {cas cks : List CE} {fv : Value} {first : List Value} {pins : List (Addr × Obj)} {H : Hp} {s : Shared} {Q : VK} {ρ : List Addr} {h : Hea} {l : Loc} {ks : List Str} {f : List D → Hea → Out D}
    (hk : PySem.W.keepIn X.K fv = true) (ha : PA X args (tAv Z cas)) (hkw : PK X kws (tAv Z cks)) (hst : ∀ e ∈ args, ∀ z p, e ≠ .Starred z p) (hks : kws.map (·.arg) = ks.map some) (hkl : cks.length = ks.length) (hal : cas.length = args.length)
    (I : L2.Inv X pins σ H s) (S : RelS Z.ga ρ H l σ) (R : RelH Z.ga ρ h H) (P : Post Z σ ρ H ((evEs Z.G Z.Φ (cas ++ cks) l h).bind f) Q)
    (k : ∀ us ws vs xs s1 H1 h1 m, us.length = args.length → ws.length = ks.length → L2.Inv X pins σ H1 s1 → Vals vs (us ++ ws) → Ext ρ H m H1 → RelH Z.ga (ρ ++ m) h1 H1 → Reps Z.ga (ρ ++ m) H1 xs vs → Post Z σ (ρ ++ m) H1 (f xs h1) Q →
      wpAny (model X.prog X.w) X.A (call fv (first ++ us) (ks.zip ws)) (EP X pins σ Q) X.xe s1) :
    wpAny (model X.prog X.w) X.A (callWith pos fv first (backTo pos (starEach args X.env)) (backToKw pos (keywordEach kws X.env))) (EP X pins σ Q) X.xe s := by
  obtain ⟨q1, q2, q3⟩ := kws_ok (env := X.env) (pos := pos) kws ks hks
  obtain ⟨q4, _⟩ := stars_ok (env := X.env) (pos := pos) args hst
  rw [evEs_append, Out.bind_assoc] at P
  have fin : ∀ (us : List Value) s1 xs vs H1 h1 m, us.length = args.length → L2.Inv X pins σ H1 s1 → Vals vs us → Ext ρ H m H1 → RelH Z.ga (ρ ++ m) h1 H1 → RelS Z.ga (ρ ++ m) H1 l σ → Reps Z.ga (ρ ++ m) H1 xs vs →
      Post Z σ (ρ ++ m) H1 ((evEs Z.G Z.Φ cks l h1).bind fun ys h2 => f (xs ++ ys) h2) Q →
      wpAny (model X.prog X.w) X.A (evalAll ((backToKw pos (keywordEach kws X.env)).map (·.2))) (fun ks' s₂ => X.K.In s₂.heap ∧ wpAny (model X.prog X.w) X.A (call fv (first ++ us) (((backToKw pos (keywordEach kws X.env)).filterMap (·.1)).zip ks')) (EP X pins σ Q) X.xe s₂) X.xe s1 := by
    intro us s1 xs vs H1 h1 m lu I1 rv X1 R1 S1 r1 P1
    refine thn (hkw.run pos pins s1 σ H1 (fun zs H2 => ∃ ys h2 m2, zs.length = ks.length ∧ Ext (ρ ++ m) H1 m2 H2 ∧ RelH Z.ga (ρ ++ m ++ m2) h2 H2 ∧ Reps Z.ga (ρ ++ m ++ m2) H2 ys zs ∧ Post Z σ (ρ ++ m ++ m2) H2 (f (xs ++ ys) h2) Q) I1 ?_) ?_
    · exact ev_seqs S1 R1 P1 fun ys h2 zs H2 m2 X2 R2 S2 r2 l2 P2 => ⟨ys, h2, m2, by rw [← r2.len, l2, hkl], X2, R2, r2, P2⟩
    · intro ws s2 hq
      obtain ⟨zs, H2, I2, rz, ys, h2, m2, lz, X2, R2, r2, P2⟩ := hq
      refine ⟨I2.kIn, ?_⟩
      rw [q3]
      rw [List.append_assoc] at R2 r2 P2
      have rxs := Reps.keep X2 R1.nt _ _ r1
      rw [List.append_assoc] at rxs
      exact k us ws (vs ++ zs) (xs ++ ys) s2 H2 h2 (m ++ m2) lu (rz.length.symm.trans lz) I2 (rv.append rz) (X1.trans R1.nt X2) R2 (rxs.append r2) P2
  have main : tAv Z cas σ H fun vs H1 => ∃ xs h1 m, vs.length = args.length ∧ Ext ρ H m H1 ∧ RelH Z.ga (ρ ++ m) h1 H1 ∧ RelS Z.ga (ρ ++ m) H1 l σ ∧ Reps Z.ga (ρ ++ m) H1 xs vs ∧ Post Z σ (ρ ++ m) H1 ((evEs Z.G Z.Φ cks l h1).bind fun ys h2 => f (xs ++ ys) h2) Q := by
    refine ev_seqs S R P fun xs h1 vs H1 m X1 R1 S1 r1 l1 P1 => ⟨xs, h1, m, by rw [← r1.len, l1, hal], X1, R1, S1, r1, ?_⟩
    simp only [Out.bind_assoc, Out.bind_ok] at P1
    exact P1
  cases args with
  | nil =>
    cases cas with
    | cons => cases hal
    | nil =>
      obtain ⟨ρ', l', h', S', R', P'⟩ := main
      simp only [evEs] at P'
      have e0 : ρ' ++ [] = ρ' := List.append_nil ρ'
      obtain ⟨xs, h1, m, lv, X1, R1, S1, r1, P1⟩ := P' [] H [] Ext.refl (by rw [e0]; exact R') rfl
      refine PySem.W.callWith_KW0 (h₀ := X.base) I.ok.mod.kin hk q1 ?_ ?_
      · have := fin [] s xs [] H h1 m rfl I .nil X1 R1 S1 r1 P1
        exact this
      · rw [q2]; rfl
  | cons a as =>
    refine PySem.W.callWith_KW (h₀ := X.base) I.ok.mod.kin hk q1 ?_ ?_ ?_
    · refine thn (ha.run pos pins s σ H _ I main) ?_
      intro us s1 hq
      obtain ⟨vs, H1, I1, rv, xs, h1, m, lv, X1, R1, S1, r1, P1⟩ := hq
      exact fin us s1 xs vs H1 h1 m (rv.length.symm.trans lv) I1 rv X1 R1 S1 r1 P1
    · rw [q4, q2]; rfl
    · have := hst a List.mem_cons_self
      cases a <;> first
        | rfl
        | exact absurd rfl (this _ _)
/-- f(..) -/
theorem me_call {k f : Nat} {fd : FuncData} {ps ks : List Str} {sh : List (Sum Nat D)} {x : Str} {p : Pos} {args : List Expr} {kws : List Keyword} {cas cks : List CE}
    (F : Def Z X k f fd ps) (hr : Room k X.A) (hg : X.A.guards = some []) (kb : KB Z.ga X.K fd ps args.length ks sh) (tk : Takes X Z.Wx) (hgl : Gl X x) (hm : X.mg x = some (.ref (Z.ga.fn f))) (hdb : (x == ("__debug__" : Str)) = false)
    (ha : PA X args (tAv Z cas)) (hkw : PK X kws (tAv Z cks)) (hst : ∀ e ∈ args, ∀ z p, e ≠ .Starred z p) (hks : kws.map (·.arg) = ks.map some) (hkl : cks.length = ks.length) (hal : cas.length = args.length) :
    PE X (.Call (.Name x p) args kws pos) (tEv Z (.callk f (cas ++ cks) sh)) := by
  refine ⟨fun pins s σ H Q I hq => ?_⟩
  obtain ⟨ρ, l, h, S, R, P⟩ := hq
  simp only [evE] at P
  refine wpAny_Call_Name_kw (ld_glob I hgl hm ?_ hdb)
  refine args_G (first := []) F.kp ha hkw hst hks hkl hal I S R P ?_
  intro us ws vs xs s1 H1 h1 m l1 l2 I1 rv X1 R1 r1 P1
  cases e : shape xs sh with
  | none => rw [e] at P1; exact P1.elim
  | some es =>
    rw [e] at P1
    exact run_G F.ok hr hg kb tk I1 rv l1 l2 R1 r1 e P1
end
end Mi
end

section
set_option linter.all false
set_option Elab.async false
set_option maxHeartbeats 1000000
/-! MiObj: instances: fields, properties, methods; new ones. -/
namespace Mi
open PySem PySem.Spec PyProof.Rows L2
section
variable {ga : GA} {ρ : List Addr} {H : Hp}
theorem Flds.look {f : Str} : ∀ {fs : List (Str × D)} {gs : List (Str × V)} {d : D}, Flds ga ρ H fs gs → lookF fs f = some d → ∃ v, gs.lookup f = some v ∧ Rep ga ρ H d v
  | [], _, _, _, e => by cases e
  | (g, w) :: fs, gs, d, r, e => by
    obtain ⟨v, t, rfl, r1, r2⟩ := r
    have e' : (if g = f then some w else lookF fs f) = some d := e
    rw [List.lookup_cons]
    by_cases hg : g = f
    · rw [if_pos hg] at e'
      cases e'
      have : (f == g) = true := by rw [hg]; exact beq_self_eq_true f
      rw [this]
      exact ⟨v, rfl, r1⟩
    · rw [if_neg hg] at e'
      have : (f == g) = false := beq_eq_false_iff_ne.mpr fun z => hg z.symm
      rw [this]
      exact Flds.look r2 e'
theorem Flds.look0 {f : Str} : ∀ {fs : List (Str × D)} {gs : List (Str × V)}, Flds ga ρ H fs gs → lookF fs f = none → gs.lookup f = none
  | [], _, r, _ => by rw [show _ = [] from r]; rfl
  | (g, w) :: fs, gs, r, e => by
    obtain ⟨v, t, rfl, r1, r2⟩ := r
    have e' : (if g = f then some w else lookF fs f) = none := e
    rw [List.lookup_cons]
    by_cases hg : g = f
    · rw [if_pos hg] at e'
      cases e'
    · rw [if_neg hg] at e'
      have : (f == g) = false := beq_eq_false_iff_ne.mpr fun z => hg z.symm
      rw [this]
      exact Flds.look0 r2 e'
theorem Flds.put {f : Str} {d : D} {v : V} (q : Rep ga ρ H d v) : ∀ {fs : List (Str × D)} {gs : List (Str × V)}, Flds ga ρ H fs gs → Flds ga ρ H (putF fs f d) (L2.putF f v gs)
  | [], _, r => by
    rw [show _ = [] from r]
    exact ⟨v, [], rfl, q, rfl⟩
  | (g, w) :: fs, gs, r => by
    obtain ⟨u, t, rfl, r1, r2⟩ := r
    show Flds ga ρ H (if g = f then (g, d) :: fs else (g, w) :: putF fs f d) (if g = f then (g, v) :: t else (g, u) :: L2.putF f v t)
    by_cases hg : g = f
    · rw [if_pos hg, if_pos hg]
      exact ⟨v, t, rfl, q, r2⟩
    · rw [if_neg hg, if_neg hg]
      exact ⟨u, _, rfl, r1, Flds.put q r2⟩
theorem Flds.len : ∀ {fs : List (Str × D)} {gs : List (Str × V)}, Flds ga ρ H fs gs → fs.length = gs.length
  | [], _, r => by rw [show _ = [] from r]; rfl
  | _ :: fs, gs, r => by
    obtain ⟨u, t, rfl, r1, r2⟩ := r
    rw [List.length_cons, List.length_cons, r2.len]
theorem insAt_some {h : Hea} {x : D} {r c : Nat} {fs : List (Str × D)} (e : insAt h x = some (r, c, fs)) : x = .ref r ∧ h[r]? = some (.ins c fs) := by
  unfold insAt at e
  split at e
  · split at e
    · next q => cases e; exact ⟨rfl, q⟩
    · cases e
  · cases e
theorem RelH.ins {h : Hea} {n c : Nat} {a : Addr} {fs : List (Str × D)} (R : RelH ga ρ h H) (e : h[n]? = some (.ins c fs)) (ea : ρ[n]? = some a) : ∃ dx gs, H a = some (.ins (ga.cls c) dx gs) ∧ Flds ga ρ H fs gs := R.at_ n _ a e ea
end
section
variable {X : Cx} {Z : Cn} {pos : Pos} {a b c e : Expr} {ca cb cc : CE} {σ : L2.St}
theorem attBase (hn : ∀ x p, e ≠ .Call (.Name x p) [] [] pos) (f : Str) (hs : ∀ x p q, e ≠ .Call (.Name x p) [] [] q) : attributeBase e f X.env (eval e X.env) = eval e X.env := by
  unfold attributeBase
  split
  · exact absurd rfl (hs _ _ _)
  · rfl

theorem getprop_G {k f g : Nat} {fd : FuncData} {ps : List Str} {p C A0 dx : Addr} {fs : List (Str × V)} {nm : Str} {pins : List (Addr × Obj)} {H : Hp} {s : Shared} {Q : VK} {ex : Bool} {ρ : List Addr} {h : Hea} {r : Nat}
    (I : L2.Inv X pins σ H s) (ea : H A0 = some (.ins C dx fs)) (cl : Cls X.K C) (hp : PropOf X.K C nm p (Z.ga.fn g)) (F : FnG X.prog X.w X.K X.mg X.base k (Z.ga.fn g) fd ps (spO Z.ga ps.length (Z.Φ g)))
    (hr : Room (k + 1) X.A) (hg : X.A.guards = some []) (hb : ∀ (s : Shared) (u : Value), BindsTo s fd ⟨[u], []⟩ (ps.zip [u])) (hl : ps.length = 1) (R : RelH Z.ga ρ h H) (er : ρ[r]? = some A0) (P : Post Z σ ρ H (noX (Z.Φ g [.ref r] h)) Q) :
    wpAny (model X.prog X.w) X.A (getAttr (.ref A0) nm ex) (EP X pins σ Q) X.xe s := by
  obtain ⟨mA, O, _⟩ := ins_get I.hok ea
  obtain ⟨od, J, _⟩ := O.look
  obtain ⟨rest, hrec⟩ := hp.rec_
  have I1 := I.tok (s.toks + 1)
  have hc : (PySem.W.clsIn X.K C).isSome = true := by
    obtain ⟨cd, hc, _⟩ := PySem.W.any_some cl.hd
    rw [hc] <;> rfl
  refine PySem.W.get_bind I.kIn J (PySem.W.plainGet_of (cl.get nm)).1 (PySem.W.findObj_data hc hp.at_ hp.get hp.tak) (PySem.W.plainGet_of (cl.get nm)).2 (wpAny_call (PySem.W.prop_get (s := { s with toks := s.toks + 1 }) I.kIn hrec ?_))
  have pc : spO Z.ga ps.length (Z.Φ g) [.ref A0] H Q fun _ _ _ => False := by
    refine ⟨ρ, h, [.ref r], R, ⟨_, _, rfl, ⟨A0, rfl, er⟩, rfl⟩, by rw [hl]; rfl, ?_⟩
    cases e : Z.Φ g [.ref r] h with
    | no => rw [e] at P; exact P
    | ok d h' => rw [e] at P; exact P
    | ex x h' => rw [e] at P; exact P.elim
  refine codeAny_mono (F.run X.A.in1 X.stack { s with toks := s.toks + 1 } H ⟨[.ref A0], []⟩ [.ref A0] [.ref A0] Q _ hr.in1 hg I1.env0.in1 (hb _ _) (.cons rfl .nil) pc) ?_
  intro res s' hq
  cases res with
  | error er =>
    obtain ⟨_, _, _, _, _, _, _, _, _, _, _, _, z⟩ := hq
    exact z.elim
  | ok fl =>
    cases fl with
    | ret u =>
      obtain ⟨v, H', I3, rv, q3⟩ := I1.after hq
      show wpAny _ _ (handedOut u) _ _ _
      rw [PySem.W.handedOut_of (handed_of rv)]
      exact wpAny_pure ⟨v, H', I3, rv, q3⟩
    | next => exact False.elim hq
    | brk => exact False.elim hq
    | cont => exact False.elim hq

/-- what the classes tell of the name f: a property, or a field's name -/
structure AttF (Z : Cn) (X : Cx) (k : Nat) (f : Str) : Prop where
  prop : ∀ c g, Z.G.prop c f = some g → Cls X.K (Z.ga.cls c) ∧ ∃ p fd ps, PropOf X.K (Z.ga.cls c) f p (Z.ga.fn g) ∧ FnG X.prog X.w X.K X.mg X.base k (Z.ga.fn g) fd ps (spO Z.ga ps.length (Z.Φ g)) ∧
    (∀ (s : Shared) (u : Value), BindsTo s fd ⟨[u], []⟩ (ps.zip [u])) ∧ ps.length = 1
  att : ∀ c, Z.G.att c f = true → Cls X.K (Z.ga.cls c) ∧ NoAttr X.K (Z.ga.cls c) f
theorem me_fld {k : Nat} {f : Str} (ha : PE X a (tEv Z ca)) (T : AttF Z X k f) (hr : Room (k + 1) X.A) (hg : X.A.guards = some []) (hb : attributeBase a f X.env (eval a X.env) = eval a X.env) : PE X (.Attribute a f pos) (tEv Z (.fld ca f)) := by
  refine ⟨fun pins s σ H Q I hq => ?_⟩
  obtain ⟨ρ, l, h, S, R, P⟩ := hq
  simp only [evE] at P
  have main : tEv Z ca σ H fun v H1 => ∃ r c fs A0 ρ' h', v = .ref A0 ∧ ρ'[r]? = some A0 ∧ h'[r]? = some (.ins c fs) ∧ RelH Z.ga ρ' h' H1 ∧ Post Z σ ρ' H1 (match Z.G.prop c f with
      | some g => noX (Z.Φ g [.ref r] h')
      | none => if Z.G.att c f then lift (lookF fs f) h' else .no) Q := by
    refine ev_seq S R P fun x h1 v1 H1 m1 X1 R1 S1 r1 P1 => ?_
    cases e : insAt h1 x with
    | none => rw [e] at P1; exact P1.elim
    | some q =>
      obtain ⟨r, c, fs⟩ := q
      rw [e] at P1
      obtain ⟨rfl, e2⟩ := insAt_some e
      obtain ⟨A0, rfl, e3⟩ := r1
      exact ⟨r, c, fs, A0, _, h1, rfl, e3, e2, R1, P1⟩
  refine attr_of hb (thn (ha.run pins s σ H _ I main) ?_)
  intro u s1 hq
  obtain ⟨v, H1, I1, rv, r, c, fs, A0, ρ', h', rfl, er, eh, R1, P1⟩ := hq
  obtain rfl : u = Value.ref A0 := rv
  obtain ⟨dx, gs, eH, fl⟩ := R1.ins eh er
  cases e : Z.G.prop c f with
  | some g =>
    rw [e] at P1
    obtain ⟨cl, p, fd, ps, hp, F, hbn, hl⟩ := T.prop c g e
    exact getprop_G (f := 0) I1 eH cl hp F hr hg hbn hl R1 er P1
  | none =>
    rw [e] at P1
    simp only at P1
    split at P1
    · next ht =>
      obtain ⟨cl, na⟩ := T.att c ht
      cases e2 : lookF fs f with
      | none => rw [e2] at P1; exact P1.elim
      | some d =>
        rw [e2] at P1
        obtain ⟨v, l1, r2⟩ := fl.look e2
        exact getattr_ok I1 eH cl na l1 fun u' s2 I2 ru => ⟨v, H1, I2, ru, P1.now R1 r2⟩
    · exact P1.elim

/-- what the classes tell of the method m, called with n values by place and the keywords ks -/
structure MetF (Z : Cn) (X : Cx) (k : Nat) (m : Str) (n : Nat) (ks : List Str) (sh : List (Sum Nat D)) : Prop where
  ok : ∀ c f, Z.G.meth c m = some f → Cls X.K (Z.ga.cls c) ∧ Meth X.K (Z.ga.cls c) m (Z.ga.fn f) ∧ ∃ fd ps, Def Z X k f fd ps ∧ KB Z.ga X.K fd ps (n + 1) ks sh
theorem me_meth {k : Nat} {m : Str} {apos : Pos} {args : List Expr} {kws : List Keyword} {cas cks : List CE} {ks : List Str} {sh : List (Sum Nat D)} (ha : PE X a (tEv Z ca)) (T : MetF Z X k m args.length ks sh) (hr : Room k X.A) (hg : X.A.guards = some []) (tk : Takes X Z.Wx)
    (hb : attributeBase a m X.env (eval a X.env) = eval a X.env) (hline : (apos.endLine == pos.line) = true) (hfew : args.length + kws.length < 20)
    (has : PA X args (tAv Z cas)) (hkw : PK X kws (tAv Z cks)) (hst : ∀ e ∈ args, ∀ z p, e ≠ .Starred z p) (hks : kws.map (·.arg) = ks.map some) (hkl : cks.length = ks.length) (hal : cas.length = args.length) :
    PE X (.Call (.Attribute a m apos) args kws pos) (tEv Z (.meth ca m (cas ++ cks) sh)) := by
  refine ⟨fun pins s σ H Q I hq => ?_⟩
  obtain ⟨ρ, l, h, S, R, P⟩ := hq
  simp only [evE] at P
  have main : tEv Z ca σ H fun v H1 => ∃ r c fs A0 f m1 h', v = .ref A0 ∧ (ρ ++ m1)[r]? = some A0 ∧ h'[r]? = some (.ins c fs) ∧ Z.G.meth c m = some f ∧ lookF fs m = none ∧ RelS Z.ga (ρ ++ m1) H1 l σ ∧ RelH Z.ga (ρ ++ m1) h' H1 ∧ Post Z σ (ρ ++ m1) H1 ((evEs Z.G Z.Φ (cas ++ cks) l h').bind fun ds h2 => match shape (.ref r :: ds) sh with
        | some vs => Z.Φ f vs h2
        | none => .no) Q := by
    refine ev_seq S R P fun x h1 v1 H1 m1 X1 R1 S1 r1 P1 => ?_
    cases e : insAt h1 x with
    | none => rw [e] at P1; exact P1.elim
    | some q =>
      obtain ⟨r, c, fs⟩ := q
      rw [e] at P1
      obtain ⟨rfl, e2⟩ := insAt_some e
      obtain ⟨A0, rfl, e3⟩ := r1
      cases e4 : Z.G.meth c m with
      | none => simp only [e4] at P1; exact P1.elim
      | some f =>
        cases e5 : lookF fs m with
        | some _ => simp only [e4, e5] at P1; exact P1.elim
        | none =>
          simp only [e4, e5] at P1
          exact ⟨r, c, fs, A0, f, m1, h1, rfl, e3, e2, e4, e5, S1, R1, P1⟩
  rw [PySem.arm_eval_Call, hb]
  refine wpAny_bind (thn (ha.run pins s σ H _ I main) ?_)
  intro u s1 hq
  obtain ⟨v, H1, I1, rv, r, c, fs, A0, f, m1, h', rfl, er, eh, e4, e5, S1, R1, P1⟩ := hq
  obtain rfl : u = Value.ref A0 := rv
  obtain ⟨dx, gs, eH, fl⟩ := R1.ins eh er
  obtain ⟨cl, mt, fd, ps, D, kb⟩ := T.ok c f e4
  refine wpAny_bind (wpAny_standAt ?_)
  have hform : methodCallForm (args.length + kws.length) (backTo pos (starEach args X.env)) (backToKw pos (keywordEach kws X.env)) = true := by
    unfold methodCallForm
    rw [(stars_ok (env := X.env) (pos := pos) args hst).2, (kws_ok (env := X.env) (pos := pos) kws ks hks).1]
    simp only [Bool.true_and, decide_eq_true_eq]
    split <;> omega
  rw [mcall_line hform hline]
  refine wpAny_bind (wpAny_holding (getmeth_ok I1 eH cl mt (fl.look0 e5) ?_))
  refine args_G (first := [.ref A0]) D.kp has hkw hst hks hkl hal I1 S1 R1 P1 ?_
  intro us ws vs xs s2 H2 h2 m2 l1 l2 I2 rv2 X2 R2 r2 P2
  cases e : shape (.ref r :: xs) sh with
  | none => rw [e] at P2; exact P2.elim
  | some es =>
    rw [e] at P2
    have er2 : (ρ ++ m1 ++ m2)[r]? = some A0 := by rw [List.getElem?_append_left (List.getElem?_eq_some_iff.mp er).1]; exact er
    exact run_G (us := .ref A0 :: us) (vs := .ref A0 :: vs) (ds := .ref r :: xs) D.ok hr hg kb tk I2 (.cons rfl rv2) (by rw [List.length_cons, l1]) l2 R2 ⟨_, _, rfl, ⟨A0, rfl, er2⟩, r2⟩ e P2
end
end Mi
end

section
set_option linter.all false
set_option Elab.async false
set_option maxHeartbeats 1000000
/-! MiMk: new instances; a staticmethod. -/
namespace Mi
open PySem PySem.Spec PyProof.Rows L2
theorem make_guards {A : Around} {C : Addr} {us : List Value} {kw : List (Str × Value)} : (A.under (.builtin "type.__call__" ⟨.ref C :: us, kw⟩)).guards = A.guards := by
  have e : (Code.builtin "type.__call__" ⟨.ref C :: us, kw⟩).guards = [] := by
    unfold Code.guards
    rw [if_neg]
    simp [Code.isGuard, guardIds]
  show pushGuards (Code.builtin "type.__call__" ⟨.ref C :: us, kw⟩).guards A.guards = A.guards
  rw [e]
  cases A.guards <;> rfl
section
variable {X : Cx} {Z : Cn} {pos : Pos} {a b c e : Expr} {ca cb cc : CE} {σ : L2.St}
theorem shape_len {ds : List D} : ∀ {sh : List (Sum Nat D)} {es : List D}, shape ds sh = some es → es.length = sh.length
  | [], es, e => by cases e; rfl
  | .inl i :: sh, es, e => by
    obtain ⟨d, _, e3⟩ := Option.bind_eq_some_iff.mp (show ((ds[i]?).bind fun d => (shape ds sh).map fun z => d :: z) = some es from e)
    obtain ⟨es', e4, rfl⟩ := Option.map_eq_some_iff.mp e3
    rw [List.length_cons, List.length_cons, shape_len e4]
  | .inr d :: sh, es, e => by
    obtain ⟨es', e4, rfl⟩ := Option.map_eq_some_iff.mp (show ((shape ds sh).map fun z => d :: z) = some es from e)
    rw [List.length_cons, List.length_cons, shape_len e4]
/-- a class of the text that is made by the def at ga.fn f -/
structure MkF (Z : Cn) (X : Cx) (k c f n : Nat) (ks : List Str) (sh : List (Sum Nat D)) : Prop where
  mkk : Mk X.K (Z.ga.cls c) (Z.ga.fn f)
  ok : ∃ fd ps, FnG X.prog X.w X.K X.mg X.base k (Z.ga.fn f) fd ps (spO Z.ga ps.length (Z.Φ f)) ∧ KB Z.ga X.K fd ps (n + 1) ks sh
theorem me_mk {k c f : Nat} {ks : List Str} {sh : List (Sum Nat D)} {x : Str} {p : Pos} {args : List Expr} {kws : List Keyword} {cas cks : List CE} (hi : Z.G.init c = some f)
    (T : MkF Z X k c f args.length ks sh) (hr : Room (k + 1) X.A) (hg : X.A.guards = some []) (tk : Takes X Z.Wx) (hgl : Gl X x) (hm : X.mg x = some (.ref (Z.ga.cls c))) (hdb : (x == ("__debug__" : Str)) = false)
    (ha : PA X args (tAv Z cas)) (hkw : PK X kws (tAv Z cks)) (hst : ∀ e ∈ args, ∀ z p, e ≠ .Starred z p) (hks : kws.map (·.arg) = ks.map some) (hkl : cks.length = ks.length) (hal : cas.length = args.length) :
    PE X (.Call (.Name x p) args kws pos) (tEv Z (.mk c (cas ++ cks) sh)) := by
  refine ⟨fun pins s σ H Q I hq => ?_⟩
  obtain ⟨ρ, l, h, S, R, P⟩ := hq
  simp only [evE, hi] at P
  refine wpAny_Call_Name_kw (ld_glob I hgl hm ?_ hdb)
  refine args_G (first := []) T.mkk.kp ha hkw hst hks hkl hal I S R P ?_
  intro us ws vs xs s1 H1 h1 m l1 l2 I1 rv X1 R1 r1 P1
  obtain ⟨fd, ps, F, kb⟩ := T.ok
  cases e : shape (.ref h1.length :: xs) sh with
  | none => simp only [e] at P1; exact P1.elim
  | some es =>
    simp only [e] at P1
    -- the new instance at x, its dict at dx
    have I2 := Inv.made (C := Z.ga.cls c) I1
    obtain ⟨y, hy⟩ : ∃ y, y = s1.heap.objs.size + 1 := ⟨_, rfl⟩
    obtain ⟨dy, hdy⟩ : ∃ dy, dy = s1.heap.objs.size := ⟨_, rfl⟩
    rw [← hy, ← hdy] at I2
    have n1 : H1 y = none := I1.hok.fresh (by rw [hy]; exact Nat.le_succ _)
    have n2 : H1 dy = none := I1.hok.fresh (by rw [hdy]; exact Nat.le_refl _)
    have ne : y ≠ dy := by rw [hy, hdy]; exact Nat.succ_ne_self _
    have n3 : upd H1 dy (.own y) y = none := by rw [upd_ne ne]; exact n1
    have X2 : Ext (ρ ++ m) H1 [] (upd H1 dy (.own y)) := Ext.laid n2
    have R2 : RelH Z.ga (ρ ++ m) h1 (upd H1 dy (.own y)) := R1.laid n2
    have X3 : Ext (ρ ++ m) (upd H1 dy (.own y)) [y] (upd (upd H1 dy (.own y)) y (.ins (Z.ga.cls c) dy [])) := Ext.new n3
    have R3 : RelH Z.ga (ρ ++ m ++ [y]) (h1 ++ [.ins c []]) (upd (upd H1 dy (.own y)) y (.ins (Z.ga.cls c) dy [])) := R2.new n3 ⟨dy, [], rfl, rfl⟩
    have e0 : (ρ ++ m) ++ [] = ρ ++ m := List.append_nil _
    have X23 : Ext (ρ ++ m) H1 [y] (upd (upd H1 dy (.own y)) y (.ins (Z.ga.cls c) dy [])) := by
      have := Ext.trans (m' := [y]) X2 (by rw [e0]; exact R2.nt) (by rw [e0]; exact X3)
      simpa using this
    have r3 := Reps.keep X23 R1.nt _ _ r1
    have ry : Rep Z.ga (ρ ++ m ++ [y]) (upd (upd H1 dy (.own y)) y (.ins (Z.ga.cls c) dy [])) (.ref h1.length) (.ref y) := ⟨y, rfl, by rw [← R1.len]; simp⟩
    have P2 := Post.to P1 X23 R3
    have kin : X.K.In (((s1.heap.push PySem.W.emptyDict).push (PySem.W.instObj (Z.ga.cls c) s1.heap.objs.size)) : Heap) := by
      have := I2.kIn
      rw [hdy] at this
      exact this
    obtain ⟨zs, sv, hb⟩ := kb.2 { s1 with heap := (s1.heap.push PySem.W.emptyDict).push (PySem.W.instObj (Z.ga.cls c) s1.heap.objs.size) } (.ref y :: us) ws kin (by rw [List.length_cons, l1]) l2
    obtain ⟨ys, y1, y2⟩ := ShV.ok (us := .ref y :: (us ++ ws)) (vs := .ref y :: vs) (ds := .ref h1.length :: xs) ⟨_, _, rfl, ry, r3⟩ (.cons rfl rv) sv e
    have pc : spO Z.ga ps.length (Z.Φ f) ys (upd (upd H1 dy (.own y)) y (.ins (Z.ga.cls c) dy [])) (fun v H2 => v = .non ∧ Q (.ref y) H2) (fun c d H' => Z.Wx c d σ H') := by
      refine ⟨_, _, es, R3, y2, by rw [shape_len e, kb.1], ?_⟩
      cases eφ : Z.Φ f es (h1 ++ [.ins c []]) with
      | no => rw [eφ] at P2; exact P2
      | ex x k => rw [eφ] at P2; exact fun H' m X R c d z => P2 H' m X R c d z
      | ok d h' =>
        rw [eφ, Out.bind_ok] at P2
        intro v H' m' X' R' r'
        cases d with
        | non => exact ⟨r', P2 (.ref y) H' m' X' R' (Rep.keep X' R3.nt _ _ ry)⟩
        | _ => exact P2.elim
    refine wpAny_call (make_map (f := Z.ga.fn f) I1.kIn T.mkk.makes T.mkk.init (beq_iff_eq.mp T.mkk.fn) (codeAny_mono (F.run _ X.stack _ _ ⟨.ref (s1.heap.objs.size + 1) :: us, ks.zip ws⟩ zs ys _ _ (hr.make _ us (ks.zip ws)) (by rw [make_guards]; exact hg) ?_ ?_ y1 pc) ?_))
    · have := I2.env0.make (Z.ga.cls c) us (ks.zip ws)
      rw [hdy] at this
      subst hy hdy
      exact this
    · subst hy; exact hb
    · intro res s' hq
      subst hy hdy
      cases res with
      | error er => exact tk _ _ (XE.of_call I2 (fun _ _ _ z => z) hq)
      | ok fl =>
        cases fl with
        | ret u =>
          obtain ⟨v, H', I3, rv3, ev, q3⟩ := I2.after hq
          subst ev
          exact ⟨rv3, ⟨V.ref (s1.heap.objs.size + 1), H', I3, rfl, q3⟩⟩
        | next => exact False.elim hq
        | brk => exact False.elim hq
        | cont => exact False.elim hq
/-- C.m(..), m a staticmethod of the class C -/
theorem me_static {k f : Nat} {C : Addr} {fd : FuncData} {ps ks : List Str} {sh : List (Sum Nat D)} {x m : Str} {p q apos : Pos} {args : List Expr} {kws : List Keyword} {cas cks : List CE} {wa : Addr}
    (F : Def Z X k f fd ps) (hr : Room k X.A) (hg : X.A.guards = some []) (kb : KB Z.ga X.K fd ps args.length ks sh) (tk : Takes X Z.Wx) (hgl : Gl X x) (hm : X.mg x = some (.ref C)) (hdb : (x == ("__debug__" : Str)) = false)
    (h1 : PySem.W.specialIn X.K (.ref C) "__getattribute__" = some (some (.builtin "type.__getattribute__"))) (h2 : PySem.W.readsIn X.K C (.type "type") = true)
    (h3 : PySem.W.findCls X.K (.ref C) (.type "type") m = some (.get (.builtin "staticmethod.__get__") (.ref wa) .none (.ref C))) (h4 : ∃ rest, PySem.W.recIn X.K wa "staticmethod" = some (.ref (Z.ga.fn f) :: rest))
    (hline : (apos.endLine == pos.line) = true) (hfew : args.length + kws.length < 20)
    (ha : PA X args (tAv Z cas)) (hkw : PK X kws (tAv Z cks)) (hst : ∀ e ∈ args, ∀ z p, e ≠ .Starred z p) (hks : kws.map (·.arg) = ks.map some) (hkl : cks.length = ks.length) (hal : cas.length = args.length) :
    PE X (.Call (.Attribute (.Name x p) m apos) args kws pos) (tEv Z (.callk f (cas ++ cks) sh)) := by
  refine ⟨fun pins s σ H Q I hq => ?_⟩
  obtain ⟨ρ, l, h, S, R, P⟩ := hq
  simp only [evE] at P
  have hform : methodCallForm (args.length + kws.length) (backTo pos (starEach args X.env)) (backToKw pos (keywordEach kws X.env)) = true := by
    unfold methodCallForm
    rw [(stars_ok (env := X.env) (pos := pos) args hst).2, (kws_ok (env := X.env) (pos := pos) kws ks hks).1]
    simp only [Bool.true_and, decide_eq_true_eq]
    split <;> omega
  rw [PySem.arm_eval_Call]
  refine wpAny_bind ?_
  show wpAny _ _ (eval (.Name x p) X.env) _ _ s
  refine ld_glob I hgl hm ?_ hdb
  refine wpAny_bind (wpAny_standAt ?_)
  rw [mcall_line hform hline]
  obtain ⟨rest, h4⟩ := h4
  refine wpAny_bind (wpAny_holding (PySem.W.method_cls I.kIn h1 (PySem.W.cls_bind I.kIn h2 h3 (wpAny_call (PySem.W.sm_get (s := { s with toks := s.toks + 1 }) I.kIn h4 (PySem.W.handed_on rfl ?_))))))
  refine args_G (first := []) F.kp ha hkw hst hks hkl hal (I.tok _) S R P ?_
  intro us ws vs xs s1 H1 h1 m l1 l2 I1 rv X1 R1 r1 P1
  cases e : shape xs sh with
  | none => rw [e] at P1; exact P1.elim
  | some es =>
    rw [e] at P1
    exact run_G F.ok hr hg kb tk I1 rv l1 l2 R1 r1 e P1
end
end Mi
end

section
set_option linter.all false
set_option Elab.async false
set_option maxHeartbeats 1000000
/-! MiBi: built-in functions and methods. -/
namespace Mi
open PySem PySem.Spec PyProof.Rows L2
section
variable {X : Cx} {Z : Cn} {pos : Pos} {a b c e : Expr} {ca cb cc : CE} {σ : L2.St}
def rF (Z : Cn) (σ : L2.St) (F : List D → Hea → Out D) : List V → Hp → VK → Prop := fun vs H Q => ∃ ρ h xs, RelH Z.ga ρ h H ∧ Reps Z.ga ρ H xs vs ∧ Post Z σ ρ H (F xs h) Q
theorem me_biB {id : String} {x : Str} {p : Pos} {k : BI} {cs : List CE} {ee : Expr} {es : List Expr} (hc : ∀ σ, CallR X (.builtin id) (rF Z σ (callX Z.G Z.Φ k))) (hg : Gl X x) (hm : X.mg x = none) (hv : bootBuiltins x = some (.builtin id)) (ha : PA X (ee :: es) (tAv Z cs))
    (hn : x ≠ "__name__") (hdb : (x == ("__debug__" : Str)) = false) (he : starEach (ee :: es) X.env = (false, eval ee X.env) :: starEach es X.env) (hpl : (backTo pos (starEach es X.env)).any (·.1) = false) : PE X (.Call (.Name x p) (ee :: es) [] pos) (tEv Z (.bi k cs)) := by
  refine ⟨fun pins s σ H Q I hq => (pe_callB (hc σ) hg hm hv ha hn hdb he hpl).run pins s σ H Q I ?_⟩
  obtain ⟨ρ, l, h, S, R, P⟩ := hq
  simp only [evE] at P
  exact ev_seqs S R P fun xs h1 vs H1 m1 X1 R1 S1 r1 _ P1 => ⟨_, h1, xs, R1, r1, P1⟩
theorem me_biT {T : String} {x : Str} {p : Pos} {k : BI} {cs : List CE} {ee : Expr} {es : List Expr} (hc : ∀ σ, CallR X (.type T) (rF Z σ (callX Z.G Z.Φ k))) (hg : Gl X x) (hm : X.mg x = none) (hv : bootBuiltins x = some (.type T)) (ha : PA X (ee :: es) (tAv Z cs))
    (hn : x ≠ "__name__") (hdb : (x == ("__debug__" : Str)) = false) (he : starEach (ee :: es) X.env = (false, eval ee X.env) :: starEach es X.env) (hpl : (backTo pos (starEach es X.env)).any (·.1) = false) : PE X (.Call (.Name x p) (ee :: es) [] pos) (tEv Z (.bi k cs)) := by
  refine ⟨fun pins s σ H Q I hq => (pe_callTy (hc σ) hg hm hv ha hn hdb he hpl).run pins s σ H Q I ?_⟩
  obtain ⟨ρ, l, h, S, R, P⟩ := hq
  simp only [evE] at P
  exact ev_seqs S R P fun xs h1 vs H1 m1 X1 R1 S1 r1 _ P1 => ⟨_, h1, xs, R1, r1, P1⟩
theorem Reps.one {ga : GA} {ρ : List Addr} {H : Hp} {d : D} {vs : List V} (r : Reps ga ρ H [d] vs) : ∃ v, vs = [v] ∧ Rep ga ρ H d v := by
  obtain ⟨v, t, e, r1, r2⟩ := r
  rw [show t = [] from r2] at e
  exact ⟨v, e, r1⟩
theorem Reps.two {ga : GA} {ρ : List Addr} {H : Hp} {d d' : D} {vs : List V} (r : Reps ga ρ H [d, d'] vs) : ∃ v w, vs = [v, w] ∧ Rep ga ρ H d v ∧ Rep ga ρ H d' w := by
  obtain ⟨v, t, e, r1, r2⟩ := r
  obtain ⟨w, rfl, r3⟩ := Reps.one r2
  exact ⟨v, w, e, r1, r3⟩
theorem lift_post {α : Type} {o : Option D} {h : Hea} {ρ : List Addr} {H : Hp} {Q : VK} (P : Post Z σ ρ H (lift o h) Q) : ∃ d, o = some d ∧ Post Z σ ρ H (.ok d h) Q := by
  cases o with
  | none => exact P.elim
  | some d => exact ⟨d, rfl, P⟩
theorem intsD_ok {ga : GA} {ρ : List Addr} {H : Hp} : ∀ {ds : List D} {vs : List V} {is : List Int}, Reps ga ρ H ds vs → intsD ds = some is → vs = is.map V.int
  | [], vs, is, r, e => by cases e; exact r
  | .int i :: ds, vs, is, r, e => by
    obtain ⟨v, t, rfl, r1, r2⟩ := r
    obtain ⟨js, e1, rfl⟩ := Option.map_eq_some_iff.mp (show (intsD ds).map (fun z => i :: z) = some is from e)
    rw [intsD_ok r2 e1, show v = .int i from r1] <;> rfl
  | .non :: _, _, _, _, e | .bl _ :: _, _, _, _, e | .str _ :: _, _, _, _, e | .tup _ :: _, _, _, _, e | .ref _ :: _, _, _, _, e | .fn _ :: _, _, _, _, e | .cls _ :: _, _, _, _, e | .ty _ :: _, _, _, _, e | .kd _ :: _, _, _, _, e => by cases e
theorem blsD_ok {ga : GA} {ρ : List Addr} {H : Hp} : ∀ {ds : List D} {vs : List V} {is : List Bool}, Reps ga ρ H ds vs → blsD ds = some is → vs = is.map V.bl
  | [], vs, is, r, e => by cases e; exact r
  | .bl i :: ds, vs, is, r, e => by
    obtain ⟨v, t, rfl, r1, r2⟩ := r
    obtain ⟨js, e1, rfl⟩ := Option.map_eq_some_iff.mp (show (blsD ds).map (fun z => i :: z) = some is from e)
    rw [blsD_ok r2 e1, show v = .bl i from r1] <;> rfl
  | .non :: _, _, _, _, e | .int _ :: _, _, _, _, e | .str _ :: _, _, _, _, e | .tup _ :: _, _, _, _, e | .ref _ :: _, _, _, _, e | .fn _ :: _, _, _, _, e | .cls _ :: _, _, _, _, e | .ty _ :: _, _, _, _, e | .kd _ :: _, _, _, _, e => by cases e
theorem strsD_ok {ga : GA} {ρ : List Addr} {H : Hp} : ∀ {ds : List D} {vs : List V} {is : List Str}, Reps ga ρ H ds vs → strsD ds = some is → vs = is.map V.str
  | [], vs, is, r, e => by cases e; exact r
  | .str i :: ds, vs, is, r, e => by
    obtain ⟨v, t, rfl, r1, r2⟩ := r
    obtain ⟨js, e1, rfl⟩ := Option.map_eq_some_iff.mp (show (strsD ds).map (fun z => i :: z) = some is from e)
    rw [strsD_ok r2 e1, show v = .str i from r1] <;> rfl
  | .non :: _, _, _, _, e | .int _ :: _, _, _, _, e | .bl _ :: _, _, _, _, e | .tup _ :: _, _, _, _, e | .ref _ :: _, _, _, _, e | .fn _ :: _, _, _, _, e | .cls _ :: _, _, _, _, e | .ty _ :: _, _, _, _, e | .kd _ :: _, _, _, _, e => by cases e
theorem listD_ok {ρ : List Addr} {H : Hp} {h : Hea} {x : D} {v : V} {ds : List D} (R : RelH Z.ga ρ h H) (r : Rep Z.ga ρ H x v) (e : listD h x = some ds) : ∃ a vs, v = .ref a ∧ SqL Z.ga.K H a vs ∧ Reps Z.ga ρ H ds vs := by
  cases x with
  | ref n =>
    obtain ⟨a, rfl, q⟩ := r
    obtain ⟨vs, z, rs⟩ := R.rd (show rdL h n = some ds from e) q
    exact ⟨a, vs, rfl, z, rs⟩
  | _ => cases e
theorem seqD_ok {ρ : List Addr} {H : Hp} {h : Hea} {x : D} {v : V} {ds : List D} (R : RelH Z.ga ρ h H) (r : Rep Z.ga ρ H x v) (e : seqD h x = some ds) : ∃ a vs, v = .ref a ∧ (SqL Z.ga.K H a vs ∨ (SqT Z.ga.K H a vs ∧ x = .tup ds)) ∧ Reps Z.ga ρ H ds vs := by
  cases x with
  | ref n =>
    obtain ⟨a, rfl, q⟩ := r
    obtain ⟨vs, z, rs⟩ := R.rd (show rdL h n = some ds from e) q
    exact ⟨a, vs, rfl, .inl z, rs⟩
  | tup es =>
    cases e
    obtain ⟨a, vs, rfl, z, rs⟩ := r
    exact ⟨a, vs, rfl, .inr ⟨z, rfl⟩, rs⟩
  | _ => cases e
theorem cb_abs : CallR X (.builtin "abs") (rF Z σ (callB Z.G .abs)) := by
  intro pins s σ' H vs us Q I rv ⟨ρ, h, xs, R, r, P⟩
  simp only [callB, fAbs] at P
  split at P
  · next i =>
    obtain ⟨v, rfl, r1⟩ := r.one
    exact call_abs pins s σ' H _ us Q I rv ⟨i, by rw [show v = .int i from r1], P.now R rfl⟩
  · exact P.elim
theorem cb_all (hK : X.K = Z.ga.K) (hc : X.calm = true) : CallR X (.builtin "all") (rF Z σ (callB Z.G .all)) := by
  intro pins s σ' H vs us Q I rv ⟨ρ, h, xs, R, r, P⟩
  simp only [callB, fAll] at P
  split at P
  · next x =>
    obtain ⟨v, rfl, r1⟩ := r.one
    obtain ⟨d, e, P2⟩ := lift_post (α := D) P
    obtain ⟨bs, e1, rfl⟩ := Option.map_eq_some_iff.mp e
    obtain ⟨ds, e2, e3⟩ := Option.bind_eq_some_iff.mp e1
    obtain ⟨a, ws, rfl, z, rs⟩ := listD_ok R r1 e2
    exact cr_all hc pins s σ' H _ us Q I rv ⟨a, bs, rfl, by rw [hK, ← blsD_ok rs e3]; exact z, P2.now R rfl⟩
  · exact P.elim
theorem cb_any (hK : X.K = Z.ga.K) (hc : X.calm = true) : CallR X (.builtin "any") (rF Z σ (callB Z.G .any)) := by
  intro pins s σ' H vs us Q I rv ⟨ρ, h, xs, R, r, P⟩
  simp only [callB, fAny] at P
  split at P
  · next x =>
    obtain ⟨v, rfl, r1⟩ := r.one
    obtain ⟨d, e, P2⟩ := lift_post (α := D) P
    obtain ⟨bs, e1, rfl⟩ := Option.map_eq_some_iff.mp e
    obtain ⟨ds, e2, e3⟩ := Option.bind_eq_some_iff.mp e1
    obtain ⟨a, ws, rfl, z, rs⟩ := listD_ok R r1 e2
    exact cr_any hc pins s σ' H _ us Q I rv ⟨a, bs, rfl, by rw [hK, ← blsD_ok rs e3]; exact z, P2.now R rfl⟩
  · exact P.elim
theorem cb_sum (hK : X.K = Z.ga.K) (hc : X.calm = true) : CallR X (.builtin "sum") (rF Z σ (callB Z.G .sum)) := by
  intro pins s σ' H vs us Q I rv ⟨ρ, h, xs, R, r, P⟩
  simp only [callB, fSum] at P
  split at P
  · next x =>
    obtain ⟨v, rfl, r1⟩ := r.one
    obtain ⟨d, e, P2⟩ := lift_post (α := D) P
    obtain ⟨bs, e1, rfl⟩ := Option.map_eq_some_iff.mp e
    obtain ⟨ds, e2, e3⟩ := Option.bind_eq_some_iff.mp e1
    obtain ⟨a, ws, rfl, z, rs⟩ := listD_ok R r1 e2
    exact cr_sum hc pins s σ' H _ us Q I rv ⟨a, bs, rfl, by rw [hK, ← intsD_ok rs e3]; exact z, P2.now R rfl⟩
  · exact P.elim
theorem cb_bool : CallR X (.type "bool") (rF Z σ (callB Z.G .bool)) := by
  intro pins s σ' H vs us Q I rv ⟨ρ, h, xs, R, r, P⟩
  simp only [callB, fBool] at P
  split at P
  · next i =>
    obtain ⟨v, rfl, r1⟩ := r.one
    exact call_bool1 pins s σ' H _ us Q I rv (.inl ⟨i, by rw [show v = .int i from r1], P.now R rfl⟩)
  · next b =>
    obtain ⟨v, rfl, r1⟩ := r.one
    exact call_bool1 pins s σ' H _ us Q I rv (.inr ⟨b, by rw [show v = .bl b from r1], P.now R rfl⟩)
  · exact P.elim
theorem cb_divmod : CallR X (.builtin "divmod") (rF Z σ (callB Z.G .divmod)) := by
  intro pins s σ' H vs us Q I rv ⟨ρ, h, xs, R, r, P⟩
  simp only [callB, fDivmod] at P
  split at P
  · next i j =>
    split at P
    · next hl =>
      simp only [Bool.and_eq_true, decide_eq_true_eq] at hl
      obtain ⟨v, w, rfl, r1, r2⟩ := r.two
      exact call_divmod pins s σ' H _ us Q I rv ⟨i, j, by rw [show v = .int i from r1, show w = .int j from r2], hl, fun p hp => P.newT R ⟨_, _, rfl, rfl, _, _, rfl, rfl, rfl⟩ hp⟩
    · exact P.elim
  · exact P.elim
theorem cb_int : CallR X (.type "int") (rF Z σ (callB Z.G .int)) := by
  intro pins s σ' H vs us Q I rv ⟨ρ, h, xs, R, r, P⟩
  simp only [callB, fInt] at P
  split at P
  · next i =>
    obtain ⟨v, rfl, r1⟩ := r.one
    exact call_int1 pins s σ' H _ us Q I rv (.inl ⟨i, by rw [show v = .int i from r1], P.now R rfl⟩)
  · next b =>
    obtain ⟨v, rfl, r1⟩ := r.one
    exact call_int1 pins s σ' H _ us Q I rv (.inr ⟨b, by rw [show v = .bl b from r1], P.now R rfl⟩)
  · next x =>
    obtain ⟨v, rfl, r1⟩ := r.one
    split at P
    · next hl =>
      obtain ⟨d, e, P2⟩ := lift_post (α := D) P
      obtain ⟨n, e1, rfl⟩ := Option.map_eq_some_iff.mp e
      exact call_int_str pins s σ' H _ us Q I rv ⟨x, n, by rw [show v = .str x from r1], e1, hl, P2.now R rfl⟩
    · exact P.elim
  · exact P.elim
theorem cb_list (hK : X.K = Z.ga.K) : CallR X (.type "list") (rF Z σ (callB Z.G .list)) := by
  intro pins s σ' H vs us Q I rv ⟨ρ, h, xs, R, r, P⟩
  simp only [callB, fList] at P
  split at P
  · next x =>
    obtain ⟨v, rfl, r1⟩ := r.one
    split at P
    · next ds e =>
      obtain ⟨a, ws, rfl, z, rs⟩ := seqD_ok R r1 e
      exact call_list_of pins s σ' H _ us Q I rv ⟨a, ws, rfl, by rw [hK]; exact z.imp id And.left, fun l hl => P.newL R rs hl⟩
    · exact P.elim
  · exact P.elim
theorem cb_tuple (hK : X.K = Z.ga.K) : CallR X (.type "tuple") (rF Z σ (callB Z.G .tuple)) := by
  intro pins s σ' H vs us Q I rv ⟨ρ, h, xs, R, r, P⟩
  simp only [callB, fTuple] at P
  split at P
  · next x =>
    obtain ⟨v, rfl, r1⟩ := r.one
    obtain ⟨d, e, P2⟩ := lift_post (α := D) P
    obtain ⟨ds, e1, rfl⟩ := Option.map_eq_some_iff.mp e
    obtain ⟨a, ws, rfl, z, rs⟩ := seqD_ok R r1 e1
    refine call_tuple_of pins s σ' H _ us Q I rv ⟨a, ws, rfl, ?_⟩
    rcases z with z | ⟨z, ez⟩
    · exact .inl ⟨by rw [hK]; exact z, fun l hl => P2.newT R rs hl⟩
    · subst ez
      exact .inr ⟨by rw [hK]; exact z, P2.now R r1⟩
  · exact P.elim
theorem cb_len (hK : X.K = Z.ga.K) : CallR X (.builtin "len") (rF Z σ (callB Z.G .len)) := by
  intro pins s σ' H vs us Q I rv ⟨ρ, h, xs, R, r, P⟩
  simp only [callB, fLen] at P
  split at P
  · next x =>
    obtain ⟨v, rfl, r1⟩ := r.one
    obtain ⟨d, e, P2⟩ := lift_post (α := D) P
    obtain ⟨n, e1, rfl⟩ := Option.map_eq_some_iff.mp e
    cases x with
    | tup ds =>
      cases e1
      obtain ⟨a, ws, rfl, z, rs⟩ := r1
      exact call_len_seq pins s σ' H _ us Q I rv ⟨a, ws, rfl, .inr (by rw [hK]; exact z), by rw [← rs.len]; exact P2.now R rfl⟩
    | str x =>
      have e2 : (if x.length ≤ SZ then some (x.length : Int) else none) = some n := e1
      split at e2
      · next hl =>
        cases e2
        exact call_len_str pins s σ' H _ us Q I rv ⟨x, by rw [show v = .str x from r1], by rw [← sz_eq]; exact hl, P2.now R rfl⟩
      · cases e2
    | ref q =>
      have key : ∀ ds : List D, rdL h q = some ds → (ds.length : Int) = n → wpAny (model X.prog X.w) X.A (call (.builtin "len") us) (EP X pins σ' Q) X.xe s := by
        intro ds er en
        obtain ⟨a, rfl, ea⟩ := r1
        obtain ⟨ws, z, rs⟩ := R.rd er ea
        exact call_len_seq pins s σ' H _ us Q I rv ⟨a, ws, rfl, .inl (by rw [hK]; exact z), by rw [← rs.len, en]; exact P2.now R rfl⟩
      have e2 : (match h[q]? with
        | some (.lst ds) => some (ds.length : Int)
        | some (.frz ds) => some (ds.length : Int)
        | _ => none) = some n := e1
      split at e2
      · next ds eh => cases e2; exact key ds (by unfold rdL; rw [eh]) rfl
      · next ds eh => cases e2; exact key ds (by unfold rdL; rw [eh]) rfl
      · cases e2
    | _ => cases e1
  · exact P.elim
theorem maxI_ok : ∀ {is : List Int} {m : Int}, maxI is = some m → 0 < is.length ∧ m ∈ is ∧ ∀ y ∈ is, y ≤ m
  | [], _, e => by cases e
  | [i], m, e => by cases e; exact ⟨by simp, by simp, fun y hy => by simp at hy; omega⟩
  | i :: j :: r, m, e => by
    obtain ⟨k, e1, rfl⟩ := Option.map_eq_some_iff.mp (show (maxI (j :: r)).map (fun m => if m > i then m else i) = some m from e)
    obtain ⟨h1, h2, h3⟩ := maxI_ok e1
    refine ⟨by simp, ?_, fun y hy => ?_⟩
    · split
      · exact List.mem_cons_of_mem _ h2
      · exact List.mem_cons_self
    · rcases List.mem_cons.mp hy with rfl | hy
      · split <;> omega
      · have := h3 y hy
        split <;> omega
theorem minI_ok : ∀ {is : List Int} {m : Int}, minI is = some m → 0 < is.length ∧ m ∈ is ∧ ∀ y ∈ is, m ≤ y
  | [], _, e => by cases e
  | [i], m, e => by cases e; exact ⟨by simp, by simp, fun y hy => by simp at hy; omega⟩
  | i :: j :: r, m, e => by
    obtain ⟨k, e1, rfl⟩ := Option.map_eq_some_iff.mp (show (minI (j :: r)).map (fun m => if m < i then m else i) = some m from e)
    obtain ⟨h1, h2, h3⟩ := minI_ok e1
    refine ⟨by simp, ?_, fun y hy => ?_⟩
    · split
      · exact List.mem_cons_of_mem _ h2
      · exact List.mem_cons_self
    · rcases List.mem_cons.mp hy with rfl | hy
      · split <;> omega
      · have := h3 y hy
        split <;> omega
theorem cb_max (hK : X.K = Z.ga.K) (hc : X.calm = true) : CallR X (.builtin "max") (rF Z σ (callB Z.G .max)) := by
  intro pins s σ' H vs us Q I rv ⟨ρ, h, xs, R, r, P⟩
  simp only [callB, fMax] at P
  split at P
  · next i j =>
    obtain ⟨v, w, rfl, r1, r2⟩ := r.two
    exact call_max2 hc pins s σ' H _ us Q I rv ⟨i, j, by rw [show v = .int i from r1, show w = .int j from r2], P.now R rfl⟩
  · next x =>
    obtain ⟨v, rfl, r1⟩ := r.one
    obtain ⟨d, e, P2⟩ := lift_post (α := D) P
    obtain ⟨n, e1, rfl⟩ := Option.map_eq_some_iff.mp e
    obtain ⟨is, e2, e3⟩ := Option.bind_eq_some_iff.mp e1
    obtain ⟨ds, e4, e5⟩ := Option.bind_eq_some_iff.mp e2
    obtain ⟨a, ws, rfl, z, rs⟩ := listD_ok R r1 e4
    obtain ⟨h1, h2, h3⟩ := maxI_ok e3
    refine cr_max hc pins s σ' H _ us Q I rv ⟨a, is, rfl, by rw [hK, ← intsD_ok rs e5]; exact z, h1, fun m hm hle => ?_⟩
    have : m = n := by have a1 := hle n h2; have a2 := h3 m hm; omega
    rw [this]
    exact P2.now R rfl
  · exact P.elim
theorem cb_min (hK : X.K = Z.ga.K) (hc : X.calm = true) : CallR X (.builtin "min") (rF Z σ (callB Z.G .min)) := by
  intro pins s σ' H vs us Q I rv ⟨ρ, h, xs, R, r, P⟩
  simp only [callB, fMin] at P
  split at P
  · next i j =>
    obtain ⟨v, w, rfl, r1, r2⟩ := r.two
    exact call_min2 hc pins s σ' H _ us Q I rv ⟨i, j, by rw [show v = .int i from r1, show w = .int j from r2], P.now R rfl⟩
  · next x =>
    obtain ⟨v, rfl, r1⟩ := r.one
    obtain ⟨d, e, P2⟩ := lift_post (α := D) P
    obtain ⟨n, e1, rfl⟩ := Option.map_eq_some_iff.mp e
    obtain ⟨is, e2, e3⟩ := Option.bind_eq_some_iff.mp e1
    obtain ⟨ds, e4, e5⟩ := Option.bind_eq_some_iff.mp e2
    obtain ⟨a, ws, rfl, z, rs⟩ := listD_ok R r1 e4
    obtain ⟨h1, h2, h3⟩ := minI_ok e3
    refine cr_min hc pins s σ' H _ us Q I rv ⟨a, is, rfl, by rw [hK, ← intsD_ok rs e5]; exact z, h1, fun m hm hle => ?_⟩
    have : m = n := by have a1 := hle n h2; have a2 := h3 m hm; omega
    rw [this]
    exact P2.now R rfl
  · exact P.elim
theorem cb_str : CallR X (.type "str") (rF Z σ (callB Z.G .str)) := by
  intro pins s σ' H vs us Q I rv ⟨ρ, h, xs, R, r, P⟩
  simp only [callB, fStr] at P
  split at P
  · next i =>
    obtain ⟨v, rfl, r1⟩ := r.one
    split at P
    · next hl => exact call_str_int pins s σ' H _ us Q I rv ⟨i, by rw [show v = .int i from r1], of_decide_eq_true hl, P.now R rfl⟩
    · exact P.elim
  · exact P.elim
end
end Mi
end

section
set_option linter.all false
set_option Elab.async false
set_option maxHeartbeats 1000000
/-! MiCv: the call of a def that a name of one's own holds; list(range(..)). -/
namespace Mi
open PySem PySem.Spec PyProof.Rows L2
section
variable {X : Cx} {Z : Cn} {pos : Pos} {σ : L2.St}
/-- all defs, called with n values by place in their order -/
structure VarF (Z : Cn) (X : Cx) (k n : Nat) (ok : Nat → Bool) : Prop where
  ex : ∀ f, ok f = true → ∃ fd ps, Def Z X k f fd ps ∧ KB Z.ga X.K fd ps n [] ((List.range n).map Sum.inl)
theorem shape_id : ∀ {ds : List D}, shape ds ((List.range ds.length).map Sum.inl) = some ds := by
  have gen : ∀ (pre ds : List D), shape (pre ++ ds) ((List.range' pre.length ds.length).map Sum.inl) = some ds := by
    intro pre ds
    induction ds generalizing pre with
    | nil => rfl
    | cons d ds ih =>
      have e : pre ++ d :: ds = (pre ++ [d]) ++ ds := by simp
      have i := ih (pre ++ [d])
      rw [List.length_cons, List.range'_succ, List.map_cons]
      show (((pre ++ d :: ds)[pre.length]?).bind fun x => (shape (pre ++ d :: ds) _).map fun z => x :: z) = _
      rw [e]
      rw [List.length_append] at i
      rw [show pre.length + 1 = pre.length + [d].length from rfl, i]
      simp
  intro ds
  have := gen [] ds
  rw [List.range_eq_range']
  simpa using this
theorem me_callv {k i : Nat} {x : Str} {p : Pos} {args : List Expr} {cas : List CE} {ok : Nat → Bool} (F : VarF Z X k args.length ok) (hr : Room k X.A) (hg : X.A.guards = some []) (tk : Takes X Z.Wx) (hv : PE X (.Name x p) (tVar i))
    (ha : PA X args (tAv Z cas)) (hst : ∀ e ∈ args, ∀ z p, e ≠ .Starred z p) (hal : cas.length = args.length) : PE X (.Call (.Name x p) args [] pos) (tEv Z (.callv i ok cas)) := by
  refine ⟨fun pins s σ H Q I hq => ?_⟩
  obtain ⟨ρ, l, h, S, R, P⟩ := hq
  simp only [evE] at P
  cases e0 : l[i]? with
  | none => rw [e0] at P; exact P.elim
  | some o =>
    cases o with
    | none => rw [e0] at P; exact P.elim
    | some d =>
      rw [e0] at P
      cases d with
      | fn f =>
        simp only at P
        split at P
        · next hok =>
          obtain ⟨v, ev, rv⟩ := S.at_ i _ e0
          obtain rfl : v = .ref (Z.ga.fn f) := rv
          obtain ⟨fd, ps, D, kb⟩ := F.ex f hok
          refine wpAny_Call_Name_kw (thn (hv.run pins s σ H (fun v' H' => v' = .ref (Z.ga.fn f) ∧ H' = H) I ⟨_, ev, rfl, rfl⟩) fun u s1 ⟨v', H', I1, ru, ev', eH⟩ => ?_)
          subst ev' eH
          obtain rfl : u = Value.ref (Z.ga.fn f) := ru
          refine args_G (cks := []) (ks := []) (kws := []) (first := []) (f := Z.Φ f) D.kp ha mk_nil hst rfl rfl hal I1 S R (by rw [List.append_nil]; exact P) ?_
          intro us ws vs xs s2 H2 h2 m l1 l2 I2 rv2 X2 R2 r2 P2
          have lx : xs.length = args.length := by
            rw [r2.len, rv2.length, List.length_append, l1, l2]
            rfl
          exact run_G (sh := (List.range args.length).map Sum.inl) D.ok hr hg kb tk I2 rv2 l1 l2 R2 r2 (by rw [← lx]; exact shape_id) P2
        · exact P.elim
      | _ => exact P.elim
/-! ### list(range(..)) -/
def rLr : List V → Hp → VK → Prop := fun vs H Q => ∃ a lo hi, vs = [.ref a] ∧ H a = some (.rng lo hi) ∧ (smallR lo = true ∧ smallR hi = true) ∧ (hi - lo).toNat ≤ SZ ∧ ∀ p, H p = none → Q (.ref p) (upd H p (.lst ((List.range (hi - lo).toNat).map fun (i : Nat) => V.int (lo + (i : Int) * 1))))
theorem vals_of {f : Nat → V} : ∀ {n : Nat} {us : List Value}, us.length = n → (∀ j v, us[j]? = some v → RelV (f j) v) → Vals ((List.range n).map f) us := by
  intro n us
  induction us generalizing n f with
  | nil =>
    intro h _
    subst h
    exact .nil
  | cons u us ih =>
    intro h k
    subst h
    rw [List.length_cons, List.range_succ_eq_map, List.map_cons, List.map_map]
    exact .cons (k 0 u rfl) (ih rfl fun j v e => k (j + 1) v e)
theorem smallR_ok' {i : Int} (h : smallR i = true) : -(2 ^ 62) ≤ i ∧ i < 2 ^ 62 := by
  unfold smallR at h
  rw [Bool.and_eq_true, decide_eq_true_eq, decide_eq_true_eq] at h
  exact h
theorem cr_lr (hc : X.calm = true) : CallR X (.type "list") rLr := by
  intro pins s σ' H vs us Q I rv ⟨a, lo, hi, e, ha, ⟨s1, s2⟩, hz, q⟩
  subst e
  obtain ⟨u, rfl, ru⟩ := vals1 rv
  obtain rfl : u = Value.ref a := ru
  obtain ⟨t, u, v, hr⟩ := (show ∃ t u v, s.heap.get? a = some { cls := .type "range", data := .fields #[.int lo t, .int hi u, .int 1 v] } from I.hok a _ ha)
  obtain ⟨b1, b2⟩ := smallR_ok' s1
  obtain ⟨b3, b4⟩ := smallR_ok' s2
  refine PySem.call_list_range (I.ok.hd hc) hr (small_one b1 b2 b3 b4) (PyProof.Rows.rangeSize_nat lo hi) (Nat.le_trans hz (by decide)) fun h' tk acc n' keep at_ its => ?_
  refine ⟨.ref _, upd H s.heap.objs.size (.lst _), I.laid (t' := tk) keep (Nat.le_refl _) ⟨?_, acc.toList, n', vals_of (f := fun (i : Nat) => V.int (lo + (i : Int) * 1)) (by simpa using its.1) (fun j v e => its.2 j v (by simpa using e)), by simpa using at_⟩, rfl, q _ (I.hok.fresh (Nat.le_refl _))⟩
  rw [List.length_map, List.length_range, ← sz_eq]
  exact hz
theorem reps_ints {ga : GA} {ρ : List Addr} {H : Hp} (f : Nat → Int) : ∀ l : List Nat, Reps ga ρ H (l.map fun i => D.int (f i)) (l.map fun i => V.int (f i))
  | [] => rfl
  | i :: l => ⟨.int (f i), _, rfl, rfl, reps_ints f l⟩
theorem me_lrng {a b : Expr} {ca cb : CE} {p1 p2 pos2 : Pos} (hc : X.calm = true) (hgl : Gl X "list") (hml : X.mg "list" = none) (hgr : Gl X "range") (hmr : X.mg "range" = none) (ha : PA X [a, b] (tAv Z [ca, cb])) (hs : starEach [a, b] X.env = (false, eval a X.env) :: starEach [b] X.env) (hp : (backTo pos2 (starEach [b] X.env)).any (·.1) = false) :
    PE X (.Call (.Name "list" p1) [.Call (.Name "range" p2) [a, b] [] pos2] [] pos) (tEv Z (.lrng [ca, cb])) := by
  have e1 : PE X (.Call (.Name "range" p2) [a, b] [] pos2) _ := pe_callTy (T := "range") cr_range2 hgr hmr boot_range ha (by decide) (by decide) hs hp
  refine PE.imp (pe_callTy (T := "list") (cr_lr hc) hgl hml PySem.Pv.boot_list (pa_cons e1 pa_nil rfl) (by decide) (by decide) rfl rfl) fun σ H Q ⟨ρ, l, h, S, R, P⟩ => ?_
  simp only [evE] at P
  show tAv Z [ca, cb] σ H _
  refine ev_seqs S R P fun xs h1 vs H1 m X1 R1 S1 r1 _ P1 => ?_
  split at P1
  · next i j _ =>
    split at P1
    · next hc2 =>
      rw [Bool.and_eq_true, Bool.and_eq_true, decide_eq_true_eq] at hc2
      obtain ⟨v, w, rfl, q1, q2⟩ := r1.two
      refine ⟨i, j, by rw [show v = .int i from q1, show w = .int j from q2], fun p0 hn => ?_⟩
      have R2 := R1.laid (o := .rng i j) hn
      have X2 : Ext (ρ ++ m) H1 [] (upd H1 p0 (.rng i j)) := Ext.laid hn
      have en : (ρ ++ m) ++ [] = ρ ++ m := List.append_nil _
      have P2 := P1.to (h1 := h1) X2 (by rw [en]; exact R2)
      rw [en] at P2
      exact ⟨p0, i, j, rfl, upd_same, hc2.1, hc2.2, fun p1 hn1 => P2.newL R2 (reps_ints (fun k => i + (k : Int) * 1) _) hn1⟩
    · exact P1.elim
  · exact P1.elim
end
end Mi
end

section
set_option linter.all false
set_option Elab.async false
set_option maxHeartbeats 1000000
/-! MiBm: methods of lists and texts; f-strings. -/
namespace Mi
open PySem PySem.Spec PyProof.Rows L2
section
variable {X : Cx} {Z : Cn} {pos : Pos} {a b c e o : Expr} {ca cb cc : CE} {σ : L2.St} {apos cpos : Pos}
theorem Ext.set' {ρ : List Addr} {H : Hp} {a : Addr} {o : HO} {n : Nat} (ha : ρ[n]? = some a) : Ext ρ H [] (upd H a o) := Ext.set (List.mem_of_getElem? ha)
/-- a list of ours is changed -/
theorem Post.setL {ρ : List Addr} {H : Hp} {h : Hea} {Q : VK} {n : Nat} {a : Addr} {ds : List D} {vs : List V} {d : D} {v : V} (P : Post Z σ ρ H (.ok d (h.set n (.lst ds))) Q) (R : RelH Z.ga ρ h H) (ha : ρ[n]? = some a) (rs : Reps Z.ga ρ H ds vs) (r : Rep Z.ga ρ H d v) : Q v (upd H a (.lst vs)) := by
  have X : Ext ρ H [] (upd H a (.lst vs)) := Ext.set' ha
  have k1 := Reps.keep X R.nt _ _ rs
  have k2 := Rep.keep X R.nt _ _ r
  have e : ρ ++ [] = ρ := List.append_nil ρ
  rw [e] at k1 k2
  exact P _ _ [] X (by rw [e]; exact R.set ha ⟨vs, rfl, k1⟩) (by rw [e]; exact k2)
def rM (Z : Cn) (σ : L2.St) (F : D → List D → Hea → Out D) : V → List V → Hp → VK → Prop := fun vx vs H Q => ∃ ρ h x xs, RelH Z.ga ρ h H ∧ Rep Z.ga ρ H x vx ∧ Reps Z.ga ρ H xs vs ∧ Post Z σ ρ H (F x xs h) Q
theorem me_bm {m : BM} {T id : String} {nm : Str} {ee : Expr} {es : List Expr} {cs : List CE} (pa : PlainAttrs T) (slot : Slot T nm id) (hty : typeOf (.builtin id) = pure (.type "method_descriptor")) (hm : ∀ σ, MtR X id (rM Z σ (callM m)))
    (hrec : ∀ ρ h H x v, RelH Z.ga ρ h H → Rep Z.ga ρ H x v → recv m x h = true → tyV X.K T v H) (ho : PE X o (tEv Z ca)) (ha : PA X (ee :: es) (tAv Z cs)) (hbase : attributeBase o nm X.env (eval o X.env) = eval o X.env)
    (hline : (apos.endLine == cpos.line) = true) (hst : ∀ e ∈ ee :: es, ∀ z p, e ≠ .Starred z p) (hl : es.length < 20) : PE X (.Call (.Attribute o nm apos) (ee :: es) [] cpos) (tEv Z (.bm m ca cs)) := by
  have hs : starEach (ee :: es) X.env = (false, eval ee X.env) :: starEach es X.env := by
    have := hst ee List.mem_cons_self
    cases ee <;> first
      | rfl
      | exact absurd rfl (this _ _)
  have hp : (backTo cpos (starEach es X.env)).any (·.1) = false := (stars_ok (env := X.env) (pos := cpos) es fun z hz => hst z (List.mem_cons_of_mem _ hz)).1
  have hfew : ((backTo cpos (starEach (ee :: es) X.env)).all (fun x => !x.1) && (backToKw cpos (keywordEach [] X.env)).all (fun x => x.1.isSome)
      && decide ((ee :: es).length + ([] : List Keyword).length + (if ([] : List Keyword).isEmpty then 0 else 1) < 30)) = true := by
    rw [(stars_ok (env := X.env) (pos := cpos) (ee :: es) hst).2]
    simp [keywordEach, backToKw]
    omega
  refine ⟨fun pins s σ H Q I hq => (pe_bm pa slot hty (hm σ) ho ha hbase hfew hline hs hp).run pins s σ H Q I ?_⟩
  obtain ⟨ρ, l, h, S, R, P⟩ := hq
  simp only [evE] at P
  refine ev_seq S R P fun x h1 v1 H1 m1 X1 R1 S1 r1 P1 => ?_
  split at P1
  · next hr =>
    refine ⟨hrec _ _ _ _ _ R1 r1 hr, ev_seqs S1 R1 P1 fun xs h2 vs H2 m2 X2 R2 S2 r2 _ P2 => ?_⟩
    exact ⟨_, h2, x, xs, R2, Rep.keep X2 R1.nt _ _ r1, r2, P2⟩
  · exact P1.elim
theorem me_bm0 {m : BM} {T id : String} {nm : Str} (pa : PlainAttrs T) (slot : Slot T nm id) (hty : typeOf (.builtin id) = pure (.type "method_descriptor")) (hm : ∀ σ, MtR X id (rM Z σ (callM m)))
    (hrec : ∀ ρ h H x v, RelH Z.ga ρ h H → Rep Z.ga ρ H x v → recv m x h = true → tyV X.K T v H) (ho : PE X o (tEv Z ca)) (hbase : attributeBase o nm X.env (eval o X.env) = eval o X.env)
    (hline : (apos.endLine == cpos.line) = true) : PE X (.Call (.Attribute o nm apos) [] [] cpos) (tEv Z (.bm m ca [])) := by
  refine ⟨fun pins s σ H Q I hq => (pe_bm0 pa slot hty (hm σ) ho hbase hline).run pins s σ H Q I ?_⟩
  obtain ⟨ρ, l, h, S, R, P⟩ := hq
  simp only [evE, evEs, Out.bind_ok] at P
  refine ev_seq S R P fun x h1 v1 H1 m1 X1 R1 S1 r1 P1 => ?_
  split at P1
  · next hr => exact ⟨hrec _ _ _ _ _ R1 r1 hr, _, h1, x, [], R1, r1, rfl, P1⟩
  · exact P1.elim
theorem rec_list (hK : X.K = Z.ga.K) (ρ : List Addr) (h : Hea) (H : Hp) (x : D) (v : V) (R : RelH Z.ga ρ h H) (r : Rep Z.ga ρ H x v) (e : (listD h x).isSome = true) : tyV X.K "list" v H := by
  obtain ⟨ds, e1⟩ := Option.isSome_iff_exists.mp e
  obtain ⟨a, vs, rfl, z, _⟩ := listD_ok R r e1
  exact .inl ⟨rfl, vs, by rw [hK]; exact z⟩
theorem rec_str (ρ : List Addr) (h : Hea) (H : Hp) (x : D) (v : V) (R : RelH Z.ga ρ h H) (r : Rep Z.ga ρ H x v) (e : recv .join x h = true) : tyV X.K "str" v H := by
  cases x with
  | str x => rw [show v = .str x from r]; exact rfl
  | _ => cases e
theorem cm_append : MtR X "list.append" (rM Z σ (callM .append)) := by
  intro pins s σ' H vx vs v us Q I rx rv ⟨ρ, h, x, xs, R, r1, r2, P⟩
  simp only [callM, gAppend] at P
  split at P
  · next n d =>
    obtain ⟨w, rfl, r3⟩ := r2.one
    obtain ⟨p, rfl, ea⟩ := r1
    split at P
    · next ds e =>
      split at P
      · next hl =>
        obtain ⟨ws, z, rs⟩ := R.list e ea
        exact mt_append pins s σ' H _ _ v us Q I rx rv ⟨p, ws, w, rfl, rfl, z, by rw [← sz_eq, ← rs.len]; exact hl, P.setL R ea (rs.append ⟨w, [], rfl, r3, rfl⟩) rfl⟩
      · exact P.elim
    · exact P.elim
  · exact P.elim
theorem cm_extend : MtR X "list.extend" (rM Z σ (callM .extend)) := by
  intro pins s σ' H vx vs v us Q I rx rv ⟨ρ, h, x, xs, R, r1, r2, P⟩
  simp only [callM, gExtend] at P
  split at P
  · next n m =>
    obtain ⟨w, rfl, r3⟩ := r2.one
    obtain ⟨p, rfl, ea⟩ := r1
    obtain ⟨q, rfl, eb⟩ := r3
    split at P
    · next ds e =>
      split at P
      · next es e2 =>
        split at P
        · next hl =>
          obtain ⟨ws, z, rs⟩ := R.list e ea
          obtain ⟨ys, z2, rs2⟩ := R.list e2 eb
          exact mt_extend pins s σ' H _ _ v us Q I rx rv ⟨p, q, ws, ys, rfl, rfl, z, z2, by rw [← sz_eq, ← rs.len, ← rs2.len]; exact hl, P.setL R ea (rs.append rs2) rfl⟩
        · exact P.elim
      · exact P.elim
    · exact P.elim
  · exact P.elim
theorem Reps.dropLast {ga : GA} {ρ : List Addr} {H : Hp} {ds : List D} {vs : List V} (r : Reps ga ρ H ds vs) : Reps ga ρ H ds.dropLast vs.dropLast := by
  rw [List.dropLast_eq_take, List.dropLast_eq_take, r.len]
  exact Reps.take _ r
theorem cm_pop : MtR X "list.pop" (rM Z σ (callM .pop)) := by
  intro pins s σ' H vx vs v us Q I rx rv ⟨ρ, h, x, xs, R, r1, r2, P⟩
  simp only [callM, gPop] at P
  split at P
  · next n =>
    obtain ⟨p, rfl, ea⟩ := r1
    obtain rfl : vs = [] := r2
    split at P
    · next ds e =>
      split at P
      · next d e2 =>
        obtain ⟨ws, z, rs⟩ := R.list e ea
        obtain ⟨y, e3, r3⟩ := rs.get e2
        exact mt_pop pins s σ' H _ _ v us Q I rx rv ⟨p, ws, y, rfl, rfl, z, by rw [← rs.len]; exact e3, P.setL R ea rs.dropLast r3⟩
      · exact P.elim
    · exact P.elim
  · exact P.elim
theorem cm_join (hK : X.K = Z.ga.K) : MtR X "str.join" (rM Z σ (callM .join)) := by
  intro pins s σ' H vx vs v us Q I rx rv ⟨ρ, h, x, xs, R, r1, r2, P⟩
  simp only [callM, gJoin] at P
  split at P
  · next sp y =>
    obtain ⟨w, rfl, r3⟩ := r2.one
    split at P
    · next ss e =>
      split at P
      · next hl =>
        obtain ⟨ds, e1, e2⟩ := Option.bind_eq_some_iff.mp e
        obtain ⟨a, ws, rfl, z, rs⟩ := seqD_ok R r3 e1
        rw [strsD_ok rs e2] at z
        exact mt_join pins s σ' H _ _ v us Q I rx rv ⟨sp, a, ss, r1, rfl, by rw [hK]; exact z.imp id And.left, hl, P.now R rfl⟩
      · exact P.elim
    · exact P.elim
  · exact P.elim

/-! ### f-strings -/
theorem me_fmt (ha : PE X a (tEv Z ca)) : PE X (.FormattedValue a (-1) none pos) (tEv Z (.fmt ca)) := by
  refine PE.imp (pe_fmt ha) fun σ H Q ⟨ρ, l, h, S, R, P⟩ => ?_
  simp only [evE] at P
  refine ev_seq S R P fun x h1 v1 H1 m1 X1 R1 S1 r1 P1 => ?_
  obtain ⟨d, e, P2⟩ := lift_post (α := D) P1
  unfold fmtD at e
  split at e
  · next i =>
    split at e
    · next hl => cases e; exact .inr ⟨i, r1, of_decide_eq_true hl, P2.now R1 rfl⟩
    · cases e
  · next x =>
    split at e
    · next hl => cases e; exact .inl ⟨x, r1, by rw [← sz_eq]; exact hl, P2.now R1 rfl⟩
    · cases e
  · cases e
theorem js_ok {Q : VK} : ∀ {cs : List CE} {acc : Str} {l : Loc} {σ : L2.St} {ρ : List Addr} {H : Hp} {h : Hea}, RelS Z.ga ρ H l σ → RelH Z.ga ρ h H →
    Post Z σ ρ H ((evJ Z.G Z.Φ cs acc l h).bind fun x h1 => .ok (.str x) h1) Q → tJs (cs.map (tEv Z)) acc σ H fun out H1 => Q (.str out) H1
  | [], acc, l, σ, ρ, H, h, S, R, P => by
    simp only [evJ, Out.bind_ok] at P
    exact P.now R rfl
  | c :: cs, acc, l, σ, ρ, H, h, S, R, P => by
    simp only [evJ, Out.bind_assoc] at P
    refine ev_seq S R P fun x h1 v1 H1 m1 X1 R1 S1 r1 P1 => ?_
    cases x with
    | str y =>
      simp only at P1
      by_cases hl : (acc ++ y).length ≤ SZ
      · rw [if_pos hl] at P1
        exact ⟨y, r1, by rw [← sz_eq]; exact hl, js_ok S1 R1 P1⟩
      · rw [if_neg hl] at P1
        exact P1.elim
    | _ => exact P1.elim
theorem pj_of : ∀ {es : List Expr} {cs : List CE}, Paired (fun e c => PE X e (tEv Z c)) es cs → PJ X es (cs.map (tEv Z))
  | [], [], _ => .nil
  | _ :: _, _ :: _, .cons h r => .cons h (pj_of r)
theorem me_fst {v1 v2 : Expr} {rest : List Expr} {cs : List CE} (h : Paired (fun e c => PE X e (tEv Z c)) (v1 :: v2 :: rest) cs) : PE X (.JoinedStr (v1 :: v2 :: rest) pos) (tEv Z (.fst cs)) := by
  refine PE.imp (pe_joined (pj_of h)) fun σ H Q ⟨ρ, l, h, S, R, P⟩ => ?_
  simp only [evE] at P
  exact js_ok S R P
end
end Mi
end

section
set_option linter.all false
set_option Elab.async false
set_option maxHeartbeats 1000000
/-! MiBj: isinstance, repr, sorted, in. -/
namespace Mi
open PySem PySem.Spec PyProof.Rows L2
/-- what the classes say when isinstance asks -/
structure InF (K : PySem.W.Frag) (G : GE) (cls : Nat → Addr) : Prop where
  sub : ∀ d c b, G.sub d c = some b → PySem.W.kitOne K (.ref (cls d)) (.ref (cls c)) = some b
  tyc : ∀ n c, n ∈ ["NoneType", "bool", "int", "str", "tuple", "list", "dict"] → G.tyc n c = true → PySem.W.kitOne K (.type n) (.ref (cls c)) = some false
  cty : ∀ d n, plainTy n = true → G.cty d n = true → PySem.W.kitOne K (.ref (cls d)) (.type n) = some false
  ins : ∀ d, ((∃ n, G.cty d n = true) ∨ ∃ c, (G.sub d c).isSome = true) → Cls K (cls d) ∧ PySem.W.findIn K (.ref (cls d)) "__class__" = some (some (.builtin "object.__class__")) ∧
    PySem.W.specialIn K (.builtin "object.__class__") "__get__" = some (some (.builtin "getset_descriptor.__get__")) ∧ PySem.W.takesIn K (.builtin "object.__class__") = some true ∧ PySem.W.mroIn K (cls d) (.type "object") = some true
theorem kit_all : ∀ t ∈ (["NoneType", "bool", "int", "str", "tuple", "list", "dict"] : List String), ∀ n ∈ (["int", "bool", "str", "tuple", "list", "dict"] : List String), kitB t n = some (t == n || (t == "bool" && n == "int")) := by decide +kernel
theorem plainTy_mem {n : String} (h : plainTy n = true) : n ∈ (["int", "bool", "str", "tuple", "list", "dict"] : List String) := by
  unfold plainTy at h
  simp only [Bool.or_eq_true, beq_iff_eq] at h
  rcases h with ((((h | h) | h) | h) | h) | h <;> simp [h]
section
variable {X : Cx} {Z : Cn} {pos : Pos} {a b c e o : Expr} {ca cb cc : CE} {σ : L2.St}
theorem sqT_ty {K : PySem.W.Frag} {H : Hp} {a : Addr} {vs : List V} (q : SqT K H a vs) : TyX K H (.ref a) (.type "tuple") := by
  rcases q with (q | ⟨o, q⟩) | ⟨o, its, n, q, c, _⟩
  · exact .base (.tup q)
  · exact .fTuple q
  · exact .kTuple q c
theorem tyD_ok {ga : GA} {ρ : List Addr} {h : Hea} {H : Hp} {x : D} {v : V} {t : String} (R : RelH ga ρ h H) (r : Rep ga ρ H x v) (e : tyD h x = some t) : TyX ga.K H v (.type t) ∧ t ∈ ["NoneType", "bool", "int", "str", "tuple", "list", "dict"] := by
  cases x with
  | non => cases e; obtain rfl : v = .non := r; exact ⟨.base .non, by simp⟩
  | bl b => cases e; obtain rfl : v = .bl b := r; exact ⟨.base (.bl b), by simp⟩
  | int i => cases e; obtain rfl : v = .int i := r; exact ⟨.base (.int i), by simp⟩
  | str i => cases e; obtain rfl : v = .str i := r; exact ⟨.base (.str i), by simp⟩
  | tup ds =>
    cases e
    obtain ⟨a, vs, rfl, q, _⟩ := r
    exact ⟨sqT_ty q, by simp⟩
  | ref n =>
    obtain ⟨a, rfl, ea⟩ := r
    unfold tyD at e
    simp only at e
    split at e
    · next q => cases e; obtain ⟨vs, z, _⟩ := R.at_ n _ a q ea; exact ⟨.base (.lst z), by simp⟩
    · next q => cases e; obtain ⟨ob, vs, z, _⟩ := R.at_ n _ a q ea; exact ⟨.base (.frz z), by simp⟩
    · next q =>
      cases e
      rcases R.at_ n _ a q ea with ⟨xs, z, _⟩ | ⟨xs, z, _⟩
      · exact ⟨.base (.dT z), by simp⟩
      · exact ⟨.base (.dK z), by simp⟩
    · cases e
  | fn f => cases e
  | cls f => cases e
  | ty n => cases e
  | kd k => cases e
theorem cb_isinst (hK : X.K = Z.ga.K) (F : InF Z.ga.K Z.G Z.ga.cls) : CallR X (.builtin "isinstance") (rF Z σ (callB Z.G .isinst)) := by
  intro pins s σ' H vs us Q I rv ⟨ρ, h, xs, R, r, P⟩
  simp only [callB, fIsinst] at P
  split at P
  · next x c =>
    obtain ⟨v, w, rfl, r1, r2⟩ := r.two
    obtain ⟨d0, e0, P1⟩ := lift_post (α := D) P
    obtain ⟨k, e, rfl⟩ := Option.map_eq_some_iff.mp e0
    clear e0
    refine call_isi pins s σ' H _ us Q I rv ?_
    rw [hK]
    unfold isinstD at e
    cases c with
    | ty n =>
      simp only at e
      split at e
      · next hp =>
        cases et : tyD h x with
        | some t =>
          rw [et] at e
          cases e
          obtain ⟨T1, T2⟩ := tyD_ok R r1 et
          exact ⟨v, w, _, .type n, _, rfl, by rw [show w = .ty n from r2]; exact .ty n, T1, kit_ty (kit_all t T2 n (plainTy_mem hp)), P1.now R rfl⟩
        | none =>
          rw [et] at e
          simp only at e
          split at e
          · next m =>
            obtain ⟨a, rfl, ea⟩ := r1
            split at e
            · next d fs eo =>
              split at e
              · next hc =>
                cases e
                obtain ⟨dx, gs, eH, _⟩ := R.ins eo ea
                obtain ⟨f1, f2, f3, f4, f5⟩ := F.ins d (.inl ⟨n, hc⟩)
                exact ⟨_, w, _, .type n, _, rfl, by rw [show w = .ty n from r2]; exact .ty n, .base (.ins eH f1 f2 f3 f4 f5), F.cty d n hp hc, P1.now R rfl⟩
              · cases e
            · cases e
          · cases e
      · cases e
    | cls cc =>
      simp only at e
      obtain rfl : w = .ref (Z.ga.cls cc) := r2
      cases et : tyD h x with
      | some t =>
        rw [et] at e
        simp only at e
        split at e
        · next hc =>
          cases e
          obtain ⟨T1, T2⟩ := tyD_ok R r1 et
          exact ⟨v, _, _, .ref (Z.ga.cls cc), _, rfl, .own _, T1, F.tyc t cc T2 hc, P1.now R rfl⟩
        · cases e
      | none =>
        rw [et] at e
        simp only at e
        split at e
        · next m =>
          obtain ⟨a, rfl, ea⟩ := r1
          split at e
          · next d fs eo =>
            obtain ⟨dx, gs, eH, _⟩ := R.ins eo ea
            obtain ⟨f1, f2, f3, f4, f5⟩ := F.ins d (.inr ⟨cc, by rw [e]; rfl⟩)
            exact ⟨_, _, _, .ref (Z.ga.cls cc), _, rfl, .own _, .base (.ins eH f1 f2 f3 f4 f5), F.sub d cc k e, P1.now R rfl⟩
          · cases e
        · cases e
    | _ => cases e
  · exact P.elim
/-! ### repr -/
theorem cb_repr (hK : X.K = Z.ga.K) (hg : X.A.guards = some []) (hu : X.A.units + 65 < cLine) : CallR X (.builtin "repr") (rF Z σ (callB Z.G .repr)) := by
  intro pins s σ' H vs us Q I rv ⟨ρ, h, xs, R, r, P⟩
  simp only [callB, fRepr] at P
  split at P
  · next x =>
    split at P
    case isFalse => exact P.elim
    case isTrue hx =>
    obtain ⟨v, rfl, r1⟩ := r.one
    obtain ⟨d0, e0, P1⟩ := lift_post (α := D) P
    obtain ⟨k, e, rfl⟩ := Option.map_eq_some_iff.mp e0
    clear e0
    unfold reprD at e
    obtain ⟨y, e1, e2⟩ := Option.bind_eq_some_iff.mp e
    split at e2
    · next hc =>
      cases e2
      rw [Bool.and_eq_true, decide_eq_true_eq] at hc
      obtain ⟨p1, s1⟩ := pd_ok R r1 e1
      obtain ⟨u, rfl, ru⟩ := vals1 rv
      obtain ⟨as, rd⟩ := Dp.reads I y v u (by rw [hK]; exact p1) ru
      have hd : y.hasDict = false := PyData.hasDict_of_canLay y (SeqAt.canLay_of_shaped s1)
      have dep := SeqAt.depth_of_shaped s1
      obtain ⟨a, rfl⟩ : ∃ a, u = Value.ref a := by
        cases x with
        | tup ds => obtain ⟨a, _, rfl, _⟩ := r1; exact ⟨a, ru⟩
        | ref n => obtain ⟨a, rfl, _⟩ := r1; exact ⟨a, ru⟩
        | _ => cases hx
      exact repr_of_reads' rd hc.1 (PyData.noDict_hsm hd) hg (by omega) (fun _ _ z => z) (fun h' t' tk hk => ⟨.str y.shown, H, I.kept (t' := tk) hk, ⟨_, rfl⟩, P1.now R rfl⟩) (by rw [← sz_eq]; exact hc.2)
    · cases e2
  · exact P.elim
end
end Mi
end

section
set_option linter.all false
set_option Elab.async false
set_option maxHeartbeats 1000000
/-! MiBk: sorted; in. -/
namespace Mi
open PySem PySem.Spec PyProof.Rows L2
section
variable {X : Cx} {Z : Cn} {σ : L2.St}
/-- value, datum, reading -/
abbrev Tri := D × PyData × V
theorem pdL_ok {ρ : List Addr} {h : Hea} {H : Hp} (R : RelH Z.ga ρ h H) : ∀ {ds : List D} {vs : List V} {xs : List PyData}, Reps Z.ga ρ H ds vs → pdL h ds = some xs → ∃ bs : List Tri, bs.map (fun b => (b.1, b.2.1)) = ds.zip xs ∧ bs.map (·.1) = ds ∧ bs.map (·.2.1) = xs ∧ bs.map (·.2.2) = vs ∧ ∀ b ∈ bs, Rep Z.ga ρ H b.1 b.2.2 ∧ Dp Z.ga.K H b.2.2 b.2.1 ∧ SeqAt.shaped b.2.1 = true
  | [], vs, xs, r, e => by
    cases e
    obtain rfl : vs = [] := r
    exact ⟨[], rfl, rfl, rfl, rfl, fun b hb => by cases hb⟩
  | d :: ds, vs, xs, r, e => by
    obtain ⟨v, t, rfl, r1, r2⟩ := r
    obtain ⟨x, e1, e2⟩ := Option.bind_eq_some_iff.mp (show ((pd h d).bind fun x => (pdL h ds).map fun xs => x :: xs) = some xs from e)
    obtain ⟨ys, e3, rfl⟩ := Option.map_eq_some_iff.mp e2
    obtain ⟨bs, b1, b2, b3, b4, b5⟩ := pdL_ok R r2 e3
    obtain ⟨p1, p2⟩ := pd_ok R r1 e1
    refine ⟨(d, x, v) :: bs, by simp [b1], by simp [b2], by simp [b3], by simp [b4], fun b hb => ?_⟩
    rcases List.mem_cons.mp hb with rfl | hb
    · exact ⟨r1, p1, p2⟩
    · exact b5 b hb
theorem each_vals : ∀ {bs : List Tri} {us : List Value}, Vals (bs.map (·.2.2)) us → PySem.W.EachIs (fun u (b : Tri) => RelV b.2.2 u) us bs
  | [], _, .nil => .nil
  | b :: bs, _, .cons r t => .cons r (each_vals t)
theorem vals_each : ∀ {bs : List Tri} {us : List Value}, PySem.W.EachIs (fun u (b : Tri) => RelV b.2.2 u) us bs → Vals (bs.map (·.2.2)) us
  | [], _, .nil => .nil
  | b :: bs, _, .cons r t => .cons r (vals_each t)
theorem each_reads {pins : List (Addr × Obj)} {s : Shared} {H : Hp} (I : L2.Inv X pins σ H s) : ∀ {bs : List Tri} {us : List Value}, (∀ b ∈ bs, Dp X.K H b.2.2 b.2.1) → Vals (bs.map (·.2.2)) us → PySem.W.EachIs (fun u (b : Tri) => ∃ as, Reads s.heap u b.2.1 as) us bs
  | [], _, _, .nil => .nil
  | b :: bs, _, h, .cons r t => .cons (Dp.reads I _ _ _ (h b List.mem_cons_self) r) (each_reads I (fun c hc => h c (List.mem_cons_of_mem _ hc)) t)
theorem Reps.ofList {ga : GA} {ρ : List Addr} {H : Hp} : ∀ {bs : List Tri}, (∀ b ∈ bs, Rep ga ρ H b.1 b.2.2) → Reps ga ρ H (bs.map (·.1)) (bs.map (·.2.2))
  | [], _ => rfl
  | b :: bs, h => ⟨_, _, rfl, h b List.mem_cons_self, Reps.ofList fun c hc => h c (List.mem_cons_of_mem _ hc)⟩
theorem cb_sorted (hK : X.K = Z.ga.K) (hu : X.A.units + 70 < cLine) : CallR X (.builtin "sorted") (rF Z σ (callB Z.G .sorted)) := by
  intro pins s σ' H vs us Q I rv ⟨ρ, h, xs, R, r, P⟩
  simp only [callB, fSorted] at P
  split at P
  · next x =>
    obtain ⟨v, rfl, r1⟩ := r.one
    split at P
    · next ds e =>
      obtain ⟨ls, e1, e2⟩ := Option.bind_eq_some_iff.mp e
      obtain ⟨ps, e3, e4⟩ := Option.bind_eq_some_iff.mp (show ((pdL h ls).bind fun xs => if sortOk xs && decide (ls.length ≤ SZ) then some ((sortZ (ls.zip xs)).map (·.1)) else none) = some ds from e2)
      split at e4
      · next hc =>
        cases e4
        rw [Bool.and_eq_true, decide_eq_true_eq] at hc
        obtain ⟨a, ws, rfl, z, rs⟩ := listD_ok R r1 e1
        obtain ⟨bs, b1, b2, b3, b4, b5⟩ := pdL_ok R rs e3
        rw [← hK] at z
        obtain ⟨its, ri, p, hz⟩ := I.list z
        obtain ⟨u, rfl, ru⟩ := vals1 rv
        obtain rfl : u = Value.ref a := ru
        subst b3
        have hlen : bs.length = ls.length := by rw [← b2, List.length_map]
        have ri' : Vals (bs.map (·.2.2)) its := by rw [b4]; exact ri
        unfold sortOk at hc
        simp only [Bool.and_eq_true, Bool.or_eq_true, List.all_eq_true] at hc
        obtain ⟨⟨h1, h2⟩, h3⟩ := hc
        refine PySem.W.sorted_data (R := fun u (b : Tri) => RelV b.2.2 u) (enc := fun b : Tri => b.2.1) (bs := bs) p.isList (each_vals ri') (each_reads I (fun b hb => by rw [hK]; exact (b5 b hb).2.1) ri') (fun d hd d' hd' => h1 d hd d' hd') ?_ (by rw [hlen, ← sz_eq]; exact h3) (fun b hb => ?_) fun out ho he => ?_
        · rcases h2 with h2 | h2
          · refine .inl fun d hd => ?_
            have := h2 d hd
            cases d with
            | tuple l =>
              cases l with
              | nil => cases this
              | cons y ys => exact ⟨y, ys, rfl⟩
            | _ => cases this
          · refine .inr fun d hd => ?_
            have := h2 d hd
            refine ⟨?_, ?_⟩
            · rintro rfl
              cases this
            · rintro ys rfl
              cases this
        · have := SeqAt.depth_of_shaped (b5 b hb).2.2
          show X.A.units + 2 + b.2.1.depth < cLine
          omega
        · obtain ⟨ep, hat⟩ := PyProof.Rows.sortedAll_at s.heap its out.toArray
          have mem : ∀ b ∈ bs.mergeSort (PySem.W.dataLe false fun b : Tri => b.2.1), b ∈ bs := fun b hb => List.mem_mergeSort.mp hb
          have ro := vals_each he
          have eD : (sortZ (ls.zip (bs.map (·.2.1)))).map (·.1) = (bs.mergeSort (PySem.W.dataLe false fun b : Tri => b.2.1)).map (·.1) := by
            unfold sortZ
            rw [← b1, ← List.map_mergeSort (s := PySem.W.dataLe false fun b : D × PyData => b.2) (r := PySem.W.dataLe false fun b : Tri => b.2.1) (f := fun b : Tri => (b.1, b.2.1)) (fun _ _ _ _ => rfl), List.map_map]
            rfl
          rw [eD] at P
          have hn : H (s.heap.objs.size + 1) = none := I.hok.fresh (Nat.le_succ _)
          refine ⟨.ref _, upd H (s.heap.objs.size + 1) (.lst ((bs.mergeSort (PySem.W.dataLe false fun b : Tri => b.2.1)).map (·.2.2))), I.laid (t' := s.toks) (fun _ _ => PyProof.Rows.sortedAll_old) (Nat.le_succ _) ⟨?_, out, ep, ro, hat⟩, rfl, P.newL R (Reps.ofList fun b hb => (b5 b (mem b hb)).1) hn⟩
          rw [List.length_map, List.length_mergeSort, hlen, ← sz_eq]
          exact h3
      · cases e4
    · exact P.elim
  · exact P.elim
/-! ### in -/
theorem shaped_list {ws : List PyData} (h : SeqAt.shaped (.list ws) = true) : PyData.canLayAll0 ws = true := SeqAt.canLay_of_shaped h
theorem shaped_tup {ws : List PyData} (h : SeqAt.shaped (.tuple ws) = true) : PyData.canLayAll0 ws = true := SeqAt.canLay_of_shaped h
theorem or_in (hK : X.K = Z.ga.K) (hu : X.A.units + 70 < cLine) : OpR X (compareOp .In) (rC Z σ .in_) := by
  intro pins s σ' H vx vy v u Q I rx ry ⟨ρ, h, x, y, R, r1, r2, P⟩
  obtain ⟨k, e, P1⟩ := cmpG_some P
  have e' : inD h x y = some k := e
  unfold inD at e'
  split at e'
  · cases e'
    exact op_in_str pins s σ' H _ _ v u Q I rx ry ⟨_, _, r1, r2, P1.now R rfl⟩
  · obtain ⟨d, e1, e2⟩ := Option.bind_eq_some_iff.mp e'
    obtain ⟨w, e3, e4⟩ := Option.bind_eq_some_iff.mp e2
    obtain ⟨p1, s1⟩ := pd_ok R r1 e1
    obtain ⟨p2, s2⟩ := pd_ok R r2 e3
    obtain ⟨as, q1⟩ := Dp.reads I d _ v (by rw [hK]; exact p1) rx
    obtain ⟨bs, q2⟩ := Dp.reads I w _ u (by rw [hK]; exact p2) ry
    split at e4
    · cases e4
      exact SeqAt.in_list_reads q2 q1 (shaped_list s2) (SeqAt.canLay_of_shaped s1) (room_in_shaped s1 (by omega)) ⟨.bl _, H, I, rfl, P1.now R rfl⟩
    · cases e4
      exact SeqAt.in_tuple_reads q2 q1 (shaped_tup s2) (SeqAt.canLay_of_shaped s1) (room_in_shaped s1 (by omega)) ⟨.bl _, H, I, rfl, P1.now R rfl⟩
    · cases e4
theorem or_notIn (hK : X.K = Z.ga.K) (hu : X.A.units + 70 < cLine) : OpR X (compareOp .NotIn) (rC Z σ .notIn) := by
  intro pins s σ' H vx vy v u Q I rx ry ⟨ρ, h, x, y, R, r1, r2, P⟩
  obtain ⟨k, e, P1⟩ := cmpG_some P
  obtain ⟨k', e', rfl⟩ := Option.map_eq_some_iff.mp (show (inD h x y).map (!·) = some k from e)
  unfold inD at e'
  split at e'
  · cases e'
    exact op_notIn_str pins s σ' H _ _ v u Q I rx ry ⟨_, _, r1, r2, P1.now R rfl⟩
  · obtain ⟨d, e1, e2⟩ := Option.bind_eq_some_iff.mp e'
    obtain ⟨w, e3, e4⟩ := Option.bind_eq_some_iff.mp e2
    obtain ⟨p1, s1⟩ := pd_ok R r1 e1
    obtain ⟨p2, s2⟩ := pd_ok R r2 e3
    obtain ⟨as, q1⟩ := Dp.reads I d _ v (by rw [hK]; exact p1) rx
    obtain ⟨bs, q2⟩ := Dp.reads I w _ u (by rw [hK]; exact p2) ry
    split at e4
    · cases e4
      exact SeqAt.notIn_list_reads q2 q1 (shaped_list s2) (SeqAt.canLay_of_shaped s1) (room_in_shaped s1 (by omega)) ⟨.bl _, H, I, rfl, P1.now R rfl⟩
    · cases e4
      exact SeqAt.notIn_tuple_reads q2 q1 (shaped_tup s2) (SeqAt.canLay_of_shaped s1) (room_in_shaped s1 (by omega)) ⟨.bl _, H, I, rfl, P1.now R rfl⟩
    · cases e4
end
end Mi
end

section
set_option linter.all false
set_option Elab.async false
set_option maxHeartbeats 1000000
/-! MiNe: a class's own __eq__ behind == and !=, its own __str__ behind str. -/
namespace Mi
open PySem PySem.Spec PyProof.Rows L2
section
open PySem.W
variable {prog : Program} {w : World} {A : Around} {E : Value → Shared → Prop} {s : Shared} {K : Frag} {x C f : Addr} {ox : Obj} {od : Option Obj} {b tb : Value}
/-- the first of two compared says what it says -/
theorem rich_first {op : CmpOp} {Q : Value → Shared → Prop} (room : A.units < cLine) (X : K.In s.heap) (I : InstAt s.heap x ox C od) (hb : Looks (model prog w) s.heap (typeOf b) tb) (hn : notFirst K C tb = true)
    (one : wpAny (model prog w) A (tryCompare (.ref x) (cmpInfo op).2.1 b) (fun r s' => ∃ v, r = some v ∧ Q v s') E s) : wpAny (model prog w) A (richCompare op (.ref x) b) Q E s := by
  have fin : ∀ (k : Option Value → Sem Value), (∀ v s', Q v s' → wpAny (model prog w) A (k (some v)) Q E s') → wpAny (model prog w) A (tryCompare (.ref x) (cmpInfo op).2.1 b >>= k) Q E s := fun k hk =>
    wpAny_bind (wpAny_mono one (fun r s' ⟨v, e, q⟩ => by subst e; exact hk v s' q) fun _ _ z => z)
  unfold richCompare
  simp only [oneThing_ref]
  refine wpAny_holding (wpAny_bind (wpAny_cRoomFor room (wpAny_bind (I.type.here (wpAny_bind (hb.here ?_))))))
  by_cases hq : (Value.ref C != tb) = true
  · rw [if_pos hq]
    have sub : subIn K tb (.ref C) = some false := by
      unfold notFirst at hn
      rw [Bool.or_eq_true] at hn
      rcases hn with z | z
      · rw [beq_iff_eq.mp z] at hq; simp at hq
      · exact beq_iff_eq.mp z
    refine wpAny_bind ((looks_subIn X sub).here ?_)
    rw [if_neg Bool.false_ne_true]
    exact fin _ fun v s' q => wpAny_pure q
  · rw [if_neg hq]
    refine wpAny_bind (wpAny_pure ?_)
    rw [if_neg Bool.false_ne_true]
    exact fin _ fun v s' q => wpAny_pure q
theorem special_ne {M : Model} {args : List Value} {Q : Option Value → Shared → Prop} (X : K.In s.heap) (I : InstAt s.heap x ox C od) (hs : findIn K (.ref C) "__ne__" = some (some (.builtin "object.__ne__")))
    (h : wpAny M A (call (.builtin "object.__ne__") (.ref x :: args)) (fun v => Q (some v)) E s) : wpAny M A (callSpecialIfBound? (.ref x) "__ne__" args) Q E s := by
  have bd : bindSpecial (.builtin "object.__ne__") (.ref x) = pure (.builtin "object.__ne__", [.ref x]) := PySem.F.cmp_object.ne.bind _
  have go : ∀ k : Option Value → Shared → Prop, (∀ v s', Q (some v) s' → k (some v) s') → wpAny M A (call (.builtin "object.__ne__") ([.ref x] ++ args) >>= fun v => pure (some v)) k E s := fun k hk =>
    wpAny_bind (wpAny_mono h (fun v s' q => wpAny_pure (hk v s' q)) fun _ _ z => z)
  unfold callSpecialIfBound? bindSpecialIfBound?
  refine wpAny_holding (wpAny_bind (wpAny_bind (wpAny_bind (I.type.here ((looks_findIn X hs).here (wpAny_bind (wpAny_askSetting (wpAny_ite ?_))))))))
  split
  · exact wpAny_bind (wpAny_of_eq bd (wpAny_pure (go _ fun _ _ q => q)))
  · exact wpAny_tryCatch (wpAny_bind (wpAny_of_eq bd (wpAny_pure (go _ fun _ _ q => q))))
/-- object.__ne__: what the own __eq__ says, the other way round -/
theorem call_ne {Q : Value → Shared → Prop} (room : A.in1.units < cLine) (X : K.In s.heap) (I : InstAt s.heap x ox C od) (hobj : mroIn K C (.type "object") = some true) (heq : findIn K (.ref C) "__eq__" = some (some (.ref f))) (hf : isFn K (.ref f) = true)
    (h : wpAny (model prog w) A.in1 (call (.ref f) [.ref x, b]) (fun v s' => ∃ k, v = .bool k ∧ Q (.bool (!k)) s') E s) : wpAny (model prog w) A (call (.builtin "object.__ne__") [.ref x, b]) Q E s := by
  have sub : Looks (model prog w) s.heap (isInstance (.ref x) (.type "object")) true := I.type.andThen (looks_mroIn X hobj)
  refine wpAny_call (codeAny_call_builtin PySem.F.cmp_object.ne.plain PySem.F.cmpEntry_ne (check_slot PySem.F.cmpKind_ne PySem.F.cmpSplit_ne sub (PySem.F.cmpArgs_ne _ _) ?_))
  show wpAny (model prog w) A.in1 (Builtin.«object.__ne__» ⟨[.ref x, b], []⟩) _ _ s
  unfold Builtin.«object.__ne__»
  refine wpAny_bind (wpAny_of_eq (a := ((.ref x : Value), [b])) (by first | rfl | kernel_rfl) ?_)
  refine wpAny_bind (wpAny_cRoomFor room (wpAny_bind (ifBound_K X I heq hf (wpAny_mono h (fun v s' q => ?_) fun _ _ z => z))))
  obtain ⟨k, rfl, q⟩ := q
  exact wpAny_bind (wpAny_pure (wpAny_pure q))
end
end Mi
end

section
set_option linter.all false
set_option Elab.async false
set_option maxHeartbeats 1000000
/-! MiOwn: == and != with an own __eq__. -/
namespace Mi
open PySem PySem.Spec PyProof.Rows L2
/-- the classes that have an __eq__ of their own -/
structure OwnF (Z : Cn) (X : Cx) (k : Nat) : Prop where
  eq : ∀ c f, Z.G.meth c "__eq__" = some f → PySem.W.findIn X.K (.ref (Z.ga.cls c)) "__eq__" = some (some (.ref (Z.ga.fn f))) ∧ PySem.W.isFn X.K (.ref (Z.ga.fn f)) = true ∧
    PySem.W.findIn X.K (.ref (Z.ga.cls c)) "__ne__" = some (some (.builtin "object.__ne__")) ∧ PySem.W.mroIn X.K (Z.ga.cls c) (.type "object") = some true ∧
    (∀ t ∈ (["NoneType", "bool", "int", "str", "tuple", "list", "dict"] : List String), PySem.W.notFirst X.K (Z.ga.cls c) (.type t) = true) ∧ (∀ d, Z.G.cty d "int" = true → PySem.W.notFirst X.K (Z.ga.cls c) (.ref (Z.ga.cls d)) = true) ∧
    ∃ fd ps, FnG X.prog X.w X.K X.mg X.base k (Z.ga.fn f) fd ps (spO Z.ga ps.length (Z.Φ f)) ∧ KB Z.ga X.K fd ps 2 [] [.inl 0, .inl 1]
section
variable {X : Cx} {Z : Cn} {σ : L2.St}
/-- the own method runs on two values -/
theorem own_run {k f : Nat} {fd : FuncData} {ps : List Str} {A : Around} {pins : List (Addr × Obj)} {H : Hp} {s : Shared} {σ' : L2.St} {ρ : List Addr} {h : Hea} {x y : D} {vx vy : V} {ux uy : Value} {q : Bool → Bool} {Q : VK}
    (F : FnG X.prog X.w X.K X.mg X.base k (Z.ga.fn f) fd ps (spO Z.ga ps.length (Z.Φ f))) (kb : KB Z.ga X.K fd ps 2 [] [.inl 0, .inl 1]) (room : Room k A) (hg : A.guards = some []) (e0 : Env0 X.prog X.w X.K X.mg X.base A X.stack s H)
    (I : L2.Inv X pins σ' H s) (R : RelH Z.ga ρ h H) (rx : Rep Z.ga ρ H x vx) (ry : Rep Z.ga ρ H y vy) (ux' : RelV vx ux) (uy' : RelV vy uy)
    (P : Post Z σ ρ H (noX ((Z.Φ f [x, y] h).bind fun d h => match d with | .bl k => .ok (.bl (q k)) h | _ => .no)) Q) {Ex : Value → Shared → Prop} :
    wpAny (model X.prog X.w) A (call (.ref (Z.ga.fn f)) [ux, uy]) (fun v s' => ∃ b, v = .bool b ∧ EP X pins σ' Q (.bool (q b)) s') Ex s := by
  obtain ⟨zs, sv, hb⟩ := kb.2 s [ux, uy] [] I.kIn rfl rfl
  have ez : zs = [ux, uy] := by
    obtain ⟨z, t, rfl, e1, z2, t2, rfl, e2, e3⟩ := sv
    simp at e1 e2
    rw [e1, e2, show t2 = [] from e3]
  subst ez
  have hl : ps.length = 2 := kb.1.symm
  have pc : spO Z.ga ps.length (Z.Φ f) [vx, vy] H (fun v H' => ∃ b, v = .bl b ∧ Q (.bl (q b)) H') fun _ _ _ => False := by
    refine ⟨ρ, h, [x, y], R, ⟨vx, _, rfl, rx, vy, _, rfl, ry, rfl⟩, by rw [hl]; rfl, ?_⟩
    cases e : Z.Φ f [x, y] h with
    | no => rw [e] at P; exact P
    | ex z h' => rw [e] at P; exact P.elim
    | ok d h' =>
      rw [e] at P
      cases d with
      | bl b => exact fun v H' m X R r => ⟨b, r, P _ _ m X R rfl⟩
      | _ => exact P.elim
  refine wpAny_call (codeAny_mono (F.run A X.stack s H ⟨[ux, uy], []⟩ [ux, uy] [vx, vy] _ _ room hg e0 hb (.cons ux' (.cons uy' .nil)) pc) ?_)
  intro res s' hq
  match res, hq with
  | .error er, hq =>
    obtain ⟨_, _, _, _, _, _, _, _, _, _, _, _, z⟩ := hq
    exact z.elim
  | .ok (.ret u), hq =>
    obtain ⟨v, H', I', rv, b, rfl, q'⟩ := I.after hq
    exact ⟨b, rv, .bl (q b), H', I', rfl, q'⟩
theorem looks_of {y : D} {vy : V} {u : Value} {pins : List (Addr × Obj)} {H : Hp} {s : Shared} {σ' : L2.St} {ρ : List Addr} {h : Hea} {C : Addr} (hK : X.K = Z.ga.K) (I : L2.Inv X pins σ' H s) (R : RelH Z.ga ρ h H) (ry : Rep Z.ga ρ H y vy) (uy : RelV vy u) (hc : ((tyD h y).isSome || knownI Z.G h y) = true)
    (n1 : ∀ t ∈ (["NoneType", "bool", "int", "str", "tuple", "list", "dict"] : List String), PySem.W.notFirst X.K C (.type t) = true) (n2 : ∀ d, Z.G.cty d "int" = true → PySem.W.notFirst X.K C (.ref (Z.ga.cls d)) = true) :
    ∃ tb, PySem.W.Looks (model X.prog X.w) s.heap (typeOf u) tb ∧ PySem.W.notFirst X.K C tb = true := by
  cases et : tyD h y with
  | some t =>
    obtain ⟨T1, T2⟩ := tyD_ok R ry et
    rw [← hK] at T1
    obtain ⟨P, W, p, _⟩ := kit_of I uy T1
    exact ⟨.type t, W.ty _ _ I.kIn p, n1 t T2⟩
  | none =>
    rw [et] at hc
    cases ei : insAt h y with
    | none =>
      unfold knownI at hc
      rw [ei] at hc; cases hc
    | some q =>
      obtain ⟨r, d, fs⟩ := q
      have hd : Z.G.cty d "int" = true := by
        unfold knownI at hc
        rw [ei] at hc
        simpa using hc
      obtain ⟨rfl, eo⟩ := insAt_some ei
      obtain ⟨A0, rfl, ea⟩ := ry
      obtain rfl : u = Value.ref A0 := uy
      obtain ⟨dx, gs, eH, _⟩ := R.ins eo ea
      obtain ⟨mA, O, _⟩ := ins_get I.hok eH
      obtain ⟨od, J, _⟩ := O.look
      exact ⟨.ref (Z.ga.cls d), J.type, n2 d hd⟩
theorem ownEq_some {G : GE} {o : COp} {x : D} {h : Hea} {f : Nat} (e : ownEq G o x h = some f) : (o = .eq ∨ o = .ne) ∧ ∃ r c fs, x = .ref r ∧ h[r]? = some (.ins c fs) ∧ G.meth c "__eq__" = some f := by
  have : (o = .eq ∨ o = .ne) ∧ ((insAt h x).bind fun q => G.meth q.2.1 "__eq__") = some f := by
    cases o <;> first
      | exact ⟨.inl rfl, e⟩
      | exact ⟨.inr rfl, e⟩
      | cases e
  refine ⟨this.1, ?_⟩
  obtain ⟨⟨r, c, fs⟩, e1, e2⟩ := Option.bind_eq_some_iff.mp this.2
  obtain ⟨rfl, e3⟩ := insAt_some e1
  exact ⟨r, c, fs, rfl, e3, e2⟩
theorem orx_of {o : COp} {op : CmpOp} {k : Nat} (hK : X.K = Z.ga.K) (room : Room (k + 1) X.A) (hg : X.A.guards = some []) (F : OwnF Z X k) (hop : (o = .eq → op = .Eq) ∧ (o = .ne → op = .NotEq)) (plain : OpR X (compareOp op) (rC Z σ o)) : OpR X (compareOp op) (rX Z σ o) := by
  intro pins s σ' H vx vy v u Q I rx ry ⟨ρ, h, x, y, R, r1, r2, P⟩
  unfold cmpX at P
  cases eo : ownEq Z.G o x h with
  | none =>
    rw [eo] at P
    exact plain pins s σ' H vx vy v u Q I rx ry ⟨ρ, h, x, y, R, r1, r2, P⟩
  | some f =>
    rw [eo] at P
    simp only at P
    split at P
    · next hc =>
      obtain ⟨ho, r, c, fs, rfl, e1, e2⟩ := ownEq_some eo
      obtain ⟨h1, h2, h3, h4, h5, h6, fd, ps, G, kb⟩ := F.eq c f e2
      obtain ⟨A0, rfl, ea⟩ := r1
      obtain rfl : v = Value.ref A0 := rx
      obtain ⟨dx, gs, eH, _⟩ := R.ins e1 ea
      obtain ⟨mA, O, _⟩ := ins_get I.hok eH
      obtain ⟨od, J, _⟩ := O.look
      obtain ⟨tb, L, nf⟩ := looks_of hK I R r2 ry hc h5 h6
      have un := room.un
      have r1' : Rep Z.ga ρ H (.ref r) (.ref A0) := ⟨A0, rfl, ea⟩
      rcases ho with rfl | rfl
      · obtain rfl := hop.1 rfl
        show wpAny _ _ (richCompare .Eq (.ref A0) u) _ _ _
        refine rich_first (by omega) I.kIn J L nf ?_
        unfold tryCompare
        refine wpAny_bind (PySem.W.ifBound_K I.kIn J h1 h2 (wpAny_mono (own_run (q := fun b => b) (Q := Q) (Ex := X.xe) G kb (room.mono (Nat.le_succ _)) hg I.env0 I R r1' r2 rfl ry P) (fun w s' q => ?_) fun _ _ z => z))
        obtain ⟨b, rfl, q⟩ := q
        exact wpAny_pure ⟨_, rfl, q⟩
      · obtain rfl := hop.2 rfl
        show wpAny _ _ (richCompare .NotEq (.ref A0) u) _ _ _
        refine rich_first (by omega) I.kIn J L nf ?_
        unfold tryCompare
        refine wpAny_bind (special_ne I.kIn J h3 (call_ne (by show X.A.units + 1 < cLine; omega) I.kIn J h4 h1 h2 (wpAny_mono (own_run (q := fun b => !b) (Q := Q) (Ex := X.xe) G kb room.in1 hg I.env0.in1 I R r1' r2 rfl ry P) (fun w s' q => ?_) fun _ _ z => z)))
        obtain ⟨b, rfl, q⟩ := q
        exact ⟨b, rfl, wpAny_pure ⟨_, rfl, q⟩⟩
    · exact P.elim
/-! ### str -/
structure StF (Z : Cn) (X : Cx) (k : Nat) : Prop where
  st : ∀ c f, Z.G.meth c "__str__" = some f → PySem.W.findIn X.K (.ref (Z.ga.cls c)) "__str__" = some (some (.ref (Z.ga.fn f))) ∧ PySem.W.isFn X.K (.ref (Z.ga.fn f)) = true ∧
    ∃ fd ps, FnG X.prog X.w X.K X.mg X.base k (Z.ga.fn f) fd ps (spO Z.ga ps.length (Z.Φ f)) ∧ KB Z.ga X.K fd ps 1 [] [.inl 0]
theorem cs_str {k : Nat} (room : Room (k + 1) X.A) (hg : X.A.guards = some []) (F : StF Z X k) : CallR X (.type "str") (rF Z σ (callX Z.G Z.Φ .str)) := by
  intro pins s σ' H vs us Q I rv ⟨ρ, h, xs, R, r, P⟩
  simp only [callX] at P
  split at P
  · next x =>
    obtain ⟨vx, rfl, r1⟩ := r.one
    split at P
    · next f ef =>
      obtain ⟨⟨r', c, fs⟩, e1, e2⟩ := Option.bind_eq_some_iff.mp ef
      obtain ⟨rfl, e3⟩ := insAt_some e1
      obtain ⟨h1, h2, fd, ps, G, kb⟩ := F.st c f e2
      obtain ⟨A0, rfl, ea⟩ := r1
      obtain ⟨u, rfl, ru⟩ := vals1 rv
      obtain rfl : u = Value.ref A0 := ru
      obtain ⟨dx, gs, eH, _⟩ := R.ins e3 ea
      obtain ⟨mA, O, _⟩ := ins_get I.hok eH
      obtain ⟨od, J, _⟩ := O.look
      have un := room.un
      have dp := room.dp
      have rm : Room k X.A.in1.in1 := ⟨room.hd, by show X.A.depth + 3 * k + 5 < _; omega, by show X.A.units + 1 + 1 + 16 * k + 200 < _; omega⟩
      refine PySem.W.kso_call (by show X.A.units + 1 + 1 < cLine; omega) I.kIn J h1 h2 ?_
      obtain ⟨zs, sv, hb⟩ := kb.2 s [Value.ref A0] [] I.kIn rfl rfl
      have ez : zs = [Value.ref A0] := by
        obtain ⟨z, t, rfl, e1, e3⟩ := sv
        simp at e1
        rw [e1, show t = [] from e3]
      subst ez
      have hl : ps.length = 1 := kb.1.symm
      have pc : spO Z.ga ps.length (Z.Φ f) [.ref A0] H (fun v H' => ∃ b, v = .str b ∧ Q (.str b) H') fun _ _ _ => False := by
        refine ⟨ρ, h, [.ref r'], R, ⟨_, _, rfl, ⟨A0, rfl, ea⟩, rfl⟩, by rw [hl]; rfl, ?_⟩
        cases e : Z.Φ f [.ref r'] h with
        | no => rw [e] at P; exact P
        | ex z h' => rw [e] at P; exact P.elim
        | ok d h' =>
          rw [e] at P
          cases d with
          | str b => exact fun v H' m X R r => ⟨b, r, P _ _ m X R rfl⟩
          | _ => exact P.elim
      refine wpAny_call (codeAny_mono (G.run X.A.in1.in1 X.stack s H ⟨[.ref A0], []⟩ [.ref A0] [.ref A0] _ _ rm hg I.env0.in1.in1 hb (.cons rfl .nil) pc) ?_)
      intro res s' hq
      match res, hq with
      | .error er, hq =>
        obtain ⟨_, _, _, _, _, _, _, _, _, _, _, _, z⟩ := hq
        exact z.elim
      | .ok (.ret u), hq =>
        obtain ⟨v, H', I', rv, b, rfl, q'⟩ := I.after hq
        obtain ⟨tk, rfl⟩ := rv
        exact ⟨.str b, H', I', ⟨tk, rfl⟩, q'⟩
    · exact cb_str pins s σ' H _ us Q I rv ⟨ρ, h, [x], R, r, P⟩
  · exact P.elim
end
end Mi
end

section
set_option linter.all false
set_option Elab.async false
set_option maxHeartbeats 1000000
/-! MiIt: what is walked, targets, comprehensions. -/
namespace Mi
open PySem PySem.Spec PyProof.Rows L2

/-- J walks w -/
def Wk (ga : GA) (ρ : List Addr) (H : Hp) (J : It) : Src → Prop
  | .fix ds => (∃ a vs, J = Itt ga.K a ∧ SqT ga.K H a vs ∧ Reps ga ρ H ds vs) ∨ (∃ lo n, J = Itr lo n ∧ ds = rngD lo n 1) ∨ (∃ lo c n, J = Itc lo c n ∧ ds = rngD lo n c) ∨ (∃ x : Str, J = Its x ∧ ds = x.cps.toList.map fun c => .str ⟨#[c]⟩)
  | .lst n => ∃ a, J = Itl ga.K a ∧ ρ[n]? = some a
  | .enl n => ∃ a, J = Ite ga.K a ∧ ρ[n]? = some a
section
variable {ga : GA} {ρ m : List Addr} {h : Hea} {H H' : Hp} {J : It} {w : Src} {i : Nat}
theorem Wk.mono (hS : ∀ a vs, SqT ga.K H a vs → SqT ga.K H' a vs) (W : Wk ga ρ H J w) : Wk ga (ρ ++ m) H' J w := by
  cases w with
  | fix ds =>
    rcases W with ⟨a, vs, e, q, r⟩ | W
    · exact .inl ⟨a, vs, e, hS _ _ q, r.mono hS⟩
    · exact .inr W
  | lst n => obtain ⟨a, e, q⟩ := W; exact ⟨a, e, by rw [List.getElem?_append_left (List.getElem?_eq_some_iff.mp q).1]; exact q⟩
  | enl n => obtain ⟨a, e, q⟩ := W; exact ⟨a, e, by rw [List.getElem?_append_left (List.getElem?_eq_some_iff.mp q).1]; exact q⟩
/-- a tuple is laid, or nothing -/
def Laid (H H' : Hp) : Prop := H' = H ∨ ∃ T vs, H T = none ∧ H' = upd H T (.tup vs)
theorem rngD_get {lo c : Int} {n : Nat} {i : Nat} {x : D} (e : (rngD lo n c)[i]? = some x) : i < n ∧ x = .int (lo + (i : Int) * c) := by
  unfold rngD at e
  rw [List.getElem?_map] at e
  obtain ⟨j, e1, rfl⟩ := Option.map_eq_some_iff.mp e
  obtain ⟨hl, e2⟩ := List.getElem?_eq_some_iff.mp e1
  simp at hl e2
  subst e2
  exact ⟨hl, rfl⟩
theorem rngD_end {lo c : Int} {n : Nat} {i : Nat} (e : (rngD lo n c)[i]? = none) : n ≤ i := by
  have := List.getElem?_eq_none_iff.mp e
  simpa [rngD] using this
theorem Wk.go (R : RelH ga ρ h H) (W : Wk ga ρ H J w) {x : D} (e : srcAt h i w = some (some x)) : J.go i H ∧ ∀ v H', J.yld i H v H' → Laid H H' ∧ RelH ga ρ h H' ∧ Rep ga ρ H' x v := by
  cases w with
  | fix ds =>
    have e : ds[i]? = some x := by simpa [srcAt] using e
    rcases W with ⟨a, vs, rfl, q, r⟩ | ⟨lo, n, rfl, rfl⟩ | ⟨lo, c, n, rfl, rfl⟩ | ⟨s, rfl, rfl⟩
    · obtain ⟨v, e1, r1⟩ := r.get e
      refine ⟨⟨vs, v, q, e1⟩, fun u H' y => ?_⟩
      obtain ⟨rfl, y⟩ := y
      have := y vs q
      rw [e1] at this
      cases this
      exact ⟨.inl rfl, R, r1⟩
    · obtain ⟨hl, rfl⟩ := rngD_get e
      refine ⟨hl, fun u H' y => ?_⟩
      obtain ⟨rfl, rfl⟩ := y
      exact ⟨.inl rfl, R, by show V.int _ = V.int _; rw [Int.mul_one]⟩
    · obtain ⟨hl, rfl⟩ := rngD_get e
      refine ⟨hl, fun u H' y => ?_⟩
      obtain ⟨rfl, rfl⟩ := y
      exact ⟨.inl rfl, R, rfl⟩
    · rw [List.getElem?_map] at e
      obtain ⟨c, e1, rfl⟩ := Option.map_eq_some_iff.mp e
      have hl : i < s.cps.size := by
        have := (List.getElem?_eq_some_iff.mp e1).1
        simpa using this
      refine ⟨hl, fun u H' y => ?_⟩
      obtain ⟨rfl, c', y1, rfl⟩ := y
      have : s.cps.toList[i]? = s.cps[i]? := by simp
      rw [this, y1] at e1
      cases e1
      exact ⟨.inl rfl, R, rfl⟩
  | lst n =>
    obtain ⟨a, rfl, q⟩ := W
    obtain ⟨ds, e1, e2⟩ := Option.map_eq_some_iff.mp (show (rdL h n).map (fun ds => ds[i]?) = some (some x) from e)
    obtain ⟨vs, z, r⟩ := R.rd e1 q
    obtain ⟨v, e3, r3⟩ := r.get e2
    refine ⟨⟨vs, v, z, e3⟩, fun u H' y => ?_⟩
    obtain ⟨rfl, y⟩ := y
    have := y vs z
    rw [e3] at this
    cases this
    exact ⟨.inl rfl, R, r3⟩
  | enl n =>
    obtain ⟨a, rfl, q⟩ := W
    obtain ⟨ds, e1, e2⟩ := Option.map_eq_some_iff.mp (show (rdL h n).map (fun ds => ds[i]?.map fun d => D.tup [.int i, d]) = some (some x) from e)
    obtain ⟨d, e4, rfl⟩ := Option.map_eq_some_iff.mp e2
    obtain ⟨vs, z, r⟩ := R.rd e1 q
    obtain ⟨v, e3, r3⟩ := r.get e4
    refine ⟨⟨vs, v, z, e3⟩, fun u H' y => ?_⟩
    obtain ⟨T, x, rfl, hT, rfl, y⟩ := y
    have := y vs z
    rw [e3] at this
    cases this
    have X : Ext ρ H [] (upd H T (.tup [.int (i : Nat), v])) := Ext.laid hT
    have rr := Rep.keep X R.nt _ _ r3
    rw [List.append_nil] at rr
    exact ⟨.inr ⟨T, _, hT, rfl⟩, R.laid hT, T, _, rfl, SqT.of upd_same, _, _, rfl, rfl, _, _, rfl, rr, rfl⟩
theorem Wk.stop (R : RelH ga ρ h H) (W : Wk ga ρ H J w) (e : srcAt h i w = some none) : J.stop i H := by
  cases w with
  | fix ds =>
    have e : ds[i]? = none := by simpa [srcAt] using e
    rcases W with ⟨a, vs, rfl, q, r⟩ | ⟨lo, n, rfl, rfl⟩ | ⟨lo, c, n, rfl, rfl⟩ | ⟨s, rfl, rfl⟩
    · exact ⟨vs, q, by rw [← r.len]; exact List.getElem?_eq_none_iff.mp e⟩
    · exact rngD_end e
    · exact rngD_end e
    · show s.cps.size ≤ i
      have := List.getElem?_eq_none_iff.mp e
      simpa using this
  | lst n =>
    obtain ⟨a, rfl, q⟩ := W
    obtain ⟨ds, e1, e2⟩ := Option.map_eq_some_iff.mp (show (rdL h n).map (fun ds => ds[i]?) = some none from e)
    obtain ⟨vs, z, r⟩ := R.rd e1 q
    exact ⟨vs, z, by rw [← r.len]; exact List.getElem?_eq_none_iff.mp e2⟩
  | enl n =>
    obtain ⟨a, rfl, q⟩ := W
    obtain ⟨ds, e1, e2⟩ := Option.map_eq_some_iff.mp (show (rdL h n).map (fun ds => ds[i]?.map fun d => D.tup [.int i, d]) = some none from e)
    obtain ⟨vs, z, r⟩ := R.rd e1 q
    rw [Option.map_eq_none_iff] at e2
    exact ⟨vs, z, by rw [← r.len]; exact List.getElem?_eq_none_iff.mp e2⟩
theorem Laid.ext (L : Laid H H') : Ext ρ H [] H' := by
  rcases L with rfl | ⟨T, vs, hn, rfl⟩
  · exact Ext.refl
  · exact Ext.laid hn
end

/-! ### what a clause walks -/
def PostI (Z : Cn) (σ : L2.St) (ρ : List Addr) (H : Hp) (R : Out Src) (Q : It → Hp → Prop) : Prop := match R with
  | .no => False
  | .ok w h' => ∀ J H' m, Ext ρ H m H' → RelH Z.ga (ρ ++ m) h' H' → Wk Z.ga (ρ ++ m) H' J w → Q J H'
  | .ex x h' => ∀ H' m, Ext ρ H m H' → RelH Z.ga (ρ ++ m) h' H' → Z.W x (ρ ++ m) h' σ H'
def tIv (Z : Cn) (it : IT) : TI := fun σ H Q => ∃ ρ l h, RelS Z.ga ρ H l σ ∧ RelH Z.ga ρ h H ∧ PostI Z σ ρ H (evI Z.G Z.Φ it l h) Q
section
variable {X : Cx} {Z : Cn} {pos : Pos} {a b c e tg : Expr} {ca cb cc ce : CE} {σ : L2.St} {it : IT}
theorem PostI.to {ρ m : List Addr} {H H1 : Hp} {h1 : Hea} {R : Out Src} {Q : It → Hp → Prop} (P : PostI Z σ ρ H R Q) (X : Ext ρ H m H1) (R1 : RelH Z.ga (ρ ++ m) h1 H1) : PostI Z σ (ρ ++ m) H1 R Q := by
  cases R with
  | no => exact P
  | ok d h' =>
    intro v H' m' X' R' r
    rw [List.append_assoc] at R' r
    exact P v H' (m ++ m') (X.trans R1.nt X') R' r
  | ex x h' =>
    intro H' m' X' R'
    rw [List.append_assoc] at R' ⊢
    exact P H' (m ++ m') (X.trans R1.nt X') R'
theorem PostI.now {ρ : List Addr} {H : Hp} {h : Hea} {w : Src} {J : It} {Q : It → Hp → Prop} (P : PostI Z σ ρ H (.ok w h) Q) (R : RelH Z.ga ρ h H) (r : Wk Z.ga ρ H J w) : Q J H := by
  have e : ρ ++ [] = ρ := List.append_nil ρ
  exact P J H [] Ext.refl (by rw [e]; exact R) (by rw [e]; exact r)
theorem ev_seqI {ρ : List Addr} {H : Hp} {h : Hea} {l : Loc} {f : D → Hea → Out Src} {Q : It → Hp → Prop} {Q' : VK} (S : RelS Z.ga ρ H l σ) (R : RelH Z.ga ρ h H) (P : PostI Z σ ρ H ((evE Z.G Z.Φ ca l h).bind f) Q)
    (k : ∀ x h1 v H1 m, evE Z.G Z.Φ ca l h = .ok x h1 → Ext ρ H m H1 → RelH Z.ga (ρ ++ m) h1 H1 → RelS Z.ga (ρ ++ m) H1 l σ → Rep Z.ga (ρ ++ m) H1 x v → PostI Z σ (ρ ++ m) H1 (f x h1) Q → Q' v H1) : tEv Z ca σ H Q' :=
  tEv_seq (PP := fun ρ H R => PostI Z σ ρ H R Q) S R P (fun _ _ z => z) (fun _ _ z => z) (fun _ _ _ _ p X R1 => p.to X R1) k
theorem PI.bad {wi : TI} (w : ∀ σ H Q, ¬ wi σ H Q) : PI X tg e wi := ⟨fun pins s σ H Q I q => (w _ _ _ q).elim⟩
theorem mi_seq (hK : X.K = Z.ga.K) (ha : PE X e (tEv Z ca)) : PI X tg e (tIv Z (.seq ca)) := by
  refine ⟨fun pins s σ H Q I q => ?_⟩
  obtain ⟨ρ, l, h, S, R, P⟩ := q
  simp only [evI] at P
  cases ev : evE Z.G Z.Φ ca l h with
  | no => rw [ev] at P; exact P.elim
  | ex x h1 =>
    refine (pi_list ha).run pins s σ H Q I ?_
    exact ev_seqI S R P fun x h1 v H1 m q => by rw [ev] at q; cases q
  | ok x h1 =>
    have P' := P
    rw [ev] at P'
    simp only [Out.bind_ok] at P'
    cases x with
    | tup ds =>
      refine (pi_tup ha).run pins s σ H Q I (ev_seqI S R P fun x h1 v H1 m q X1 R1 S1 r1 P1 => ?_)
      rw [ev] at q
      cases q
      obtain ⟨p, vs, rfl, q2, r2⟩ := r1
      refine ⟨p, rfl, ⟨vs, by rw [hK]; exact q2⟩, PostI.now (J := Itt X.K p) P1 R1 (.inl ⟨p, vs, by rw [hK], q2, r2⟩)⟩
    | ref n =>
      refine (pi_list ha).run pins s σ H Q I (ev_seqI S R P fun x h1 v H1 m q X1 R1 S1 r1 P1 => ?_)
      rw [ev] at q
      cases q
      obtain ⟨p, rfl, q2⟩ := r1
      simp only [walkD] at P1
      cases e2 : rdL h1 n with
      | none => rw [e2] at P1; exact P1.elim
      | some ds =>
        rw [e2] at P1
        obtain ⟨vs, z, _⟩ := R1.rd e2 q2
        exact ⟨p, rfl, ⟨vs, by rw [hK]; exact z⟩, PostI.now (J := Itl X.K p) P1 R1 ⟨p, by rw [hK], q2⟩⟩
    | str x =>
      refine (pi_str ha).run pins s σ H Q I (ev_seqI S R P fun x h1 v H1 m q X1 R1 S1 r1 P1 => ?_)
      rw [ev] at q
      cases q
      have P2 : PostI Z σ (ρ ++ m) H1 (lift (if x.length ≤ SZ then some (Src.fix (x.cps.toList.map fun c => .str ⟨#[c]⟩)) else none) h1) Q := P1
      split at P2
      · exact ⟨x, r1, PostI.now P2 R1 (.inr (.inr (.inr ⟨x, rfl, rfl⟩)))⟩
      · exact P2.elim
    | _ => exact P'.elim
theorem ev_seqsI {ρ : List Addr} {H : Hp} {h : Hea} {l : Loc} {cs : List CE} {f : List D → Hea → Out Src} {Q : It → Hp → Prop} {Q' : List V → Hp → Prop} (S : RelS Z.ga ρ H l σ) (R : RelH Z.ga ρ h H) (P : PostI Z σ ρ H ((evEs Z.G Z.Φ cs l h).bind f) Q)
    (k : ∀ x h1 v H1 m, evEs Z.G Z.Φ cs l h = .ok x h1 → Ext ρ H m H1 → RelH Z.ga (ρ ++ m) h1 H1 → RelS Z.ga (ρ ++ m) H1 l σ → Reps Z.ga (ρ ++ m) H1 x v → PostI Z σ (ρ ++ m) H1 (f x h1) Q → Q' v H1) : tAv Z cs σ H Q' := by
  refine ⟨ρ, l, h, S, R, ?_⟩
  cases e : evEs Z.G Z.Φ cs l h with
  | no => rw [e] at P; exact P.elim
  | ok x h1 =>
    rw [e] at P
    intro v H' m X R1 r
    exact k x h1 v H' m e X R1 (S.keep X R.nt) r (PostI.to P X R1)
  | ex x h1 =>
    rw [e] at P
    exact P
theorem smallR_ok {i : Int} (h : smallR i = true) : -(2 ^ 62) ≤ i ∧ i < 2 ^ 62 := by
  unfold smallR at h
  rw [Bool.and_eq_true, decide_eq_true_eq, decide_eq_true_eq] at h
  exact h
theorem mi_rng1 {p : Pos} (hg : Gl X "range") (hm : X.mg "range" = none) (ha : PA X [a] (tAv Z [ca])) (hs : starEach [a] X.env = [(false, eval a X.env)]) : PI X tg (.Call (.Name "range" p) [a] [] pos) (tIv Z (.rng [ca])) := by
  refine ⟨fun pins s σ H Q I q => (pi_range1 hg hm ha hs).run pins s σ H Q I ?_⟩
  obtain ⟨ρ, l, h, S, R, P⟩ := q
  simp only [evI] at P
  refine ev_seqsI S R P fun x h1 v H1 m q X1 R1 S1 r1 P1 => ?_
  split at P1
  · next j =>
    split at P1
    · next hs =>
      obtain ⟨w, rfl, r2⟩ := r1.one
      exact ⟨j, by rw [show w = .int j from r2], (smallR_ok hs).1, (smallR_ok hs).2, P1.now R1 (.inr (.inl ⟨_, _, rfl, rfl⟩))⟩
    · exact P1.elim
  · simp [evEs] at q
    cases e : evE Z.G Z.Φ ca l h <;> rw [e] at q <;> simp at q
  · simp [evEs] at q
    cases e : evE Z.G Z.Φ ca l h <;> rw [e] at q <;> simp at q
  · exact P1.elim
theorem ev_len {Z : Cn} : ∀ {cs : List CE} {l : Loc} {h : Hea} {x : List D} {h1 : Hea}, evEs Z.G Z.Φ cs l h = .ok x h1 → x.length = cs.length
  | [], l, h, x, h1, e => by cases e; rfl
  | c :: cs, l, h, x, h1, e => by
    simp only [evEs] at e
    cases e1 : evE Z.G Z.Φ c l h with
    | no => rw [e1] at e; cases e
    | ex => rw [e1] at e; cases e
    | ok y h2 =>
      rw [e1] at e
      simp only [Out.bind_ok] at e
      cases e2 : evEs Z.G Z.Φ cs l h2 with
      | no => rw [e2] at e; cases e
      | ex => rw [e2] at e; cases e
      | ok ys h3 =>
        rw [e2] at e
        cases e
        rw [List.length_cons, List.length_cons, ev_len e2]
theorem mi_rng2 {p : Pos} (hg : Gl X "range") (hm : X.mg "range" = none) (ha : PA X [a, b] (tAv Z [ca, cb])) (hs : starEach [a, b] X.env = [(false, eval a X.env), (false, eval b X.env)]) (hs2 : starEach [b] X.env = [(false, eval b X.env)]) :
    PI X tg (.Call (.Name "range" p) [a, b] [] pos) (tIv Z (.rng [ca, cb])) := by
  refine ⟨fun pins s σ H Q I q => (pi_range2 hg hm ha hs hs2).run pins s σ H Q I ?_⟩
  obtain ⟨ρ, l, h, S, R, P⟩ := q
  simp only [evI] at P
  refine ev_seqsI S R P fun x h1 v H1 m q X1 R1 S1 r1 P1 => ?_
  have hl := ev_len q
  split at P1
  · cases hl
  · next i j =>
    split at P1
    · next hs =>
      rw [Bool.and_eq_true] at hs
      obtain ⟨w, z, rfl, r2, r3⟩ := r1.two
      exact ⟨i, j, by rw [show w = .int i from r2, show z = .int j from r3], ⟨(smallR_ok hs.1).1, (smallR_ok hs.1).2, (smallR_ok hs.2).1, (smallR_ok hs.2).2⟩, P1.now R1 (.inr (.inl ⟨_, _, rfl, rfl⟩))⟩
    · exact P1.elim
  · cases hl
  · exact P1.elim
theorem mi_enm {p tpos : Pos} {elts : List Expr} {kk : Nat} (hK : X.K = Z.ga.K) (hg : Gl X "enumerate") (hm : X.mg "enumerate" = none) (ha : PA X [e] (tAv Z [ca])) (hs : starEach [e] X.env = [(false, eval e X.env)]) :
    PI X (.Tuple elts kk tpos) (.Call (.Name "enumerate" p) [e] [] pos) (tIv Z (.enm ca)) := by
  refine ⟨fun pins s σ H Q I q => (pi_enum hg hm ha hs).run pins s σ H Q I ?_⟩
  obtain ⟨ρ, l, h, S, R, P⟩ := q
  simp only [evI] at P
  have P2 : PostI Z σ ρ H ((evEs Z.G Z.Φ [ca] l h).bind fun ds h1 => match ds with
    | [x] => (lift (enumW h1 x) h1)
    | _ => .no) Q := by
    simp only [evEs, Out.bind_assoc, Out.bind_ok]
    exact P
  refine ev_seqsI S R P2 fun x h1 v H1 m q X1 R1 S1 r1 P1 => ?_
  split at P1
  · next d =>
    obtain ⟨w, rfl, r2⟩ := r1.one
    cases d with
    | ref n =>
      obtain ⟨p, rfl, q2⟩ := r2
      simp only [enumW] at P1
      cases e2 : rdL h1 n with
      | none => rw [e2] at P1; exact P1.elim
      | some ds =>
        rw [e2] at P1
        obtain ⟨vs, z, _⟩ := R1.rd e2 q2
        exact ⟨p, vs, rfl, by rw [hK]; exact z, PostI.now (J := Ite X.K p) P1 R1 ⟨p, by rw [hK], q2⟩⟩
    | _ => exact P1.elim
  · exact P1.elim
end
end Mi
end

section
set_option linter.all false
set_option Elab.async false
set_option maxHeartbeats 1000000
/-! MiLc: targets, comprehensions. -/
namespace Mi
open PySem PySem.Spec PyProof.Rows L2

def Tg.slots : Tg → List Nat
  | .nm i => [i]
  | .tp is => is
/-- a target -/
def tGv (Z : Cn) (g : Tg) : TG := fun v σ H Q => ∃ ρ l h x, RelS Z.ga ρ H l σ ∧ RelH Z.ga ρ h H ∧ Rep Z.ga ρ H x v ∧ ∃ l1, bindT h l x g = some l1 ∧
  ∀ σ1, RelS Z.ga ρ H l1 σ1 → (∀ vs, (∀ i ∈ g.slots, i ∈ vs) → wipe σ1 vs = wipe σ vs) → Q σ1 H
theorem wipe_set {σ : L2.St} {i : Nat} {o : Option V} : ∀ {vs : List Nat}, i ∈ vs → wipe (σ.set i o) vs = wipe σ vs := by
  have sub : ∀ {vs : List Nat} (σ : L2.St) (o : Option V), i ∉ vs → wipe (σ.set i o) vs = (wipe σ vs).set i o := by
    intro vs
    induction vs with
    | nil => intro σ o _; rfl
    | cons v vs ih =>
      intro σ o hn
      have h1 : v ≠ i := fun z => hn (by simp [z])
      have h2 : i ∉ vs := fun z => hn (by simp [z])
      show (wipe (σ.set i o) vs).set v none = ((wipe σ vs).set v none).set i o
      rw [ih σ o h2, List.set_comm _ _ (Ne.symm h1)]
  intro vs
  induction vs with
  | nil => intro h; cases h
  | cons v vs ih =>
    intro h
    show (wipe (σ.set i o) vs).set v none = (wipe σ vs).set v none
    by_cases hm : i ∈ vs
    · rw [ih hm]
    · have hv : i = v := by
        rcases List.mem_cons.mp h with z | z
        · exact z
        · exact absurd z hm
      subst hv
      rw [sub σ o hm, List.set_set]
theorem wipe_wipe (σ : L2.St) : ∀ vs : List Nat, wipe (wipe σ vs) vs = wipe σ vs
  | [] => rfl
  | v :: vs => by
    have e : wipe ((wipe σ vs).set v none) (v :: vs) = wipe (wipe σ vs) (v :: vs) := wipe_set (by simp)
    show wipe ((wipe σ vs).set v none) (v :: vs) = _
    rw [e]
    show (wipe (wipe σ vs) vs).set v none = _
    rw [wipe_wipe σ vs]
    rfl
section
variable {ga : GA} {ρ : List Addr} {H : Hp} {l : Loc} {σ : L2.St}
theorem RelS.set {i : Nat} {d : D} {v : V} (S : RelS ga ρ H l σ) (r : Rep ga ρ H d v) : RelS ga ρ H (l.set i (some d)) (σ.set i (some v)) := by
  refine ⟨by simp [S.len], fun j d' e => ?_⟩
  by_cases hj : i = j
  · subst hj
    have hl : i < l.length := by
      have := (List.getElem?_eq_some_iff.mp e).1
      simpa using this
    rw [List.getElem?_set_self hl] at e
    cases e
    exact ⟨v, by rw [List.getElem?_set_self (by rw [← S.len]; exact hl)], r⟩
  · rw [List.getElem?_set_ne hj] at e
    obtain ⟨w, e1, r1⟩ := S.at_ j d' e
    exact ⟨w, by rw [List.getElem?_set_ne hj]; exact e1, r1⟩
theorem RelS.wipe (S : RelS ga ρ H l σ) : ∀ (vs : List Nat), RelS ga ρ H (wipeL l vs) (wipe σ vs)
  | [] => S
  | v :: vs => by
    have S1 := S.wipe vs
    refine ⟨by simp [wipeL, L2.wipe, S1.len], fun j d' e => ?_⟩
    simp only [wipeL, L2.wipe] at e ⊢
    by_cases hj : v = j
    · subst hj
      by_cases hl : v < (wipeL l vs).length
      · rw [List.getElem?_set_self hl] at e; cases e
      · rw [List.getElem?_eq_none (by simpa using hl)] at e; cases e
    · rw [List.getElem?_set_ne hj] at e ⊢
      exact S1.at_ j d' e
end
section
variable {X : Cx} {Z : Cn} {pos : Pos} {σ : L2.St}
theorem mg_nm {i : Nat} {x : Str} (h : PG X (.Name x pos) (gName i)) : PG X (.Name x pos) (tGv Z (.nm i)) := by
  refine ⟨fun pins s σ H v u Q I r q => h.run pins s σ H v u Q I r ?_⟩
  obtain ⟨ρ, l, h, x, S, R, rx, l1, e, k⟩ := q
  cases e
  exact k _ (S.set rx) fun vs hv => wipe_set (hv i (by simp [Tg.slots]))
/-- names from the left -/
def gNms : List Nat → TGs
  | [] => gNil
  | i :: is => gCons (gName i) (gNms is)
theorem gNms_ok : ∀ {is : List Nat} {ga : GA} {ρ : List Addr} {H : Hp} {l : Loc} {σ : L2.St} {ds : List D} {vs : List V} {Q : L2.St → Hp → Prop}, RelS ga ρ H l σ → Reps ga ρ H ds vs → ds.length = is.length →
    (∀ σ1, RelS ga ρ H (setAll l is ds) σ1 → (∀ ws, (∀ i ∈ is, i ∈ ws) → wipe σ1 ws = wipe σ ws) → Q σ1 H) → gNms is vs σ H Q
  | [], ga, ρ, H, l, σ, ds, vs, Q, S, r, e, k => by
    cases ds with
    | cons => cases e
    | nil => exact ⟨r, k σ S fun _ _ => rfl⟩
  | i :: is, ga, ρ, H, l, σ, ds, vs, Q, S, r, e, k => by
    cases ds with
    | nil => cases e
    | cons d ds =>
      obtain ⟨v, t, rfl, r1, r2⟩ := r
      refine ⟨v, t, rfl, ?_⟩
      refine gNms_ok (S.set r1) r2 (by simpa using e) fun σ1 S1 hw => k σ1 S1 fun ws hws => ?_
      rw [hw ws fun j hj => hws j (by simp [hj]), wipe_set (hws i (by simp))]
theorem mg_tp {is : List Nat} {es : List Expr} {k : Nat} (hK : X.K = Z.ga.K) (hc : X.calm = true) (h : PGs X es (gNms is)) (hn : (assignEach es X.env).length = is.length) (hst : (assignEach es X.env).findIdx? (·.1) = none) : PG X (.Tuple es k pos) (tGv Z (.tp is)) := by
  refine ⟨fun pins s σ H v u Q I r q => ?_⟩
  obtain ⟨ρ, l, h, x, S, R, rx, l1, e, k⟩ := q
  obtain ⟨ds, e1, e2⟩ := Option.bind_eq_some_iff.mp (show ((seqD h x).bind fun ds => if ds.length = is.length then some (setAll l is ds) else none) = some l1 from e)
  split at e2
  · next hl =>
    cases e2
    cases x with
    | tup ds' =>
      obtain rfl : ds' = ds := Option.some.inj e1
      obtain ⟨p, vs, rfl, q2, r2⟩ := rx
      refine (pg_tup hc ‹_› hn hst).run pins s σ H _ u Q I r ⟨p, vs, rfl, by rw [hK]; exact q2, by rw [← r2.len]; exact hl, ?_⟩
      exact gNms_ok S r2 hl fun σ1 S1 hw => k σ1 S1 hw
    | ref n =>
      obtain ⟨p, rfl, q2⟩ := rx
      obtain ⟨vs, z, r2⟩ := R.rd (show rdL h n = some ds from e1) q2
      refine (pg_unl hc ‹_› hn hst).run pins s σ H _ u Q I r ⟨p, vs, rfl, by rw [hK]; exact z, by rw [← r2.len]; exact hl, ?_⟩
      exact gNms_ok S r2 hl fun σ1 S1 hw => k σ1 S1 hw
    | _ => cases e1
  · cases e2

/-! ### comprehensions -/
theorem Ext.off {ρ m : List Addr} {H H' : Hp} {a : Addr} {o : HO} (X : Ext ρ H m H') (hn : H a = none) : Ext ρ H m (upd H' a o) :=
  ⟨X.fresh, fun b u hb e => by
    have : b ≠ a := fun z => by rw [z, hn] at e; cases e
    rw [upd_ne this]; exact X.keep b u hb e⟩
theorem Reps.snoc {ga : GA} {ρ : List Addr} {H : Hp} {ds : List D} {vs : List V} {d : D} {v : V} (r : Reps ga ρ H ds vs) (q : Rep ga ρ H d v) : Reps ga ρ H (ds ++ [d]) (vs ++ [v]) := r.append ⟨v, [], rfl, q, rfl⟩
theorem noX_some {α β : Type} {o : Out α} {f : α → Hea → Out β} {R : Out β} (e : (noX o).bind f = R) (hR : R ≠ .no) : ∃ a h, o = .ok a h ∧ f a h = R := by
  cases o with
  | no => exact absurd e.symm hR
  | ex x h => exact absurd e.symm hR
  | ok a h => exact ⟨a, h, rfl, e⟩
/-- the block's own context -/
def Cn.blk (Z : Cn) : Cn := { Z with Wx := fun _ _ _ _ => False }
theorem tEv_ok {σ : L2.St} {ρ : List Addr} {H : Hp} {h h1 : Hea} {l : Loc} {c : CE} {d : D} {Q : VK} (S : RelS Z.ga ρ H l σ) (R : RelH Z.ga ρ h H) (e : evE Z.G Z.Φ c l h = .ok d h1)
    (k : ∀ v H1 m, Ext ρ H m H1 → RelH Z.ga (ρ ++ m) h1 H1 → Rep Z.ga (ρ ++ m) H1 d v → Q v H1) : tEv Z c σ H Q := by
  refine ⟨ρ, l, h, S, R, ?_⟩
  rw [e]
  exact fun v H' m X R1 r => k v H' m X R1 r
theorem tTv_ok {σ : L2.St} {ρ : List Addr} {H : Hp} {h h1 : Hea} {l : Loc} {c : CE} {d : D} {b : Bool} {Q : Bool → Hp → Prop} (S : RelS Z.ga ρ H l σ) (R : RelH Z.ga ρ h H) (e : evE Z.G Z.Φ c l h = .ok d h1) (e2 : truD h1 d = some b)
    (k : ∀ H1 m, Ext ρ H m H1 → RelH Z.ga (ρ ++ m) h1 H1 → Q b H1) : tTv Z c σ H Q := by
  refine ⟨ρ, l, h, S, R, ?_⟩
  rw [e]
  simp only [Out.bind_ok, asD, e2, lift_some]
  exact fun H' m X R1 => k H' m X R1
structure WL (Z : Cn) (Q : VK) (σ σw : L2.St) (lw : Loc) (g : Tg) (ec ee : Loc → Hea → Out D) (w : Src) (J : It) (ρ1 : List Addr) (H1 : Hp) (Dn : Addr) (i k : Nat) (H : Hp) (mm : List Addr) (h' : Hea) (acc : List D) (va : List V) : Prop where
  ext : Ext ρ1 H1 mm H
  nD : Dn ∉ ρ1 ++ mm
  eD : H Dn = some (.lst va)
  rel : RelH Z.ga (ρ1 ++ mm) h' H
  ra : Reps Z.ga (ρ1 ++ mm) H acc va
  wk : Wk Z.ga (ρ1 ++ mm) H J w
  rs : RelS Z.ga (ρ1 ++ mm) H lw σw
  post : Post Z σ ρ1 H1 ((lcGo g ec ee w lw k i acc h').bind fun ds h2 => new (.lst ds) h2) Q
theorem Post.some {ρ : List Addr} {H : Hp} {R : Out D} {Q : VK} (P : Post Z σ ρ H R Q) : R ≠ .no := by
  rintro rfl
  exact P
/-- one item -/
theorem tLc_ok {it : IT} {g : Tg} {cc ce : CE} {own : List Nat} {σ : L2.St} {H : Hp} {Q : VK} (ho : ∀ i ∈ g.slots, i ∈ own) (q : tEv Z (.lc own g it cc ce) σ H Q) : tLc (tIv Z it) (tGv Z.blk g) (tTv Z.blk cc) (tEv Z.blk ce) own σ H Q := by
  obtain ⟨ρ, l, h, S, R, P⟩ := q
  simp only [evE] at P
  refine ⟨ρ, l, h, S, R, ?_⟩
  cases ei : evI Z.G Z.Φ it l h with
  | no => rw [ei] at P; exact P.elim
  | ex x h1 => rw [ei] at P; exact P
  | ok w h1 =>
    rw [ei] at P
    simp only [Out.bind_ok] at P
    intro J H1 m X1 R1 W1 Dn hD
    have P1 := P.to X1 R1
    have S1 := S.keep X1 R.nt
    generalize ρ ++ m = ρ1 at P1 S1 R1 W1
    refine ⟨fun i k H => ∃ mm h' acc va, WL Z Q σ (L2.wipe σ own) (wipeL l own) g (evE Z.G Z.Φ cc) (evE Z.G Z.Φ ce) w J ρ1 H1 Dn i k H mm h' acc va, ⟨FUEL, [], h1, [], [], ?_⟩, ?_⟩
    · have e0 : ρ1 ++ [] = ρ1 := List.append_nil ρ1
      have nD : Dn ∉ ρ1 := fun z => by
        obtain ⟨⟨u, eu⟩, _⟩ := R1.nt Dn z
        rw [hD] at eu; cases eu
      have XL : Ext ρ1 H1 [] (upd H1 Dn (.lst [])) := Ext.laid hD
      refine ⟨XL, by rw [e0]; exact nD, upd_same, by rw [e0]; exact R1.laid hD, rfl, ?_, ?_, P1⟩
      · exact Wk.mono (fun _ _ q => sqT_keep XL R1.nt q) W1
      · exact (S1.wipe own).keep XL R1.nt
    · rintro i k H ⟨mm, h', acc, va, C⟩
      have ns := C.post.some
      cases k with
      | zero => exact absurd rfl ns
      | succ k =>
      have P2 := C.post
      unfold lcGo at P2 ns
      cases es : srcAt h' i w with
      | none => rw [es] at ns; exact absurd rfl ns
      | some o =>
        rw [es] at P2 ns
        cases o with
        | none =>
          refine .inl ⟨C.wk.stop C.rel es, ?_⟩
          have R3 := C.rel.adopt C.nD C.eD C.ra
          have X3 : Ext ρ1 H1 (mm ++ [Dn]) H := ⟨fun a ha => by
            rcases List.mem_append.mp ha with ha | ha
            · exact C.ext.fresh a ha
            · rw [List.mem_singleton.mp ha]; exact hD, C.ext.keep⟩
          rw [List.append_assoc] at R3
          refine P2 _ H (mm ++ [Dn]) X3 R3 ⟨Dn, rfl, ?_⟩
          rw [← List.append_assoc, ← C.rel.len]
          simp
        | some x =>
          obtain ⟨go, yl⟩ := C.wk.go C.rel es
          refine .inr ⟨go, fun H' => ∃ mm h' acc va, WL Z Q σ (L2.wipe σ own) (wipeL l own) g (evE Z.G Z.Φ cc) (evE Z.G Z.Φ ce) w J ρ1 H1 Dn (i + 1) k H' mm h' acc va, fun H' z => ⟨k, Nat.lt_succ_self k, z⟩, fun v H' y => ?_⟩
          obtain ⟨ly, R4, rx⟩ := yl v H' y
          have X4 : Ext (ρ1 ++ mm) H [] H' := ly.ext
          have e4 : (ρ1 ++ mm) ++ [] = ρ1 ++ mm := List.append_nil _
          have eD4 : H' Dn = some (.lst va) := X4.keep Dn _ C.nD C.eD
          have S4 := C.rs.keep X4 C.rel.nt
          have ra4 := C.ra.keep X4 C.rel.nt
          have wk4 := Wk.mono (m := []) (fun _ _ q => sqT_keep X4 C.rel.nt q) C.wk
          have XX4 := C.ext.trans C.rel.nt X4
          rw [e4] at S4 ra4 wk4
          rw [List.append_nil] at XX4
          cases eb : bindT h' (wipeL l own) x g with
          | none => simp only [eb] at ns; exact absurd rfl ns
          | some l1 =>
            simp only [eb] at P2 ns
            refine ⟨ρ1 ++ mm, wipeL l own, h', x, S4, R4, rx, l1, eb, fun σ2 S2 hw => ⟨(hw own ho).trans (wipe_wipe σ own), ?_⟩⟩
            obtain ⟨b, h5, ec, P5⟩ : ∃ b h5, evE Z.G Z.Φ cc l1 h' = .ok b h5 ∧ Post Z σ ρ1 H1 (Out.bind (match truD h5 b with
              | none => .no
              | some true => (noX (evE Z.G Z.Φ ce l1 h5)).bind fun d h2 => if acc.length < SZ then lcGo g (evE Z.G Z.Φ cc) (evE Z.G Z.Φ ce) w (wipeL l own) k (i + 1) (acc ++ [d]) h2 else .no
              | some false => lcGo g (evE Z.G Z.Φ cc) (evE Z.G Z.Φ ce) w (wipeL l own) k (i + 1) acc h5) fun ds h2 => new (.lst ds) h2) Q := by
              cases ec : evE Z.G Z.Φ cc l1 h' with
              | no => rw [ec] at P2; exact P2.elim
              | ex => rw [ec] at P2; exact P2.elim
              | ok b h5 => rw [ec] at P2; exact ⟨b, h5, rfl, P2⟩
            cases et : truD h5 b with
            | none => rw [et] at P5; exact P5.elim
            | some t =>
              rw [et] at P5
              refine tTv_ok (Z := Z.blk) S2 R4 ec et fun H5 m5 X5 R5 => ?_
              have R5 : RelH Z.ga (ρ1 ++ mm ++ m5) h5 H5 := R5
              have eD5 : H5 Dn = some (.lst va) := X5.keep Dn _ C.nD eD4
              have nD5 : Dn ∉ ρ1 ++ mm ++ m5 := fun z => by
                rcases List.mem_append.mp z with z | z
                · exact C.nD z
                · rw [X5.fresh Dn z] at eD4; cases eD4
              have S5 := S4.keep X5 R4.nt
              have ra5 := ra4.keep X5 R4.nt
              have wk5 := Wk.mono (m := m5) (fun _ _ q => sqT_keep X5 R4.nt q) wk4
              have XX5 := XX4.trans R4.nt X5
              cases t with
              | false =>
                refine ⟨mm ++ m5, h5, acc, va, ?_⟩
                rw [List.append_assoc] at R5 nD5 S5 ra5 wk5
                exact ⟨XX5, nD5, eD5, R5, ra5, wk5, S5, P5⟩
              | true =>
                show tEv Z.blk ce σ2 H5 _
                obtain ⟨d, h6, e6, P6⟩ : ∃ d h6, evE Z.G Z.Φ ce l1 h5 = .ok d h6 ∧ Post Z σ ρ1 H1 (Out.bind (if acc.length < SZ then lcGo g (evE Z.G Z.Φ cc) (evE Z.G Z.Φ ce) w (wipeL l own) k (i + 1) (acc ++ [d]) h6 else .no) fun ds h2 => new (.lst ds) h2) Q := by
                  cases ec : evE Z.G Z.Φ ce l1 h5 with
                  | no => simp only [ec] at P5; exact P5.elim
                  | ex => simp only [ec] at P5; exact P5.elim
                  | ok b h5 => simp only [ec] at P5; exact ⟨b, h5, rfl, P5⟩
                split at P6
                · next hlt =>
                  have S2' := S2.keep X5 R4.nt
                  refine tEv_ok (Z := Z.blk) S2' R5 e6 fun v6 H6 m6 X6 R6 r6 => ⟨va, ?_, ?_, ?_⟩
                  · exact X6.keep Dn _ nD5 eD5
                  · rw [← C.ra.len, ← sz_eq]; exact hlt
                  · have R6 : RelH Z.ga (ρ1 ++ mm ++ m5 ++ m6) h6 H6 := R6
                    have r6 : Rep Z.ga (ρ1 ++ mm ++ m5 ++ m6) H6 d v6 := r6
                    have eD6 : H6 Dn = some (.lst va) := X6.keep Dn _ nD5 eD5
                    have nD6 : Dn ∉ ρ1 ++ mm ++ m5 ++ m6 := fun z => by
                      rcases List.mem_append.mp z with z | z
                      · exact nD5 z
                      · rw [X6.fresh Dn z] at eD5; cases eD5
                    have hS : ∀ b vs, SqT Z.ga.K H6 b vs → SqT Z.ga.K (upd H6 Dn (.lst (va ++ [v6]))) b vs := sqT_off eD6
                    have S6 := (S5.keep X6 R5.nt).mono (m := []) hS
                    have ra6 := ((ra5.keep X6 R5.nt).snoc r6).mono (m := []) hS
                    have wk6 := Wk.mono (m := []) hS (Wk.mono (m := m6) (fun _ _ q => sqT_keep X6 R5.nt q) wk5)
                    have XX6 := (XX5.trans (by rw [← List.append_assoc]; exact R5.nt) (by rw [← List.append_assoc]; exact X6)).off (o := .lst (va ++ [v6])) hD
                    have R7 := R6.off (ys := va ++ [v6]) nD6 eD6
                    rw [List.append_nil] at S6 ra6 wk6
                    have e6 : ρ1 ++ mm ++ m5 ++ m6 = ρ1 ++ ((mm ++ m5) ++ m6) := by simp
                    rw [e6] at S6 ra6 wk6 R7 nD6
                    exact ⟨(mm ++ m5) ++ m6, h6, acc ++ [d], va ++ [v6], XX6, nD6, upd_same, R7, ra6, wk6, S6, P6⟩
                · exact P6.elim
theorem me_lc {elt tg iter : Expr} {ifs : List Expr} {scope : Scope} {own : List (Str × Nat)} {it : IT} {g : Tg} {cc ce : CE} (hc : X.calm = true) (hN : X.N.Nodup) (hi : PI X tg iter (tIv Z it)) (ok : BlkOk X.N X.env.scope scope own) (ho : ∀ i ∈ g.slots, i ∈ own.map (·.2))
    (hg : ∀ (s : Shared) (H : Hp) (C : Addr) (cl : List (Str × Addr)) (fp : List Addr), PG (X.blk s H scope (compEnvC scope cl C X.env) fp) tg (tGv Z.blk g)) (ht : ∀ (s : Shared) (H : Hp) (C : Addr) (cl : List (Str × Addr)) (fp : List Addr), PTs (X.blk s H scope (compEnvC scope cl C X.env) fp) ifs (tTv Z.blk cc))
    (he : ∀ (s : Shared) (H : Hp) (C : Addr) (cl : List (Str × Addr)) (fp : List Addr), PE (X.blk s H scope (compEnvC scope cl C X.env) fp) elt (tEv Z.blk ce)) (hs : ∀ x, foldedSetIterable iter X.env x = pure x) :
    PE X (.ListComp elt [⟨tg, iter, ifs, 0⟩] scope pos) (tEv Z (.lc (own.map (·.2)) g it cc ce)) :=
  PE.imp (pe_lc hc hN hi ok hg ht he hs) fun _ _ _ q => tLc_ok ho q
theorem pts_yes {X : Cx} : PTs X [] (tTv Z (.lit (.bl true))) := by
  refine ⟨fun pins s σ H Q I q => pts_nil.run pins s σ H Q I ?_⟩
  obtain ⟨ρ, l, h, S, R, P⟩ := q
  exact PostB.now (h := h) (d := true) P R
end
end Mi
end

section
set_option linter.all false
set_option Elab.async false
set_option maxHeartbeats 1000000
/-! MiSt: statements. -/
namespace Mi
open PySem PySem.Spec PyProof.Rows L2

def Post1 (Z : Cn) (ρ : List Addr) (H : Hp) (Q : L2.St → Hp → Prop) (l : Loc) (h' : Hea) : Prop := ∀ σ' H' m, Ext ρ H m H' → RelH Z.ga (ρ ++ m) h' H' → RelS Z.ga (ρ ++ m) H' l σ' → Q σ' H'
def PostS (Z : Cn) (ρ : List Addr) (H : Hp) (R : Out Fl) (D : Ends) : Prop := match R with
  | .no => False
  | .ok (.nx l) h' => Post1 Z ρ H D.nx l h'
  | .ok (.bk l) h' => Post1 Z ρ H D.bk l h'
  | .ok (.ct l) h' => Post1 Z ρ H D.ct l h'
  | .ok (.rt d) h' => ∀ v H' m, Ext ρ H m H' → RelH Z.ga (ρ ++ m) h' H' → Rep Z.ga (ρ ++ m) H' d v → D.rt v H'
  | .ex x h' => ∀ σ' H' m, Ext ρ H m H' → RelH Z.ga (ρ ++ m) h' H' → Z.W x (ρ ++ m) h' σ' H'
/-- the readings of a statement, of several -/
def tSv (Z : Cn) (c : CS) : TS := fun D σ H => ∃ ρ l h, RelS Z.ga ρ H l σ ∧ RelH Z.ga ρ h H ∧ PostS Z ρ H (evS Z.G Z.Φ c l h) D
def tSs (Z : Cn) (cs : List CS) : TS := fun D σ H => ∃ ρ l h, RelS Z.ga ρ H l σ ∧ RelH Z.ga ρ h H ∧ PostS Z ρ H (evSs Z.G Z.Φ cs l h) D
theorem PS.imp {X : Cx} {e : Stmt} {t t' : TS} (h : PS X e t) (w : ∀ D σ H, t' D σ H → t D σ H) : PS X e t' := ⟨fun pins s σ H D I q => h.run pins s σ H D I (w _ _ _ q)⟩
theorem PSs.imp {X : Cx} {e : List Stmt} {t t' : TS} (h : PSs X e t) (w : ∀ D σ H, t' D σ H → t D σ H) : PSs X e t' := ⟨fun pins s σ H D I q => h.run pins s σ H D I (w _ _ _ q)⟩
theorem PS.bad {X : Cx} {e : Stmt} {t : TS} (w : ∀ D σ H, ¬ t D σ H) : PS X e t := ⟨fun pins s σ H D I q => (w _ _ _ q).elim⟩
section
variable {Z : Cn} {σ : L2.St} {ρ m : List Addr} {H H1 : Hp} {h h1 : Hea} {l : Loc} {c : CE} {Dz : Ends}
theorem Post1.to {Q : L2.St → Hp → Prop} {l : Loc} {h' : Hea} (P : Post1 Z ρ H Q l h') (X : Ext ρ H m H1) (R1 : RelH Z.ga (ρ ++ m) h1 H1) : Post1 Z (ρ ++ m) H1 Q l h' := by
  intro σ' H' m' X' R' S'
  rw [List.append_assoc] at R' S'
  exact P σ' H' (m ++ m') (X.trans R1.nt X') R' S'
theorem Post1.now {Q : L2.St → Hp → Prop} (P : Post1 Z ρ H Q l h) (R : RelH Z.ga ρ h H) (S : RelS Z.ga ρ H l σ) : Q σ H := by
  have e : ρ ++ [] = ρ := List.append_nil ρ
  exact P σ H [] Ext.refl (by rw [e]; exact R) (by rw [e]; exact S)
theorem PostS.to {R : Out Fl} (P : PostS Z ρ H R Dz) (X : Ext ρ H m H1) (R1 : RelH Z.ga (ρ ++ m) h1 H1) : PostS Z (ρ ++ m) H1 R Dz := by
  cases R with
  | no => exact P
  | ok f h' =>
    cases f with
    | nx l => exact Post1.to P X R1
    | bk l => exact Post1.to P X R1
    | ct l => exact Post1.to P X R1
    | rt d =>
      intro v H' m' X' R' r
      rw [List.append_assoc] at R' r
      exact P v H' (m ++ m') (X.trans R1.nt X') R' r
  | ex x h' =>
    intro σ' H' m' X' R'
    rw [List.append_assoc] at R' ⊢
    exact P σ' H' (m ++ m') (X.trans R1.nt X') R'
theorem PostS.some {R : Out Fl} (P : PostS Z ρ H R Dz) : R ≠ .no := by rintro rfl; exact P
theorem ev_seqS {f : D → Hea → Out Fl} {Q' : VK} (S : RelS Z.ga ρ H l σ) (R : RelH Z.ga ρ h H) (P : PostS Z ρ H ((evE Z.G Z.Φ c l h).bind f) Dz)
    (k : ∀ x h1 v H1 m, evE Z.G Z.Φ c l h = .ok x h1 → Ext ρ H m H1 → RelH Z.ga (ρ ++ m) h1 H1 → RelS Z.ga (ρ ++ m) H1 l σ → Rep Z.ga (ρ ++ m) H1 x v → PostS Z (ρ ++ m) H1 (f x h1) Dz → Q' v H1) : tEv Z c σ H Q' :=
  tEv_seq (PP := fun ρ H R => PostS Z ρ H R Dz) S R P (fun _ _ z => z) (fun _ _ z H' m X1 R1 => z σ H' m X1 R1) (fun _ _ _ _ p X R1 => p.to X R1) k
theorem ev_seqsS {cs : List CE} {f : List D → Hea → Out Fl} {Q' : List V → Hp → Prop} (S : RelS Z.ga ρ H l σ) (R : RelH Z.ga ρ h H) (P : PostS Z ρ H ((evEs Z.G Z.Φ cs l h).bind f) Dz)
    (k : ∀ x h1 v H1 m, evEs Z.G Z.Φ cs l h = .ok x h1 → Ext ρ H m H1 → RelH Z.ga (ρ ++ m) h1 H1 → RelS Z.ga (ρ ++ m) H1 l σ → Reps Z.ga (ρ ++ m) H1 x v → PostS Z (ρ ++ m) H1 (f x h1) Dz → Q' v H1) : tAv Z cs σ H Q' := by
  refine ⟨ρ, l, h, S, R, ?_⟩
  cases e : evEs Z.G Z.Φ cs l h with
  | no => rw [e] at P; exact P.elim
  | ok x h1 =>
    rw [e] at P
    intro v H' m X R1 r
    exact k x h1 v H' m e X R1 (S.keep X R.nt) r (PostS.to P X R1)
  | ex x h1 =>
    rw [e] at P
    exact fun H' m X1 R1 => P σ H' m X1 R1
theorem ev_seqT {f : Bool → Hea → Out Fl} {Q' : Bool → Hp → Prop} (S : RelS Z.ga ρ H l σ) (R : RelH Z.ga ρ h H) (P : PostS Z ρ H (((evE Z.G Z.Φ c l h).bind asD).bind f) Dz)
    (k : ∀ b h1 H1 m, Ext ρ H m H1 → RelH Z.ga (ρ ++ m) h1 H1 → RelS Z.ga (ρ ++ m) H1 l σ → PostS Z (ρ ++ m) H1 (f b h1) Dz → Q' b H1) : tTv Z c σ H Q' := by
  refine ⟨ρ, l, h, S, R, ?_⟩
  cases e : (evE Z.G Z.Φ c l h).bind asD with
  | no => rw [e] at P; exact P.elim
  | ok x h1 =>
    rw [e] at P
    intro H' m X R1
    exact k x h1 H' m X R1 (S.keep X R.nt) (PostS.to P X R1)
  | ex x h1 =>
    rw [e] at P
    exact fun H' m X1 R1 => P σ H' m X1 R1
end
section
variable {X : Cx} {Z : Cn} {pos pos' : Pos} {a b c e o : Expr} {ca cb cc co : CE} {st : Stmt} {rest : List Stmt} {cs : CS} {cr : List CS}
theorem ms_nil : PSs X [] (tSs Z []) := PSs.imp pss_nil fun D σ H ⟨ρ, l, h, S, R, P⟩ => Post1.now P R S
theorem ms_cons (h1 : PS X st (tSv Z cs)) (h2 : PSs X rest (tSs Z cr)) : PSs X (st :: rest) (tSs Z (cs :: cr)) := by
  refine PSs.imp (pss_cons h1 h2) fun D σ H ⟨ρ, l, h, S, R, P⟩ => ⟨ρ, l, h, S, R, ?_⟩
  simp only [evSs] at P
  cases e : evS Z.G Z.Φ cs l h with
  | no => rw [e] at P; exact P
  | ex x h1 => rw [e] at P; exact P
  | ok f h1 =>
    rw [e] at P
    cases f with
    | nx l1 => exact fun σ' H' m X1 R1 S1 => ⟨_, l1, h1, S1, R1, PostS.to P X1 R1⟩
    | rt d => exact P
    | bk l1 => exact P
    | ct l1 => exact P
theorem ms_pass : PS X (.Pass pos) (tSv Z .pass) := PS.imp ps_pass fun D σ H ⟨ρ, l, h, S, R, P⟩ => Post1.now P R S
theorem ms_brk : PS X (.Break pos) (tSv Z .brk) := PS.imp ps_break fun D σ H ⟨ρ, l, h, S, R, P⟩ => Post1.now P R S
theorem ms_cont : PS X (.Continue pos) (tSv Z .cont) := PS.imp ps_continue fun D σ H ⟨ρ, l, h, S, R, P⟩ => Post1.now P R S
theorem ms_exp (he : PE X e (tEv Z ca)) (hs : swapsWith e none pos.line X.env = pure false) : PS X (.Expr e pos) (tSv Z (.exp ca)) := by
  refine PS.imp (ps_expr he hs) fun D σ H ⟨ρ, l, h, S, R, P⟩ => ?_
  simp only [evS] at P
  exact ev_seqS S R P fun x h1 v H1 m e X1 R1 S1 r1 P1 => Post1.now P1 R1 S1
theorem ms_ret (he : PE X e (tEv Z ca)) : PS X (.Return (some e) pos) (tSv Z (.ret ca)) := by
  refine PS.imp (ps_ret he) fun D σ H ⟨ρ, l, h, S, R, P⟩ => ?_
  simp only [evS] at P
  refine ev_seqS S R P fun x h1 v H1 m e X1 R1 S1 r1 P1 => ?_
  have en : (ρ ++ m) ++ [] = ρ ++ m := List.append_nil _
  exact P1 v H1 [] Ext.refl (by rw [en]; exact R1) (by rw [en]; exact r1)
theorem ms_retN : PS X (.Return none pos) (tSv Z .retN) := by
  refine PS.imp ps_retN fun D σ H ⟨ρ, l, h, S, R, P⟩ => ?_
  have en : ρ ++ [] = ρ := List.append_nil _
  exact P .non H [] Ext.refl (by rw [en]; exact R) rfl
theorem ms_if {p q : List Stmt} {cp cq : List CS} (hc : PT X c (tTv Z cc)) (ha : PSs X p (tSs Z cp)) (hb : PSs X q (tSs Z cq)) : PS X (.If c p q pos) (tSv Z (.iff cc cp cq)) := by
  refine PS.imp (ps_if hc ha hb) fun D σ H ⟨ρ, l, h, S, R, P⟩ => ?_
  simp only [evS] at P
  rw [← Out.bind_assoc] at P
  refine ev_seqT S R P fun k h1 H1 m X1 R1 S1 P1 => ?_
  cases k with
  | true => exact ⟨_, l, h1, S1, R1, P1⟩
  | false => exact ⟨_, l, h1, S1, R1, P1⟩
/-- a name, a tuple of names -/
theorem ms_asg {i : Nat} {x : Str} (he : PE X e (tEv Z ca)) (hg : PG X (.Name x pos') (gName i)) (hs : swapsWithSole [.Name x pos'] e pos.line X.env = pure false) (hw : swappedStores [.Name x pos'] e X.env = pure none) : PS X (.Assign [.Name x pos'] e pos) (tSv Z (.asg i ca)) := by
  refine PS.imp (ps_asg he hg hs hw rfl) fun D σ H ⟨ρ, l, h, S, R, P⟩ => ?_
  simp only [evS] at P
  exact ev_seqS S R P fun x h1 v H1 m e X1 R1 S1 r1 P1 => Post1.now P1 R1 (S1.set r1)
theorem ms_asgT {is : List Nat} {es : List Expr} {k : Nat} (he : PE X e (tEv Z ca)) (hg : PG X (.Tuple es k pos') (tGv Z (.tp is))) (hs : swapsWithSole [.Tuple es k pos'] e pos.line X.env = pure false) (hw : swappedStores [.Tuple es k pos'] e X.env = pure none) : PS X (.Assign [.Tuple es k pos'] e pos) (tSv Z (.asgT is ca)) := by
  refine PS.imp (ps_asg he hg hs hw rfl) fun D σ H ⟨ρ, l, h, S, R, P⟩ => ?_
  simp only [evS] at P
  refine ev_seqS S R P fun x h1 v H1 m e X1 R1 S1 r1 P1 => ?_
  split at P1
  · next ds e2 =>
    split at P1
    · next hl =>
      refine ⟨_, l, h1, x, S1, R1, r1, setAll l is ds, ?_, fun σ1 S2 _ => Post1.now P1 R1 S2⟩
      show ((seqD h1 x).bind fun ds => if ds.length = is.length then some (setAll l is ds) else none) = _
      rw [e2]
      simp [hl]
    · exact P1.elim
  · exact P1.elim
theorem ms_asgP2 {i j : Nat} {x y : Str} {px py pt : Pos} {kt k2 pt2} {cas : List CE} (hc : X.calm = true) (hN : X.N.Nodup) (hi : X.N[i]? = some x) (hj : X.N[j]? = some y) (hij : i ≠ j)
    (hx : X.env.scope.names.lookup x = some .local) (hy : X.env.scope.names.lookup y = some .local) (ha : PA X [a, b] (tAv Z cas))
    (hw : swappedStores [.Tuple [.Name x px, .Name y py] kt pt] (.Tuple [a, b] k2 pt2) X.env = pure (some [x, y]))
    (hs : swapsWithSole [.Tuple [.Name x px, .Name y py] kt pt] (.Tuple [a, b] k2 pt2) pos.line X.env = pure false) :
    PS X (.Assign [.Tuple [.Name x px, .Name y py] kt pt] (.Tuple [a, b] k2 pt2) pos) (tSv Z (.asgP [i, j] cas)) := by
  refine PS.imp (ps_par hc hN hi hj hij hx hy ha hw hs) fun D σ H ⟨ρ, l, h, S, R, P⟩ => ?_
  simp only [evS] at P
  refine ev_seqsS S R P fun xs h1 vs H1 m e X1 R1 S1 r1 P1 => ?_
  split at P1
  · next hl =>
    match xs, hl, P1, r1 with
    | [d1, d2], hl, P1, r1 =>
      obtain ⟨v, w, rfl, q1, q2⟩ := r1.two
      exact ⟨v, w, rfl, Post1.now P1 R1 ((S1.set q1).set q2)⟩
  · exact P1.elim
theorem ms_asgP3 {i j k : Nat} {x y z : Str} {px py pz pt : Pos} {kt k2 pt2} {cas : List CE} (hc : X.calm = true) (hN : X.N.Nodup) (hi : X.N[i]? = some x) (hj : X.N[j]? = some y) (hk : X.N[k]? = some z) (hij : i ≠ j) (hik : i ≠ k) (hjk : j ≠ k)
    (hx : X.env.scope.names.lookup x = some .local) (hy : X.env.scope.names.lookup y = some .local) (hz : X.env.scope.names.lookup z = some .local) (ha : PA X [a, b, c] (tAv Z cas))
    (hw : swappedStores [.Tuple [.Name x px, .Name y py, .Name z pz] kt pt] (.Tuple [a, b, c] k2 pt2) X.env = pure (some [x, y, z]))
    (hs : swapsWithSole [.Tuple [.Name x px, .Name y py, .Name z pz] kt pt] (.Tuple [a, b, c] k2 pt2) pos.line X.env = pure false) :
    PS X (.Assign [.Tuple [.Name x px, .Name y py, .Name z pz] kt pt] (.Tuple [a, b, c] k2 pt2) pos) (tSv Z (.asgP [i, j, k] cas)) := by
  refine PS.imp (ps_par3 hc hN hi hj hk hij hik hjk hx hy hz ha hw hs) fun D σ H ⟨ρ, l, h, S, R, P⟩ => ?_
  simp only [evS] at P
  refine ev_seqsS S R P fun xs h1 vs H1 m e X1 R1 S1 r1 P1 => ?_
  split at P1
  · next hl =>
    match xs, hl, P1, r1 with
    | [d1, d2, d3], hl, P1, r1 =>
      obtain ⟨v, t, rfl, q1, q⟩ := r1
      obtain ⟨w, u, rfl, q2, q3⟩ := Reps.two q
      exact ⟨v, w, u, rfl, Post1.now P1 R1 (((S1.set q1).set q2).set q3)⟩
  · exact P1.elim

/-! ### fields, items -/
/-- what the classes tell of stores -/
structure SetF (Z : Cn) (X : Cx) (f : Str) : Prop where
  att : ∀ c, Z.G.att c f = true → Cls X.K (Z.ga.cls c) ∧ NoAttr X.K (Z.ga.cls c) f
theorem setF_ok {ρ : List Addr} {H : Hp} {h h' : Hea} {l : Loc} {σ : L2.St} {x d : D} {v w : V} {f : Str} {u : Unit} {Q : L2.St → Hp → Prop} (T : SetF Z X f) (R : RelH Z.ga ρ h H) (S : RelS Z.ga ρ H l σ) (rx : Rep Z.ga ρ H x v) (rd : Rep Z.ga ρ H d w) (e : setF Z.G.att x f d h = .ok u h') (P : Post1 Z ρ H Q l h') :
    ∃ a C dx fs, v = .ref a ∧ H a = some (.ins C dx fs) ∧ Cls X.K C ∧ NoAttr X.K C f ∧ fs.length < 900 ∧ Q σ (upd H a (.ins C dx (L2.putF f w fs))) := by
  unfold setF at e
  cases ei : insAt h x with
  | none => rw [ei] at e; cases e
  | some q =>
    obtain ⟨r, c, fs⟩ := q
    rw [ei] at e
    obtain ⟨rfl, e2⟩ := insAt_some ei
    obtain ⟨A0, rfl, e3⟩ := rx
    simp only at e
    split at e
    · next hc =>
      cases e
      rw [Bool.and_eq_true, decide_eq_true_eq] at hc
      obtain ⟨cl, na⟩ := T.att c hc.1
      obtain ⟨dx, gs, eH, fl⟩ := R.ins e2 e3
      have X1 : Ext ρ H [] (upd H A0 (.ins (Z.ga.cls c) dx (L2.putF f w gs))) := Ext.set (List.mem_of_getElem? e3)
      have en : ρ ++ [] = ρ := List.append_nil _
      refine ⟨A0, _, dx, gs, rfl, eH, cl, na, by rw [← fl.len]; exact hc.2, P _ _ [] X1 ?_ (S.keep X1 R.nt)⟩
      rw [en]
      refine R.set e3 ⟨dx, _, rfl, ?_⟩
      have := Flds.put (f := f) rd fl
      have := this.keep X1 R.nt
      rw [en] at this
      exact this
    · cases e
theorem ms_asgF {f : Str} (T : SetF Z X f) (ha : PE X o (tEv Z co)) (hv : PE X e (tEv Z ca)) (hs : swapsWith e (some (.Attribute o f pos')) pos.line X.env = pure false) : PS X (.Assign [.Attribute o f pos'] e pos) (tSv Z (.asgF co f ca)) := by
  refine PS.imp (ps_fld ha hv hs) fun D σ H ⟨ρ, l, h, S, R, P⟩ => ?_
  simp only [evS] at P
  refine ev_seqS S R P fun d h1 v H1 m _ X1 R1 S1 r1 P1 => ev_seqS S1 R1 P1 fun x h2 w H2 m2 _ X2 R2 S2 r2 P2 => ?_
  cases e : setF Z.G.att x f d h2 with
  | no => rw [e] at P2; exact P2.elim
  | ex y k => exact absurd e (by unfold setF; split <;> (try split) <;> simp)
  | ok u h3 =>
    rw [e] at P2
    obtain ⟨a, C, dx, fs, e1, e2, e3, e4, e5, q⟩ := setF_ok T R2 S2 r2 (r1.keep X2 R1.nt) e P2
    exact ⟨a, C, dx, fs, e1, e2, e3, e4, by omega, q⟩
/-- one of ours, a list, takes an item -/
theorem setI_ok {ρ : List Addr} {H : Hp} {h h' : Hea} {l : Loc} {σ : L2.St} {x y d : D} {v w z : V} {ds : List D} {n : Nat} {k : Int} {Q : L2.St → Hp → Prop} (R : RelH Z.ga ρ h H) (S : RelS Z.ga ρ H l σ) (rx : Rep Z.ga ρ H (.ref n) v) (ry : Rep Z.ga ρ H (.int k) w) (rd : Rep Z.ga ρ H d z)
    (e0 : h[n]? = some (.lst ds)) {j : Nat} (ej : L2.ixN ds.length k = some j) (P : Post1 Z ρ H Q l (h.set n (.lst (ds.set j d)))) : rSetL v w z H (fun H' => Q σ H') := by
  obtain ⟨p, rfl, ep⟩ := rx
  obtain ⟨vs, hz, rs⟩ := R.list e0 ep
  have X1 : Ext ρ H [] (upd H p (.lst (vs.set j z))) := Ext.set (List.mem_of_getElem? ep)
  have en : ρ ++ [] = ρ := List.append_nil _
  refine ⟨p, vs, k, j, rfl, ry, hz, by rw [← rs.len]; exact ej, P _ _ [] X1 ?_ (S.keep X1 R.nt)⟩
  rw [en]
  refine R.set ep ⟨_, rfl, ?_⟩
  have := (rs.set rd j).keep X1 R.nt
  rw [en] at this
  exact this
end
end Mi
end

section
set_option linter.all false
set_option Elab.async false
set_option maxHeartbeats 1000000
/-! MiSw: stores into lists, augmented stores, loops. -/
namespace Mi
open PySem PySem.Spec PyProof.Rows L2
section
variable {X : Cx} {Z : Cn} {pos pos' tpos : Pos} {a b c e o i : Expr} {ca cb cc co ci : CE} {st : Stmt} {rest : List Stmt} {cs : CS} {cr : List CS}
/-- behind a store -/
def PostU (Z : Cn) (ρ : List Addr) (H : Hp) (R : Out Unit) (Q : Hp → Prop) : Prop := match R with
  | .ok _ h' => ∀ H' m, Ext ρ H m H' → RelH Z.ga (ρ ++ m) h' H' → Q H'
  | _ => False
def rSI (Z : Cn) : TSet := fun o i v H Q => ∃ ρ h x y d, RelH Z.ga ρ h H ∧ Rep Z.ga ρ H x o ∧ Rep Z.ga ρ H y i ∧ Rep Z.ga ρ H d v ∧ PostU Z ρ H (setI x y d h) Q
theorem pset_I : PSet X (rSI Z) := by
  intro pins s σ H o i v ov iv u Q I ro ri rv ⟨ρ, h, x, y, d, R, rx, ry, rd, P⟩
  unfold setI at P
  split at P
  · next n k =>
    split at P
    · next ds e0 =>
      split at P
      · next j ej =>
        refine set_list pins s σ H o i v ov iv u Q I ro ri rv ?_
        obtain ⟨p, rfl, ep⟩ := rx
        obtain ⟨vs, hz, rs⟩ := R.list e0 ep
        have X1 : Ext ρ H [] (upd H p (.lst (vs.set j v))) := Ext.set (List.mem_of_getElem? ep)
        have en : ρ ++ [] = ρ := List.append_nil _
        refine ⟨p, vs, k, j, rfl, ry, hz, by rw [← rs.len]; exact ej, P _ [] X1 ?_⟩
        rw [en]
        refine R.set ep ⟨_, rfl, ?_⟩
        have := (rs.set rd j).keep X1 R.nt
        rw [en] at this
        exact this
      · exact P.elim
    · exact P.elim
  · exact P.elim
theorem setI_no {x y d : D} {h : Hea} {z : XC} {k : Hea} : setI x y d h ≠ .ex z k := by
  unfold setI
  split
  · split
    · split <;> simp
    · simp
  · simp
theorem setF_no {att : Nat → Str → Bool} {x d : D} {f : Str} {h : Hea} {z : XC} {k : Hea} : setF att x f d h ≠ .ex z k := by
  unfold setF
  split
  · split <;> simp
  · simp
theorem postU_of {ρ : List Addr} {H : Hp} {l : Loc} {σ : L2.St} {R : Out Unit} {E : Ends} (S : RelS Z.ga ρ H l σ) (N : NT ρ H) (hx : ∀ z k, R ≠ .ex z k) (P : PostS Z ρ H (R.bind fun _ h => .ok (.nx l) h) E) : PostU Z ρ H R fun H' => E.nx σ H' := by
  cases R with
  | no => exact P
  | ex z k => exact absurd rfl (hx z k)
  | ok u h' => exact fun H' m X1 R1 => P σ H' m X1 R1 (S.keep X1 N)
theorem ms_asgI (ho : PE X o (tEv Z co)) (hi : PE X i (tEv Z ci)) (he : PE X e (tEv Z ca)) (hs : swapsWithSole [.Subscript o i tpos] e pos.line X.env = pure false) (hw : swappedStores [.Subscript o i tpos] e X.env = pure none)
    (hsl : ∀ lo hi st p, i ≠ .Slice lo hi st p) : PS X (.Assign [.Subscript o i tpos] e pos) (tSv Z (.asgI co ci ca)) := by
  have hp : PG X (.Subscript o i tpos) (gSub (tEv Z co) (tEv Z ci) (rSI Z)) := pg_sub ho hi pset_I fun v => by
    cases i <;> first
      | rfl
      | exact absurd rfl (hsl _ _ _ _)
  refine PS.imp (ps_asg he hp hs hw rfl) fun E σ H ⟨ρ, l, h, S, R, P⟩ => ?_
  simp only [evS] at P
  refine ev_seqS S R P fun d h1 v H1 m _ X1 R1 S1 r1 P1 => ?_
  refine ev_seqS S1 R1 P1 fun x h2 w H2 m2 _ X2 R2 S2 r2 P2 => ?_
  refine ev_seqS S2 R2 P2 fun y h3 z H3 m3 _ X3 R3 S3 r3 P3 => ?_
  exact ⟨_, h3, x, y, d, R3, r2.keep X3 R2.nt, r3, (r1.keep X2 R1.nt).keep X3 R2.nt, postU_of S3 R3.nt (fun _ _ => setI_no) P3⟩

/-! ### several targets -/
def PostA (Z : Cn) (ρ : List Addr) (H : Hp) (R : Out Loc) (Q : L2.St → Hp → Prop) : Prop := match R with
  | .ok l h' => Post1 Z ρ H Q l h'
  | _ => False
/-- targets: the values ds -/
def tGs (Z : Cn) (ts : List TgX) : TGs := fun vs σ H Q => ∃ ρ l h ds, RelS Z.ga ρ H l σ ∧ RelH Z.ga ρ h H ∧ Reps Z.ga ρ H ds vs ∧ PostA Z ρ H (asgTs Z.G Z.Φ ts ds l h) Q
theorem PostA.to {ρ m : List Addr} {H H1 : Hp} {h1 : Hea} {R : Out Loc} {Q : L2.St → Hp → Prop} (P : PostA Z ρ H R Q) (X : Ext ρ H m H1) (R1 : RelH Z.ga (ρ ++ m) h1 H1) : PostA Z (ρ ++ m) H1 R Q := by
  cases R with
  | ok l h' => exact Post1.to P X R1
  | no => exact P
  | ex z k => exact P
theorem ev_seqA {ρ : List Addr} {H : Hp} {h : Hea} {l : Loc} {σ : L2.St} {f : D → Hea → Out Loc} {Q : L2.St → Hp → Prop} {Q' : VK} {c : CE} (S : RelS Z.ga ρ H l σ) (R : RelH Z.ga ρ h H) (P : PostA Z ρ H ((evE Z.G Z.Φ c l h).bind f) Q)
    (k : ∀ x h1 v H1 m, evE Z.G Z.Φ c l h = .ok x h1 → Ext ρ H m H1 → RelH Z.ga (ρ ++ m) h1 H1 → RelS Z.ga (ρ ++ m) H1 l σ → Rep Z.ga (ρ ++ m) H1 x v → PostA Z (ρ ++ m) H1 (f x h1) Q → Q' v H1) : tEv Z c σ H Q' :=
  tEv_seq (PP := fun ρ H R => PostA Z ρ H R Q) S R P (fun _ _ z => z) (fun _ _ z => z.elim) (fun _ _ _ _ p X R1 => p.to X R1) k
theorem mgs_nil : PGs X [] (tGs Z []) := by
  refine ⟨fun pins s σ H vs us Q I r q => pgs_nil.run pins s σ H vs us Q I r ?_⟩
  obtain ⟨ρ, l, h, ds, S, R, rs, P⟩ := q
  cases ds with
  | nil => exact ⟨rs, Post1.now P R S⟩
  | cons => exact P.elim
theorem mgs_nm {i : Nat} {x : Str} {es : List Expr} {ts : List TgX} (h1 : PG X (.Name x pos) (gName i)) (h2 : PGs X es (tGs Z ts)) (hs : (assignEach (.Name x pos :: es) X.env).map (·.2) = assign (.Name x pos) X.env :: (assignEach es X.env).map (·.2)) : PGs X (.Name x pos :: es) (tGs Z (.nm i :: ts)) := by
  refine ⟨fun pins s σ H vs us Q I r q => (pgs_cons h1 h2 hs).run pins s σ H vs us Q I r ?_⟩
  obtain ⟨ρ, l, h, ds, S, R, rs, P⟩ := q
  cases ds with
  | nil => exact P.elim
  | cons d ds =>
    obtain ⟨v, t, rfl, r1, r2⟩ := rs
    exact ⟨v, t, rfl, ρ, _, h, ds, S.set r1, R, r2, P⟩
theorem mgs_ix {es : List Expr} {ts : List TgX} (ho : PE X o (tEv Z co)) (hi : PE X i (tEv Z ci)) (hsl : ∀ lo hi st p, i ≠ .Slice lo hi st p) (h2 : PGs X es (tGs Z ts)) (hs : (assignEach (.Subscript o i tpos :: es) X.env).map (·.2) = assign (.Subscript o i tpos) X.env :: (assignEach es X.env).map (·.2)) : PGs X (.Subscript o i tpos :: es) (tGs Z (.ix co ci :: ts)) := by
  have hp : PG X (.Subscript o i tpos) (gSub (tEv Z co) (tEv Z ci) (rSI Z)) := pg_sub ho hi pset_I fun v => by
    cases i <;> first
      | rfl
      | exact absurd rfl (hsl _ _ _ _)
  refine ⟨fun pins s σ H vs us Q I r q => (pgs_cons hp h2 hs).run pins s σ H vs us Q I r ?_⟩
  obtain ⟨ρ, l, h, ds, S, R, rs, P⟩ := q
  cases ds with
  | nil => exact P.elim
  | cons d ds =>
    obtain ⟨v, t, rfl, r1, r2⟩ := rs
    refine ⟨v, t, rfl, ?_⟩
    simp only [asgTs] at P
    refine ev_seqA S R P fun x h2 w H2 m2 _ X2 R2 S2 q2 P2 => ?_
    refine ev_seqA S2 R2 P2 fun y h3 z H3 m3 _ X3 R3 S3 q3 P3 => ?_
    refine ⟨_, h3, x, y, d, R3, q2.keep X3 R2.nt, q3, (r1.keep X2 R.nt).keep X3 R2.nt, ?_⟩
    have r2' := (r2.keep X2 R.nt).keep X3 R2.nt
    cases e : setI x y d h3 with
    | no => rw [e] at P3; exact P3
    | ex z k => exact absurd e setI_no
    | ok u h4 =>
      rw [e] at P3
      exact fun H4 m4 X4 R4 => ⟨_, l, h4, ds, S3.keep X4 R3.nt, R4, r2'.keep X4 R3.nt, PostA.to P3 X4 R4⟩
theorem ms_asgM {es : List Expr} {k : Nat} {ts : List TgX} (hK : X.K = Z.ga.K) (hc : X.calm = true) (he : PE X e (tEv Z ca)) (hg : PGs X es (tGs Z ts)) (hn : (assignEach es X.env).length = ts.length) (hst : (assignEach es X.env).findIdx? (·.1) = none)
    (hs : swapsWithSole [.Tuple es k pos'] e pos.line X.env = pure false) (hw : swappedStores [.Tuple es k pos'] e X.env = pure none) : PS X (.Assign [.Tuple es k pos'] e pos) (tSv Z (.asgM ts ca)) := by
  have hlen : ∀ {ts : List TgX} {ds : List D} {l : Loc} {h : Hea} {l1 : Loc} {h1 : Hea}, asgTs Z.G Z.Φ ts ds l h = .ok l1 h1 → ds.length = ts.length := by
    intro ts
    induction ts with
    | nil =>
      intro ds l h l1 h1 e
      cases ds with
      | nil => rfl
      | cons => cases e
    | cons t ts ih =>
      intro ds l h l1 h1 e
      cases ds with
      | nil => cases t <;> cases e
      | cons d ds =>
        cases t with
        | nm i => simp only [asgTs] at e; simpa using ih e
        | fl o f =>
          simp only [asgTs] at e
          cases e1 : evE Z.G Z.Φ o l h with
          | no => rw [e1] at e; cases e
          | ex => rw [e1] at e; cases e
          | ok x h2 =>
            rw [e1] at e
            simp only [Out.bind_ok] at e
            cases e2 : setF Z.G.att x f d h2 with
            | no => rw [e2] at e; cases e
            | ex => rw [e2] at e; cases e
            | ok u h3 => rw [e2] at e; simpa using ih e
        | ix o i =>
          simp only [asgTs] at e
          cases e1 : evE Z.G Z.Φ o l h with
          | no => rw [e1] at e; cases e
          | ex => rw [e1] at e; cases e
          | ok x h2 =>
            rw [e1] at e
            simp only [Out.bind_ok] at e
            cases e2 : evE Z.G Z.Φ i l h2 with
            | no => rw [e2] at e; cases e
            | ex => rw [e2] at e; cases e
            | ok y h3 =>
              rw [e2] at e
              simp only [Out.bind_ok] at e
              cases e3 : setI x y d h3 with
              | no => rw [e3] at e; cases e
              | ex => rw [e3] at e; cases e
              | ok u h4 => rw [e3] at e; simpa using ih e
  have hp : PG X (.Tuple es k pos') (fun v σ H Q => ∃ ρ l h x ds, RelS Z.ga ρ H l σ ∧ RelH Z.ga ρ h H ∧ Rep Z.ga ρ H x v ∧ seqD h x = some ds ∧ PostA Z ρ H (asgTs Z.G Z.Φ ts ds l h) Q) := by
    refine ⟨fun pins s σ H v u Q I r q => ?_⟩
    obtain ⟨ρ, l, h, x, ds, S, R, rx, e1, P⟩ := q
    have hl : ds.length = ts.length := by
      cases e : asgTs Z.G Z.Φ ts ds l h with
      | no => rw [e] at P; exact P.elim
      | ex => rw [e] at P; exact P.elim
      | ok l1 h1 => exact hlen e
    cases x with
    | tup ds' =>
      obtain rfl : ds' = ds := Option.some.inj e1
      obtain ⟨p, vs, rfl, q2, r2⟩ := rx
      exact (pg_tup hc hg hn hst).run pins s σ H _ u Q I r ⟨p, vs, rfl, by rw [hK]; exact q2, by rw [← r2.len]; exact hl, ρ, l, h, ds', S, R, r2, P⟩
    | ref n =>
      obtain ⟨p, rfl, q2⟩ := rx
      obtain ⟨vs, z, r2⟩ := R.rd (show rdL h n = some ds from e1) q2
      exact (pg_unl hc hg hn hst).run pins s σ H _ u Q I r ⟨p, vs, rfl, by rw [hK]; exact z, by rw [← r2.len]; exact hl, ρ, l, h, ds, S, R, r2, P⟩
    | _ => cases e1
  refine PS.imp (ps_asg he hp hs hw rfl) fun E σ H ⟨ρ, l, h, S, R, P⟩ => ?_
  simp only [evS] at P
  refine ev_seqS S R P fun x h1 v H1 m e X1 R1 S1 r1 P1 => ?_
  split at P1
  · next ds e2 =>
    refine ⟨_, l, h1, x, ds, S1, R1, r1, e2, ?_⟩
    cases e : asgTs Z.G Z.Φ ts ds l h1 with
    | no => rw [e] at P1; exact P1
    | ok l1 h2 => rw [e] at P1; exact P1
    | ex z k => rw [e] at P1; exact P1
  · exact P1.elim
/-! ### augmented stores -/
def OpAug (o : BOp) : Option Operator := match o with
  | .add => some .Add
  | .sub => some .Sub
  | _ => none
theorem augD_ok {o : BOp} {x y z : D} (e : augD o x y = some z) : ∃ i j, x = .int i ∧ y = .int j ∧ ((o = .add ∧ z = .int (i + j)) ∨ (o = .sub ∧ z = .int (i - j))) := by
  unfold augD at e
  split at e
  · next i j =>
    split at e
    · cases e; exact ⟨i, j, rfl, rfl, .inl ⟨rfl, rfl⟩⟩
    · cases e; exact ⟨i, j, rfl, rfl, .inr ⟨rfl, rfl⟩⟩
    · cases e
  · cases e
def rAg (o : BOp) : V → V → Hp → VK → Prop := fun x y H Q => ∃ i j, x = .int i ∧ y = .int j ∧ ((o = .add ∧ Q (.int (i + j)) H) ∨ (o = .sub ∧ Q (.int (i - j)) H))
theorem ip_ag {o : BOp} {op : Operator} (h : OpAug o = some op) : PIp X op (rAg o) := by
  rintro pins s σ H x y v u Q I rx ry ⟨i, j, rfl, rfl, q⟩
  rcases q with ⟨rfl, q⟩ | ⟨rfl, q⟩
  · cases h
    exact ip_add pins s σ H _ _ v u Q I rx ry ⟨i, j, rfl, rfl, q⟩
  · cases h
    exact ip_sub pins s σ H _ _ v u Q I rx ry ⟨i, j, rfl, rfl, q⟩
theorem ms_aug {n : Nat} {x : Str} {p : BOp} {op : Operator} (ho : OpAug p = some op) (hN : X.N.Nodup) (hi : X.N[n]? = some x) (hx : L2.Loc X.env.scope x) (hf : X.fn x = true ∨ X.env.scope.names.lookup x = some .local) (he : PE X e (tEv Z ca)) : PS X (.AugAssign (.Name x pos') op e pos) (tSv Z (.aug n p ca)) := by
  refine PS.imp (ps_aug hN hi hx he (ip_ag ho) hf) fun E σ H ⟨ρ, l, h, S, R, P⟩ => ?_
  simp only [evS] at P
  cases e0 : l[n]? with
  | none => rw [e0] at P; exact P.elim
  | some q =>
    cases q with
    | none => rw [e0] at P; exact P.elim
    | some d =>
      rw [e0] at P
      simp only at P
      obtain ⟨v, ev, r⟩ := S.at_ n d e0
      refine ⟨v, ev, ev_seqS S R P fun y h1 w H1 m _ X1 R1 S1 r1 P1 => ?_⟩
      cases ea : augD p d y with
      | none => rw [ea] at P1; exact P1.elim
      | some z =>
        rw [ea] at P1
        obtain ⟨i, j, rfl, rfl, q⟩ := augD_ok ea
        refine ⟨i, j, r, r1, ?_⟩
        rcases q with ⟨rfl, rfl⟩ | ⟨rfl, rfl⟩
        · exact .inl ⟨rfl, Post1.now P1 R1 (S1.set rfl)⟩
        · exact .inr ⟨rfl, Post1.now P1 R1 (S1.set rfl)⟩
theorem ms_augF {f : Str} {p : BOp} {op : Operator} (hop : OpAug p = some op) (T : SetF Z X f) (ha : PE X o (tEv Z co)) (hv : PE X e (tEv Z ca)) : PS X (.AugAssign (.Attribute o f tpos) op e pos) (tSv Z (.augF co f p ca)) := by
  refine PS.imp (ps_fldaug (rd := rAg p) ha hv (ip_ag hop)) fun E σ H ⟨ρ, l, h, S, R, P⟩ => ?_
  simp only [evS] at P
  refine ev_seqS S R P fun x h1 w H1 m _ X1 R1 S1 r1 P1 => ?_
  cases ei : insAt h1 x with
  | none => rw [ei] at P1; exact P1.elim
  | some q =>
    obtain ⟨r, c, fs⟩ := q
    rw [ei] at P1
    obtain ⟨rfl, e2⟩ := insAt_some ei
    obtain ⟨A0, rfl, e3⟩ := r1
    simp only at P1
    cases el : lookF fs f with
    | none => rw [el] at P1; exact P1.elim
    | some d =>
      rw [el] at P1
      simp only at P1
      split at P1
      · next hat =>
        obtain ⟨cl, na⟩ := T.att c hat
        obtain ⟨dx, gs, eH, fl⟩ := R1.ins e2 e3
        obtain ⟨v, lv, rv⟩ := fl.look el
        refine ⟨A0, _, dx, gs, v, rfl, eH, cl, na, lv, ?_⟩
        refine ev_seqS S1 R1 P1 fun y h2 z H2 m2 _ X2 R2 S2 r2 P2 => ?_
        cases ea : augD p d y with
        | none => rw [ea] at P2; exact P2.elim
        | some t =>
          rw [ea] at P2
          obtain ⟨i, j, rfl, rfl, q⟩ := augD_ok ea
          have e3' : ((ρ ++ m) ++ m2)[r]? = some A0 := by rw [List.getElem?_append_left (List.getElem?_eq_some_iff.mp e3).1]; exact e3
          refine ⟨i, j, rv, r2, ?_⟩
          have fin : ∀ k : Int, t = .int k → ∃ dx' fs', H2 A0 = some (.ins (Z.ga.cls c) dx' fs') ∧ fs'.length < 1000 ∧ E.nx σ (upd H2 A0 (.ins (Z.ga.cls c) dx' (L2.putF f (.int k) fs'))) := by
            rintro k rfl
            simp only at P2
            split at P2
            · next hc =>
              cases es : setF Z.G.att (.ref r) f (.int k) h2 with
              | no => rw [es] at P2; exact P2.elim
              | ex z k => exact absurd es setF_no
              | ok u h4 =>
                rw [es] at P2
                obtain ⟨a, C, dx', fs', ev, eH', cl', na', hl, q⟩ := setF_ok (l := l) T R2 S2 (show Rep Z.ga _ _ (.ref r) (.ref A0) from ⟨A0, rfl, e3'⟩) (show Rep Z.ga _ _ (.int k) (.int k) from rfl) es P2
                cases ev
                cases ei2 : insAt h2 (.ref r) with
                | none => rw [ei2] at hc; cases hc
                | some q2 =>
                  obtain ⟨r2, c2, fs2⟩ := q2
                  rw [ei2] at hc
                  obtain ⟨er, e5⟩ := insAt_some ei2
                  cases er
                  obtain rfl : c2 = c := Option.some.inj hc
                  obtain ⟨dx3, gs3, eH3, _⟩ := R2.ins e5 e3'
                  rw [eH3] at eH'
                  cases eH'
                  exact ⟨_, _, eH3, by omega, q⟩
            · exact P2.elim
          rcases q with ⟨rfl, rfl⟩ | ⟨rfl, rfl⟩
          · exact .inl ⟨rfl, fin _ rfl⟩
          · exact .inr ⟨rfl, fin _ rfl⟩
      · exact P1.elim
end
end Mi
end

section
set_option linter.all false
set_option Elab.async false
set_option maxHeartbeats 1000000
/-! MiLoop: for, while. -/
namespace Mi
open PySem PySem.Spec PyProof.Rows L2
section
variable {X : Cx} {Z : Cn} {pos pos' tpos : Pos} {a b c e o i : Expr} {ca cb cc co ci : CE}
theorem PostS.bind_ex {ρ : List Addr} {H : Hp} {x : XC} {h : Hea} {E E' : Ends} (P : PostS Z ρ H (.ex x h) E) : PostS Z ρ H (.ex x h) E' := P
/-- behind a loop's body -/
def aft (k : Loc → Hea → Out Fl) (R : Out Fl) : Out Fl := R.bind fun f h1 => match f with
  | .nx σ2 => k σ2 h1
  | .ct σ2 => k σ2 h1
  | .bk σ2 => .ok (.nx σ2) h1
  | .rt d => .ok (.rt d) h1
/-- N: what the next turn asks -/
theorem aft_ok {ρ : List Addr} {H : Hp} {k : Loc → Hea → Out Fl} {R : Out Fl} {E : Ends} (P : PostS Z ρ H (aft k R) E) :
    PostS Z ρ H R { E with nx := fun σ' H' => ∃ m l h, Ext ρ H m H' ∧ RelS Z.ga (ρ ++ m) H' l σ' ∧ RelH Z.ga (ρ ++ m) h H' ∧ PostS Z (ρ ++ m) H' (k l h) E, ct := fun σ' H' => ∃ m l h, Ext ρ H m H' ∧ RelS Z.ga (ρ ++ m) H' l σ' ∧ RelH Z.ga (ρ ++ m) h H' ∧ PostS Z (ρ ++ m) H' (k l h) E, bk := E.nx } := by
  cases R with
  | no => exact P
  | ex x h => exact P
  | ok f h1 =>
    cases f with
    | nx l => exact fun σ' H' m X1 R1 S1 => ⟨m, l, h1, X1, S1, R1, PostS.to P X1 R1⟩
    | ct l => exact fun σ' H' m X1 R1 S1 => ⟨m, l, h1, X1, S1, R1, PostS.to P X1 R1⟩
    | bk l => exact P
    | rt d => exact P
theorem ms_for {tg iter : Expr} {body : List Stmt} {it : IT} {g : Tg} {cb : List CS} (hp : PassesOwn (model X.prog X.w) X.A X.env X.xe) (hc : X.calm = true) (hi : PI X tg iter (tIv Z it)) (hg : PG X tg (tGv Z g)) (hb : PSs X body (tSs Z cb))
    (hs : ∀ x, foldedSetIterable iter X.env x = pure x) : PS X (.For tg iter body [] pos) (tSv Z (.fr g it cb)) := by
  refine PS.imp (ps_for hp hc hi hg hb hs) fun E σ H ⟨ρ, l, h, S, R, P⟩ => ?_
  simp only [evS] at P
  refine ⟨ρ, l, h, S, R, ?_⟩
  cases ei : evI Z.G Z.Φ it l h with
  | no => rw [ei] at P; exact P.elim
  | ex x h1 => rw [ei] at P; exact P σ
  | ok w h1 =>
    rw [ei] at P
    simp only [Out.bind_ok] at P
    intro J H1 m X1 R1 W1
    refine ⟨fun i k σ H => ∃ ρ l h, Wk Z.ga ρ H J w ∧ RelS Z.ga ρ H l σ ∧ RelH Z.ga ρ h H ∧ PostS Z ρ H (frGo g (evSs Z.G Z.Φ cb) w k i l h) E, ⟨FUEL, _, l, h1, W1, S.keep X1 R.nt, R1, P.to X1 R1⟩, ?_⟩
    rintro i k σ2 H2 ⟨ρ2, l2, h2, W2, S2, R2, P2⟩
    cases k with
    | zero => exact P2.elim
    | succ k =>
      unfold frGo at P2
      cases es : srcAt h2 i w with
      | none => rw [es] at P2; exact P2.elim
      | some o =>
        rw [es] at P2
        cases o with
        | none => exact .inl ⟨W2.stop R2 es, Post1.now P2 R2 S2⟩
        | some x =>
          obtain ⟨go, yl⟩ := W2.go R2 es
          simp only at P2
          refine .inr ⟨go, fun σ' H' => ∃ ρ l h, Wk Z.ga ρ H' J w ∧ RelS Z.ga ρ H' l σ' ∧ RelH Z.ga ρ h H' ∧ PostS Z ρ H' (frGo g (evSs Z.G Z.Φ cb) w k (i + 1) l h) E, fun σ' H' z => ⟨k, Nat.lt_succ_self k, z⟩, fun v H' y => ?_⟩
          obtain ⟨ly, R4, rx⟩ := yl v H' y
          have X4 : Ext ρ2 H2 [] H' := ly.ext
          have en : ρ2 ++ [] = ρ2 := List.append_nil _
          have S4 := S2.keep X4 R2.nt
          have wk4 := Wk.mono (m := []) (fun _ _ q => sqT_keep X4 R2.nt q) W2
          have P4 := P2.to X4 (by rw [en]; exact R4)
          rw [en] at S4 wk4 P4
          cases eb : bindT h2 l2 x g with
          | none => rw [eb] at P4; exact P4.elim
          | some l1 =>
            rw [eb] at P4
            refine ⟨ρ2, l2, h2, x, S4, R4, rx, l1, eb, fun σ5 S5 _ => ⟨ρ2, l1, h2, S5, R4, ?_⟩⟩
            have P5 := aft_ok (k := fun l h => frGo g (evSs Z.G Z.Φ cb) w k (i + 1) l h) (show PostS Z ρ2 H' (aft _ (evSs Z.G Z.Φ cb l1 h2)) E from P4)
            revert P5
            generalize evSs Z.G Z.Φ cb l1 h2 = RR
            intro P5
            have conv : ∀ σ6 H6, (∃ m l h, Ext ρ2 H' m H6 ∧ RelS Z.ga (ρ2 ++ m) H6 l σ6 ∧ RelH Z.ga (ρ2 ++ m) h H6 ∧ PostS Z (ρ2 ++ m) H6 (frGo g (evSs Z.G Z.Φ cb) w k (i + 1) l h) E) →
                ∃ ρ l h, Wk Z.ga ρ H6 J w ∧ RelS Z.ga ρ H6 l σ6 ∧ RelH Z.ga ρ h H6 ∧ PostS Z ρ H6 (frGo g (evSs Z.G Z.Φ cb) w k (i + 1) l h) E := by
              rintro σ6 H6 ⟨m6, l6, h6, X6, S6, R6, P6⟩
              exact ⟨_, l6, h6, wk4.mono (fun _ _ q => sqT_keep X6 R4.nt q), S6, R6, P6⟩
            cases RR with
            | no => exact P5
            | ex x h => exact P5
            | ok f h1 =>
              cases f with
              | nx l => exact fun σ' H' m X1 R1 S1 => conv _ _ (P5 σ' H' m X1 R1 S1)
              | ct l => exact fun σ' H' m X1 R1 S1 => conv _ _ (P5 σ' H' m X1 R1 S1)
              | bk l => exact P5
              | rt d => exact P5
theorem ms_while {body : List Stmt} {cb : List CS} (hp : PassesOwn (model X.prog X.w) X.A X.env X.xe) (hc : PT X c (tTv Z cc)) (hb : PSs X body (tSs Z cb)) : PS X (.While c body [] pos) (tSv Z (.whl cc cb)) := by
  refine PS.imp (ps_while hp hc hb) fun E σ H ⟨ρ, l, h, S, R, P⟩ => ?_
  simp only [evS] at P
  refine ⟨fun k σ H => ∃ ρ l h, RelS Z.ga ρ H l σ ∧ RelH Z.ga ρ h H ∧ PostS Z ρ H (whGo (fun s k => (evE Z.G Z.Φ cc s k).bind fun x k1 => asD x k1) (evSs Z.G Z.Φ cb) k l h) E, ⟨FUEL, ρ, l, h, S, R, P⟩, ?_⟩
  rintro k σ2 H2 ⟨ρ2, l2, h2, S2, R2, P2⟩
  cases k with
  | zero => exact P2.elim
  | succ k =>
    unfold whGo at P2
    refine ev_seqT S2 R2 P2 fun b h3 H3 m3 X3 R3 S3 P3 => ?_
    cases b with
    | false => exact Post1.now P3 R3 S3
    | true =>
      simp only [if_true] at P3 ⊢
      refine ⟨fun σ H => ∃ ρ l h, RelS Z.ga ρ H l σ ∧ RelH Z.ga ρ h H ∧ PostS Z ρ H (whGo (fun s k => (evE Z.G Z.Φ cc s k).bind fun x k1 => asD x k1) (evSs Z.G Z.Φ cb) k l h) E, fun σ' H' z => ⟨k, Nat.lt_succ_self k, z⟩, _, l2, h3, S3, R3, ?_⟩
      have P5 := aft_ok (k := fun l h => whGo (fun s k => (evE Z.G Z.Φ cc s k).bind fun x k1 => asD x k1) (evSs Z.G Z.Φ cb) k l h) (show PostS Z _ H3 (aft _ (evSs Z.G Z.Φ cb l2 h3)) E from P3)
      revert P5
      generalize evSs Z.G Z.Φ cb l2 h3 = RR
      intro P5
      cases RR with
      | no => exact P5
      | ex x h => exact P5
      | ok f h1 =>
        cases f with
        | nx l => exact fun σ' H' m X1 R1 S1 => let ⟨_, l6, h6, _, S6, R6, P6⟩ := P5 σ' H' m X1 R1 S1; ⟨_, l6, h6, S6, R6, P6⟩
        | ct l => exact fun σ' H' m X1 R1 S1 => let ⟨_, l6, h6, _, S6, R6, P6⟩ := P5 σ' H' m X1 R1 S1; ⟨_, l6, h6, S6, R6, P6⟩
        | bk l => exact P5
        | rt d => exact P5
end
end Mi
end

section
set_option linter.all false
set_option Elab.async false
set_option maxHeartbeats 1000000
/-! MiC: from the text's tree to code. -/
namespace Mi
open PySem PySem.Spec PyProof.Rows L2

/-- what is known of the text -/
structure Tx where
  gd : List (Str × D)
  no : List Str
  sig : List ((Nat × Nat × List Str) × List (Sum Nat D))
  csig : List ((Nat × Nat × List Str) × List (Sum Nat D))
  msig : List ((Str × Nat × List Str) × List (Sum Nat D))
  ssig : List ((Str × Str × Nat × List Str) × (Nat × List (Sum Nat D)))
  flds : List Str
  vok : List (Nat × Nat)
structure Lo where
  N : List Str
  sc : Scope
  fn : Str → Bool

def idxN : List Str → Str → Option Nat
  | [], _ => none
  | y :: ys, x => if y = x then some 0 else (idxN ys x).map (· + 1)
theorem idxN_ok : ∀ {N : List Str} {x : Str} {i : Nat}, idxN N x = some i → N[i]? = some x
  | [], _, _, e => by cases e
  | y :: ys, x, i, e => by
    have e : (if y = x then some 0 else (idxN ys x).map (· + 1)) = some i := e
    split at e
    · next h => cases e; rw [h]; rfl
    · obtain ⟨j, e1, rfl⟩ := Option.map_eq_some_iff.mp e
      show ys[j]? = some x
      exact idxN_ok e1
def noStar : Expr → Bool
  | .Starred _ _ => false
  | _ => true
def noSlice : Expr → Bool
  | .Slice _ _ _ _ => false
  | _ => true
def noSet : Expr → Bool
  | .Set _ _ _ => false
  | _ => true
def noLc : Expr → Bool
  | .ListComp _ _ _ _ => false
  | .SetComp _ _ _ _ => false
  | .DictComp _ _ _ _ _ => false
  | _ => true
def plainBase : Expr → Bool
  | .Call (.Name _ _) _ _ _ => false
  | _ => true
def badName (x : Str) : Bool := x == ("__debug__" : Str) || x == ("__classdict__" : Str) || x == ("__name__" : Str)
def visN (lo : Lo) (x : Str) : Option Nat := if badName x then none else match lo.sc.names.lookup x with
  | some .local => idxN lo.N x
  | some .cell => idxN lo.N x
  | some .free => idxN lo.N x
  | _ => none
def stN (lo : Lo) (x : Str) : Option Nat := match lo.sc.names.lookup x with
  | some .local => idxN lo.N x
  | some .cell => if lo.fn x then idxN lo.N x else none
  | _ => none
def isGl (lo : Lo) (x : Str) : Bool := !badName x && decide (lo.sc.names.lookup x = some .globalImplicit)
def isB (T : Tx) (lo : Lo) (x : Str) : Bool := isGl lo x && T.no.contains x
def bop : Operator → Option BOp
  | .Add => some .add
  | .Sub => some .sub
  | .Mult => some .mul
  | .FloorDiv => some .fdiv
  | .Mod => some .mod
  | .Pow => some .pow
  | _ => none
def cop : CmpOp → Option COp
  | .Eq => some .eq
  | .NotEq => some .ne
  | .Lt => some .lt
  | .LtE => some .le
  | .Gt => some .gt
  | .GtE => some .ge
  | .Is => some .is
  | .IsNot => some .isNot
  | .In => some .in_
  | .NotIn => some .notIn
def tyOf? (x : Str) : Option String := if x = "int" then some "int" else if x = "bool" then some "bool" else if x = "str" then some "str" else if x = "tuple" then some "tuple" else if x = "list" then some "list" else if x = "dict" then some "dict" else none
def biB (x : Str) : Option (BI × String) := if x = "abs" then some (.abs, "abs") else if x = "all" then some (.all, "all") else if x = "any" then some (.any, "any") else if x = "sum" then some (.sum, "sum") else if x = "divmod" then some (.divmod, "divmod")
  else if x = "len" then some (.len, "len") else if x = "max" then some (.max, "max") else if x = "min" then some (.min, "min") else if x = "isinstance" then some (.isinst, "isinstance") else if x = "repr" then some (.repr, "repr") else if x = "sorted" then some (.sorted, "sorted") else none
def biT (x : Str) : Option (BI × String) := if x = "bool" then some (.bool, "bool") else if x = "int" then some (.int, "int") else if x = "list" then some (.list, "list") else if x = "tuple" then some (.tuple, "tuple") else if x = "str" then some (.str, "str") else none
def cName (T : Tx) (lo : Lo) (x : Str) : CE := match visN lo x with
  | some i => .var i
  | none => if isGl lo x then (match T.gd.lookup x with
    | some d => .lit d
    | none => if T.no.contains x then (match tyOf? x with
      | some t => .lit (.ty t)
      | none => .bad) else .bad) else .bad
def cConst : Const → CE
  | .none => .lit .non
  | .bool b => .lit (.bl b)
  | .int i => .lit (.int i)
  | .str s => .lit (.str s)
  | _ => .bad
/-- names of keywords -/
def kwNames : List Keyword → Option (List Str)
  | [] => some []
  | ⟨some x, _, _⟩ :: r => (kwNames r).map fun z => x :: z
  | ⟨none, _, _⟩ :: _ => none
def kwVals : List Keyword → List Expr
  | [] => []
  | ⟨_, e, _⟩ :: r => e :: kwVals r
def bmOf (m : Str) : Option BM := if m = "append" then some .append else if m = "extend" then some .extend else if m = "join" then some .join else none
section
variable (T : Tx) (r : Lo → Expr → CE) (lo : Lo)
def cFn (f : Nat) (args : List Expr) (kws : List Keyword) : CE := match kwNames kws with
  | some ks => (match T.sig.lookup (f, args.length, ks) with
    | some sh => if args.all noStar then .callk f (args.map (r lo) ++ (kwVals kws).map (r lo)) sh else .bad
    | none => .bad)
  | none => .bad
def cCls (c : Nat) (args : List Expr) (kws : List Keyword) : CE := match kwNames kws with
  | some ks => (match T.csig.lookup (c, args.length, ks) with
    | some sh => if args.all noStar then .mk c (args.map (r lo) ++ (kwVals kws).map (r lo)) sh else .bad
    | none => .bad)
  | none => .bad
def cBi (x : Str) (args : List Expr) (kws : List Keyword) : CE := if T.no.contains x && args.all noStar && kws.isEmpty && !args.isEmpty then (match biB x with
    | some (k, _) => .bi k (args.map (r lo))
    | none => match biT x with
      | some (k, _) => .bi k (args.map (r lo))
      | none => .bad) else .bad
def cCallV (x : Str) (args : List Expr) (kws : List Keyword) : Option CE := match visN lo x with
  | some i => if kws.isEmpty && args.all noStar then some (.callv i (fun f => T.vok.contains (f, args.length)) (args.map (r lo))) else none
  | none => none
def cCallR (x : Str) (args : List Expr) (kws : List Keyword) : Option CE := match args, kws with
  | [.Call (.Name y _) [a, b] [] _], [] => if decide (x = "list") && decide (y = "range") && isB T lo x && isB T lo y && noStar a && noStar b then some (.lrng [r lo a, r lo b]) else none
  | _, _ => none
def cCallN (x : Str) (args : List Expr) (kws : List Keyword) : CE := if isGl lo x then (match T.gd.lookup x with
    | some (.fn f) => cFn T r lo f args kws
    | some (.cls c) => cCls T r lo c args kws
    | some _ => .bad
    | none => cBi T r lo x args kws) else .bad
def cCallM (a : Expr) (m : Str) (apos pos : Pos) (args : List Expr) (kws : List Keyword) : CE := if plainBase a && decide (apos.endLine = pos.line) && decide (args.length + kws.length < 20) && args.all noStar then
    (match bmOf m with
      | some b => if kws.isEmpty && !args.isEmpty then .bm b (r lo a) (args.map (r lo)) else .bad
      | none => if m = "pop" then (if kws.isEmpty && args.isEmpty then .bm .pop (r lo a) [] else .bad) else (match kwNames kws with
        | some ks => (match T.msig.lookup (m, args.length, ks) with
          | some sh => .meth (r lo a) m (args.map (r lo) ++ (kwVals kws).map (r lo)) sh
          | none => .bad)
        | none => .bad)) else .bad
def cStat (a : Expr) (m : Str) (apos pos : Pos) (args : List Expr) (kws : List Keyword) : Option CE := match a with
  | .Name x _ => if isGl lo x && decide (apos.endLine = pos.line) && decide (args.length + kws.length < 20) && args.all noStar then (match kwNames kws with
    | some ks => (match T.ssig.lookup (x, m, args.length, ks) with
      | some (f, sh) => some (.callk f (args.map (r lo) ++ (kwVals kws).map (r lo)) sh)
      | none => none)
    | none => none) else none
  | _ => none
def cTgN : List Expr → Option (List Nat)
  | [] => some []
  | .Name x _ :: es => (stN lo x).bind fun i => (cTgN es).map fun z => i :: z
  | _ :: _ => none
def cTg : Expr → Option Tg
  | .Name x _ => (stN lo x).map .nm
  | .Tuple es _ _ => (cTgN lo es).map .tp
  | _ => none
def isTup : Expr → Bool
  | .Tuple _ _ _ => true
  | _ => false
def cIt (tg : Expr) (e : Expr) : IT := match e with
  | .Call (.Name x _) [a] [] _ => if isB T lo x && noStar a && decide (x = "range") then .rng [r lo a] else if isB T lo x && noStar a && decide (x = "enumerate") then (if isTup tg then .enm (r lo a) else .bad) else .seq (r lo e)
  | .Call (.Name x _) [a, b] [] _ => if isB T lo x && noStar a && noStar b && decide (x = "range") then .rng [r lo a, r lo b] else .seq (r lo e)
  | .Call (.Name x _) [a, b, c] [] _ => if isB T lo x && noStar a && noStar b && noStar c && decide (x = "range") then .rng [r lo a, r lo b, r lo c] else .seq (r lo e)
  | e => if noSet e then .seq (r lo e) else .bad
def ownOf (N : List Str) : List (Str × NameKind) → List (Str × Nat)
  | [] => []
  | (x, .local) :: l => (match idxN N x with
    | some i => (x, i) :: ownOf N l
    | none => ownOf N l)
  | (x, .cell) :: l => (match idxN N x with
    | some i => (x, i) :: ownOf N l
    | none => ownOf N l)
  | _ :: l => ownOf N l
def loB (scope : Scope) : Lo := { N := lo.N, sc := relS scope lo.sc, fn := fun x => scope.names.lookup x == some .cell }
def cLc (elt tg iter : Expr) (ifs : List Expr) (scope : Scope) : CE :=
  match cTg (loB lo scope) tg with
  | some g => if blkC lo.N lo.sc scope (ownOf lo.N scope.names) && g.slots.all (fun i => ((ownOf lo.N scope.names).map (·.2)).contains i) && noSet iter then (match ifs with
    | [] => .lc ((ownOf lo.N scope.names).map (·.2)) g (cIt T r lo tg iter) (.lit (.bl true)) (r (loB lo scope) elt)
    | [c] => .lc ((ownOf lo.N scope.names).map (·.2)) g (cIt T r lo tg iter) (r (loB lo scope) c) (r (loB lo scope) elt)
    | _ => .bad) else .bad
  | none => .bad
def cFs : Expr → CE
  | .FormattedValue a cv none _ => if cv = -1 then .fmt (r lo a) else .bad
  | .Constant (.str s) _ _ => .lit (.str s)
  | _ => .bad
def cSub (a b : Expr) : CE := match b with
  | .Slice (some l) none none _ => .sliL (r lo a) (r lo l)
  | .Slice none (some h) none _ => .sliH (r lo a) (r lo h)
  | .Slice (some l) (some h) none _ => .sliB (r lo a) (r lo l) (r lo h)
  | .Slice none none (some (.UnaryOp .USub (.Constant (.int 1) _ _) _)) _ => .rev (r lo a)
  | .Slice _ _ _ _ => .bad
  | b => .idx (r lo a) (r lo b)
def stepE (e : Expr) : CE := match e with
  | .Name x _ => cName T lo x
  | .Constant c _ _ => cConst c
  | .BinOp a op b _ => (match bop op with
    | some o => .bin o (r lo a) (r lo b)
    | none => .bad)
  | .UnaryOp .USub a _ => .neg (r lo a)
  | .UnaryOp .Not a _ => .not (r lo a)
  | .BoolOp .And (a :: es) _ => andC (r lo a) (es.map (r lo))
  | .BoolOp .Or (a :: es) _ => orC (r lo a) (es.map (r lo))
  | .Compare a [op] [b] _ => (match cop op with
    | some o => if behindInMarks op b then .bad else .cmp o (r lo a) (r lo b)
    | none => .bad)
  | .Compare a [op, op'] [b, c] _ => (match cop op, cop op' with
    | some o, some o' => if lastMarks [op, op'] [b, c] then .bad else .cmp2 o o' (r lo a) (r lo b) (r lo c)
    | _, _ => .bad)
  | .IfExp c a b _ => .ite (r lo c) (r lo a) (r lo b)
  | .Tuple es _ _ => if es.all noStar then .tup (es.map (r lo)) else .bad
  | .List es _ => if es.all noStar then .lst (es.map (r lo)) else .bad
  | .Dict [] [] _ => .dic
  | .Subscript a b _ => cSub r lo a b
  | .Attribute a f _ => if plainBase a && T.flds.contains f then .fld (r lo a) f else .bad
  | .Call (.Name x _) args kws _ => (match cCallV T r lo x args kws with
    | some c => c
    | none => match cCallR T r lo x args kws with
      | some c => c
      | none => cCallN T r lo x args kws)
  | .Call (.Attribute a m apos) args kws pos => (match cStat T r lo a m apos pos args kws with
    | some c => c
    | none => cCallM T r lo a m apos pos args kws)
  | .ListComp elt [⟨tg, iter, ifs, 0⟩] scope _ => cLc T r lo elt tg iter ifs scope
  | .JoinedStr [v] _ => cFs r lo v
  | .JoinedStr (v :: w :: vs) _ => .fst ((v :: w :: vs).map (cFs r lo))
  | _ => .bad
end
def cE (T : Tx) : Nat → Lo → Expr → CE
  | 0 => fun _ _ => .bad
  | n + 1 => fun lo e => stepE T (cE T n) lo e

/-! ### soundness -/
theorem takes0 {X : Cx} : Takes X (fun _ _ _ _ => False) := fun _ _ x => by
  obtain ⟨_, _, _, _, _, _, _, _, _, _, _, _, _, _, _, _, z⟩ := x
  exact z.elim
/-- x.m is a staticmethod -/
structure StatF (Z : Cn) (X : Cx) (k : Nat) (x m : Str) (n : Nat) (ks : List Str) (f : Nat) (sh : List (Sum Nat D)) : Prop where
  ex : ∃ C wa fd ps, X.mg x = some (.ref C) ∧ PySem.W.specialIn X.K (.ref C) "__getattribute__" = some (some (.builtin "type.__getattribute__")) ∧ PySem.W.readsIn X.K C (.type "type") = true ∧
    PySem.W.findCls X.K (.ref C) (.type "type") m = some (.get (.builtin "staticmethod.__get__") (.ref wa) .none (.ref C)) ∧ (∃ rest, PySem.W.recIn X.K wa "staticmethod" = some (.ref (Z.ga.fn f) :: rest)) ∧ Def Z X k f fd ps ∧ KB Z.ga X.K fd ps n ks sh
structure CtxE (T : Tx) (lo : Lo) (k : Nat) (Z : Cn) (X : Cx) : Prop where
  hK : X.K = Z.ga.K
  calm : X.calm = true
  nd : X.N.Nodup
  hN : X.N = lo.N
  sc : X.env.scope = lo.sc
  fn : ∀ x, lo.fn x = true → X.fn x = true
  gs : X.A.guards = some []
  room : Room (k + 1) X.A
  tk : Takes X Z.Wx
  gd : ∀ x d, T.gd.lookup x = some d → ∃ u v, X.mg x = some u ∧ RelV v u ∧ ∀ ρ H, Rep Z.ga ρ H d v
  no : ∀ x, T.no.contains x = true → X.mg x = none
  sig : ∀ f n ks sh, T.sig.lookup (f, n, ks) = some sh → ∃ fd ps, Def Z X k f fd ps ∧ KB Z.ga X.K fd ps n ks sh
  csig : ∀ c n ks sh, T.csig.lookup (c, n, ks) = some sh → ∃ f, Z.G.init c = some f ∧ MkF Z X k c f n ks sh
  msig : ∀ m n ks sh, T.msig.lookup (m, n, ks) = some sh → MetF Z X k m n ks sh
  flds : ∀ f, T.flds.contains f = true → AttF Z X k f ∧ SetF Z X f
  isi : InF Z.ga.K Z.G Z.ga.cls
  own : OwnF Z X k
  st : StF Z X k
  ssig : ∀ x m n ks f sh, T.ssig.lookup (x, m, n, ks) = some (f, sh) → StatF Z X k x m n ks f sh
  vok : ∀ n, VarF Z X k n fun f => T.vok.contains (f, n)
section
variable {T : Tx} {lo : Lo} {k : Nat} {Z : Cn} {X : Cx} {pos : Pos}
theorem CtxE.units (C : CtxE T lo k Z X) : X.A.units + 70 < cLine := by have := C.room.un; omega
theorem CtxE.blk (C : CtxE T lo k Z X) (s : Shared) (H : Hp) (scope : Scope) (Ca : Addr) (cl : List (Str × Addr)) (fp : List Addr) : CtxE T (loB lo scope) k Z.blk (X.blk s H scope (compEnvC scope cl Ca X.env) fp) where
  hK := C.hK
  calm := C.calm
  nd := C.nd
  hN := C.hN
  sc := by
    show relabel scope X.env = relS scope lo.sc
    rw [← C.sc]
    rfl
  fn := fun x h => h
  gs := C.gs
  room := C.room
  tk := takes0
  gd := C.gd
  no := C.no
  sig := fun f n ks sh e => let ⟨fd, ps, d, kb⟩ := C.sig f n ks sh e; ⟨fd, ps, ⟨d.kp, d.ok⟩, kb⟩
  csig := fun f n ks sh e => let ⟨fd, ps, d⟩ := C.csig f n ks sh e; ⟨fd, ps, ⟨d.mkk, d.ok⟩⟩
  msig := fun f n ks sh e => let d := C.msig f n ks sh e; ⟨fun c g h => let ⟨a, b, fd, ps, ⟨x, y⟩, z⟩ := d.ok c g h; ⟨a, b, fd, ps, ⟨x, y⟩, z⟩⟩
  flds := fun f e => let ⟨a, b⟩ := C.flds f e; ⟨⟨a.prop, a.att⟩, ⟨b.att⟩⟩
  isi := C.isi
  own := ⟨C.own.eq⟩
  st := ⟨C.st.st⟩
  vok := fun n => ⟨fun f e => let ⟨fd, ps, d, kb⟩ := (C.vok n).ex f e; ⟨fd, ps, ⟨d.kp, d.ok⟩, kb⟩⟩
  ssig := fun x m n ks f sh e => let ⟨Ca, wa, fd, ps, a, b, c, d, q, F, kb⟩ := (C.ssig x m n ks f sh e).ex; ⟨Ca, wa, fd, ps, a, b, c, d, q, ⟨F.kp, F.ok⟩, kb⟩
/-- what the parts promise -/
def Okr (T : Tx) (k : Nat) (r : Lo → Expr → CE) : Prop := ∀ lo Z X, CtxE T lo k Z X → ∀ e, PE X e (tEv Z (r lo e)) ∧ PT X e (tTv Z (r lo e))
theorem badE {e : Expr} : PE X e (tEv Z .bad) := PE.bad fun σ H Q ⟨ρ, l, h, S, R, P⟩ => P
theorem badT {e : Expr} : PT X e (tTv Z .bad) := PT.bad fun σ H Q ⟨ρ, l, h, S, R, P⟩ => P
theorem visN_ok (C : CtxE T lo k Z X) {x : Str} {i : Nat} (e : visN lo x = some i) : badName x = false ∧ X.N[i]? = some x ∧ Vis X.env.scope x := by
  unfold visN at e
  split at e
  · cases e
  · next hb =>
    refine ⟨by simpa using hb, ?_⟩
    split at e
    · next h => exact ⟨by rw [C.hN]; exact idxN_ok e, .inl (by rw [C.sc]; exact h)⟩
    · next h => exact ⟨by rw [C.hN]; exact idxN_ok e, .inr (.inl (by rw [C.sc]; exact h))⟩
    · next h => exact ⟨by rw [C.hN]; exact idxN_ok e, .inr (.inr (by rw [C.sc]; exact h))⟩
    · cases e
theorem stN_ok (C : CtxE T lo k Z X) {x : Str} {i : Nat} (e : stN lo x = some i) : X.N[i]? = some x ∧ L2.Loc X.env.scope x ∧ (X.fn x = true ∨ X.env.scope.names.lookup x = some .local) := by
  unfold stN at e
  split at e
  · next h => exact ⟨by rw [C.hN]; exact idxN_ok e, .inl (by rw [C.sc]; exact h), .inr (by rw [C.sc]; exact h)⟩
  · next h =>
    split at e
    · next hf => exact ⟨by rw [C.hN]; exact idxN_ok e, .inr (by rw [C.sc]; exact h), .inl (C.fn x hf)⟩
    · cases e
  · cases e
theorem badName_no {x : Str} (h : badName x = false) : (x == ("__debug__" : Str)) = false ∧ (x == ("__classdict__" : Str)) = false ∧ x ≠ ("__name__" : Str) := by
  unfold badName at h
  simp only [Bool.or_eq_false_iff] at h
  exact ⟨h.1.1, h.1.2, by simpa using h.2⟩
theorem isGl_ok (C : CtxE T lo k Z X) {x : Str} (e : isGl lo x = true) : badName x = false ∧ Gl X x := by
  unfold isGl at e
  rw [Bool.and_eq_true, decide_eq_true_eq] at e
  refine ⟨by simpa using e.1, ?_⟩
  show X.env.scope.names.lookup x = _
  rw [C.sc]
  exact e.2
theorem noStar_ok {es : List Expr} (h : es.all noStar = true) : ∀ e ∈ es, ∀ z p, e ≠ .Starred z p := by
  intro e he z p q
  have := List.all_eq_true.mp h e he
  rw [q] at this
  cases this
theorem starEach_ok {e : Expr} {es : List Expr} {env : Env} (h : ∀ z p, e ≠ .Starred z p) : starEach (e :: es) env = (false, eval e env) :: starEach es env := by
  cases e <;> first
    | rfl
    | exact absurd rfl (h _ _)
theorem ma_map {r : Expr → CE} (h : ∀ e, PE X e (tEv Z (r e))) : ∀ {es : List Expr}, (∀ e ∈ es, ∀ z p, e ≠ .Starred z p) → PA X es (tAv Z (es.map r))
  | [], _ => ma_nil
  | e :: es, hs => ma_cons (h e) (ma_map h fun a ha => hs a (List.mem_cons_of_mem _ ha)) (starEach_ok fun z p => hs e List.mem_cons_self z p)
theorem mk_map {r : Expr → CE} (h : ∀ e, PE X e (tEv Z (r e))) : ∀ {kws : List Keyword}, PK X kws (tAv Z ((kwVals kws).map r))
  | [] => mk_nil
  | ⟨nm, e, p⟩ :: kws => mk_cons (h e) (mk_map h)
theorem kwNames_ok : ∀ {kws : List Keyword} {ks : List Str}, kwNames kws = some ks → kws.map (·.arg) = ks.map some ∧ (kwVals kws).length = ks.length
  | [], ks, e => by cases e; exact ⟨rfl, rfl⟩
  | ⟨some x, a, p⟩ :: r, ks, e => by
    obtain ⟨z, e1, rfl⟩ := Option.map_eq_some_iff.mp (show (kwNames r).map (fun z => x :: z) = some ks from e)
    obtain ⟨h1, h2⟩ := kwNames_ok e1
    exact ⟨by simp [h1], by simp [kwVals, h2]⟩
  | ⟨none, a, p⟩ :: r, ks, e => by cases e
theorem kwVals_len : ∀ {kws : List Keyword}, (kwVals kws).length = kws.length
  | [] => rfl
  | ⟨_, _, _⟩ :: r => by simp [kwVals, kwVals_len (kws := r)]
theorem paired_map {α β : Type} {G : α → β → Prop} {f : α → β} (h : ∀ a, G a (f a)) : ∀ {l : List α}, Paired G l (l.map f)
  | [] => .nil
  | a :: l => .cons (h a) (paired_map h)
theorem bop_ok (hK : X.K = Z.ga.K) {op : Operator} {o : BOp} (e : bop op = some o) : ∀ σ, OpR X (binaryOp op) (rB Z σ o) := by
  cases op <;> cases e
  · exact fun σ => or_add hK
  · exact fun σ => or_sub
  · exact fun σ => or_mul
  · exact fun σ => or_mod
  · exact fun σ => or_pow
  · exact fun σ => or_fdiv
theorem cop_ok (hK : X.K = Z.ga.K) (hu : X.A.units + 70 < cLine) {op : CmpOp} {o : COp} (e : cop op = some o) : ∀ σ, OpR X (compareOp op) (rC Z σ o) := by
  cases op <;> cases e
  · exact fun σ => or_eq hK (by omega)
  · exact fun σ => or_ne hK (by omega)
  · exact fun σ => or_lt
  · exact fun σ => or_le
  · exact fun σ => or_gt
  · exact fun σ => or_ge
  · exact fun σ => or_is
  · exact fun σ => or_isNot
  · exact fun σ => or_in hK hu
  · exact fun σ => or_notIn hK hu
theorem copx_ok (C : CtxE T lo k Z X) {op : CmpOp} {o : COp} (e : cop op = some o) : ∀ σ, OpR X (compareOp op) (rX Z σ o) := fun σ =>
  orx_of C.hK C.room C.gs C.own (by cases op <;> cases e <;> (constructor <;> intro h <;> first | rfl | cases h)) (cop_ok C.hK C.units e σ)
theorem cStat_ok {r : Lo → Expr → CE} (C : CtxE T lo k Z X) (hr : ∀ e, PE X e (tEv Z (r lo e))) {a : Expr} {m : Str} {apos : Pos} {args : List Expr} {kws : List Keyword} {c : CE} (e : cStat T r lo a m apos pos args kws = some c) : PE X (.Call (.Attribute a m apos) args kws pos) (tEv Z c) := by
  unfold cStat at e
  split at e
  · next x p =>
    split at e
    · next hc =>
      simp only [Bool.and_eq_true, decide_eq_true_eq] at hc
      obtain ⟨⟨⟨c1, c2⟩, c3⟩, c4⟩ := hc
      obtain ⟨hb, hg⟩ := isGl_ok C c1
      obtain ⟨b1, b2, b3⟩ := badName_no hb
      have hst := noStar_ok c4
      have hline : (apos.endLine == pos.line) = true := by rw [c2]; exact beq_self_eq_true _
      split at e
      · next ks ek =>
        obtain ⟨k1, k2⟩ := kwNames_ok ek
        split at e
        · next f sh es =>
          cases e
          obtain ⟨Ca, wa, fd, ps, a1, a2, a3, a4, a5, F, kb⟩ := (C.ssig _ _ _ _ _ _ es).ex
          exact me_static (q := pos) F (C.room.mono (Nat.le_succ _)) C.gs kb C.tk hg a1 b1 a2 a3 a4 a5 hline c3 (ma_map hr hst) (mk_map hr) hst k1 (by rw [List.length_map]; exact k2) (by rw [List.length_map])
        · cases e
      · cases e
    · cases e
  · cases e
theorem cConst_ok {c : Const} {j : Nat} : PE X (.Constant c j pos) (tEv Z (cConst c)) := by
  cases c with
  | none => exact me_lit pe_non fun _ _ => rfl
  | bool b => exact me_lit pe_bl fun _ _ => rfl
  | int i => exact me_lit pe_int fun _ _ => rfl
  | str s => exact me_lit pe_str fun _ _ => rfl
  | _ => exact badE
theorem tyOf_boot {x : Str} {t : String} (e : tyOf? x = some t) : bootBuiltins x = some (.type t) := by
  unfold tyOf? at e
  split at e
  · next h => cases e; rw [h]; exact PySem.Pv.boot_int
  split at e
  · next h => cases e; rw [h]; exact PySem.Pv.boot_bool
  split at e
  · next h => cases e; rw [h]; exact PySem.Pv.boot_str
  split at e
  · next h => cases e; rw [h]; exact PySem.Pv.boot_tuple
  split at e
  · next h => cases e; rw [h]; exact PySem.Pv.boot_list
  split at e
  · next h => cases e; rw [h]; exact PySem.Pv.boot_dict
  · cases e
theorem biB_boot {x : Str} {q : BI} {t : String} (hK : X.K = Z.ga.K) (hc : X.calm = true) (hu : X.A.units + 70 < cLine) (hg : X.A.guards = some []) (hi : InF Z.ga.K Z.G Z.ga.cls) (e : biB x = some (q, t)) : bootBuiltins x = some (.builtin t) ∧ ∀ σ, CallR X (.builtin t) (rF Z σ (callX Z.G Z.Φ q)) := by
  unfold biB at e
  split at e
  · next h => cases e; rw [h]; exact ⟨boot_abs, fun σ => cb_abs⟩
  split at e
  · next h => cases e; rw [h]; exact ⟨boot_all, fun σ => cb_all hK hc⟩
  split at e
  · next h => cases e; rw [h]; exact ⟨boot_any, fun σ => cb_any hK hc⟩
  split at e
  · next h => cases e; rw [h]; exact ⟨boot_sum, fun σ => cb_sum hK hc⟩
  split at e
  · next h => cases e; rw [h]; exact ⟨boot_divmod, fun σ => cb_divmod⟩
  split at e
  · next h => cases e; rw [h]; exact ⟨boot_len, fun σ => cb_len hK⟩
  split at e
  · next h => cases e; rw [h]; exact ⟨boot_max, fun σ => cb_max hK hc⟩
  split at e
  · next h => cases e; rw [h]; exact ⟨boot_min, fun σ => cb_min hK hc⟩
  split at e
  · next h => cases e; rw [h]; exact ⟨boot_isinstance, fun σ => cb_isinst hK hi⟩
  split at e
  · next h => cases e; rw [h]; exact ⟨boot_repr, fun σ => cb_repr hK hg (by omega)⟩
  split at e
  · next h => cases e; rw [h]; exact ⟨boot_sorted, fun σ => cb_sorted hK hu⟩
  · cases e
theorem biT_boot {x : Str} {q : BI} {t : String} (hK : X.K = Z.ga.K) (hc : X.calm = true) (room : Room (k + 1) X.A) (hg : X.A.guards = some []) (F : StF Z X k) (e : biT x = some (q, t)) : bootBuiltins x = some (.type t) ∧ ∀ σ, CallR X (.type t) (rF Z σ (callX Z.G Z.Φ q)) := by
  unfold biT at e
  split at e
  · next h => cases e; rw [h]; exact ⟨PySem.Pv.boot_bool, fun σ => cb_bool⟩
  split at e
  · next h => cases e; rw [h]; exact ⟨PySem.Pv.boot_int, fun σ => cb_int⟩
  split at e
  · next h => cases e; rw [h]; exact ⟨PySem.Pv.boot_list, fun σ => cb_list hK⟩
  split at e
  · next h => cases e; rw [h]; exact ⟨PySem.Pv.boot_tuple, fun σ => cb_tuple hK⟩
  split at e
  · next h => cases e; rw [h]; exact ⟨PySem.Pv.boot_str, fun σ => cs_str room hg F⟩
  · cases e
theorem cName_ok (C : CtxE T lo k Z X) {x : Str} : PE X (.Name x pos) (tEv Z (cName T lo x)) := by
  unfold cName
  split
  · next i e =>
    obtain ⟨hb, h1, h2⟩ := visN_ok C e
    obtain ⟨b1, b2, _⟩ := badName_no hb
    exact me_var (pe_var h1 h2 b1 b2)
  · split
    · next hg =>
      obtain ⟨hb, hg⟩ := isGl_ok C hg
      obtain ⟨b1, b2, b3⟩ := badName_no hb
      split
      · next d e =>
        obtain ⟨u, v, h1, h2, h3⟩ := C.gd x d e
        exact me_lit (pe_glob hg h1 h2 b1) h3
      · split
        · next hn =>
          split
          · next t e => exact me_lit (pe_bltn hg (C.no x hn) (tyOf_boot e) (v := .ty t) rfl b3 b1) fun _ _ => rfl
          · exact badE
        · exact badE
    · exact badE
theorem base_ok {a : Expr} {f : Str} {env : Env} (h : plainBase a = true) : attributeBase a f env (eval a env) = eval a env := by
  cases a <;> first
    | rfl
    | (rename_i g _ _ _; cases g <;> first | rfl | cases h)
theorem cCallN_ok {r : Lo → Expr → CE} (C : CtxE T lo k Z X) (hr : ∀ e, PE X e (tEv Z (r lo e))) {x : Str} {p : Pos} {args : List Expr} {kws : List Keyword} : PE X (.Call (.Name x p) args kws pos) (tEv Z (cCallN T r lo x args kws)) := by
  unfold cCallN
  split
  · next hg =>
    obtain ⟨hb, hg⟩ := isGl_ok C hg
    obtain ⟨b1, b2, b3⟩ := badName_no hb
    split
    · next f e =>
      obtain ⟨u, v, h1, h2, h3⟩ := C.gd x _ e
      have hv : v = .ref (Z.ga.fn f) := h3 [] fun _ => none
      subst hv
      have hu : u = .ref (Z.ga.fn f) := h2
      subst hu
      unfold cFn
      split
      · next ks ek =>
        obtain ⟨k1, k2⟩ := kwNames_ok ek
        split
        · next sh es =>
          obtain ⟨fd, ps, F, kb⟩ := C.sig _ _ _ _ es
          split
          · next hst =>
            have hst := noStar_ok hst
            exact me_call F (C.room.mono (Nat.le_succ _)) C.gs kb C.tk hg h1 b1 (ma_map hr hst) (mk_map hr) hst k1 (by rw [List.length_map]; exact k2) (by rw [List.length_map])
          · exact badE
        · exact badE
      · exact badE
    · next c e =>
      obtain ⟨u, v, h1, h2, h3⟩ := C.gd x _ e
      have hv : v = .ref (Z.ga.cls c) := h3 [] fun _ => none
      subst hv
      have hu : u = .ref (Z.ga.cls c) := h2
      subst hu
      unfold cCls
      split
      · next ks ek =>
        obtain ⟨k1, k2⟩ := kwNames_ok ek
        split
        · next sh es =>
          obtain ⟨f, hi, M⟩ := C.csig _ _ _ _ es
          split
          · next hst =>
            have hst := noStar_ok hst
            exact me_mk hi M C.room C.gs C.tk hg h1 b1 (ma_map hr hst) (mk_map hr) hst k1 (by rw [List.length_map]; exact k2) (by rw [List.length_map])
          · exact badE
        · exact badE
      · exact badE
    · exact badE
    · unfold cBi
      split
      · next hc =>
        simp only [Bool.and_eq_true] at hc
        obtain ⟨⟨⟨c1, c2⟩, c3⟩, c4⟩ := hc
        have hst := noStar_ok c2
        cases kws with
        | cons => simp at c3
        | nil =>
        cases args with
        | nil => simp at c4
        | cons a as =>
          have s1 : starEach (a :: as) X.env = (false, eval a X.env) :: starEach as X.env := starEach_ok fun z p => hst a List.mem_cons_self z p
          have s2 : (backTo pos (starEach as X.env)).any (·.1) = false := (stars_ok (env := X.env) (pos := pos) as fun z hz => hst z (List.mem_cons_of_mem _ hz)).1
          split
          · next q t e =>
            obtain ⟨e1, e2⟩ := biB_boot C.hK C.calm C.units C.gs C.isi e
            exact me_biB e2 hg (C.no x c1) e1 (ma_map hr hst) b3 b1 s1 s2
          · split
            · next q t e =>
              obtain ⟨e1, e2⟩ := biT_boot C.hK C.calm C.room C.gs C.st e
              exact me_biT e2 hg (C.no x c1) e1 (ma_map hr hst) b3 b1 s1 s2
            · exact badE
      · exact badE
  · exact badE
theorem cCallV_ok {r : Lo → Expr → CE} (C : CtxE T lo k Z X) (hr : ∀ e, PE X e (tEv Z (r lo e))) {x : Str} {p : Pos} {args : List Expr} {kws : List Keyword} {c : CE} (e : cCallV T r lo x args kws = some c) : PE X (.Call (.Name x p) args kws pos) (tEv Z c) := by
  unfold cCallV at e
  split at e
  · next i ei =>
    split at e
    · next hc =>
      cases e
      rw [Bool.and_eq_true] at hc
      cases kws with
      | cons => simp at hc
      | nil =>
        obtain ⟨hb, h1, h2⟩ := visN_ok C ei
        obtain ⟨b1, b2, _⟩ := badName_no hb
        have hst := noStar_ok hc.2
        exact me_callv (C.vok _) (C.room.mono (Nat.le_succ _)) C.gs C.tk (pe_var h1 h2 b1 b2) (ma_map hr hst) hst (by rw [List.length_map])
    · cases e
  · cases e
theorem cCallR_ok {r : Lo → Expr → CE} (C : CtxE T lo k Z X) (hr : ∀ e, PE X e (tEv Z (r lo e))) {x : Str} {p : Pos} {args : List Expr} {kws : List Keyword} {c : CE} (e : cCallR T r lo x args kws = some c) : PE X (.Call (.Name x p) args kws pos) (tEv Z c) := by
  unfold cCallR at e
  split at e
  · next y q a b q2 =>
    split at e
    · next hc =>
      cases e
      simp only [Bool.and_eq_true, decide_eq_true_eq] at hc
      obtain ⟨⟨⟨⟨⟨rfl, rfl⟩, b1⟩, b2⟩, n1⟩, n2⟩ := hc
      have gl : ∀ {z : Str}, isB T lo z = true → Gl X z ∧ X.mg z = none := fun {z} h => by
        unfold isB at h
        rw [Bool.and_eq_true] at h
        exact ⟨(isGl_ok C h.1).2, C.no z h.2⟩
      have ns : ∀ {z : Expr}, noStar z = true → ∀ u v, z ≠ .Starred u v := fun {z} h u v q => by rw [q] at h; cases h
      have e1 : starEach [b] X.env = (false, eval b X.env) :: starEach [] X.env := starEach_ok (ns n2)
      have e2 : starEach [a, b] X.env = (false, eval a X.env) :: starEach [b] X.env := starEach_ok (ns n1)
      exact me_lrng C.calm (gl b1).1 (gl b1).2 (gl b2).1 (gl b2).2 (ma_cons (hr a) (ma_cons (hr b) ma_nil e1) e2) e2 (by rw [e1]; rfl)
    · cases e
  · cases e
end
end Mi
end

section
set_option linter.all false
set_option Elab.async false
set_option maxHeartbeats 1000000
/-! MiC2: soundness of the compiled expressions. -/
namespace Mi
open PySem PySem.Spec PyProof.Rows L2
section
variable {T : Tx} {lo : Lo} {k : Nat} {Z : Cn} {X : Cx} {pos : Pos}
theorem bmOf_ok (hK : X.K = Z.ga.K) {m : Str} {b : BM} (e : bmOf m = some b) : ∃ Ty id, PlainAttrs Ty ∧ Slot Ty m id ∧ typeOf (.builtin id) = pure (.type "method_descriptor") ∧ (∀ σ, MtR X id (rM Z σ (callM b))) ∧
    ∀ ρ h H x v, RelH Z.ga ρ h H → Rep Z.ga ρ H x v → recv b x h = true → tyV X.K Ty v H := by
  unfold bmOf at e
  split at e
  · next h => cases e; rw [h]; exact ⟨"list", "list.append", F.plainAttrs_list, F.slot_list_append, F.type_list_append, fun σ => cm_append, fun ρ h H x v R r e => rec_list hK ρ h H x v R r e⟩
  split at e
  · next h => cases e; rw [h]; exact ⟨"list", "list.extend", F.plainAttrs_list, F.slot_list_extend, F.type_list_extend, fun σ => cm_extend, fun ρ h H x v R r e => rec_list hK ρ h H x v R r e⟩
  split at e
  · next h => cases e; rw [h]; exact ⟨"str", "str.join", F.plainAttrs_str, F.slot_str_join, F.type_str_join, fun σ => cm_join hK, fun ρ h H x v R r e => rec_str ρ h H x v R r e⟩
  · cases e
theorem cCallM_ok {r : Lo → Expr → CE} (C : CtxE T lo k Z X) (hr : ∀ e, PE X e (tEv Z (r lo e))) {a : Expr} {m : Str} {apos : Pos} {args : List Expr} {kws : List Keyword} : PE X (.Call (.Attribute a m apos) args kws pos) (tEv Z (cCallM T r lo a m apos pos args kws)) := by
  unfold cCallM
  split
  · next hc =>
    simp only [Bool.and_eq_true, decide_eq_true_eq] at hc
    obtain ⟨⟨⟨c1, c2⟩, c3⟩, c4⟩ := hc
    have hst := noStar_ok c4
    have hline : (apos.endLine == pos.line) = true := by rw [c2]; exact beq_self_eq_true _
    have hb : ∀ f, attributeBase a f X.env (eval a X.env) = eval a X.env := fun f => base_ok c1
    split
    · next b eb =>
      split
      · next h2 =>
        simp only [Bool.and_eq_true] at h2
        cases kws with
        | cons => simp at h2
        | nil =>
        cases args with
        | nil => simp at h2
        | cons x xs =>
          obtain ⟨Ty, id, pa, sl, ty, hm, hrec⟩ := bmOf_ok (X := X) (Z := Z) C.hK eb
          exact me_bm pa sl ty hm hrec (hr a) (ma_map hr hst) (hb _) hline hst (by simp at c3; omega)
      · exact badE
    · split
      · next hp =>
        split
        · next h2 =>
          simp only [Bool.and_eq_true] at h2
          cases kws with
          | cons => simp at h2
          | nil =>
          cases args with
          | cons => simp at h2
          | nil =>
            rw [hp]
            exact me_bm0 F.plainAttrs_list F.slot_list_pop F.type_list_pop (fun σ => cm_pop) (fun ρ h H x v R r e => rec_list C.hK ρ h H x v R r e) (hr a) (hb _) hline
        · exact badE
      · split
        · next ks ek =>
          obtain ⟨k1, k2⟩ := kwNames_ok ek
          split
          · next sh es => exact me_meth (hr a) (C.msig _ _ _ _ es) (C.room.mono (Nat.le_succ _)) C.gs C.tk (hb _) hline c3 (ma_map hr hst) (mk_map hr) hst k1 (by rw [List.length_map]; exact k2) (by rw [List.length_map])
          · exact badE
        · exact badE
  · exact badE
theorem mi_rng3 {tg a b c : Expr} {ca cb cc : CE} {p : Pos} (hg : Gl X "range") (hm : X.mg "range" = none) (ha : PA X [a, b, c] (tAv Z [ca, cb, cc])) (hs : starEach [a, b, c] X.env = (false, eval a X.env) :: starEach [b, c] X.env) (hpl : (backTo pos (starEach [b, c] X.env)).any (·.1) = false) :
    PI X tg (.Call (.Name "range" p) [a, b, c] [] pos) (tIv Z (.rng [ca, cb, cc])) := by
  refine ⟨fun pins s σ H Q I q => (pi_range3 hg hm ha hs hpl).run pins s σ H Q I ?_⟩
  obtain ⟨ρ, l, h, S, R, P⟩ := q
  simp only [evI] at P
  refine ev_seqsI S R P fun x h1 v H1 m q X1 R1 S1 r1 P1 => ?_
  have hl := ev_len q
  split at P1
  · cases hl
  · cases hl
  · next i j c =>
    split at P1
    · next hs =>
      rw [Bool.and_eq_true, Bool.and_eq_true, decide_eq_true_eq] at hs
      obtain ⟨w, t, rfl, r2, r3⟩ := r1
      obtain ⟨w2, w3, rfl, r4, r5⟩ := Reps.two r3
      obtain ⟨⟨s1, s2⟩, rfl⟩ := hs
      exact ⟨i, j, -1, _, by rw [show w = .int i from r2, show w2 = .int j from r4, show w3 = .int (-1) from r5], RgC.neg (smallR_ok s1).1 (smallR_ok s1).2 (smallR_ok s2).1 (smallR_ok s2).2, P1.now R1 (.inr (.inr (.inl ⟨_, _, _, rfl, rfl⟩)))⟩
    · exact P1.elim
  · exact P1.elim
theorem isB_ok (C : CtxE T lo k Z X) {x : Str} (e : isB T lo x = true) : Gl X x ∧ X.mg x = none := by
  unfold isB at e
  rw [Bool.and_eq_true] at e
  exact ⟨(isGl_ok C e.1).2, C.no x e.2⟩
theorem noStar1 {e : Expr} (h : noStar e = true) : ∀ z p, e ≠ .Starred z p := by
  intro z p q
  rw [q] at h
  cases h
theorem badI {tg e : Expr} : PI X tg e (tIv Z .bad) := PI.bad fun σ H Q ⟨ρ, l, h, S, R, P⟩ => P
theorem cIt_ok {r : Lo → Expr → CE} (C : CtxE T lo k Z X) (hr : ∀ e, PE X e (tEv Z (r lo e))) {tg e : Expr} : PI X tg e (tIv Z (cIt T r lo tg e)) := by
  unfold cIt
  split
  · next x p a q =>
    split
    · next h =>
      simp only [Bool.and_eq_true, decide_eq_true_eq] at h
      obtain ⟨⟨h1, h2⟩, rfl⟩ := h
      obtain ⟨g, m⟩ := isB_ok C h1
      have h2 := noStar1 h2
      have e1 : starEach [a] X.env = [(false, eval a X.env)] := starEach_ok h2
      exact mi_rng1 g m (ma_cons (hr a) ma_nil e1) e1
    · split
      · next h =>
        simp only [Bool.and_eq_true, decide_eq_true_eq] at h
        obtain ⟨⟨h1, h2⟩, rfl⟩ := h
        obtain ⟨g, m⟩ := isB_ok C h1
        have h2 := noStar1 h2
        have e1 : starEach [a] X.env = [(false, eval a X.env)] := starEach_ok h2
        split
        · next ht =>
          cases tg <;> first
            | exact mi_enm C.hK g m (ma_cons (hr a) ma_nil e1) e1
            | cases ht
        · exact badI
      · exact mi_seq C.hK (hr _)
  · next x p a b q =>
    split
    · next h =>
      simp only [Bool.and_eq_true, decide_eq_true_eq] at h
      obtain ⟨⟨⟨h1, h2⟩, h3⟩, rfl⟩ := h
      obtain ⟨g, m⟩ := isB_ok C h1
      have e1 : starEach [b] X.env = [(false, eval b X.env)] := starEach_ok (noStar1 h3)
      have e2 : starEach [a, b] X.env = (false, eval a X.env) :: starEach [b] X.env := starEach_ok (noStar1 h2)
      exact mi_rng2 g m (ma_cons (hr a) (ma_cons (hr b) ma_nil e1) e2) (by rw [e2, e1]) e1
    · exact mi_seq C.hK (hr _)
  · next x p a b c q =>
    split
    · next h =>
      simp only [Bool.and_eq_true, decide_eq_true_eq] at h
      obtain ⟨⟨⟨⟨h1, h2⟩, h3⟩, h4⟩, rfl⟩ := h
      obtain ⟨g, m⟩ := isB_ok C h1
      have e0 : starEach [c] X.env = (false, eval c X.env) :: starEach [] X.env := starEach_ok (noStar1 h4)
      have e1 : starEach [b, c] X.env = (false, eval b X.env) :: starEach [c] X.env := starEach_ok (noStar1 h3)
      have e2 : starEach [a, b, c] X.env = (false, eval a X.env) :: starEach [b, c] X.env := starEach_ok (noStar1 h2)
      exact mi_rng3 g m (ma_cons (hr a) (ma_cons (hr b) (ma_cons (hr c) ma_nil e0) e1) e2) e2 (by rw [e1, e0]; rfl)
    · exact mi_seq C.hK (hr _)
  · split
    · exact mi_seq C.hK (hr _)
    · exact badI
theorem noSet_ok {e : Expr} {env : Env} (h : noSet e = true) : ∀ x, foldedSetIterable e env x = pure x := by
  intro x
  cases e <;> first
    | rfl
    | cases h
/-- targets -/
theorem pgs_tgN (C : CtxE T lo k Z X) : ∀ {es : List Expr} {is : List Nat}, cTgN lo es = some is → PGs X es (gNms is) ∧ (assignEach es X.env).length = is.length ∧ (assignEach es X.env).findIdx? (·.1) = none
  | [], is, e => by cases e; exact ⟨pgs_nil, rfl, rfl⟩
  | .Name x p :: es, is, e => by
    obtain ⟨i, e1, e2⟩ := Option.bind_eq_some_iff.mp (show ((stN lo x).bind fun i => (cTgN lo es).map fun z => i :: z) = some is from e)
    obtain ⟨z, e3, rfl⟩ := Option.map_eq_some_iff.mp e2
    obtain ⟨h1, h2, h3⟩ := stN_ok C e1
    obtain ⟨i1, i2, i3⟩ := pgs_tgN C e3
    have ea : assignEach (.Name x p :: es) X.env = (false, assign (.Name x p) X.env) :: assignEach es X.env := rfl
    refine ⟨pgs_cons (pg_name C.nd h1 h2 h3) i1 (by rw [ea]; rfl), by rw [ea]; simp [i2], ?_⟩
    rw [ea, List.findIdx?_cons]
    simp [i3]
  | .BoolOp _ _ _ :: _, _, e | .NamedExpr _ _ _ :: _, _, e | .BinOp _ _ _ _ :: _, _, e | .UnaryOp _ _ _ :: _, _, e | .Lambda _ _ _ _ :: _, _, e | .IfExp _ _ _ _ :: _, _, e | .Dict _ _ _ :: _, _, e | .Set _ _ _ :: _, _, e | .ListComp _ _ _ _ :: _, _, e
  | .SetComp _ _ _ _ :: _, _, e | .DictComp _ _ _ _ _ :: _, _, e | .GeneratorExp _ _ _ _ :: _, _, e | .Await _ _ :: _, _, e | .Yield _ _ :: _, _, e | .YieldFrom _ _ :: _, _, e | .Compare _ _ _ _ :: _, _, e | .Call _ _ _ _ :: _, _, e | .FormattedValue _ _ _ _ :: _, _, e
  | .JoinedStr _ _ :: _, _, e | .Constant _ _ _ :: _, _, e | .Attribute _ _ _ :: _, _, e | .Subscript _ _ _ :: _, _, e | .Starred _ _ :: _, _, e | .List _ _ :: _, _, e | .Tuple _ _ _ :: _, _, e | .Slice _ _ _ _ :: _, _, e => by cases e
theorem cTg_ok (C : CtxE T lo k Z X) {tg : Expr} {g : Tg} (e : cTg lo tg = some g) : PG X tg (tGv Z g) := by
  unfold cTg at e
  split at e
  · obtain ⟨i, e1, rfl⟩ := Option.map_eq_some_iff.mp e
    obtain ⟨h1, h2, h3⟩ := stN_ok C e1
    exact mg_nm (pg_name C.nd h1 h2 h3)
  · obtain ⟨is, e1, rfl⟩ := Option.map_eq_some_iff.mp e
    obtain ⟨i1, i2, i3⟩ := pgs_tgN C e1
    exact mg_tp C.hK C.calm i1 i2 i3
  · cases e
theorem cLc_ok {r : Lo → Expr → CE} (C : CtxE T lo k Z X) (hr : Okr T k r) {elt tg iter : Expr} {ifs : List Expr} {scope : Scope} : PE X (.ListComp elt [⟨tg, iter, ifs, 0⟩] scope pos) (tEv Z (cLc T r lo elt tg iter ifs scope)) := by
  unfold cLc
  split
  · next g eg =>
    split
    · next hc =>
      simp only [Bool.and_eq_true] at hc
      obtain ⟨⟨h1, h2⟩, h3⟩ := hc
      have ok : BlkOk X.N X.env.scope scope (ownOf lo.N scope.names) := by
        rw [C.hN, C.sc]
        exact blkOk_by h1
      have ho : ∀ i ∈ g.slots, i ∈ (ownOf lo.N scope.names).map (·.2) := fun i hi => by
        have := List.all_eq_true.mp h2 i hi
        simpa using this
      split
      · exact me_lc C.calm C.nd (cIt_ok C fun e => (hr lo Z X C e).1) ok ho (fun s H Ca cl fp => cTg_ok (C.blk s H scope Ca cl fp) eg) (fun s H Ca cl fp => pts_yes) (fun s H Ca cl fp => (hr _ _ _ (C.blk s H scope Ca cl fp) _).1) (noSet_ok h3)
      · next c => exact me_lc C.calm C.nd (cIt_ok C fun e => (hr lo Z X C e).1) ok ho (fun s H Ca cl fp => cTg_ok (C.blk s H scope Ca cl fp) eg) (fun s H Ca cl fp => pts_one (hr _ _ _ (C.blk s H scope Ca cl fp) _).2) (fun s H Ca cl fp => (hr _ _ _ (C.blk s H scope Ca cl fp) _).1) (noSet_ok h3)
      · exact badE
    · exact badE
  · exact badE
theorem cFs_ok {r : Lo → Expr → CE} (hr : ∀ e, PE X e (tEv Z (r lo e))) {e : Expr} : PE X e (tEv Z (cFs r lo e)) := by
  unfold cFs
  split
  · split
    · next h => subst h; exact me_fmt (hr _)
    · exact badE
  · exact me_lit pe_str fun _ _ => rfl
  · exact badE
theorem me_idx {a b : Expr} {ca cb : CE} (hK : X.K = Z.ga.K) (ha : PE X a (tEv Z ca)) (hb : PE X b (tEv Z cb)) (hs : ∀ lo hi st p, b ≠ .Slice lo hi st p) : PE X (.Subscript a b pos) (tEv Z (.idx ca cb)) := by
  refine PE.imp (me_idx0 hK ha hb hs) fun σ H Q ⟨ρ, l, h, S, R, P⟩ => ⟨ρ, l, h, S, R, ?_⟩
  simp only [evE] at P
  exact P
theorem cSub_ok {r : Lo → Expr → CE} (C : CtxE T lo k Z X) (hr : ∀ e, PE X e (tEv Z (r lo e))) {a b : Expr} : PE X (.Subscript a b pos) (tEv Z (cSub r lo a b)) := by
  unfold cSub
  split
  · exact me_sliL C.hK (hr _) (hr _)
  · exact me_sliH C.hK (hr _) (hr _)
  · exact me_sliB C.hK (hr _) (hr _) (hr _)
  · exact me_rev C.hK (hr _)
  · exact badE
  · next h1 h2 h3 h4 h5 => exact me_idx C.hK (hr _) (hr _) fun lo hi st p q => h5 _ _ _ _ q
theorem stepE_ok {r : Lo → Expr → CE} (C : CtxE T lo k Z X) (hr : Okr T k r) (e : Expr) : PE X e (tEv Z (stepE T r lo e)) ∧ PT X e (tTv Z (stepE T r lo e)) := by
  have h1 := fun e => (hr lo Z X C e).1
  have h2 := fun e => (hr lo Z X C e).2
  have tr : ∀ {e : Expr} {c : CE}, PE X e (tEv Z c) → (∀ whole, isTrue e X.env whole = (do let v ← whole; standAt e.pos; holding [v] (truthy v))) → PE X e (tEv Z c) ∧ PT X e (tTv Z c) := fun h he => ⟨h, mt_truth C.hK h he⟩
  unfold stepE
  split
  · exact tr (cName_ok C) fun _ => rfl
  · exact tr cConst_ok fun _ => rfl
  · split
    · next o eo => exact tr (me_bin (bop_ok C.hK eo) (h1 _) (h1 _)) fun _ => rfl
    · exact ⟨badE, badT⟩
  · exact tr (me_neg (h1 _)) fun _ => rfl
  · exact ⟨me_not C.hK (h1 _), mt_not (h2 _)⟩
  · exact ⟨me_and C.hK _ _ _ _ (h1 _) (paired_map (G := fun e c => PE X e (tEv Z c)) (f := r lo) h1), (mt_and _ _ _ _ (h2 _) (paired_map (G := fun e c => PT X e (tTv Z c)) (f := r lo) h2)).pt⟩
  · exact ⟨me_or C.hK _ _ _ _ (h1 _) (paired_map (G := fun e c => PE X e (tEv Z c)) (f := r lo) h1), (mt_or _ _ _ _ (h2 _) (paired_map (G := fun e c => PT X e (tTv Z c)) (f := r lo) h2)).pt⟩
  · split
    · next o eo =>
      split
      · exact ⟨badE, badT⟩
      · next hm =>
        have hm := by simpa using hm
        exact ⟨me_cmp (copx_ok C eo) (h1 _) (h1 _) hm, mt_cmp (copx_ok C eo) (h1 _) (h1 _) hm⟩
    · exact ⟨badE, badT⟩
  · split
    · next o o' eo eo' =>
      split
      · exact ⟨badE, badT⟩
      · next hm =>
        have hm := by simpa using hm
        exact ⟨me_cmp2 (cop_ok C.hK C.units eo) (cop_ok C.hK C.units eo') (h1 _) (h1 _) (h1 _) hm, mt_cmp2 (cop_ok C.hK C.units eo) (cop_ok C.hK C.units eo') (h1 _) (h1 _) (h1 _) hm⟩
    · exact ⟨badE, badT⟩
  · exact ⟨me_ite (h2 _) (h1 _) (h1 _), mt_ite (h2 _) (h2 _) (h2 _)⟩
  · split
    · next hs => exact tr (me_tup (ma_map h1 (noStar_ok hs))) fun _ => rfl
    · exact ⟨badE, badT⟩
  · split
    · next hs => exact tr (me_lst (ma_map h1 (noStar_ok hs))) fun _ => rfl
    · exact ⟨badE, badT⟩
  · exact tr me_dic fun _ => rfl
  · exact tr (cSub_ok C h1) fun _ => rfl
  · split
    · next hc =>
      rw [Bool.and_eq_true] at hc
      exact tr (me_fld (h1 _) (C.flds _ hc.2).1 C.room C.gs (base_ok hc.1)) fun _ => rfl
    · exact ⟨badE, badT⟩
  · split
    · next c ec => exact tr (cCallV_ok C h1 ec) fun _ => rfl
    · split
      · next c ec => exact tr (cCallR_ok C h1 ec) fun _ => rfl
      · exact tr (cCallN_ok C h1) fun _ => rfl
  · split
    · next c ec => exact tr (cStat_ok C h1 ec) fun _ => rfl
    · exact tr (cCallM_ok C h1) fun _ => rfl
  · exact tr (cLc_ok C hr) fun _ => rfl
  · exact tr (PE.imp (pe_joined1 (cFs_ok h1)) fun _ _ _ q => q) fun _ => rfl
  · exact tr (me_fst (paired_map (G := fun e c => PE X e (tEv Z c)) (f := cFs r lo) fun e => cFs_ok h1)) fun _ => rfl
  · exact ⟨badE, badT⟩
theorem cE_ok (T : Tx) (k : Nat) : ∀ n, Okr T k (cE T n)
  | 0 => fun lo Z X C e => ⟨badE, badT⟩
  | n + 1 => fun lo Z X C e => stepE_ok C (cE_ok T k n) e
end
end Mi
end

section
set_option linter.all false
set_option Elab.async false
set_option maxHeartbeats 1000000
/-! MiC3: statements: code and soundness. -/
namespace Mi
open PySem PySem.Spec PyProof.Rows L2

def aOp : Operator → Option BOp
  | .Add => some .add
  | .Sub => some .sub
  | _ => none
theorem aOp_ok {op : Operator} {o : BOp} (e : aOp op = some o) : OpAug o = some op := by cases op <;> cases e <;> rfl
/-- a comprehension's value goes straight to the name -/
def swB (lo : Lo) (scope : Scope) (y : Str) (py pos : Pos) : Bool := decide (lo.sc.names.lookup y = some .local) && (py.line == pos.line) && !(scope.names.any fun (n, k) => n == y && (k == .local || k == .cell))
def isLoc (lo : Lo) (x : Str) : Bool := decide (lo.sc.names.lookup x = some .local)
def cTgX (T : Tx) (ce : Expr → CE) (lo : Lo) : List Expr → Option (List TgX)
  | [] => some []
  | .Name x _ :: es => (stN lo x).bind fun i => (cTgX T ce lo es).map fun z => .nm i :: z
  | .Subscript o i _ :: es => if noSlice i then (cTgX T ce lo es).map fun z => .ix (ce o) (ce i) :: z else none
  | _ :: _ => none
def notTup : Expr → Bool
  | .Tuple _ _ _ => false
  | _ => true
/-- the pair (the three) may be stored from the right -/
def par2 (lo : Lo) (x y : Str) (px py : Pos) (a b : Expr) : Option (List Nat) := if isLoc lo x && isLoc lo y && (px.line == py.line) && noStar a && noStar b && decide (x ≠ y) && !([a, b].all (foldedForSure 8)) && !([a, b].all (constantsAlone 8)) then
    (idxN lo.N x).bind fun i => (idxN lo.N y).bind fun j => if i = j then none else some [i, j] else none
def par3 (lo : Lo) (x y z : Str) (px py pz : Pos) (a b c : Expr) : Option (List Nat) := if isLoc lo x && isLoc lo y && isLoc lo z && (px.line == py.line) && (px.line == pz.line) && noStar a && noStar b && noStar c && decide (x ≠ y) && decide (x ≠ z) && decide (y ≠ z) && !([a, b, c].all (foldedForSure 8)) && !([a, b, c].all (constantsAlone 8)) then
    (idxN lo.N x).bind fun i => (idxN lo.N y).bind fun j => (idxN lo.N z).bind fun k => if i = j ∨ i = k ∨ j = k then none else some [i, j, k] else none
/-- no swapped stores -/
def noSwap (lo : Lo) (ts : List Expr) (e : Expr) : Bool := match e with
  | .Tuple vs _ _ => !(ts.length == 2 || ts.length == 3) || vs.length != ts.length || vs.any (fun | .Starred .. => true | _ => false) || ts.any fun
    | .Name x _ => !isLoc lo x
    | _ => true
  | _ => true
section
variable (T : Tx) (ce : Lo → Expr → CE) (rs : List Stmt → List CS) (lo : Lo)
def cAsgT (es : List Expr) (e : Expr) : CS := if noSwap lo es e then (match cTgN lo es with
    | some is => .asgT is (ce lo e)
    | none => match cTgX T (ce lo) lo es with
      | some ts => .asgM ts (ce lo e)
      | none => .bad) else .bad
def cPar (es : List Expr) (e : Expr) : Option CS := match es, e with
  | [.Name x px, .Name y py], .Tuple [a, b] _ _ => (par2 lo x y px py a b).map fun is => .asgP is [ce lo a, ce lo b]
  | [.Name x px, .Name y py, .Name z pz], .Tuple [a, b, c] _ _ => (par3 lo x y z px py pz a b c).map fun is => .asgP is [ce lo a, ce lo b, ce lo c]
  | _, _ => none
def stepS (s : Stmt) : CS := match s with
  | .Pass _ => .pass
  | .Break _ => .brk
  | .Continue _ => .cont
  | .Expr e _ => if noLc e then .exp (ce lo e) else .bad
  | .Return (some e) _ => .ret (ce lo e)
  | .Return none _ => .retN
  | .If c a b _ => .iff (ce lo c) (rs a) (rs b)
  | .For tg iter body [] _ => (match cTg lo tg with
    | some g => if noSet iter then .fr g (cIt T ce lo tg iter) (rs body) else .bad
    | none => .bad)
  | .While c body [] _ => .whl (ce lo c) (rs body)
  | .Assign [.Name x _] e _ => (match stN lo x with
    | some i => .asg i (ce lo e)
    | none => .bad)
  | .Assign [.Tuple es _ _] e _ => (match cPar ce lo es e with
    | some c => c
    | none => cAsgT T ce lo es e)
  | .Assign [.Attribute o f _] e _ => if T.flds.contains f then .asgF (ce lo o) f (ce lo e) else .bad
  | .Assign [.Subscript o i _] e _ => if noSlice i then .asgI (ce lo o) (ce lo i) (ce lo e) else .bad
  | .AugAssign (.Name x _) op e _ => (match stN lo x, aOp op with
    | some i, some o => .aug i o (ce lo e)
    | _, _ => .bad)
  | .AugAssign (.Attribute a f _) op e _ => (match aOp op with
    | some o => if T.flds.contains f then .augF (ce lo a) f o (ce lo e) else .bad
    | none => .bad)
  | _ => .bad
end
def cSs (T : Tx) (m : Nat) : Nat → Lo → List Stmt → List CS
  | 0 => fun _ _ => [.bad]
  | n + 1 => fun lo ss => ss.map (stepS T (cE T m) (cSs T m n lo) lo)

section
variable {T : Tx} {lo : Lo} {k : Nat} {Z : Cn} {X : Cx} {pos pos' : Pos}
structure CtxS (T : Tx) (lo : Lo) (k : Nat) (Z : Cn) (X : Cx) : Prop extends CtxE T lo k Z X where
  po : PassesOwn (model X.prog X.w) X.A X.env X.xe
  kf : lo.sc.kind = .function
theorem badS {s : Stmt} : PS X s (tSv Z .bad) := PS.bad fun D σ H ⟨ρ, l, h, S, R, P⟩ => P
theorem sw_noLc {t e : Expr} {l : Nat} {env : Env} (h : noLc e = true) : swapsWithSole [t] e l env = pure false := by
  cases e <;> first
    | rfl
    | cases h
theorem sw_other {t e : Expr} {l : Nat} {env : Env} (h : ∀ x p, t ≠ .Name x p) : swapsWithSole [t] e l env = pure false := by
  cases e <;> first
    | rfl
    | (cases t <;> first | rfl | exact absurd rfl (h _ _))
theorem sw_attr {o e : Expr} {f : Str} {p : Pos} {l : Nat} {env : Env} : swapsWith e (some (.Attribute o f p)) l env = pure false := by
  cases e <;> rfl
theorem CtxS.bk (C : CtxS T lo k Z X) : X.env.blockKind = .function := by
  unfold Env.blockKind
  rw [C.sc, C.kf]
  rfl
theorem ms_asgLc (C : CtxS T lo k Z X) {i : Nat} {x : Str} {elt : Expr} {gs : List Comprehension} {scope : Scope} {n : Nat} (hi : stN lo x = some i) : PS X (.Assign [.Name x pos'] (.ListComp elt gs scope pos) p) (tSv Z (.asg i (cE T (n + 1) lo (.ListComp elt gs scope pos)))) := by
  obtain ⟨h1, h2, h3⟩ := stN_ok C.toCtxE hi
  have hw : swappedStores [.Name x pos'] (.ListComp elt gs scope pos) X.env = pure none := rfl
  cases hb : swB lo scope x pos' pos with
  | false =>
    refine ms_asg ((cE_ok T k _) lo Z X C.toCtxE _).1 (pg_name C.nd h1 h2 h3) ?_ hw
    unfold swB at hb
    show swapsWith (.ListComp elt gs scope pos) (some (.Name x pos')) p.line X.env = pure false
    unfold swapsWith
    have e0 : X.env.kindOf x = lo.sc.names.lookup x := by rw [← C.sc]; rfl
    simp only [C.bk, e0, Expr.pos]
    have e1 : (lo.sc.names.lookup x == some NameKind.local) = decide (lo.sc.names.lookup x = some NameKind.local) := by
      by_cases h : lo.sc.names.lookup x = some NameKind.local
      · rw [h]; rfl
      · rw [decide_eq_false h]
        exact beq_eq_false_iff_ne.mpr h
    rw [e1]
    have e2 : (ScopeKind.function == ScopeKind.function) = true := rfl
    rw [e2, Bool.true_and]
    show (pure _ : Sem Bool) = pure false
    exact congrArg pure hb
  | true =>
    unfold swB at hb
    simp only [Bool.and_eq_true, decide_eq_true_eq] at hb
    obtain ⟨⟨b1, b2⟩, b3⟩ := hb
    have hyl : X.env.scope.names.lookup x = some .local := by rw [C.sc]; exact b1
    have hsw : swapsWith (.ListComp elt gs scope pos) (some (.Name x pos')) p.line X.env = pure true := sw_true (by rw [C.sc]; exact C.kf) hyl b2 (by simpa using b3)
    show PS X _ (tSv Z (.asg i (stepE T (cE T n) lo (.ListComp elt gs scope pos))))
    have toAsg : ∀ {c : CE} {te : TE}, PS X (.Assign [.Name x pos'] (.ListComp elt gs scope pos) p) (tAsg te (gName i)) → (∀ σ H Q, tEv Z c σ H Q → te σ H Q) → PS X (.Assign [.Name x pos'] (.ListComp elt gs scope pos) p) (tSv Z (.asg i c)) := fun hp w => by
      refine PS.imp hp fun E σ H ⟨ρ, l, h, S, R, P⟩ => ?_
      simp only [evS] at P
      exact w _ _ _ (ev_seqS S R P fun x h1 v H1 m e X1 R1 S1 r1 P1 => Post1.now P1 R1 (S1.set r1))
    have bad : PS X (.Assign [.Name x pos'] (.ListComp elt gs scope pos) p) (tSv Z (.asg i .bad)) := PS.bad fun D σ H ⟨ρ, l, h, S, R, P⟩ => P
    unfold stepE
    split <;> first
      | exact bad
      | skip
    all_goals first | (rename_i q; cases q) | skip
    rename_i tg iter ifs
    have hr := cE_ok T k n
    have C' := C.toCtxE
    unfold cLc
    split
    · next g eg =>
      split
      · next hc =>
        simp only [Bool.and_eq_true] at hc
        obtain ⟨⟨h1', h2'⟩, h3'⟩ := hc
        have ok : BlkOk X.N X.env.scope scope (ownOf lo.N scope.names) := by
          rw [C.hN, C.sc]
          exact blkOk_by h1'
        have ho : ∀ i ∈ g.slots, i ∈ (ownOf lo.N scope.names).map (·.2) := fun i hi => by
          have := List.all_eq_true.mp h2' i hi
          simpa using this
        split
        · exact toAsg (ps_setLc C.calm C.nd h1 hyl hsw (cIt_ok C' fun e => (hr lo Z X C' e).1) ok (fun s H Ca cl fp => cTg_ok (C'.blk s H scope Ca cl fp) eg) (fun s H Ca cl fp => pts_yes) (fun s H Ca cl fp => (hr _ _ _ (C'.blk s H scope Ca cl fp) _).1) (noSet_ok h3')) fun σ H Q q => tLc_ok ho q
        · exact toAsg (ps_setLc C.calm C.nd h1 hyl hsw (cIt_ok C' fun e => (hr lo Z X C' e).1) ok (fun s H Ca cl fp => cTg_ok (C'.blk s H scope Ca cl fp) eg) (fun s H Ca cl fp => pts_one (hr _ _ _ (C'.blk s H scope Ca cl fp) _).2) (fun s H Ca cl fp => (hr _ _ _ (C'.blk s H scope Ca cl fp) _).1) (noSet_ok h3')) fun σ H Q q => tLc_ok ho q
        · exact bad
      · exact bad
    · exact bad
end
end Mi
end

section
set_option linter.all false
set_option Elab.async false
set_option maxHeartbeats 1000000
/-! MiC4: soundness of the compiled statements. -/
namespace Mi
open PySem PySem.Spec PyProof.Rows L2
section
variable {T : Tx} {lo : Lo} {k : Nat} {Z : Cn} {X : Cx} {pos pos' : Pos}
theorem filterMap_lt {α β : Type} {f : α → Option β} : ∀ {l : List α}, (∃ a ∈ l, f a = none) → (l.filterMap f).length < l.length
  | [], h => by obtain ⟨a, h, _⟩ := h; cases h
  | a :: l, h => by
    cases e : f a with
    | none =>
      rw [List.filterMap_cons_none e]
      exact Nat.lt_succ_of_le (List.length_filterMap_le f l)
    | some b =>
      rw [List.filterMap_cons_some e]
      obtain ⟨c, hc, hn⟩ := h
      rcases List.mem_cons.mp hc with z | z
      · rw [z, e] at hn; cases hn
      · exact Nat.succ_lt_succ (filterMap_lt ⟨c, z, hn⟩)
theorem noSwap_ok (C : CtxS T lo k Z X) {ts : List Expr} {e : Expr} {kk : Nat} {p : Pos} (h : noSwap lo ts e = true) : swappedStores [.Tuple ts kk p] e X.env = pure none := by
  unfold noSwap at h
  split at h
  · next vs k2 p2 =>
    unfold swappedStores
    simp only [C.bk]
    split
    · rfl
    · next h1 =>
      split
      · rfl
      · next h2 =>
        simp only [Bool.or_eq_true] at h h1
        rcases h with ((h | h) | h) | h
        · exact absurd (.inl (.inl h)) h1
        · exact absurd (.inl (.inr h)) h1
        · exact absurd h h2
        · split
          · rfl
          · next h3 =>
            exfalso
            simp only [Bool.or_eq_true, not_or] at h3
            have h4 := h3.1
            obtain ⟨t, ht, hn⟩ := List.any_eq_true.mp h
            simp only [bne_iff_ne, ne_eq, Decidable.not_not] at h4
            have lt := filterMap_lt (l := ts) (f := fun
              | Expr.Name id pos => if (X.env.kindOf id == some NameKind.local && pos.line == (ts.head?.map fun x => x.pos.line).getD 0) = true then some id else none
              | _ => none) ⟨t, ht, by
                cases t <;> first
                  | rfl
                  | (rename_i x p
                     have e0 : X.env.kindOf x = lo.sc.names.lookup x := by rw [← C.sc]; rfl
                     have hn' : isLoc lo x = false := by simpa using hn
                     have : (X.env.kindOf x == some NameKind.local) = false := by
                       rw [e0]
                       exact beq_eq_false_iff_ne.mpr (by simpa [isLoc] using hn')
                     show (if (X.env.kindOf x == some NameKind.local && _) = true then some x else none) = none
                     rw [this]
                     rfl)⟩
            exact absurd h4 (Nat.ne_of_lt lt)
  · next hv =>
    cases e <;> first
      | rfl
      | exact absurd rfl (hv _ _ _)
theorem isLoc_ok (C : CtxS T lo k Z X) {x : Str} (h : isLoc lo x = true) : X.env.scope.names.lookup x = some .local := by
  rw [C.sc]
  simpa [isLoc] using h
theorem kind_loc (C : CtxS T lo k Z X) {x : Str} (h : isLoc lo x = true) : (X.env.kindOf x == some NameKind.local) = true := by
  have : X.env.kindOf x = some .local := isLoc_ok C h
  rw [this]; rfl
theorem noStar_st {e : Expr} (h : noStar e = true) : (match e with | .Starred .. => true | _ => false) = false := by
  cases e <;> first
    | rfl
    | cases h
theorem par2_ok (C : CtxS T lo k Z X) {x y : Str} {px py pt p2 : Pos} {kt k2 : Nat} {a b : Expr} {is : List Nat} {ca cb : CE} (h : par2 lo x y px py a b = some is) (ha : PE X a (tEv Z ca)) (hb : PE X b (tEv Z cb)) :
    PS X (.Assign [.Tuple [.Name x px, .Name y py] kt pt] (.Tuple [a, b] k2 p2) pos) (tSv Z (.asgP is [ca, cb])) := by
  unfold par2 at h
  split at h
  · next hc =>
    simp only [Bool.and_eq_true, decide_eq_true_eq, Bool.not_eq_true'] at hc
    obtain ⟨⟨⟨⟨⟨⟨⟨c1, c2⟩, c3⟩, c4⟩, c5⟩, c6⟩, c7⟩, c8⟩ := hc
    obtain ⟨i, e1, h⟩ := Option.bind_eq_some_iff.mp h
    obtain ⟨j, e2, h⟩ := Option.bind_eq_some_iff.mp h
    split at h
    · cases h
    · next hij =>
      cases h
      have hi : X.N[i]? = some x := by rw [C.hN]; exact idxN_ok e1
      have hj : X.N[j]? = some y := by rw [C.hN]; exact idxN_ok e2
      refine ms_asgP2 C.calm C.nd hi hj hij (isLoc_ok C c1) (isLoc_ok C c2) (ma_cons ha (ma_cons hb ma_nil (starEach_ok (noStar1 c5))) (starEach_ok (noStar1 c4))) ?_ rfl
      unfold swappedStores
      simp only [C.bk, List.any_cons, List.any_nil, noStar_st c4, noStar_st c5, List.filterMap_cons, List.filterMap_nil, kind_loc C c1, kind_loc C c2, List.head?_cons, Option.map_some, Option.getD_some, Expr.pos, beq_self_eq_true, Bool.and_self, if_true]
      have : (py.line == px.line) = true := by
        rw [beq_iff_eq] at c3 ⊢; exact c3.symm
      simp only [this, Bool.and_self, if_true, c7, c8]
      have e : ([x, y] : List Str).eraseDups.length = 2 := by
        simp [List.eraseDups_cons, Ne.symm c6]
      simp [e]
      intro h
      exfalso
      rcases h with h | h
      · cases a <;> first
          | (simp at h; done)
          | cases c4
      · cases b <;> first
          | (simp at h; done)
          | cases c5
  · cases h
theorem par3_ok (C : CtxS T lo k Z X) {x y z : Str} {px py pz pt p2 : Pos} {kt k2 : Nat} {a b c : Expr} {is : List Nat} {ca cb cc : CE} (h : par3 lo x y z px py pz a b c = some is) (ha : PE X a (tEv Z ca)) (hb : PE X b (tEv Z cb)) (hc' : PE X c (tEv Z cc)) :
    PS X (.Assign [.Tuple [.Name x px, .Name y py, .Name z pz] kt pt] (.Tuple [a, b, c] k2 p2) pos) (tSv Z (.asgP is [ca, cb, cc])) := by
  unfold par3 at h
  split at h
  · next hc =>
    simp only [Bool.and_eq_true, decide_eq_true_eq, Bool.not_eq_true'] at hc
    obtain ⟨⟨⟨⟨⟨⟨⟨⟨⟨⟨⟨⟨c1, c2⟩, c3⟩, l1⟩, l2⟩, s1⟩, s2⟩, s3⟩, n1⟩, n2⟩, n3⟩, f1⟩, f2⟩ := hc
    obtain ⟨i, e1, h⟩ := Option.bind_eq_some_iff.mp h
    obtain ⟨j, e2, h⟩ := Option.bind_eq_some_iff.mp h
    obtain ⟨l, e3, h⟩ := Option.bind_eq_some_iff.mp h
    split at h
    · cases h
    · next hij =>
      cases h
      have hi : X.N[i]? = some x := by rw [C.hN]; exact idxN_ok e1
      have hj : X.N[j]? = some y := by rw [C.hN]; exact idxN_ok e2
      have hl : X.N[l]? = some z := by rw [C.hN]; exact idxN_ok e3
      refine ms_asgP3 C.calm C.nd hi hj hl (fun q => hij (.inl q)) (fun q => hij (.inr (.inl q))) (fun q => hij (.inr (.inr q))) (isLoc_ok C c1) (isLoc_ok C c2) (isLoc_ok C c3) (ma_cons ha (ma_cons hb (ma_cons hc' ma_nil (starEach_ok (noStar1 s3))) (starEach_ok (noStar1 s2))) (starEach_ok (noStar1 s1))) ?_ rfl
      unfold swappedStores
      simp only [C.bk, List.any_cons, List.any_nil, List.filterMap_cons, List.filterMap_nil, kind_loc C c1, kind_loc C c2, kind_loc C c3, List.head?_cons, Option.map_some, Option.getD_some, Expr.pos, beq_self_eq_true, Bool.and_self, if_true]
      have q1 : (py.line == px.line) = true := by
        rw [beq_iff_eq] at l1 ⊢; exact l1.symm
      have q2 : (pz.line == px.line) = true := by
        rw [beq_iff_eq] at l2 ⊢; exact l2.symm
      simp only [q1, q2, Bool.and_self, if_true, f1, f2]
      have e : ([x, y, z] : List Str).eraseDups.length = 3 := by
        simp [List.eraseDups_cons, Ne.symm n1, Ne.symm n2, Ne.symm n3]
      simp [e]
      intro h
      exfalso
      rcases h with h | h | h
      · cases a <;> first
          | (simp at h; done)
          | cases s1
      · cases b <;> first
          | (simp at h; done)
          | cases s2
      · cases c <;> first
          | (simp at h; done)
          | cases s3
  · cases h
theorem cTgX_ok (C : CtxS T lo k Z X) {ce : Lo → Expr → CE} (hr : Okr T k ce) : ∀ {es : List Expr} {ts : List TgX}, cTgX T (ce lo) lo es = some ts → PGs X es (tGs Z ts) ∧ (assignEach es X.env).length = ts.length ∧ (assignEach es X.env).findIdx? (·.1) = none
  | [], ts, e => by cases e; exact ⟨mgs_nil, rfl, rfl⟩
  | .Name x p :: es, ts, e => by
    obtain ⟨i, e1, e2⟩ := Option.bind_eq_some_iff.mp (show ((stN lo x).bind fun i => (cTgX T (ce lo) lo es).map fun z => TgX.nm i :: z) = some ts from e)
    obtain ⟨z, e3, rfl⟩ := Option.map_eq_some_iff.mp e2
    obtain ⟨h1, h2, h3⟩ := stN_ok C.toCtxE e1
    obtain ⟨i1, i2, i3⟩ := cTgX_ok C hr e3
    have ea : assignEach (.Name x p :: es) X.env = (false, assign (.Name x p) X.env) :: assignEach es X.env := rfl
    refine ⟨mgs_nm (pg_name C.nd h1 h2 h3) i1 (by rw [ea]; rfl), by rw [ea]; simp [i2], ?_⟩
    rw [ea, List.findIdx?_cons]
    simp [i3]
  | .Subscript o i p :: es, ts, e => by
    have e : (if noSlice i then (cTgX T (ce lo) lo es).map fun z => TgX.ix (ce lo o) (ce lo i) :: z else none) = some ts := e
    split at e
    · next hn =>
      obtain ⟨z, e3, rfl⟩ := Option.map_eq_some_iff.mp e
      obtain ⟨i1, i2, i3⟩ := cTgX_ok C hr e3
      have ea : assignEach (.Subscript o i p :: es) X.env = (false, assign (.Subscript o i p) X.env) :: assignEach es X.env := rfl
      refine ⟨mgs_ix (hr lo Z X C.toCtxE o).1 (hr lo Z X C.toCtxE i).1 (fun a b c d q => by rw [q] at hn; cases hn) i1 (by rw [ea]; rfl), by rw [ea]; simp [i2], ?_⟩
      rw [ea, List.findIdx?_cons]
      simp [i3]
    · cases e
  | .BoolOp _ _ _ :: _, _, e | .NamedExpr _ _ _ :: _, _, e | .BinOp _ _ _ _ :: _, _, e | .UnaryOp _ _ _ :: _, _, e | .Lambda _ _ _ _ :: _, _, e | .IfExp _ _ _ _ :: _, _, e | .Dict _ _ _ :: _, _, e | .Set _ _ _ :: _, _, e | .ListComp _ _ _ _ :: _, _, e
  | .SetComp _ _ _ _ :: _, _, e | .DictComp _ _ _ _ _ :: _, _, e | .GeneratorExp _ _ _ _ :: _, _, e | .Await _ _ :: _, _, e | .Yield _ _ :: _, _, e | .YieldFrom _ _ :: _, _, e | .Compare _ _ _ _ :: _, _, e | .Call _ _ _ _ :: _, _, e | .FormattedValue _ _ _ _ :: _, _, e
  | .JoinedStr _ _ :: _, _, e | .Constant _ _ _ :: _, _, e | .Attribute _ _ _ :: _, _, e | .Starred _ _ :: _, _, e | .List _ _ :: _, _, e | .Tuple _ _ _ :: _, _, e | .Slice _ _ _ _ :: _, _, e => by cases e
theorem stepS_ok (C : CtxS T lo k Z X) (m : Nat) {rs : List Stmt → List CS} (hs : ∀ ss, PSs X ss (tSs Z (rs ss))) (s : Stmt) : PS X s (tSv Z (stepS T (cE T m) rs lo s)) := by
  have hr := cE_ok T k m
  have h1 := fun e => (hr lo Z X C.toCtxE e).1
  have h2 := fun e => (hr lo Z X C.toCtxE e).2
  unfold stepS
  split
  · exact ms_pass
  · exact ms_brk
  · exact ms_cont
  · split
    · next hn =>
      refine ms_exp (h1 _) ?_
      rename_i e _
      cases e <;> first
        | rfl
        | cases hn
    · exact badS
  · exact ms_ret (h1 _)
  · exact ms_retN
  · exact ms_if (h2 _) (hs _) (hs _)
  · split
    · next g eg =>
      split
      · next hn => exact ms_for C.po C.calm (cIt_ok C.toCtxE h1) (cTg_ok C.toCtxE eg) (hs _) (noSet_ok hn)
      · exact badS
    · exact badS
  · exact ms_while C.po (h2 _) (hs _)
  · split
    · next i ei =>
      rename_i x p e q w
      obtain ⟨a1, a2, a3⟩ := stN_ok C.toCtxE ei
      cases hl : noLc e with
      | true =>
        refine ms_asg (h1 _) (pg_name C.nd a1 a2 a3) (sw_noLc hl) ?_
        cases e <;> rfl
      | false =>
        cases e with
        | ListComp elt gs scope p2 =>
          cases m with
          | zero => exact PS.bad fun D σ H ⟨ρ, l, h, S, R, P⟩ => P
          | succ m => exact ms_asgLc C ei
        | SetComp => cases m <;> exact PS.bad fun D σ H ⟨ρ, l, h, S, R, P⟩ => P
        | DictComp => cases m <;> exact PS.bad fun D σ H ⟨ρ, l, h, S, R, P⟩ => P
        | _ => cases hl
    · exact badS
  · next es kk pt e q =>
    split
    · next c ec =>
      unfold cPar at ec
      split at ec
      · obtain ⟨is, e1, rfl⟩ := Option.map_eq_some_iff.mp ec
        exact par2_ok C e1 (h1 _) (h1 _)
      · obtain ⟨is, e1, rfl⟩ := Option.map_eq_some_iff.mp ec
        exact par3_ok C e1 (h1 _) (h1 _) (h1 _)
      · cases ec
    · unfold cAsgT
      split
      · next hn =>
        have hw := noSwap_ok C (kk := kk) (p := pt) hn
        have hsw : swapsWithSole [.Tuple es kk pt] e q.line X.env = pure false := sw_other fun x p z => by cases z
        split
        · next is e1 =>
          obtain ⟨i1, i2, i3⟩ := pgs_tgN C.toCtxE e1
          exact ms_asgT (h1 _) (mg_tp C.hK C.calm i1 i2 i3) hsw hw
        · split
          · next ts e1 =>
            obtain ⟨i1, i2, i3⟩ := cTgX_ok C hr e1
            exact ms_asgM C.hK C.calm (h1 _) i1 i2 i3 hsw hw
          · exact badS
      · exact badS
  · split
    · next hf => exact ms_asgF (C.flds _ hf).2 (h1 _) (h1 _) sw_attr
    · exact badS
  · split
    · next hn =>
      refine ms_asgI (h1 _) (h1 _) (h1 _) (sw_other fun x p z => by cases z) ?_ fun a b c d q => by rw [q] at hn; cases hn
      rename_i e _ 
      cases e <;> rfl
    · exact badS
  · split
    · next i o ei eo =>
      obtain ⟨a1, a2, a3⟩ := stN_ok C.toCtxE ei
      exact ms_aug (aOp_ok eo) C.nd a1 a2 a3 (h1 _)
    · exact badS
  · split
    · next o eo =>
      split
      · next hf => exact ms_augF (aOp_ok eo) (C.flds _ hf).2 (h1 _) (h1 _)
      · exact badS
    · exact badS
  · exact badS
theorem cSs_ok (C : CtxS T lo k Z X) (m : Nat) : ∀ (n : Nat) (ss : List Stmt), PSs X ss (tSs Z (cSs T m n lo ss))
  | 0, ss => ⟨fun pins s σ H D I q => by
      obtain ⟨ρ, l, h, S, R, P⟩ := q
      exact P.elim⟩
  | n + 1, [] => ms_nil
  | n + 1, s :: ss => ms_cons (stepS_ok C m (cSs_ok C m n) s) (cSs_ok C m (n + 1) ss)
end
end Mi
end

section
set_option linter.all false
set_option Elab.async false
set_option maxHeartbeats 1000000
/-! MiMain: all defs of a text keep what the evaluator says. -/
namespace Mi
open PySem PySem.Spec PyProof.Rows L2

/-- a text as it stands behind its head -/
structure Txt where
  P : Program
  w : World
  K : PySem.W.Frag
  mg : Str → Option Value
  base : Heap
  ga : GA
  G : GE
  T : Tx
  fd : Nat → FuncData
  ps : Nat → List Str
  Tb : Nat → Option FC
/-- the def f is what F says -/
structure DefF (t : Txt) (f : Nat) (F : FC) : Prop where
  ex : ∃ (nm qual : Str) (pa : Arguments) (body : List Stmt) (sc : Scope) (dV kV doc pm cdv ct oc : Value) (an od : Option Addr) (osl : Array (Option Value)) (N : List Str) (m n : Nat),
    t.fd f = PySem.W.fnOf nm qual pa body sc dV kV doc pm an cdv ct ∧ t.K.lookup (t.ga.fn f) = some ⟨oc, od, .func (PySem.W.fnOf nm qual pa body sc dV kV doc pm an cdv ct), osl⟩ ∧ PySem.W.codeIn t.K cdv qual = true ∧ FnScope N (t.ps f) sc ∧
    F.n = N.length ∧ F.ps = (t.ps f).length ∧ F.code = cSs t.T m n ⟨N, sc, fun _ => true⟩ body
structure TxtOk (t : Txt) : Prop where
  hK : t.ga.K = t.K
  df : ∀ f F, t.Tb f = some F → DefF t f F
  gd : ∀ x d, t.T.gd.lookup x = some d → ∃ u v, t.mg x = some u ∧ RelV v u ∧ ∀ ρ H, Rep t.ga ρ H d v
  no : ∀ x, t.T.no.contains x = true → t.mg x = none
  sig : ∀ f n ks sh, t.T.sig.lookup (f, n, ks) = some sh → PySem.W.keepIn t.K (.ref (t.ga.fn f)) = true ∧ KB t.ga t.K (t.fd f) (t.ps f) n ks sh
  csig : ∀ c n ks sh, t.T.csig.lookup (c, n, ks) = some sh → ∃ f, t.G.init c = some f ∧ Mk t.K (t.ga.cls c) (t.ga.fn f) ∧ KB t.ga t.K (t.fd f) (t.ps f) (n + 1) ks sh
  msig : ∀ m n ks sh, t.T.msig.lookup (m, n, ks) = some sh → ∀ c f, t.G.meth c m = some f → Cls t.K (t.ga.cls c) ∧ Meth t.K (t.ga.cls c) m (t.ga.fn f) ∧ PySem.W.keepIn t.K (.ref (t.ga.fn f)) = true ∧ KB t.ga t.K (t.fd f) (t.ps f) (n + 1) ks sh
  prop : ∀ x, t.T.flds.contains x = true → ∀ c g, t.G.prop c x = some g → Cls t.K (t.ga.cls c) ∧ (∃ p, PropOf t.K (t.ga.cls c) x p (t.ga.fn g)) ∧ (∀ (s : Shared) (u : Value), BindsTo s (t.fd g) ⟨[u], []⟩ ((t.ps g).zip [u])) ∧ (t.ps g).length = 1
  att : ∀ x, t.T.flds.contains x = true → ∀ c, t.G.att c x = true → Cls t.K (t.ga.cls c) ∧ NoAttr t.K (t.ga.cls c) x
  isi : InF t.ga.K t.G t.ga.cls
  eq : ∀ c f, t.G.meth c "__eq__" = some f → PySem.W.findIn t.K (.ref (t.ga.cls c)) "__eq__" = some (some (.ref (t.ga.fn f))) ∧ PySem.W.isFn t.K (.ref (t.ga.fn f)) = true ∧
    PySem.W.findIn t.K (.ref (t.ga.cls c)) "__ne__" = some (some (.builtin "object.__ne__")) ∧ PySem.W.mroIn t.K (t.ga.cls c) (.type "object") = some true ∧
    (∀ n ∈ (["NoneType", "bool", "int", "str", "tuple", "list", "dict"] : List String), PySem.W.notFirst t.K (t.ga.cls c) (.type n) = true) ∧ (∀ d, t.G.cty d "int" = true → PySem.W.notFirst t.K (t.ga.cls c) (.ref (t.ga.cls d)) = true) ∧ KB t.ga t.K (t.fd f) (t.ps f) 2 [] [.inl 0, .inl 1]
  st : ∀ c f, t.G.meth c "__str__" = some f → PySem.W.findIn t.K (.ref (t.ga.cls c)) "__str__" = some (some (.ref (t.ga.fn f))) ∧ PySem.W.isFn t.K (.ref (t.ga.fn f)) = true ∧ KB t.ga t.K (t.fd f) (t.ps f) 1 [] [.inl 0]
  vok : ∀ f n, t.T.vok.contains (f, n) = true → PySem.W.keepIn t.K (.ref (t.ga.fn f)) = true ∧ KB t.ga t.K (t.fd f) (t.ps f) n [] ((List.range n).map Sum.inl)
  ssig : ∀ x m n ks f sh, t.T.ssig.lookup (x, m, n, ks) = some (f, sh) → ∃ C wa, t.mg x = some (.ref C) ∧ PySem.W.specialIn t.K (.ref C) "__getattribute__" = some (some (.builtin "type.__getattribute__")) ∧ PySem.W.readsIn t.K C (.type "type") = true ∧
    PySem.W.findCls t.K (.ref C) (.type "type") m = some (.get (.builtin "staticmethod.__get__") (.ref wa) .none (.ref C)) ∧ (∃ rest, PySem.W.recIn t.K wa "staticmethod" = some (.ref (t.ga.fn f) :: rest)) ∧ PySem.W.keepIn t.K (.ref (t.ga.fn f)) = true ∧ KB t.ga t.K (t.fd f) (t.ps f) n ks sh
section
variable {t : Txt}
theorem RelS.begin {ga : GA} {ρ : List Addr} {H : Hp} {F : FC} {N : List Str} {ds : List D} {vs : List V} (hn : F.n = N.length) (r : Reps ga ρ H ds vs) : RelS ga ρ H (begin F ds) (start N vs) := by
  have hl := r.len
  refine ⟨by simp [Mi.begin, L2.start, hn, hl], fun i d e => ?_⟩
  unfold Mi.begin at e
  by_cases h : i < ds.length
  · rw [List.getElem?_append_left (by simpa using h)] at e
    rw [List.getElem?_map] at e
    obtain ⟨d', e1, e2⟩ := Option.map_eq_some_iff.mp e
    cases e2
    obtain ⟨v, e3, r3⟩ := r.get e1
    refine ⟨v, ?_, r3⟩
    unfold L2.start
    rw [List.getElem?_append_left (by rw [List.length_map, ← hl]; exact h), List.getElem?_map, e3]
    rfl
  · rw [List.getElem?_append_right (by simpa using Nat.le_of_not_lt h)] at e
    have := List.mem_of_getElem? e
    have := (List.mem_replicate.mp this).2
    cases this
theorem spO_len {ga : GA} {n : Nat} {φ : List D → Hea → Out D} {vs : List V} {H : Hp} {Q : VK} {E : XK} (h : spO ga n φ vs H Q E) : vs.length = n := by
  obtain ⟨ρ, hh, ds, R, r, l, _⟩ := h
  rw [← r.len, l]
theorem all_ok (ok : TxtOk t) : ∀ (j f : Nat), FnG t.P t.w t.K t.mg t.base (2 * j) (t.ga.fn f) (t.fd f) (t.ps f) (spO t.ga (t.ps f).length (callF t.G t.Tb j f))
  | 0, f => ⟨fun vs H Q E h => spO_len h, fun A outer s H args us vs Q E _ _ _ _ _ h => by
      obtain ⟨ρ, hh, ds, R, r, l, P⟩ := h
      exact P.elim⟩
  | j + 1, f => by
    have ih := all_ok ok j
    cases hT : t.Tb f with
    | none =>
      refine ⟨fun vs H Q E h => spO_len h, fun A outer s H args us vs Q E _ _ _ _ _ h => ?_⟩
      obtain ⟨ρ, hh, ds, R, r, l, P⟩ := h
      simp only [callF, hT] at P
      exact P.elim
    | some F =>
      obtain ⟨nm, qual, pa, body, sc, dV, kV, doc, pm, cdv, ct, oc, an, od, osl, N, m, n, e1, lk, hcd, S, hn, hps, hco⟩ := (ok.df f F hT).ex
      have el : 2 * (j + 1) = (2 * j + 1) + 1 := by omega
      rw [el, e1]
      refine fnG_of lk hcd S (fun vs H Q E h => spO_len h) fun A outer s H vs Q E hr hg h => ?_
      obtain ⟨ρ, hh, ds, R, r, l, P⟩ := h
      let X : Cx := cxOf (L2.CX t.P t.w) t.P t.w t.K t.mg t.base N qual sc (t.ga.fn f) cdv A outer s H E
      let Z : Cn := ⟨t.ga, t.G, callF t.G t.Tb j, fun c d _ H' => E c d H'⟩
      have C : CtxS t.T ⟨N, sc, fun _ => true⟩ (2 * j) Z X := {
        hK := ok.hK.symm
        calm := rfl
        nd := S.nd
        hN := rfl
        sc := rfl
        fn := fun _ _ => rfl
        gs := hg
        room := hr
        tk := takes_of (X := X) rfl rfl rfl rfl
        gd := ok.gd
        no := ok.no
        sig := fun f' n' ks sh e => let ⟨a, b⟩ := ok.sig f' n' ks sh e; ⟨_, _, ⟨a, ih f'⟩, b⟩
        csig := fun c n' ks sh e => let ⟨f', a, b, d⟩ := ok.csig c n' ks sh e; ⟨f', a, ⟨b, _, _, ih f', d⟩⟩
        msig := fun m' n' ks sh e => ⟨fun c f' h => let ⟨a, b, d, q⟩ := ok.msig m' n' ks sh e c f' h; ⟨a, b, _, _, ⟨d, ih f'⟩, q⟩⟩
        flds := fun x e => ⟨⟨fun c g h => let ⟨a, ⟨p, b⟩, d, q⟩ := ok.prop x e c g h; ⟨a, p, _, _, b, ih g, d, q⟩, ok.att x e⟩, ⟨ok.att x e⟩⟩
        isi := ok.isi
        own := ⟨fun c f' h => let ⟨a, b, d, q, r, u, v⟩ := ok.eq c f' h; ⟨a, b, d, q, r, u, _, _, ih f', v⟩⟩
        st := ⟨fun c f' h => let ⟨a, b, v⟩ := ok.st c f' h; ⟨a, b, _, _, ih f', v⟩⟩
        vok := fun n => ⟨fun f' e => let ⟨a, b⟩ := ok.vok f' n e; ⟨_, _, ⟨a, ih f'⟩, b⟩⟩
        ssig := fun x m' n' ks f' sh e => let ⟨C', wa, a, b, d, q, r, u, v⟩ := ok.ssig x m' n' ks f' sh e; ⟨C', wa, _, _, a, b, d, q, r, ⟨u, ih f'⟩, v⟩
        po := passes_of (X := X) (K := fun e s'' => L2.CX t.P t.w outer H s E e s'') (E₁ := fun e' s'' => L2.CX t.P t.w outer H s E e' s'') rfl
        kf := S.kind }
      refine ⟨_, cSs_ok C m n body, ρ, begin F ds, hh, RelS.begin hn r, R, ?_⟩
      have P' : PostC t.ga ρ H (runF t.G (callF t.G t.Tb j) F ds hh) Q E := by
        have := P
        simp only [callF, hT] at this
        exact this
      unfold runF at P'
      rw [if_pos (by rw [l, hps]), hco] at P'
      show PostS Z ρ H (evSs t.G (callF t.G t.Tb j) (cSs t.T m n ⟨N, sc, fun _ => true⟩ body) (begin F ds) hh) _
      revert P'
      generalize evSs t.G (callF t.G t.Tb j) (cSs t.T m n ⟨N, sc, fun _ => true⟩ body) (begin F ds) hh = RR
      intro P'
      cases RR with
      | no => exact P'
      | ex x h' => exact fun σ' H' m X R c d z => P' H' m X R c d z
      | ok fl h' =>
        cases fl with
        | nx l => exact fun σ' H' m X R S => P' .non H' m X R rfl
        | rt d => exact fun v H' m X R r => P' v H' m X R r
        | bk l => exact P'.elim
        | ct l => exact P'.elim
end
end Mi
end

section
set_option linter.all false
set_option Elab.async false
set_option maxHeartbeats 1000000
/-! MiHd: from the head's facts to a text; the law's end. -/
namespace Mi
open PySem PySem.Spec PyProof.Rows L2

/-! ### the law's end -/
/-- the script at a: known whole, nothing else is -/
def scrH (a : Addr) (vs : List Value) (ns : List Int) : Hp := fun b => if b = a then some (.frz { cls := .type "list", data := .seq vs.toArray } (.lst (ns.map V.int))) else none
def isTrueAt (s₁ : Shared) : Result → Shared → Prop := fun r s' => r = .ok (.ret (.bool true)) ∧ OldK s₁.heap s'.heap ∧ s'.os = s₁.os ∧ AllBare s'.gens
theorem law_end {P : Program} {w : World} {K : PySem.W.Frag} {mg mb : Str → Option Value} {k : Nat} {fa a : Addr} {fd : FuncData} {x : Str} {sp : Sp} {t : Shared} {vs : List Value} {ns : List Int}
    (kin : K.In t.heap) (hmg : t.heap.Ns mainGlobals mg) (hmb : t.heap.Ns builtinsNs mb) (boot : ∀ x : Str, x ≠ "__name__" → mb x = bootBuiltins x) (nl : t.heap.NoLimit) (gens : t.gens = #[])
    (at_a : t.heap.get? a = some { cls := .type "list", data := .seq vs.toArray }) (isI : IntsAre vs ns) (few : ns.length ≤ sizeLine) (room : Room k callerA)
    (F : ∀ base : Heap, K.In base → base.Ns mainGlobals mg → FnG P w K mg base k fa fd [x] sp) (bind : ∀ (s : Shared) (u : Value), BindsTo s fd ⟨[u], []⟩ [(x, u)])
    (off : K.lookup a = none) (keeps : sp [.ref a] (scrH a vs ns) (fun v _ => v = .bl true) fun _ _ _ => False) : codeAny (model P w) callerA (.call (.ref fa) ⟨[.ref a], []⟩) (isTrueAt t) t := by
  let H := scrH a vs ns
  have Ha : H a = some (.frz { cls := .type "list", data := .seq vs.toArray } (.lst (ns.map V.int))) := if_pos rfl
  have Hb : ∀ {b : Addr}, b ≠ a → H b = none := fun hb => if_neg hb
  have objs : HOk P w H t.heap := fun b o e => by
    by_cases hb : b = a
    · subst hb
      rw [Ha] at e
      cases e
      exact ⟨at_a, by rw [List.length_map]; exact few, vs, _, vals_ints isI, at_a⟩
    · rw [Hb hb] at e; cases e
  have ofDict : ∀ {b : Addr} {m : Str → Option Value}, t.heap.Ns b m → b ≠ a := fun {b m} q hb => by
    obtain ⟨o, es, ep, e, d, _⟩ := q
    subst hb
    rw [at_a] at e
    cases e
    cases d
  have hid : ∀ {b : Addr} {m : Str → Option Value}, t.heap.Ns b m → (hidT t.heap H).Ns b m := fun {b m} q => by
    have hb := ofDict q
    obtain ⟨o, es, ep, e, r⟩ := q
    exact ⟨o, es, ep, hidT_get e (Hb hb), r⟩
  have kin' : K.In (hidT t.heap H) := fun b o e => hidT_get (kin b o e) (Hb fun hb => by rw [hb, off] at e; cases e)
  have M : Mod K mg (hidT t.heap H) := by
    obtain ⟨mc, c1, c2⟩ := nl
    exact ⟨kin', hid hmg, ⟨mb, hid hmb, boot⟩, mc, hid c1, c2⟩
  have env : Env0 P w K mg (hidT t.heap H) callerA [] t H := {
    frames := rfl
    mod := M
    bs := fun b o e => of_hidT e
    bsz := by rw [hidT_size]; exact Nat.le_refl _
    funs := trivial
    frf := fun b hb => by cases hb
    hok := objs
    bare := .of_eq gens }
  refine codeAny_mono ((F _ kin' (hid hmg)).run callerA [] t H ⟨[.ref a], []⟩ [.ref a] [.ref a] _ _ room rfl env (bind t (.ref a)) (.cons rfl .nil) keeps) fun r s' q => ?_
  match r, q with
  | .error e, q =>
    obtain ⟨_, _, _, _, _, _, _, _, _, _, _, _, z⟩ := q
    exact z.elim
  | .ok (.ret u), q =>
    obtain ⟨v, H', os, bare, un, ok', r', q⟩ := q
    subst q
    refine ⟨by rw [show u = Value.bool true from r'], OldK.of_keep fun b o e => ?_, os, bare⟩
    by_cases hb : b = a
    · subst hb
      have e2 := un.frzs b _ _ Ha
      have e3 := (ok' b _ e2).1
      rw [at_a] at e
      cases e
      exact e3
    · exact un.keep b o e (Hb hb) (fun z => by cases z) (by simp)
end Mi
namespace Mi
open PySem PySem.Spec PyProof.Rows L2

/-! ### a text by its tables -/
structure Tab where
  fns : List (Nat × He5.DefA)
  cls : List (Nat × Str)
  meths : List ((Nat × Str) × Nat)
  props : List ((Nat × Str) × Nat)
  atts : List (Nat × Str)
  inits : List (Nat × Nat)
  subs : List ((Nat × Nat) × Bool)
  T : Tx
  ps : List (Nat × List Str)
  fcs : List (Nat × FC)
def Tab.gaT (t : Tab) (K : PySem.W.Frag) : GA where
  K := K
  fn := fun f => match t.fns.lookup f with
    | some d => d.at_ K
    | none => 0
  cls := fun c => match t.cls.lookup c with
    | some x => He.ga K x
    | none => 0
  kd := fun _ => 0
def Tab.ge (t : Tab) : GE where
  meth := fun c m => t.meths.lookup (c, m)
  prop := fun c m => t.props.lookup (c, m)
  att := fun c f => t.atts.contains (c, f)
  init := fun c => t.inits.lookup c
  sub := fun d c => t.subs.lookup (d, c)
  tyc := fun _ c => (t.cls.lookup c).isSome
  cty := fun c _ => (t.cls.lookup c).isSome
def fdAt (K : PySem.W.Frag) (a : Addr) : FuncData := match K.lookup a with
  | some ⟨_, _, .func fd, _⟩ => fd
  | _ => PySem.W.fnOf "" "" { posonlyargs := [], args := [], vararg := none, kwonlyargs := [], kw_defaults := [], kwarg := none, defaults := [] } [] { kind := .function, names := [], isGenerator := false, isCoroutine := false } .none .none .none .none none .none .none
def gdB (t : Tab) (K : PySem.W.Frag) : Str × D → Bool
  | (x, .int i) => (He.Fa.int x i).ok K
  | (x, .str z) => (He.Fa.str x z).ok K
  | (x, .fn f) => (He.Fa.glo x).ok K && decide (He.ga K x = (t.gaT K).fn f)
  | (x, .cls c) => (He.Fa.glo x).ok K && decide (He.ga K x = (t.gaT K).cls c)
  | _ => false
def methB (t : Tab) (K : PySem.W.Frag) : (Nat × Str) × Nat → Bool
  | ((c, m), f) => match t.cls.lookup c with
    | some x => (He.Fa.cls x).ok K && (He.Fa.meth x m).ok K && decide (He.ma K (He.ga K x) m = (t.gaT K).fn f)
    | none => false
def propB (t : Tab) (K : PySem.W.Frag) : (Nat × Str) × Nat → Bool
  | ((c, m), f) => match t.cls.lookup c with
    | some x => (He.Fa.cls x).ok K && decide (PySem.W.findIn K (.ref (He.ga K x)) m = some (some (.ref (He.ma K (He.ga K x) m)))) &&
        decide (PySem.W.specialIn K (.ref (He.ma K (He.ga K x) m)) "__get__" = some (some (.builtin "property.__get__"))) && decide (PySem.W.takesIn K (.ref (He.ma K (He.ga K x) m)) = some true) &&
        (match PySem.W.recIn K (He.ma K (He.ga K x) m) "property" with
          | some (.ref g :: _) => decide (g = (t.gaT K).fn f)
          | _ => false)
    | none => false
def attB (t : Tab) (K : PySem.W.Frag) : Nat × Str → Bool
  | (c, f) => match t.cls.lookup c with
    | some x => (He.Fa.cls x).ok K && (He.Fa.noat x f).ok K
    | none => false
def initB (t : Tab) (K : PySem.W.Frag) : Nat × Nat → Bool
  | (c, f) => match t.cls.lookup c with
    | some x => (He.Fa.mkr x).ok K && decide (He.ma K (He.ga K x) "__init__" = (t.gaT K).fn f)
    | none => false
/-- isinstance: each class's own facts; against the built-in types; one another -/
def clsB (K : PySem.W.Frag) (x : Str) : Bool := (He.Fa.cls x).ok K && decide (PySem.W.findIn K (.ref (He.ga K x)) "__class__" = some (some (.builtin "object.__class__"))) && decide (PySem.W.specialIn K (.builtin "object.__class__") "__get__" = some (some (.builtin "getset_descriptor.__get__"))) &&
  decide (PySem.W.takesIn K (.builtin "object.__class__") = some true) && decide (PySem.W.mroIn K (He.ga K x) (.type "object") = some true) && (["NoneType", "bool", "int", "str", "tuple", "list", "dict"].all fun n => decide (PySem.W.kitOne K (.type n) (.ref (He.ga K x)) = some false)) &&
  (["int", "bool", "str", "tuple", "list", "dict"].all fun n => decide (PySem.W.kitOne K (.ref (He.ga K x)) (.type n) = some false))
def subB (t : Tab) (K : PySem.W.Frag) : (Nat × Nat) × Bool → Bool
  | ((d, c), b) => (t.cls.lookup d).isSome && decide (PySem.W.kitOne K (.ref ((t.gaT K).cls d)) (.ref ((t.gaT K).cls c)) = some b)
def eqB (t : Tab) (K : PySem.W.Frag) : (Nat × Str) × Nat → Bool
  | ((c, m), _) => if m = "__eq__" then (match t.cls.lookup c with
    | some x => decide (PySem.W.findIn K (.ref (He.ga K x)) "__ne__" = some (some (.builtin "object.__ne__"))) && (["NoneType", "bool", "int", "str", "tuple", "list", "dict"].all fun n => PySem.W.notFirst K (He.ga K x) (.type n)) && (t.cls.all fun y => PySem.W.notFirst K (He.ga K x) (.ref (He.ga K y.2)))
    | none => false) else true
def statB (t : Tab) (K : PySem.W.Frag) : (Str × Str × Nat × List Str) × (Nat × List (Sum Nat D)) → Bool
  | ((x, m, _, _), (f, _)) => (He.Fa.glo x).ok K && decide (PySem.W.specialIn K (.ref (He.ga K x)) "__getattribute__" = some (some (.builtin "type.__getattribute__"))) && PySem.W.readsIn K (He.ga K x) (.type "type") && He5.wrapB K (He.ga K x) "staticmethod" "staticmethod.__get__" m && decide (He5.wf K (He.ga K x) "staticmethod" m = (t.gaT K).fn f)
def Tab.exB (t : Tab) (K : PySem.W.Frag) : Bool := t.T.gd.all (gdB t K) && t.meths.all (methB t K) && t.props.all (propB t K) && t.atts.all (attB t K) && t.inits.all (initB t K) && (t.cls.all fun e => clsB K e.2) && t.subs.all (subB t K) && t.meths.all (eqB t K) && t.T.ssig.all (statB t K) && t.T.no.all fun x => (He.Fa.free x).ok K
theorem mem_lookup {α β : Type} [BEq α] [LawfulBEq α] : ∀ {l : List (α × β)} {a : α} {b : β}, l.lookup a = some b → (a, b) ∈ l
  | [], _, _, e => by cases e
  | (x, y) :: l, a, b, e => by
    rw [List.lookup_cons] at e
    split at e
    · next h =>
      cases e
      rw [beq_iff_eq.mp h]
      exact List.mem_cons_self
    · exact List.mem_cons_of_mem _ (mem_lookup e)

/-- the arguments' order, without defaults -/
def KBs (pa : Arguments) (ps : List Str) (n : Nat) (ks : List Str) (is : List Nat) : Prop := is.length = ps.length ∧ (∀ i ∈ is, i < n + ks.length) ∧
  ∀ (nm qual : Str) (body : List Stmt) (sc : Scope) (kV doc pm : Value) (an : Option Addr) (cdv ct : Value) (us ws : List Value), us.length = n → ws.length = ks.length →
    bindArgs (PySem.W.fnOf nm qual pa body sc .none kV doc pm an cdv ct) ⟨us, ks.zip ws⟩ = pure (ps.zip (is.map fun i => (us ++ ws).getD i .none))
theorem ShV.inl {ga : GA} {vs : List Value} : ∀ {is : List Nat}, (∀ i ∈ is, i < vs.length) → ShV ga (is.map Sum.inl) vs (is.map fun i => vs.getD i .none)
  | [], _ => rfl
  | i :: is, h => by
    have hi := h i List.mem_cons_self
    refine ⟨_, _, rfl, ?_, ShV.inl fun j hj => h j (List.mem_cons_of_mem _ hj)⟩
    simp [List.getD_eq_getElem?_getD, List.getElem?_eq_getElem hi]
theorem KB.of {ga : GA} {K : PySem.W.Frag} {pa : Arguments} {ps : List Str} {n : Nat} {ks : List Str} {is : List Nat} (h : KBs pa ps n ks is) (nm qual : Str) (body : List Stmt) (sc : Scope) (kV doc pm : Value) (an : Option Addr) (cdv ct : Value) :
    KB ga K (PySem.W.fnOf nm qual pa body sc .none kV doc pm an cdv ct) ps n ks (is.map Sum.inl) := by
  obtain ⟨h1, h2, h3⟩ := h
  refine ⟨by rw [List.length_map]; exact h1, fun s us ws _ l1 l2 => ⟨_, ShV.inl fun i hi => ?_, BindsTo.of_eq (h3 _ _ _ _ _ _ _ _ _ _ us ws l1 l2)⟩⟩
  rw [List.length_append, l1, l2]
  exact h2 i hi
/-- all of a list -/
def AllL {α : Type} (P : α → Prop) : List α → Prop
  | [] => True
  | a :: l => P a ∧ AllL P l
theorem AllL.mem {α : Type} {P : α → Prop} : ∀ {l : List α} {a : α}, AllL P l → a ∈ l → P a
  | _ :: _, _, h, .head _ => h.1
  | _ :: _, _, h, .tail _ m => AllL.mem h.2 m
theorem AllL.get {α : Type} {P : α → Prop} {l : List α} {i : Nat} {a : α} (h : AllL P l) (e : l[i]? = some a) : P a := h.mem (List.mem_of_getElem? e)
/-- def i of the tables is well bound so -/
def Tab.kb (t : Tab) (f n : Nat) (ks : List Str) (sh : List (Sum Nat D)) : Prop := ∃ d ps is, t.fns.lookup f = some d ∧ t.ps.lookup f = some ps ∧ d.dfl = [] ∧ sh = is.map Sum.inl ∧ KBs d.params ps n ks is
/-- what is to be shown of the tables, once -/
structure Tab.Ok (t : Tab) : Prop where
  fc : AllL (fun (e : Nat × FC) => ∃ d ps N m n, t.fns.lookup e.1 = some d ∧ t.ps.lookup e.1 = some ps ∧ FnScope N ps d.scope ∧ e.2.n = N.length ∧ e.2.ps = ps.length ∧ e.2.code = cSs t.T m n ⟨N, d.scope, fun _ => true⟩ d.body) t.fcs
  sig : AllL (fun e => t.kb e.1.1 e.1.2.1 e.1.2.2 e.2) t.T.sig
  csig : AllL (fun e => ∃ f, t.inits.lookup e.1.1 = some f ∧ t.kb f (e.1.2.1 + 1) e.1.2.2 e.2) t.T.csig
  msig : AllL (fun e => AllL (fun q => q.1.2 = e.1.1 → t.kb q.2 (e.1.2.1 + 1) e.1.2.2 e.2) t.meths) t.T.msig
  eqs : AllL (fun q => (q.1.2 = ("__eq__" : Str) → t.kb q.2 2 [] [.inl 0, .inl 1]) ∧ (q.1.2 = ("__str__" : Str) → t.kb q.2 1 [] [.inl 0])) t.meths
  vok : AllL (fun e => t.kb e.1 e.2 [] ((List.range e.2).map Sum.inl)) t.T.vok
  ssig : AllL (fun e => t.kb e.2.1 e.1.2.2.1 e.1.2.2.2 e.2.2) t.T.ssig
  prop : AllL (fun q => ∃ d x, t.fns.lookup q.2 = some d ∧ t.ps.lookup q.2 = some [x] ∧ t.kb q.2 1 [] [.inl 0]) t.props
/-- what the head tells -/
structure Tab.Says (t : Tab) (K : PySem.W.Frag) : Prop where
  defs : He5.SaysA [] (t.fns.map Prod.snd) K
  more : t.exB K = true
def Tab.txt (t : Tab) (P : Program) (w : World) (K : PySem.W.Frag) (mg : Str → Option Value) (base : Heap) : Txt where
  P := P
  w := w
  K := K
  mg := mg
  base := base
  ga := t.gaT K
  G := t.ge
  T := t.T
  fd := fun f => fdAt K ((t.gaT K).fn f)
  ps := fun f => (t.ps.lookup f).getD []
  Tb := fun f => t.fcs.lookup f
section
variable {t : Tab} {K : PySem.W.Frag} {P : Program} {w : World} {mg : Str → Option Value} {base h : Heap}
theorem Tab.Says.fun_ (c : t.Says K) {f : Nat} {d : He5.DefA} (e : t.fns.lookup f = some d) : FunD K d.name d.qual d.params d.body d.scope (d.dvs K) (d.kws K) ((t.gaT K).fn f) (fdAt K ((t.gaT K).fn f)) := by
  obtain ⟨i, hi⟩ := List.mem_iff_getElem?.mp (List.mem_map.mpr ⟨(f, d), mem_lookup e, rfl⟩ : d ∈ t.fns.map Prod.snd)
  obtain ⟨fd, F⟩ := He5.SaysA.def_ c.defs i hi
  have ea : (t.gaT K).fn f = d.at_ K := by
    show (match t.fns.lookup f with | some d => d.at_ K | none => 0) = _
    rw [e]
  rw [ea]
  obtain ⟨oc, od, dV, kV, doc, pm, an, cdv, ct, osl, e1, lk, _⟩ := F.ex
  have : fdAt K (d.at_ K) = fd := by
    unfold fdAt
    rw [lk]
  rw [this]
  exact F
theorem Tab.Says.parts (c : t.Says K) : (∀ e ∈ t.T.gd, gdB t K e = true) ∧ (∀ e ∈ t.meths, methB t K e = true) ∧ (∀ e ∈ t.props, propB t K e = true) ∧ (∀ e ∈ t.atts, attB t K e = true) ∧ (∀ e ∈ t.inits, initB t K e = true) ∧ (∀ e ∈ t.cls, clsB K e.2 = true) ∧ (∀ e ∈ t.subs, subB t K e = true) ∧ (∀ e ∈ t.meths, eqB t K e = true) ∧ (∀ e ∈ t.T.ssig, statB t K e = true) ∧ ∀ x ∈ t.T.no, (He.Fa.free x).ok K = true := by
  have := c.more
  unfold Tab.exB at this
  simp only [Bool.and_eq_true, List.all_eq_true] at this
  obtain ⟨⟨⟨⟨⟨⟨⟨⟨⟨a, b⟩, c⟩, d⟩, e⟩, g⟩, i⟩, j⟩, k⟩, f⟩ := this
  exact ⟨a, b, c, d, e, g, i, j, k, f⟩
theorem Tab.Says.kb (c : t.Says K) {f n : Nat} {ks : List Str} {sh : List (Sum Nat D)} (h : t.kb f n ks sh) : PySem.W.keepIn K (.ref ((t.gaT K).fn f)) = true ∧ KB (t.gaT K) K (fdAt K ((t.gaT K).fn f)) ((t.ps.lookup f).getD []) n ks sh := by
  obtain ⟨d, ps, is, e1, e2, e3, rfl, h⟩ := h
  have F := c.fun_ e1
  refine ⟨F.kp, ?_⟩
  obtain ⟨oc, od, dV, kV, doc, pm, an, cdv, ct, osl, e4, lk, _, hd, _⟩ := F.ex
  have hdv : dV = .none := by
    have : d.dvs K = [] := by
      show d.dfl.map _ = []
      rw [e3]; rfl
    rcases hd with ⟨_, z⟩ | ⟨z, _⟩
    · exact z
    · exact absurd this z
  subst hdv
  rw [e4, e2]
  exact KB.of h _ _ _ _ _ _ _ _ _ _
theorem eqO_1 {C g : Addr} {m : Str} (M : Meth K C m g) : PySem.W.findIn K (.ref C) m = some (some (.ref g)) := M.at_
theorem eqO_2 {C g : Addr} {m : Str} (M : Meth K C m g) : PySem.W.isFn K (.ref g) = true := M.fn
theorem Tab.txtOk (o : t.Ok) (c : t.Says K) (X : K.In h) (G : h.Ns mainGlobals mg) : TxtOk (t.txt P w K mg base) := by
  obtain ⟨p1, p2, p3, p4, p5, p7, p8, p9, p10, p6⟩ := c.parts
  refine ⟨rfl, fun f F e => ?_, fun x d e => ?_, fun x e => ?_, fun f n ks sh e => ?_, fun cc n ks sh e => ?_, fun m n ks sh e cc f ef => ?_, fun x _ cc g e => ?_, fun x _ cc e => ?_, ?_, fun cc f ef => ?_, fun cc f ef => ?_, fun f n e => ?_, fun x m n ks f sh e => ?_⟩
  · have this := o.fc.mem (mem_lookup (show t.fcs.lookup f = some F from e))
    simp only at this
    obtain ⟨d, ps, N, m, n, e1, e2, S, h1, h2, h3⟩ := this
    have Fd := c.fun_ e1
    obtain ⟨oc, od, dV, kV, doc, pm, an, cdv, ct, osl, e4, lk, hcd, _, _⟩ := Fd.ex
    have ep : (t.txt P w K mg base).ps f = ps := by
      show (t.ps.lookup f).getD [] = ps
      rw [e2]; rfl
    refine ⟨d.name, d.qual, d.params, d.body, d.scope, dV, kV, doc, pm, cdv, ct, oc, an, od, osl, N, m, n, e4, ?_, hcd, ?_, h1, ?_, h3⟩
    · rw [← e4]; exact lk
    · rw [ep]; exact S
    · rw [ep]; exact h2
  · have hb := p1 _ (mem_lookup e)
    cases d with
    | int i =>
      obtain ⟨t, h1⟩ := He.int_ok X G (show (He.Fa.int x i).ok K = true from hb)
      exact ⟨_, .int i, h1, ⟨t, rfl⟩, fun _ _ => rfl⟩
    | str z =>
      obtain ⟨t, h1⟩ := He.str_ok X G (show (He.Fa.str x z).ok K = true from hb)
      exact ⟨_, .str z, h1, ⟨t, rfl⟩, fun _ _ => rfl⟩
    | fn f =>
      have hb : ((He.Fa.glo x).ok K && decide (He.ga K x = (t.gaT K).fn f)) = true := hb
      rw [Bool.and_eq_true, decide_eq_true_eq] at hb
      have h1 := He.glo_ok X G hb.1
      rw [hb.2] at h1
      exact ⟨_, .ref ((t.gaT K).fn f), h1, rfl, fun _ _ => rfl⟩
    | cls f =>
      have hb : ((He.Fa.glo x).ok K && decide (He.ga K x = (t.gaT K).cls f)) = true := hb
      rw [Bool.and_eq_true, decide_eq_true_eq] at hb
      have h1 := He.glo_ok X G hb.1
      rw [hb.2] at h1
      exact ⟨_, .ref ((t.gaT K).cls f), h1, rfl, fun _ _ => rfl⟩
    | _ => cases hb
  · exact He.free_ok X G (p6 x (by have e : t.T.no.contains x = true := e; simpa using e))
  · exact c.kb (o.sig.mem (mem_lookup e))
  · obtain ⟨f, h1, h2⟩ := o.csig.mem (mem_lookup e)
    have hb := p5 _ (mem_lookup h1)
    unfold initB at hb
    simp only at hb
    split at hb
    · next x ex =>
      rw [Bool.and_eq_true, decide_eq_true_eq] at hb
      have ec : (t.gaT K).cls cc = He.ga K x := by
        show (match t.cls.lookup cc with | some x => He.ga K x | none => 0) = _
        rw [ex]
      refine ⟨f, h1, ?_, (c.kb h2).2⟩
      show Mk K ((t.gaT K).cls cc) ((t.gaT K).fn f)
      rw [ec, ← hb.2]
      exact He.mkr_ok hb.1
    · cases hb
  · have hm := mem_lookup (show t.meths.lookup (cc, m) = some f from ef)
    have hb := p2 _ hm
    have k := (o.msig.mem (mem_lookup e)).mem hm rfl
    unfold methB at hb
    simp only at hb
    split at hb
    · next x ex =>
      rw [Bool.and_eq_true, Bool.and_eq_true, decide_eq_true_eq] at hb
      have ec : (t.gaT K).cls cc = He.ga K x := by
        show (match t.cls.lookup cc with | some x => He.ga K x | none => 0) = _
        rw [ex]
      refine ⟨?_, ?_, (c.kb k).1, (c.kb k).2⟩
      · show Cls K ((t.gaT K).cls cc)
        rw [ec]; exact He.cls_ok hb.1.1
      · show Meth K ((t.gaT K).cls cc) m ((t.gaT K).fn f)
        rw [ec, ← hb.2]; exact He.meth_ok hb.1.2
    · cases hb
  · have hm := mem_lookup (show t.props.lookup (cc, x) = some g from e)
    have hb := p3 _ hm
    obtain ⟨d, y, e1, e2, k⟩ := o.prop.mem hm
    unfold propB at hb
    simp only at hb
    split at hb
    · next z ez =>
      simp only [Bool.and_eq_true, decide_eq_true_eq] at hb
      obtain ⟨⟨⟨⟨b1, b2⟩, b3⟩, b4⟩, b5⟩ := hb
      have ec : (t.gaT K).cls cc = He.ga K z := by
        show (match t.cls.lookup cc with | some x => He.ga K x | none => 0) = _
        rw [ez]
      have ep : (t.ps.lookup g).getD [] = [y] := by rw [e2]; rfl
      refine ⟨?_, ?_, ?_, ?_⟩
      · show Cls K ((t.gaT K).cls cc)
        rw [ec]; exact He.cls_ok b1
      · show ∃ p, PropOf K ((t.gaT K).cls cc) x p ((t.gaT K).fn g)
        rw [ec]
        refine ⟨_, b2, b3, b4, ?_⟩
        split at b5
        · next g' r q => exact ⟨r, by rw [q, of_decide_eq_true b5]⟩
        · cases b5
      · intro s u
        show BindsTo s (fdAt K ((t.gaT K).fn g)) ⟨[u], []⟩ (((t.ps.lookup g).getD []).zip [u])
        obtain ⟨d2, ps2, is, k1, k2, k3, k4, k5⟩ := k
        have F := c.fun_ k1
        obtain ⟨oc, od, dV, kV, doc, pm, an, cdv, ct, osl, e4, lk, _, hd, _⟩ := F.ex
        have hdv : dV = .none := by
          have : d2.dvs K = [] := by
            show d2.dfl.map _ = []
            rw [k3]; rfl
          rcases hd with ⟨_, z⟩ | ⟨z, _⟩
          · exact z
          · exact absurd this z
        subst hdv
        rw [e4, ep]
        rw [e2] at k2
        cases k2
        have hi : is = [0] := by
          cases is with
          | nil => cases k4
          | cons i r =>
            cases r with
            | nil =>
              simp at k4
              rw [← k4]
            | cons => simp at k4
        subst hi
        exact BindsTo.of_eq (k5.2.2 _ _ _ _ _ _ _ _ _ _ [u] [] rfl rfl)
      · show ((t.ps.lookup g).getD []).length = 1
        rw [ep]; rfl
    · cases hb
  · have hm : (cc, x) ∈ t.atts := by simpa [Tab.txt, Tab.ge] using e
    have hb := p4 _ hm
    unfold attB at hb
    simp only at hb
    split at hb
    · next z ez =>
      rw [Bool.and_eq_true] at hb
      have ec : (t.gaT K).cls cc = He.ga K z := by
        show (match t.cls.lookup cc with | some x => He.ga K x | none => 0) = _
        rw [ez]
      refine ⟨?_, ?_⟩
      · show Cls K ((t.gaT K).cls cc)
        rw [ec]; exact He.cls_ok hb.1
      · show NoAttr K ((t.gaT K).cls cc) x
        rw [ec]; exact He.noat_ok hb.2
    · cases hb
  · have gc : ∀ d, (t.cls.lookup d).isSome = true → ∃ x, (d, x) ∈ t.cls ∧ (t.gaT K).cls d = He.ga K x := fun d hd => by
      obtain ⟨x, ex⟩ := Option.isSome_iff_exists.mp hd
      refine ⟨x, mem_lookup ex, ?_⟩
      show (match t.cls.lookup d with | some x => He.ga K x | none => 0) = _
      rw [ex]
    have pc : ∀ (d : Nat) (x : Str), (d, x) ∈ t.cls → _ := fun d x hx => by
      have h := p7 (d, x) hx
      unfold clsB at h
      simp only [Bool.and_eq_true, decide_eq_true_eq, List.all_eq_true] at h
      exact h
    have lt : ∀ d c b, t.ge.sub d c = some b → (t.cls.lookup d).isSome = true := fun d c b e => by
      have h := p8 _ (mem_lookup (show t.subs.lookup (d, c) = some b from e))
      unfold subB at h
      rw [Bool.and_eq_true, decide_eq_true_eq] at h
      exact h.1
    refine ⟨fun d c b e => ?_, fun n c hn e => ?_, fun d n hn e => ?_, fun d e => ?_⟩
    · have h := p8 _ (mem_lookup (show t.subs.lookup (d, c) = some b from e))
      unfold subB at h
      rw [Bool.and_eq_true, decide_eq_true_eq] at h
      exact h.2
    · obtain ⟨x, hx, ex⟩ := gc c e
      show PySem.W.kitOne K (.type n) (.ref ((t.gaT K).cls c)) = some false
      rw [ex]
      exact (pc _ x hx).1.2 n hn
    · obtain ⟨x, hx, ex⟩ := gc d e
      show PySem.W.kitOne K (.ref ((t.gaT K).cls d)) (.type n) = some false
      rw [ex]
      exact (pc _ x hx).2 n (plainTy_mem hn)
    · have hd : (t.cls.lookup d).isSome = true := by
        rcases e with ⟨n, e⟩ | ⟨c, e⟩
        · exact e
        · obtain ⟨b, eb⟩ := Option.isSome_iff_exists.mp e
          exact lt d c b eb
      obtain ⟨x, hx, ex⟩ := gc d hd
      have h := pc _ x hx
      show Cls K ((t.gaT K).cls d) ∧ _
      refine ⟨by rw [ex]; exact He.cls_ok h.1.1.1.1.1.1, ?_, h.1.1.1.1.2, h.1.1.1.2, ?_⟩
      · show PySem.W.findIn K (.ref ((t.gaT K).cls d)) "__class__" = _
        rw [ex]; exact h.1.1.1.1.1.2
      · show PySem.W.mroIn K ((t.gaT K).cls d) (.type "object") = _
        rw [ex]; exact h.1.1.2
  · have hm := mem_lookup (show t.meths.lookup (cc, ("__eq__" : Str)) = some f from ef)
    have hb := p2 _ hm
    have he := p9 _ hm
    have k := (o.eqs.mem hm).1 rfl
    unfold methB at hb
    unfold eqB at he
    simp only [if_true] at hb he
    split at hb
    · next x ex =>
      rw [ex] at he
      simp only [Bool.and_eq_true, decide_eq_true_eq, List.all_eq_true] at hb he
      have ec : (t.gaT K).cls cc = He.ga K x := by
        show (match t.cls.lookup cc with | some x => He.ga K x | none => 0) = _
        rw [ex]
      have M := He.meth_ok hb.1.2
      have hx := p7 (cc, x) (mem_lookup ex)
      unfold clsB at hx
      simp only [Bool.and_eq_true, decide_eq_true_eq, List.all_eq_true] at hx
      show PySem.W.findIn K (.ref ((t.gaT K).cls cc)) "__eq__" = some (some (.ref ((t.gaT K).fn f))) ∧ PySem.W.isFn K (.ref ((t.gaT K).fn f)) = true ∧ PySem.W.findIn K (.ref ((t.gaT K).cls cc)) "__ne__" = some (some (.builtin "object.__ne__")) ∧ PySem.W.mroIn K ((t.gaT K).cls cc) (.type "object") = some true ∧ (∀ n ∈ _, PySem.W.notFirst K ((t.gaT K).cls cc) (.type n) = true) ∧ _
      rw [ec, ← hb.2]
      refine ⟨eqO_1 M, eqO_2 M, he.1.1, hx.1.1.2, he.1.2, fun d hd => ?_, ?_⟩
      · obtain ⟨y, ey⟩ := Option.isSome_iff_exists.mp hd
        have ed : (t.gaT K).cls d = He.ga K y := by
          show (match t.cls.lookup d with | some x => He.ga K x | none => 0) = _
          rw [ey]
        show PySem.W.notFirst K ((t.gaT K).cls cc) (.ref ((t.gaT K).cls d)) = true
        rw [ec, ed]
        exact he.2 _ (mem_lookup ey)
      · exact (c.kb k).2
    · cases hb
  · have hm := mem_lookup (show t.meths.lookup (cc, ("__str__" : Str)) = some f from ef)
    have hb := p2 _ hm
    have k := (o.eqs.mem hm).2 rfl
    unfold methB at hb
    simp only at hb
    split at hb
    · next x ex =>
      simp only [Bool.and_eq_true, decide_eq_true_eq] at hb
      have ec : (t.gaT K).cls cc = He.ga K x := by
        show (match t.cls.lookup cc with | some x => He.ga K x | none => 0) = _
        rw [ex]
      have M := He.meth_ok hb.1.2
      show PySem.W.findIn K (.ref ((t.gaT K).cls cc)) "__str__" = some (some (.ref ((t.gaT K).fn f))) ∧ PySem.W.isFn K (.ref ((t.gaT K).fn f)) = true ∧ _
      rw [ec, ← hb.2]
      exact ⟨eqO_1 M, eqO_2 M, (c.kb k).2⟩
    · cases hb
  · have hm : (f, n) ∈ t.T.vok := by have e : t.T.vok.contains (f, n) = true := e; simpa using e
    exact c.kb (o.vok.mem hm)
  · have hm := mem_lookup (show t.T.ssig.lookup (x, m, n, ks) = some (f, sh) from e)
    have hb := p10 _ hm
    have k := o.ssig.mem hm
    unfold statB at hb
    simp only [Bool.and_eq_true, decide_eq_true_eq] at hb
    obtain ⟨⟨⟨⟨b1, b2⟩, b3⟩, b4⟩, b5⟩ := hb
    obtain ⟨w1, w2⟩ := He5.wrapB_ok b4
    rw [b5] at w2
    exact ⟨_, _, He.glo_ok X G b1, b2, b3, w1, w2, (c.kb k).1, (c.kb k).2⟩
end

/-! ### the hook -/
def noL (p : Addr × Obj) : Bool := match p.2.cls with
  | .type n => n != "list"
  | _ => true
/-- a part of the heap, no list in it -/
def frL (g : Addr → Option Obj) (as : List Addr) : PySem.W.Frag := (He.frG g as).filter noL
theorem frL_at {g : Addr → Option Obj} {as : List Addr} {a : Addr} {o : Obj} (e : (frL g as).lookup a = some o) : g a = some o ∧ noL (a, o) = true := by
  have m := List.mem_filter.mp (mem_lookup e)
  refine ⟨?_, m.2⟩
  obtain ⟨b, _, eb⟩ := List.mem_filterMap.mp m.1
  obtain ⟨o', e1, e2⟩ := Option.map_eq_some_iff.mp eb
  cases e2
  exact e1
abbrev AlM : Type := He.AlD × Bool
def obsM (n : Nat) (t : Tab) (g : Addr → Option Obj) : AlM := (He5.obsA [] (t.fns.map Prod.snd) (frL g (He5.asA g n)), t.exB (frL g (He5.asA g n)))
def hookM (n : Nat) (t : Tab) : PySem.W.Hook where
  α := AlM
  obs := fun s => obsM n t s.heap.get?
  val := fun _ => (He5.valA (t.fns.map Prod.snd), true)
  says := fun _ h => ∃ K : PySem.W.Frag, K.In h ∧ (∀ a o, K.lookup a = some o → noL (a, o) = true) ∧ t.Says K
  of := fun _ s e => ⟨frL s.heap.get? (He5.asA s.heap.get? n), fun a o q => (frL_at q).1, fun a o q => (frL_at q).2, ⟨congrArg (fun z : AlM => z.1) e, congrArg (fun z : AlM => z.2) e⟩⟩
  keeps := fun _ _ _ ⟨K, hK, hn, c⟩ k => ⟨K, PySem.W.Frag.In.keeps hK k, hn, c⟩
def obM (n : Nat) (t : Tab) (s : PySem.W.SharedT) : AlM := obsM n t (HandSHeadRun.getT s)
theorem obM_eq (n : Nat) (t : Tab) (s : PySem.W.SharedT) : obM n t s = (hookM n t).obs s.abs := by
  have e : HandSHeadRun.getT s = s.abs.heap.get? := funext (HandSHeadRun.getT_eq s)
  unfold obM
  rw [e]
  rfl
/-- the goal behind the head, from the evaluator's answer -/
theorem walkM {l : PySem.W.OpenLaw} {n m j f : Nat} {q : Program} {loose : List Str} {XP : (Str → Option Value) → Heap → Prop} {d : DefRec} {x : Str} {t : Tab} (o : t.Ok)
    (hn : l.most = some n) (hn2 : n ≤ sizeLine) (hdf : d.params.defaults = []) (hr : Room (2 * j) callerA) (hd : (d.name, D.fn f) ∈ t.T.gd) (kb : t.kb f 1 [] [.inl 0]) (hx : t.ps.lookup f = some [x])
    (main : ∀ ns : List Int, ns.length ≤ n → (∀ k ∈ ns, Builtin.Int.intBits k ≤ 1048576) → ∃ h', callF t.ge (fun f => t.fcs.lookup f) j f [.ref 0] [.frz (ns.map D.int)] = .ok (.bl true) h') :
    PySem.W.WalkO q loose XP (hookM m t).says l.row.toRowW d [] (fun f vs => PySem.call f vs) := by
  refine Att.attach_callB hn hdf fun w s₀ s₁ mg mb fa ob pm cd doc a vs ns G Y ho hd' hcd hmg hobj hints hlen hbits hg => ?_
  obtain ⟨K, KX, noLs, c⟩ := Y
  have off : K.lookup a = none := by
    cases e : K.lookup a with
    | none => rfl
    | some o =>
      have e1 := KX a o e
      rw [hobj] at e1
      cases e1
      exact absurd (noLs a _ e) (by simp [noL])
  have hfa : fa = (t.gaT K).fn f := by
    have hb := c.parts.1 _ hd
    have hb : ((He.Fa.glo d.name).ok K && decide (He.ga K d.name = (t.gaT K).fn f)) = true := hb
    rw [Bool.and_eq_true, decide_eq_true_eq] at hb
    have h1 := He.glo_ok KX G.T.g hb.1
    rw [hmg, hb.2] at h1
    exact Value.ref.inj (Option.some.inj h1)
  subst hfa
  obtain ⟨kp, kbb⟩ := c.kb kb
  have eps : (t.ps.lookup f).getD [] = [x] := by rw [hx]; rfl
  refine law_end (k := 2 * j) (x := x) (fd := fdAt K ((t.gaT K).fn f)) (sp := spO (t.gaT K) 1 (callF t.ge (fun f => t.fcs.lookup f) j f)) KX G.T.g G.T.b G.T.builtins G.T.nolimit hg hobj hints (Nat.le_trans hlen hn2) hr (fun base Kb Gb => ?_) (fun s u => ?_) off ?_
  · have := all_ok (Tab.txtOk (P := l.prog) (w := w) (base := base) o c Kb Gb) j f
    have e1 : ((t.txt l.prog w K mg base).ps f) = [x] := eps
    rw [e1] at this
    exact this
  · obtain ⟨d2, ps2, is, k1, k2, k3, k4, k5⟩ := kb
    have F := c.fun_ k1
    obtain ⟨oc, od, dV, kV, doc, pm, an, cdv, ct, osl, e4, lk, _, hdd, _⟩ := F.ex
    have hdv : dV = .none := by
      have : d2.dvs K = [] := by
        show d2.dfl.map _ = []
        rw [k3]; rfl
      rcases hdd with ⟨_, z⟩ | ⟨z, _⟩
      · exact z
      · exact absurd this z
    subst hdv
    show BindsTo s (fdAt K ((t.gaT K).fn f)) _ _
    rw [e4]
    rw [hx] at k2
    cases k2
    have hi : is = [0] := by
      cases is with
      | nil => cases k4
      | cons i r =>
        cases r with
        | nil =>
          simp at k4
          rw [← k4]
        | cons => simp at k4
    subst hi
    exact BindsTo.of_eq (k5.2.2 _ _ _ _ _ _ _ _ _ _ [u] [] rfl rfl)
  · obtain ⟨h', ev⟩ := main ns hlen hbits
    have Ha : scrH a vs ns a = some (.frz { cls := .type "list", data := .seq vs.toArray } (.lst (ns.map V.int))) := if_pos rfl
    have rp : ∀ (l : List Int), Reps (t.gaT K) [a] (scrH a vs ns) (l.map D.int) (l.map V.int) := fun l => by
      induction l with
      | nil => rfl
      | cons i l ih => exact ⟨.int i, _, rfl, rfl, ih⟩
    refine ⟨[a], [.frz (ns.map D.int)], [.ref 0], ⟨rfl, by simp, fun n' o' b e1 e2 => ?_⟩, ⟨.ref a, [], rfl, ⟨a, rfl, rfl⟩, rfl⟩, rfl, ?_⟩
    · have hn' : n' = 0 := by
        have := (List.getElem?_eq_some_iff.mp e1).1
        simp at this
        exact this
      subst hn'
      simp at e1 e2
      subst e1 e2
      exact ⟨_, _, Ha, rp ns⟩
    · rw [ev]
      exact fun v H' m X R r => r
end Mi
end

section
set_option Elab.async false
set_option linter.all false
set_option maxRecDepth 100000
set_option maxHeartbeats 0
namespace Mi.k02
open PySem PySem.Spec PyProof.Rows L2
abbrev prg : Program := PySem.Challenge.pw_lookcosts_k02_whole_offers_and_their_tex
def top (i : Nat) : Stmt := prg.main.body.getD i (.Pass ⟨0, 0, 0, 0⟩)
def mth (i j : Nat) : Stmt := match top i with
  | .ClassDef _ _ _ b _ _ _ _ _ _ _ => b.getD j (.Pass ⟨0, 0, 0, 0⟩)
  | _ => .Pass ⟨0, 0, 0, 0⟩
def prA (c m : Str) (K : PySem.W.Frag) : Addr := match PySem.W.recIn K (He.ma K (He.ga K c) m) "property" with
  | some (.ref g :: _) => g
  | _ => 0
def dA (at_ : PySem.W.Frag → Addr) (nm ql : Str) (st : Stmt) : He5.DefA := ⟨at_, nm, ql, defArgs st, defBody st, defScope st, [], []⟩
def fns : List (Nat × He5.DefA) := [
  (1, dA (fun K => He.ga K "is_between") "is_between" "is_between" (top 7)),
  (2, dA (fun K => He.ga K "is_end") "is_end" "is_end" (top 15)),
  (3, dA (fun K => He.ga K "is_cost") "is_cost" "is_cost" (top 16)),
  (4, dA (fun K => He.ga K "is_pair") "is_pair" "is_pair" (top 17)),
  (5, dA (fun K => He.ga K "are_branches") "are_branches" "are_branches" (top 18)),
  (6, dA (fun K => He.ga K "is_node") "is_node" "is_node" (top 19)),
  (7, dA (fun K => He.ga K "is_tree") "is_tree" "is_tree" (top 20)),
  (8, dA (fun K => He.ga K "nodes_of") "nodes_of" "nodes_of" (top 21)),
  (9, dA (fun K => He.ga K "steps_in") "steps_in" "steps_in" (top 22)),
  (10, dA (fun K => He.ga K "node_at") "node_at" "node_at" (top 23)),
  (11, dA (fun K => He.ga K "is_path") "is_path" "is_path" (top 24)),
  (12, dA (fun K => He.ga K "text_of") "text_of" "text_of" (top 25)),
  (13, dA (fun K => He.ma K (He.ga K "Reader") "__init__") "__init__" "Reader.__init__" (mth 26 0)),
  (14, dA (fun K => He.ma K (He.ga K "Reader") "sign") "sign" "Reader.sign" (mth 26 1)),
  (15, dA (fun K => He.ma K (He.ga K "Reader") "number") "number" "Reader.number" (mth 26 2)),
  (16, dA (fun K => He.ma K (He.ga K "Reader") "went") "went" "Reader.went" (mth 26 3)),
  (17, dA (fun K => He.ma K (He.ga K "Reader") "branch") "branch" "Reader.branch" (mth 26 4)),
  (18, dA (fun K => He.ma K (He.ga K "Reader") "node") "node" "Reader.node" (mth 26 5)),
  (19, dA (fun K => He.ga K "tree_in") "tree_in" "tree_in" (top 27)),
  (20, dA (fun K => He.ma K (He.ga K "Offer") "__init__") "__init__" "Offer.__init__" (mth 29 0)),
  (21, dA (fun K => He5.wf K (He.ga K "Offer") "staticmethod" "read") "read" "Offer.read" (mth 29 1)),
  (22, dA (prA "Offer" "tree") "tree" "Offer.tree" (mth 29 2)),
  (23, dA (prA "Offer" "text") "text" "Offer.text" (mth 29 3)),
  (24, dA (prA "Offer" "paths") "paths" "Offer.paths" (mth 29 4)),
  (25, dA (prA "Offer" "steps") "steps" "Offer.steps" (mth 29 5)),
  (26, dA (fun K => He.ma K (He.ga K "Offer") "check_path") "check_path" "Offer.check_path" (mth 29 6)),
  (27, dA (fun K => He.ma K (He.ga K "Offer") "at") "at" "Offer.at" (mth 29 7)),
  (28, dA (fun K => He.ma K (He.ga K "Offer") "with_cost") "with_cost" "Offer.with_cost" (mth 29 8)),
  (29, dA (fun K => He.ma K (He.ga K "Offer") "with_node") "with_node" "Offer.with_node" (mth 29 9)),
  (30, dA (fun K => He.ma K (He.ga K "Offer") "__eq__") "__eq__" "Offer.__eq__" (mth 29 10)),
  (31, dA (fun K => He.ma K (He.ga K "Offer") "__str__") "__str__" "Offer.__str__" (mth 29 11)),
  (1000, dA (fun K => He.ga K "_law_cup") "_law_cup" "_law_cup" (top 31)),
  (1001, dA (fun K => He.ga K "_law_sip") "_law_sip" "_law_sip" (top 32)),
  (1002, dA (fun K => He.ga K "_law_pick") "_law_pick" "_law_pick" (top 33)),
  (1003, dA (fun K => He.ga K "_law_flat") "_law_flat" "_law_flat" (top 34)),
  (1004, dA (fun K => He.ga K "_law_nest") "_law_nest" "_law_nest" (top 35)),
  (1005, dA (fun K => He.ga K "_law_ways") "_law_ways" "_law_ways" (top 36)),
  (1006, dA (fun K => He.ga K "_law_text") "_law_text" "_law_text" (top 37)),
  (1007, dA (fun K => He.ga K "_law_right") "_law_right" "_law_right" (top 38)),
  (1008, dA (fun K => He.ga K "law") "law" "law" (top 39))]
def T : Tx where
  gd := [(("is_between" : Str), .fn 1), (("MOST_COST" : Str), .int (1000000)), (("MOST_WEIGHT" : Str), .int (1000)), (("MOST_BRANCHES" : Str), .int (5)), (("is_pair" : Str), .fn 4), (("are_branches" : Str), .fn 5), (("MOST_WORTH" : Str), .int (1000000)), (("MOST_NODES" : Str), .int (15)), (("is_end" : Str), .fn 2), (("is_node" : Str), .fn 6), (("nodes_of" : Str), .fn 8), (("text_of" : Str), .fn 12), (("DIGITS" : Str), .str ("0123456789" : Str)), (("Reader" : Str), .cls 0), (("is_tree" : Str), .fn 7), (("is_cost" : Str), .fn 3), (("steps_in" : Str), .fn 9), (("tree_in" : Str), .fn 19), (("Offer" : Str), .cls 1), (("is_path" : Str), .fn 11), (("node_at" : Str), .fn 10), (("_law_sip" : Str), .fn 1001), (("_law_pick" : Str), .fn 1002), (("_law_flat" : Str), .fn 1003), (("_law_ways" : Str), .fn 1005), (("_law_text" : Str), .fn 1006), (("_law_nest" : Str), .fn 1004), (("_law_right" : Str), .fn 1007), (("_law_cup" : Str), .fn 1000), (("law" : Str), .fn 1008)]
  no := [("isinstance" : Str), ("bool" : Str), ("int" : Str), ("tuple" : Str), ("len" : Str), ("all" : Str), ("str" : Str), ("range" : Str), ("staticmethod" : Str), ("property" : Str), ("abs" : Str), ("divmod" : Str), ("list" : Str), ("sorted" : Str), ("repr" : Str), ("max" : Str), ("min" : Str)]
  sig := [((1, 3, []), [.inl 0, .inl 1, .inl 2]), ((4, 1, []), [.inl 0]), ((5, 1, []), [.inl 0]), ((2, 1, []), [.inl 0]), ((6, 2, []), [.inl 0, .inl 1]), ((8, 1, []), [.inl 0]), ((12, 1, []), [.inl 0]), ((7, 2, []), [.inl 0, .inl 1]), ((9, 1, []), [.inl 0]), ((19, 1, []), [.inl 0]), ((11, 2, []), [.inl 0, .inl 1]), ((10, 2, []), [.inl 0, .inl 1]), ((1001, 2, []), [.inl 0, .inl 1]), ((1002, 2, []), [.inl 0, .inl 1]), ((1003, 2, []), [.inl 0, .inl 1]), ((1005, 1, []), [.inl 0]), ((1006, 1, []), [.inl 0]), ((1004, 1, []), [.inl 0]), ((1007, 1, []), [.inl 0]), ((1000, 2, []), [.inl 0, .inl 1]), ((1008, 1, []), [.inl 0])]
  csig := [((0, 1, []), [.inl 0, .inl 1]), ((1, 1, []), [.inl 0, .inl 1]), ((1, 0, [("tree" : Str)]), [.inl 0, .inl 1])]
  msig := [((("sign" : Str), 0, []), [.inl 0]), ((("number" : Str), 0, []), [.inl 0]), ((("node" : Str), 0, []), [.inl 0]), ((("went" : Str), 1, []), [.inl 0, .inl 1]), ((("branch" : Str), 0, []), [.inl 0]), ((("check_path" : Str), 1, []), [.inl 0, .inl 1]), ((("at" : Str), 1, []), [.inl 0, .inl 1]), ((("at" : Str), 0, [("path" : Str)]), [.inl 0, .inl 1])]
  ssig := [((("Offer" : Str), ("read" : Str), 1, []), (21, [.inl 0])), ((("Offer" : Str), ("read" : Str), 0, [("text" : Str)]), (21, [.inl 0]))]
  flds := [("all_paths" : Str), ("depth" : Str), ("paths" : Str), ("root" : Str), ("signs" : Str), ("spot" : Str), ("step_paths" : Str), ("steps" : Str), ("text" : Str), ("tree" : Str), ("words" : Str)]
  vok := [(3, 1)]
def N1 : List Str := [("value" : Str), ("least" : Str), ("most" : Str)]
def N2 : List Str := [("tree" : Str)]
def N3 : List Str := [("value" : Str)]
def N4 : List Str := [("value" : Str)]
def N5 : List Str := [("value" : Str), ("pair" : Str)]
def N6 : List Str := [("value" : Str), ("is_right_cost" : Str)]
def N7 : List Str := [("value" : Str), ("is_right_cost" : Str), ("line" : Str), ("place" : Str), ("weight" : Str), ("tree" : Str)]
def N8 : List Str := [("tree" : Str), ("found" : Str), ("line" : Str), ("path" : Str), ("node" : Str), ("many" : Str), ("place" : Str)]
def N9 : List Str := [("tree" : Str), ("path" : Str), ("node" : Str)]
def N10 : List Str := [("tree" : Str), ("path" : Str), ("place" : Str)]
def N11 : List Str := [("value" : Str), ("tree" : Str), ("place" : Str)]
def N12 : List Str := [("tree" : Str), ("weight" : Str), ("branch" : Str)]
def N13 : List Str := [("self" : Str), ("signs" : Str)]
def N14 : List Str := [("self" : Str)]
def N15 : List Str := [("self" : Str), ("begin" : Str), ("word" : Str)]
def N16 : List Str := [("self" : Str), ("sign" : Str)]
def N17 : List Str := [("self" : Str), ("weight" : Str), ("found" : Str)]
def N18 : List Str := [("self" : Str), ("number" : Str), ("branches" : Str), ("branch" : Str)]
def N19 : List Str := [("text" : Str), ("reader" : Str), ("found" : Str)]
def N20 : List Str := [("self" : Str), ("tree" : Str), ("path" : Str), ("node" : Str)]
def N21 : List Str := [("text" : Str), ("tree" : Str)]
def N22 : List Str := [("self" : Str)]
def N23 : List Str := [("self" : Str)]
def N24 : List Str := [("self" : Str)]
def N25 : List Str := [("self" : Str)]
def N26 : List Str := [("self" : Str), ("path" : Str)]
def N27 : List Str := [("self" : Str), ("path" : Str)]
def N28 : List Str := [("self" : Str), ("path" : Str), ("cost" : Str)]
def N29 : List Str := [("self" : Str), ("path" : Str), ("other" : Str)]
def N30 : List Str := [("self" : Str), ("other" : Str)]
def N31 : List Str := [("self" : Str)]
def N1000 : List Str := [("_law_script" : Str), ("_law_spot" : Str), ("_law_cell" : Str), ("_law_one" : Str)]
def N1001 : List Str := [("_law_cup_here" : Str), ("_law_top" : Str), ("_law_part" : Str)]
def N1002 : List Str := [("_law_cup_here" : Str), ("_law_things" : Str)]
def N1003 : List Str := [("_law_cup_here" : Str), ("_law_most" : Str), ("_law_rows" : Str), ("_law_spot" : Str), ("_law_many" : Str), ("_law_more" : Str), ("_law_worth_here" : Str)]
def N1004 : List Str := [("_law_rows" : Str), ("_law_made" : Str), ("_law_row" : Str), ("_law_spot" : Str), ("_law_number" : Str), ("_law_weight" : Str), ("_law_branches" : Str), ("_law_k" : Str)]
def N1005 : List Str := [("_law_rows" : Str), ("_law_found" : Str), ("_law_spot" : Str), ("_law_path" : Str), ("_law_at" : Str), ("_law_k" : Str)]
def N1006 : List Str := [("_law_rows" : Str), ("_law_made" : Str), ("_law_row" : Str), ("_law_spot" : Str), ("_law_number" : Str), ("_law_weight" : Str), ("_law_branches" : Str), ("_law_k" : Str)]
def N1007 : List Str := [("_law_cup_here" : Str), ("_law_turn" : Str), ("_law_rows" : Str), ("_law_others" : Str), ("_law_offer" : Str), ("_law_ways_here" : Str), ("_law_path" : Str), ("_law_spot" : Str), ("_law_mate" : Str), ("_law_made" : Str), ("_law_way" : Str)]
def N1008 : List Str := [("_law_script" : Str), ("_law_deep" : Str), ("_law_spot" : Str)]
def cs (i : Nat) (N : List Str) : List CS := match fns.lookup i with
  | some d => cSs T 40 20 ⟨N, d.scope, fun _ => true⟩ d.body
  | none => []
def F1 : FC := ⟨3, 3, cs 1 N1⟩
def F2 : FC := ⟨1, 1, cs 2 N2⟩
def F3 : FC := ⟨1, 1, cs 3 N3⟩
def F4 : FC := ⟨1, 1, cs 4 N4⟩
def F5 : FC := ⟨2, 1, cs 5 N5⟩
def F6 : FC := ⟨2, 2, cs 6 N6⟩
def F7 : FC := ⟨6, 2, cs 7 N7⟩
def F8 : FC := ⟨7, 1, cs 8 N8⟩
def F9 : FC := ⟨3, 1, cs 9 N9⟩
def F10 : FC := ⟨3, 2, cs 10 N10⟩
def F11 : FC := ⟨3, 2, cs 11 N11⟩
def F12 : FC := ⟨3, 1, cs 12 N12⟩
def F13 : FC := ⟨2, 2, cs 13 N13⟩
def F14 : FC := ⟨1, 1, cs 14 N14⟩
def F15 : FC := ⟨3, 1, cs 15 N15⟩
def F16 : FC := ⟨2, 2, cs 16 N16⟩
def F17 : FC := ⟨3, 1, cs 17 N17⟩
def F18 : FC := ⟨4, 1, cs 18 N18⟩
def F19 : FC := ⟨3, 1, cs 19 N19⟩
def F20 : FC := ⟨4, 2, cs 20 N20⟩
def F21 : FC := ⟨2, 1, cs 21 N21⟩
def F22 : FC := ⟨1, 1, cs 22 N22⟩
def F23 : FC := ⟨1, 1, cs 23 N23⟩
def F24 : FC := ⟨1, 1, cs 24 N24⟩
def F25 : FC := ⟨1, 1, cs 25 N25⟩
def F26 : FC := ⟨2, 2, cs 26 N26⟩
def F27 : FC := ⟨2, 2, cs 27 N27⟩
def F28 : FC := ⟨3, 3, cs 28 N28⟩
def F29 : FC := ⟨3, 3, cs 29 N29⟩
def F30 : FC := ⟨2, 2, cs 30 N30⟩
def F31 : FC := ⟨1, 1, cs 31 N31⟩
def F1000 : FC := ⟨4, 2, cs 1000 N1000⟩
def F1001 : FC := ⟨3, 2, cs 1001 N1001⟩
def F1002 : FC := ⟨2, 2, cs 1002 N1002⟩
def F1003 : FC := ⟨7, 2, cs 1003 N1003⟩
def F1004 : FC := ⟨8, 1, cs 1004 N1004⟩
def F1005 : FC := ⟨6, 1, cs 1005 N1005⟩
def F1006 : FC := ⟨8, 1, cs 1006 N1006⟩
def F1007 : FC := ⟨11, 1, cs 1007 N1007⟩
def F1008 : FC := ⟨3, 1, cs 1008 N1008⟩
def t : Tab where
  fns := fns
  cls := [(0, ("Reader" : Str)), (1, ("Offer" : Str))]
  meths := [((0, ("__init__" : Str)), 13), ((0, ("sign" : Str)), 14), ((0, ("number" : Str)), 15), ((0, ("went" : Str)), 16), ((0, ("branch" : Str)), 17), ((0, ("node" : Str)), 18), ((1, ("__init__" : Str)), 20), ((1, ("check_path" : Str)), 26), ((1, ("at" : Str)), 27), ((1, ("with_cost" : Str)), 28), ((1, ("with_node" : Str)), 29), ((1, ("__eq__" : Str)), 30), ((1, ("__str__" : Str)), 31)]
  props := [((1, ("tree" : Str)), 22), ((1, ("text" : Str)), 23), ((1, ("paths" : Str)), 24), ((1, ("steps" : Str)), 25)]
  atts := [(0, ("signs" : Str)), (0, ("spot" : Str)), (0, ("depth" : Str)), (1, ("root" : Str)), (1, ("words" : Str)), (1, ("all_paths" : Str)), (1, ("step_paths" : Str))]
  inits := [(0, 13), (1, 20)]
  subs := [((0, 0), true), ((0, 1), false), ((1, 0), false), ((1, 1), true)]
  T := T
  ps := [(1, [("value" : Str), ("least" : Str), ("most" : Str)]), (2, [("tree" : Str)]), (3, [("value" : Str)]), (4, [("value" : Str)]), (5, [("value" : Str)]), (6, [("value" : Str), ("is_right_cost" : Str)]), (7, [("value" : Str), ("is_right_cost" : Str)]), (8, [("tree" : Str)]), (9, [("tree" : Str)]), (10, [("tree" : Str), ("path" : Str)]), (11, [("value" : Str), ("tree" : Str)]), (12, [("tree" : Str)]), (13, [("self" : Str), ("signs" : Str)]), (14, [("self" : Str)]), (15, [("self" : Str)]), (16, [("self" : Str), ("sign" : Str)]), (17, [("self" : Str)]), (18, [("self" : Str)]), (19, [("text" : Str)]), (20, [("self" : Str), ("tree" : Str)]), (21, [("text" : Str)]), (22, [("self" : Str)]), (23, [("self" : Str)]), (24, [("self" : Str)]), (25, [("self" : Str)]), (26, [("self" : Str), ("path" : Str)]), (27, [("self" : Str), ("path" : Str)]), (28, [("self" : Str), ("path" : Str), ("cost" : Str)]), (29, [("self" : Str), ("path" : Str), ("other" : Str)]), (30, [("self" : Str), ("other" : Str)]), (31, [("self" : Str)]), (1000, [("_law_script" : Str), ("_law_spot" : Str)]), (1001, [("_law_cup_here" : Str), ("_law_top" : Str)]), (1002, [("_law_cup_here" : Str), ("_law_things" : Str)]), (1003, [("_law_cup_here" : Str), ("_law_most" : Str)]), (1004, [("_law_rows" : Str)]), (1005, [("_law_rows" : Str)]), (1006, [("_law_rows" : Str)]), (1007, [("_law_cup_here" : Str)]), (1008, [("_law_script" : Str)])]
  fcs := [(1, F1), (2, F2), (3, F3), (4, F4), (5, F5), (6, F6), (7, F7), (8, F8), (9, F9), (10, F10), (11, F11), (12, F12), (13, F13), (14, F14), (15, F15), (16, F16), (17, F17), (18, F18), (19, F19), (20, F20), (21, F21), (22, F22), (23, F23), (24, F24), (25, F25), (26, F26), (27, F27), (28, F28), (29, F29), (30, F30), (31, F31), (1000, F1000), (1001, F1001), (1002, F1002), (1003, F1003), (1004, F1004), (1005, F1005), (1006, F1006), (1007, F1007), (1008, F1008)]
theorem kf0 : t.kb 1 3 [] [.inl 0, .inl 1, .inl 2] := ⟨_, _, [0, 1, 2], rfl, rfl, rfl, rfl, rfl, by decide, fun _ _ _ _ _ _ _ _ _ _ us ws h1 h2 => match us, ws, h1, h2 with | [u0, u1, u2], [], _, _ => rfl⟩
theorem kf1 : t.kb 4 1 [] [.inl 0] := ⟨_, _, [0], rfl, rfl, rfl, rfl, rfl, by decide, fun _ _ _ _ _ _ _ _ _ _ us ws h1 h2 => match us, ws, h1, h2 with | [u0], [], _, _ => rfl⟩
theorem kf2 : t.kb 5 1 [] [.inl 0] := ⟨_, _, [0], rfl, rfl, rfl, rfl, rfl, by decide, fun _ _ _ _ _ _ _ _ _ _ us ws h1 h2 => match us, ws, h1, h2 with | [u0], [], _, _ => rfl⟩
theorem kf3 : t.kb 2 1 [] [.inl 0] := ⟨_, _, [0], rfl, rfl, rfl, rfl, rfl, by decide, fun _ _ _ _ _ _ _ _ _ _ us ws h1 h2 => match us, ws, h1, h2 with | [u0], [], _, _ => rfl⟩
theorem kf4 : t.kb 6 2 [] [.inl 0, .inl 1] := ⟨_, _, [0, 1], rfl, rfl, rfl, rfl, rfl, by decide, fun _ _ _ _ _ _ _ _ _ _ us ws h1 h2 => match us, ws, h1, h2 with | [u0, u1], [], _, _ => rfl⟩
theorem kf5 : t.kb 8 1 [] [.inl 0] := ⟨_, _, [0], rfl, rfl, rfl, rfl, rfl, by decide, fun _ _ _ _ _ _ _ _ _ _ us ws h1 h2 => match us, ws, h1, h2 with | [u0], [], _, _ => rfl⟩
theorem kf6 : t.kb 12 1 [] [.inl 0] := ⟨_, _, [0], rfl, rfl, rfl, rfl, rfl, by decide, fun _ _ _ _ _ _ _ _ _ _ us ws h1 h2 => match us, ws, h1, h2 with | [u0], [], _, _ => rfl⟩
theorem kf7 : t.kb 7 2 [] [.inl 0, .inl 1] := ⟨_, _, [0, 1], rfl, rfl, rfl, rfl, rfl, by decide, fun _ _ _ _ _ _ _ _ _ _ us ws h1 h2 => match us, ws, h1, h2 with | [u0, u1], [], _, _ => rfl⟩
theorem kf8 : t.kb 9 1 [] [.inl 0] := ⟨_, _, [0], rfl, rfl, rfl, rfl, rfl, by decide, fun _ _ _ _ _ _ _ _ _ _ us ws h1 h2 => match us, ws, h1, h2 with | [u0], [], _, _ => rfl⟩
theorem kf9 : t.kb 19 1 [] [.inl 0] := ⟨_, _, [0], rfl, rfl, rfl, rfl, rfl, by decide, fun _ _ _ _ _ _ _ _ _ _ us ws h1 h2 => match us, ws, h1, h2 with | [u0], [], _, _ => rfl⟩
theorem kf10 : t.kb 11 2 [] [.inl 0, .inl 1] := ⟨_, _, [0, 1], rfl, rfl, rfl, rfl, rfl, by decide, fun _ _ _ _ _ _ _ _ _ _ us ws h1 h2 => match us, ws, h1, h2 with | [u0, u1], [], _, _ => rfl⟩
theorem kf11 : t.kb 10 2 [] [.inl 0, .inl 1] := ⟨_, _, [0, 1], rfl, rfl, rfl, rfl, rfl, by decide, fun _ _ _ _ _ _ _ _ _ _ us ws h1 h2 => match us, ws, h1, h2 with | [u0, u1], [], _, _ => rfl⟩
theorem kf12 : t.kb 1001 2 [] [.inl 0, .inl 1] := ⟨_, _, [0, 1], rfl, rfl, rfl, rfl, rfl, by decide, fun _ _ _ _ _ _ _ _ _ _ us ws h1 h2 => match us, ws, h1, h2 with | [u0, u1], [], _, _ => rfl⟩
theorem kf13 : t.kb 1002 2 [] [.inl 0, .inl 1] := ⟨_, _, [0, 1], rfl, rfl, rfl, rfl, rfl, by decide, fun _ _ _ _ _ _ _ _ _ _ us ws h1 h2 => match us, ws, h1, h2 with | [u0, u1], [], _, _ => rfl⟩
theorem kf14 : t.kb 1003 2 [] [.inl 0, .inl 1] := ⟨_, _, [0, 1], rfl, rfl, rfl, rfl, rfl, by decide, fun _ _ _ _ _ _ _ _ _ _ us ws h1 h2 => match us, ws, h1, h2 with | [u0, u1], [], _, _ => rfl⟩
theorem kf15 : t.kb 1005 1 [] [.inl 0] := ⟨_, _, [0], rfl, rfl, rfl, rfl, rfl, by decide, fun _ _ _ _ _ _ _ _ _ _ us ws h1 h2 => match us, ws, h1, h2 with | [u0], [], _, _ => rfl⟩
theorem kf16 : t.kb 1006 1 [] [.inl 0] := ⟨_, _, [0], rfl, rfl, rfl, rfl, rfl, by decide, fun _ _ _ _ _ _ _ _ _ _ us ws h1 h2 => match us, ws, h1, h2 with | [u0], [], _, _ => rfl⟩
theorem kf17 : t.kb 1004 1 [] [.inl 0] := ⟨_, _, [0], rfl, rfl, rfl, rfl, rfl, by decide, fun _ _ _ _ _ _ _ _ _ _ us ws h1 h2 => match us, ws, h1, h2 with | [u0], [], _, _ => rfl⟩
theorem kf18 : t.kb 1007 1 [] [.inl 0] := ⟨_, _, [0], rfl, rfl, rfl, rfl, rfl, by decide, fun _ _ _ _ _ _ _ _ _ _ us ws h1 h2 => match us, ws, h1, h2 with | [u0], [], _, _ => rfl⟩
theorem kf19 : t.kb 1000 2 [] [.inl 0, .inl 1] := ⟨_, _, [0, 1], rfl, rfl, rfl, rfl, rfl, by decide, fun _ _ _ _ _ _ _ _ _ _ us ws h1 h2 => match us, ws, h1, h2 with | [u0, u1], [], _, _ => rfl⟩
theorem kf20 : t.kb 1008 1 [] [.inl 0] := ⟨_, _, [0], rfl, rfl, rfl, rfl, rfl, by decide, fun _ _ _ _ _ _ _ _ _ _ us ws h1 h2 => match us, ws, h1, h2 with | [u0], [], _, _ => rfl⟩
theorem kc0 : t.kb 13 2 [] [.inl 0, .inl 1] := ⟨_, _, [0, 1], rfl, rfl, rfl, rfl, rfl, by decide, fun _ _ _ _ _ _ _ _ _ _ us ws h1 h2 => match us, ws, h1, h2 with | [u0, u1], [], _, _ => rfl⟩
theorem kc1 : t.kb 20 2 [] [.inl 0, .inl 1] := ⟨_, _, [0, 1], rfl, rfl, rfl, rfl, rfl, by decide, fun _ _ _ _ _ _ _ _ _ _ us ws h1 h2 => match us, ws, h1, h2 with | [u0, u1], [], _, _ => rfl⟩
theorem kc2 : t.kb 20 1 [("tree" : Str)] [.inl 0, .inl 1] := ⟨_, _, [0, 1], rfl, rfl, rfl, rfl, rfl, by decide, fun _ _ _ _ _ _ _ _ _ _ us ws h1 h2 => match us, ws, h1, h2 with | [u0], [v0], _, _ => rfl⟩
theorem km0_0 : t.kb 14 1 [] [.inl 0] := ⟨_, _, [0], rfl, rfl, rfl, rfl, rfl, by decide, fun _ _ _ _ _ _ _ _ _ _ us ws h1 h2 => match us, ws, h1, h2 with | [u0], [], _, _ => rfl⟩
theorem km1_0 : t.kb 15 1 [] [.inl 0] := ⟨_, _, [0], rfl, rfl, rfl, rfl, rfl, by decide, fun _ _ _ _ _ _ _ _ _ _ us ws h1 h2 => match us, ws, h1, h2 with | [u0], [], _, _ => rfl⟩
theorem km2_0 : t.kb 18 1 [] [.inl 0] := ⟨_, _, [0], rfl, rfl, rfl, rfl, rfl, by decide, fun _ _ _ _ _ _ _ _ _ _ us ws h1 h2 => match us, ws, h1, h2 with | [u0], [], _, _ => rfl⟩
theorem km3_0 : t.kb 16 2 [] [.inl 0, .inl 1] := ⟨_, _, [0, 1], rfl, rfl, rfl, rfl, rfl, by decide, fun _ _ _ _ _ _ _ _ _ _ us ws h1 h2 => match us, ws, h1, h2 with | [u0, u1], [], _, _ => rfl⟩
theorem km4_0 : t.kb 17 1 [] [.inl 0] := ⟨_, _, [0], rfl, rfl, rfl, rfl, rfl, by decide, fun _ _ _ _ _ _ _ _ _ _ us ws h1 h2 => match us, ws, h1, h2 with | [u0], [], _, _ => rfl⟩
theorem km5_1 : t.kb 26 2 [] [.inl 0, .inl 1] := ⟨_, _, [0, 1], rfl, rfl, rfl, rfl, rfl, by decide, fun _ _ _ _ _ _ _ _ _ _ us ws h1 h2 => match us, ws, h1, h2 with | [u0, u1], [], _, _ => rfl⟩
theorem km6_1 : t.kb 27 2 [] [.inl 0, .inl 1] := ⟨_, _, [0, 1], rfl, rfl, rfl, rfl, rfl, by decide, fun _ _ _ _ _ _ _ _ _ _ us ws h1 h2 => match us, ws, h1, h2 with | [u0, u1], [], _, _ => rfl⟩
theorem km7_1 : t.kb 27 1 [("path" : Str)] [.inl 0, .inl 1] := ⟨_, _, [0, 1], rfl, rfl, rfl, rfl, rfl, by decide, fun _ _ _ _ _ _ _ _ _ _ us ws h1 h2 => match us, ws, h1, h2 with | [u0], [v0], _, _ => rfl⟩
theorem kp22 : t.kb 22 1 [] [.inl 0] := ⟨_, _, [0], rfl, rfl, rfl, rfl, rfl, by decide, fun _ _ _ _ _ _ _ _ _ _ us ws h1 h2 => match us, ws, h1, h2 with | [u0], [], _, _ => rfl⟩
theorem kp23 : t.kb 23 1 [] [.inl 0] := ⟨_, _, [0], rfl, rfl, rfl, rfl, rfl, by decide, fun _ _ _ _ _ _ _ _ _ _ us ws h1 h2 => match us, ws, h1, h2 with | [u0], [], _, _ => rfl⟩
theorem kp24 : t.kb 24 1 [] [.inl 0] := ⟨_, _, [0], rfl, rfl, rfl, rfl, rfl, by decide, fun _ _ _ _ _ _ _ _ _ _ us ws h1 h2 => match us, ws, h1, h2 with | [u0], [], _, _ => rfl⟩
theorem kp25 : t.kb 25 1 [] [.inl 0] := ⟨_, _, [0], rfl, rfl, rfl, rfl, rfl, by decide, fun _ _ _ _ _ _ _ _ _ _ us ws h1 h2 => match us, ws, h1, h2 with | [u0], [], _, _ => rfl⟩
theorem kv0 : t.kb 3 1 [] [.inl 0] := ⟨_, _, [0], rfl, rfl, rfl, rfl, rfl, by decide, fun _ _ _ _ _ _ _ _ _ _ us ws h1 h2 => match us, ws, h1, h2 with | [u0], [], _, _ => rfl⟩
theorem ks0 : t.kb 21 1 [] [.inl 0] := ⟨_, _, [0], rfl, rfl, rfl, rfl, rfl, by decide, fun _ _ _ _ _ _ _ _ _ _ us ws h1 h2 => match us, ws, h1, h2 with | [u0], [], _, _ => rfl⟩
theorem ks1 : t.kb 21 0 [("text" : Str)] [.inl 0] := ⟨_, _, [0], rfl, rfl, rfl, rfl, rfl, by decide, fun _ _ _ _ _ _ _ _ _ _ us ws h1 h2 => match us, ws, h1, h2 with | [], [v0], _, _ => rfl⟩
theorem ke30 : t.kb 30 2 [] [.inl 0, .inl 1] := ⟨_, _, [0, 1], rfl, rfl, rfl, rfl, rfl, by decide, fun _ _ _ _ _ _ _ _ _ _ us ws h1 h2 => match us, ws, h1, h2 with | [u0, u1], [], _, _ => rfl⟩
theorem ke31 : t.kb 31 1 [] [.inl 0] := ⟨_, _, [0], rfl, rfl, rfl, rfl, rfl, by decide, fun _ _ _ _ _ _ _ _ _ _ us ws h1 h2 => match us, ws, h1, h2 with | [u0], [], _, _ => rfl⟩
theorem ok : t.Ok where
  fc := ⟨⟨_, _, N1, 40, 20, rfl, rfl, ⟨rfl, rfl, rfl, by decide +kernel, rfl, by decide +kernel, by decide +kernel⟩, rfl, rfl, rfl⟩, ⟨_, _, N2, 40, 20, rfl, rfl, ⟨rfl, rfl, rfl, by decide +kernel, rfl, by decide +kernel, by decide +kernel⟩, rfl, rfl, rfl⟩, ⟨_, _, N3, 40, 20, rfl, rfl, ⟨rfl, rfl, rfl, by decide +kernel, rfl, by decide +kernel, by decide +kernel⟩, rfl, rfl, rfl⟩, ⟨_, _, N4, 40, 20, rfl, rfl, ⟨rfl, rfl, rfl, by decide +kernel, rfl, by decide +kernel, by decide +kernel⟩, rfl, rfl, rfl⟩, ⟨_, _, N5, 40, 20, rfl, rfl, ⟨rfl, rfl, rfl, by decide +kernel, rfl, by decide +kernel, by decide +kernel⟩, rfl, rfl, rfl⟩, ⟨_, _, N6, 40, 20, rfl, rfl, ⟨rfl, rfl, rfl, by decide +kernel, rfl, by decide +kernel, by decide +kernel⟩, rfl, rfl, rfl⟩, ⟨_, _, N7, 40, 20, rfl, rfl, ⟨rfl, rfl, rfl, by decide +kernel, rfl, by decide +kernel, by decide +kernel⟩, rfl, rfl, rfl⟩, ⟨_, _, N8, 40, 20, rfl, rfl, ⟨rfl, rfl, rfl, by decide +kernel, rfl, by decide +kernel, by decide +kernel⟩, rfl, rfl, rfl⟩, ⟨_, _, N9, 40, 20, rfl, rfl, ⟨rfl, rfl, rfl, by decide +kernel, rfl, by decide +kernel, by decide +kernel⟩, rfl, rfl, rfl⟩, ⟨_, _, N10, 40, 20, rfl, rfl, ⟨rfl, rfl, rfl, by decide +kernel, rfl, by decide +kernel, by decide +kernel⟩, rfl, rfl, rfl⟩, ⟨_, _, N11, 40, 20, rfl, rfl, ⟨rfl, rfl, rfl, by decide +kernel, rfl, by decide +kernel, by decide +kernel⟩, rfl, rfl, rfl⟩, ⟨_, _, N12, 40, 20, rfl, rfl, ⟨rfl, rfl, rfl, by decide +kernel, rfl, by decide +kernel, by decide +kernel⟩, rfl, rfl, rfl⟩, ⟨_, _, N13, 40, 20, rfl, rfl, ⟨rfl, rfl, rfl, by decide +kernel, rfl, by decide +kernel, by decide +kernel⟩, rfl, rfl, rfl⟩, ⟨_, _, N14, 40, 20, rfl, rfl, ⟨rfl, rfl, rfl, by decide +kernel, rfl, by decide +kernel, by decide +kernel⟩, rfl, rfl, rfl⟩, ⟨_, _, N15, 40, 20, rfl, rfl, ⟨rfl, rfl, rfl, by decide +kernel, rfl, by decide +kernel, by decide +kernel⟩, rfl, rfl, rfl⟩, ⟨_, _, N16, 40, 20, rfl, rfl, ⟨rfl, rfl, rfl, by decide +kernel, rfl, by decide +kernel, by decide +kernel⟩, rfl, rfl, rfl⟩, ⟨_, _, N17, 40, 20, rfl, rfl, ⟨rfl, rfl, rfl, by decide +kernel, rfl, by decide +kernel, by decide +kernel⟩, rfl, rfl, rfl⟩, ⟨_, _, N18, 40, 20, rfl, rfl, ⟨rfl, rfl, rfl, by decide +kernel, rfl, by decide +kernel, by decide +kernel⟩, rfl, rfl, rfl⟩, ⟨_, _, N19, 40, 20, rfl, rfl, ⟨rfl, rfl, rfl, by decide +kernel, rfl, by decide +kernel, by decide +kernel⟩, rfl, rfl, rfl⟩, ⟨_, _, N20, 40, 20, rfl, rfl, ⟨rfl, rfl, rfl, by decide +kernel, rfl, by decide +kernel, by decide +kernel⟩, rfl, rfl, rfl⟩, ⟨_, _, N21, 40, 20, rfl, rfl, ⟨rfl, rfl, rfl, by decide +kernel, rfl, by decide +kernel, by decide +kernel⟩, rfl, rfl, rfl⟩, ⟨_, _, N22, 40, 20, rfl, rfl, ⟨rfl, rfl, rfl, by decide +kernel, rfl, by decide +kernel, by decide +kernel⟩, rfl, rfl, rfl⟩, ⟨_, _, N23, 40, 20, rfl, rfl, ⟨rfl, rfl, rfl, by decide +kernel, rfl, by decide +kernel, by decide +kernel⟩, rfl, rfl, rfl⟩, ⟨_, _, N24, 40, 20, rfl, rfl, ⟨rfl, rfl, rfl, by decide +kernel, rfl, by decide +kernel, by decide +kernel⟩, rfl, rfl, rfl⟩, ⟨_, _, N25, 40, 20, rfl, rfl, ⟨rfl, rfl, rfl, by decide +kernel, rfl, by decide +kernel, by decide +kernel⟩, rfl, rfl, rfl⟩, ⟨_, _, N26, 40, 20, rfl, rfl, ⟨rfl, rfl, rfl, by decide +kernel, rfl, by decide +kernel, by decide +kernel⟩, rfl, rfl, rfl⟩, ⟨_, _, N27, 40, 20, rfl, rfl, ⟨rfl, rfl, rfl, by decide +kernel, rfl, by decide +kernel, by decide +kernel⟩, rfl, rfl, rfl⟩, ⟨_, _, N28, 40, 20, rfl, rfl, ⟨rfl, rfl, rfl, by decide +kernel, rfl, by decide +kernel, by decide +kernel⟩, rfl, rfl, rfl⟩, ⟨_, _, N29, 40, 20, rfl, rfl, ⟨rfl, rfl, rfl, by decide +kernel, rfl, by decide +kernel, by decide +kernel⟩, rfl, rfl, rfl⟩, ⟨_, _, N30, 40, 20, rfl, rfl, ⟨rfl, rfl, rfl, by decide +kernel, rfl, by decide +kernel, by decide +kernel⟩, rfl, rfl, rfl⟩, ⟨_, _, N31, 40, 20, rfl, rfl, ⟨rfl, rfl, rfl, by decide +kernel, rfl, by decide +kernel, by decide +kernel⟩, rfl, rfl, rfl⟩, ⟨_, _, N1000, 40, 20, rfl, rfl, ⟨rfl, rfl, rfl, by decide +kernel, rfl, by decide +kernel, by decide +kernel⟩, rfl, rfl, rfl⟩, ⟨_, _, N1001, 40, 20, rfl, rfl, ⟨rfl, rfl, rfl, by decide +kernel, rfl, by decide +kernel, by decide +kernel⟩, rfl, rfl, rfl⟩, ⟨_, _, N1002, 40, 20, rfl, rfl, ⟨rfl, rfl, rfl, by decide +kernel, rfl, by decide +kernel, by decide +kernel⟩, rfl, rfl, rfl⟩, ⟨_, _, N1003, 40, 20, rfl, rfl, ⟨rfl, rfl, rfl, by decide +kernel, rfl, by decide +kernel, by decide +kernel⟩, rfl, rfl, rfl⟩, ⟨_, _, N1004, 40, 20, rfl, rfl, ⟨rfl, rfl, rfl, by decide +kernel, rfl, by decide +kernel, by decide +kernel⟩, rfl, rfl, rfl⟩, ⟨_, _, N1005, 40, 20, rfl, rfl, ⟨rfl, rfl, rfl, by decide +kernel, rfl, by decide +kernel, by decide +kernel⟩, rfl, rfl, rfl⟩, ⟨_, _, N1006, 40, 20, rfl, rfl, ⟨rfl, rfl, rfl, by decide +kernel, rfl, by decide +kernel, by decide +kernel⟩, rfl, rfl, rfl⟩, ⟨_, _, N1007, 40, 20, rfl, rfl, ⟨rfl, rfl, rfl, by decide +kernel, rfl, by decide +kernel, by decide +kernel⟩, rfl, rfl, rfl⟩, ⟨_, _, N1008, 40, 20, rfl, rfl, ⟨rfl, rfl, rfl, by decide +kernel, rfl, by decide +kernel, by decide +kernel⟩, rfl, rfl, rfl⟩, trivial⟩
  sig := ⟨kf0, kf1, kf2, kf3, kf4, kf5, kf6, kf7, kf8, kf9, kf10, kf11, kf12, kf13, kf14, kf15, kf16, kf17, kf18, kf19, kf20, trivial⟩
  csig := ⟨⟨_, rfl, kc0⟩, ⟨_, rfl, kc1⟩, ⟨_, rfl, kc2⟩, trivial⟩
  msig := ⟨⟨fun h => absurd h (by decide), fun _ => km0_0, fun h => absurd h (by decide), fun h => absurd h (by decide), fun h => absurd h (by decide), fun h => absurd h (by decide), fun h => absurd h (by decide), fun h => absurd h (by decide), fun h => absurd h (by decide), fun h => absurd h (by decide), fun h => absurd h (by decide), fun h => absurd h (by decide), fun h => absurd h (by decide), trivial⟩, ⟨fun h => absurd h (by decide), fun h => absurd h (by decide), fun _ => km1_0, fun h => absurd h (by decide), fun h => absurd h (by decide), fun h => absurd h (by decide), fun h => absurd h (by decide), fun h => absurd h (by decide), fun h => absurd h (by decide), fun h => absurd h (by decide), fun h => absurd h (by decide), fun h => absurd h (by decide), fun h => absurd h (by decide), trivial⟩, ⟨fun h => absurd h (by decide), fun h => absurd h (by decide), fun h => absurd h (by decide), fun h => absurd h (by decide), fun h => absurd h (by decide), fun _ => km2_0, fun h => absurd h (by decide), fun h => absurd h (by decide), fun h => absurd h (by decide), fun h => absurd h (by decide), fun h => absurd h (by decide), fun h => absurd h (by decide), fun h => absurd h (by decide), trivial⟩, ⟨fun h => absurd h (by decide), fun h => absurd h (by decide), fun h => absurd h (by decide), fun _ => km3_0, fun h => absurd h (by decide), fun h => absurd h (by decide), fun h => absurd h (by decide), fun h => absurd h (by decide), fun h => absurd h (by decide), fun h => absurd h (by decide), fun h => absurd h (by decide), fun h => absurd h (by decide), fun h => absurd h (by decide), trivial⟩, ⟨fun h => absurd h (by decide), fun h => absurd h (by decide), fun h => absurd h (by decide), fun h => absurd h (by decide), fun _ => km4_0, fun h => absurd h (by decide), fun h => absurd h (by decide), fun h => absurd h (by decide), fun h => absurd h (by decide), fun h => absurd h (by decide), fun h => absurd h (by decide), fun h => absurd h (by decide), fun h => absurd h (by decide), trivial⟩, ⟨fun h => absurd h (by decide), fun h => absurd h (by decide), fun h => absurd h (by decide), fun h => absurd h (by decide), fun h => absurd h (by decide), fun h => absurd h (by decide), fun h => absurd h (by decide), fun _ => km5_1, fun h => absurd h (by decide), fun h => absurd h (by decide), fun h => absurd h (by decide), fun h => absurd h (by decide), fun h => absurd h (by decide), trivial⟩, ⟨fun h => absurd h (by decide), fun h => absurd h (by decide), fun h => absurd h (by decide), fun h => absurd h (by decide), fun h => absurd h (by decide), fun h => absurd h (by decide), fun h => absurd h (by decide), fun h => absurd h (by decide), fun _ => km6_1, fun h => absurd h (by decide), fun h => absurd h (by decide), fun h => absurd h (by decide), fun h => absurd h (by decide), trivial⟩, ⟨fun h => absurd h (by decide), fun h => absurd h (by decide), fun h => absurd h (by decide), fun h => absurd h (by decide), fun h => absurd h (by decide), fun h => absurd h (by decide), fun h => absurd h (by decide), fun h => absurd h (by decide), fun _ => km7_1, fun h => absurd h (by decide), fun h => absurd h (by decide), fun h => absurd h (by decide), fun h => absurd h (by decide), trivial⟩, trivial⟩
  eqs := ⟨⟨fun h => absurd h (by decide), fun h => absurd h (by decide)⟩, ⟨fun h => absurd h (by decide), fun h => absurd h (by decide)⟩, ⟨fun h => absurd h (by decide), fun h => absurd h (by decide)⟩, ⟨fun h => absurd h (by decide), fun h => absurd h (by decide)⟩, ⟨fun h => absurd h (by decide), fun h => absurd h (by decide)⟩, ⟨fun h => absurd h (by decide), fun h => absurd h (by decide)⟩, ⟨fun h => absurd h (by decide), fun h => absurd h (by decide)⟩, ⟨fun h => absurd h (by decide), fun h => absurd h (by decide)⟩, ⟨fun h => absurd h (by decide), fun h => absurd h (by decide)⟩, ⟨fun h => absurd h (by decide), fun h => absurd h (by decide)⟩, ⟨fun h => absurd h (by decide), fun h => absurd h (by decide)⟩, ⟨fun _ => ke30, fun h => absurd h (by decide)⟩, ⟨fun h => absurd h (by decide), fun _ => ke31⟩, trivial⟩
  vok := ⟨kv0, trivial⟩
  ssig := ⟨ks0, ks1, trivial⟩
  prop := ⟨⟨_, _, rfl, rfl, kp22⟩, ⟨_, _, rfl, rfl, kp23⟩, ⟨_, _, rfl, rfl, kp24⟩, ⟨_, _, rfl, rfl, kp25⟩, trivial⟩
def loose : List Str := [("_wall" : Str), ("__name__" : Str), ("WrongValue" : Str), ("InvalidTree" : Str), ("InvalidText" : Str), ("InvalidPath" : Str), ("is_between" : Str), ("MOST_NODES" : Str), ("MOST_BRANCHES" : Str), ("MOST_WORTH" : Str), ("MOST_COST" : Str), ("MOST_WEIGHT" : Str), ("DIGITS" : Str), ("is_end" : Str), ("is_cost" : Str), ("is_pair" : Str), ("are_branches" : Str), ("is_node" : Str), ("is_tree" : Str), ("nodes_of" : Str), ("steps_in" : Str), ("node_at" : Str), ("is_path" : Str), ("text_of" : Str), ("Reader" : Str), ("tree_in" : Str), ("Offer" : Str), ("_law_cup" : Str), ("_law_sip" : Str), ("_law_pick" : Str), ("_law_flat" : Str), ("_law_nest" : Str), ("_law_ways" : Str), ("_law_text" : Str), ("_law_right" : Str)]
abbrev R : PySem.W.OpenRow := PySem.W.OpenLaw.row PySem.Challenge.rw_lookcosts_k02_whole_offers_and_their_tex
theorem run (w : World) : HandSHeadRun.RunEq R (PySem.W.view R.prog [39]) (hookM 7 t) (obM 7 t) 6000 loose w := by
  intro os
  kernel_rfl
end Mi.k02
open PySem PySem.W PySem.Calls PyProof.Rows
theorem Mi.k02.holds (main : ∀ ns : List Int, ns.length ≤ 63 → (∀ k ∈ ns, Builtin.Int.intBits k ≤ 1048576) → ∃ h', Mi.callF Mi.k02.t.ge (fun f => Mi.k02.t.fcs.lookup f) 100 1008 [.ref 0] [.frz (ns.map Mi.D.int)] = .ok (.bl true) h') : PySem.Challenge.rw_lookcosts_k02_whole_offers_and_their_tex.Holds := by
  w_on; o_law
  refine HandSHeadRun.head_any (r := OpenLaw.row PySem.Challenge.rw_lookcosts_k02_whole_offers_and_their_tex) (q := view (OpenLaw.row PySem.Challenge.rw_lookcosts_k02_whole_offers_and_their_tex).prog [39]) (H := Mi.hookM 7 Mi.k02.t) (ob := Mi.obM 7 Mi.k02.t) (M := 6000) (loose := Mi.k02.loose) (d := HandSHeadRun.topDef (OpenLaw.row PySem.Challenge.rw_lookcosts_k02_whole_offers_and_their_tex).prog 39) (kwd := []) (Mi.obM_eq 7 Mi.k02.t)
    (by kernel_rfl) (fun s => by kernel_rfl) Mi.k02.run (by kernel_rfl) (by kernel_rfl) (by kernel_rfl) (by rfl) (by first | assumption | decide +kernel) (by decide +kernel) ⟨rfl, rfl, rfl, rfl, rfl, by decide +kernel⟩ ?hw ?hc
  case hw => w_witness2
  case hc => exact Mi.walkM (l := PySem.Challenge.rw_lookcosts_k02_whole_offers_and_their_tex) (n := 63) (j := 100) (f := 1008) (x := "_law_script") Mi.k02.ok rfl (by decide) (by kernel_rfl) ⟨rfl, by decide, by decide⟩ (List.mem_of_getElem? (i := 29) (by kernel_rfl)) Mi.k02.kf20 rfl main
end

section
set_option linter.all false
set_option maxRecDepth 100000
/-! Pc: the code of the program's defs, printed by Pl. -/
namespace Mi.P
open PySem
def c1 : List CS := [.iff (.or (.not (.bi .isinst [(.var 0), (.lit (.ty "int"))])) (.bi .isinst [(.var 0), (.lit (.ty "bool"))])) [.ret (.lit (.bl false))] [],
  .ret (.and (.or (.cmp .is (.var 1) (.lit .non)) (.cmp .ge (.var 0) (.var 1))) (.or (.cmp .is (.var 2) (.lit .non)) (.cmp .le (.var 0) (.var 2))))]
def c2 : List CS := [.ret (.cmp .eq (.idx (.var 0) (.lit (.int (0)))) (.lit (.str ("end" : Str))))]
def c3 : List CS := [.ret (.callk 1 [(.var 0), (.lit (.int (0))), (.lit (.int (1000000)))] [.inl 0, .inl 1, .inl 2])]
def c4 : List CS := [.ret (.and (.bi .isinst [(.var 0), (.lit (.ty "tuple"))]) (.and (.cmp .eq (.bi .len [(.var 0)]) (.lit (.int (2)))) (.callk 1 [(.idx (.var 0) (.lit (.int (0)))), (.lit (.int (1))), (.lit (.int (1000)))] [.inl 0, .inl 1, .inl 2])))]
def c5 : List CS := [.ret (.and (.bi .isinst [(.var 0), (.lit (.ty "tuple"))]) (.and (.cmp2 .le .le (.lit (.int (1))) (.bi .len [(.var 0)]) (.lit (.int (5)))) (.bi .all [(.lc [1] (.nm 1) (.seq (.var 0)) (.lit (.bl true)) (.callk 4 [(.var 1)] [.inl 0]))])))]
def c6 (ok : Nat → Nat → Bool) : List CS := [.iff (.or (.not (.bi .isinst [(.var 0), (.lit (.ty "tuple"))])) (.or (.cmp .lt (.bi .len [(.var 0)]) (.lit (.int (2)))) (.not (.bi .isinst [(.idx (.var 0) (.lit (.int (0)))), (.lit (.ty "str"))])))) [.ret (.lit (.bl false))] [],
  .iff (.cmp .eq (.idx (.var 0) (.lit (.int (0)))) (.lit (.str ("end" : Str)))) [.ret (.and (.cmp .eq (.bi .len [(.var 0)]) (.lit (.int (2)))) (.callk 1 [(.idx (.var 0) (.lit (.int (1)))), (.neg (.lit (.int (1000000)))), (.lit (.int (1000000)))] [.inl 0, .inl 1, .inl 2]))] [],
  .ret (.and (.cmp .eq (.idx (.var 0) (.lit (.int (0)))) (.lit (.str ("step" : Str)))) (.and (.cmp .eq (.bi .len [(.var 0)]) (.lit (.int (3)))) (.and (.callv 1 (ok 1) [(.idx (.var 0) (.lit (.int (1))))]) (.callk 5 [(.idx (.var 0) (.lit (.int (2))))] [.inl 0]))))]
def c7 : List CS := [.asg 2 (.lst [(.var 0)]),
  .asg 3 (.lit (.int (0))),
  .whl (.cmp .lt (.var 3) (.bi .len [(.var 2)])) [.iff (.or (.cmp .ge (.var 3) (.lit (.int (15)))) (.not (.callk 6 [(.idx (.var 2) (.var 3)), (.var 1)] [.inl 0, .inl 1]))) [.ret (.lit (.bl false))] [], .iff (.not (.callk 2 [(.idx (.var 2) (.var 3))] [.inl 0])) [.exp (.bm .extend (.var 2) [(.lc [4, 5] (.tp [4, 5]) (.seq (.idx (.idx (.var 2) (.var 3)) (.lit (.int (2))))) (.lit (.bl true)) (.var 5))])] [], .aug 3 .add (.lit (.int (1)))],
  .ret (.lit (.bl true))]
def c8 : List CS := [.asg 1 (.lst []),
  .asg 2 (.lst [(.tup [(.tup []), (.var 0)])]),
  .whl (.cmp .gt (.bi .len [(.var 2)]) (.lit (.int (0)))) [.asgT [3, 4] (.bm .pop (.var 2) []), .exp (.bm .append (.var 1) [(.tup [(.var 3), (.var 4)])]), .iff (.not (.callk 2 [(.var 4)] [.inl 0])) [.asg 5 (.bi .len [(.idx (.var 4) (.lit (.int (2))))]), .exp (.bm .extend (.var 2) [(.lc [6] (.nm 6) (.rng [(.var 5)]) (.lit (.bl true)) (.tup [(.bin .add (.var 3) (.tup [(.bin .sub (.bin .sub (.var 5) (.lit (.int (1)))) (.var 6))])), (.idx (.idx (.idx (.var 4) (.lit (.int (2)))) (.bin .sub (.bin .sub (.var 5) (.lit (.int (1)))) (.var 6))) (.lit (.int (1))))]))])] []],
  .ret (.var 1)]
def c9 : List CS := [.ret (.lc [1, 2] (.tp [1, 2]) (.seq (.callk 8 [(.var 0)] [.inl 0])) (.not (.callk 2 [(.var 2)] [.inl 0])) (.var 1))]
def c10 : List CS := [.fr (.nm 2) (.seq (.var 1)) [.asg 0 (.idx (.idx (.idx (.var 0) (.lit (.int (2)))) (.var 2)) (.lit (.int (1))))],
  .ret (.var 0)]
def c11 : List CS := [.iff (.not (.bi .isinst [(.var 0), (.lit (.ty "tuple"))])) [.ret (.lit (.bl false))] [],
  .fr (.nm 2) (.seq (.var 0)) [.iff (.or (.callk 2 [(.var 1)] [.inl 0]) (.not (.callk 1 [(.var 2), (.lit (.int (0))), (.bin .sub (.bi .len [(.idx (.var 1) (.lit (.int (2))))]) (.lit (.int (1))))] [.inl 0, .inl 1, .inl 2]))) [.ret (.lit (.bl false))] [], .asg 1 (.idx (.idx (.idx (.var 1) (.lit (.int (2)))) (.var 2)) (.lit (.int (1))))],
  .ret (.lit (.bl true))]
def c12 : List CS := [.iff (.callk 2 [(.var 0)] [.inl 0]) [.ret (.fmt (.idx (.var 0) (.lit (.int (1)))))] [],
  .ret (.bin .add (.bin .add (.fst [(.fmt (.idx (.var 0) (.lit (.int (1))))), (.lit (.str ("[" : Str)))]) (.bm .join (.lit (.str (" " : Str))) [(.lc [1, 2] (.tp [1, 2]) (.seq (.idx (.var 0) (.lit (.int (2))))) (.lit (.bl true)) (.fst [(.fmt (.var 1)), (.lit (.str (":" : Str))), (.fmt (.callk 12 [(.var 2)] [.inl 0]))]))])) (.lit (.str ("]" : Str))))]
def c13 : List CS := [.asgF (.var 0) ("signs" : Str) (.var 1),
  .asgF (.var 0) ("spot" : Str) (.lit (.int (0))),
  .asgF (.var 0) ("depth" : Str) (.lit (.int (0)))]
def c14 : List CS := [.ret (.sliB (.fld (.var 0) ("signs" : Str)) (.fld (.var 0) ("spot" : Str)) (.bin .add (.fld (.var 0) ("spot" : Str)) (.lit (.int (1)))))]
def c15 : List CS := [.asg 1 (.fld (.var 0) ("spot" : Str)),
  .iff (.cmp .eq (.meth (.var 0) ("sign" : Str) [] [.inl 0]) (.lit (.str ("-" : Str)))) [.augF (.var 0) ("spot" : Str) .add (.lit (.int (1)))] [],
  .whl (.and (.cmp .ne (.meth (.var 0) ("sign" : Str) [] [.inl 0]) (.lit (.str ("" : Str)))) (.cmp .in_ (.meth (.var 0) ("sign" : Str) [] [.inl 0]) (.lit (.str ("0123456789" : Str))))) [.augF (.var 0) ("spot" : Str) .add (.lit (.int (1)))],
  .asg 2 (.sliB (.fld (.var 0) ("signs" : Str)) (.var 1) (.fld (.var 0) ("spot" : Str))),
  .iff (.or (.cmp .in_ (.var 2) (.tup [(.lit (.str ("" : Str))), (.lit (.str ("-" : Str)))])) (.or (.cmp .gt (.bi .len [(.var 2)]) (.lit (.int (9)))) (.cmp .ne (.fmt (.bi .int [(.var 2)])) (.var 2)))) [.ret (.lit .non)] [],
  .ret (.bi .int [(.var 2)])]
def c16 : List CS := [.iff (.cmp .ne (.meth (.var 0) ("sign" : Str) [] [.inl 0]) (.var 1)) [.ret (.lit (.bl false))] [],
  .augF (.var 0) ("spot" : Str) .add (.lit (.int (1))),
  .ret (.lit (.bl true))]
def c17 : List CS := [.asg 1 (.meth (.var 0) ("number" : Str) [] [.inl 0]),
  .iff (.or (.cmp .is (.var 1) (.lit .non)) (.not (.meth (.var 0) ("went" : Str) [(.lit (.str (":" : Str)))] [.inl 0, .inl 1]))) [.ret (.lit .non)] [],
  .asg 2 (.meth (.var 0) ("node" : Str) [] [.inl 0]),
  .ret (.ite (.cmp .is (.var 2) (.lit .non)) (.lit .non) (.tup [(.var 1), (.var 2)]))]
def c18 : List CS := [.asg 1 (.meth (.var 0) ("number" : Str) [] [.inl 0]),
  .iff (.or (.cmp .is (.var 1) (.lit .non)) (.cmp .ne (.meth (.var 0) ("sign" : Str) [] [.inl 0]) (.lit (.str ("[" : Str))))) [.ret (.ite (.cmp .is (.var 1) (.lit .non)) (.lit .non) (.tup [(.lit (.str ("end" : Str))), (.var 1)]))] [],
  .asg 2 (.lst []),
  .augF (.var 0) ("depth" : Str) .add (.lit (.int (1))),
  .whl (.and (.cmp .le (.fld (.var 0) ("depth" : Str)) (.lit (.int (15)))) (.meth (.var 0) ("went" : Str) [(.ite (.cmp .eq (.bi .len [(.var 2)]) (.lit (.int (0)))) (.lit (.str ("[" : Str))) (.lit (.str (" " : Str))))] [.inl 0, .inl 1])) [.asg 3 (.meth (.var 0) ("branch" : Str) [] [.inl 0]), .iff (.cmp .is (.var 3) (.lit .non)) [.ret (.lit .non)] [], .exp (.bm .append (.var 2) [(.var 3)])],
  .augF (.var 0) ("depth" : Str) .sub (.lit (.int (1))),
  .ret (.ite (.meth (.var 0) ("went" : Str) [(.lit (.str ("]" : Str)))] [.inl 0, .inl 1]) (.tup [(.lit (.str ("step" : Str))), (.var 1), (.bi .tuple [(.var 2)])]) (.lit .non))]
def c19 : List CS := [.iff (.not (.bi .isinst [(.var 0), (.lit (.ty "str"))])) [.ret (.lit .non)] [],
  .asg 1 (.mk 0 [(.var 0)] [.inl 0, .inl 1]),
  .asg 2 (.meth (.var 1) ("node" : Str) [] [.inl 0]),
  .iff (.or (.cmp .is (.var 2) (.lit .non)) (.or (.cmp .ne (.meth (.var 1) ("sign" : Str) [] [.inl 0]) (.lit (.str ("" : Str)))) (.not (.callk 7 [(.var 2), (.lit (.fn 3))] [.inl 0, .inl 1])))) [.ret (.lit .non)] [],
  .ret (.var 2)]
def c20 : List CS := [.iff (.not (.callk 7 [(.var 1), (.lit (.fn 3))] [.inl 0, .inl 1])) [.bad] [],
  .asgF (.var 0) ("root" : Str) (.var 1),
  .asgF (.var 0) ("words" : Str) (.callk 12 [(.var 1)] [.inl 0]),
  .asgF (.var 0) ("all_paths" : Str) (.bi .tuple [(.lc [2, 3] (.tp [2, 3]) (.seq (.callk 8 [(.var 1)] [.inl 0])) (.lit (.bl true)) (.var 2))]),
  .asgF (.var 0) ("step_paths" : Str) (.bi .tuple [(.callk 9 [(.var 1)] [.inl 0])])]
def c21 : List CS := [.asg 1 (.callk 19 [(.var 0)] [.inl 0]),
  .iff (.cmp .is (.var 1) (.lit .non)) [.bad] [],
  .ret (.mk 1 [(.var 1)] [.inl 0, .inl 1])]
def c22 : List CS := [.ret (.fld (.var 0) ("root" : Str))]
def c23 : List CS := [.ret (.fld (.var 0) ("words" : Str))]
def c24 : List CS := [.ret (.fld (.var 0) ("all_paths" : Str))]
def c25 : List CS := [.ret (.fld (.var 0) ("step_paths" : Str))]
def c26 : List CS := [.iff (.not (.callk 11 [(.var 1), (.fld (.var 0) ("root" : Str))] [.inl 0, .inl 1])) [.bad] []]
def c27 : List CS := [.exp (.meth (.var 0) ("check_path" : Str) [(.var 1)] [.inl 0, .inl 1]),
  .ret (.mk 1 [(.callk 10 [(.fld (.var 0) ("root" : Str)), (.var 1)] [.inl 0, .inl 1])] [.inl 0, .inl 1])]
def c28 : List CS := [.exp .bad]
def c29 : List CS := [.exp .bad]
def c30 : List CS := [.ret (.and (.bi .isinst [(.var 1), (.lit (.cls 1))]) (.cmp .eq (.fld (.var 0) ("root" : Str)) (.fld (.var 1) ("root" : Str))))]
def c31 : List CS := [.ret (.fmt (.fld (.var 0) ("words" : Str)))]
end Mi.P
end

section
set_option linter.all false
set_option maxRecDepth 100000
/-! Cq02: the codes of the law, printed by Pl. -/
namespace Mi.k02
open PySem
def c1000 : List CS := [.asg 2 (.ite (.cmp .lt (.var 1) (.bi .len [(.var 0)])) (.idx (.var 0) (.var 1)) (.bin .add (.bin .mul (.lit (.int (5167))) (.var 1)) (.lit (.int (90173))))),
  .fr (.nm 3) (.seq (.ite (.cmp .ge (.var 1) (.bi .len [(.var 0)])) (.sliH (.var 0) (.lit (.int (2)))) (.lst []))) [.asg 2 (.bin .mod (.bi .int [(.bin .add (.bin .mul (.var 2) (.lit (.int (31)))) (.var 3))]) (.lit (.int (1000000007))))],
  .ret (.lst [(.bin .mod (.bi .int [(.bin .add (.bin .add (.bin .mul (.var 2) (.lit (.int (4093)))) (.bin .mul (.lit (.int (269))) (.var 1))) (.lit (.int (19))))]) (.lit (.int (2147483629)))), (.ite (.or (.cmp .lt (.var 2) (.lit (.int (0)))) (.cmp .ge (.var 2) (.bin .pow (.lit (.int (10))) (.lit (.int (18)))))) (.bi .abs [(.var 2)]) (.lit (.int (0))))])]
def c1001 : List CS := [.asgI (.var 0) (.lit (.int (0))) (.bin .mod (.bi .int [(.bin .add (.bin .mul (.idx (.var 0) (.lit (.int (0)))) (.lit (.int (48271)))) (.lit (.int (13))))]) (.lit (.int (2147483629)))),
  .iff (.cmp .gt (.idx (.var 0) (.lit (.int (1)))) (.lit (.int (0)))) [.asgM [(.ix (.var 0) (.lit (.int (1)))), (.nm 2)] (.bi .divmod [(.idx (.var 0) (.lit (.int (1)))), (.var 1)]), .ret (.var 2)] [],
  .ret (.bin .mod (.bi .int [(.bin .fdiv (.idx (.var 0) (.lit (.int (0)))) (.lit (.int (1019))))]) (.var 1))]
def c1002 : List CS := [.ret (.idx (.var 1) (.callk 1001 [(.var 0), (.bi .len [(.var 1)])] [.inl 0, .inl 1]))]
def c1003 : List CS := [.asg 2 (.lst [(.lst [(.lit (.int (0))), (.lit (.int (1))), (.lst [])])]),
  .fr (.nm 3) (.rng [(.var 1)]) [.iff (.cmp .lt (.var 3) (.bi .len [(.var 2)])) [.asg 4 (.ite (.and (.cmp .eq (.var 3) (.lit (.int (0)))) (.cmp .gt (.callk 1001 [(.var 0), (.lit (.int (9)))] [.inl 0, .inl 1]) (.lit (.int (0))))) (.callk 1002 [(.var 0), (.lst [(.lit (.int (2))), (.lit (.int (3))), (.lit (.int (2))), (.lit (.int (1)))])] [.inl 0, .inl 1]) (.callk 1002 [(.var 0), (.lst [(.lit (.int (0))), (.lit (.int (2))), (.lit (.int (0))), (.lit (.int (1))), (.lit (.int (0))), (.lit (.int (3)))])] [.inl 0, .inl 1])), .iff (.and (.cmp .gt (.var 4) (.lit (.int (0)))) (.cmp .le (.bin .add (.bi .len [(.var 2)]) (.var 4)) (.var 1))) [.asgI (.var 2) (.var 3) (.lst [(.callk 1002 [(.var 0), (.lst [(.lit (.int (0))), (.lit (.int (1))), (.bin .add (.lit (.int (1))) (.callk 1001 [(.var 0), (.lit (.int (4)))] [.inl 0, .inl 1])), (.callk 1001 [(.var 0), (.lit (.int (12)))] [.inl 0, .inl 1])])] [.inl 0, .inl 1]), (.idx (.idx (.var 2) (.var 3)) (.lit (.int (1)))), (.lrng [(.bi .len [(.var 2)]), (.bin .add (.bi .len [(.var 2)]) (.var 4))])]), .fr (.nm 5) (.rng [(.var 4)]) [.exp (.bm .append (.var 2) [(.lst [(.lit (.int (0))), (.callk 1002 [(.var 0), (.lst [(.lit (.int (1))), (.lit (.int (1))), (.lit (.int (2))), (.lit (.int (3))), (.bin .add (.lit (.int (1))) (.callk 1001 [(.var 0), (.lit (.int (9)))] [.inl 0, .inl 1]))])] [.inl 0, .inl 1]), (.lst [])])])]] [.asg 6 (.callk 1002 [(.var 0), (.lst [(.lit (.int (0))), (.callk 1001 [(.var 0), (.lit (.int (12)))] [.inl 0, .inl 1]), (.callk 1001 [(.var 0), (.lit (.int (40)))] [.inl 0, .inl 1]), (.bin .sub (.lit (.int (0))) (.callk 1001 [(.var 0), (.lit (.int (9)))] [.inl 0, .inl 1])), (.bin .add (.lit (.int (20))) (.callk 1001 [(.var 0), (.lit (.int (60)))] [.inl 0, .inl 1]))])] [.inl 0, .inl 1]), .asgI (.var 2) (.var 3) (.lst [(.var 6), (.idx (.idx (.var 2) (.var 3)) (.lit (.int (1)))), (.lst [])])]] []],
  .ret (.var 2)]
def c1004 : List CS := [.asg 1 (.lc [2] (.nm 2) (.seq (.var 0)) (.lit (.bl true)) (.lit .non)),
  .fr (.nm 3) (.rng [(.bin .sub (.bi .len [(.var 0)]) (.lit (.int (1)))), (.neg (.lit (.int (1)))), (.neg (.lit (.int (1))))]) [.asgT [4, 5, 6] (.idx (.var 0) (.var 3)), .iff (.cmp .eq (.var 6) (.lst [])) [.asgI (.var 1) (.var 3) (.tup [(.lit (.str ("end" : Str))), (.var 4)])] [.asgI (.var 1) (.var 3) (.tup [(.lit (.str ("step" : Str))), (.var 4), (.bi .tuple [(.lc [7] (.nm 7) (.seq (.var 6)) (.lit (.bl true)) (.tup [(.idx (.idx (.var 0) (.var 7)) (.lit (.int (1)))), (.idx (.var 1) (.var 7))]))])])]],
  .ret (.idx (.var 1) (.lit (.int (0))))]
def c1005 : List CS := [.asg 1 (.lst [(.tup [(.tup []), (.lit (.int (0)))])]),
  .fr (.nm 2) (.rng [(.bi .len [(.var 0)])]) [.fr (.tp [3, 4]) (.seq (.bi .list [(.var 1)])) [.iff (.cmp .eq (.var 4) (.var 2)) [.asg 1 (.bin .add (.var 1) (.lc [5] (.nm 5) (.rng [(.bi .len [(.idx (.idx (.var 0) (.var 2)) (.lit (.int (2))))])]) (.lit (.bl true)) (.tup [(.bin .add (.var 3) (.tup [(.var 5)])), (.idx (.idx (.idx (.var 0) (.var 2)) (.lit (.int (2)))) (.var 5))])))] []]],
  .ret (.bi .sorted [(.var 1)])]
def c1006 : List CS := [.asg 1 (.lc [2] (.nm 2) (.seq (.var 0)) (.lit (.bl true)) (.lit (.str ("" : Str)))),
  .fr (.nm 3) (.rng [(.bin .sub (.bi .len [(.var 0)]) (.lit (.int (1)))), (.neg (.lit (.int (1)))), (.neg (.lit (.int (1))))]) [.asgT [4, 5, 6] (.idx (.var 0) (.var 3)), .asgI (.var 1) (.var 3) (.bi .str [(.var 4)]), .iff (.cmp .ne (.var 6) (.lst [])) [.asgI (.var 1) (.var 3) (.bin .add (.bin .add (.bin .add (.bi .str [(.var 4)]) (.lit (.str ("[" : Str)))) (.bm .join (.lit (.str (" " : Str))) [(.lc [7] (.nm 7) (.seq (.var 6)) (.lit (.bl true)) (.bin .add (.bin .add (.bi .str [(.idx (.idx (.var 0) (.var 7)) (.lit (.int (1))))]) (.lit (.str (":" : Str)))) (.idx (.var 1) (.var 7))))])) (.lit (.str ("]" : Str))))] []],
  .ret (.idx (.var 1) (.lit (.int (0))))]
def c1007 : List CS := [.fr (.nm 1) (.rng [(.lit (.int (5)))]) [.asgT [2, 3] (.tup [(.callk 1003 [(.var 0), (.callk 1002 [(.var 0), (.lst [(.lit (.int (3))), (.lit (.int (7))), (.lit (.int (15)))])] [.inl 0, .inl 1])] [.inl 0, .inl 1]), (.callk 1003 [(.var 0), (.lit (.int (5)))] [.inl 0, .inl 1])]), .asgP [4, 5] [(.mk 1 [(.callk 1004 [(.var 2)] [.inl 0])] [.inl 0, .inl 1]), (.callk 1005 [(.var 2)] [.inl 0])], .iff (.cmp .ne (.bi .repr [(.lst [(.fld (.var 4) ("tree" : Str)), (.fld (.var 4) ("text" : Str)), (.bi .str [(.var 4)])])]) (.bi .repr [(.lst [(.callk 1004 [(.var 2)] [.inl 0]), (.callk 1006 [(.var 2)] [.inl 0]), (.callk 1006 [(.var 2)] [.inl 0])])])) [.ret (.lit (.bl false))] [], .iff (.cmp .ne (.fld (.var 4) ("paths" : Str)) (.bi .tuple [(.lc [6, 7] (.tp [6, 7]) (.seq (.var 5)) (.lit (.bl true)) (.var 6))])) [.ret (.lit (.bl false))] [], .iff (.cmp .ne (.fld (.var 4) ("steps" : Str)) (.bi .tuple [(.lc [6, 7] (.tp [6, 7]) (.seq (.var 5)) (.cmp .ne (.idx (.idx (.var 2) (.var 7)) (.lit (.int (2)))) (.lst [])) (.var 6))])) [.ret (.lit (.bl false))] [], .asg 8 (.callk 21 [(.callk 1006 [(.var 2)] [.inl 0])] [.inl 0]), .iff (.or (.cmp .ne (.var 8) (.var 4)) (.or (.not (.cmp .eq (.var 8) (.mk 1 [(.fld (.var 4) ("tree" : Str))] [.inl 0, .inl 1]))) (.cmp .ne (.fld (.callk 21 [(.fld (.var 4) ("text" : Str))] [.inl 0]) ("tree" : Str)) (.fld (.var 4) ("tree" : Str))))) [.ret (.lit (.bl false))] [], .iff (.or (.cmp .ne (.cmp .eq (.var 4) (.mk 1 [(.callk 1004 [(.var 3)] [.inl 0])] [.inl 0, .inl 1])) (.cmp .eq (.callk 1004 [(.var 2)] [.inl 0]) (.callk 1004 [(.var 3)] [.inl 0]))) (.or (.cmp .eq (.var 4) (.fld (.var 4) ("tree" : Str))) (.cmp .eq (.var 4) (.fld (.var 4) ("text" : Str))))) [.ret (.lit (.bl false))] [], .asgT [6, 7] (.idx (.var 5) (.callk 1001 [(.var 0), (.bi .len [(.var 5)])] [.inl 0, .inl 1])), .asg 9 (.meth (.var 4) ("at" : Str) [(.var 6)] [.inl 0, .inl 1]), .iff (.or (.cmp .ne (.meth (.var 4) ("at" : Str) [(.var 6)] [.inl 0, .inl 1]) (.var 9)) (.cmp .ne (.fld (.var 9) ("paths" : Str)) (.bi .tuple [(.lc [10] (.nm 10) (.seq (.fld (.var 4) ("paths" : Str))) (.cmp .eq (.sliH (.var 10) (.bi .len [(.var 6)])) (.var 6)) (.sliL (.var 10) (.bi .len [(.var 6)])))]))) [.ret (.lit (.bl false))] [], .iff (.or (.and (.cmp .eq (.idx (.idx (.var 2) (.var 7)) (.lit (.int (2)))) (.lst [])) (.cmp .ne (.fld (.var 9) ("tree" : Str)) (.tup [(.lit (.str ("end" : Str))), (.idx (.idx (.var 2) (.var 7)) (.lit (.int (0))))]))) (.and (.cmp .eq (.var 6) (.tup [])) (.cmp .ne (.var 9) (.var 4)))) [.ret (.lit (.bl false))] []],
  .ret (.lit (.bl true))]
def c1008 : List CS := [.asg 1 (.callk 21 [(.lit (.str ("1[1:-5 1:3[1:0 1:20]]" : Str)))] [.inl 0]),
  .iff (.cmp .ne (.fld (.var 1) ("tree" : Str)) (.tup [(.lit (.str ("step" : Str))), (.lit (.int (1))), (.tup [(.tup [(.lit (.int (1))), (.tup [(.lit (.str ("end" : Str))), (.neg (.lit (.int (5))))])]), (.tup [(.lit (.int (1))), (.tup [(.lit (.str ("step" : Str))), (.lit (.int (3))), (.tup [(.tup [(.lit (.int (1))), (.tup [(.lit (.str ("end" : Str))), (.lit (.int (0)))])]), (.tup [(.lit (.int (1))), (.tup [(.lit (.str ("end" : Str))), (.lit (.int (20)))])])])])])])])) [.ret (.lit (.bl false))] [],
  .iff (.or (.cmp .ne (.fld (.var 1) ("paths" : Str)) (.tup [(.tup []), (.tup [(.lit (.int (0)))]), (.tup [(.lit (.int (1)))]), (.tup [(.lit (.int (1))), (.lit (.int (0)))]), (.tup [(.lit (.int (1))), (.lit (.int (1)))])])) (.cmp .ne (.fld (.meth (.var 1) ("at" : Str) [(.tup [(.lit (.int (1)))])] [.inl 0, .inl 1]) ("text" : Str)) (.lit (.str ("3[1:0 1:20]" : Str))))) [.ret (.lit (.bl false))] [],
  .ret (.bi .all [(.lc [2] (.nm 2) (.rng [(.bi .max [(.lit (.int (2))), (.bi .min [(.bi .len [(.var 0)]), (.lit (.int (6)))])])]) (.lit (.bl true)) (.callk 1007 [(.callk 1000 [(.var 0), (.var 2)] [.inl 0, .inl 1])] [.inl 0]))])]
end Mi.k02
end

section
set_option linter.all false
set_option maxRecDepth 100000
/-! Ek02: the tables' codes are those. -/
namespace Mi.k02
open PySem Mi.P
theorem e1 : cs 1 N1 = c1 := by kernel_rfl
theorem e2 : cs 2 N2 = c2 := by kernel_rfl
theorem e3 : cs 3 N3 = c3 := by kernel_rfl
theorem e4 : cs 4 N4 = c4 := by kernel_rfl
theorem e5 : cs 5 N5 = c5 := by kernel_rfl
theorem e6 : cs 6 N6 = c6 fun n f => T.vok.contains (f, n) := by kernel_rfl
theorem e7 : cs 7 N7 = c7 := by kernel_rfl
theorem e8 : cs 8 N8 = c8 := by kernel_rfl
theorem e9 : cs 9 N9 = c9 := by kernel_rfl
theorem e10 : cs 10 N10 = c10 := by kernel_rfl
theorem e11 : cs 11 N11 = c11 := by kernel_rfl
theorem e12 : cs 12 N12 = c12 := by kernel_rfl
theorem e13 : cs 13 N13 = c13 := by kernel_rfl
theorem e14 : cs 14 N14 = c14 := by kernel_rfl
theorem e15 : cs 15 N15 = c15 := by kernel_rfl
theorem e16 : cs 16 N16 = c16 := by kernel_rfl
theorem e17 : cs 17 N17 = c17 := by kernel_rfl
theorem e18 : cs 18 N18 = c18 := by kernel_rfl
theorem e19 : cs 19 N19 = c19 := by kernel_rfl
theorem e20 : cs 20 N20 = c20 := by kernel_rfl
theorem e21 : cs 21 N21 = c21 := by kernel_rfl
theorem e22 : cs 22 N22 = c22 := by kernel_rfl
theorem e23 : cs 23 N23 = c23 := by kernel_rfl
theorem e24 : cs 24 N24 = c24 := by kernel_rfl
theorem e25 : cs 25 N25 = c25 := by kernel_rfl
theorem e26 : cs 26 N26 = c26 := by kernel_rfl
theorem e27 : cs 27 N27 = c27 := by kernel_rfl
theorem e28 : cs 28 N28 = c28 := by kernel_rfl
theorem e29 : cs 29 N29 = c29 := by kernel_rfl
theorem e30 : cs 30 N30 = c30 := by kernel_rfl
theorem e31 : cs 31 N31 = c31 := by kernel_rfl
theorem e1000 : cs 1000 N1000 = c1000 := by kernel_rfl
theorem e1001 : cs 1001 N1001 = c1001 := by kernel_rfl
theorem e1002 : cs 1002 N1002 = c1002 := by kernel_rfl
theorem e1003 : cs 1003 N1003 = c1003 := by kernel_rfl
theorem e1004 : cs 1004 N1004 = c1004 := by kernel_rfl
theorem e1005 : cs 1005 N1005 = c1005 := by kernel_rfl
theorem e1006 : cs 1006 N1006 = c1006 := by kernel_rfl
theorem e1007 : cs 1007 N1007 = c1007 := by kernel_rfl
theorem e1008 : cs 1008 N1008 = c1008 := by kernel_rfl
end Mi.k02
end

section
set_option linter.all false
/-! Sp0: loops over fixed rows, as recursion over the row. -/
namespace Mi
def lcL (g : Tg) (c e : Loc → Hea → Out D) (σ : Loc) : List D → List D → Hea → Out (List D)
  | [], acc, h => .ok acc h
  | x :: xs, acc, h => match bindT h σ x g with
    | none => .no
    | some σ1 => (noX (c σ1 h)).bind fun b h1 => match truD h1 b with
      | none => .no
      | some true => (noX (e σ1 h1)).bind fun d h2 => if acc.length < SZ then lcL g c e σ xs (acc ++ [d]) h2 else .no
      | some false => lcL g c e σ xs acc h1
theorem lcGo_fix (g : Tg) (c e : Loc → Hea → Out D) (σ : Loc) (ds : List D) : ∀ (k i : Nat) (acc : List D) (h : Hea), i ≤ ds.length → ds.length < i + k → lcGo g c e (.fix ds) σ k i acc h = lcL g c e σ (ds.drop i) acc h
  | 0, i, acc, h, hi0, hk => by omega
  | k + 1, i, acc, h, hi0, hk => by
    unfold lcGo
    by_cases hi : i < ds.length
    · rw [List.drop_eq_getElem_cons hi]
      simp only [srcAt, List.getElem?_eq_getElem hi, lcL]
      cases bindT h σ ds[i] g with
      | none => rfl
      | some σ1 =>
        simp only
        congr 1
        funext b h1
        cases truD h1 b with
        | none => rfl
        | some t =>
          cases t with
          | false => exact lcGo_fix g c e σ ds k (i + 1) acc h1 (by omega) (by omega)
          | true =>
            simp only
            congr 1
            funext d h2
            split
            · exact lcGo_fix g c e σ ds k (i + 1) _ h2 (by omega) (by omega)
            · rfl
    · rw [List.drop_eq_nil_of_le (by omega)]
      simp [srcAt, List.getElem?_eq_none (by omega : ds.length ≤ i), lcL]
theorem lcGo_all (g : Tg) (c e : Loc → Hea → Out D) (σ : Loc) (ds : List D) (h : Hea) (hl : ds.length < FUEL) : lcGo g c e (.fix ds) σ FUEL 0 [] h = lcL g c e σ ds [] h := by
  have := lcGo_fix g c e σ ds FUEL 0 [] h (Nat.zero_le _) (by omega)
  simpa using this
def frD (g : Tg) (b : Loc → Hea → Out Fl) : List D → Loc → Hea → Out Fl
  | [], σ, h => .ok (.nx σ) h
  | x :: xs, σ, h => match bindT h σ x g with
    | none => .no
    | some σ1 => (b σ1 h).bind fun f h1 => match f with
      | .nx σ2 => frD g b xs σ2 h1
      | .ct σ2 => frD g b xs σ2 h1
      | .bk σ2 => .ok (.nx σ2) h1
      | .rt d => .ok (.rt d) h1
theorem frGo_fix (g : Tg) (b : Loc → Hea → Out Fl) (ds : List D) : ∀ (k i : Nat) (σ : Loc) (h : Hea), i ≤ ds.length → ds.length < i + k → frGo g b (.fix ds) k i σ h = frD g b (ds.drop i) σ h
  | 0, i, σ, h, hi0, hk => by omega
  | k + 1, i, σ, h, hi0, hk => by
    unfold frGo
    by_cases hi : i < ds.length
    · rw [List.drop_eq_getElem_cons hi]
      simp only [srcAt, List.getElem?_eq_getElem hi, frD]
      cases bindT h σ ds[i] g with
      | none => rfl
      | some σ1 =>
        simp only
        congr 1
        funext f h1
        cases f with
        | nx σ2 => exact frGo_fix g b ds k (i + 1) σ2 h1 (by omega) (by omega)
        | ct σ2 => exact frGo_fix g b ds k (i + 1) σ2 h1 (by omega) (by omega)
        | bk σ2 => rfl
        | rt d => rfl
    · rw [List.drop_eq_nil_of_le (by omega)]
      simp [srcAt, List.getElem?_eq_none (by omega : ds.length ≤ i), frD]
theorem frGo_all (g : Tg) (b : Loc → Hea → Out Fl) (ds : List D) (σ : Loc) (h : Hea) (hl : ds.length < FUEL) : frGo g b (.fix ds) FUEL 0 σ h = frD g b ds σ h := by
  have := frGo_fix g b ds FUEL 0 σ h (Nat.zero_le _) (by omega)
  simpa using this
end Mi
end

section
set_option linter.all false
set_option maxRecDepth 100000
/-! Sp1: specs of the program's small defs. -/
namespace Mi.P
open PySem
section
variable {G : GE} {Tb : Nat → Option FC}
theorem is_between_int (tb : Tb 1 = some ⟨3, 3, c1⟩) (k : Nat) (v lo hi : Int) (h : Hea) : callF G Tb (k + 1) 1 [.int v, .int lo, .int hi] h = .ok (.bl (decide (lo ≤ v) && decide (v ≤ hi))) h := by
  simp [callF, tb, runF, c1, evSs, evS, evE, evEs, Mi.begin, callX, callB, fIsinst, isinstD, plainTy, tyD, asD, truD, cmpX, ownEq, cmpG, opC, isNon]
  by_cases h1 : lo ≤ v <;> by_cases h2 : v ≤ hi <;> simp [h1, h2]
end
end Mi.P
end

section
set_option linter.all false
set_option maxRecDepth 100000
/-! Sp2: trees. -/
namespace Mi.P
open PySem
mutual
inductive Tr where
  | fin (n : Int) | stp (n : Int) (bs : Trs)
inductive Trs where
  | nil | cons (w : Int) (t : Tr) (r : Trs)
end
mutual
def enc : Tr → D
  | .fin n => .tup [.str "end", .int n]
  | .stp n bs => .tup [.str "step", .int n, .tup (encs bs)]
def encs : Trs → List D
  | .nil => []
  | .cons w t r => .tup [.int w, enc t] :: encs r
end
def Tr.isFin : Tr → Bool
  | .fin _ => true
  | .stp _ _ => false
theorem eqD_str (h : Hea) (x y : Str) (hx : PyData.strOk x = true) (hy : PyData.strOk y = true) : eqD h (.str x) (.str y) = some (decide (x = y)) := by
  simp [eqD, pd, pdD, SeqAt.shaped, PyData.canLay0, PyData.depth, hx, hy, PyData.eqv]
  rfl
theorem atI0 {α : Type} (x : α) (r : List α) : L2.atI (x :: r) 0 = some x := by
  have e : L2.ixN (r.length + 1) 0 = some 0 := by
    unfold L2.ixN
    rw [if_pos (Int.le_refl 0), if_pos (by omega)]
    rfl
  simp [L2.atI, e]
theorem ok_end : PyData.strOk ("end" : Str) = true := by decide +kernel
theorem ok_step : PyData.strOk ("step" : Str) = true := by decide +kernel
section
variable {G : GE} {Tb : Nat → Option FC}
theorem is_end_ok (tb : Tb 2 = some ⟨1, 1, c2⟩) (k : Nat) (t : Tr) (h : Hea) : callF G Tb (k + 1) 2 [enc t] h = .ok (.bl t.isFin) h := by
  cases t <;> simp [callF, tb, runF, c2, evSs, evS, evE, evEs, Mi.begin, enc, idxD, atI0, cmpX, ownEq, cmpG, opC, insAt, eqD_str, ok_end, ok_step, Tr.isFin] <;> decide +kernel
theorem is_cost_ok (tb1 : Tb 1 = some ⟨3, 3, c1⟩) (tb3 : Tb 3 = some ⟨1, 1, c3⟩) (k : Nat) (v : Int) (h : Hea) : callF G Tb (k + 2) 3 [.int v] h = .ok (.bl (decide (0 ≤ v) && decide (v ≤ 1000000))) h := by
  have e := is_between_int (G := G) tb1 k v 0 1000000 h
  show callF G Tb ((k + 1) + 1) 3 [.int v] h = _
  unfold callF
  simp [tb3, runF, c3, evSs, evS, evE, evEs, Mi.begin, shape, e]
end
end Mi.P
end

section
set_option linter.all false
set_option maxRecDepth 100000
/-! Sp3: text_of. -/
namespace Mi.P
open PySem
def num (n : Int) : Str := (toString n : String)
mutual
def txt : Tr → Str
  | .fin n => num n
  | .stp n bs => (((Str.empty ++ num n) ++ ("[" : Str)) ++ PySem.Txt.join (" " : Str) (txts bs)) ++ ("]" : Str)
def txts : Trs → List Str
  | .nil => []
  | .cons w t r => (((Str.empty ++ num w) ++ (":" : Str)) ++ txt t) :: txts r
end
def Trs.len : Trs → Nat
  | .nil => 0
  | .cons _ _ r => r.len + 1
mutual
/-- what the built-in functions' bounds ask -/
def okT : Tr → Prop
  | .fin n => smallI n = true
  | .stp n bs => smallI n = true ∧ (Str.empty ++ num n).length ≤ SZ ∧ ((Str.empty ++ num n) ++ ("[" : Str)).length ≤ SZ ∧ okTs bs ∧ bs.len < SZ ∧
    ((txts bs).map (·.length)).sum + (txts bs).length * (" " : Str).length ≤ SZ ∧ ((Str.empty ++ num n) ++ ("[" : Str)).length + (PySem.Txt.join (" " : Str) (txts bs)).length ≤ SZ ∧
    (((Str.empty ++ num n) ++ ("[" : Str)) ++ PySem.Txt.join (" " : Str) (txts bs)).length + ("]" : Str).length ≤ SZ
def okTs : Trs → Prop
  | .nil => True
  | .cons w t r => smallI w = true ∧ (Str.empty ++ num w).length ≤ SZ ∧ ((Str.empty ++ num w) ++ (":" : Str)).length ≤ SZ ∧ okT t ∧ (txt t).length ≤ SZ ∧ (((Str.empty ++ num w) ++ (":" : Str)) ++ txt t).length ≤ SZ ∧ okTs r
end
mutual
def dep : Tr → Nat
  | .fin _ => 0
  | .stp _ bs => deps bs + 1
def deps : Trs → Nat
  | .nil => 0
  | .cons _ t r => max (dep t) (deps r)
end
section
variable {G : GE} {Tb : Nat → Option FC}
theorem evFmt (Φ : Orc) (σ : Loc) (h h1 : Hea) (a : CE) (n : Int) (e : evE G Φ a σ h = .ok (.int n) h1) (hs : smallI n = true) : evE G Φ (.fmt a) σ h = .ok (.str (num n)) h1 := by
  simp [evE, e, fmtD, hs, num]
theorem text_fin (tb2 : Tb 2 = some ⟨1, 1, c2⟩) (tb12 : Tb 12 = some ⟨3, 1, c12⟩) (n : Int) (k : Nat) (h : Hea) (ok : smallI n = true) : callF G Tb (k + 2) 12 [enc (.fin n)] h = .ok (.str (num n)) h := by
  have e := is_end_ok (G := G) tb2 k (.fin n) h
  simp only [enc, Tr.isFin] at e
  show callF G Tb ((k + 1) + 1) 12 [enc (.fin n)] h = _
  have i1 : L2.atI [D.str "end", D.int n] 1 = some (.int n) := by rfl
  unfold callF
  simp [tb12, runF, c12, evSs, evS, evE, evEs, Mi.begin, shape, e, asD, truD, Tr.isFin, enc, idxD, i1, fmtD, ok, num]
theorem encs_len : ∀ bs : Trs, (encs bs).length = bs.len
  | .nil => rfl
  | .cons w t r => by simp [encs, Trs.len, encs_len r]
theorem strsD_map : ∀ l : List Str, strsD (l.map D.str) = some l
  | [] => rfl
  | x :: l => by simp [strsD, strsD_map l]
def itC : CE := (.fst [(.fmt (.var 1)), (.lit (.str (":" : Str))), (.fmt (.callk 12 [(.var 2)] [.inl 0]))])
theorem c12_it : c12 = [.iff (.callk 2 [(.var 0)] [.inl 0]) [.ret (.fmt (.idx (.var 0) (.lit (.int (1)))))] [],
  .ret (.bin .add (.bin .add (.fst [(.fmt (.idx (.var 0) (.lit (.int (1))))), (.lit (.str ("[" : Str)))]) (.bm .join (.lit (.str (" " : Str))) [(.lc [1, 2] (.tp [1, 2]) (.seq (.idx (.var 0) (.lit (.int (2))))) (.lit (.bl true)) itC)])) (.lit (.str ("]" : Str))))] := rfl
/-- a step's text, from its branches' -/
theorem text_stp (tb2 : Tb 2 = some ⟨1, 1, c2⟩) (tb12 : Tb 12 = some ⟨3, 1, c12⟩) (n : Int) (bs : Trs) (k : Nat) (h : Hea) (ok : okT (.stp n bs)) (x : Hea)
    (body : lcL (.tp [1, 2]) (fun _ h => .ok (.bl true) h) (evE G (callF G Tb (k + 1)) itC) [some (enc (.stp n bs)), none, none] (encs bs) [] h = .ok ((txts bs).map D.str) x) :
    callF G Tb (k + 2) 12 [enc (.stp n bs)] h = .ok (.str (txt (.stp n bs))) (x ++ [.lst ((txts bs).map D.str)]) := by
  have e := is_end_ok (G := G) tb2 k (.stp n bs) h
  simp only [enc, Tr.isFin] at e
  have i1 : L2.atI [D.str "step", D.int n, D.tup (encs bs)] 1 = some (.int n) := by rfl
  have i2 : L2.atI [D.str "step", D.int n, D.tup (encs bs)] 2 = some (.tup (encs bs)) := by rfl
  obtain ⟨s1, s2, s3, s4, s5, s6, s7, s8⟩ := ok
  have hl : (encs bs).length < FUEL := by
    rw [encs_len]
    exact Nat.lt_of_lt_of_le s5 (by decide)
  have fm : fmtD (.int n) = some (.str (num n)) := by simp [fmtD, s1, num]
  simp only [enc] at body
  show callF G Tb ((k + 1) + 1) 12 [enc (.stp n bs)] h = _
  unfold callF
  simp [tb12, runF, c12_it, evSs, evS, evE, evEs, evI, evJ, walkD, Mi.begin, shape, e, asD, truD, enc, idxD, i1, i2, fm, s2, s3, s6, s7, s8, wipeL, recv, callM, gJoin, seqD, rdL, strsD_map, opB, opAdd, new, lcGo_all _ _ _ _ _ _ hl, body, txt]
end
end Mi.P
end

section
set_option linter.all false
/-! Sq1: labelled trees, their nodes in order. -/
namespace Mi.P
open PySem
mutual
/-- a tree whose nodes have numbers -/
inductive LT where
  | mk (s : Nat) (n : Int) (ks : LTs)
inductive LTs where
  | nil | cons (w : Int) (t : LT) (r : LTs)
end
def mkT (n : Int) : Trs → Tr
  | .nil => .fin n
  | .cons w t r => .stp n (.cons w t r)
mutual
def LT.tr : LT → Tr
  | .mk _ n ks => mkT n ks.trs
def LTs.trs : LTs → Trs
  | .nil => .nil
  | .cons w t r => .cons w t.tr r.trs
end
def LT.spot : LT → Nat
  | .mk s _ _ => s
def LT.num : LT → Int
  | .mk _ n _ => n
def LT.ks : LT → LTs
  | .mk _ _ ks => ks
def LTs.spots : LTs → List Nat
  | .nil => []
  | .cons _ t r => t.spot :: r.spots
def LTs.get : LTs → Nat → Option (Int × LT)
  | .nil, _ => none
  | .cons w t _, 0 => some (w, t)
  | .cons _ _ r, k + 1 => r.get k
def LTs.len : LTs → Nat
  | .nil => 0
  | .cons _ _ r => r.len + 1
mutual
/-- all nodes with their paths, in order -/
def sb : LT → List Nat → List (List Nat × LT)
  | .mk s n ks, p => (p, .mk s n ks) :: sbs ks p 0
def sbs : LTs → List Nat → Nat → List (List Nat × LT)
  | .nil, _, _ => []
  | .cons _ t r, p, k => sb t (p ++ [k]) ++ sbs r p (k + 1)
end
mutual
def nd : Tr → List Nat → List (List Nat × Tr)
  | .fin n, p => [(p, .fin n)]
  | .stp n bs, p => (p, .stp n bs) :: nds bs p 0
def nds : Trs → List Nat → Nat → List (List Nat × Tr)
  | .nil, _, _ => []
  | .cons _ t r, p, k => nd t (p ++ [k]) ++ nds r p (k + 1)
end
mutual
theorem nd_sb : ∀ (t : LT) (p : List Nat), nd t.tr p = (sb t p).map fun x => (x.1, x.2.tr)
  | .mk s n ks, p => by
    have h := nds_sbs ks p 0
    rw [sb, List.map_cons, ← h]
    simp only [LT.tr]
    cases ks with
    | nil => simp [LTs.trs, mkT, nd, nds]
    | cons w t r => simp [LTs.trs, mkT, nd]
theorem nds_sbs : ∀ (t : LTs) (p : List Nat) (k : Nat), nds t.trs p k = (sbs t p k).map fun x => (x.1, x.2.tr)
  | .nil, p, k => by simp [LTs.trs, nds, sbs]
  | .cons w t r, p, k => by
    simp only [LTs.trs, nds, sbs, List.map_append]
    rw [nd_sb t, nds_sbs r]
end
mutual
theorem sb_pre : ∀ (t : LT) (p : List Nat) (x : List Nat × LT), x ∈ sb t p → ∃ q, x.1 = p ++ q
  | .mk s n ks, p, x, h => by
    rw [sb, List.mem_cons] at h
    rcases h with h | h
    · exact ⟨[], by simp [h]⟩
    · obtain ⟨j, _, q, e⟩ := sbs_pre ks p 0 x h
      exact ⟨j :: q, e⟩
theorem sbs_pre : ∀ (t : LTs) (p : List Nat) (k : Nat) (x : List Nat × LT), x ∈ sbs t p k → ∃ j, k ≤ j ∧ ∃ q, x.1 = p ++ j :: q
  | .nil, p, k, x, h => by simp [sbs] at h
  | .cons w t r, p, k, x, h => by
    rw [sbs, List.mem_append] at h
    rcases h with h | h
    · obtain ⟨q, e⟩ := sb_pre t _ x h
      exact ⟨k, Nat.le_refl k, q, by simp [e]⟩
    · obtain ⟨j, hj, q, e⟩ := sbs_pre r p (k + 1) x h
      exact ⟨j, by omega, q, e⟩
end
/-! order -/
def toks (p : List Nat) : List (Int ⊕ List Nat) := PySem.W.keyToksAll (p.map fun (i : Nat) => PyData.int i)
abbrev lexI := PyProof.Rows.lexLt PyProof.Rows.itemOrd
theorem lex_hd (a b : Int) (h : a < b) (l m) : lexI (.inl a :: l) (.inl b :: m) = true := PyProof.Rows.lex_true.mpr (.inl (decide_eq_true h))
theorem toks_pre : ∀ (p q : List Nat) (k : Nat) (l m), lexI (toks p ++ l) (toks (p ++ k :: q) ++ m) = true
  | [], q, k, l, m => lex_hd 0 1 (by omega) _ _
  | x :: p, q, k, l, m => by
    have := PySem.W.lex_pre [.inl 1, .inl (x : Int)] (toks p ++ l) (toks (p ++ k :: q) ++ m)
    have i := toks_pre p q k l m
    simpa [toks, PySem.W.keyToksAll, PySem.W.keyToks] using this.trans i
theorem toks_br : ∀ (p q r : List Nat) (j k : Nat) (l m), j < k → lexI (toks (p ++ j :: q) ++ l) (toks (p ++ k :: r) ++ m) = true
  | [], q, r, j, k, l, m, h => by
    have := PySem.W.lex_pre [.inl 1] (.inl (j : Int) :: (toks q ++ l)) (.inl (k : Int) :: (toks r ++ m))
    have i := lex_hd (j : Int) (k : Int) (by omega) (toks q ++ l) (toks r ++ m)
    simpa [toks, PySem.W.keyToksAll, PySem.W.keyToks] using this.trans i
  | x :: p, q, r, j, k, l, m, h => by
    have := PySem.W.lex_pre [.inl 1, .inl (x : Int)] (toks (p ++ j :: q) ++ l) (toks (p ++ k :: r) ++ m)
    have i := toks_br p q r j k l m h
    simpa [toks, PySem.W.keyToksAll, PySem.W.keyToks] using this.trans i
def Bef (a b : List Nat) : Prop := ∀ l m, lexI (toks a ++ l) (toks b ++ m) = true
mutual
theorem sb_srt : ∀ (t : LT) (p : List Nat), (sb t p).Pairwise fun a b => Bef a.1 b.1
  | .mk s n ks, p => by
    rw [sb, List.pairwise_cons]
    refine ⟨fun x hx => ?_, sbs_srt ks p 0⟩
    obtain ⟨j, _, q, e⟩ := sbs_pre ks p 0 x hx
    intro l m
    rw [e]
    exact toks_pre p q j l m
theorem sbs_srt : ∀ (t : LTs) (p : List Nat) (k : Nat), (sbs t p k).Pairwise fun a b => Bef a.1 b.1
  | .nil, p, k => by simp [sbs]
  | .cons w t r, p, k => by
    rw [sbs, List.pairwise_append]
    refine ⟨sb_srt t _, sbs_srt r p (k + 1), fun a ha b hb => ?_⟩
    obtain ⟨q, e⟩ := sb_pre t _ a ha
    obtain ⟨j, hj, q', e'⟩ := sbs_pre r p (k + 1) b hb
    intro l m
    rw [e, e']
    have := toks_br p q q' k j l m (by omega)
    simpa using this
end
/-! a node's branches are nodes -/
mutual
theorem sb_kid : ∀ (t : LT) (p : List Nat) (x : List Nat × LT), x ∈ sb t p → ∀ (j : Nat) (w : Int) (u : LT), x.2.ks.get j = some (w, u) → (x.1 ++ [j], u) ∈ sb t p
  | .mk s n ks, p, x, h, j, w, u, g => by
    rw [sb, List.mem_cons] at h ⊢
    right
    rcases h with h | h
    · subst h
      have := sbs_get ks p 0 j w u g
      simpa using this
    · exact sbs_kid ks p 0 x h j w u g
theorem sbs_kid : ∀ (t : LTs) (p : List Nat) (k : Nat) (x : List Nat × LT), x ∈ sbs t p k → ∀ (j : Nat) (w : Int) (u : LT), x.2.ks.get j = some (w, u) → (x.1 ++ [j], u) ∈ sbs t p k
  | .nil, p, k, x, h, _, _, _, _ => by simp [sbs] at h
  | .cons w t r, p, k, x, h, j, w', u, g => by
    rw [sbs, List.mem_append] at h ⊢
    rcases h with h | h
    · exact .inl (sb_kid t _ x h j w' u g)
    · exact .inr (sbs_kid r p (k + 1) x h j w' u g)
theorem sbs_get : ∀ (t : LTs) (p : List Nat) (k j : Nat) (w : Int) (u : LT), t.get j = some (w, u) → (p ++ [k + j], u) ∈ sbs t p k
  | .nil, p, k, j, w, u, g => by simp [LTs.get] at g
  | .cons w t r, p, k, 0, w', u, g => by
    simp [LTs.get] at g
    obtain ⟨_, rfl⟩ := g
    rw [sbs, List.mem_append]
    left
    cases t with
    | mk s n ks => simp [sb]
  | .cons w t r, p, k, j + 1, w', u, g => by
    rw [sbs, List.mem_append]
    right
    have := sbs_get r p (k + 1) j w' u g
    rwa [Nat.add_assoc, Nat.add_comm 1 j] at this
end
section
variable (S : List Nat → LT → Prop) (hS : ∀ p t, S p t → ∀ j w u, t.ks.get j = some (w, u) → S (p ++ [j]) u)
include hS
mutual
/-- a set of pairs that has the root and with each node its branches has all -/
theorem sb_all : ∀ (t : LT) (p : List Nat), S p t → ∀ x ∈ sb t p, S x.1 x.2
  | .mk s n ks, p, h, x, hx => by
    rw [sb, List.mem_cons] at hx
    rcases hx with hx | hx
    · subst hx; exact h
    · refine sbs_all ks p 0 (fun j w u g => ?_) x hx
      have := hS p _ h j w u g
      simpa using this
theorem sbs_all : ∀ (ks : LTs) (p : List Nat) (k : Nat), (∀ j w u, ks.get j = some (w, u) → S (p ++ [k + j]) u) → ∀ x ∈ sbs ks p k, S x.1 x.2
  | .nil, p, k, h, x, hx => by simp [sbs] at hx
  | .cons w t r, p, k, h, x, hx => by
    rw [sbs, List.mem_append] at hx
    rcases hx with hx | hx
    · exact sb_all t (p ++ [k]) (by simpa using h 0 w t rfl) x hx
    · refine sbs_all r p (k + 1) (fun j w' u g => ?_) x hx
      have := h (j + 1) w' u g
      rwa [Nat.add_assoc, Nat.add_comm 1 j]
end
end
/-! a node below another -/
def atL : List Nat → LT → Option LT
  | [], t => some t
  | k :: q, t => match t.ks.get k with
    | some (_, u) => atL q u
    | none => none
mutual
theorem sb_at : ∀ (t : LT) (p : List Nat) (x : List Nat × LT), x ∈ sb t p → ∃ q, x.1 = p ++ q ∧ atL q t = some x.2
  | .mk s n ks, p, x, h => by
    rw [sb, List.mem_cons] at h
    rcases h with h | h
    · subst h; exact ⟨[], by simp, rfl⟩
    · obtain ⟨j, w, u, q, g, e, a⟩ := sbs_at ks p 0 x h
      refine ⟨j :: q, by simpa using e, ?_⟩
      simp [atL, LT.ks, g, a]
theorem sbs_at : ∀ (t : LTs) (p : List Nat) (k : Nat) (x : List Nat × LT), x ∈ sbs t p k → ∃ j w u q, t.get j = some (w, u) ∧ x.1 = p ++ (k + j) :: q ∧ atL q u = some x.2
  | .nil, p, k, x, h => by simp [sbs] at h
  | .cons w t r, p, k, x, h => by
    rw [sbs, List.mem_append] at h
    rcases h with h | h
    · obtain ⟨q, e, a⟩ := sb_at t _ x h
      exact ⟨0, w, t, q, rfl, by simpa using e, a⟩
    · obtain ⟨j, w', u, q, g, e, a⟩ := sbs_at r p (k + 1) x h
      exact ⟨j + 1, w', u, q, g, by rw [e]; congr 2; omega, a⟩
end
/-- the test whether a path goes through another one -/
def thr (b : Nat) (q : List Nat) (x : List Nat × LT) : Bool := decide ((x.1.drop b).take q.length = q)
theorem thr_nil (b : Nat) (x : List Nat × LT) : thr b [] x = true := by simp [thr]
theorem thr_app (p q a : List Nat) (t : LT) : thr p.length q (p ++ a, t) = decide (a.take q.length = q) := by simp [thr]
mutual
theorem sb_thr : ∀ (t : LT) (p q : List Nat) (u : LT), atL q t = some u → (sb t p).filter (thr p.length q) = sb u (p ++ q)
  | t, p, [], u, h => by
    simp [atL] at h
    subst h
    simp [List.filter_eq_self.mpr (fun x _ => thr_nil p.length x)]
  | .mk s n ks, p, k :: q, u, h => by
    rw [sb]
    have e0 : thr p.length (k :: q) (p, .mk s n ks) = false := by
      have := thr_app p (k :: q) [] (.mk s n ks)
      simpa using this
    rw [List.filter_cons, e0]
    simp only [atL, LT.ks] at h
    cases hg : ks.get k with
    | none => rw [hg] at h; cases h
    | some wu =>
      obtain ⟨w, v⟩ := wu
      rw [hg] at h
      have := sbs_thr ks p 0 k w v q u hg h
      simpa using this
theorem sbs_thr : ∀ (t : LTs) (p : List Nat) (k j : Nat) (w : Int) (v : LT) (q : List Nat) (u : LT), t.get j = some (w, v) → atL q v = some u → (sbs t p k).filter (thr p.length ((k + j) :: q)) = sb u (p ++ (k + j) :: q)
  | .nil, p, k, j, w, v, q, u, hg, h => by simp [LTs.get] at hg
  | .cons w t r, p, k, 0, w', v, q, u, hg, h => by
    simp [LTs.get] at hg
    obtain ⟨_, rfl⟩ := hg
    rw [sbs, List.filter_append]
    have e1 : (sbs r p (k + 1)).filter (thr p.length ((k + 0) :: q)) = [] := by
      rw [List.filter_eq_nil_iff]
      intro x hx
      obtain ⟨j, hj, q', e⟩ := sbs_pre r p (k + 1) x hx
      have := thr_app p ((k + 0) :: q) (j :: q') x.2
      rw [← e] at this
      rw [this]
      simp
      omega
    have e2 : (sb t (p ++ [k])).filter (thr p.length ((k + 0) :: q)) = (sb t (p ++ [k])).filter (thr (p ++ [k]).length q) := by
      apply List.filter_congr
      intro x hx
      obtain ⟨q', e⟩ := sb_pre t _ x hx
      have a1 := thr_app p ((k + 0) :: q) (k :: q') x.2
      have a2 := thr_app (p ++ [k]) q q' x.2
      rw [← e] at a2
      have e' : x.1 = p ++ k :: q' := by simp [e]
      rw [← e'] at a1
      rw [show x = (x.1, x.2) from rfl, a1, a2]
      simp
    rw [e1, e2, sb_thr t (p ++ [k]) q u h]
    simp
  | .cons w t r, p, k, j + 1, w', v, q, u, hg, h => by
    rw [sbs, List.filter_append]
    have e1 : (sb t (p ++ [k])).filter (thr p.length ((k + (j + 1)) :: q)) = [] := by
      rw [List.filter_eq_nil_iff]
      intro x hx
      obtain ⟨q', e⟩ := sb_pre t _ x hx
      have a1 := thr_app p ((k + (j + 1)) :: q) (k :: q') x.2
      have e' : x.1 = p ++ k :: q' := by simp [e]
      rw [← e'] at a1
      rw [show x = (x.1, x.2) from rfl, a1]
      simp
    have e2 := sbs_thr r p (k + 1) j w' v q u hg h
    rw [Nat.add_assoc, Nat.add_comm 1 j] at e2
    rw [e1, e2]
    rfl
end
mutual
theorem sb_shift : ∀ (t : LT) (a p : List Nat), sb t (a ++ p) = (sb t p).map fun x => (a ++ x.1, x.2)
  | .mk s n ks, a, p => by
    rw [sb, sb, List.map_cons, sbs_shift ks a p 0]
theorem sbs_shift : ∀ (t : LTs) (a p : List Nat) (k : Nat), sbs t (a ++ p) k = (sbs t p k).map fun x => (a ++ x.1, x.2)
  | .nil, a, p, k => by simp [sbs]
  | .cons w t r, a, p, k => by
    rw [sbs, sbs, List.map_append, ← sbs_shift r a p (k + 1), ← sb_shift t a (p ++ [k])]
    simp
end
/-- the paths of a node's tree: those through it, cut -/
theorem paths_at (t u : LT) (q : List Nat) (h : atL q t = some u) : (((sb t []).filter (thr 0 q)).map fun x => x.1.drop q.length) = (sb u []).map (·.1) := by
  have := sb_thr t [] q u h
  simp only [List.length_nil, List.nil_append] at this
  rw [this]
  have e := sb_shift u q []
  rw [List.append_nil] at e
  rw [e, List.map_map]
  apply List.map_congr_left
  intro x _
  simp
end Mi.P
end

section
set_option linter.all false
/-! Sq2: sorted pairs of a path and a number. -/
namespace Mi.P
open PySem
def iD (i : Nat) : D := .int i
def iP (i : Nat) : PyData := .int i
def pthD (p : List Nat) : D := .tup (p.map iD)
def encPS (x : List Nat × Nat) : D := .tup [pthD x.1, .int x.2]
def pdPS (x : List Nat × Nat) : PyData := .tuple [.tuple (x.1.map iP), .int x.2]
theorem pdDs_iD (r : Nat → Option PyData) : ∀ p : List Nat, pdDs r (p.map iD) = some (p.map iP)
  | [] => rfl
  | i :: p => by simp [pdDs, pdD, iD, iP, pdDs_iD r p]
theorem lay_iP : ∀ p : List Nat, PyData.canLayAll0 (p.map iP) = true
  | [] => by simp [PyData.canLayAll0]
  | i :: p => by simp [PyData.canLayAll0, PyData.canLay0, iP, lay_iP p]
theorem dep_iP : ∀ p : List Nat, PyData.depthAll (p.map iP) = 0
  | [] => by simp [PyData.depthAll]
  | i :: p => by simp [PyData.depthAll, PyData.depth, iP, dep_iP p]
theorem pd_path (h : Hea) (p : List Nat) : pd h (pthD p) = some (.tuple (p.map iP)) := by
  simp [pd, pthD, pdD, pdDs_iD, SeqAt.shaped, PyData.canLay0, PyData.depth, lay_iP, dep_iP]
theorem pd_PS (h : Hea) (x : List Nat × Nat) : pd h (encPS x) = some (pdPS x) := by
  simp [pd, encPS, pthD, pdPS, pdD, pdDs, pdDs_iD, SeqAt.shaped, PyData.canLay0, PyData.canLayAll0, PyData.depth, PyData.depthAll, lay_iP, dep_iP]
theorem pdL_PS (h : Hea) : ∀ L : List (List Nat × Nat), pdL h (L.map encPS) = some (L.map pdPS)
  | [] => rfl
  | x :: L => by simp [pdL, pd_PS, pdL_PS h L]
theorem alike_iP : ∀ p q : List Nat, PySem.W.alikeAll (p.map iP) (q.map iP) = true
  | [], q => by cases q <;> simp [PySem.W.alikeAll]
  | _ :: _, [] => by simp [PySem.W.alikeAll]
  | i :: p, j :: q => by simp [PySem.W.alikeAll, PySem.W.alike, iP, alike_iP p q]
theorem alike_PS (x y : List Nat × Nat) : PySem.W.alike (pdPS x) (pdPS y) = true := by
  simp [pdPS, PySem.W.alike, PySem.W.alikeAll, alike_iP]
def GP (x : List Nat × Nat) : D × PyData := (encPS x, pdPS x)
theorem zip_GP : ∀ L : List (List Nat × Nat), (L.map encPS).zip (L.map pdPS) = L.map GP
  | [] => rfl
  | x :: L => by simp [zip_GP L, GP]
theorem toks_PS (x : List Nat × Nat) : PySem.W.keyToks (pdPS x) = .inl 1 :: (toks x.1 ++ [.inl 1, .inl (x.2 : Int), .inl 0]) := by
  simp [pdPS, PySem.W.keyToks, PySem.W.keyToksAll, toks]
  rfl
theorem bef_lt {x y : List Nat × Nat} (h : Bef x.1 y.1) : lexI (PySem.W.keyToks (pdPS x)) (PySem.W.keyToks (pdPS y)) = true := by
  rw [toks_PS, toks_PS]
  have := PySem.W.lex_pre [.inl 1] (toks x.1 ++ [.inl 1, .inl (x.2 : Int), .inl 0]) (toks y.1 ++ [.inl 1, .inl (y.2 : Int), .inl 0])
  exact this.trans (h _ _)
abbrev leP (a b : D × PyData) : Bool := PySem.W.dataLe false (·.2) a b
theorem leP_eq (a b : D × PyData) : leP a b = !lexI (PySem.W.keyToks b.2) (PySem.W.keyToks a.2) := rfl
theorem lex_asym {a b : List (Int ⊕ List Nat)} (h : lexI a b = true) : lexI b a = false := by
  cases e : lexI b a with
  | false => rfl
  | true =>
    have := PyProof.Rows.lex_trans (O := PyProof.Rows.itemOrd) a b a h e
    rw [PyProof.Rows.lex_irrefl] at this
    cases this
theorem leP_trans (a b c : D × PyData) (h1 : leP a b = true) (h2 : leP b c = true) : leP a c = true := by
  simp only [leP_eq, Bool.not_eq_true'] at *
  cases e : lexI (PySem.W.keyToks c.2) (PySem.W.keyToks a.2) with
  | false => rfl
  | true =>
    rcases PyProof.Rows.lex_negTrans (O := PyProof.Rows.itemOrd) _ (PySem.W.keyToks b.2) _ e with h | h
    · exact absurd (h2.symm.trans h) Bool.false_ne_true
    · exact absurd (h1.symm.trans h) Bool.false_ne_true
theorem leP_total (a b : D × PyData) : (leP a b || leP b a) = true := by
  simp only [leP_eq]
  cases e : lexI (PySem.W.keyToks b.2) (PySem.W.keyToks a.2) with
  | false => rfl
  | true => rw [lex_asym e]; rfl
theorem tri {α : Type} {R : α → α → Prop} (P : List α) (hp : P.Pairwise R) {x y : α} (hx : x ∈ P) (hy : y ∈ P) : x = y ∨ R x y ∨ R y x := by
  obtain ⟨i, hi, rfl⟩ := List.mem_iff_getElem.mp hx
  obtain ⟨j, hj, rfl⟩ := List.mem_iff_getElem.mp hy
  rw [List.pairwise_iff_getElem] at hp
  rcases Nat.lt_trichotomy i j with h | h | h
  · exact .inr (.inl (hp i j hi hj h))
  · subst h; exact .inl rfl
  · exact .inr (.inr (hp j i hj hi h))
theorem sort_PS (h : Hea) (L P : List (List Nat × Nat)) (hP : L.Perm P) (hs : P.Pairwise fun a b => Bef a.1 b.1) (hl : L.length ≤ SZ) : sortD h (L.map encPS) = some (P.map encPS) := by
  have ok : sortOk (L.map pdPS) = true := by
    simp only [sortOk, Bool.and_eq_true, Bool.or_eq_true]
    refine ⟨?_, .inl ?_⟩
    · simp [alike_PS]
    · simp [tupNE, pdPS]
  have key : (L.map GP).mergeSort leP = P.map GP := by
    have pm : ((L.map GP).mergeSort leP).Perm (P.map GP) := (List.mergeSort_perm _ _).trans (hP.map GP)
    refine List.Perm.eq_of_pairwise (le := fun a b => leP a b = true) ?_ (List.pairwise_mergeSort leP_trans leP_total _) ?_ pm
    · intro a b ha hb h1 h2
      obtain ⟨x, hx, rfl⟩ := List.mem_map.mp (pm.mem_iff.mp ha)
      obtain ⟨y, hy, rfl⟩ := List.mem_map.mp hb
      rcases tri P hs hx hy with e | e | e
      · rw [e]
      · rw [leP_eq] at h2
        simp only [GP] at h2
        rw [bef_lt e] at h2
        cases h2
      · rw [leP_eq] at h1
        simp only [GP] at h1
        rw [bef_lt e] at h1
        cases h1
    · rw [List.pairwise_map]
      refine hs.imp fun {a b} e => ?_
      rw [leP_eq]
      simp only [GP]
      rw [lex_asym (bef_lt e)]
      rfl
  have : sortZ (L.map GP) = P.map GP := key
  simp [sortD, pdL_PS, ok, hl, zip_GP, this, GP]
end Mi.P
end

section
set_option linter.all false
set_option maxRecDepth 100000
/-! Sq3: trees as data; how long their texts are. -/
namespace Mi.P
open PySem
mutual
def pT : Tr → PyData
  | .fin n => .tuple [.str "end", .int n]
  | .stp n bs => .tuple [.str "step", .int n, .tuple (pTs bs)]
def pTs : Trs → List PyData
  | .nil => []
  | .cons w t r => .tuple [.int w, pT t] :: pTs r
end
mutual
theorem pdD_enc (r : Nat → Option PyData) : ∀ t : Tr, pdD r (enc t) = some (pT t)
  | .fin n => by simp [enc, pdD, pdDs, pT]
  | .stp n bs => by simp [enc, pdD, pdDs, pT, pdDs_encs r bs]
theorem pdDs_encs (r : Nat → Option PyData) : ∀ t : Trs, pdDs r (encs t) = some (pTs t)
  | .nil => by simp [encs, pdDs, pTs]
  | .cons w t r' => by simp [encs, pdDs, pdD, pTs, pdD_enc r t, pdDs_encs r r']
end
mutual
theorem lay_pT : ∀ t : Tr, (pT t).canLay0 = true
  | .fin n => by simp [pT, PyData.canLay0, PyData.canLayAll0, ok_end]
  | .stp n bs => by simp [pT, PyData.canLay0, PyData.canLayAll0, ok_step, lay_pTs bs]
theorem lay_pTs : ∀ t : Trs, PyData.canLayAll0 (pTs t) = true
  | .nil => by simp [pTs, PyData.canLayAll0]
  | .cons w t r => by simp [pTs, PyData.canLay0, PyData.canLayAll0, lay_pT t, lay_pTs r]
end
mutual
theorem dep_pT : ∀ t : Tr, (pT t).depth ≤ 3 * dep t + 1
  | .fin n => by simp [pT, PyData.depth, PyData.depthAll, dep]
  | .stp n bs => by
    have := dep_pTs bs
    simp [pT, PyData.depth, PyData.depthAll, dep]
    omega
theorem dep_pTs : ∀ t : Trs, PyData.depthAll (pTs t) ≤ 3 * deps t + 2
  | .nil => by simp [pTs, PyData.depthAll]
  | .cons w t r => by
    have := dep_pT t
    have := dep_pTs r
    simp [pTs, PyData.depth, PyData.depthAll, deps]
    omega
end
theorem pd_enc (h : Hea) (t : Tr) (d : dep t ≤ 20) : pd h (enc t) = some (pT t) := by
  have := dep_pT t
  have e : SeqAt.shaped (pT t) = true := by
    simp only [SeqAt.shaped, lay_pT, Bool.true_and, decide_eq_true_eq]
    omega
  simp [pd, pdD_enc, e]
mutual
theorem eqv_rfl : ∀ d : PyData, d.canLay0 = true → PyData.eqv d d = true
  | .none, _ => by simp [PyData.eqv]
  | .bool b, _ => by simp [PyData.eqv]
  | .int i, _ => by simp [PyData.eqv]
  | .str x, _ => by
    simp [PyData.eqv]
  | .list xs, h => by
    simp [PyData.canLay0] at h
    simp [PyData.eqv, eqvs_rfl xs h]
  | .tuple xs, h => by
    simp [PyData.canLay0] at h
    simp [PyData.eqv, eqvs_rfl xs h]
  | .dict _, h => by simp [PyData.canLay0] at h
theorem eqvs_rfl : ∀ ds : List PyData, PyData.canLayAll0 ds = true → PyData.eqvAll ds ds = true
  | [], _ => by simp [PyData.eqvAll]
  | x :: xs, h => by
    simp [PyData.canLayAll0] at h
    simp [PyData.eqvAll, eqv_rfl x h.1, eqvs_rfl xs h.2]
end
theorem eqD_rfl (h : Hea) (d : D) (x : PyData) (e : pd h d = some x) (l : x.canLay0 = true) : eqD h d d = some true := by
  simp [eqD, e, eqv_rfl x l]
theorem eqv_iP : ∀ p q : List Nat, PyData.eqvAll (p.map iP) (q.map iP) = decide (p = q)
  | [], [] => by simp [PyData.eqvAll]
  | [], _ :: _ => by simp [PyData.eqvAll]
  | _ :: _, [] => by simp [PyData.eqvAll]
  | i :: p, j :: q => by
    simp only [List.map_cons, PyData.eqvAll, eqv_iP p q]
    simp only [iP, PyData.eqv, List.cons.injEq]
    by_cases h : i = j
    · subst h
      simp
    · have : (i : Int) ≠ (j : Int) := by omega
      simp [h, this]
theorem eqD_path (h : Hea) (p q : List Nat) : eqD h (pthD p) (pthD q) = some (decide (p = q)) := by
  simp [eqD, pd_path, PyData.eqv, eqv_iP]
/-! sizes -/
mutual
def siz : Tr → Nat
  | .fin _ => 1
  | .stp _ bs => sizs bs + 1
def sizs : Trs → Nat
  | .nil => 0
  | .cons _ t r => siz t + sizs r
end
theorem siz_pos : ∀ t : Tr, 1 ≤ siz t
  | .fin _ => by simp [siz]
  | .stp _ bs => by simp [siz]
mutual
theorem dep_siz : ∀ t : Tr, dep t ≤ siz t
  | .fin _ => by simp [dep, siz]
  | .stp _ bs => by
    have := dep_sizs bs
    simp [dep, siz]
    omega
theorem dep_sizs : ∀ t : Trs, deps t ≤ sizs t
  | .nil => by simp [deps]
  | .cons _ t r => by
    have := dep_siz t
    have := dep_sizs r
    simp [deps, sizs]
    omega
end
def small (n : Int) : Prop := -8 ≤ n ∧ n ≤ 79
mutual
/-- a law's tree: its numbers -/
def lit : Tr → Prop
  | .fin n => small n
  | .stp n bs => small n ∧ 0 ≤ n ∧ lits bs ∧ bs.len ≤ 3 ∧ 1 ≤ bs.len
def lits : Trs → Prop
  | .nil => True
  | .cons w t r => (1 ≤ w ∧ w ≤ 9) ∧ lit t ∧ lits r
end
theorem len_app (a b : Str) : (a ++ b).length = a.length + b.length := by
  show (a.cps ++ b.cps).size = _
  rw [Array.size_append]
  rfl
theorem emp_app (a : Str) : Str.empty ++ a = a := by
  show (⟨#[] ++ a.cps⟩ : Str) = a
  simp
theorem num_len (n : Int) (h : small n) : (num n).length ≤ 2 := by
  have k : ∀ i : Fin 88, (num ((i.val : Int) - 8)).length ≤ 2 := by decide +kernel
  have := k ⟨(n + 8).toNat, by unfold small at h; omega⟩
  have e : (((n + 8).toNat : Nat) : Int) - 8 = n := by unfold small at h; omega
  rwa [e] at this
theorem num_ch (n : Int) (h : small n) : (num n).cps.all (· < 128) = true := by
  have k : ∀ i : Fin 88, (num ((i.val : Int) - 8)).cps.all (· < 128) = true := by decide +kernel
  have := k ⟨(n + 8).toNat, by unfold small at h; omega⟩
  have e : (((n + 8).toNat : Nat) : Int) - 8 = n := by unfold small at h; omega
  rwa [e] at this
theorem jn (s : Str) (l : List Str) : PySem.Txt.join s l = Str.join s l := _root_.TL.join_eq s l
def sumL (l : List Str) : Nat := (l.map (·.length)).sum
theorem join_len (s : Str) : ∀ l : List Str, (Str.join s l).length ≤ sumL l + l.length * s.length
  | [] => by simp [Str.join]; decide
  | [x] => by simp [Str.join, sumL]
  | x :: y :: l => by
    have := join_len s (y :: l)
    simp only [Str.join, len_app, sumL, List.map_cons, List.sum_cons, List.length_cons] at *
    rw [Nat.add_mul _ 1, Nat.one_mul]
    omega
theorem txts_len : ∀ bs : Trs, (txts bs).length = bs.len
  | .nil => rfl
  | .cons w t r => by simp [txts, Trs.len, txts_len r]
theorem small_w {w : Int} (h : 1 ≤ w ∧ w ≤ 9) : small w := ⟨by omega, by omega⟩
theorem l1 (s : String) (h : (s : Str).length = 1 := by decide +kernel) : (s : Str).length = 1 := h
mutual
theorem txt_len : ∀ t : Tr, lit t → (txt t).length + 4 ≤ 12 * siz t
  | .fin n, h => by
    have := num_len n h
    simp [txt, siz]
    omega
  | .stp n bs, h => by
    have a := num_len n h.1
    have b := txts_sum bs h.2.2.1
    have c := join_len (" " : Str) (txts bs)
    have e1 : ("[" : Str).length = 1 := by decide +kernel
    have e2 : ("]" : Str).length = 1 := by decide +kernel
    have e3 : (" " : Str).length = 1 := by decide +kernel
    simp only [txt, siz, len_app, emp_app, e1, e2, jn]
    rw [e3, Nat.mul_one, txts_len] at c
    omega
theorem txts_sum : ∀ bs : Trs, lits bs → sumL (txts bs) + bs.len ≤ 12 * sizs bs
  | .nil, h => by simp [txts, sumL, Trs.len]
  | .cons w t r, h => by
    have a := num_len w (small_w h.1)
    have b := txt_len t h.2.1
    have c := txts_sum r h.2.2
    have e1 : (":" : Str).length = 1 := by decide +kernel
    simp only [txts, sumL, List.map_cons, List.sum_cons, len_app, emp_app, e1, Trs.len, sizs] at *
    omega
end
theorem num_smallI (n : Int) (h : small n) : smallI n = true := by
  unfold smallI
  have : n.natAbs < 128 := by unfold small at h; omega
  have : n.natAbs.log2 < 7 := by
    by_cases h0 : n.natAbs = 0
    · rw [h0, Nat.log2_zero]; omega
    · exact (Nat.log2_lt h0).mpr (by omega)
  exact decide_eq_true (by omega)
mutual
theorem lit_ok : ∀ t : Tr, lit t → siz t ≤ 1000 → okT t
  | .fin n, h, _ => num_smallI n h
  | .stp n bs, h, hs => by
    have a := num_len n h.1
    have b := txts_sum bs h.2.2.1
    have c := join_len (" " : Str) (txts bs)
    have e1 : ("[" : Str).length = 1 := by decide +kernel
    have e2 : ("]" : Str).length = 1 := by decide +kernel
    have e3 : (" " : Str).length = 1 := by decide +kernel
    rw [e3, Nat.mul_one, txts_len] at c
    have e4 := txts_len bs
    simp only [siz] at hs
    have z : SZ = 16777216 := rfl
    simp only [sumL] at b c
    refine ⟨num_smallI n h.1, ?_, ?_, lits_ok bs h.2.2.1 (by omega), ?_, ?_, ?_, ?_⟩ <;> simp only [len_app, emp_app, e1, e2, e3, e4, jn, z] <;> omega
theorem lits_ok : ∀ bs : Trs, lits bs → sizs bs ≤ 1000 → okTs bs
  | .nil, _, _ => trivial
  | .cons w t r, h, hs => by
    have a := num_len w (small_w h.1)
    simp only [sizs] at hs
    have b := txt_len t h.2.1
    have e1 : (":" : Str).length = 1 := by decide +kernel
    have z : SZ = 16777216 := rfl
    refine ⟨num_smallI w (small_w h.1), ?_, ?_, lit_ok t h.2.1 (by omega), ?_, ?_, lits_ok r h.2.2 (by omega)⟩ <;> simp only [len_app, emp_app, e1, z] <;> omega
end
/-! signs -/
abbrev asc (x : Str) : Prop := x.cps.all (· < 128) = true
theorem asc_app {a b : Str} (h1 : asc a) (h2 : asc b) : asc (a ++ b) := by
  show (a.cps ++ b.cps).all _ = true
  rw [Array.all_append, h1, h2]
  rfl
theorem asc_join {s : Str} (hs : asc s) : ∀ l : List Str, (∀ x ∈ l, asc x) → asc (Str.join s l)
  | [], _ => by
    show asc Str.empty
    decide +kernel
  | [x], h => h x (by simp)
  | x :: y :: l, h => asc_app (asc_app (h x (by simp)) hs) (asc_join hs (y :: l) fun z hz => h z (by simp [hz]))
mutual
theorem txt_asc : ∀ t : Tr, lit t → asc (txt t)
  | .fin n, h => num_ch n h
  | .stp n bs, h => by
    simp only [txt, emp_app, jn]
    exact asc_app (asc_app (asc_app (num_ch n h.1) (by decide +kernel)) (asc_join (s := (" " : Str)) (by decide +kernel) _ (txts_asc bs h.2.2.1))) (by decide +kernel)
theorem txts_asc : ∀ bs : Trs, lits bs → ∀ x ∈ txts bs, asc x
  | .nil, h, x, hx => by simp [txts] at hx
  | .cons w t r, h, x, hx => by
    simp only [txts, List.mem_cons] at hx
    rcases hx with rfl | hx
    · simp only [emp_app]
      exact asc_app (asc_app (num_ch w (small_w h.1)) (by decide +kernel)) (txt_asc t h.2.1)
    · exact txts_asc r h.2.2 x hx
end
theorem asc_ok {x : Str} (h : asc x) : PyData.strOk x = true := by
  unfold asc at h
  unfold PyData.strOk
  rw [Array.all_eq_true] at *
  intro i hi
  have := h i hi
  simp at *
  omega
end Mi.P
end

section
set_option linter.all false
set_option maxRecDepth 100000
/-! Sp4: what stays in the heap; text_of. -/
namespace Mi.P
open PySem
/-- all old objects but those of S stay -/
def Kp (S : Nat → Prop) (h h' : Hea) : Prop := h.length ≤ h'.length ∧ ∀ j, j < h.length → ¬ S j → h'[j]? = h[j]?
abbrev Ex (h h' : Hea) : Prop := Kp (fun _ => False) h h'
theorem Kp.rfl {S : Nat → Prop} {h : Hea} : Kp S h h := ⟨Nat.le_refl _, fun _ _ _ => Eq.refl _⟩
theorem Kp.trans {S : Nat → Prop} {a b c : Hea} (x : Kp S a b) (y : Kp S b c) : Kp S a c := ⟨Nat.le_trans x.1 y.1, fun j hj hs => (y.2 j (Nat.lt_of_lt_of_le hj x.1) hs).trans (x.2 j hj hs)⟩
theorem Kp.app {S : Nat → Prop} (h t : Hea) : Kp S h (h ++ t) := ⟨by simp, fun j hj _ => List.getElem?_append_left hj⟩
theorem Kp.mono {S U : Nat → Prop} {a b : Hea} (x : Kp S a b) (i : ∀ j, j < a.length → S j → U j) : Kp U a b := ⟨x.1, fun j hj hs => x.2 j hj fun s => hs (i j hj s)⟩
theorem Kp.ex {S : Nat → Prop} {a b : Hea} (x : Ex a b) : Kp S a b := x.mono fun _ _ f => f.elim
theorem Kp.set {S : Nat → Prop} (h : Hea) (a : Nat) (o : O) (s : S a) : Kp S h (h.set a o) := ⟨by simp, fun j hj hs => by
  by_cases e : a = j
  · subst e; exact absurd s hs
  · rw [List.getElem?_set_ne e]⟩
theorem lt_of_get {h : Hea} {a : Nat} {o : O} (e : h[a]? = some o) : a < h.length := (List.getElem?_eq_some_iff.mp e).1
theorem Kp.get {S : Nat → Prop} {a b : Hea} (x : Kp S a b) {j : Nat} {o : O} (e : a[j]? = some o) (s : ¬ S j) : b[j]? = some o := (x.2 j (lt_of_get e) s).trans e
theorem Ex.get {a b : Hea} (x : Ex a b) {j : Nat} {o : O} (e : a[j]? = some o) : b[j]? = some o := Kp.get x e fun f => f
section
variable {G : GE} {Tb : Nat → Option FC}
mutual
theorem text_of_ok (tb2 : Tb 2 = some ⟨1, 1, c2⟩) (tb12 : Tb 12 = some ⟨3, 1, c12⟩) : ∀ (t : Tr) (k : Nat) (h : Hea), okT t → dep t ≤ k → ∃ h', callF G Tb (k + 2) 12 [enc t] h = .ok (.str (txt t)) h' ∧ Ex h h'
  | .fin n, k, h, ok, _ => ⟨h, by rw [text_fin tb2 tb12 n k h ok, txt], Kp.rfl⟩
  | .stp n bs, 0, h, ok, d => by simp [dep] at d
  | .stp n bs, k + 1, h, ok, d => by
    have d' : deps bs ≤ k := by simp only [dep] at d; omega
    obtain ⟨x, e, f⟩ := texts_ok tb2 tb12 bs k h ok.2.2.2.1 d' (some (enc (.stp n bs))) none none [] (by simpa using ok.2.2.2.2.1)
    exact ⟨_, text_stp tb2 tb12 n bs (k + 1) h ok x (by simpa using e), f.trans (Kp.app _ _)⟩
theorem texts_ok (tb2 : Tb 2 = some ⟨1, 1, c2⟩) (tb12 : Tb 12 = some ⟨3, 1, c12⟩) : ∀ (bs : Trs) (k : Nat) (h : Hea), okTs bs → deps bs ≤ k → ∀ (x y z : Option D) (acc : List D), acc.length + bs.len < SZ → ∃ h', lcL (.tp [1, 2]) (fun _ h => .ok (.bl true) h) (evE G (callF G Tb (k + 2)) itC) [x, y, z] (encs bs) acc h = .ok (acc ++ (txts bs).map D.str) h' ∧ Ex h h'
  | .nil, k, h, ok, d, x, y, z, acc, l => ⟨h, by simp [encs, lcL, txts], Kp.rfl⟩
  | .cons w t r, k, h, ok, d, x, y, z, acc, l => by
    obtain ⟨s1, s2, s3, s4, s5, s6, s7⟩ := ok
    simp only [deps] at d
    simp only [Trs.len] at l
    obtain ⟨h1, e1, f1⟩ := text_of_ok tb2 tb12 t k h s4 (by omega)
    obtain ⟨h2, e2, f2⟩ := texts_ok tb2 tb12 r k h1 s7 (by omega) x y z (acc ++ [.str (((Str.empty ++ num w) ++ (":" : Str)) ++ txt t)]) (by simp; omega)
    refine ⟨h2, ?_, f1.trans f2⟩
    have la : acc.length < SZ := by omega
    have fm : fmtD (.int w) = some (.str (num w)) := by simp [fmtD, s1, num]
    have ft : fmtD (.str (txt t)) = some (.str (txt t)) := by simp [fmtD, s5]
    have it : evE G (callF G Tb (k + 2)) itC [x, some (.int w), some (enc t)] h = .ok (.str (((Str.empty ++ num w) ++ (":" : Str)) ++ txt t)) h1 := by
      simp [itC, evE, evEs, evJ, fm, ft, shape, e1, s2, s3, s6]
    simp only [encs, lcL, bindT, seqD, Option.bind_some, List.length_cons, List.length_nil, if_true, setAll, List.set_cons_succ, List.set_cons_zero, noX_ok, Out.bind_ok, truD, it, la]
    rw [e2]
    simp [txts]
end
end
end Mi.P
end

section
set_option linter.all false
set_option maxRecDepth 100000
/-! Pw: the blocks of loops have names. Written by cut.py. -/
namespace Mi.P
open PySem
def c5l0e : CE := (.callk 4 [(.var 1)] [.inl 0])
theorem c5_w : c5 = [.ret (.and (.bi .isinst [(.var 0), (.lit (.ty "tuple"))]) (.and (.cmp2 .le .le (.lit (.int (1))) (.bi .len [(.var 0)]) (.lit (.int (5)))) (.bi .all [(.lc [1] (.nm 1) (.seq (.var 0)) (.lit (.bl true)) c5l0e)])))] := rfl
def c7l1e : CE := (.var 5)
def c7w0c : CE := (.cmp .lt (.var 3) (.bi .len [(.var 2)]))
def c7w0b : List CS := [.iff (.or (.cmp .ge (.var 3) (.lit (.int (15)))) (.not (.callk 6 [(.idx (.var 2) (.var 3)), (.var 1)] [.inl 0, .inl 1]))) [.ret (.lit (.bl false))] [], .iff (.not (.callk 2 [(.idx (.var 2) (.var 3))] [.inl 0])) [.exp (.bm .extend (.var 2) [(.lc [4, 5] (.tp [4, 5]) (.seq (.idx (.idx (.var 2) (.var 3)) (.lit (.int (2))))) (.lit (.bl true)) c7l1e)])] [], .aug 3 .add (.lit (.int (1)))]
theorem c7_w : c7 = [.asg 2 (.lst [(.var 0)]), .asg 3 (.lit (.int (0))), .whl c7w0c c7w0b, .ret (.lit (.bl true))] := rfl
def c8l1e : CE := (.tup [(.bin .add (.var 3) (.tup [(.bin .sub (.bin .sub (.var 5) (.lit (.int (1)))) (.var 6))])), (.idx (.idx (.idx (.var 4) (.lit (.int (2)))) (.bin .sub (.bin .sub (.var 5) (.lit (.int (1)))) (.var 6))) (.lit (.int (1))))])
def c8w0c : CE := (.cmp .gt (.bi .len [(.var 2)]) (.lit (.int (0))))
def c8w0b : List CS := [.asgT [3, 4] (.bm .pop (.var 2) []), .exp (.bm .append (.var 1) [(.tup [(.var 3), (.var 4)])]), .iff (.not (.callk 2 [(.var 4)] [.inl 0])) [.asg 5 (.bi .len [(.idx (.var 4) (.lit (.int (2))))]), .exp (.bm .extend (.var 2) [(.lc [6] (.nm 6) (.rng [(.var 5)]) (.lit (.bl true)) c8l1e)])] []]
theorem c8_w : c8 = [.asg 1 (.lst []), .asg 2 (.lst [(.tup [(.tup []), (.var 0)])]), .whl c8w0c c8w0b, .ret (.var 1)] := rfl
def c9l0c : CE := (.not (.callk 2 [(.var 2)] [.inl 0]))
def c9l0e : CE := (.var 1)
theorem c9_w : c9 = [.ret (.lc [1, 2] (.tp [1, 2]) (.seq (.callk 8 [(.var 0)] [.inl 0])) c9l0c c9l0e)] := rfl
def c10f0b : List CS := [.asg 0 (.idx (.idx (.idx (.var 0) (.lit (.int (2)))) (.var 2)) (.lit (.int (1))))]
theorem c10_w : c10 = [.fr (.nm 2) (.seq (.var 1)) c10f0b, .ret (.var 0)] := rfl
def c11f0b : List CS := [.iff (.or (.callk 2 [(.var 1)] [.inl 0]) (.not (.callk 1 [(.var 2), (.lit (.int (0))), (.bin .sub (.bi .len [(.idx (.var 1) (.lit (.int (2))))]) (.lit (.int (1))))] [.inl 0, .inl 1, .inl 2]))) [.ret (.lit (.bl false))] [], .asg 1 (.idx (.idx (.idx (.var 1) (.lit (.int (2)))) (.var 2)) (.lit (.int (1))))]
theorem c11_w : c11 = [.iff (.not (.bi .isinst [(.var 0), (.lit (.ty "tuple"))])) [.ret (.lit (.bl false))] [], .fr (.nm 2) (.seq (.var 0)) c11f0b, .ret (.lit (.bl true))] := rfl
def c12l0e : CE := (.fst [(.fmt (.var 1)), (.lit (.str (":" : Str))), (.fmt (.callk 12 [(.var 2)] [.inl 0]))])
theorem c12_w : c12 = [.iff (.callk 2 [(.var 0)] [.inl 0]) [.ret (.fmt (.idx (.var 0) (.lit (.int (1)))))] [], .ret (.bin .add (.bin .add (.fst [(.fmt (.idx (.var 0) (.lit (.int (1))))), (.lit (.str ("[" : Str)))]) (.bm .join (.lit (.str (" " : Str))) [(.lc [1, 2] (.tp [1, 2]) (.seq (.idx (.var 0) (.lit (.int (2))))) (.lit (.bl true)) c12l0e)])) (.lit (.str ("]" : Str))))] := rfl
def c15w0c : CE := (.and (.cmp .ne (.meth (.var 0) ("sign" : Str) [] [.inl 0]) (.lit (.str ("" : Str)))) (.cmp .in_ (.meth (.var 0) ("sign" : Str) [] [.inl 0]) (.lit (.str ("0123456789" : Str)))))
def c15w0b : List CS := [.augF (.var 0) ("spot" : Str) .add (.lit (.int (1)))]
theorem c15_w : c15 = [.asg 1 (.fld (.var 0) ("spot" : Str)), .iff (.cmp .eq (.meth (.var 0) ("sign" : Str) [] [.inl 0]) (.lit (.str ("-" : Str)))) [.augF (.var 0) ("spot" : Str) .add (.lit (.int (1)))] [], .whl c15w0c c15w0b, .asg 2 (.sliB (.fld (.var 0) ("signs" : Str)) (.var 1) (.fld (.var 0) ("spot" : Str))), .iff (.or (.cmp .in_ (.var 2) (.tup [(.lit (.str ("" : Str))), (.lit (.str ("-" : Str)))])) (.or (.cmp .gt (.bi .len [(.var 2)]) (.lit (.int (9)))) (.cmp .ne (.fmt (.bi .int [(.var 2)])) (.var 2)))) [.ret (.lit .non)] [], .ret (.bi .int [(.var 2)])] := rfl
def c18w0c : CE := (.and (.cmp .le (.fld (.var 0) ("depth" : Str)) (.lit (.int (15)))) (.meth (.var 0) ("went" : Str) [(.ite (.cmp .eq (.bi .len [(.var 2)]) (.lit (.int (0)))) (.lit (.str ("[" : Str))) (.lit (.str (" " : Str))))] [.inl 0, .inl 1]))
def c18w0b : List CS := [.asg 3 (.meth (.var 0) ("branch" : Str) [] [.inl 0]), .iff (.cmp .is (.var 3) (.lit .non)) [.ret (.lit .non)] [], .exp (.bm .append (.var 2) [(.var 3)])]
theorem c18_w : c18 = [.asg 1 (.meth (.var 0) ("number" : Str) [] [.inl 0]), .iff (.or (.cmp .is (.var 1) (.lit .non)) (.cmp .ne (.meth (.var 0) ("sign" : Str) [] [.inl 0]) (.lit (.str ("[" : Str))))) [.ret (.ite (.cmp .is (.var 1) (.lit .non)) (.lit .non) (.tup [(.lit (.str ("end" : Str))), (.var 1)]))] [], .asg 2 (.lst []), .augF (.var 0) ("depth" : Str) .add (.lit (.int (1))), .whl c18w0c c18w0b, .augF (.var 0) ("depth" : Str) .sub (.lit (.int (1))), .ret (.ite (.meth (.var 0) ("went" : Str) [(.lit (.str ("]" : Str)))] [.inl 0, .inl 1]) (.tup [(.lit (.str ("step" : Str))), (.var 1), (.bi .tuple [(.var 2)])]) (.lit .non))] := rfl
def c20l0e : CE := (.var 2)
theorem c20_w : c20 = [.iff (.not (.callk 7 [(.var 1), (.lit (.fn 3))] [.inl 0, .inl 1])) [.bad] [], .asgF (.var 0) ("root" : Str) (.var 1), .asgF (.var 0) ("words" : Str) (.callk 12 [(.var 1)] [.inl 0]), .asgF (.var 0) ("all_paths" : Str) (.bi .tuple [(.lc [2, 3] (.tp [2, 3]) (.seq (.callk 8 [(.var 1)] [.inl 0])) (.lit (.bl true)) c20l0e)]), .asgF (.var 0) ("step_paths" : Str) (.bi .tuple [(.callk 9 [(.var 1)] [.inl 0])])] := rfl
end Mi.P
end

section
set_option linter.all false
set_option maxRecDepth 100000
/-! Sp5: rules for loops; is_tree. -/
namespace Mi.P
open PySem
theorem ixN_nat (n i : Nat) (h : i < n) : L2.ixN n (i : Int) = some i := by
  unfold L2.ixN
  rw [if_pos (by omega), if_pos (by omega)]
  simp
theorem atI_nat {α : Type} (ds : List α) (i : Nat) (h : i < ds.length) : L2.atI ds (i : Int) = some ds[i] := by
  simp [L2.atI, ixN_nat ds.length i h, h]
theorem atI_app {α : Type} (a : List α) (x : α) (b : List α) : L2.atI (a ++ x :: b) (a.length : Int) = some x := by
  rw [atI_nat _ _ (by simp)]
  simp
theorem Kp.set_new {S : Nat → Prop} {h0 h : Hea} (x : Kp S h0 h) (r : Nat) (hr : h0.length ≤ r) (o : O) : Kp S h0 (h.set r o) := ⟨by simpa using x.1, fun j hj hs => by
  rw [List.getElem?_set_ne (by omega)]
  exact x.2 j hj hs⟩
theorem ss_nx {G : GE} {Φ : Orc} {s : CS} {ss : List CS} {σ σ1 : Loc} {h h1 : Hea} (e : evS G Φ s σ h = .ok (.nx σ1) h1) : evSs G Φ (s :: ss) σ h = evSs G Φ ss σ1 h1 := by
  simp [evSs, e]
theorem ss_rt {G : GE} {Φ : Orc} {s : CS} {ss : List CS} {σ : Loc} {d : D} {h h1 : Hea} (e : evS G Φ s σ h = .ok (.rt d) h1) : evSs G Φ (s :: ss) σ h = .ok (.rt d) h1 := by
  simp [evSs, e]
theorem whGo_inv (c : Loc → Hea → Out Bool) (b : Loc → Hea → Out Fl) (I : Nat → Loc → Hea → Prop) (Q : Loc → Hea → Prop)
    (step : ∀ n σ h, I n σ h → (c σ h = .ok false h ∧ Q σ h) ∨ ∃ h1, c σ h = .ok true h1 ∧ ∃ m σ2 h2, b σ h1 = .ok (.nx σ2) h2 ∧ m < n ∧ I m σ2 h2) :
    ∀ (fuel n : Nat) (σ : Loc) (h : Hea), n < fuel → I n σ h → ∃ σ' h', whGo c b fuel σ h = .ok (.nx σ') h' ∧ Q σ' h'
  | 0, n, σ, h, l, _ => by omega
  | fuel + 1, n, σ, h, l, i => by
    rcases step n σ h i with ⟨e, q⟩ | ⟨h1, e, m, σ2, h2, e2, hm, i2⟩
    · exact ⟨σ, h, by simp [whGo, e], q⟩
    · obtain ⟨σ', h', e', q⟩ := whGo_inv c b I Q step fuel m σ2 h2 (by omega) i2
      exact ⟨σ', h', by simp [whGo, e, e2, e'], q⟩
theorem lcGo_inv (g : Tg) (c e : Loc → Hea → Out D) (w : Src) (σ : Loc) (ds : List D) (I : Nat → List D → Hea → Prop) (hw : ∀ i acc h, I i acc h → srcAt h i w = some ds[i]?)
    (step : ∀ i (hi : i < ds.length) acc h, I i acc h → ∃ σ1 b h1 t, bindT h σ ds[i] g = some σ1 ∧ c σ1 h = .ok b h1 ∧ truD h1 b = some t ∧
      (t = true → ∃ d h2, e σ1 h1 = .ok d h2 ∧ acc.length < SZ ∧ I (i + 1) (acc ++ [d]) h2) ∧ (t = false → I (i + 1) acc h1)) :
    ∀ (k i : Nat) (acc : List D) (h : Hea), ds.length < i + k → i ≤ ds.length → I i acc h → ∃ acc' h', lcGo g c e w σ k i acc h = .ok acc' h' ∧ I ds.length acc' h'
  | 0, i, acc, h, l, l2, x => by omega
  | k + 1, i, acc, h, l, l2, x => by
    by_cases hi : i < ds.length
    · obtain ⟨σ1, b, h1, t, e1, e2, e3, s1, s2⟩ := step i hi acc h x
      cases t with
      | true =>
        obtain ⟨d, h2, e4, l4, x2⟩ := s1 rfl
        obtain ⟨acc', h', e5, x5⟩ := lcGo_inv g c e w σ ds I hw step k (i + 1) _ h2 (by omega) (by omega) x2
        exact ⟨acc', h', by simp [lcGo, hw i acc h x, List.getElem?_eq_getElem hi, e1, e2, e3, e4, l4, e5], x5⟩
      | false =>
        obtain ⟨acc', h', e5, x5⟩ := lcGo_inv g c e w σ ds I hw step k (i + 1) _ h1 (by omega) (by omega) (s2 rfl)
        exact ⟨acc', h', by simp [lcGo, hw i acc h x, List.getElem?_eq_getElem hi, e1, e2, e3, e5], x5⟩
    · have : i = ds.length := by omega
      subst this
      exact ⟨acc, h, by simp [lcGo, hw _ acc h x], x⟩
/-- a comprehension without a test -/
theorem lcGo_inv1 (g : Tg) (e : Loc → Hea → Out D) (w : Src) (σ : Loc) (ds : List D) (I : Nat → List D → Hea → Prop) (hw : ∀ i acc h, I i acc h → srcAt h i w = some ds[i]?)
    (step : ∀ i (hi : i < ds.length) acc h, I i acc h → ∃ σ1 d h2, bindT h σ ds[i] g = some σ1 ∧ e σ1 h = .ok d h2 ∧ acc.length < SZ ∧ I (i + 1) (acc ++ [d]) h2)
    (h : Hea) (l : ds.length < FUEL) (x : I 0 [] h) : ∃ acc' h', lcGo g (fun _ h => .ok (.bl true) h) e w σ FUEL 0 [] h = .ok acc' h' ∧ I ds.length acc' h' := by
  refine lcGo_inv g _ e w σ ds I hw (fun i hi acc h x => ?_) FUEL 0 [] h (by omega) (Nat.zero_le _) x
  obtain ⟨σ1, d, h2, e1, e2, l, x2⟩ := step i hi acc h x
  exact ⟨σ1, .bl true, h, true, e1, rfl, rfl, fun _ => ⟨d, h2, e2, l, x2⟩, fun f => by cases f⟩
theorem frGo_inv (g : Tg) (b : Loc → Hea → Out Fl) (w : Src) (ds : List D) (I : Nat → Loc → Hea → Prop) (hw : ∀ i σ h, I i σ h → srcAt h i w = some ds[i]?)
    (step : ∀ i (hi : i < ds.length) σ h, I i σ h → ∃ σ1 σ2 h2, bindT h σ ds[i] g = some σ1 ∧ b σ1 h = .ok (.nx σ2) h2 ∧ I (i + 1) σ2 h2) :
    ∀ (k i : Nat) (σ : Loc) (h : Hea), ds.length < i + k → i ≤ ds.length → I i σ h → ∃ σ' h', frGo g b w k i σ h = .ok (.nx σ') h' ∧ I ds.length σ' h'
  | 0, i, σ, h, l, l2, x => by omega
  | k + 1, i, σ, h, l, l2, x => by
    by_cases hi : i < ds.length
    · obtain ⟨σ1, σ2, h2, e1, e2, x2⟩ := step i hi σ h x
      obtain ⟨σ', h', e5, x5⟩ := frGo_inv g b w ds I hw step k (i + 1) σ2 h2 (by omega) (by omega) x2
      exact ⟨σ', h', by simp [frGo, hw i σ h x, List.getElem?_eq_getElem hi, e1, e2, e5], x5⟩
    · have : i = ds.length := by omega
      subst this
      exact ⟨σ, h, by simp [frGo, hw _ σ h x], x⟩
theorem bls_true : ∀ n : Nat, blsD (List.replicate n (.bl true)) = some (List.replicate n true)
  | 0 => rfl
  | n + 1 => by simp [List.replicate_succ, blsD, bls_true n]
section
variable {G : GE} {Tb : Nat → Option FC}
theorem is_pair_ok (tb1 : Tb 1 = some ⟨3, 3, c1⟩) (tb4 : Tb 4 = some ⟨1, 1, c4⟩) (k : Nat) (w : Int) (d : D) (hw : 1 ≤ w ∧ w ≤ 1000) (h : Hea) : callF G Tb (k + 2) 4 [.tup [.int w, d]] h = .ok (.bl true) h := by
  have e := is_between_int (G := G) tb1 k w 1 1000 h
  have i0 : L2.atI [D.int w, d] 0 = some (.int w) := by rfl
  have q : eqD h (.int 2) (.int 2) = some true := by rfl
  show callF G Tb ((k + 1) + 1) 4 _ h = _
  unfold callF
  simp [tb4, runF, c4, evSs, evS, evE, evEs, Mi.begin, shape, e, callX, callB, fIsinst, isinstD, plainTy, tyD, asD, truD, fLen, lenD, cmpX, ownEq, insAt, cmpG, opC, q, idxD, i0, hw.1, hw.2]
theorem are_branches_ok (tb1 : Tb 1 = some ⟨3, 3, c1⟩) (tb4 : Tb 4 = some ⟨1, 1, c4⟩) (tb5 : Tb 5 = some ⟨2, 1, c5⟩) (k : Nat) (bs : Trs) (hl : lits bs) (h1 : 1 ≤ bs.len) (h5 : bs.len ≤ 5) (h : Hea) : ∃ h', callF G Tb (k + 3) 5 [.tup (encs bs)] h = .ok (.bl true) h' ∧ Ex h h' := by
  have el := encs_len bs
  have key : ∀ i (hi : i < (encs bs).length) (h : Hea), callF G Tb (k + 2) 4 [(encs bs)[i]] h = .ok (.bl true) h := by
    clear h1 h5 el
    intro i
    induction bs using Trs.rec (motive_1 := fun _ => True) generalizing i with
    | fin => trivial
    | stp => trivial
    | nil => intro hi; simp [encs] at hi
    | cons w t r _ ih =>
      intro hi h
      cases i with
      | zero => exact is_pair_ok tb1 tb4 k w (enc t) ⟨hl.1.1, by have := hl.1.2; omega⟩ h
      | succ j => exact ih hl.2.2 j (by simpa [encs] using hi) h
  have z : SZ = 16777216 := rfl
  have f : FUEL = 18446744073709551616 := rfl
  obtain ⟨acc, h', e, a1, a2⟩ := lcGo_inv1 (.nm 1) (evE G (callF G Tb (k + 2)) c5l0e) (.fix (encs bs)) [some (.tup (encs bs)), none] (encs bs) (fun i acc h' => acc = List.replicate i (.bl true) ∧ h' = h) (fun _ _ _ _ => rfl)
    (fun i hi acc h' x => ⟨_, .bl true, h', rfl, by simp [c5l0e, evE, evEs, shape, hi, key], by rw [x.1, List.length_replicate]; omega, by rw [x.1, List.replicate_succ'], x.2⟩) h (by omega) ⟨rfl, rfl⟩
  subst a1 a2
  refine ⟨h' ++ [.lst (List.replicate (encs bs).length (.bl true))], ?_, Kp.app _ _⟩
  have n1 : (1 : Int) ≤ ((encs bs).length : Nat) := by omega
  have n5 : (((encs bs).length : Nat) : Int) ≤ 5 := by omega
  show callF G Tb ((k + 2) + 1) 5 _ h' = _
  unfold callF
  simp [tb5, runF, c5_w, evSs, evS, evE, evEs, evI, walkD, wipeL, Mi.begin, callX, callB, fIsinst, isinstD, plainTy, tyD, asD, truD, fLen, lenD, cmpG, opC, n1, n5, e, new, fAll, listD, rdL, bls_true]
theorem is_node_ok (tb1 : Tb 1 = some ⟨3, 3, c1⟩) (tb3 : Tb 3 = some ⟨1, 1, c3⟩) (tb4 : Tb 4 = some ⟨1, 1, c4⟩) (tb5 : Tb 5 = some ⟨2, 1, c5⟩) (ok : Nat → Nat → Bool) (o1 : ok 1 3 = true) (tb6 : Tb 6 = some ⟨2, 2, c6 ok⟩) (k : Nat) (t : Tr) (hl : lit t) (h : Hea) : ∃ h', callF G Tb (k + 4) 6 [enc t, .fn 3] h = .ok (.bl true) h' ∧ Ex h h' := by
  cases t with
  | fin n =>
    have hs : small n := hl
    have e := is_between_int (G := G) tb1 (k + 2) n (-1000000) 1000000 h
    have b1 : (-1000000 : Int) ≤ n := by unfold small at hs; omega
    have b2 : n ≤ 1000000 := by unfold small at hs; omega
    simp only [b1, b2, decide_true, Bool.and_self] at e
    have i0 : L2.atI [D.str "end", D.int n] 0 = some (.str "end") := by rfl
    have i1 : L2.atI [D.str "end", D.int n] 1 = some (.int n) := by rfl
    have q : eqD h (.int 2) (.int 2) = some true := by rfl
    refine ⟨h, ?_, Kp.rfl⟩
    show callF G Tb ((k + 3) + 1) 6 _ h = _
    unfold callF
    simp [tb6, runF, c6, enc, evSs, evS, evE, evEs, Mi.begin, shape, e, callX, callB, fIsinst, isinstD, plainTy, tyD, asD, truD, fLen, lenD, cmpX, ownEq, insAt, cmpG, opC, q, idxD, i0, i1, eqD_str, ok_end]
  | stp n bs =>
    obtain ⟨hs, n0, hb, l3, l1⟩ := hl
    obtain ⟨h', e5, x5⟩ := are_branches_ok (G := G) tb1 tb4 tb5 k bs hb l1 (by omega) h
    have e3 := is_cost_ok (G := G) tb1 tb3 (k + 1) n h
    have b2 : n ≤ 1000000 := by unfold small at hs; omega
    simp only [n0, b2, decide_true, Bool.and_self] at e3
    have i0 : L2.atI [D.str "step", D.int n, D.tup (encs bs)] 0 = some (.str "step") := by rfl
    have i1 : L2.atI [D.str "step", D.int n, D.tup (encs bs)] 1 = some (.int n) := by rfl
    have i2 : L2.atI [D.str "step", D.int n, D.tup (encs bs)] 2 = some (.tup (encs bs)) := by rfl
    have q : eqD h (.int 3) (.int 3) = some true := by rfl
    have ne : ¬ (("step" : Str) = ("end" : Str)) := by decide +kernel
    refine ⟨h', ?_, x5⟩
    show callF G Tb ((k + 3) + 1) 6 _ h = _
    unfold callF
    simp [tb6, runF, c6, enc, evSs, evS, evE, evEs, Mi.begin, shape, e3, e5, o1, callX, callB, fIsinst, isinstD, plainTy, tyD, asD, truD, fLen, lenD, cmpX, ownEq, insAt, cmpG, opC, q, idxD, i0, i1, i2, eqD_str, ok_end, ok_step, ne]
end
end Mi.P
end

section
set_option linter.all false
set_option maxRecDepth 100000
/-! Sp6: is_tree. -/
namespace Mi.P
open PySem
def Trs.list : Trs → List Tr
  | .nil => []
  | .cons _ t r => t :: r.list
def sizL (l : List Tr) : Nat := (l.map siz).sum
theorem sizs_list : ∀ bs : Trs, sizs bs = sizL bs.list
  | .nil => rfl
  | .cons w t r => by simp [sizs, Trs.list, sizL, sizs_list r]
theorem lits_list : ∀ bs : Trs, lits bs → ∀ u ∈ bs.list, lit u
  | .nil, _, u, hu => by simp [Trs.list] at hu
  | .cons w t r, h, u, hu => by
    simp only [Trs.list, List.mem_cons] at hu
    rcases hu with rfl | hu
    · exact h.2.1
    · exact lits_list r h.2.2 u hu
theorem list_len : ∀ bs : Trs, bs.list.length = bs.len
  | .nil => rfl
  | .cons w t r => by simp [Trs.list, Trs.len, list_len r]
section
variable {G : GE} {Tb : Nat → Option FC}
/-- [tree for weight, tree in branches] -/
theorem kids_ok (Φ : Orc) (a b c d : Option D) : ∀ (bs : Trs) (x y : Option D) (acc : List D) (h : Hea), acc.length + bs.len < SZ → lcL (.tp [4, 5]) (fun _ h => .ok (.bl true) h) (evE G Φ c7l1e) [a, b, c, d, x, y] (encs bs) acc h = .ok (acc ++ bs.list.map enc) h
  | .nil, x, y, acc, h, l => by simp [encs, lcL, Trs.list]
  | .cons w t r, x, y, acc, h, l => by
    simp only [Trs.len] at l
    have la : acc.length < SZ := by omega
    have ih := kids_ok Φ a b c d r x y (acc ++ [enc t]) h (by simp; omega)
    have it : evE G Φ c7l1e [a, b, c, d, some (.int w), some (enc t)] h = .ok (enc t) h := by simp [c7l1e, evE]
    simp only [encs, lcL, bindT, seqD, Option.bind_some, List.length_cons, List.length_nil, if_true, setAll, List.set_cons_succ, List.set_cons_zero, noX_ok, Out.bind_ok, truD, it, la]
    rw [ih]
    simp [Trs.list]
structure TreeTb (Tb : Nat → Option FC) (ok : Nat → Nat → Bool) : Prop where
  t1 : Tb 1 = some ⟨3, 3, c1⟩
  t2 : Tb 2 = some ⟨1, 1, c2⟩
  t3 : Tb 3 = some ⟨1, 1, c3⟩
  t4 : Tb 4 = some ⟨1, 1, c4⟩
  t5 : Tb 5 = some ⟨2, 1, c5⟩
  t6 : Tb 6 = some ⟨2, 2, c6 ok⟩
  t7 : Tb 7 = some ⟨6, 2, c7⟩
  t8 : Tb 8 = some ⟨7, 1, c8⟩
  t9 : Tb 9 = some ⟨3, 1, c9⟩
  t10 : Tb 10 = some ⟨3, 2, c10⟩
  t11 : Tb 11 = some ⟨3, 2, c11⟩
  t12 : Tb 12 = some ⟨3, 1, c12⟩
  o1 : ok 1 3 = true
variable {ok : Nat → Nat → Bool}
theorem is_tree_ok (B : TreeTb Tb ok) (k : Nat) (t : Tr) (hl : lit t) (hs : siz t ≤ 15) (h : Hea) : ∃ h', callF G Tb (k + 5) 7 [enc t, .fn 3] h = .ok (.bl true) h' ∧ Ex h h' := by
  have z : SZ = 16777216 := rfl
  have f : FUEL = 18446744073709551616 := rfl
  let I : Nat → Loc → Hea → Prop := fun n σ h' => ∃ (done rest : List Tr) (x y : Option D), σ = [some (enc t), some (.fn 3), some (.ref h.length), some (.int done.length), x, y] ∧
    h'[h.length]? = some (.lst ((done ++ rest).map enc)) ∧ (∀ u ∈ rest, lit u) ∧ done.length + sizL rest ≤ 15 ∧ n = sizL rest ∧ Ex h h'
  have step : ∀ n σ h', I n σ h' → ((fun s k' => (evE G (callF G Tb (k + 4)) c7w0c s k').bind fun x k1 => asD x k1) σ h' = .ok false h' ∧ (∃ x, σ = x) ∧ Ex h h') ∨ ∃ h1, (fun s k' => (evE G (callF G Tb (k + 4)) c7w0c s k').bind fun x k1 => asD x k1) σ h' = .ok true h1 ∧ ∃ m σ2 h2, evSs G (callF G Tb (k + 4)) c7w0b σ h1 = .ok (.nx σ2) h2 ∧ m < n ∧ I m σ2 h2 := by
    rintro n σ h' ⟨done, rest, x, y, rfl, hg, hu, hn, rfl, hx⟩
    cases rest with
    | nil =>
      left
      refine ⟨?_, ⟨_, rfl⟩, hx⟩
      have e : (((done ++ ([] : List Tr)).map enc).length : Int) = done.length := by simp
      simp [c7w0c, evE, evEs, callX, callB, fLen, lenD, hg, cmpX, ownEq, cmpG, opC, asD, truD]
    | cons u rest =>
      right
      have sp := siz_pos u
      have hn' : done.length + (siz u + sizL rest) ≤ 15 := by simpa [sizL] using hn
      have i0 : L2.atI (List.map enc (done ++ u :: rest)) (done.length : Int) = some (enc u) := by
        have := atI_app (done.map enc) (enc u) (rest.map enc)
        simpa using this
      have lt : (done.length : Int) < ((List.map enc (done ++ u :: rest)).length : Nat) := by simp; omega
      have g15 : ¬ ((15 : Int) ≤ (done.length : Int)) := by omega
      refine ⟨h', ?_, ?_⟩
      · simp [c7w0c, evE, evEs, callX, callB, fLen, lenD, hg, cmpX, ownEq, cmpG, opC, asD, truD]
        omega
      · obtain ⟨h1, e6, x6⟩ := is_node_ok (G := G) B.t1 B.t3 B.t4 B.t5 ok B.o1 B.t6 k u (hu u (by simp)) h'
        have e2 := is_end_ok (G := G) B.t2 (k + 3) u h1
        have hg1 := Ex.get x6 hg
        have hg1' := (List.getElem?_eq_some_iff.mp hg1).2
        have s1 : evS G (callF G Tb (k + 4)) (.iff (.or (.cmp .ge (.var 3) (.lit (.int (15)))) (.not (.callk 6 [(.idx (.var 2) (.var 3)), (.var 1)] [.inl 0, .inl 1]))) [.ret (.lit (.bl false))] []) [some (enc t), some (.fn 3), some (.ref h.length), some (.int done.length), x, y] h' = .ok (.nx [some (enc t), some (.fn 3), some (.ref h.length), some (.int done.length), x, y]) h1 := by
          simp only [evS, evE, evEs, List.getElem?_cons_succ, List.getElem?_cons_zero, Out.bind_ok, cmpX, ownEq, cmpG, opC, decide_eq_false g15, Option.map_some, lift_some, asD, truD, Bool.false_eq_true, if_false, idxD, rdL, hg, Option.bind_some, i0, shape, Option.map_some, e6, Bool.not_true, evSs]
        cases hu2 : u with
        | fin n =>
          subst hu2
          refine ⟨sizL rest, _, h1, ?_, ?_, done ++ [.fin n], rest, x, y, rfl, by simpa using hg1, fun v hv => hu v (by simp [hv]), ?_, rfl, hx.trans x6⟩
          · unfold c7w0b
            rw [ss_nx s1]
            simp [evSs, evS, evE, evEs, idxD, rdL, hg1, hg1', i0, shape, e2, asD, truD, Tr.isFin, augD]
            simp [List.map_append] at i0
            simp [i0, e2, Tr.isFin]
          · simp [sizL]; omega
          · simp [siz] at hn'; simp; omega
        | stp n bs =>
          subst hu2
          have lb : lit (.stp n bs) := hu _ (by simp)
          have hb := sizs_list bs
          simp only [siz] at hn' sp
          have kl : bs.len ≤ 3 := lb.2.2.2.1
          have kd := kids_ok (G := G) (callF G Tb (k + 4)) (some (enc t)) (some (.fn 3)) (some (.ref h.length)) (some (.int done.length)) bs none none [] h1 (by simp; omega)
          have el := encs_len bs
          have lc : lcGo (.tp [4, 5]) (fun _ h => .ok (.bl true) h) (evE G (callF G Tb (k + 4)) c7l1e) (.fix (encs bs)) [some (enc t), some (.fn 3), some (.ref h.length), some (.int done.length), none, none] FUEL 0 [] h1 = .ok (bs.list.map enc) h1 := by
            rw [lcGo_all _ _ _ _ _ _ (by omega), kd]
            rfl
          have i2 : L2.atI [D.str "step", D.int n, D.tup (encs bs)] 2 = some (.tup (encs bs)) := by rfl
          have dl : done.length + (rest.length + 1) + bs.list.length ≤ SZ := by
            have : rest.length ≤ sizL rest := by
              clear hu hn hn' i0 lt hg hg1 hg1' s1 kd lc
              induction rest with
              | nil => simp
              | cons v r ih => have := siz_pos v; simp [sizL] at *; omega
            rw [list_len]
            omega
          refine ⟨sizs bs + sizL rest, _, (h1 ++ [O.lst (bs.list.map enc)]).set h.length (O.lst ((done ++ Tr.stp n bs :: rest).map enc ++ bs.list.map enc)), ?_, ?_, done ++ [.stp n bs], rest ++ bs.list, x, y, rfl, ?_, ?_, ?_, ?_, ?_⟩
          · unfold c7w0b
            rw [ss_nx s1]
            have hlt : h.length < h1.length := lt_of_get hg1
            have hgA : (h1 ++ [O.lst (bs.list.map enc)])[h.length]? = some (.lst ((done ++ .stp n bs :: rest).map enc)) := by rw [List.getElem?_append_left hlt]; exact hg1
            have hgB : (h1 ++ [O.lst (bs.list.map enc)])[h1.length]? = some (.lst (bs.list.map enc)) := by simp
            have ee : enc (.stp n bs) = .tup [.str "step", .int n, .tup (encs bs)] := by simp [enc]
            rw [ee] at e2 i0
            have lx : ((done ++ Tr.stp n bs :: rest).map enc).length + (bs.list.map enc).length ≤ SZ := by
              simp only [List.length_map, List.length_append, List.length_cons]; omega
            have s2 : evS G (callF G Tb (k + 4)) (.iff (.not (.callk 2 [(.idx (.var 2) (.var 3))] [.inl 0])) [.exp (.bm .extend (.var 2) [(.lc [4, 5] (.tp [4, 5]) (.seq (.idx (.idx (.var 2) (.var 3)) (.lit (.int (2))))) (.lit (.bl true)) c7l1e)])] []) [some (enc t), some (.fn 3), some (.ref h.length), some (.int done.length), x, y] h1 = .ok (.nx [some (enc t), some (.fn 3), some (.ref h.length), some (.int done.length), x, y]) ((h1 ++ [O.lst (bs.list.map enc)]).set h.length (O.lst ((done ++ Tr.stp n bs :: rest).map enc ++ bs.list.map enc))) := by
              simp only [evS, evSs, evE, evEs, evI, List.getElem?_cons_succ, List.getElem?_cons_zero, Out.bind_ok, idxD, rdL, hg1, Option.bind_some, i0, shape, Option.map_some, e2, asD, truD, lift_some, Tr.isFin, Bool.not_false, if_true, recv, listD, Option.isSome_some, i2, walkD, wipeL, List.set_cons_succ, List.set_cons_zero, lc, new, callM, gExtend, hgA, hgB, lx]
            rw [ss_nx s2]
            simp [evSs, evS, evE, augD]
          · simp [sizL, siz]
          · rw [List.getElem?_set_self (by simp; have := lt_of_get hg1; omega)]
            simp
          · intro v hv
            rcases List.mem_append.mp hv with hv | hv
            · exact hu v (by simp [hv])
            · exact lits_list bs lb.2.2.1 v hv
          · simp [sizL] at *
            omega
          · simp [sizL] at *
            omega
          · exact (hx.trans (x6.trans (Kp.app _ _))).set_new _ (Nat.le_refl _) _
  obtain ⟨σ', h', e, _, hx⟩ := whGo_inv _ _ I (fun σ h' => (∃ x, σ = x) ∧ Ex h h') step FUEL (sizL [t]) _ (h ++ [.lst [enc t]]) (by simp [sizL]; omega)
    ⟨[], [t], none, none, rfl, by simp, by simpa using hl, by simpa [sizL] using hs, rfl, Kp.app _ _⟩
  refine ⟨h', ?_, hx⟩
  show callF G Tb ((k + 4) + 1) 7 _ h = _
  unfold callF
  have e1 : (1 : Nat) ≤ SZ := by omega
  simp only [List.length_nil] at e
  simp [B.t7, runF, c7_w, Mi.begin, evSs, evS, evE, evEs, new, e1, List.replicate, e]
  have := e
  simp at this
  simp [this]
end
end Mi.P
end

section
set_option linter.all false
set_option maxRecDepth 100000
/-! Sp7: nodes_of. -/
namespace Mi.P
open PySem
def encPN (x : List Nat × Tr) : D := .tup [pthD x.1, enc x.2]
def kp (p : List Nat) : Trs → Nat → List (List Nat × Tr)
  | .nil, _ => []
  | .cons _ t r, k => (p ++ [k], t) :: kp p r (k + 1)
theorem kp_len (p : List Nat) : ∀ (bs : Trs) (k : Nat), (kp p bs k).length = bs.len
  | .nil, _ => rfl
  | .cons _ t r, k => by simp [kp, Trs.len, kp_len p r]
theorem nds_kp (p : List Nat) : ∀ (bs : Trs) (k : Nat), nds bs p k = (kp p bs k).flatMap fun x => nd x.2 x.1
  | .nil, _ => rfl
  | .cons _ t r, k => by simp [nds, kp, nds_kp p r]
theorem kp_get (p : List Nat) : ∀ (bs : Trs) (k j : Nat) (hj : j < (kp p bs k).length), ∃ w t, (encs bs)[j]? = some (.tup [.int w, enc t]) ∧ (kp p bs k)[j] = (p ++ [k + j], t)
  | .nil, _, j, hj => by simp [kp] at hj
  | .cons w t r, k, 0, hj => ⟨w, t, by simp [encs], by simp [kp]⟩
  | .cons w t r, k, j + 1, hj => by
    obtain ⟨w', t', e1, e2⟩ := kp_get p r (k + 1) j (by simpa [kp] using hj)
    refine ⟨w', t', by simpa [encs] using e1, ?_⟩
    simp only [kp, List.getElem_cons_succ, e2]
    congr 3
    omega
def sizP (l : List (List Nat × Tr)) : Nat := (l.map fun x => siz x.2).sum
theorem sizP_kp (p : List Nat) : ∀ (bs : Trs) (k : Nat), sizP (kp p bs k) = sizs bs
  | .nil, _ => rfl
  | .cons _ t r, k => by
    have := sizP_kp p r (k + 1)
    simp only [sizP] at this
    simp [sizP, kp, sizs, this]
theorem kp_dep (p : List Nat) : ∀ (bs : Trs) (k : Nat) (x : List Nat × Tr), x ∈ kp p bs k → x.1.length + siz x.2 ≤ p.length + sizs bs + 1
  | .nil, _, x, hx => by simp [kp] at hx
  | .cons _ t r, k, x, hx => by
    simp only [kp, List.mem_cons] at hx
    rcases hx with rfl | hx
    · simp [sizs]; omega
    · have := kp_dep p r (k + 1) x hx
      simp [sizs]; omega
theorem sizP_len (l : List (List Nat × Tr)) : l.length ≤ sizP l := by
  induction l with
  | nil => simp
  | cons v r ih => have := siz_pos v.2; simp [sizP] at *; omega
section
variable {G : GE} {Tb : Nat → Option FC} {ok : Nat → Nat → Bool}
theorem small_R {i : Int} (h0 : 0 ≤ i) (h1 : i ≤ 1000000) : smallR i = true := by
  have : (2:Int)^62 = 4611686018427387904 := by decide
  simp only [smallR, this, Bool.and_eq_true, decide_eq_true_eq]; omega
theorem revK_ok (Φ : Orc) (a b c d : Option D) (n : Int) (p : List Nat) (bs : Trs) (z : Option D) (hp : p.length + 1 ≤ SZ) (hb : bs.len < SZ) (h : Hea) :
    lcGo (.nm 6) (fun _ h => .ok (.bl true) h) (evE G Φ c8l1e) (.fix (rngD 0 bs.len 1)) [a, b, c, some (pthD p), some (.tup [.str "step", .int n, .tup (encs bs)]), some (.int bs.len), z] FUEL 0 [] h = .ok ((kp p bs 0).reverse.map encPN) h := by
  have f : FUEL = 18446744073709551616 := rfl
  have zz : SZ = 16777216 := rfl
  have rl : (rngD 0 bs.len 1).length = bs.len := by simp [rngD]
  have kl := kp_len p bs 0
  obtain ⟨acc, h', e, a1, a2⟩ := lcGo_inv1 (.nm 6) (evE G Φ c8l1e) (.fix (rngD 0 bs.len 1)) [a, b, c, some (pthD p), some (.tup [.str "step", .int n, .tup (encs bs)]), some (.int bs.len), z] (rngD 0 bs.len 1)
    (fun i acc h' => acc = ((kp p bs 0).reverse.take i).map encPN ∧ h' = h) (fun _ _ _ _ => rfl)
    (fun i hi acc h' x => by
      rw [rl] at hi
      obtain ⟨w, t, g1, g2⟩ := kp_get p bs 0 (bs.len - 1 - i) (by omega)
      have er : (rngD 0 bs.len 1)[i]'(by rw [rl]; exact hi) = .int i := by simp [rngD]
      have ei : ((bs.len : Nat) : Int) - 1 - (i : Int) = ((bs.len - 1 - i : Nat) : Int) := by omega
      have i2 : L2.atI [D.str "step", D.int n, D.tup (encs bs)] 2 = some (.tup (encs bs)) := by rfl
      have i3 : L2.atI (encs bs) ((bs.len - 1 - i : Nat) : Int) = some (.tup [.int w, enc t]) := by
        obtain ⟨l, e⟩ := List.getElem?_eq_some_iff.mp g1
        rw [atI_nat _ _ l, e]
      have i4 : L2.atI [D.int w, enc t] 1 = some (enc t) := by rfl
      refine ⟨_, encPN (p ++ [bs.len - 1 - i], t), h', rfl, ?_, ?_, ?_, x.2⟩
      · rw [er]
        simp [c8l1e, evE, evEs, pthD, opB, opSub, opAdd, ei, idxD, i2, i3, i4, hp, encPN, iD, (by omega : 1 ≤ SZ), (by omega : 2 ≤ SZ)]
      · rw [x.1]; simp; omega
      · rw [x.1]
        have : ((kp p bs 0).reverse)[i]? = some (p ++ [bs.len - 1 - i], t) := by
          rw [List.getElem?_reverse (by omega), kl, List.getElem?_eq_getElem (by omega), g2]
          simp
        rw [List.take_add_one, this]
        simp)
    h (by omega) ⟨by simp, rfl⟩
  rw [e, a1, a2, rl, ← kl]
  rw [List.take_of_length_le (by simp)]
theorem evI_rng1 (Φ : Orc) (m : Nat) (sr : smallR (m : Int) = true) (h h2 : Hea) (es : List CE) (σ : Loc) (e : evEs G Φ es σ h = .ok [.int (m : Int)] h2) : evI G Φ (.rng es) σ h = .ok (Src.fix (rngD 0 m 1)) h2 := by
  have tn : ((m : Nat) : Int).toNat = m := by omega
  rw [evI, e, Out.bind_ok]
  simp only
  rw [if_pos sr, tn]
theorem nodes_lc (Φ : Orc) (a : Option D) (f : Nat) (h2 : Hea) (n : Int) (p : List Nat) (bs : Trs) (x6 : Option D) (sr : smallR (bs.len : Int) = true)
    (rk : lcGo (.nm 6) (fun _ h => .ok (.bl true) h) (evE G Φ c8l1e) (.fix (rngD 0 bs.len 1)) [a, some (.ref f), some (.ref (f + 1)), some (pthD p), some (.tup [.str "step", .int n, .tup (encs bs)]), some (.int bs.len), none] FUEL 0 [] h2 = .ok ((kp p bs 0).reverse.map encPN) h2) :
    evE G Φ (.lc [6] (.nm 6) (.rng [(.var 5)]) (.lit (.bl true)) c8l1e) [a, some (.ref f), some (.ref (f + 1)), some (pthD p), some (.tup [.str "step", .int n, .tup (encs bs)]), some (.int bs.len), x6] h2 = .ok (.ref h2.length) (h2 ++ [.lst ((kp p bs 0).reverse.map encPN)]) := by
  rw [evE, evI_rng1 Φ bs.len sr h2 h2 _ _ (by simp [evEs, evE]), Out.bind_ok]
  simp only [evE, wipeL, List.set_cons_succ, List.set_cons_zero]
  rw [rk]
  rfl
theorem nodes_stp (Φ : Orc) (a : Option D) (f : Nat) (h2 : Hea) (n : Int) (p : List Nat) (bs : Trs) (todo : List (List Nat × Tr)) (x5 x6 : Option D)
    (e2 : Φ 2 [.tup [.str "step", .int n, .tup (encs bs)]] h2 = .ok (.bl (Tr.stp n bs).isFin) h2) (hl2 : h2[f + 1]? = some (.lst (todo.reverse.map encPN)))
    (rk : lcGo (.nm 6) (fun _ h => .ok (.bl true) h) (evE G Φ c8l1e) (.fix (rngD 0 bs.len 1)) [a, some (.ref f), some (.ref (f + 1)), some (pthD p), some (.tup [.str "step", .int n, .tup (encs bs)]), some (.int bs.len), none] FUEL 0 [] h2 = .ok ((kp p bs 0).reverse.map encPN) h2)
    (kl : (kp p bs 0).length = bs.len) (sr : smallR (bs.len : Int) = true) (lx : (todo.reverse.map encPN).length + ((kp p bs 0).reverse.map encPN).length ≤ SZ) :
    evSs G Φ [.iff (.not (.callk 2 [(.var 4)] [.inl 0])) [.asg 5 (.bi .len [(.idx (.var 4) (.lit (.int (2))))]), .exp (.bm .extend (.var 2) [(.lc [6] (.nm 6) (.rng [(.var 5)]) (.lit (.bl true)) c8l1e)])] []] [a, some (.ref f), some (.ref (f + 1)), some (pthD p), some (.tup [.str "step", .int n, .tup (encs bs)]), x5, x6] h2 =
      .ok (.nx [a, some (.ref f), some (.ref (f + 1)), some (pthD p), some (.tup [.str "step", .int n, .tup (encs bs)]), some (.int bs.len), x6]) ((h2 ++ [O.lst ((kp p bs 0).reverse.map encPN)]).set (f + 1) (O.lst (todo.reverse.map encPN ++ (kp p bs 0).reverse.map encPN))) := by
  have l2 : f + 1 < h2.length := lt_of_get hl2
  have hlA : (h2 ++ [O.lst ((kp p bs 0).reverse.map encPN)])[f + 1]? = some (.lst (todo.reverse.map encPN)) := by rw [List.getElem?_append_left l2]; exact hl2
  have hlB : (h2 ++ [O.lst ((kp p bs 0).reverse.map encPN)])[h2.length]? = some (.lst ((kp p bs 0).reverse.map encPN)) := by simp
  have i2 : L2.atI [D.str "step", D.int n, D.tup (encs bs)] 2 = some (.tup (encs bs)) := by rfl
  have lc := nodes_lc Φ a f h2 n p bs x6 sr rk
  generalize CE.lc [6] (.nm 6) (.rng [(.var 5)]) (.lit (.bl true)) c8l1e = L at lc ⊢
  simp only [evSs, evS, evE, evEs, List.getElem?_cons_succ, List.getElem?_cons_zero, Out.bind_ok, shape, Option.bind_some, Option.map_some, e2, asD, truD, lift_some, Tr.isFin, Bool.not_false, if_true, idxD, i2, callX, callB, fLen, lenD, encs_len, List.set_cons_succ, List.set_cons_zero, recv, listD, rdL, hl2, Option.isSome_some, lc, callM, gExtend, hlA, hlB, lx]
theorem nodes_end (B : TreeTb Tb ok) (k : Nat) (t : Tr) (h h' : Hea) (x3 x4 x5 x6 : Option D) (e : whGo (fun s k' => (evE G (callF G Tb (k + 1)) c8w0c s k').bind fun x k1 => asD x k1) (evSs G (callF G Tb (k + 1)) c8w0b) FUEL [some (enc t), some (.ref h.length), some (.ref (h.length + 1)), none, none, none, none] (h ++ [.lst []] ++ [.lst [encPN ([], t)]]) = .ok (.nx [some (enc t), some (.ref h.length), some (.ref (h.length + 1)), x3, x4, x5, x6]) h') :
    callF G Tb (k + 2) 8 [enc t] h = .ok (.ref h.length) h' := by
  have z : SZ = 16777216 := rfl
  show callF G Tb ((k + 1) + 1) 8 _ h = _
  unfold callF
  have e1 : (1 : Nat) ≤ SZ := by omega
  have e2 : (2 : Nat) ≤ SZ := by omega
  have e0 : (0 : Nat) ≤ SZ := by omega
  have pn : pthD [] = .tup [] := rfl
  simp only [encPN, pn] at e
  simp [B.t8, runF, c8_w, Mi.begin, evSs, evS, evE, evEs, new, e1, e2, List.replicate]
  simp at e
  simp [e]
theorem nodes_of_ok (B : TreeTb Tb ok) (k : Nat) (t : Tr) (hs : siz t ≤ 1000) (h : Hea) : ∃ h' r, callF G Tb (k + 2) 8 [enc t] h = .ok (.ref r) h' ∧ h'[r]? = some (.lst ((nd t []).map encPN)) ∧ h.length ≤ r ∧ Ex h h' := by
  have z : SZ = 16777216 := rfl
  have f : FUEL = 18446744073709551616 := rfl
  let I : Nat → Loc → Hea → Prop := fun n σ h' => ∃ (out todo : List (List Nat × Tr)) (x3 x4 x5 x6 : Option D), σ = [some (enc t), some (.ref h.length), some (.ref (h.length + 1)), x3, x4, x5, x6] ∧
    h'[h.length]? = some (.lst (out.map encPN)) ∧ h'[h.length + 1]? = some (.lst (todo.reverse.map encPN)) ∧ out ++ (todo.flatMap fun x => nd x.2 x.1) = nd t [] ∧ out.length + sizP todo = siz t ∧ (∀ x ∈ todo, x.1.length + siz x.2 ≤ siz t) ∧ n = sizP todo ∧ Ex h h'
  let Q : Loc → Hea → Prop := fun σ h' => ∃ x3 x4 x5 x6 : Option D, σ = [some (enc t), some (.ref h.length), some (.ref (h.length + 1)), x3, x4, x5, x6] ∧ h'[h.length]? = some (.lst ((nd t []).map encPN)) ∧ Ex h h'
  have step : ∀ n σ h', I n σ h' → ((fun s k' => (evE G (callF G Tb (k + 1)) c8w0c s k').bind fun x k1 => asD x k1) σ h' = .ok false h' ∧ Q σ h') ∨ ∃ h1, (fun s k' => (evE G (callF G Tb (k + 1)) c8w0c s k').bind fun x k1 => asD x k1) σ h' = .ok true h1 ∧ ∃ m σ2 h2, evSs G (callF G Tb (k + 1)) c8w0b σ h1 = .ok (.nx σ2) h2 ∧ m < n ∧ I m σ2 h2 := by
    rintro n σ h' ⟨out, todo, x3, x4, x5, x6, rfl, hf, hl, hn, hz, hd, rfl, hx⟩
    cases todo with
    | nil =>
      left
      refine ⟨?_, x3, x4, x5, x6, rfl, ?_, hx⟩
      · simp [c8w0c, evE, evEs, callX, callB, fLen, lenD, hl, cmpX, ownEq, cmpG, opC, asD, truD]
      · have : out = nd t [] := by simpa using hn
        rw [← this]; exact hf
    | cons u todo =>
      right
      obtain ⟨p, u⟩ := u
      have sp := siz_pos u
      have hdu := hd (p, u) (by simp)
      have sl := sizP_len todo
      have hz' : out.length + (siz u + sizP todo) = siz t := by simpa [sizP] using hz
      simp only at hdu
      have lf : h.length < h'.length := lt_of_get hf
      have ll : h.length + 1 < h'.length := lt_of_get hl
      refine ⟨h', ?_, ?_⟩
      · simp [c8w0c, evE, evEs, callX, callB, fLen, lenD, hl, cmpX, ownEq, cmpG, opC, asD, truD]
      · -- pop
        have hlast : ((((p, u) :: todo).reverse.map encPN))[(((p, u) :: todo).reverse.map encPN).length - 1]? = some (encPN (p, u)) := by
          simp [List.getElem?_append]
        have hdrop : (((p, u) :: todo).reverse.map encPN).dropLast = todo.reverse.map encPN := by
          simp
        let h1 := h'.set (h.length + 1) (O.lst (todo.reverse.map encPN))
        have s1 : evS G (callF G Tb (k + 1)) (.asgT [3, 4] (.bm .pop (.var 2) [])) [some (enc t), some (.ref h.length), some (.ref (h.length + 1)), x3, x4, x5, x6] h' = .ok (.nx [some (enc t), some (.ref h.length), some (.ref (h.length + 1)), some (pthD p), some (enc u), x5, x6]) h1 := by
          simp only [evS, evE, evEs, List.getElem?_cons_succ, List.getElem?_cons_zero, Out.bind_ok, recv, listD, rdL, hl, Option.isSome_some, if_true, callM, gPop, hlast, hdrop, encPN, seqD, List.length_cons, List.length_nil, setAll, List.set_cons_succ, List.set_cons_zero, h1]
        have hf1 : h1[h.length]? = some (.lst (out.map encPN)) := by
          simp only [h1]; rw [List.getElem?_set_ne (by omega)]; exact hf
        have hl1 : h1[h.length + 1]? = some (.lst (todo.reverse.map encPN)) := by
          simp only [h1]; rw [List.getElem?_set_self ll]
        have x1 : Ex h h1 := hx.set_new _ (by omega) _
        -- append
        let h2 := h1.set h.length (O.lst (out.map encPN ++ [encPN (p, u)]))
        have lo : (out.map encPN).length < SZ := by simp; omega
        have s2 : evS G (callF G Tb (k + 1)) (.exp (.bm .append (.var 1) [(.tup [(.var 3), (.var 4)])])) [some (enc t), some (.ref h.length), some (.ref (h.length + 1)), some (pthD p), some (enc u), x5, x6] h1 = .ok (.nx [some (enc t), some (.ref h.length), some (.ref (h.length + 1)), some (pthD p), some (enc u), x5, x6]) h2 := by
          have : (2 : Nat) ≤ SZ := by omega
          simp only [evS, evE, evEs, List.getElem?_cons_succ, List.getElem?_cons_zero, Out.bind_ok, recv, listD, rdL, hf1, Option.isSome_some, if_true, callM, gAppend, lo, List.length_cons, List.length_nil, this, h2, encPN]
        have hf2 : h2[h.length]? = some (.lst ((out ++ [(p, u)]).map encPN)) := by
          simp only [h2]; rw [List.getElem?_set_self (by simp only [h1]; simpa using lf)]; simp
        have hl2 : h2[h.length + 1]? = some (.lst (todo.reverse.map encPN)) := by
          simp only [h2]; rw [List.getElem?_set_ne (by omega)]; exact hl1
        have xx2 : Ex h h2 := x1.set_new _ (by omega) _
        have e2 := is_end_ok (G := G) B.t2 k u h2
        have cb : c8w0b = [.asgT [3, 4] (.bm .pop (.var 2) []), .exp (.bm .append (.var 1) [(.tup [(.var 3), (.var 4)])]), .iff (.not (.callk 2 [(.var 4)] [.inl 0])) [.asg 5 (.bi .len [(.idx (.var 4) (.lit (.int (2))))]), .exp (.bm .extend (.var 2) [(.lc [6] (.nm 6) (.rng [(.var 5)]) (.lit (.bl true)) c8l1e)])] []] := rfl
        cases u with
        | fin n =>
          refine ⟨sizP todo, [some (enc t), some (.ref h.length), some (.ref (h.length + 1)), some (pthD p), some (enc (.fin n)), x5, x6], h2, ?_, ?_, out ++ [(p, .fin n)], todo, _, _, _, _, rfl, hf2, hl2, ?_, ?_, ?_, rfl, xx2⟩
          · rw [cb, ss_nx s1, ss_nx s2]
            simp only [evSs, evS, evE, evEs, List.getElem?_cons_succ, List.getElem?_cons_zero, Out.bind_ok, shape, Option.bind_some, Option.map_some, e2, asD, truD, lift_some, Tr.isFin, Bool.not_true, Bool.false_eq_true, if_false]
          · simp [sizP]; omega
          · simpa [nd] using hn
          · simp [siz] at hz'; simp; omega
          · intro x hx'; exact hd x (by simp [hx'])
        | stp n bs =>
          simp only [siz] at hz' hdu sp
          have sk := sizP_kp p bs 0
          have skl := sizP_len (kp p bs 0)
          have kl := kp_len p bs 0
          have rk := revK_ok (G := G) (callF G Tb (k + 1)) (some (enc t)) (some (.ref h.length)) (some (.ref (h.length + 1))) (some (.ref 0)) n p bs none (by omega) (by omega) h2
          let h3 := (h2 ++ [O.lst ((kp p bs 0).reverse.map encPN)]).set (h.length + 1) (O.lst (todo.reverse.map encPN ++ (kp p bs 0).reverse.map encPN))
          have e0 : enc (.stp n bs) = .tup [.str "step", .int n, .tup (encs bs)] := by simp [enc]
          have l2 : h.length + 1 < h2.length := lt_of_get hl2
          refine ⟨sizs bs + sizP todo, [some (enc t), some (.ref h.length), some (.ref (h.length + 1)), some (pthD p), some (enc (.stp n bs)), some (.int bs.len), x6], h3, ?_, ?_, out ++ [(p, .stp n bs)], kp p bs 0 ++ todo, _, _, _, _, rfl, ?_, ?_, ?_, ?_, ?_, ?_, ?_⟩
          · rw [cb, ss_nx s1, ss_nx s2]
            have hlA : (h2 ++ [O.lst ((kp p bs 0).reverse.map encPN)])[h.length + 1]? = some (.lst (todo.reverse.map encPN)) := by rw [List.getElem?_append_left l2]; exact hl2
            have hlB : (h2 ++ [O.lst ((kp p bs 0).reverse.map encPN)])[h2.length]? = some (.lst ((kp p bs 0).reverse.map encPN)) := by simp
            have i2 : L2.atI [D.str "step", D.int n, D.tup (encs bs)] 2 = some (.tup (encs bs)) := by rfl
            have sr : smallR (bs.len : Int) = true := by
              exact small_R (by omega) (by omega)
            have lx : (todo.reverse.map encPN).length + ((kp p bs 0).reverse.map encPN).length ≤ SZ := by simp; omega
            have tn : ((bs.len : Nat) : Int).toNat = bs.len := by omega
            rw [e0] at e2
            rw [e0]
            exact nodes_stp (callF G Tb (k + 1)) (some (enc t)) h.length h2 n p bs todo x5 x6 e2 hl2 rk kl sr lx
          · simp [sizP, siz]
          · simp only [h3]
            rw [List.getElem?_set_ne (by omega), List.getElem?_append_left (lt_of_get hf2)]
            exact hf2
          · simp only [h3]
            rw [List.getElem?_set_self (by simp; omega)]
            simp
          · rw [List.flatMap_append, ← nds_kp]
            simpa [nd] using hn
          · simp only [sizP, List.map_append, List.sum_append] at *
            simp; omega
          · intro x hx'
            rcases List.mem_append.mp hx' with hx' | hx'
            · have := kp_dep p bs 0 x hx'
              omega
            · exact hd x (by simp [hx'])
          · simp only [sizP, List.map_append, List.sum_append] at *
            omega
          · exact (xx2.trans (Kp.app _ _)).set_new _ (by omega) _
  have e1 : (1 : Nat) ≤ SZ := by omega
  obtain ⟨σ', h', e, x3, x4, x5, x6, rfl, hq, hx⟩ := whGo_inv _ _ I Q step FUEL (sizP [([], t)]) [some (enc t), some (.ref h.length), some (.ref (h.length + 1)), none, none, none, none] (h ++ [.lst []] ++ [.lst [encPN ([], t)]]) (by simp [sizP]; omega)
    ⟨[], [([], t)], none, none, none, none, rfl, by simp [List.getElem?_append], by simp [List.getElem?_append], by simp, by simp [sizP], by simp, rfl, (Kp.app _ _).trans (Kp.app _ _)⟩
  refine ⟨h', h.length, ?_, hq, Nat.le_refl _, hx⟩
  exact nodes_end B k t h h' x3 x4 x5 x6 e
end
end Mi.P
end

section
set_option linter.all false
set_option maxRecDepth 100000
/-! Sp8: steps_in, node_at, is_path. -/
namespace Mi.P
open PySem
def atT : List Nat → Tr → Option Tr
  | [], t => some t
  | _ :: _, .fin _ => none
  | k :: q, .stp _ bs => match bs.list[k]? with
    | some u => atT q u
    | none => none
theorem trs_get : ∀ (ks : LTs) (k : Nat) (w : Int) (u : LT), ks.get k = some (w, u) → ks.trs.list[k]? = some u.tr
  | .nil, _, _, _, h => by simp [LTs.get] at h
  | .cons w t r, 0, w', u, h => by
    simp [LTs.get] at h
    simp [LTs.trs, Trs.list, h.2]
  | .cons w t r, k + 1, w', u, h => by
    have := trs_get r k w' u h
    simpa [LTs.trs, Trs.list] using this
theorem atL_T : ∀ (q : List Nat) (t u : LT), atL q t = some u → atT q t.tr = some u.tr
  | [], t, u, h => by simp [atL] at h; simp [atT, h]
  | k :: q, .mk s n ks, u, h => by
    simp only [atL, LT.ks] at h
    cases hg : ks.get k with
    | none => rw [hg] at h; cases h
    | some wv =>
      obtain ⟨w, v⟩ := wv
      rw [hg] at h
      have g := trs_get ks k w v hg
      have i := atL_T q v u h
      cases hk : ks.trs with
      | nil => rw [hk] at g; simp [Trs.list] at g
      | cons w0 t0 r0 =>
        rw [hk] at g
        simp [LT.tr, hk, mkT, atT, g, i]
theorem encs_get : ∀ (bs : Trs) (k : Nat) (u : Tr), bs.list[k]? = some u → ∃ w, (encs bs)[k]? = some (.tup [.int w, enc u])
  | .nil, k, u, h => by simp [Trs.list] at h
  | .cons w t r, 0, u, h => by
    simp [Trs.list] at h
    exact ⟨w, by simp [encs, h]⟩
  | .cons w t r, k + 1, u, h => by
    obtain ⟨w', e⟩ := encs_get r k u (by simpa [Trs.list] using h)
    exact ⟨w', by simpa [encs] using e⟩
def nf (x : List Nat × Tr) : Bool := !x.2.isFin
section
variable {G : GE} {Tb : Nat → Option FC} {ok : Nat → Nat → Bool}
theorem steps_in_ok (B : TreeTb Tb ok) (k : Nat) (t : Tr) (hs : siz t ≤ 1000) (hn : (nd t []).length ≤ 1000) (h : Hea) : ∃ h' r, callF G Tb (k + 3) 9 [enc t] h = .ok (.ref r) h' ∧ h'[r]? = some (.lst (((nd t []).filter nf).map fun x => pthD x.1)) ∧ h.length ≤ r ∧ Ex h h' := by
  have z : SZ = 16777216 := rfl
  have f : FUEL = 18446744073709551616 := rfl
  obtain ⟨h1, r, e8, g8, _, x8⟩ := nodes_of_ok (G := G) B k t hs h
  obtain ⟨acc, h', e, a1, a2⟩ := lcGo_inv (.tp [1, 2]) (evE G (callF G Tb (k + 2)) c9l0c) (evE G (callF G Tb (k + 2)) c9l0e) (.lst r) [some (enc t), none, none] ((nd t []).map encPN)
    (fun i acc h' => acc = (((nd t []).take i).filter nf).map (fun x => pthD x.1) ∧ h' = h1) (fun i acc h' x => by rw [x.2]; simp [srcAt, rdL, g8])
    (fun i hi acc h' x => by
      simp only [List.length_map] at hi
      obtain ⟨xa, rfl⟩ := x
      have e2 := is_end_ok (G := G) B.t2 (k + 1) ((nd t [])[i]).2 h'
      have tk : (nd t []).take (i + 1) = (nd t []).take i ++ [(nd t [])[i]] := by
        rw [List.take_add_one, List.getElem?_eq_getElem hi]; rfl
      refine ⟨[some (enc t), some (pthD ((nd t [])[i]).1), some (enc ((nd t [])[i]).2)], .bl (nf (nd t [])[i]), h', nf (nd t [])[i], ?_, ?_, rfl, ?_, ?_⟩
      · simp [encPN, bindT, seqD, setAll]
      · simp [c9l0c, evE, evEs, shape, e2, asD, truD, nf]
      · intro hb
        refine ⟨pthD ((nd t [])[i]).1, h', by simp [c9l0e, evE], ?_, ?_, rfl⟩
        · rw [xa]
          have : (((nd t []).take i).filter nf).length ≤ ((nd t []).take i).length := List.length_filter_le _ _
          simp at *
          omega
        · rw [xa, tk, List.filter_append]
          simp [List.filter_cons, hb]
      · intro hb
        refine ⟨?_, rfl⟩
        rw [xa, tk, List.filter_append]
        simp [List.filter_cons, hb])
    FUEL 0 [] h1 (by simp; omega) (Nat.zero_le _) ⟨by simp, rfl⟩
  rw [a2] at e
  refine ⟨h1 ++ [.lst acc], h1.length, ?_, ?_, x8.1, x8.trans (Kp.app _ _)⟩
  · show callF G Tb ((k + 2) + 1) 9 _ h = _
    unfold callF
    simp [B.t9, runF, c9_w, Mi.begin, evSs, evS, evE, evEs, evI, shape, e8, walkD, rdL, g8, wipeL, new]
    simp [e]
  · rw [a1]
    simp
theorem node_at_ok (B : TreeTb Tb ok) (k : Nat) (t u : Tr) (p : List Nat) (ha : atT p t = some u) (hp : p.length < 1000) (h : Hea) : callF G Tb (k + 1) 10 [enc t, pthD p] h = .ok (enc u) h := by
  have f : FUEL = 18446744073709551616 := rfl
  obtain ⟨σ', h', e, ⟨u', x', rfl, hu, rfl⟩⟩ := frGo_inv (.nm 2) (evSs G (callF G Tb k) c10f0b) (.fix (p.map iD)) (p.map iD) (fun i σ h' => ∃ u' x', σ = [some (enc u'), some (pthD p), x'] ∧ atT (p.drop i) u' = some u ∧ h' = h) (fun _ _ _ _ => rfl)
    (fun i hi σ h' x => by
      obtain ⟨u', x', rfl, hu, rfl⟩ := x
      simp only [List.length_map] at hi
      rw [List.drop_eq_getElem_cons hi] at hu
      cases u' with
      | fin n => simp [atT] at hu
      | stp n bs =>
        simp only [atT] at hu
        cases hk : bs.list[p[i]]? with
        | none => rw [hk] at hu; cases hu
        | some v =>
          rw [hk] at hu
          obtain ⟨w, ew⟩ := encs_get bs _ v hk
          have i2 : L2.atI [D.str "step", D.int n, D.tup (encs bs)] 2 = some (.tup (encs bs)) := by rfl
          have i3 : L2.atI (encs bs) (p[i] : Int) = some (.tup [.int w, enc v]) := by
            obtain ⟨l, e⟩ := List.getElem?_eq_some_iff.mp ew
            rw [atI_nat _ _ l, e]
          have i4 : L2.atI [D.int w, enc v] 1 = some (enc v) := by rfl
          refine ⟨[some (enc (.stp n bs)), some (pthD p), some (.int (p[i] : Int))], [some (enc v), some (pthD p), some (.int (p[i] : Int))], h', ?_, ?_, v, _, rfl, hu, rfl⟩
          · simp [bindT, iD]
          · simp [c10f0b, evSs, evS, evE, enc, idxD, i2, i3, i4])
    FUEL 0 [some (enc t), some (pthD p), none] h (by simp; omega) (Nat.zero_le _) ⟨t, none, rfl, by simpa using ha, rfl⟩
  simp only [List.length_map, List.drop_length, atT, Option.some.injEq] at hu
  subst hu
  unfold callF
  simp [B.t10, runF, c10_w, Mi.begin, evSs, evS, evE, evEs, evI, pthD, walkD]
  simp only [pthD] at e
  simp [e]
theorem is_path_ok (B : TreeTb Tb ok) (k : Nat) (t u : Tr) (p : List Nat) (ha : atT p t = some u) (hp : p.length < 1000) (h : Hea) : callF G Tb (k + 2) 11 [pthD p, enc t] h = .ok (.bl true) h := by
  have f : FUEL = 18446744073709551616 := rfl
  obtain ⟨σ', h', e, ⟨u', x', rfl, hu, rfl⟩⟩ := frGo_inv (.nm 2) (evSs G (callF G Tb (k + 1)) c11f0b) (.fix (p.map iD)) (p.map iD) (fun i σ h' => ∃ u' x', σ = [some (pthD p), some (enc u'), x'] ∧ atT (p.drop i) u' = some u ∧ h' = h) (fun _ _ _ _ => rfl)
    (fun i hi σ h' x => by
      obtain ⟨u', x', rfl, hu, rfl⟩ := x
      simp only [List.length_map] at hi
      rw [List.drop_eq_getElem_cons hi] at hu
      cases u' with
      | fin n => simp [atT] at hu
      | stp n bs =>
        simp only [atT] at hu
        cases hk : bs.list[p[i]]? with
        | none => rw [hk] at hu; cases hu
        | some v =>
          rw [hk] at hu
          obtain ⟨w, ew⟩ := encs_get bs _ v hk
          have i2 : L2.atI [D.str "step", D.int n, D.tup (encs bs)] 2 = some (.tup (encs bs)) := by rfl
          obtain ⟨l, e⟩ := List.getElem?_eq_some_iff.mp ew
          have i3 : L2.atI (encs bs) (p[i] : Int) = some (.tup [.int w, enc v]) := by
            rw [atI_nat _ _ l, e]
          have i4 : L2.atI [D.int w, enc v] 1 = some (enc v) := by rfl
          have e2 := is_end_ok (G := G) B.t2 k (.stp n bs) h'
          have e1 := is_between_int (G := G) B.t1 k (p[i] : Int) 0 ((encs bs).length - 1) h'
          have c1 : (0 : Int) ≤ (p[i] : Int) := by omega
          have c2 : (p[i] : Int) ≤ (encs bs).length - 1 := by omega
          simp only [c1, c2, decide_true, Bool.and_self] at e1
          simp only [enc, Tr.isFin] at e2
          refine ⟨[some (pthD p), some (enc (.stp n bs)), some (.int (p[i] : Int))], [some (pthD p), some (enc v), some (.int (p[i] : Int))], h', ?_, ?_, v, _, rfl, hu, rfl⟩
          · simp [bindT, iD]
          · simp [c11f0b, evSs, evS, evE, evEs, enc, idxD, i2, i3, i4, shape, e2, e1, asD, truD, callX, callB, fLen, lenD, opB, opSub])
    FUEL 0 [some (pthD p), some (enc t), none] h (by simp; omega) (Nat.zero_le _) ⟨t, none, rfl, by simpa using ha, rfl⟩
  show callF G Tb ((k + 1) + 1) 11 _ h' = _
  unfold callF
  simp only [pthD] at e
  simp [B.t11, runF, c11_w, Mi.begin, evSs, evS, evE, evEs, evI, pthD, walkD, callX, callB, fIsinst, isinstD, plainTy, tyD, asD, truD]
  simp [e]
end
end Mi.P
end

section
set_option linter.all false
set_option maxRecDepth 100000
/-! Sp9: offers. -/
namespace Mi.P
open PySem
theorem n_rw : ¬ (("root" : Str) = ("words" : Str)) := by decide +kernel
theorem n_ra : ¬ (("root" : Str) = ("all_paths" : Str)) := by decide +kernel
theorem n_rs : ¬ (("root" : Str) = ("step_paths" : Str)) := by decide +kernel
theorem n_wa : ¬ (("words" : Str) = ("all_paths" : Str)) := by decide +kernel
theorem n_ws : ¬ (("words" : Str) = ("step_paths" : Str)) := by decide +kernel
theorem n_as : ¬ (("all_paths" : Str) = ("step_paths" : Str)) := by decide +kernel
theorem n_rc : ¬ (("root" : Str) = ("check_path" : Str)) := by decide +kernel
theorem n_wc : ¬ (("words" : Str) = ("check_path" : Str)) := by decide +kernel
theorem n_ac : ¬ (("all_paths" : Str) = ("check_path" : Str)) := by decide +kernel
theorem n_sc : ¬ (("step_paths" : Str) = ("check_path" : Str)) := by decide +kernel
theorem n_rt : ¬ (("root" : Str) = ("at" : Str)) := by decide +kernel
theorem n_wt : ¬ (("words" : Str) = ("at" : Str)) := by decide +kernel
theorem n_at : ¬ (("all_paths" : Str) = ("at" : Str)) := by decide +kernel
theorem n_st : ¬ (("step_paths" : Str) = ("at" : Str)) := by decide +kernel
/-- what the tables say of the class of offers -/
structure OfG (G : GE) : Prop where
  ini : G.init 1 = some 20
  p1 : G.prop 1 ("tree" : Str) = some 22
  p2 : G.prop 1 ("text" : Str) = some 23
  p3 : G.prop 1 ("paths" : Str) = some 24
  p4 : G.prop 1 ("steps" : Str) = some 25
  q1 : G.prop 1 ("root" : Str) = none
  q2 : G.prop 1 ("words" : Str) = none
  q3 : G.prop 1 ("all_paths" : Str) = none
  q4 : G.prop 1 ("step_paths" : Str) = none
  a1 : G.att 1 ("root" : Str) = true
  a2 : G.att 1 ("words" : Str) = true
  a3 : G.att 1 ("all_paths" : Str) = true
  a4 : G.att 1 ("step_paths" : Str) = true
  m1 : G.meth 1 ("check_path" : Str) = some 26
  m2 : G.meth 1 ("at" : Str) = some 27
  m3 : G.meth 1 ("__eq__" : Str) = some 30
  m4 : G.meth 1 ("__str__" : Str) = some 31
  s1 : G.sub 1 1 = some true
  y1 : G.tyc "tuple" 1 = true
  y2 : G.tyc "str" 1 = true
  c1 : G.cty 1 "int" = true
structure OfTb (Tb : Nat → Option FC) (ok : Nat → Nat → Bool) : Prop extends TreeTb Tb ok where
  t20 : Tb 20 = some ⟨4, 2, c20⟩
  t22 : Tb 22 = some ⟨1, 1, c22⟩
  t23 : Tb 23 = some ⟨1, 1, c23⟩
  t24 : Tb 24 = some ⟨1, 1, c24⟩
  t25 : Tb 25 = some ⟨1, 1, c25⟩
  t26 : Tb 26 = some ⟨2, 2, c26⟩
  t27 : Tb 27 = some ⟨2, 2, c27⟩
  t30 : Tb 30 = some ⟨2, 2, c30⟩
  t31 : Tb 31 = some ⟨1, 1, c31⟩
def pthsD (t : Tr) : D := .tup ((nd t []).map fun x => pthD x.1)
def stpsD (t : Tr) : D := .tup (((nd t []).filter nf).map fun x => pthD x.1)
def offF (t : Tr) : List (Str × D) := [("root", enc t), ("words", .str (txt t)), ("all_paths", pthsD t), ("step_paths", stpsD t)]
def Off (h : Hea) (a : Nat) (t : Tr) : Prop := h[a]? = some (.ins 1 (offF t))
mutual
theorem nd_len : ∀ (t : Tr) (p : List Nat), (nd t p).length = siz t
  | .fin n, p => by simp [nd, siz]
  | .stp n bs, p => by simp [nd, siz, nds_len bs p 0]
theorem nds_len : ∀ (t : Trs) (p : List Nat) (k : Nat), (nds t p k).length = sizs t
  | .nil, p, k => by simp [nds, sizs]
  | .cons w t r, p, k => by simp [nds, sizs, nd_len t, nds_len r]
end
theorem lit_at : ∀ (p : List Nat) (t u : Tr), atT p t = some u → lit t → lit u ∧ siz u ≤ siz t
  | [], t, u, h, l => by simp [atT] at h; subst h; exact ⟨l, Nat.le_refl _⟩
  | _ :: _, .fin _, u, h, l => by simp [atT] at h
  | k :: q, .stp n bs, u, h, l => by
    simp only [atT] at h
    cases hk : bs.list[k]? with
    | none => rw [hk] at h; cases h
    | some v =>
      rw [hk] at h
      have mv : v ∈ bs.list := List.mem_of_getElem? hk
      obtain ⟨i1, i2⟩ := lit_at q v u h (lits_list bs l.2.2.1 v mv)
      refine ⟨i1, Nat.le_trans i2 ?_⟩
      have : siz v ≤ sizs bs := by
        rw [sizs_list]
        clear hk h l
        generalize bs.list = l at mv
        induction l with
        | nil => cases mv
        | cons a r ih =>
          simp only [sizL, List.map_cons, List.sum_cons] at *
          rcases List.mem_cons.mp mv with e | e
          · subst e; omega
          · have := ih e; omega
      simp only [siz]; omega
section
variable {G : GE} {Tb : Nat → Option FC} {ok : Nat → Nat → Bool}
theorem paths_lc (Φ : Orc) (a b : Option D) (r : Nat) (t : Tr) (h : Hea) (g : h[r]? = some (.lst ((nd t []).map encPN))) (hs : siz t ≤ 1000) :
    lcGo (.tp [2, 3]) (fun _ h => .ok (.bl true) h) (evE G Φ c20l0e) (.lst r) [a, b, none, none] FUEL 0 [] h = .ok ((nd t []).map fun x => pthD x.1) h := by
  have z : SZ = 16777216 := rfl
  have f : FUEL = 18446744073709551616 := rfl
  have nl := nd_len t []
  obtain ⟨acc, h', e, a1, a2⟩ := lcGo_inv1 (.tp [2, 3]) (evE G Φ c20l0e) (.lst r) [a, b, none, none] ((nd t []).map encPN)
    (fun i acc h' => acc = ((nd t []).take i).map (fun x => pthD x.1) ∧ h' = h) (fun i acc h' x => by rw [x.2]; simp [srcAt, rdL, g])
    (fun i hi acc h' x => by
      simp only [List.length_map] at hi
      obtain ⟨xa, rfl⟩ := x
      have tk : (nd t []).take (i + 1) = (nd t []).take i ++ [(nd t [])[i]] := by
        rw [List.take_add_one, List.getElem?_eq_getElem hi]; rfl
      refine ⟨[a, b, some (pthD ((nd t [])[i]).1), some (enc ((nd t [])[i]).2)], pthD ((nd t [])[i]).1, h', ?_, by simp [c20l0e, evE], ?_, ?_, rfl⟩
      · simp [encPN, bindT, seqD, setAll]
      · rw [xa]; simp; omega
      · rw [xa, tk, List.map_append]; rfl)
    h (by simp; omega) ⟨by simp, rfl⟩
  rw [e, a1, a2]
  simp
theorem init_ok (B : OfTb Tb ok) (C : OfG G) (k : Nat) (t : Tr) (hl : lit t) (hs : siz t ≤ 15) (a : Nat) (h : Hea) (ha : h[a]? = some (.ins 1 [])) :
    ∃ h', callF G Tb (k + 20) 20 [.ref a, enc t] h = .ok .non h' ∧ Off h' a t ∧ Kp (fun j => j = a) h h' := by
  obtain ⟨h1, e7, x7⟩ := is_tree_ok (G := G) B.toTreeTb (k + 14) t hl hs h
  have ha1 := Ex.get x7 ha
  let h2 := h1.set a (.ins 1 [("root", enc t)])
  have la1 := lt_of_get ha1
  have ha2 : h2[a]? = some (.ins 1 [("root", enc t)]) := List.getElem?_set_self la1
  have ds := dep_siz t
  obtain ⟨h3, e12, x12⟩ := text_of_ok (G := G) B.t2 B.t12 t (k + 17) h2 (lit_ok t hl (by omega)) (by omega)
  have ha3 := Ex.get x12 ha2
  have la3 := lt_of_get ha3
  let h4 := h3.set a (.ins 1 [("root", enc t), ("words", .str (txt t))])
  have ha4 : h4[a]? = some (.ins 1 [("root", enc t), ("words", .str (txt t))]) := List.getElem?_set_self la3
  obtain ⟨h5, r, e8, g8, r8, x8⟩ := nodes_of_ok (G := G) B.toTreeTb (k + 17) t (by omega) h4
  have lc := paths_lc (G := G) (callF G Tb (k + 19)) (some (.ref a)) (some (enc t)) r t h5 g8 (by omega)
  let h6 := h5 ++ [O.lst ((nd t []).map fun x => pthD x.1)]
  have ha6 : h6[a]? = some (.ins 1 [("root", enc t), ("words", .str (txt t))]) := Ex.get (x8.trans (Kp.app _ _)) ha4
  have la6 := lt_of_get ha6
  have g6 : h6[h5.length]? = some (O.lst ((nd t []).map fun x => pthD x.1)) := by simp [h6]
  let h7 := h6.set a (.ins 1 [("root", enc t), ("words", .str (txt t)), ("all_paths", pthsD t)])
  have ha7 : h7[a]? = some (.ins 1 [("root", enc t), ("words", .str (txt t)), ("all_paths", pthsD t)]) := List.getElem?_set_self la6
  obtain ⟨h8, r', e9, g9, r9, x9⟩ := steps_in_ok (G := G) B.toTreeTb (k + 16) t (by omega) (by rw [nd_len]; omega) h7
  have ha8 := Ex.get x9 ha7
  have la8 := lt_of_get ha8
  let h9 := h8.set a (.ins 1 (offF t))
  refine ⟨h9, ?_, List.getElem?_set_self la8, ?_⟩
  · show callF G Tb ((k + 19) + 1) 20 _ h = _
    unfold callF
    simp only [B.t20, runF, c20_w]
    rw [if_pos (by simp)]
    have s1 : evS G (callF G Tb (k + 19)) (.iff (.not (.callk 7 [(.var 1), (.lit (.fn 3))] [.inl 0, .inl 1])) [.bad] []) [some (.ref a), some (enc t), none, none] h = .ok (.nx [some (.ref a), some (enc t), none, none]) h1 := by
      simp [evS, evE, evEs, shape, e7, asD, truD, evSs]
    have s2 : evS G (callF G Tb (k + 19)) (.asgF (.var 0) ("root" : Str) (.var 1)) [some (.ref a), some (enc t), none, none] h1 = .ok (.nx [some (.ref a), some (enc t), none, none]) h2 := by
      simp only [evS, evE, List.getElem?_cons_zero, List.getElem?_cons_succ, Out.bind_ok, setF, insAt, ha1, C.a1, putF, h2]
      rfl
    have s3 : evS G (callF G Tb (k + 19)) (.asgF (.var 0) ("words" : Str) (.callk 12 [(.var 1)] [.inl 0])) [some (.ref a), some (enc t), none, none] h2 = .ok (.nx [some (.ref a), some (enc t), none, none]) h4 := by
      simp only [evS, evE, evEs, List.getElem?_cons_zero, List.getElem?_cons_succ, Out.bind_ok, shape, Option.bind_some, Option.map_some, e12, setF, insAt, ha3, C.a2, putF, n_rw, if_false, h4]
      rfl
    have s4 : evS G (callF G Tb (k + 19)) (.asgF (.var 0) ("all_paths" : Str) (.bi .tuple [(.lc [2, 3] (.tp [2, 3]) (.seq (.callk 8 [(.var 1)] [.inl 0])) (.lit (.bl true)) c20l0e)])) [some (.ref a), some (enc t), none, none] h4 = .ok (.nx [some (.ref a), some (enc t), none, none]) h7 := by
      simp only [evS, evE, evEs, evI, List.getElem?_cons_zero, List.getElem?_cons_succ, Out.bind_ok, shape, Option.bind_some, Option.map_some, e8, walkD, rdL, g8, lift_some, wipeL, List.set_cons_succ, List.set_cons_zero, lc, new, callX, callB, fTuple, seqD, show (h5 ++ [O.lst ((nd t []).map fun x => pthD x.1)]) = h6 from rfl, g6, setF, insAt, ha6, C.a3, putF, n_ra, n_wa, if_false]
      rfl
    have s5 : evS G (callF G Tb (k + 19)) (.asgF (.var 0) ("step_paths" : Str) (.bi .tuple [(.callk 9 [(.var 1)] [.inl 0])])) [some (.ref a), some (enc t), none, none] h7 = .ok (.nx [some (.ref a), some (enc t), none, none]) h9 := by
      simp only [evS, evE, evEs, List.getElem?_cons_zero, List.getElem?_cons_succ, Out.bind_ok, shape, Option.bind_some, Option.map_some, e9, lift_some, callX, callB, fTuple, seqD, rdL, g9, setF, insAt, ha8, C.a4, putF, n_rs, n_ws, n_as, if_false, h9]
      rfl
    have bg : Mi.begin ⟨4, 2, c20⟩ [D.ref a, enc t] = [some (.ref a), some (enc t), none, none] := rfl
    rw [← c20_w, bg, c20_w, ss_nx s1, ss_nx s2, ss_nx s3, ss_nx s4, ss_nx s5]
    simp [evSs]
  · have kx : ∀ {x y : Hea}, Ex x y → Kp (fun j => j = a) x y := fun e => Kp.ex e
    exact (kx x7).trans <| (Kp.set (S := fun j => j = a) h1 a _ rfl).trans <| (kx x12).trans <| (Kp.set (S := fun j => j = a) h3 a _ rfl).trans <| (kx x8).trans <| (Kp.app _ _).trans <| (Kp.set (S := fun j => j = a) h6 a _ rfl).trans <| (kx x9).trans <| Kp.set (S := fun j => j = a) h8 a _ rfl
/-- Offer(tree) -/
theorem mk_ok (B : OfTb Tb ok) (C : OfG G) (k : Nat) (t : Tr) (hl : lit t) (hs : siz t ≤ 15) (e : CE) (σ : Loc) (h h1 : Hea) (he : evE G (callF G Tb (k + 20)) e σ h = .ok (enc t) h1) :
    ∃ h', evE G (callF G Tb (k + 20)) (.mk 1 [e] [.inl 0, .inl 1]) σ h = .ok (.ref h1.length) h' ∧ Off h' h1.length t ∧ Ex h1 h' := by
  obtain ⟨h', e', o', x'⟩ := init_ok B C k t hl hs h1.length (h1 ++ [.ins 1 []]) (by simp)
  refine ⟨h', by simp [evE, evEs, he, C.ini, shape, e'], o', ⟨by have := x'.1; simp at this; omega, fun j hj _ => ?_⟩⟩
  rw [x'.2 j (by simp; omega) (by omega), List.getElem?_append_left hj]
theorem tree_ok (B : OfTb Tb ok) (C : OfG G) (k a : Nat) (t : Tr) (h : Hea) (o : Off h a t) : callF G Tb (k + 1) 22 [.ref a] h = .ok (enc t) h := by
  unfold Off at o
  simp [callF, B.t22, runF, c22, Mi.begin, evSs, evS, evE, insAt, o, C.q1, C.a1, offF, lookF]
theorem textp_ok (B : OfTb Tb ok) (C : OfG G) (k a : Nat) (t : Tr) (h : Hea) (o : Off h a t) : callF G Tb (k + 1) 23 [.ref a] h = .ok (.str (txt t)) h := by
  unfold Off at o
  simp [callF, B.t23, runF, c23, Mi.begin, evSs, evS, evE, insAt, o, C.q2, C.a2, offF, lookF, n_rw]
theorem paths_ok (B : OfTb Tb ok) (C : OfG G) (k a : Nat) (t : Tr) (h : Hea) (o : Off h a t) : callF G Tb (k + 1) 24 [.ref a] h = .ok (pthsD t) h := by
  unfold Off at o
  simp [callF, B.t24, runF, c24, Mi.begin, evSs, evS, evE, insAt, o, C.q3, C.a3, offF, lookF, n_ra, n_wa]
theorem steps_ok (B : OfTb Tb ok) (C : OfG G) (k a : Nat) (t : Tr) (h : Hea) (o : Off h a t) : callF G Tb (k + 1) 25 [.ref a] h = .ok (stpsD t) h := by
  unfold Off at o
  simp [callF, B.t25, runF, c25, Mi.begin, evSs, evS, evE, insAt, o, C.q4, C.a4, offF, lookF, n_rs, n_ws, n_as]
theorem strp_ok (B : OfTb Tb ok) (C : OfG G) (k a : Nat) (t : Tr) (h : Hea) (o : Off h a t) (hz : (txt t).length ≤ SZ) : callF G Tb (k + 1) 31 [.ref a] h = .ok (.str (txt t)) h := by
  unfold Off at o
  simp [callF, B.t31, runF, c31, Mi.begin, evSs, evS, evE, insAt, o, C.q2, C.a2, offF, lookF, n_rw, fmtD, hz]
/-! the same, as expressions -/
theorem fld_tree (B : OfTb Tb ok) (C : OfG G) (k a : Nat) (t : Tr) (e : CE) (σ : Loc) (h h1 : Hea) (he : evE G (callF G Tb (k + 1)) e σ h = .ok (.ref a) h1) (o : Off h1 a t) : evE G (callF G Tb (k + 1)) (.fld e ("tree" : Str)) σ h = .ok (enc t) h1 := by
  have e1 := tree_ok B C k a t h1 o
  unfold Off at o
  simp [evE, he, insAt, o, C.p1, e1]
theorem fld_text (B : OfTb Tb ok) (C : OfG G) (k a : Nat) (t : Tr) (e : CE) (σ : Loc) (h h1 : Hea) (he : evE G (callF G Tb (k + 1)) e σ h = .ok (.ref a) h1) (o : Off h1 a t) : evE G (callF G Tb (k + 1)) (.fld e ("text" : Str)) σ h = .ok (.str (txt t)) h1 := by
  have e1 := textp_ok B C k a t h1 o
  unfold Off at o
  simp [evE, he, insAt, o, C.p2, e1]
theorem fld_paths (B : OfTb Tb ok) (C : OfG G) (k a : Nat) (t : Tr) (e : CE) (σ : Loc) (h h1 : Hea) (he : evE G (callF G Tb (k + 1)) e σ h = .ok (.ref a) h1) (o : Off h1 a t) : evE G (callF G Tb (k + 1)) (.fld e ("paths" : Str)) σ h = .ok (pthsD t) h1 := by
  have e1 := paths_ok B C k a t h1 o
  unfold Off at o
  simp [evE, he, insAt, o, C.p3, e1]
theorem fld_steps (B : OfTb Tb ok) (C : OfG G) (k a : Nat) (t : Tr) (e : CE) (σ : Loc) (h h1 : Hea) (he : evE G (callF G Tb (k + 1)) e σ h = .ok (.ref a) h1) (o : Off h1 a t) : evE G (callF G Tb (k + 1)) (.fld e ("steps" : Str)) σ h = .ok (stpsD t) h1 := by
  have e1 := steps_ok B C k a t h1 o
  unfold Off at o
  simp [evE, he, insAt, o, C.p4, e1]
theorem bi_str (B : OfTb Tb ok) (C : OfG G) (k a : Nat) (t : Tr) (e : CE) (σ : Loc) (h h1 : Hea) (he : evE G (callF G Tb (k + 1)) e σ h = .ok (.ref a) h1) (o : Off h1 a t) (hz : (txt t).length ≤ SZ) : evE G (callF G Tb (k + 1)) (.bi .str [e]) σ h = .ok (.str (txt t)) h1 := by
  have e1 := strp_ok B C k a t h1 o hz
  unfold Off at o
  simp [evE, evEs, he, callX, insAt, o, C.m4, e1]
theorem eq_ok (B : OfTb Tb ok) (C : OfG G) (k a b : Nat) (t u : Tr) (h : Hea) (o : Off h a t) (o2 : Off h b u) (d1 : dep t ≤ 20) (d2 : dep u ≤ 20) : callF G Tb (k + 1) 30 [.ref a, .ref b] h = .ok (.bl (PyData.eqv (pT t) (pT u))) h := by
  have q : eqD h (enc t) (enc u) = some (PyData.eqv (pT t) (pT u)) := by simp [eqD, pd_enc h t d1, pd_enc h u d2]
  have cx : ∀ Φ : Orc, cmpX G Φ .eq (enc t) (enc u) h = .ok (.bl (PyData.eqv (pT t) (pT u))) h := fun Φ => by
    have ni : insAt h (enc t) = none := by cases t <;> simp [enc, insAt]
    simp only [cmpX, ownEq, ni, Option.bind_none, cmpG, opC, q, Option.map_some, lift_some]
  unfold Off at o o2
  simp [callF, B.t30, runF, c30, Mi.begin, evSs, evS, evE, evEs, insAt, o, o2, C.q1, C.a1, offF, lookF, callX, callB, fIsinst, isinstD, tyD, C.s1, asD, truD, cx]
theorem eq_tup (B : OfTb Tb ok) (C : OfG G) (k a : Nat) (ds : List D) (h : Hea) : callF G Tb (k + 1) 30 [.ref a, .tup ds] h = .ok (.bl false) h := by
  simp [callF, B.t30, runF, c30, Mi.begin, evSs, evS, evE, evEs, callX, callB, fIsinst, isinstD, tyD, C.y1, asD, truD]
theorem eq_str (B : OfTb Tb ok) (C : OfG G) (k a : Nat) (s : Str) (h : Hea) : callF G Tb (k + 1) 30 [.ref a, .str s] h = .ok (.bl false) h := by
  simp [callF, B.t30, runF, c30, Mi.begin, evSs, evS, evE, evEs, callX, callB, fIsinst, isinstD, tyD, C.y2, asD, truD]
theorem cmp_eq (B : OfTb Tb ok) (C : OfG G) (k a b : Nat) (t u : Tr) (h : Hea) (o : Off h a t) (o2 : Off h b u) (d1 : dep t ≤ 20) (d2 : dep u ≤ 20) : cmpX G (callF G Tb (k + 1)) .eq (.ref a) (.ref b) h = .ok (.bl (PyData.eqv (pT t) (pT u))) h := by
  have e1 := eq_ok B C k a b t u h o o2 d1 d2
  unfold Off at o o2
  simp [cmpX, ownEq, insAt, o, o2, C.m3, knownI, C.c1, e1, eqOut]
theorem cmp_ne (B : OfTb Tb ok) (C : OfG G) (k a b : Nat) (t u : Tr) (h : Hea) (o : Off h a t) (o2 : Off h b u) (d1 : dep t ≤ 20) (d2 : dep u ≤ 20) : cmpX G (callF G Tb (k + 1)) .ne (.ref a) (.ref b) h = .ok (.bl (!PyData.eqv (pT t) (pT u))) h := by
  have e1 := eq_ok B C k a b t u h o o2 d1 d2
  unfold Off at o o2
  simp [cmpX, ownEq, insAt, o, o2, C.m3, knownI, C.c1, e1, eqOut]
theorem cmp_tup (B : OfTb Tb ok) (C : OfG G) (k a : Nat) (t : Tr) (u : Tr) (h : Hea) (o : Off h a t) : cmpX G (callF G Tb (k + 1)) .eq (.ref a) (enc u) h = .ok (.bl false) h := by
  have e1 : callF G Tb (k + 1) 30 [.ref a, enc u] h = .ok (.bl false) h := by
    cases u <;> exact eq_tup B C k a _ h
  have ty : (tyD h (enc u)).isSome = true := by cases u <;> rfl
  unfold Off at o
  simp [cmpX, ownEq, insAt, o, C.m3, ty, e1, eqOut]
theorem cmp_str (B : OfTb Tb ok) (C : OfG G) (k a : Nat) (t : Tr) (s : Str) (h : Hea) (o : Off h a t) : cmpX G (callF G Tb (k + 1)) .eq (.ref a) (.str s) h = .ok (.bl false) h := by
  have e1 := eq_str B C k a s h
  unfold Off at o
  simp [cmpX, ownEq, insAt, o, C.m3, tyD, e1, eqOut]
theorem at_ok (B : OfTb Tb ok) (C : OfG G) (k a : Nat) (t u : Tr) (p : List Nat) (ha : atT p t = some u) (hp : p.length < 1000) (hl : lit t) (hs : siz t ≤ 15) (h : Hea) (o : Off h a t) :
    ∃ h', callF G Tb (k + 21) 27 [.ref a, pthD p] h = .ok (.ref h.length) h' ∧ Off h' h.length u ∧ Ex h h' := by
  obtain ⟨lu, su⟩ := lit_at p t u ha hl
  have e11 := is_path_ok (G := G) B.toTreeTb (k + 17) t u p ha hp h
  have e10 := node_at_ok (G := G) B.toTreeTb (k + 19) t u p ha hp h
  have o' := o
  unfold Off at o
  have e26 : callF G Tb (k + 20) 26 [.ref a, pthD p] h = .ok .non h := by
    show callF G Tb ((k + 19) + 1) 26 _ h = _
    unfold callF
    simp [B.t26, runF, c26, Mi.begin, evSs, evS, evE, evEs, insAt, o, C.q1, C.a1, offF, lookF, shape, e11, asD, truD]
  obtain ⟨h', e', o2, x'⟩ := mk_ok B C k u lu (by omega) (.callk 10 [(.fld (.var 0) ("root" : Str)), (.var 1)] [.inl 0, .inl 1]) [some (.ref a), some (pthD p)] h h (by
    simp [evE, evEs, insAt, o, C.q1, C.a1, offF, lookF, shape, e10])
  refine ⟨h', ?_, o2, x'⟩
  show callF G Tb ((k + 20) + 1) 27 _ h = _
  unfold callF
  have s1 : evS G (callF G Tb (k + 20)) (.exp (.meth (.var 0) ("check_path" : Str) [(.var 1)] [.inl 0, .inl 1])) [some (.ref a), some (pthD p)] h = .ok (.nx [some (.ref a), some (pthD p)]) h := by
    simp [evS, evE, evEs, insAt, o, C.m1, offF, lookF, n_rc, n_wc, n_ac, n_sc, shape, e26]
  have s2 : evS G (callF G Tb (k + 20)) (.ret (.mk 1 [(.callk 10 [(.fld (.var 0) ("root" : Str)), (.var 1)] [.inl 0, .inl 1])] [.inl 0, .inl 1])) [some (.ref a), some (pthD p)] h = .ok (.rt (.ref h.length)) h' := by
    rw [evS, e']
    rfl
  simp only [B.t27, runF, c27]
  rw [if_pos (by simp), show Mi.begin ⟨2, 2, _⟩ [D.ref a, pthD p] = [some (.ref a), some (pthD p)] from rfl, ss_nx s1, ss_rt s2]
  rfl
end
end Mi.P
end

section
set_option linter.all false
set_option maxRecDepth 100000
/-! Sr1: the reader of texts: signs and numbers. -/
namespace Mi.P
open PySem
def chS (c : Nat) : Str := ⟨#[c]⟩
theorem l_mi : ("-" : Str) = chS 45 := by decide +kernel
theorem l_bo : ("[" : Str) = chS 91 := by decide +kernel
theorem l_bc : ("]" : Str) = chS 93 := by decide +kernel
theorem l_sp : (" " : Str) = chS 32 := by decide +kernel
theorem l_co : (":" : Str) = chS 58 := by decide +kernel
theorem l_em : ("" : Str) = Str.empty := by decide +kernel
theorem ok_em : PyData.strOk Str.empty = true := by decide +kernel
def rdF (x : Str) (s d : Int) : List (Str × D) := [("signs", .str x), ("spot", .int s), ("depth", .int d)]
def rdO (x : Str) (s d : Int) : O := .ins 0 (rdF x s d)
theorem n_ss : ¬ (("signs" : Str) = ("spot" : Str)) := by decide +kernel
theorem n_sd : ¬ (("signs" : Str) = ("depth" : Str)) := by decide +kernel
theorem n_pd : ¬ (("spot" : Str) = ("depth" : Str)) := by decide +kernel
theorem lk_signs (x : Str) (s d : Int) : lookF (rdF x s d) "signs" = some (.str x) := by simp [rdF, lookF]
theorem lk_spot (x : Str) (s d : Int) : lookF (rdF x s d) "spot" = some (.int s) := by simp [rdF, lookF, n_ss]
theorem lk_depth (x : Str) (s d : Int) : lookF (rdF x s d) "depth" = some (.int d) := by simp [rdF, lookF, n_sd, n_pd]
theorem lk_no {m : Str} (x : Str) (s d : Int) (h1 : ¬ (("signs" : Str) = m)) (h2 : ¬ (("spot" : Str) = m)) (h3 : ¬ (("depth" : Str) = m)) : lookF (rdF x s d) m = none := by simp [rdF, lookF, h1, h2, h3]
theorem lk_sign (x : Str) (s d : Int) : lookF (rdF x s d) "sign" = none := lk_no x s d (by decide +kernel) (by decide +kernel) (by decide +kernel)
theorem lk_number (x : Str) (s d : Int) : lookF (rdF x s d) "number" = none := lk_no x s d (by decide +kernel) (by decide +kernel) (by decide +kernel)
theorem lk_went (x : Str) (s d : Int) : lookF (rdF x s d) "went" = none := lk_no x s d (by decide +kernel) (by decide +kernel) (by decide +kernel)
theorem lk_branch (x : Str) (s d : Int) : lookF (rdF x s d) "branch" = none := lk_no x s d (by decide +kernel) (by decide +kernel) (by decide +kernel)
theorem lk_node (x : Str) (s d : Int) : lookF (rdF x s d) "node" = none := lk_no x s d (by decide +kernel) (by decide +kernel) (by decide +kernel)
theorem pt_spot (x : Str) (s d v : Int) : putF (rdF x s d) "spot" (.int v) = rdF x v d := by simp [rdF, putF, n_ss]
theorem pt_depth (x : Str) (s d v : Int) : putF (rdF x s d) "depth" (.int v) = rdF x s v := by simp [rdF, putF, n_sd, n_pd]
structure RdG (G : GE) : Prop where
  ini : G.init 0 = some 13
  a1 : G.att 0 ("signs" : Str) = true
  a2 : G.att 0 ("spot" : Str) = true
  a3 : G.att 0 ("depth" : Str) = true
  q1 : G.prop 0 ("signs" : Str) = none
  q2 : G.prop 0 ("spot" : Str) = none
  q3 : G.prop 0 ("depth" : Str) = none
  m1 : G.meth 0 ("sign" : Str) = some 14
  m2 : G.meth 0 ("number" : Str) = some 15
  m3 : G.meth 0 ("went" : Str) = some 16
  m4 : G.meth 0 ("branch" : Str) = some 17
  m5 : G.meth 0 ("node" : Str) = some 18
structure RdTb (Tb : Nat → Option FC) (ok : Nat → Nat → Bool) : Prop extends OfTb Tb ok where
  t13 : Tb 13 = some ⟨2, 2, c13⟩
  t14 : Tb 14 = some ⟨1, 1, c14⟩
  t15 : Tb 15 = some ⟨3, 1, c15⟩
  t16 : Tb 16 = some ⟨2, 2, c16⟩
  t17 : Tb 17 = some ⟨3, 1, c17⟩
  t18 : Tb 18 = some ⟨4, 1, c18⟩
  t19 : Tb 19 = some ⟨3, 1, c19⟩
  t21 : Tb 21 = some ⟨2, 1, c21⟩
/-- the sign ahead -/
def sgn : List Nat → Str
  | [] => Str.empty
  | c :: _ => chS c
theorem cut_nat (x : Str) (a b : Nat) : L2.cutS x (some (a : Int)) (some (b : Int)) = ⟨((TL.tl x).drop (min a x.length)).take (min b x.length - min a x.length) |>.toArray⟩ := by
  have h1 : ¬ ((a : Int) < 0) := by omega
  have h2 : ¬ ((b : Int) < 0) := by omega
  have e1 : (a : Int).toNat = a := by omega
  have e2 : (b : Int).toNat = b := by omega
  simp only [L2.cutS, HT.sIx, h1, h2, if_false, e1, e2, TL.tl]
theorem cut_sgn (x : Str) (s : Nat) (r : List Nat) (hr : (TL.tl x).drop s = r) (hs : s ≤ x.length) : L2.cutS x (some (s : Int)) (some ((s : Int) + 1)) = sgn r := by
  have : ((s : Int) + 1) = ((s + 1 : Nat) : Int) := by omega
  rw [this, cut_nat, Nat.min_eq_left hs, hr]
  have hl : r.length = x.length - s := by rw [← hr, List.length_drop, TL.len_tl]
  cases r with
  | nil =>
    simp [sgn]
    rfl
  | cons c r =>
    simp only [List.length_cons] at hl
    rw [Nat.min_eq_left (by omega)]
    simp [sgn, chS]
theorem sgn_ok {x : Str} (hx : asc x) (s : Nat) : PyData.strOk (sgn ((TL.tl x).drop s)) = true := by
  cases h : (TL.tl x).drop s with
  | nil => exact ok_em
  | cons c r =>
    have m : c ∈ TL.tl x := List.mem_of_mem_drop (by rw [h]; simp)
    have : c < 128 := by
      have := Array.all_eq_true_iff_forall_mem.mp hx c (by simpa [TL.tl] using m)
      simpa using this
    simp [sgn, chS, PyData.strOk]
    omega
theorem chS_ok {c : Nat} (h : c < 128) : PyData.strOk (chS c) = true := by
  simp [chS, PyData.strOk]; omega
theorem sgn_eq (r : List Nat) (c : Nat) : (sgn r = chS c) ↔ r.head? = some c := by
  cases r with
  | nil => simp [sgn, chS, Str.empty]
  | cons a r => simp [sgn, chS]
theorem sgn_em (r : List Nat) : (sgn r = Str.empty) ↔ r = [] := by
  cases r with
  | nil => simp [sgn]
  | cons a r => simp [sgn, chS, Str.empty]
section
variable {G : GE} {Tb : Nat → Option FC} {ok : Nat → Nat → Bool}
/-- a reader at a spot with what is left -/
structure Rd (h : Hea) (a : Nat) (x : Str) (s : Nat) (d : Int) (r : List Nat) : Prop where
  at_ : h[a]? = some (rdO x s d)
  left : (TL.tl x).drop s = r
  le : s ≤ x.length
  asc : asc x
  sz : x.length ≤ SZ
theorem Rd.get {h h' : Hea} {a : Nat} {x : Str} {s : Nat} {d : Int} {r : List Nat} (R : Rd h a x s d r) (g : h'[a]? = some (rdO x s d)) : Rd h' a x s d r := ⟨g, R.left, R.le, R.asc, R.sz⟩
theorem sign_ok (B : RdTb Tb ok) (C : RdG G) (k a : Nat) (h : Hea) {x : Str} {s : Nat} {d : Int} {r : List Nat} (R : Rd h a x s d r) : callF G Tb (k + 1) 14 [.ref a] h = .ok (.str (sgn r)) h := by
  have e := cut_sgn x s r R.left R.le
  have g := R.at_
  have z := R.sz
  simp only [rdO] at g
  simp [callF, B.t14, runF, c14, Mi.begin, evSs, evS, evE, insAt, g, C.q1, C.q2, C.a1, C.a2, lk_signs, lk_spot, opB, opAdd, sliD, z, e]
/-- self.sign() -/
theorem m_sign (B : RdTb Tb ok) (C : RdG G) (k a : Nat) (h : Hea) {x : Str} {s : Nat} {d : Int} {r : List Nat} (R : Rd h a x s d r) (σ : Loc) (hv : σ[0]? = some (some (.ref a))) : evE G (callF G Tb (k + 1)) (.meth (.var 0) ("sign" : Str) [] [.inl 0]) σ h = .ok (.str (sgn r)) h := by
  have e := sign_ok B C k a h R
  have g := R.at_
  simp only [rdO] at g
  simp [evE, evEs, hv, insAt, g, C.m1, lk_sign, shape, e]
theorem cmp_sgn {x : Str} {h : Hea} {a s : Nat} {d : Int} {r : List Nat} (R : Rd h a x s d r) (h' : Hea) (c : Nat) (hc : c < 128) : eqD h' (.str (sgn r)) (.str (chS c)) = some (decide (r.head? = some c)) := by
  have := sgn_ok R.asc s
  rw [R.left] at this
  rw [eqD_str h' _ _ this (chS_ok hc)]
  congr 1
  exact decide_eq_decide.mpr (sgn_eq r c)
theorem cmp_em {x : Str} {h : Hea} {a s : Nat} {d : Int} {r : List Nat} (R : Rd h a x s d r) (h' : Hea) : eqD h' (.str (sgn r)) (.str Str.empty) = some (decide (r = [])) := by
  have := sgn_ok R.asc s
  rw [R.left] at this
  rw [eqD_str h' _ _ this ok_em]
  congr 1
  exact decide_eq_decide.mpr (sgn_em r)
/-- self.spot += 1 -/
theorem s_spot (C : RdG G) (Φ : Orc) (a : Nat) (h : Hea) {x : Str} {s : Nat} {d : Int} {c : Nat} {r : List Nat} (R : Rd h a x s d (c :: r)) (σ : Loc) (hv : σ[0]? = some (some (.ref a))) :
    evS G Φ (.augF (.var 0) ("spot" : Str) .add (.lit (.int (1)))) σ h = .ok (.nx σ) (h.set a (rdO x ((s + 1 : Nat) : Int) d)) ∧ Rd (h.set a (rdO x ((s + 1 : Nat) : Int) d)) a x (s + 1) d r := by
  have g := R.at_
  have gl := lt_of_get g
  have g' := g
  simp only [rdO] at g
  constructor
  · simp [evS, evE, hv, insAt, g, lk_spot, C.a2, augD, setF, rdF, putF, n_ss, rdO, lookF]
  · have hl : (TL.tl x).length = x.length := (TL.len_tl x).symm
    have : ((TL.tl x).drop s).length = r.length + 1 := by rw [R.left]; rfl
    rw [List.length_drop, hl] at this
    refine ⟨List.getElem?_set_self gl, ?_, by omega, R.asc, R.sz⟩
    rw [← List.drop_drop, R.left]
    rfl
theorem went_no (B : RdTb Tb ok) (C : RdG G) (k a : Nat) (h : Hea) {x : Str} {s : Nat} {d : Int} {r : List Nat} (R : Rd h a x s d r) (c : Nat) (hc : c < 128) (hn : r.head? ≠ some c) : callF G Tb (k + 2) 16 [.ref a, .str (chS c)] h = .ok (.bl false) h := by
  have e := m_sign B C k a h R [some (.ref a), some (.str (chS c))] rfl
  have q := cmp_sgn R h c hc
  show callF G Tb ((k + 1) + 1) 16 _ h = _
  unfold callF
  generalize CE.meth (.var 0) ("sign" : Str) [] [.inl 0] = M at e
  have cc : c16 = [.iff (.cmp .ne (.meth (.var 0) ("sign" : Str) [] [.inl 0]) (.var 1)) [.ret (.lit (.bl false))] [], .augF (.var 0) ("spot" : Str) .add (.lit (.int (1))), .ret (.lit (.bl true))] := rfl
  have e := m_sign B C k a h R [some (.ref a), some (.str (chS c))] rfl
  simp only [B.t16, runF, cc]
  rw [if_pos (by rfl), show Mi.begin ⟨2, 2, _⟩ [D.ref a, D.str (chS c)] = [some (.ref a), some (.str (chS c))] from rfl]
  rw [ss_rt (d := .bl false) (h1 := h)]
  · rfl
  · rw [evS, evE, e]
    simp [evE, evS, evSs, cmpX, ownEq, insAt, cmpG, opC, q, asD, truD, hn]
theorem went_yes (B : RdTb Tb ok) (C : RdG G) (k a : Nat) (h : Hea) {x : Str} {s : Nat} {d : Int} {c : Nat} {r : List Nat} (R : Rd h a x s d (c :: r)) (hc : c < 128) :
    callF G Tb (k + 2) 16 [.ref a, .str (chS c)] h = .ok (.bl true) (h.set a (rdO x ((s + 1 : Nat) : Int) d)) := by
  have q := cmp_sgn R h c hc
  show callF G Tb ((k + 1) + 1) 16 _ h = _
  unfold callF
  have cc : c16 = [.iff (.cmp .ne (.meth (.var 0) ("sign" : Str) [] [.inl 0]) (.var 1)) [.ret (.lit (.bl false))] [], .augF (.var 0) ("spot" : Str) .add (.lit (.int (1))), .ret (.lit (.bl true))] := rfl
  have e := m_sign B C k a h R [some (.ref a), some (.str (chS c))] rfl
  simp only [B.t16, runF, cc]
  rw [if_pos (by rfl), show Mi.begin ⟨2, 2, _⟩ [D.ref a, D.str (chS c)] = [some (.ref a), some (.str (chS c))] from rfl]
  rw [ss_nx (σ1 := [some (.ref a), some (.str (chS c))]) (h1 := h), ss_nx (s_spot C _ a h R _ rfl).1]
  · rfl
  · rw [evS, evE, e]
    simp [evE, evS, evSs, cmpX, ownEq, insAt, cmpG, opC, q, asD, truD]
end
end Mi.P
end

section
set_option linter.all false
set_option maxRecDepth 100000
/-! Sr2: a number is read. -/
namespace Mi.P
open PySem
theorem Kp.set1 (h : Hea) (a : Nat) (o : O) : Kp (fun j => j = a) h (h.set a o) := Kp.set h a o (Eq.refl a)
theorem eqv_str (x y : Str) : PyData.eqv (.str x) (.str y) = (x == y) := by rw [PyData.eqv]
def sgL (l : List Nat) : List Nat := if l.head? = some 45 then [45] else []
def dgL (l : List Nat) : List Nat := if l.head? = some 45 then l.tail else l
theorem sg_dg (l : List Nat) : sgL l ++ dgL l = l := by
  unfold sgL dgL
  cases l with
  | nil => rfl
  | cons c r =>
    by_cases h : c = 45
    · subst h; simp
    · simp [h]
def numB (n : Int) : Bool := (dgL (TL.tl (num n)) != []) && (dgL (TL.tl (num n))).all (fun c => decide (48 ≤ c) && decide (c ≤ 57)) && decide (PySem.intText? (num n) = some n) && decide ((num n).length ≤ 2) && !decide (num n = Str.empty) && !decide (num n = chS 45)
theorem num_all (n : Int) (h : small n) : numB n = true := by
  have k : ∀ i : Fin 88, numB ((i.val : Int) - 8) = true := by decide +kernel
  have := k ⟨(n + 8).toNat, by unfold small at h; omega⟩
  have e : (((n + 8).toNat : Nat) : Int) - 8 = n := by unfold small at h; omega
  rwa [e] at this
def dig (c : Nat) : Prop := 48 ≤ c ∧ c ≤ 57
def Tm (r : List Nat) : Prop := r = [] ∨ ∃ c r', r = c :: r' ∧ (c = 32 ∨ c = 58 ∨ c = 91 ∨ c = 93)
abbrev DG : Str := "0123456789"
theorem dig_in (c : Nat) (h : dig c) : (Builtin.Str.occurrences DG (chS c) 0 DG.length 1).isEmpty = false := by
  have k : ∀ i : Fin 10, (Builtin.Str.occurrences DG (chS (i.val + 48)) 0 DG.length 1).isEmpty = false := by decide +kernel
  have := k ⟨c - 48, by unfold dig at h; omega⟩
  have e : c - 48 + 48 = c := by unfold dig at h; omega
  simpa [e] using this
theorem tm_in (c : Nat) (h : c = 32 ∨ c = 58 ∨ c = 91 ∨ c = 93) : (Builtin.Str.occurrences DG (chS c) 0 DG.length 1).isEmpty = true := by
  rcases h with rfl | rfl | rfl | rfl <;> decide +kernel
section
variable {G : GE} {Tb : Nat → Option FC} {ok : Nat → Nat → Bool}
theorem num_cond (B : RdTb Tb ok) (C : RdG G) (k a : Nat) (h : Hea) {x : Str} {s : Nat} {d : Int} {r : List Nat} (R : Rd h a x s d r) (σ : Loc) (hv : σ[0]? = some (some (.ref a))) :
    ((evE G (callF G Tb (k + 1)) c15w0c σ h).bind fun x k1 => asD x k1) = .ok (!decide (r = []) && !(Builtin.Str.occurrences DG (sgn r) 0 DG.length 1).isEmpty) h := by
  have e := m_sign B C k a h R σ hv
  have q := cmp_em R h
  unfold c15w0c
  generalize CE.meth (.var 0) ("sign" : Str) [] [.inl 0] = M at e ⊢
  simp only [evE, e, Out.bind_ok, cmpX, ownEq, insAt, Option.bind_none, cmpG, opC, l_em, q, Option.map_some, lift_some, asD, truD, inD]
  by_cases hr : r = []
  · simp [hr, asD, truD]
  · simp [hr, asD, truD, DG]
theorem num_loop (B : RdTb Tb ok) (C : RdG G) (k a : Nat) (x : Str) (d : Int) (r : List Nat) (hr : Tm r) (σ : Loc) (hv : σ[0]? = some (some (.ref a))) : ∀ (ds : List Nat) (fuel : Nat) (h : Hea) (s : Nat), ds.length < fuel → (∀ c ∈ ds, dig c) → Rd h a x s d (ds ++ r) →
    ∃ h', whGo (fun s k' => (evE G (callF G Tb (k + 1)) c15w0c s k').bind fun x k1 => asD x k1) (evSs G (callF G Tb (k + 1)) c15w0b) fuel σ h = .ok (.nx σ) h' ∧ Rd h' a x (s + ds.length) d r ∧ Kp (fun j => j = a) h h'
  | _, 0, h, s, l, _, _ => by omega
  | [], fuel + 1, h, s, l, hd, R => by
    have e := num_cond B C k a h R σ hv
    have cf : (!decide (([] ++ r : List Nat) = []) && !(Builtin.Str.occurrences DG (sgn ([] ++ r)) 0 DG.length 1).isEmpty) = false := by
      rcases hr with rfl | ⟨c, r', rfl, hc⟩
      · simp
      · have := tm_in c hc
        simp [sgn, this]
    rw [cf] at e
    refine ⟨h, ?_, by simpa using R, Kp.rfl⟩
    unfold whGo
    simp only [e, Out.bind_ok]
    rfl
  | c :: ds, fuel + 1, h, s, l, hd, R => by
    have e := num_cond B C k a h R σ hv
    have hc := dig_in c (hd c (by simp))
    have cf : (!decide ((c :: ds ++ r : List Nat) = []) && !(Builtin.Str.occurrences DG (sgn (c :: ds ++ r)) 0 DG.length 1).isEmpty) = true := by
      simp [sgn, hc]
    rw [cf] at e
    obtain ⟨e1, R1⟩ := s_spot C (callF G Tb (k + 1)) a h R σ hv
    obtain ⟨h', e', R', x'⟩ := num_loop B C k a x d r hr σ hv ds fuel _ (s + 1) (by simpa using l) (fun c hc => hd c (by simp [hc])) R1
    refine ⟨h', ?_, by simpa [Nat.add_assoc, Nat.add_comm 1] using R', (Kp.set1 h a _).trans x'⟩
    unfold whGo
    simp only [e, Out.bind_ok, c15w0b, evSs, e1, if_true]
    exact e'
theorem fInt_num (h : Hea) (n : Int) (hs : small n) : fInt [.str (num n)] h = .ok (.int n) h := by
  have := num_all n hs
  simp only [numB, Bool.and_eq_true, decide_eq_true_eq] at this
  obtain ⟨⟨⟨⟨⟨a1, a2⟩, a3⟩, a4⟩, a5⟩, a6⟩ := this
  simp [fInt, a3]
  omega
theorem number_ok (B : RdTb Tb ok) (C : RdG G) (k a : Nat) (h : Hea) {x : Str} {s : Nat} {d : Int} (n : Int) (hn : small n) (r : List Nat) (hr : Tm r) (R : Rd h a x s d (TL.tl (num n) ++ r)) :
    ∃ h', callF G Tb (k + 2) 15 [.ref a] h = .ok (.int n) h' ∧ Rd h' a x (s + (num n).length) d r ∧ Kp (fun j => j = a) h h' := by
  have f : FUEL = 18446744073709551616 := rfl
  have nb := num_all n hn
  simp only [numB, Bool.and_eq_true, decide_eq_true_eq] at nb
  obtain ⟨⟨⟨⟨⟨a1, a2⟩, a3⟩, a4⟩, a5⟩, a6⟩ := nb
  have sd := sg_dg (TL.tl (num n))
  have g := R.at_
  -- the statements
  have s1 : evS G (callF G Tb (k + 1)) (.asg 1 (.fld (.var 0) ("spot" : Str))) [some (.ref a), none, none] h = .ok (.nx [some (.ref a), some (.int s), none]) h := by
    simp only [rdO] at g
    simp [evS, evE, insAt, g, C.q2, C.a2, lk_spot]
  have s2 : ∃ h1, evS G (callF G Tb (k + 1)) (.iff (.cmp .eq (.meth (.var 0) ("sign" : Str) [] [.inl 0]) (.lit (.str ("-" : Str)))) [.augF (.var 0) ("spot" : Str) .add (.lit (.int (1)))] []) [some (.ref a), some (.int s), none] h = .ok (.nx [some (.ref a), some (.int s), none]) h1 ∧ Rd h1 a x (s + (sgL (TL.tl (num n))).length) d (dgL (TL.tl (num n)) ++ r) ∧ Kp (fun j => j = a) h h1 := by
    have e := m_sign B C k a h R [some (.ref a), some (.int s), none] rfl
    have q := cmp_sgn R h 45 (by omega)
    by_cases hh : (TL.tl (num n)).head? = some 45
    · cases hl : TL.tl (num n) with
      | nil => rw [hl] at hh; cases hh
      | cons c l =>
        rw [hl] at hh
        have hc : c = 45 := by simpa using hh
        subst hc
        rw [hl] at R q
        simp only [List.cons_append] at R q
        have q' : eqD h (.str (sgn (TL.tl (num n) ++ r))) (.str (chS 45)) = some true := by rw [hl]; simpa using q
        obtain ⟨e1, R1⟩ := s_spot C (callF G Tb (k + 1)) a h R [some (.ref a), some (.int s), none] rfl
        refine ⟨h.set a (rdO x ((s + 1 : Nat) : Int) d), ?_, ?_, Kp.set1 h a _⟩
        · rw [evS, evE, e]
          simp only [evE, Out.bind_ok, cmpX, ownEq, insAt, Option.bind_none, cmpG, opC, l_mi, q', Option.map_some, lift_some, asD, truD, if_true, evSs, e1]
        · simpa [sgL, dgL] using R1
    · have hh2 : ¬ ((TL.tl (num n) ++ r).head? = some 45) := by
        cases hl : TL.tl (num n) with
        | nil => rw [hl] at a1; simp [dgL] at a1
        | cons c l => rw [hl] at hh; simpa using hh
      have q' : eqD h (.str (sgn (TL.tl (num n) ++ r))) (.str (chS 45)) = some false := by rw [q, decide_eq_false hh2]
      refine ⟨h, ?_, ?_, Kp.rfl⟩
      · rw [evS, evE, e]
        simp only [evE, Out.bind_ok, cmpX, ownEq, insAt, Option.bind_none, cmpG, opC, l_mi, q', Option.map_some, lift_some, asD, truD, Bool.false_eq_true, if_false, evSs]
      · simpa [sgL, dgL, hh] using R
  obtain ⟨h1, e2, R2, x2⟩ := s2
  have dl : (dgL (TL.tl (num n))).length ≤ 2 := by
    have e : (TL.tl (num n)).length = (num n).length := (TL.len_tl (num n)).symm
    have : (sgL (TL.tl (num n)) ++ dgL (TL.tl (num n))).length = (num n).length := by rw [sd, e]
    rw [List.length_append] at this
    omega
  obtain ⟨h2, e3, R3, x3⟩ := num_loop B C k a x d r hr [some (.ref a), some (.int s), none] rfl (dgL (TL.tl (num n))) FUEL h1 _ (by omega) (fun c hc => by
    have := List.all_eq_true.mp a2 c hc
    simpa [dig] using this) R2
  have ln : s + (sgL (TL.tl (num n))).length + (dgL (TL.tl (num n))).length = s + (num n).length := by
    have e : (TL.tl (num n)).length = (num n).length := (TL.len_tl (num n)).symm
    have : (sgL (TL.tl (num n)) ++ dgL (TL.tl (num n))).length = (num n).length := by rw [sd, e]
    rw [List.length_append] at this
    omega
  rw [ln] at R3
  have g3 := R3.at_
  simp only [rdO] at g3
  have cw : L2.cutS x (some (s : Int)) (some ((s + (num n).length : Nat) : Int)) = num n := by
    rw [cut_nat, Nat.min_eq_left R.le, Nat.min_eq_left R3.le, R.left]
    have : s + (num n).length - s = (TL.tl (num n)).length := by rw [← TL.len_tl]; omega
    rw [this, List.take_left', TL.mk_tl]
    rfl
  have s4 : evS G (callF G Tb (k + 1)) (.asg 2 (.sliB (.fld (.var 0) ("signs" : Str)) (.var 1) (.fld (.var 0) ("spot" : Str)))) [some (.ref a), some (.int s), none] h2 = .ok (.nx [some (.ref a), some (.int s), some (.str (num n))]) h2 := by
    simp [evS, evE, insAt, g3, C.q1, C.q2, C.a1, C.a2, lk_signs, lk_spot, sliD, R.sz, cw]
    simpa using cw
  have na := asc_ok (num_ch n hn)
  have q1 : ∀ h : Hea, inD h (.str (num n)) (.tup [.str Str.empty, .str (chS 45)]) = some false := by
    intro h
    have t1 : (num n = Str.empty) = False := by simpa using a5
    have t2 : (num n = chS 45) = False := by simpa using a6
    have b1 : (Str.empty == num n) = false := by
      cases hb : (Str.empty == num n) with
      | false => rfl
      | true => exact absurd (eq_of_beq hb).symm (by simp [t1])
    have b2 : (chS 45 == num n) = false := by
      cases hb : (chS 45 == num n) with
      | false => rfl
      | true => exact absurd (eq_of_beq hb).symm (by simp [t2])
    have c1 := chS_ok (c := 45) (by omega)
    have p1 : pd h (.str (num n)) = some (.str (num n)) := by simp [pd, pdD, SeqAt.shaped, PyData.canLay0, PyData.depth, na]
    have p2 : pd h (.tup [.str Str.empty, .str (chS 45)]) = some (.tuple [.str Str.empty, .str (chS 45)]) := by simp [pd, pdD, pdDs, SeqAt.shaped, PyData.canLay0, PyData.canLayAll0, PyData.depth, PyData.depthAll, ok_em, c1]
    have v1 : PyData.eqv (.str Str.empty) (.str (num n)) = false := (eqv_str _ _).trans b1
    have v2 : PyData.eqv (.str (chS 45)) (.str (num n)) = false := (eqv_str _ _).trans b2
    simp only [inD, p1, p2, Option.bind_some, List.any_cons, List.any_nil, v1, v2, Bool.or_false]
  have q2 : ∀ h : Hea, eqD h (.str (num n)) (.str (num n)) = some true := fun h => by rw [eqD_str h _ _ na na]; simp
  have lz : (num n).length ≤ SZ := by
    have z : SZ = 16777216 := rfl
    omega
  have l9 : ¬ ((9 : Int) < ((num n).length : Nat)) := by omega
  have fm : fmtD (.int n) = some (.str (num n)) := by simp [fmtD, num_smallI n hn, num]
  have s5 : evS G (callF G Tb (k + 1)) (.iff (.or (.cmp .in_ (.var 2) (.tup [(.lit (.str ("" : Str))), (.lit (.str ("-" : Str)))])) (.or (.cmp .gt (.bi .len [(.var 2)]) (.lit (.int (9)))) (.cmp .ne (.fmt (.bi .int [(.var 2)])) (.var 2)))) [.ret (.lit .non)] []) [some (.ref a), some (.int s), some (.str (num n))] h2 = .ok (.nx [some (.ref a), some (.int s), some (.str (num n))]) h2 := by
    have z2 : 2 ≤ SZ := by
      have z : SZ = 16777216 := rfl
      omega
    simp only [evS, evE, evEs, List.getElem?_cons_zero, List.getElem?_cons_succ, Out.bind_ok, List.length_cons, List.length_nil, z2, if_true, cmpX, ownEq, insAt, Option.bind_none, cmpG, opC, l_em, l_mi, q1, Option.map_some, lift_some, asD, truD, Bool.false_eq_true, if_false, callX, callB, fLen, lenD, lz, decide_eq_false l9, fInt_num _ n hn, fm, q2, Bool.not_true, evSs]
  refine ⟨h2, ?_, R3, x2.trans x3⟩
  show callF G Tb ((k + 1) + 1) 15 _ h = _
  unfold callF
  simp only [B.t15, runF, c15_w]
  rw [if_pos (by rfl), show Mi.begin ⟨3, 1, _⟩ [D.ref a] = [some (.ref a), none, none] from rfl, ss_nx s1, ss_nx e2, ss_nx (σ1 := [some (.ref a), some (.int s), none]) (h1 := h2) (by rw [evS]; exact e3), ss_nx s4, ss_nx s5]
  simp only [evSs, evS, evE, evEs, List.getElem?_cons_zero, List.getElem?_cons_succ, Out.bind_ok, callX, callB, fInt_num _ n hn]
end
end Mi.P
end

section
set_option linter.all false
set_option maxRecDepth 100000
/-! Sr3: a tree is read. -/
namespace Mi.P
open PySem
def sepc (c : Nat) : Trs → List Nat
  | .nil => []
  | .cons w t r => c :: (TL.tl (num w) ++ 58 :: TL.tl (txt t)) ++ sepc 32 r
theorem join_sep : ∀ (r : Trs) (w : Int) (t : Tr), TL.tl (Str.join (" " : Str) (txts (.cons w t r))) = (TL.tl (num w) ++ 58 :: TL.tl (txt t)) ++ sepc 32 r
  | .nil, w, t => by
    simp only [txts, Str.join, emp_app, sepc, List.append_nil]
    rw [TL.tl_append, TL.tl_append, l_co]
    simp [chS, TL.tl]
  | .cons w' t' r, w, t => by
    have ih := join_sep r w' t'
    simp only [txts] at ih ⊢
    rw [Str.join, TL.tl_append, TL.tl_append, ih]
    · simp only [emp_app, sepc]
      rw [TL.tl_append, TL.tl_append, l_co, l_sp]
      simp [chS, TL.tl]
    · simp
theorem txt_sep (n : Int) (w : Int) (t : Tr) (r : Trs) : TL.tl (txt (.stp n (.cons w t r))) = TL.tl (num n) ++ (sepc 91 (.cons w t r) ++ [93]) := by
  have := join_sep r w t
  simp only [txt, emp_app, jn]
  rw [TL.tl_append, TL.tl_append, TL.tl_append, this, l_bo, l_bc]
  simp [chS, TL.tl, sepc]
def FN (r : List Nat) : Prop := r = [] ∨ ∃ c r', r = c :: r' ∧ (c = 32 ∨ c = 93)
theorem FN.tm {r : List Nat} (h : FN r) : Tm r := by
  rcases h with h | ⟨c, r', e, h⟩
  · exact .inl h
  · exact .inr ⟨c, r', e, by omega⟩
theorem FN.no {r : List Nat} (h : FN r) : r.head? ≠ some 91 := by
  rcases h with rfl | ⟨c, r', rfl, h⟩
  · simp
  · simp; omega
theorem Kp.drop_new {S : Nat → Prop} {h0 h h' : Hea} {b : Nat} (x : Kp S h0 h) (y : Kp (fun j => S j ∨ j = b) h h') (hb : h0.length ≤ b) : Kp S h0 h' := ⟨Nat.le_trans x.1 y.1, fun j hj hs => (y.2 j (Nat.lt_of_lt_of_le hj x.1) (by
  rintro (s | s)
  · exact hs s
  · omega)).trans (x.2 j hj hs)⟩
section
variable {G : GE} {Tb : Nat → Option FC} {ok : Nat → Nat → Bool}
theorem m_number (B : RdTb Tb ok) (C : RdG G) (L a : Nat) (hL : 2 ≤ L) (h : Hea) {x : Str} {s : Nat} {d : Int} (n : Int) (hn : small n) (r : List Nat) (hr : Tm r) (R : Rd h a x s d (TL.tl (num n) ++ r)) (σ : Loc) (hv : σ[0]? = some (some (.ref a))) :
    ∃ h', evE G (callF G Tb L) (.meth (.var 0) ("number" : Str) [] [.inl 0]) σ h = .ok (.int n) h' ∧ Rd h' a x (s + (num n).length) d r ∧ Kp (fun j => j = a) h h' := by
  obtain ⟨k, rfl⟩ := Nat.exists_eq_add_of_le' hL
  obtain ⟨h', e, R', x'⟩ := number_ok B C k a h n hn r hr R
  refine ⟨h', ?_, R', x'⟩
  have g := R.at_
  simp only [rdO] at g
  simp [evE, evEs, hv, insAt, g, C.m2, lk_number, shape, e]
theorem m_went_yes (B : RdTb Tb ok) (C : RdG G) (L a : Nat) (hL : 2 ≤ L) (h : Hea) {x : Str} {s : Nat} {d : Int} {c : Nat} {r : List Nat} (R : Rd h a x s d (c :: r)) (hc : c < 128) (σ : Loc) (hv : σ[0]? = some (some (.ref a))) (e : CE) (he : evE G (callF G Tb L) e σ h = .ok (.str (chS c)) h) :
    ∃ h', evE G (callF G Tb L) (.meth (.var 0) ("went" : Str) [e] [.inl 0, .inl 1]) σ h = .ok (.bl true) h' ∧ Rd h' a x (s + 1) d r ∧ Kp (fun j => j = a) h h' ∧ h' = h.set a (rdO x ((s + 1 : Nat) : Int) d) := by
  obtain ⟨k, rfl⟩ := Nat.exists_eq_add_of_le' hL
  have e1 := went_yes B C k a h R hc
  have R1 := (s_spot C (callF G Tb 0) a h R σ hv).2
  refine ⟨_, ?_, R1, Kp.set1 h a _, rfl⟩
  have g := R.at_
  simp only [rdO] at g
  simp only [evE, evEs, hv, Out.bind_ok, insAt, g, C.m3, lk_went, shape, he, List.getElem?_cons_zero, List.getElem?_cons_succ, Option.bind_some, Option.map_some, e1]
theorem m_went_no (B : RdTb Tb ok) (C : RdG G) (L a : Nat) (hL : 2 ≤ L) (h : Hea) {x : Str} {s : Nat} {d : Int} {r : List Nat} (R : Rd h a x s d r) (c : Nat) (hc : c < 128) (hn : r.head? ≠ some c) (σ : Loc) (hv : σ[0]? = some (some (.ref a))) (e : CE) (he : evE G (callF G Tb L) e σ h = .ok (.str (chS c)) h) :
    evE G (callF G Tb L) (.meth (.var 0) ("went" : Str) [e] [.inl 0, .inl 1]) σ h = .ok (.bl false) h := by
  obtain ⟨k, rfl⟩ := Nat.exists_eq_add_of_le' hL
  have e1 := went_no B C k a h R c hc hn
  have g := R.at_
  simp only [rdO] at g
  simp only [evE, evEs, hv, Out.bind_ok, insAt, g, C.m3, lk_went, shape, he, List.getElem?_cons_zero, List.getElem?_cons_succ, Option.bind_some, Option.map_some, e1]
theorem s_depth (C : RdG G) (Φ : Orc) (a : Nat) (h : Hea) {x : Str} {s : Nat} {d : Int} {r : List Nat} (R : Rd h a x s d r) (σ : Loc) (hv : σ[0]? = some (some (.ref a))) :
    evS G Φ (.augF (.var 0) ("depth" : Str) .add (.lit (.int (1)))) σ h = .ok (.nx σ) (h.set a (rdO x s (d + 1))) ∧ Rd (h.set a (rdO x s (d + 1))) a x s (d + 1) r := by
  have g := R.at_
  have gl := lt_of_get g
  simp only [rdO] at g
  refine ⟨?_, List.getElem?_set_self gl, R.left, R.le, R.asc, R.sz⟩
  simp [evS, evE, hv, insAt, g, lk_depth, C.a3, augD, setF, rdF, putF, n_sd, n_pd, rdO, lookF]
theorem s_depthm (C : RdG G) (Φ : Orc) (a : Nat) (h : Hea) {x : Str} {s : Nat} {d : Int} {r : List Nat} (R : Rd h a x s (d + 1) r) (σ : Loc) (hv : σ[0]? = some (some (.ref a))) :
    evS G Φ (.augF (.var 0) ("depth" : Str) .sub (.lit (.int (1)))) σ h = .ok (.nx σ) (h.set a (rdO x s d)) ∧ Rd (h.set a (rdO x s d)) a x s d r := by
  have g := R.at_
  have gl := lt_of_get g
  simp only [rdO] at g
  refine ⟨?_, List.getElem?_set_self gl, R.left, R.le, R.asc, R.sz⟩
  simp [evS, evE, hv, insAt, g, lk_depth, C.a3, augD, setF, rdF, putF, n_sd, n_pd, rdO, lookF]
/-- the sign a loop waits for -/
def sgc (done : List D) : Nat := if done = [] then 91 else 32
theorem ite_sgn (Φ : Orc) (σ : Loc) (b : Nat) (done : List D) (h : Hea) (hb : h[b]? = some (.lst done)) (hv : σ[2]? = some (some (.ref b))) :
    evE G Φ (.ite (.cmp .eq (.bi .len [(.var 2)]) (.lit (.int (0)))) (.lit (.str ("[" : Str))) (.lit (.str (" " : Str)))) σ h = .ok (.str (chS (sgc done))) h := by
  have q : eqD h (.int (done.length : Int)) (.int 0) = some (decide (done = [])) := by
    simp [eqD, pd, pdD, SeqAt.shaped, PyData.canLay0, PyData.depth]
    rw [PyData.eqv]
    cases done with
    | nil => rfl
    | cons a r =>
      simp
      omega
  simp only [evE, evEs, hv, Out.bind_ok, callX, callB, fLen, lenD, hb, Option.map_some, lift_some, cmpX, ownEq, insAt, Option.bind_none, cmpG, opC, q, asD, truD, l_bo, l_sp, sgc, decide_eq_true_eq]
  by_cases hd : done = [] <;> simp [hd, evE]
mutual
theorem node_ok (B : RdTb Tb ok) (C : RdG G) : ∀ (t : Tr) (L : Nat), 2 * dep t + 4 ≤ L → ∀ (h : Hea) (a : Nat) (x : Str) (s : Nat) (d : Int) (r : List Nat), lit t → d + dep t ≤ 15 → FN r → Rd h a x s d (TL.tl (txt t) ++ r) →
    ∃ h', callF G Tb L 18 [.ref a] h = .ok (enc t) h' ∧ Rd h' a x (s + (txt t).length) d r ∧ Kp (fun j => j = a) h h'
  | _, 0, hL, _, _, _, _, _, _, _, _, _, _ => by omega
  | .fin n, L + 1, hL, h, a, x, s, d, r, hl, hd, hr, R => by
    obtain ⟨h1, e1, R1, x1⟩ := m_number B C L a (by simp [dep] at hL; omega) h n hl r hr.tm (by simpa [txt] using R) [some (.ref a), none, none, none] rfl
    refine ⟨h1, ?_, by simpa [txt] using R1, x1⟩
    obtain ⟨k, rfl⟩ : ∃ k, L = k + 1 := ⟨L - 1, by simp [dep] at hL; omega⟩
    have e2 := m_sign B C k a h1 R1 [some (.ref a), some (.int n), none, none] rfl
    have q := cmp_sgn R1 h1 91 (by omega)
    rw [decide_eq_false hr.no] at q
    have z2 : 2 ≤ SZ := by decide
    unfold callF
    simp only [B.t18, runF, c18_w]
    rw [if_pos (by rfl), show Mi.begin ⟨4, 1, _⟩ [D.ref a] = [some (.ref a), none, none, none] from rfl]
    generalize CE.meth (.var 0) ("number" : Str) [] [.inl 0] = M1 at e1 ⊢
    generalize CE.meth (.var 0) ("sign" : Str) [] [.inl 0] = M2 at e2 ⊢
    rw [ss_nx (σ1 := [some (.ref a), some (.int n), none, none]) (h1 := h1) (by simp only [evS, e1, Out.bind_ok, List.set_cons_succ, List.set_cons_zero])]
    rw [ss_rt (d := enc (.fin n)) (h1 := h1) (by
      simp only [evS, evE, evEs, evSs, List.getElem?_cons_zero, List.getElem?_cons_succ, Out.bind_ok, cmpX, ownEq, insAt, Option.bind_none, cmpG, opC, isNon, Option.map_some, lift_some, asD, truD, Bool.false_eq_true, if_false, e2, l_bo, q, Bool.not_false, if_true, List.length_cons, List.length_nil, z2, enc])]
    rfl
  | .stp n .nil, L + 1, hL, h, a, x, s, d, r, hl, hd, hr, R => by
    have := hl.2.2.2.2
    simp [Trs.len] at this
  | .stp n (.cons w t rs), L + 1, hL, h, a, x, s, d, r, hl, hd, hr, R => by
    have f : FUEL = 18446744073709551616 := rfl
    have zz : SZ = 16777216 := rfl
    have tx := txt_sep n w t rs
    have ln : (txt (.stp n (.cons w t rs))).length = (num n).length + (sepc 91 (.cons w t rs)).length + 1 := by
      have := congrArg List.length tx
      rw [← TL.len_tl, List.length_append, ← TL.len_tl] at this
      rw [this]; simp; omega
    rw [tx, List.append_assoc, List.append_assoc] at R
    simp only [dep] at hL hd
    have bl := hl.2.2.2.1
    obtain ⟨h1, e1, R1, x1⟩ := m_number B C L a (by omega) h n hl.1 _ (.inr ⟨91, _, by simp [sepc]; rfl, by omega⟩) R [some (.ref a), none, none, none] rfl
    obtain ⟨k, rfl⟩ : ∃ k, L = k + 1 := ⟨L - 1, by omega⟩
    have e2 := m_sign B C k a h1 R1 [some (.ref a), some (.int n), none, none] rfl
    have q := cmp_sgn R1 h1 91 (by omega)
    rw [decide_eq_true (by simp [sepc])] at q
    -- branches
    let h2 := h1 ++ [O.lst []]
    have R2 : Rd h2 a x (s + (num n).length) d (sepc 91 (.cons w t rs) ++ ([93] ++ r)) := R1.get (Ex.get (Kp.app h1 [O.lst []]) R1.at_)
    obtain ⟨e3, R3⟩ := s_depth C (callF G Tb (k + 1)) a h2 R2 [some (.ref a), some (.int n), some (.ref h1.length), none] rfl
    have hb1 : h2[h1.length]? = some (.lst []) := by simp [h2]
    have nab : a ≠ h1.length := by
      have := lt_of_get R1.at_
      omega
    have hb3 : (h2.set a (rdO x ((s + (num n).length : Nat) : Int) (d + 1)))[h1.length]? = some (.lst []) := by rw [List.getElem?_set_ne nab]; exact hb1
    obtain ⟨h4, x3, e4, R4, hb4, x4⟩ := brs_ok B C (.cons w t rs) (k + 1) (by omega) FUEL (by omega) _ a h1.length x (s + (num n).length) (d + 1) r [] n none hl.2.2.1 (by omega) (by simp only [List.length_nil]; omega) (by simpa [sgc] using R3) hb3 (fun e => nab e.symm)
    obtain ⟨e5, R5⟩ := s_depthm C (callF G Tb (k + 1)) a h4 R4 [some (.ref a), some (.int n), some (.ref h1.length), x3] rfl
    obtain ⟨h6, e6, R6, x6, _⟩ := m_went_yes B C (k + 1) a (by omega) _ R5 (by omega) [some (.ref a), some (.int n), some (.ref h1.length), x3] rfl (.lit (.str ("]" : Str))) (by simp only [evE, l_bc])
    have hb6 : h6[h1.length]? = some (.lst (encs (.cons w t rs))) := by
      refine Kp.get x6 ?_ (fun e => nab e.symm)
      rw [List.getElem?_set_ne nab]
      simpa using hb4
    have el := encs_len (.cons w t rs)
    have le3 : (encs (.cons w t rs)).length ≤ SZ := by omega
    refine ⟨h6, ?_, ?_, ?_⟩
    · unfold callF
      simp only [B.t18, runF, c18_w]
      rw [if_pos (by rfl), show Mi.begin ⟨4, 1, _⟩ [D.ref a] = [some (.ref a), none, none, none] from rfl]
      generalize CE.meth (.var 0) ("number" : Str) [] [.inl 0] = M1 at e1 ⊢
      generalize CE.meth (.var 0) ("sign" : Str) [] [.inl 0] = M2 at e2 ⊢
      generalize CE.meth (.var 0) ("went" : Str) [(.lit (.str ("]" : Str)))] [.inl 0, .inl 1] = M3 at e6 ⊢
      rw [ss_nx (σ1 := [some (.ref a), some (.int n), none, none]) (h1 := h1) (by simp only [evS, e1, Out.bind_ok, List.set_cons_succ, List.set_cons_zero])]
      rw [ss_nx (σ1 := [some (.ref a), some (.int n), none, none]) (h1 := h1) (by
        simp only [evS, evE, evEs, evSs, List.getElem?_cons_zero, List.getElem?_cons_succ, Out.bind_ok, cmpX, ownEq, insAt, Option.bind_none, cmpG, opC, isNon, Option.map_some, lift_some, asD, truD, Bool.false_eq_true, if_false, e2, l_bo, q, Bool.not_true])]
      rw [ss_nx (σ1 := [some (.ref a), some (.int n), some (.ref h1.length), none]) (h1 := h2) (by
        simp only [evS, evE, evEs, Out.bind_ok, List.length_nil, Nat.zero_le, if_true, new, List.set_cons_succ, List.set_cons_zero, h2])]
      rw [ss_nx e3, ss_nx (by rw [evS]; exact e4), ss_nx e5]
      have z3 : 3 ≤ SZ := by decide
      rw [ss_rt (d := enc (.stp n (.cons w t rs))) (h1 := h6) (by
        simp only [evS, evE, evEs, e6, List.getElem?_cons_zero, List.getElem?_cons_succ, Out.bind_ok, asD, truD, lift_some, if_true, callX, callB, fTuple, seqD, rdL, hb6, Option.map_some, List.length_cons, List.length_nil, z3, enc])]
      rfl
    · rw [ln]
      have e : s + (num n).length + (sepc 91 (Trs.cons w t rs)).length + 1 = s + ((num n).length + (sepc 91 (Trs.cons w t rs)).length + 1) := by omega
      rw [← e]
      exact R6
    · have y1 : Kp (fun j => j = a) h h2 := x1.trans (Kp.app _ _)
      have y2 : Kp (fun j => j = a) h (h2.set a (rdO x ((s + (num n).length : Nat) : Int) (d + 1))) := y1.trans (Kp.set1 _ _ _)
      have y3 := y2.drop_new x4 x1.1
      exact (y3.trans (Kp.set1 _ _ _)).trans x6
theorem brs_ok (B : RdTb Tb ok) (C : RdG G) : ∀ (bs : Trs) (L : Nat), 2 * deps bs + 5 ≤ L → ∀ (fuel : Nat), bs.len < fuel → ∀ (h : Hea) (a b : Nat) (x : Str) (s : Nat) (d : Int) (r : List Nat) (done : List D) (n : Int) (x3 : Option D), lits bs → d + deps bs ≤ 15 → done.length + bs.len ≤ 5 → Rd h a x s d (sepc (sgc done) bs ++ ([93] ++ r)) → h[b]? = some (.lst done) → b ≠ a →
    ∃ h' x3', whGo (fun s k' => (evE G (callF G Tb L) c18w0c s k').bind fun x k1 => asD x k1) (evSs G (callF G Tb L) c18w0b) fuel [some (.ref a), some (.int n), some (.ref b), x3] h = .ok (.nx [some (.ref a), some (.int n), some (.ref b), x3']) h' ∧
      Rd h' a x (s + (sepc (sgc done) bs).length) d ([93] ++ r) ∧ h'[b]? = some (.lst (done ++ encs bs)) ∧ Kp (fun j => j = a ∨ j = b) h h'
  | _, _, _, 0, hf, _, _, _, _, _, _, _, _, _, _, _, _, _, _, _, _ => by omega
  | .nil, L, hL, fuel + 1, hf, h, a, b, x, s, d, r, done, n, x3, hl, hd, hn, R, hb, nab => by
    have e0 := ite_sgn (G := G) (callF G Tb L) [some (.ref a), some (.int n), some (.ref b), x3] b done h hb rfl
    have e1 := m_went_no B C L a (by omega) h R (sgc done) (by unfold sgc; split <;> omega) (by simp [sepc, sgc]; split <;> omega) [some (.ref a), some (.int n), some (.ref b), x3] rfl _ e0
    have g := R.at_
    have d15 : d ≤ 15 := by omega
    refine ⟨h, x3, ?_, by simpa [sepc] using R, by simpa [encs] using hb, Kp.rfl⟩
    have ec : ((evE G (callF G Tb L) c18w0c [some (.ref a), some (.int n), some (.ref b), x3] h).bind fun x k1 => asD x k1) = .ok false h := by
      unfold c18w0c
      simp only [rdO] at g
      generalize CE.meth (.var 0) ("went" : Str) [(.ite (.cmp .eq (.bi .len [(.var 2)]) (.lit (.int (0)))) (.lit (.str ("[" : Str))) (.lit (.str (" " : Str))))] [.inl 0, .inl 1] = M at e1 ⊢
      simp only [evE, evEs, List.getElem?_cons_zero, List.getElem?_cons_succ, Out.bind_ok, insAt, g, C.q3, C.a3, lk_depth, if_true, lift_some, cmpX, ownEq, cmpG, opC, decide_eq_true d15, Option.map_some, asD, truD, e1]
    unfold whGo
    simp only [ec, Out.bind_ok]
    rfl
  | .cons w t rs, L, hL, fuel + 1, hf, h, a, b, x, s, d, r, done, n, x3, hl, hd, hn, R, hb, nab => by
    simp only [deps] at hL hd
    simp only [Trs.len] at hf hn
    have hab : a ≠ b := fun e => nab e.symm
    have e0 := ite_sgn (G := G) (callF G Tb L) [some (.ref a), some (.int n), some (.ref b), x3] b done h hb rfl
    have c128 : sgc done < 128 := by unfold sgc; split <;> omega
    have R' : Rd h a x s d (sgc done :: (TL.tl (num w) ++ 58 :: (TL.tl (txt t) ++ (sepc 32 rs ++ ([93] ++ r))))) := by simpa [sepc] using R
    obtain ⟨h1, e1, R1, x1, _⟩ := m_went_yes B C L a (by omega) h R' c128 [some (.ref a), some (.int n), some (.ref b), x3] rfl _ e0
    have g := R.at_
    have d15 : d ≤ 15 := by omega
    have ec : ((evE G (callF G Tb L) c18w0c [some (.ref a), some (.int n), some (.ref b), x3] h).bind fun x k1 => asD x k1) = .ok true h1 := by
      unfold c18w0c
      simp only [rdO] at g
      generalize CE.meth (.var 0) ("went" : Str) [(.ite (.cmp .eq (.bi .len [(.var 2)]) (.lit (.int (0)))) (.lit (.str ("[" : Str))) (.lit (.str (" " : Str))))] [.inl 0, .inl 1] = M at e1 ⊢
      simp only [evE, evEs, List.getElem?_cons_zero, List.getElem?_cons_succ, Out.bind_ok, insAt, g, C.q3, C.a3, lk_depth, if_true, lift_some, cmpX, ownEq, cmpG, opC, decide_eq_true d15, Option.map_some, asD, truD, e1]
    -- the branch
    obtain ⟨k, rfl⟩ : ∃ k, L = k + 1 := ⟨L - 1, by omega⟩
    have br : ∃ h4, callF G Tb (k + 1) 17 [.ref a] h1 = .ok (.tup [.int w, enc t]) h4 ∧ Rd h4 a x (s + 1 + (num w).length + 1 + (txt t).length) d (sepc 32 rs ++ ([93] ++ r)) ∧ Kp (fun j => j = a) h1 h4 := by
      obtain ⟨h2, e2, R2, x2⟩ := m_number B C k a (by omega) h1 w (small_w hl.1) _ (.inr ⟨58, _, rfl, by omega⟩) R1 [some (.ref a), none, none] rfl
      obtain ⟨h3, e3, R3, x3, _⟩ := m_went_yes B C k a (by omega) h2 R2 (by omega) [some (.ref a), some (.int w), none] rfl (.lit (.str (":" : Str))) (by simp only [evE, l_co])
      have fn : FN (sepc 32 rs ++ ([93] ++ r)) := by
        cases rs with
        | nil => exact .inr ⟨93, r, by simp [sepc], by omega⟩
        | cons w' t' r' => exact .inr ⟨32, _, by simp [sepc]; rfl, by omega⟩
      obtain ⟨h4, e4, R4, x4⟩ := node_ok B C t k (by omega) h3 a x _ d _ hl.2.1 (by omega) fn R3
      refine ⟨h4, ?_, R4, (x2.trans x3).trans x4⟩
      have g3 := R3.at_
      simp only [rdO] at g3
      have e5 : evE G (callF G Tb k) (.meth (.var 0) ("node" : Str) [] [.inl 0]) [some (.ref a), some (.int w), none] h3 = .ok (enc t) h4 := by
        simp [evE, evEs, insAt, g3, C.m5, lk_node, shape, e4]
      have nt : isNon (enc t) = false := by cases t <;> rfl
      have ni : isNon (.int w) = false := rfl
      have z2 : 2 ≤ SZ := by decide
      have cc : c17 = [.asg 1 (.meth (.var 0) ("number" : Str) [] [.inl 0]), .iff (.or (.cmp .is (.var 1) (.lit .non)) (.not (.meth (.var 0) ("went" : Str) [(.lit (.str (":" : Str)))] [.inl 0, .inl 1]))) [.ret (.lit .non)] [], .asg 2 (.meth (.var 0) ("node" : Str) [] [.inl 0]), .ret (.ite (.cmp .is (.var 2) (.lit .non)) (.lit .non) (.tup [(.var 1), (.var 2)]))] := rfl
      unfold callF
      simp only [B.t17, runF, cc]
      rw [if_pos (by rfl), show Mi.begin ⟨3, 1, _⟩ [D.ref a] = [some (.ref a), none, none] from rfl]
      generalize CE.meth (.var 0) ("number" : Str) [] [.inl 0] = M1 at e2 ⊢
      generalize CE.meth (.var 0) ("went" : Str) [(.lit (.str (":" : Str)))] [.inl 0, .inl 1] = M2 at e3 ⊢
      generalize CE.meth (.var 0) ("node" : Str) [] [.inl 0] = M3 at e5 ⊢
      simp only [evSs, evS, evE, evEs, e2, e3, e5, List.getElem?_cons_zero, List.getElem?_cons_succ, Out.bind_ok, List.set_cons_succ, List.set_cons_zero, cmpX, ownEq, cmpG, opC, ni, nt, Option.map_some, lift_some, asD, truD, Bool.false_eq_true, if_false, Bool.not_true, List.length_cons, List.length_nil, z2, if_true]
    obtain ⟨h4, e4, R4, x4⟩ := br
    have hb1 : h1[b]? = some (.lst done) := Kp.get x1 hb nab
    have hb4 : h4[b]? = some (.lst done) := Kp.get x4 hb1 nab
    have g1 := R1.at_
    have e5 : evE G (callF G Tb (k + 1)) (.meth (.var 0) ("branch" : Str) [] [.inl 0]) [some (.ref a), some (.int n), some (.ref b), x3] h1 = .ok (.tup [.int w, enc t]) h4 := by
      simp only [rdO] at g1
      simp only [evE, evEs, List.getElem?_cons_zero, List.getElem?_cons_succ, Out.bind_ok, insAt, g1, C.m4, lk_branch, shape, Option.bind_some, Option.map_some, e4]
    let h5 := h4.set b (O.lst (done ++ [.tup [.int w, enc t]]))
    have lz : done.length < SZ := by
      have zz : SZ = 16777216 := rfl
      omega
    have eb : evSs G (callF G Tb (k + 1)) c18w0b [some (.ref a), some (.int n), some (.ref b), x3] h1 = .ok (.nx [some (.ref a), some (.int n), some (.ref b), some (.tup [.int w, enc t])]) h5 := by
      unfold c18w0b
      generalize CE.meth (.var 0) ("branch" : Str) [] [.inl 0] = M1 at e5 ⊢
      simp only [evSs, evS, evE, evEs, e5, List.getElem?_cons_zero, List.getElem?_cons_succ, Out.bind_ok, List.set_cons_succ, List.set_cons_zero, cmpX, ownEq, cmpG, opC, isNon, Option.map_some, lift_some, asD, truD, Bool.false_eq_true, if_false, recv, listD, rdL, hb4, Option.isSome_some, if_true, callM, gAppend, lz, h5]
    have R5 : Rd h5 a x (s + 1 + (num w).length + 1 + (txt t).length) d (sepc 32 rs ++ ([93] ++ r)) := R4.get (by simp only [h5]; rw [List.getElem?_set_ne nab]; exact R4.at_)
    have hb5 : h5[b]? = some (.lst (done ++ [.tup [.int w, enc t]])) := List.getElem?_set_self (lt_of_get hb4)
    obtain ⟨h', x3', e', R6, hb6, x6⟩ := brs_ok B C rs (k + 1) (by omega) fuel (by omega) h5 a b x _ d r (done ++ [.tup [.int w, enc t]]) n (some (.tup [.int w, enc t])) hl.2.2 (by omega) (by simp; omega) (by simpa [sgc] using R5) hb5 nab
    refine ⟨h', x3', ?_, ?_, by simpa [encs] using hb6, ?_⟩
    · unfold whGo
      simp only [ec, Out.bind_ok, if_true, eb]
      exact e'
    · have sg : sgc (done ++ [.tup [.int w, enc t]]) = 32 := by simp [sgc]
      rw [sg] at R6
      have l1 : (TL.tl (num w)).length = (num w).length := (TL.len_tl _).symm
      have l2 : (TL.tl (txt t)).length = (txt t).length := (TL.len_tl _).symm
      have : s + (sepc (sgc done) (Trs.cons w t rs)).length = s + 1 + (num w).length + 1 + (txt t).length + (sepc 32 rs).length := by
        simp only [sepc, List.length_append, List.length_cons, l1, l2]
        omega
      rw [this]
      exact R6
    · have y : ∀ {p q : Hea}, Kp (fun j => j = a) p q → Kp (fun j => j = a ∨ j = b) p q := fun z => z.mono fun _ _ e => .inl e
      exact ((y x1).trans (y x4)).trans ((Kp.set h4 b _ (.inr rfl)).trans x6)
end
end
end Mi.P
end

section
set_option linter.all false
set_option maxRecDepth 100000
/-! Sr4: an offer is read. -/
namespace Mi.P
open PySem
section
variable {G : GE} {Tb : Nat → Option FC} {ok : Nat → Nat → Bool}
theorem rd_init (B : RdTb Tb ok) (C : RdG G) (k a : Nat) (x : Str) (h : Hea) (ha : h[a]? = some (.ins 0 [])) : callF G Tb (k + 1) 13 [.ref a, .str x] h = .ok .non (h.set a (rdO x 0 0)) := by
  have la := lt_of_get ha
  have ha' := (List.getElem?_eq_some_iff.mp ha).2
  have cc : c13 = [.asgF (.var 0) ("signs" : Str) (.var 1), .asgF (.var 0) ("spot" : Str) (.lit (.int (0))), .asgF (.var 0) ("depth" : Str) (.lit (.int (0)))] := rfl
  have s1 : evS G (callF G Tb k) (.asgF (.var 0) ("signs" : Str) (.var 1)) [some (.ref a), some (.str x)] h = .ok (.nx [some (.ref a), some (.str x)]) (h.set a (.ins 0 [("signs", .str x)])) := by
    simp [evS, evE, setF, insAt, ha, C.a1, putF]
  have s2 : evS G (callF G Tb k) (.asgF (.var 0) ("spot" : Str) (.lit (.int (0)))) [some (.ref a), some (.str x)] (h.set a (.ins 0 [("signs", .str x)])) = .ok (.nx [some (.ref a), some (.str x)]) (h.set a (.ins 0 [("signs", .str x), ("spot", .int 0)])) := by
    simp [evS, evE, setF, insAt, la, C.a2, putF, n_ss]
  have s3 : evS G (callF G Tb k) (.asgF (.var 0) ("depth" : Str) (.lit (.int (0)))) [some (.ref a), some (.str x)] (h.set a (.ins 0 [("signs", .str x), ("spot", .int 0)])) = .ok (.nx [some (.ref a), some (.str x)]) (h.set a (rdO x 0 0)) := by
    simp [evS, evE, setF, insAt, la, C.a3, putF, n_sd, n_pd, rdO, rdF]
  unfold callF
  simp only [B.t13, runF, cc]
  rw [if_pos (by rfl), show Mi.begin ⟨2, 2, _⟩ [D.ref a, D.str x] = [some (.ref a), some (.str x)] from rfl, ss_nx s1, ss_nx s2, ss_nx s3]
  rfl
theorem tree_in_ok (B : RdTb Tb ok) (C : RdG G) (k : Nat) (t : Tr) (hl : lit t) (hs : siz t ≤ 15) (h : Hea) : ∃ h', callF G Tb (k + 49) 19 [.str (txt t)] h = .ok (enc t) h' ∧ Ex h h' := by
  have ds := dep_siz t
  have tl := txt_len t hl
  have zz : SZ = 16777216 := rfl
  have lz : (txt t).length ≤ SZ := by omega
  let a := h.length
  have e13 := rd_init (G := G) B C (k + 47) a (txt t) (h ++ [.ins 0 []]) (by simp [a])
  let h1 := (h ++ [O.ins 0 []]).set a (rdO (txt t) 0 0)
  have x1 : Ex h h1 := (Kp.app h _).set_new a (Nat.le_refl _) _
  have R1 : Rd h1 a (txt t) 0 0 (TL.tl (txt t) ++ []) := ⟨List.getElem?_set_self (by simp [a]), by simp, Nat.zero_le _, txt_asc t hl, lz⟩
  obtain ⟨h2, e18, R2, x2⟩ := node_ok (G := G) B C t (k + 48) (by omega) h1 a (txt t) 0 0 [] hl (by omega) (.inl rfl) R1
  have g1 := R1.at_
  have g2 := R2.at_
  have e14 := sign_ok (G := G) B C (k + 47) a h2 R2
  have q := cmp_em R2 h2
  obtain ⟨h3, e7, x7⟩ := is_tree_ok (G := G) B.toTreeTb (k + 43) t hl hs h2
  have nt : isNon (enc t) = false := by cases t <;> rfl
  simp only [rdO] at g1 g2
  have m18 : evE G (callF G Tb (k + 48)) (.meth (.var 1) ("node" : Str) [] [.inl 0]) [some (.str (txt t)), some (.ref a), none] h1 = .ok (enc t) h2 := by
    simp [evE, evEs, insAt, g1, C.m5, lk_node, shape, e18]
  have m14 : evE G (callF G Tb (k + 48)) (.meth (.var 1) ("sign" : Str) [] [.inl 0]) [some (.str (txt t)), some (.ref a), some (enc t)] h2 = .ok (.str (sgn [])) h2 := by
    simp [evE, evEs, insAt, g2, C.m1, lk_sign, shape, e14]
  have mk0 : evE G (callF G Tb (k + 48)) (.mk 0 [(.var 0)] [.inl 0, .inl 1]) [some (.str (txt t)), none, none] h = .ok (.ref a) h1 := by
    simp only [evE, evEs, List.getElem?_cons_zero, Out.bind_ok, C.ini, shape, List.getElem?_cons_succ, Option.bind_some, Option.map_some, show h.length = a from rfl, e13]
    rfl
  have cc : c19 = [.iff (.not (.bi .isinst [(.var 0), (.lit (.ty "str"))])) [.ret (.lit .non)] [], .asg 1 (.mk 0 [(.var 0)] [.inl 0, .inl 1]), .asg 2 (.meth (.var 1) ("node" : Str) [] [.inl 0]), .iff (.or (.cmp .is (.var 2) (.lit .non)) (.or (.cmp .ne (.meth (.var 1) ("sign" : Str) [] [.inl 0]) (.lit (.str ("" : Str)))) (.not (.callk 7 [(.var 2), (.lit (.fn 3))] [.inl 0, .inl 1])))) [.ret (.lit .non)] [], .ret (.var 2)] := rfl
  refine ⟨h3, ?_, ?_⟩
  · show callF G Tb ((k + 48) + 1) 19 _ h = _
    unfold callF
    simp only [B.t19, runF, cc]
    rw [if_pos (by rfl), show Mi.begin ⟨3, 1, _⟩ [D.str (txt t)] = [some (.str (txt t)), none, none] from rfl]
    generalize CE.mk 0 [(.var 0)] [.inl 0, .inl 1] = M0 at mk0 ⊢
    generalize CE.meth (.var 1) ("node" : Str) [] [.inl 0] = M1 at m18 ⊢
    generalize CE.meth (.var 1) ("sign" : Str) [] [.inl 0] = M2 at m14 ⊢
    rw [ss_nx (σ1 := [some (.str (txt t)), none, none]) (h1 := h) (by
      simp [evS, evE, evEs, callX, callB, fIsinst, isinstD, plainTy, tyD, asD, truD, evSs])]
    rw [ss_nx (σ1 := [some (.str (txt t)), some (.ref a), none]) (h1 := h1) (by
      simp only [evS, mk0, Out.bind_ok, List.set_cons_succ, List.set_cons_zero])]
    rw [ss_nx (σ1 := [some (.str (txt t)), some (.ref a), some (enc t)]) (h1 := h2) (by
      simp only [evS, m18, Out.bind_ok, List.set_cons_succ, List.set_cons_zero])]
    rw [ss_nx (σ1 := [some (.str (txt t)), some (.ref a), some (enc t)]) (h1 := h3) (by
      simp only [evS, evE, evEs, evSs, List.getElem?_cons_zero, List.getElem?_cons_succ, Out.bind_ok, cmpX, ownEq, insAt, Option.bind_none, cmpG, opC, nt, Option.map_some, lift_some, asD, truD, Bool.false_eq_true, if_false, m14, l_em, q, decide_true, Bool.not_true, shape, Option.bind_some, e7])]
    simp only [evSs, evS, evE, List.getElem?_cons_zero, List.getElem?_cons_succ, Out.bind_ok]
  · have y : Kp (fun j => j = a) h1 h2 := x2
    have y2 := x1.drop_new (y.mono (U := fun j => False ∨ j = a) fun _ _ e => .inr e) (Nat.le_refl _)
    exact y2.trans x7
theorem read_ok (B : RdTb Tb ok) (C : RdG G) (C1 : OfG G) (k : Nat) (t : Tr) (hl : lit t) (hs : siz t ≤ 15) (h : Hea) : ∃ h' r, callF G Tb (k + 50) 21 [.str (txt t)] h = .ok (.ref r) h' ∧ Off h' r t ∧ h.length ≤ r ∧ Ex h h' := by
  obtain ⟨h1, e19, x1⟩ := tree_in_ok (G := G) B C k t hl hs h
  obtain ⟨h2, e2, o2, x2⟩ := mk_ok (G := G) B.toOfTb C1 (k + 29) t hl hs (.var 1) [some (.str (txt t)), some (enc t)] h1 h1 (by simp [evE])
  have nt : isNon (enc t) = false := by cases t <;> rfl
  have cc : c21 = [.asg 1 (.callk 19 [(.var 0)] [.inl 0]), .iff (.cmp .is (.var 1) (.lit .non)) [.bad] [], .ret (.mk 1 [(.var 1)] [.inl 0, .inl 1])] := rfl
  refine ⟨h2, h1.length, ?_, o2, x1.1, x1.trans x2⟩
  show callF G Tb ((k + 49) + 1) 21 _ h = _
  unfold callF
  simp only [B.t21, runF, cc]
  rw [if_pos (by rfl), show Mi.begin ⟨2, 1, _⟩ [D.str (txt t)] = [some (.str (txt t)), none] from rfl]
  rw [ss_nx (σ1 := [some (.str (txt t)), some (enc t)]) (h1 := h1) (by simp [evS, evE, evEs, shape, e19])]
  rw [ss_nx (σ1 := [some (.str (txt t)), some (enc t)]) (h1 := h1) (by simp only [evS, evE, evSs, List.getElem?_cons_zero, List.getElem?_cons_succ, Out.bind_ok, cmpX, ownEq, cmpG, opC, nt, Option.map_some, lift_some, asD, truD, Bool.false_eq_true, if_false])]
  rw [ss_rt (d := .ref h1.length) (h1 := h2) (by rw [evS, e2]; rfl)]
  rfl
end
end Mi.P
end

section
set_option linter.all false
set_option maxRecDepth 100000
/-! Cw02: the blocks of loops have names. Written by cut.py. -/
namespace Mi.k02
open PySem Mi.P
def c1000f0b : List CS := [.asg 2 (.bin .mod (.bi .int [(.bin .add (.bin .mul (.var 2) (.lit (.int (31)))) (.var 3))]) (.lit (.int (1000000007))))]
theorem c1000_w : c1000 = [.asg 2 (.ite (.cmp .lt (.var 1) (.bi .len [(.var 0)])) (.idx (.var 0) (.var 1)) (.bin .add (.bin .mul (.lit (.int (5167))) (.var 1)) (.lit (.int (90173))))), .fr (.nm 3) (.seq (.ite (.cmp .ge (.var 1) (.bi .len [(.var 0)])) (.sliH (.var 0) (.lit (.int (2)))) (.lst []))) c1000f0b, .ret (.lst [(.bin .mod (.bi .int [(.bin .add (.bin .add (.bin .mul (.var 2) (.lit (.int (4093)))) (.bin .mul (.lit (.int (269))) (.var 1))) (.lit (.int (19))))]) (.lit (.int (2147483629)))), (.ite (.or (.cmp .lt (.var 2) (.lit (.int (0)))) (.cmp .ge (.var 2) (.bin .pow (.lit (.int (10))) (.lit (.int (18)))))) (.bi .abs [(.var 2)]) (.lit (.int (0))))])] := rfl
def c1003f1b : List CS := [.exp (.bm .append (.var 2) [(.lst [(.lit (.int (0))), (.callk 1002 [(.var 0), (.lst [(.lit (.int (1))), (.lit (.int (1))), (.lit (.int (2))), (.lit (.int (3))), (.bin .add (.lit (.int (1))) (.callk 1001 [(.var 0), (.lit (.int (9)))] [.inl 0, .inl 1]))])] [.inl 0, .inl 1]), (.lst [])])])]
def c1003f0b : List CS := [.iff (.cmp .lt (.var 3) (.bi .len [(.var 2)])) [.asg 4 (.ite (.and (.cmp .eq (.var 3) (.lit (.int (0)))) (.cmp .gt (.callk 1001 [(.var 0), (.lit (.int (9)))] [.inl 0, .inl 1]) (.lit (.int (0))))) (.callk 1002 [(.var 0), (.lst [(.lit (.int (2))), (.lit (.int (3))), (.lit (.int (2))), (.lit (.int (1)))])] [.inl 0, .inl 1]) (.callk 1002 [(.var 0), (.lst [(.lit (.int (0))), (.lit (.int (2))), (.lit (.int (0))), (.lit (.int (1))), (.lit (.int (0))), (.lit (.int (3)))])] [.inl 0, .inl 1])), .iff (.and (.cmp .gt (.var 4) (.lit (.int (0)))) (.cmp .le (.bin .add (.bi .len [(.var 2)]) (.var 4)) (.var 1))) [.asgI (.var 2) (.var 3) (.lst [(.callk 1002 [(.var 0), (.lst [(.lit (.int (0))), (.lit (.int (1))), (.bin .add (.lit (.int (1))) (.callk 1001 [(.var 0), (.lit (.int (4)))] [.inl 0, .inl 1])), (.callk 1001 [(.var 0), (.lit (.int (12)))] [.inl 0, .inl 1])])] [.inl 0, .inl 1]), (.idx (.idx (.var 2) (.var 3)) (.lit (.int (1)))), (.lrng [(.bi .len [(.var 2)]), (.bin .add (.bi .len [(.var 2)]) (.var 4))])]), .fr (.nm 5) (.rng [(.var 4)]) c1003f1b] [.asg 6 (.callk 1002 [(.var 0), (.lst [(.lit (.int (0))), (.callk 1001 [(.var 0), (.lit (.int (12)))] [.inl 0, .inl 1]), (.callk 1001 [(.var 0), (.lit (.int (40)))] [.inl 0, .inl 1]), (.bin .sub (.lit (.int (0))) (.callk 1001 [(.var 0), (.lit (.int (9)))] [.inl 0, .inl 1])), (.bin .add (.lit (.int (20))) (.callk 1001 [(.var 0), (.lit (.int (60)))] [.inl 0, .inl 1]))])] [.inl 0, .inl 1]), .asgI (.var 2) (.var 3) (.lst [(.var 6), (.idx (.idx (.var 2) (.var 3)) (.lit (.int (1)))), (.lst [])])]] []]
theorem c1003_w : c1003 = [.asg 2 (.lst [(.lst [(.lit (.int (0))), (.lit (.int (1))), (.lst [])])]), .fr (.nm 3) (.rng [(.var 1)]) c1003f0b, .ret (.var 2)] := rfl
def c1004l0e : CE := (.lit .non)
def c1004l2e : CE := (.tup [(.idx (.idx (.var 0) (.var 7)) (.lit (.int (1)))), (.idx (.var 1) (.var 7))])
def c1004f1b : List CS := [.asgT [4, 5, 6] (.idx (.var 0) (.var 3)), .iff (.cmp .eq (.var 6) (.lst [])) [.asgI (.var 1) (.var 3) (.tup [(.lit (.str ("end" : Str))), (.var 4)])] [.asgI (.var 1) (.var 3) (.tup [(.lit (.str ("step" : Str))), (.var 4), (.bi .tuple [(.lc [7] (.nm 7) (.seq (.var 6)) (.lit (.bl true)) c1004l2e)])])]]
theorem c1004_w : c1004 = [.asg 1 (.lc [2] (.nm 2) (.seq (.var 0)) (.lit (.bl true)) c1004l0e), .fr (.nm 3) (.rng [(.bin .sub (.bi .len [(.var 0)]) (.lit (.int (1)))), (.neg (.lit (.int (1)))), (.neg (.lit (.int (1))))]) c1004f1b, .ret (.idx (.var 1) (.lit (.int (0))))] := rfl
def c1005l2e : CE := (.tup [(.bin .add (.var 3) (.tup [(.var 5)])), (.idx (.idx (.idx (.var 0) (.var 2)) (.lit (.int (2)))) (.var 5))])
def c1005f1b : List CS := [.iff (.cmp .eq (.var 4) (.var 2)) [.asg 1 (.bin .add (.var 1) (.lc [5] (.nm 5) (.rng [(.bi .len [(.idx (.idx (.var 0) (.var 2)) (.lit (.int (2))))])]) (.lit (.bl true)) c1005l2e))] []]
def c1005f0b : List CS := [.fr (.tp [3, 4]) (.seq (.bi .list [(.var 1)])) c1005f1b]
theorem c1005_w : c1005 = [.asg 1 (.lst [(.tup [(.tup []), (.lit (.int (0)))])]), .fr (.nm 2) (.rng [(.bi .len [(.var 0)])]) c1005f0b, .ret (.bi .sorted [(.var 1)])] := rfl
def c1006l0e : CE := (.lit (.str ("" : Str)))
def c1006l2e : CE := (.bin .add (.bin .add (.bi .str [(.idx (.idx (.var 0) (.var 7)) (.lit (.int (1))))]) (.lit (.str (":" : Str)))) (.idx (.var 1) (.var 7)))
def c1006f1b : List CS := [.asgT [4, 5, 6] (.idx (.var 0) (.var 3)), .asgI (.var 1) (.var 3) (.bi .str [(.var 4)]), .iff (.cmp .ne (.var 6) (.lst [])) [.asgI (.var 1) (.var 3) (.bin .add (.bin .add (.bin .add (.bi .str [(.var 4)]) (.lit (.str ("[" : Str)))) (.bm .join (.lit (.str (" " : Str))) [(.lc [7] (.nm 7) (.seq (.var 6)) (.lit (.bl true)) c1006l2e)])) (.lit (.str ("]" : Str))))] []]
theorem c1006_w : c1006 = [.asg 1 (.lc [2] (.nm 2) (.seq (.var 0)) (.lit (.bl true)) c1006l0e), .fr (.nm 3) (.rng [(.bin .sub (.bi .len [(.var 0)]) (.lit (.int (1)))), (.neg (.lit (.int (1)))), (.neg (.lit (.int (1))))]) c1006f1b, .ret (.idx (.var 1) (.lit (.int (0))))] := rfl
def c1007l1e : CE := (.var 6)
def c1007l2c : CE := (.cmp .ne (.idx (.idx (.var 2) (.var 7)) (.lit (.int (2)))) (.lst []))
def c1007l2e : CE := (.var 6)
def c1007l3c : CE := (.cmp .eq (.sliH (.var 10) (.bi .len [(.var 6)])) (.var 6))
def c1007l3e : CE := (.sliL (.var 10) (.bi .len [(.var 6)]))
def c1007f0b : List CS := [.asgT [2, 3] (.tup [(.callk 1003 [(.var 0), (.callk 1002 [(.var 0), (.lst [(.lit (.int (3))), (.lit (.int (7))), (.lit (.int (15)))])] [.inl 0, .inl 1])] [.inl 0, .inl 1]), (.callk 1003 [(.var 0), (.lit (.int (5)))] [.inl 0, .inl 1])]), .asgP [4, 5] [(.mk 1 [(.callk 1004 [(.var 2)] [.inl 0])] [.inl 0, .inl 1]), (.callk 1005 [(.var 2)] [.inl 0])], .iff (.cmp .ne (.bi .repr [(.lst [(.fld (.var 4) ("tree" : Str)), (.fld (.var 4) ("text" : Str)), (.bi .str [(.var 4)])])]) (.bi .repr [(.lst [(.callk 1004 [(.var 2)] [.inl 0]), (.callk 1006 [(.var 2)] [.inl 0]), (.callk 1006 [(.var 2)] [.inl 0])])])) [.ret (.lit (.bl false))] [], .iff (.cmp .ne (.fld (.var 4) ("paths" : Str)) (.bi .tuple [(.lc [6, 7] (.tp [6, 7]) (.seq (.var 5)) (.lit (.bl true)) c1007l1e)])) [.ret (.lit (.bl false))] [], .iff (.cmp .ne (.fld (.var 4) ("steps" : Str)) (.bi .tuple [(.lc [6, 7] (.tp [6, 7]) (.seq (.var 5)) c1007l2c c1007l2e)])) [.ret (.lit (.bl false))] [], .asg 8 (.callk 21 [(.callk 1006 [(.var 2)] [.inl 0])] [.inl 0]), .iff (.or (.cmp .ne (.var 8) (.var 4)) (.or (.not (.cmp .eq (.var 8) (.mk 1 [(.fld (.var 4) ("tree" : Str))] [.inl 0, .inl 1]))) (.cmp .ne (.fld (.callk 21 [(.fld (.var 4) ("text" : Str))] [.inl 0]) ("tree" : Str)) (.fld (.var 4) ("tree" : Str))))) [.ret (.lit (.bl false))] [], .iff (.or (.cmp .ne (.cmp .eq (.var 4) (.mk 1 [(.callk 1004 [(.var 3)] [.inl 0])] [.inl 0, .inl 1])) (.cmp .eq (.callk 1004 [(.var 2)] [.inl 0]) (.callk 1004 [(.var 3)] [.inl 0]))) (.or (.cmp .eq (.var 4) (.fld (.var 4) ("tree" : Str))) (.cmp .eq (.var 4) (.fld (.var 4) ("text" : Str))))) [.ret (.lit (.bl false))] [], .asgT [6, 7] (.idx (.var 5) (.callk 1001 [(.var 0), (.bi .len [(.var 5)])] [.inl 0, .inl 1])), .asg 9 (.meth (.var 4) ("at" : Str) [(.var 6)] [.inl 0, .inl 1]), .iff (.or (.cmp .ne (.meth (.var 4) ("at" : Str) [(.var 6)] [.inl 0, .inl 1]) (.var 9)) (.cmp .ne (.fld (.var 9) ("paths" : Str)) (.bi .tuple [(.lc [10] (.nm 10) (.seq (.fld (.var 4) ("paths" : Str))) c1007l3c c1007l3e)]))) [.ret (.lit (.bl false))] [], .iff (.or (.and (.cmp .eq (.idx (.idx (.var 2) (.var 7)) (.lit (.int (2)))) (.lst [])) (.cmp .ne (.fld (.var 9) ("tree" : Str)) (.tup [(.lit (.str ("end" : Str))), (.idx (.idx (.var 2) (.var 7)) (.lit (.int (0))))]))) (.and (.cmp .eq (.var 6) (.tup [])) (.cmp .ne (.var 9) (.var 4)))) [.ret (.lit (.bl false))] []]
theorem c1007_w : c1007 = [.fr (.nm 1) (.rng [(.lit (.int (5)))]) c1007f0b, .ret (.lit (.bl true))] := rfl
def c1008l0e : CE := (.callk 1007 [(.callk 1000 [(.var 0), (.var 2)] [.inl 0, .inl 1])] [.inl 0])
theorem c1008_w : c1008 = [.asg 1 (.callk 21 [(.lit (.str ("1[1:-5 1:3[1:0 1:20]]" : Str)))] [.inl 0]), .iff (.cmp .ne (.fld (.var 1) ("tree" : Str)) (.tup [(.lit (.str ("step" : Str))), (.lit (.int (1))), (.tup [(.tup [(.lit (.int (1))), (.tup [(.lit (.str ("end" : Str))), (.neg (.lit (.int (5))))])]), (.tup [(.lit (.int (1))), (.tup [(.lit (.str ("step" : Str))), (.lit (.int (3))), (.tup [(.tup [(.lit (.int (1))), (.tup [(.lit (.str ("end" : Str))), (.lit (.int (0)))])]), (.tup [(.lit (.int (1))), (.tup [(.lit (.str ("end" : Str))), (.lit (.int (20)))])])])])])])])) [.ret (.lit (.bl false))] [], .iff (.or (.cmp .ne (.fld (.var 1) ("paths" : Str)) (.tup [(.tup []), (.tup [(.lit (.int (0)))]), (.tup [(.lit (.int (1)))]), (.tup [(.lit (.int (1))), (.lit (.int (0)))]), (.tup [(.lit (.int (1))), (.lit (.int (1)))])])) (.cmp .ne (.fld (.meth (.var 1) ("at" : Str) [(.tup [(.lit (.int (1)))])] [.inl 0, .inl 1]) ("text" : Str)) (.lit (.str ("3[1:0 1:20]" : Str))))) [.ret (.lit (.bl false))] [], .ret (.bi .all [(.lc [2] (.nm 2) (.rng [(.bi .max [(.lit (.int (2))), (.bi .min [(.bi .len [(.var 0)]), (.lit (.int (6)))])])]) (.lit (.bl true)) c1008l0e)])] := rfl
end Mi.k02
end

section
set_option linter.all false
set_option maxRecDepth 100000
/-! Kw1: the law's draws. -/
namespace Mi.k02
open PySem Mi.P
def cupOk (x y : Int) : Prop := 0 ≤ x ∧ x < 2147483648 ∧ 0 ≤ y
def Cup (h : Hea) (a : Nat) : Prop := ∃ x y, h[a]? = some (.lst [.int x, .int y]) ∧ cupOk x y
def Kc (a : Nat) (h h' : Hea) : Prop := Kp (fun j => j = a) h h' ∧ Cup h' a
theorem Kc.trans {a : Nat} {x y z : Hea} (p : Kc a x y) (q : Kc a y z) : Kc a x z := ⟨p.1.trans q.1, q.2⟩
theorem Cup.app {h : Hea} {a : Nat} (c : Cup h a) (t : Hea) : Cup (h ++ t) a := by
  obtain ⟨x, y, e, o⟩ := c
  exact ⟨x, y, Ex.get (Kp.app h t) e, o⟩
theorem Cup.ex {h h' : Hea} {a : Nat} (c : Cup h a) (x : Ex h h') : Cup h' a := by
  obtain ⟨p, q, e, o⟩ := c
  exact ⟨p, q, Ex.get x e, o⟩
theorem Kc.refl {a : Nat} {h : Hea} (c : Cup h a) : Kc a h h := ⟨Kp.rfl, c⟩
theorem Kc.app {a : Nat} {h : Hea} (c : Cup h a) (t : Hea) : Kc a h (h ++ t) := ⟨Kp.app h t, c.app t⟩
theorem Kc.ex {a : Nat} {h h' : Hea} (c : Cup h a) (x : Ex h h') : Kc a h h' := ⟨Kp.ex x, c.ex x⟩
theorem Cup.lt {h : Hea} {a : Nat} (c : Cup h a) : a < h.length := by
  obtain ⟨_, _, e, _⟩ := c
  exact lt_of_get e
structure LawTb (Tb : Nat → Option FC) (ok : Nat → Nat → Bool) : Prop extends RdTb Tb ok where
  u0 : Tb 1000 = some ⟨4, 2, c1000⟩
  u1 : Tb 1001 = some ⟨3, 2, c1001⟩
  u2 : Tb 1002 = some ⟨2, 2, c1002⟩
  u3 : Tb 1003 = some ⟨7, 2, c1003⟩
  u4 : Tb 1004 = some ⟨8, 1, c1004⟩
  u5 : Tb 1005 = some ⟨6, 1, c1005⟩
  u6 : Tb 1006 = some ⟨8, 1, c1006⟩
  u7 : Tb 1007 = some ⟨11, 1, c1007⟩
  u8 : Tb 1008 = some ⟨3, 1, c1008⟩
theorem log2_lt {n k : Nat} (hk : k ≠ 0) (h : n < 2 ^ k) : n.log2 < k := by
  by_cases h0 : n = 0
  · subst h0; rw [Nat.log2_zero]; omega
  · exact (Nat.log2_lt h0).mpr h
theorem mul_sip {x : Int} (h0 : 0 ≤ x) (h1 : x < 2147483648) : mulOk x 48271 = true := by
  unfold mulOk
  have e : Nat.log2 48271 = 15 := by decide
  have : x.natAbs.log2 < 31 := log2_lt (by decide) (by omega)
  apply decide_eq_true
  show x.natAbs.log2 + Nat.log2 48271 < _
  rw [e]
  omega
section
variable {G : GE} {Tb : Nat → Option FC} {ok : Nat → Nat → Bool}
theorem sip_ok (B : LawTb Tb ok) (k a : Nat) (top : Int) (h : Hea) (hc : Cup h a) (t0 : 0 < top) (t1 : top < 1073741824) :
    ∃ v h', callF G Tb (k + 1) 1001 [.ref a, .int top] h = .ok (.int v) h' ∧ Kc a h h' ∧ 0 ≤ v ∧ v < top := by
  obtain ⟨x, y, ha, c0, c1, c2⟩ := hc
  obtain ⟨hl, ha'⟩ := List.getElem?_eq_some_iff.mp ha
  have hm := mul_sip c0 c1
  have i0 : L2.ixN 2 0 = some 0 := by decide
  have i1 : L2.ixN 2 1 = some 1 := by decide
  have g0 : ∀ p q : D, L2.atI [p, q] 0 = some p := fun p q => by rfl
  have g1 : ∀ p q : D, L2.atI [p, q] 1 = some q := fun p q => by rfl
  have d0 : divOk 1019 = true := by decide
  have m0 := Int.emod_nonneg (x * 48271 + 13) (b := 2147483629) (by omega)
  have m1 := Int.emod_lt_of_pos (x * 48271 + 13) (b := 2147483629) (by omega)
  by_cases hy : 0 < y
  · refine ⟨y % top, h.set a (.lst [.int ((x * 48271 + 13) % 2147483629), .int (y / top)]), ?_, ⟨Kp.set1 h a _, _, _, List.getElem?_set_self hl, m0, by omega, Int.ediv_nonneg c2 (by omega)⟩, Int.emod_nonneg _ (by omega), Int.emod_lt_of_pos _ t0⟩
    simp [callF, B.u1, runF, c1001, evSs, evS, evE, evEs, Mi.begin, callX, callB, fInt, fDivmod, asD, truD, cmpX, ownEq, cmpG, opC, idxD, rdL, ha, ha', opB, opMul, opAdd, opMod, opFdiv, setI, asgTs, seqD, lift, i0, i1, g0, g1, hm, hl, t0, t1, d0, hy]
  · refine ⟨((x * 48271 + 13) % 2147483629) / 1019 % top, h.set a (.lst [.int ((x * 48271 + 13) % 2147483629), .int y]), ?_, ⟨Kp.set1 h a _, _, _, List.getElem?_set_self hl, m0, by omega, c2⟩, Int.emod_nonneg _ (by omega), Int.emod_lt_of_pos _ t0⟩
    simp [callF, B.u1, runF, c1001, evSs, evS, evE, evEs, Mi.begin, callX, callB, fInt, fDivmod, asD, truD, cmpX, ownEq, cmpG, opC, idxD, rdL, ha, ha', opB, opMul, opAdd, opMod, opFdiv, setI, asgTs, seqD, lift, i0, i1, g0, g1, hm, hl, t0, t1, d0, hy]
theorem pick_ok (B : LawTb Tb ok) (k a b : Nat) (ds : List D) (h : Hea) (hc : Cup h a) (hb : h[b]? = some (.lst ds)) (nab : b ≠ a) (h0 : ds ≠ []) (h1 : ds.length < 1073741824) :
    ∃ d h', callF G Tb (k + 2) 1002 [.ref a, .ref b] h = .ok d h' ∧ Kc a h h' ∧ d ∈ ds := by
  have l0 : 0 < ds.length := List.length_pos_iff.mpr h0
  obtain ⟨v, h', e, x, v0, v1⟩ := sip_ok (G := G) B k a (ds.length : Int) h hc (by omega) (by omega)
  obtain ⟨n, rfl⟩ := Int.eq_ofNat_of_zero_le v0
  have hn : n < ds.length := by omega
  have hb' := Kp.get x.1 hb nab
  refine ⟨ds[n], h', ?_, x, List.getElem_mem hn⟩
  show callF G Tb ((k + 1) + 1) 1002 _ h = _
  unfold callF
  have ia := atI_nat ds n hn
  simp [B.u2, runF, c1002, evSs, evS, evE, evEs, Mi.begin, callX, callB, fLen, lenD, hb, shape, e, idxD, rdL, hb', ia]
/-! drawn expressions -/
def Dr (G : GE) (Φ : Orc) (a : Nat) (σ : Loc) (e : CE) (P : D → Prop) : Prop := ∀ h, Cup h a → ∃ d h', evE G Φ e σ h = .ok d h' ∧ Kc a h h' ∧ P d
def DrS (G : GE) (Φ : Orc) (a : Nat) (σ : Loc) (es : List CE) (P : D → Prop) : Prop := ∀ h, Cup h a → ∃ ds h', evEs G Φ es σ h = .ok ds h' ∧ Kc a h h' ∧ ds.length = es.length ∧ ∀ d ∈ ds, P d
def In (lo hi : Int) (d : D) : Prop := ∃ v, d = .int v ∧ lo ≤ v ∧ v ≤ hi
theorem In.mono {a b c d : Int} {x : D} (h : In a b x) (h1 : c ≤ a) (h2 : b ≤ d) : In c d x := by
  obtain ⟨v, e, p, q⟩ := h
  exact ⟨v, e, by omega, by omega⟩
theorem Dr.mono {Φ : Orc} {a : Nat} {σ : Loc} {e : CE} {P Q : D → Prop} (x : Dr G Φ a σ e P) (i : ∀ d, P d → Q d) : Dr G Φ a σ e Q := fun h c => by
  obtain ⟨d, h', p, q, r⟩ := x h c
  exact ⟨d, h', p, q, i d r⟩
theorem Dr.lit {Φ : Orc} {a : Nat} {σ : Loc} {P : D → Prop} (d : D) (p : P d) : Dr G Φ a σ (.lit d) P := fun h c => ⟨d, h, by simp [evE], Kc.refl c, p⟩
theorem Dr.sip (B : LawTb Tb ok) (k a : Nat) (σ : Loc) (hv : σ[0]? = some (some (.ref a))) (top : Int) (t0 : 0 < top) (t1 : top < 1073741824) : Dr G (callF G Tb (k + 1)) a σ (.callk 1001 [(.var 0), (.lit (.int top))] [.inl 0, .inl 1]) (In 0 (top - 1)) := fun h c => by
  obtain ⟨v, h', e, x, v0, v1⟩ := sip_ok (G := G) B k a top h c t0 t1
  exact ⟨.int v, h', by simp [evE, evEs, hv, shape, e], x, v, rfl, v0, by omega⟩
theorem Dr.addl {Φ : Orc} {a : Nat} {σ : Loc} {e : CE} {lo hi : Int} (n : Int) (x : Dr G Φ a σ e (In lo hi)) : Dr G Φ a σ (.bin .add (.lit (.int n)) e) (In (n + lo) (n + hi)) := fun h c => by
  obtain ⟨d, h', p, q, v, rfl, r⟩ := x h c
  exact ⟨.int (n + v), h', by simp [evE, p, opB, opAdd], q, n + v, rfl, by omega, by omega⟩
theorem Dr.subl {Φ : Orc} {a : Nat} {σ : Loc} {e : CE} {lo hi : Int} (n : Int) (x : Dr G Φ a σ e (In lo hi)) : Dr G Φ a σ (.bin .sub (.lit (.int n)) e) (In (n - hi) (n - lo)) := fun h c => by
  obtain ⟨d, h', p, q, v, rfl, r⟩ := x h c
  exact ⟨.int (n - v), h', by simp [evE, p, opB, opSub], q, n - v, rfl, by omega, by omega⟩
theorem DrS.nil {Φ : Orc} {a : Nat} {σ : Loc} {P : D → Prop} : DrS G Φ a σ [] P := fun h c => ⟨[], h, by simp [evEs], Kc.refl c, rfl, by simp⟩
theorem DrS.cons {Φ : Orc} {a : Nat} {σ : Loc} {e : CE} {es : List CE} {P : D → Prop} (x : Dr G Φ a σ e P) (y : DrS G Φ a σ es P) : DrS G Φ a σ (e :: es) P := fun h c => by
  obtain ⟨d, h1, p, q, r⟩ := x h c
  obtain ⟨ds, h2, p2, q2, l2, r2⟩ := y h1 q.2
  exact ⟨d :: ds, h2, by simp [evEs, p, p2], q.trans q2, by simp [l2], fun z hz => by
    rcases List.mem_cons.mp hz with rfl | hz
    · exact r
    · exact r2 z hz⟩
theorem Dr.pick (B : LawTb Tb ok) (k a : Nat) (σ : Loc) (hv : σ[0]? = some (some (.ref a))) (es : List CE) {P : D → Prop} (x : DrS G (callF G Tb (k + 2)) a σ es P) (h0 : es ≠ []) (h1 : es.length < 100) : Dr G (callF G Tb (k + 2)) a σ (.callk 1002 [(.var 0), (.lst es)] [.inl 0, .inl 1]) P := fun h c => by
  obtain ⟨ds, h1', p, q, l, r⟩ := x h c
  have zz : SZ = 16777216 := rfl
  have ls : ds.length ≤ SZ := by omega
  have c1 : Cup (h1' ++ [.lst ds]) a := q.2.app _
  have := q.2.lt
  obtain ⟨d, h', e, x', m⟩ := pick_ok (G := G) B k a h1'.length ds (h1' ++ [.lst ds]) c1 (by simp) (by omega) (by rintro rfl; simp at l; exact h0 (List.length_eq_zero_iff.mp l.symm)) (by omega)
  exact ⟨d, h', by simp [evE, evEs, hv, p, ls, new, shape, e], (q.trans (Kc.app q.2 _)).trans x', r d m⟩
end
end Mi.k02
end

section
set_option linter.all false
/-! Kr: rows of a tree, plain. -/
namespace Mi.k02
open PySem Mi.P
abbrev Row := Int × Int × List Nat
def mm (rs : List Row) (i : Nat) : Nat := 1 + ((rs.take i).map fun x => x.2.2.length).sum
structure Wf (rs : List Row) (most s : Nat) : Prop where
  pos : 1 ≤ rs.length
  len : rs.length ≤ most
  wt : ∀ (i : Nat) (n w : Int) (ks : List Nat), rs[i]? = some (n, w, ks) → 1 ≤ w ∧ w ≤ 9
  done : ∀ (i : Nat) (n w : Int) (ks : List Nat), rs[i]? = some (n, w, ks) → i < s → ks = List.range' (mm rs i) ks.length ∧ i < mm rs i ∧ ks.length ≤ 3 ∧ (ks = [] → small n) ∧ (ks ≠ [] → 0 ≤ n ∧ n ≤ 11)
  rest : ∀ (i : Nat) (n w : Int) (ks : List Nat), rs[i]? = some (n, w, ks) → s ≤ i → ks = []
  tot : mm rs rs.length = rs.length
theorem take_set_le {α : Type} (l t : List α) (s i : Nat) (x : α) (h : i ≤ s) (hs : s < l.length) : (l.set s x ++ t).take i = l.take i := by
  apply List.ext_getElem?
  intro j
  by_cases hj : j < i
  · rw [List.getElem?_take_of_lt hj, List.getElem?_take_of_lt hj, List.getElem?_append_left (by simp; omega), List.getElem?_set_ne (by omega)]
  · rw [List.getElem?_eq_none (by simp; omega), List.getElem?_eq_none (by simp; omega)]
theorem mm_set (rs t : List Row) (s i : Nat) (x : Row) (h : i ≤ s) (hs : s < rs.length) : mm (rs.set s x ++ t) i = mm rs i := by
  unfold mm
  rw [take_set_le rs t s i x h hs]
theorem sum_zero (l : List Row) (h : ∀ x ∈ l, x.2.2 = []) : (l.map fun x => x.2.2.length).sum = 0 := by
  induction l with
  | nil => rfl
  | cons a r ih =>
    have := h a (by simp)
    simp [this, ih fun x hx => h x (by simp [hx])]
theorem mm_rest {rs : List Row} {most s : Nat} (W : Wf rs most s) (hs : s ≤ rs.length) : mm rs s = rs.length := by
  have e := W.tot
  unfold mm at e ⊢
  rw [List.take_length] at e
  have : rs = rs.take s ++ rs.drop s := (List.take_append_drop s rs).symm
  have z : ((rs.drop s).map fun x => x.2.2.length).sum = 0 := sum_zero _ fun x hx => by
    obtain ⟨j, hj⟩ := List.mem_iff_getElem?.mp hx
    rw [List.getElem?_drop] at hj
    exact W.rest (s + j) x.1 x.2.1 x.2.2 hj (by omega)
  have e2 : (rs.map fun x => x.2.2.length).sum = ((rs.take s).map fun x => x.2.2.length).sum := by
    conv => lhs; rw [this, List.map_append, List.sum_append, z]
    rfl
  omega
theorem mm_le (rs : List Row) (i j : Nat) (h : i ≤ j) : mm rs i ≤ mm rs j := by
  unfold mm
  have : rs.take j = rs.take i ++ (rs.drop i).take (j - i) := by
    rw [← List.take_add]
    congr 1
    omega
  rw [this, List.map_append, List.sum_append]
  omega
theorem mm_succ (rs : List Row) (i : Nat) (x : Row) (h : rs[i]? = some x) : mm rs (i + 1) = mm rs i + x.2.2.length := by
  unfold mm
  rw [List.take_add_one, h]
  simp
  omega
theorem Wf.skip {rs : List Row} {most s : Nat} (W : Wf rs most s) (hs : rs.length ≤ s) : Wf rs most (s + 1) := ⟨W.pos, W.len, W.wt, fun i n w ks h hi => W.done i n w ks h (by
  have := (List.getElem?_eq_some_iff.mp h).1
  omega), fun i n w ks h hi => W.rest i n w ks h (by omega), W.tot⟩
theorem get_set_app (rs t : List Row) (s i : Nat) (x y : Row) (hs : s < rs.length) (h : (rs.set s x ++ t)[i]? = some y) : (i = s ∧ y = x) ∨ (i ≠ s ∧ rs[i]? = some y) ∨ (rs.length ≤ i ∧ y ∈ t) := by
  by_cases hi : i < rs.length
  · rw [List.getElem?_append_left (by simpa using hi)] at h
    by_cases e : i = s
    · subst e
      rw [List.getElem?_set_self hi] at h
      exact .inl ⟨rfl, (Option.some.inj h).symm⟩
    · rw [List.getElem?_set_ne (by omega)] at h
      exact .inr (.inl ⟨e, h⟩)
  · rw [List.getElem?_append_right (by simp; omega)] at h
    exact .inr (.inr ⟨by omega, List.mem_of_getElem? h⟩)
theorem sum_set (l : List Row) (s : Nat) (x y : Row) (h : l[s]? = some y) (hy : y.2.2 = []) : ((l.set s x).map fun x => x.2.2.length).sum = (l.map fun x => x.2.2.length).sum + x.2.2.length := by
  induction l generalizing s with
  | nil => simp at h
  | cons a r ih =>
    cases s with
    | zero =>
      simp at h
      subst h
      simp [hy]
      omega
    | succ s =>
      have := ih s (by simpa using h)
      simp only [List.set_cons_succ, List.map_cons, List.sum_cons, this]
      omega
theorem Wf.leaf {rs : List Row} {most s : Nat} (W : Wf rs most s) {n0 n w : Int} {k0 : List Nat} (h : rs[s]? = some (n0, w, k0)) (hn : small n) : Wf (rs.set s (n, w, [])) most (s + 1) := by
  have hs := (List.getElem?_eq_some_iff.mp h).1
  have hk := W.rest s n0 w k0 h (Nat.le_refl _)
  have es : rs.set s (n, w, []) = rs.set s (n, w, []) ++ [] := by simp
  have mr := mm_rest W (by omega)
  have ms : ∀ i, i ≤ s → mm (rs.set s (n, w, [])) i = mm rs i := fun i hi => by rw [es]; exact mm_set rs [] s i _ hi hs
  refine ⟨by simpa using W.pos, by simpa using W.len, fun i n' w' ks g => ?_, fun i n' w' ks g hi => ?_, fun i n' w' ks g hi => ?_, ?_⟩
  · rw [es] at g
    rcases get_set_app rs [] s i _ _ hs g with ⟨rfl, e⟩ | ⟨ne, g⟩ | ⟨_, m⟩
    · cases e; exact W.wt i n0 _ k0 h
    · exact W.wt i n' w' ks g
    · simp at m
  · have ms' := ms i (by omega)
    rw [es] at g
    rcases get_set_app rs [] s i _ _ hs g with ⟨rfl, e⟩ | ⟨ne, g⟩ | ⟨_, m⟩
    · cases e
      rw [ms', mr]
      exact ⟨rfl, hs, by simp, fun _ => hn, fun f => absurd rfl f⟩
    · rw [ms']
      exact W.done i n' w' ks g (by omega)
    · simp at m
  · rw [es] at g
    rcases get_set_app rs [] s i _ _ hs g with ⟨rfl, e⟩ | ⟨ne, g⟩ | ⟨_, m⟩
    · omega
    · exact W.rest i n' w' ks g (by omega)
    · simp at m
  · have e := W.tot
    unfold mm at e ⊢
    rw [List.take_length] at e ⊢
    rw [sum_set rs s _ _ h hk]
    simpa using e
theorem Wf.step {rs : List Row} {most s : Nat} (W : Wf rs most s) {n0 n w : Int} {k0 : List Nat} (h : rs[s]? = some (n0, w, k0)) (hn : 0 ≤ n ∧ n ≤ 11) (ws : List Int) (hw : ∀ w ∈ ws, 1 ≤ w ∧ w ≤ 9) (h0 : 1 ≤ ws.length) (h3 : ws.length ≤ 3) (hm : rs.length + ws.length ≤ most) :
    Wf (rs.set s (n, w, List.range' rs.length ws.length) ++ ws.map fun w => (0, w, [])) most (s + 1) := by
  have hs := (List.getElem?_eq_some_iff.mp h).1
  have hk := W.rest s n0 w k0 h (Nat.le_refl _)
  have mr := mm_rest W (by omega)
  have ms : ∀ i, i ≤ s → mm (rs.set s (n, w, List.range' rs.length ws.length) ++ ws.map fun w => ((0, w, []) : Row)) i = mm rs i := fun i hi => mm_set rs _ s i _ hi hs
  refine ⟨by have := W.pos; simp; omega, by simp; omega, fun i n' w' ks g => ?_, fun i n' w' ks g hi => ?_, fun i n' w' ks g hi => ?_, ?_⟩
  · rcases get_set_app rs _ s i _ _ hs g with ⟨rfl, e⟩ | ⟨ne, g⟩ | ⟨_, m⟩
    · cases e; exact W.wt i n0 _ k0 h
    · exact W.wt i n' w' ks g
    · obtain ⟨v, hv, e⟩ := List.mem_map.mp m
      cases e
      exact hw _ hv
  · have ms' := ms i (by omega)
    rcases get_set_app rs _ s i _ _ hs g with ⟨rfl, e⟩ | ⟨ne, g⟩ | ⟨l, m⟩
    · cases e
      rw [ms', mr]
      refine ⟨by simp, hs, by simpa using h3, fun e => ?_, fun _ => hn⟩
      have := congrArg List.length e
      simp at this
      subst this
      simp at h0
    · rw [ms']
      exact W.done i n' w' ks g (by omega)
    · omega
  · rcases get_set_app rs _ s i _ _ hs g with ⟨rfl, e⟩ | ⟨ne, g⟩ | ⟨_, m⟩
    · omega
    · exact W.rest i n' w' ks g (by omega)
    · obtain ⟨v, hv, e⟩ := List.mem_map.mp m
      cases e
      rfl
  · have e := W.tot
    unfold mm at e ⊢
    rw [List.take_length] at e ⊢
    have z : ((ws.map fun w => ((0, w, []) : Row)).map fun x => x.2.2.length).sum = 0 := sum_zero _ fun x hx => by
      obtain ⟨v, hv, e⟩ := List.mem_map.mp hx
      subst e
      rfl
    rw [List.map_append, List.sum_append, sum_set rs s _ _ h hk, z]
    simp only [List.length_append, List.length_set, List.length_map, List.length_range']
    omega
/-! the tree of rows -/
mutual
def Is (rs : List Row) : LT → Prop
  | .mk s n ks => (∃ w, rs[s]? = some (n, w, ks.spots)) ∧ IsS rs ks
def IsS (rs : List Row) : LTs → Prop
  | .nil => True
  | .cons w t r => (∃ n q, rs[t.spot]? = some (n, w, q)) ∧ Is rs t ∧ IsS rs r
end
/-- all rows are done -/
abbrev WfA (rs : List Row) : Prop := Wf rs 15 15
theorem Wf.all {rs : List Row} {most : Nat} (W : Wf rs most most) (h : most ≤ 15) : WfA rs := ⟨W.pos, Nat.le_trans W.len h, W.wt, fun i n w ks g _ => W.done i n w ks g (by
  have := (List.getElem?_eq_some_iff.mp g).1
  have := W.len
  omega), fun i n w ks g hi => by
  have := (List.getElem?_eq_some_iff.mp g).1
  have := W.len
  omega, W.tot⟩
theorem kid_lt {rs : List Row} (W : WfA rs) {i n w ks} (h : rs[i]? = some (n, w, ks)) : ∀ k ∈ ks, i < k ∧ k < rs.length := by
  intro k hk
  have hi := (List.getElem?_eq_some_iff.mp h).1
  have := W.len
  obtain ⟨e, l, _⟩ := W.done i n w ks h (by omega)
  rw [e, List.mem_range'_1] at hk
  have s1 := mm_succ rs i _ h
  have s2 := mm_le rs (i + 1) rs.length (by omega)
  rw [W.tot] at s2
  simp only at s1
  omega
theorem kids_ex {rs : List Row} (W : WfA rs) : ∀ (ks : List Nat), (∀ k ∈ ks, ∃ t : LT, t.spot = k ∧ Is rs t) → (∀ k ∈ ks, k < rs.length) → ∃ ts : LTs, ts.spots = ks ∧ IsS rs ts
  | [], _, _ => ⟨.nil, rfl, trivial⟩
  | k :: ks, h, l => by
    obtain ⟨t, e, i⟩ := h k (by simp)
    obtain ⟨ts, e2, i2⟩ := kids_ex W ks (fun k hk => h k (by simp [hk])) (fun k hk => l k (by simp [hk]))
    have lk := l k (by simp)
    refine ⟨.cons (rs[k]).2.1 t ts, by simp [LTs.spots, e, e2], ⟨(rs[k]).1, (rs[k]).2.2, by rw [e, List.getElem?_eq_getElem lk]⟩, i, i2⟩
theorem tree_ex {rs : List Row} (W : WfA rs) : ∀ (m i : Nat), rs.length - i ≤ m → i < rs.length → ∃ t : LT, t.spot = i ∧ Is rs t
  | 0, i, h, hi => by omega
  | m + 1, i, h, hi => by
    have g : rs[i]? = some ((rs[i]).1, (rs[i]).2.1, (rs[i]).2.2) := by rw [List.getElem?_eq_getElem hi]
    have kl := kid_lt W g
    obtain ⟨ts, e, s⟩ := kids_ex W (rs[i]).2.2 (fun k hk => tree_ex W m k (by have := kl k hk; omega) (kl k hk).2) (fun k hk => (kl k hk).2)
    exact ⟨.mk i (rs[i]).1 ts, rfl, ⟨(rs[i]).2.1, by rw [e]; exact g⟩, s⟩
theorem spots_len : ∀ ts : LTs, ts.spots.length = ts.len
  | .nil => rfl
  | .cons w t r => by simp [LTs.spots, LTs.len, spots_len r]
theorem trs_len : ∀ ts : LTs, ts.trs.len = ts.len
  | .nil => rfl
  | .cons w t r => by simp [LTs.trs, Trs.len, LTs.len, trs_len r]
mutual
theorem lit_is {rs : List Row} (W : WfA rs) : ∀ t : LT, Is rs t → lit t.tr
  | .mk s n ks, h => by
    obtain ⟨⟨w, g⟩, hk⟩ := h
    have hi := (List.getElem?_eq_some_iff.mp g).1
    have := W.len
    obtain ⟨_, _, l3, l0, l1⟩ := W.done s n w _ g (by omega)
    have il := lits_is W ks hk
    cases ks with
    | nil => exact l0 rfl
    | cons w' t r =>
      have p := l1 (by simp [LTs.spots])
      rw [spots_len] at l3
      refine ⟨⟨by omega, by omega⟩, p.1, il, ?_, ?_⟩
      · show (LTs.trs (.cons w' t r)).len ≤ 3
        rw [trs_len]; exact l3
      · show 1 ≤ (LTs.trs (.cons w' t r)).len
        rw [trs_len]; simp [LTs.len]
theorem lits_is {rs : List Row} (W : WfA rs) : ∀ t : LTs, IsS rs t → lits t.trs
  | .nil, _ => trivial
  | .cons w t r, h => by
    obtain ⟨⟨n, q, g⟩, ht, hr⟩ := h
    exact ⟨W.wt _ n w q g, lit_is W t ht, lits_is W r hr⟩
end
theorem get_spot : ∀ (ts : LTs) (k : Nat), k < ts.len → ∃ w u, ts.get k = some (w, u) ∧ ts.spots[k]? = some u.spot
  | .nil, k, h => by simp [LTs.len] at h
  | .cons w t r, 0, h => ⟨w, t, rfl, by simp [LTs.spots]⟩
  | .cons w t r, k + 1, h => by
    obtain ⟨w', u, g, e⟩ := get_spot r k (by simpa [LTs.len] using h)
    exact ⟨w', u, g, by simpa [LTs.spots] using e⟩
theorem get_is {rs : List Row} : ∀ (ts : LTs) (k : Nat) (w : Int) (u : LT), IsS rs ts → ts.get k = some (w, u) → Is rs u ∧ ts.spots[k]? = some u.spot ∧ ∃ n q, rs[u.spot]? = some (n, w, q)
  | .nil, k, w, u, _, h => by simp [LTs.get] at h
  | .cons w t r, 0, w', u, i, h => by
    simp [LTs.get] at h
    obtain ⟨rfl, rfl⟩ := h
    exact ⟨i.2.1, by simp [LTs.spots], i.1⟩
  | .cons w t r, k + 1, w', u, i, h => by
    obtain ⟨a, b, c⟩ := get_is r k w' u i.2.2 h
    exact ⟨a, by simpa [LTs.spots] using b, c⟩
mutual
theorem sb_is {rs : List Row} : ∀ (t : LT) (p : List Nat), Is rs t → ∀ x ∈ sb t p, Is rs x.2
  | .mk s n ks, p, h, x, hx => by
    rw [sb, List.mem_cons] at hx
    rcases hx with rfl | hx
    · exact h
    · exact sbs_is ks p 0 h.2 x hx
theorem sbs_is {rs : List Row} : ∀ (t : LTs) (p : List Nat) (k : Nat), IsS rs t → ∀ x ∈ sbs t p k, Is rs x.2
  | .nil, p, k, _, x, hx => by simp [sbs] at hx
  | .cons w t r, p, k, h, x, hx => by
    rw [sbs, List.mem_append] at hx
    rcases hx with hx | hx
    · exact sb_is t _ h.2.1 x hx
    · exact sbs_is r p _ h.2.2 x hx
end
end Mi.k02
end

section
set_option linter.all false
set_option maxRecDepth 100000
/-! Kw2: the law's rows. -/
namespace Mi.k02
open PySem Mi.P
def RowV (S : Nat → Prop) (h : Hea) (d : D) (row : Row) : Prop := ∃ p q, d = .ref p ∧ h[p]? = some (.lst [.int row.1, .int row.2.1, .ref q]) ∧ h[q]? = some (.lst (row.2.2.map iD)) ∧ ¬ S p ∧ ¬ S q
def RowsAt (S : Nat → Prop) (h : Hea) (r : Nat) (rs : List Row) : Prop := ∃ ds : List D, h[r]? = some (.lst ds) ∧ ds.length = rs.length ∧ ∀ (i : Nat) (d : D) (row : Row), ds[i]? = some d → rs[i]? = some row → RowV S h d row
theorem RowV.kp {S U : Nat → Prop} {h h' : Hea} {d : D} {row : Row} (v : RowV S h d row) (x : Kp U h h') (i : ∀ j, U j → S j) : RowV S h' d row := by
  obtain ⟨p, q, e, e1, e2, s1, s2⟩ := v
  exact ⟨p, q, e, Kp.get x e1 fun u => s1 (i _ u), Kp.get x e2 fun u => s2 (i _ u), s1, s2⟩
theorem RowsAt.kp {S U : Nat → Prop} {h h' : Hea} {r : Nat} {rs : List Row} (v : RowsAt S h r rs) (x : Kp U h h') (i : ∀ j, U j → S j) (ur : ¬ U r) : RowsAt S h' r rs := by
  obtain ⟨ds, e, l, f⟩ := v
  exact ⟨ds, Kp.get x e ur, l, fun j d row a b => (f j d row a b).kp x i⟩
theorem RowsAt.mono {S U : Nat → Prop} {h : Hea} {r : Nat} {rs : List Row} (v : RowsAt S h r rs) (i : ∀ j, U j → S j) : RowsAt U h r rs := by
  obtain ⟨ds, e, l, f⟩ := v
  refine ⟨ds, e, l, fun j d row a b => ?_⟩
  obtain ⟨p, q, e0, e1, e2, s1, s2⟩ := f j d row a b
  exact ⟨p, q, e0, e1, e2, fun u => s1 (i _ u), fun u => s2 (i _ u)⟩
/-- a row of the list -/
theorem RowsAt.get {S : Nat → Prop} {h : Hea} {r : Nat} {rs : List Row} (v : RowsAt S h r rs) {i : Nat} {row : Row} (e : rs[i]? = some row) : ∃ p q, idxD (.ref r) (.int i) h = some (.ref p) ∧ h[p]? = some (.lst [.int row.1, .int row.2.1, .ref q]) ∧ h[q]? = some (.lst (row.2.2.map iD)) := by
  obtain ⟨ds, g, l, f⟩ := v
  have hi := (List.getElem?_eq_some_iff.mp e).1
  obtain ⟨p, q, e0, e1, e2, _⟩ := f i ds[i] row (List.getElem?_eq_getElem (by omega)) e
  refine ⟨p, q, ?_, e1, e2⟩
  simp [idxD, rdL, g, atI_nat ds i (by omega), e0]
theorem RowsAt.len {S : Nat → Prop} {h : Hea} {r : Nat} {rs : List Row} (v : RowsAt S h r rs) : lenD h (.ref r) = some (rs.length : Int) := by
  obtain ⟨ds, g, l, f⟩ := v
  simp [lenD, g, l]
/-- rows[i] = row -/
theorem RowsAt.set {S : Nat → Prop} {h : Hea} {r : Nat} {rs : List Row} (v : RowsAt S h r rs) (sr : S r) {i : Nat} (hi : i < rs.length) {d : D} {row : Row} (w : RowV S h d row) :
    ∃ h', setI (.ref r) (.int i) d h = .ok () h' ∧ RowsAt S h' r (rs.set i row) ∧ Kp (fun j => j = r) h h' := by
  obtain ⟨ds, g, l, f⟩ := v
  have x : Kp (fun j => j = r) h (h.set r (.lst (ds.set i d))) := Kp.set1 h r _
  have ii : ∀ j, (fun j => j = r) j → S j := fun j e => by subst e; exact sr
  refine ⟨h.set r (.lst (ds.set i d)), ?_, ⟨ds.set i d, List.getElem?_set_self (lt_of_get g), by simpa using l, fun j d' row' a b => ?_⟩, x⟩
  · have : L2.ixN ds.length (i : Int) = some i := ixN_nat _ _ (by omega)
    simp [setI, g, this]
  · by_cases e : j = i
    · subst e
      rw [List.getElem?_set_self (by omega)] at a b
      cases a; cases b
      exact w.kp x ii
    · rw [List.getElem?_set_ne (by omega)] at a b
      exact (f j d' row' a b).kp x ii
theorem RowsAt.app {S : Nat → Prop} {h : Hea} {r : Nat} {rs : List Row} (v : RowsAt S h r rs) (sr : S r) (hz : rs.length < SZ) {d : D} {row : Row} (w : RowV S h d row) :
    ∃ h', gAppend (.ref r) [d] h = .ok .non h' ∧ RowsAt S h' r (rs ++ [row]) ∧ Kp (fun j => j = r) h h' := by
  obtain ⟨ds, g, l, f⟩ := v
  have x : Kp (fun j => j = r) h (h.set r (.lst (ds ++ [d]))) := Kp.set1 h r _
  have ii : ∀ j, (fun j => j = r) j → S j := fun j e => by subst e; exact sr
  refine ⟨h.set r (.lst (ds ++ [d])), ?_, ⟨ds ++ [d], List.getElem?_set_self (lt_of_get g), by simpa using l, fun j d' row' a b => ?_⟩, x⟩
  · have : ds.length < SZ := by omega
    simp [gAppend, g, this]
  · by_cases e : j < ds.length
    · rw [List.getElem?_append_left e] at a
      rw [List.getElem?_append_left (by omega)] at b
      exact (f j d' row' a b).kp x ii
    · rw [List.getElem?_append_right (by omega)] at a b
      have a' := (List.getElem?_eq_some_iff.mp a).1
      simp at a'
      have e0 : j - ds.length = 0 := by omega
      have e1 : j - rs.length = 0 := by omega
      rw [e0] at a
      rw [e1] at b
      cases a; cases b
      exact w.kp x ii
section
variable {G : GE} {Tb : Nat → Option FC} {ok : Nat → Nat → Bool}
/-- rows[spot][1] -/
theorem wt_e (Φ : Orc) {S : Nat → Prop} {h : Hea} {r s : Nat} {rs : List Row} (v : RowsAt S h r rs) {row : Row} (e : rs[s]? = some row) (σ : Loc) (h2 : σ[2]? = some (some (.ref r))) (h3 : σ[3]? = some (some (.int s))) :
    evE G Φ (.idx (.idx (.var 2) (.var 3)) (.lit (.int (1)))) σ h = .ok (.int row.2.1) h := by
  obtain ⟨p, q, i, e1, e2⟩ := v.get e
  have i1 : L2.atI [D.int row.1, D.int row.2.1, D.ref q] 1 = some (.int row.2.1) := by rfl
  have i' : idxD (.ref p) (.int 1) h = some (.int row.2.1) := by simp [idxD, rdL, e1, i1]
  simp only [evE, h2, h3, Out.bind_ok, i, lift_some, i']
theorem row_e (Φ : Orc) (σ : Loc) (e1 e2 e3 : CE) (n w : Int) (q : Nat) (h h1 h2 h3 : Hea) (a1 : evE G Φ e1 σ h = .ok (.int n) h1) (a2 : evE G Φ e2 σ h1 = .ok (.int w) h2) (a3 : evE G Φ e3 σ h2 = .ok (.ref q) h3) :
    evE G Φ (.lst [e1, e2, e3]) σ h = .ok (.ref h3.length) (h3 ++ [.lst [.int n, .int w, .ref q]]) := by
  have z : 3 ≤ SZ := by decide
  simp [evE, evEs, a1, a2, a3, z, new]
theorem row_v (S : Nat → Prop) (h3 : Hea) (n w : Int) (ks : List Nat) (q : Nat) (g : h3[q]? = some (.lst (ks.map iD))) (sq : ¬ S q) (sn : ¬ S h3.length) : RowV S (h3 ++ [.lst [.int n, .int w, .ref q]]) (.ref h3.length) (n, w, ks) :=
  ⟨h3.length, q, rfl, by simp, Ex.get (Kp.app _ _) g, sn, sq⟩
theorem kcp {a r : Nat} {h h' : Hea} (x : Kc a h h') : Kp (fun j => j = a ∨ j = r) h h' := x.1.mono fun _ _ e => .inl e
theorem Dr.ite {Φ : Orc} {a : Nat} {σ : Loc} {c e f : CE} {P : D → Prop} (x : Dr G Φ a σ c fun d => ∃ b, d = .bl b) (y : Dr G Φ a σ e P) (z : Dr G Φ a σ f P) : Dr G Φ a σ (.ite c e f) P := fun h cu => by
  obtain ⟨d, h1, p, q, b, rfl⟩ := x h cu
  cases b with
  | true =>
    obtain ⟨d2, h2, p2, q2, r2⟩ := y h1 q.2
    exact ⟨d2, h2, by simp [evE, p, asD, truD, p2], q.trans q2, r2⟩
  | false =>
    obtain ⟨d2, h2, p2, q2, r2⟩ := z h1 q.2
    exact ⟨d2, h2, by simp [evE, p, asD, truD, p2], q.trans q2, r2⟩
theorem Dr.and {Φ : Orc} {a : Nat} {σ : Loc} {c e : CE} (x : Dr G Φ a σ c fun d => ∃ b, d = .bl b) (y : Dr G Φ a σ e fun d => ∃ b, d = .bl b) : Dr G Φ a σ (.and c e) fun d => ∃ b, d = .bl b := fun h cu => by
  obtain ⟨d, h1, p, q, b, rfl⟩ := x h cu
  cases b with
  | true =>
    obtain ⟨d2, h2, p2, q2, r2⟩ := y h1 q.2
    exact ⟨d2, h2, by simp [evE, p, asD, truD, p2], q.trans q2, r2⟩
  | false => exact ⟨.bl false, h1, by simp [evE, p, asD, truD], q, false, rfl⟩
theorem Dr.gt0 {Φ : Orc} {a : Nat} {σ : Loc} {e : CE} {lo hi : Int} (x : Dr G Φ a σ e (In lo hi)) : Dr G Φ a σ (.cmp .gt e (.lit (.int (0)))) fun d => ∃ b, d = .bl b := fun h cu => by
  obtain ⟨d, h1, p, q, v, rfl, _⟩ := x h cu
  exact ⟨.bl (decide (0 < v)), h1, by simp only [evE, p, Out.bind_ok, cmpX, ownEq, cmpG, opC, Option.map_some, lift_some], q, _, rfl⟩
theorem eqD_int (h : Hea) (x y : Int) : eqD h (.int x) (.int y) = some (decide (x = y)) := by
  simp only [eqD, pd, pdD, SeqAt.shaped, PyData.canLay0, PyData.depth, Option.bind_some, Option.map_some, Bool.true_and]
  rw [if_pos (by rfl)]
  simp only [Option.bind_some, Option.map_some]
  rw [if_pos (by rfl)]
  simp [PyData.eqv]
  by_cases e : x = y <;> simp [e]
theorem Dr.eqv {Φ : Orc} {a : Nat} {σ : Loc} (i : Nat) (v n : Int) (hv : σ[i]? = some (some (.int v))) : Dr G Φ a σ (.cmp .eq (.var i) (.lit (.int n))) fun d => ∃ b, d = .bl b := fun h cu => ⟨.bl (decide (v = n)), h, by simp only [evE, hv, Out.bind_ok, cmpX, ownEq, insAt, Option.bind_none, cmpG, opC, eqD_int, Option.map_some, lift_some], Kc.refl cu, _, rfl⟩
theorem inl {n lo hi : Int} (h : lo ≤ n ∧ n ≤ hi) : In lo hi (.int n) := ⟨n, rfl, h.1, h.2⟩
theorem many_dr (B : LawTb Tb ok) (k a : Nat) (σ : Loc) (hv : σ[0]? = some (some (.ref a))) (s : Int) (h3 : σ[3]? = some (some (.int s))) :
    Dr G (callF G Tb (k + 2)) a σ (.ite (.and (.cmp .eq (.var 3) (.lit (.int (0)))) (.cmp .gt (.callk 1001 [(.var 0), (.lit (.int (9)))] [.inl 0, .inl 1]) (.lit (.int (0))))) (.callk 1002 [(.var 0), (.lst [(.lit (.int (2))), (.lit (.int (3))), (.lit (.int (2))), (.lit (.int (1)))])] [.inl 0, .inl 1]) (.callk 1002 [(.var 0), (.lst [(.lit (.int (0))), (.lit (.int (2))), (.lit (.int (0))), (.lit (.int (1))), (.lit (.int (0))), (.lit (.int (3)))])] [.inl 0, .inl 1])) (In 0 3) := by
  refine Dr.ite (Dr.and (Dr.eqv 3 s 0 h3) (Dr.gt0 (Dr.sip B (k + 1) a σ hv 9 (by omega) (by omega)))) (Dr.pick B k a σ hv _ ?_ (by simp) (by simp)) (Dr.pick B k a σ hv _ ?_ (by simp) (by simp))
  · exact DrS.cons (Dr.lit _ (inl (by omega))) <| DrS.cons (Dr.lit _ (inl (by omega))) <| DrS.cons (Dr.lit _ (inl (by omega))) <| DrS.cons (Dr.lit _ (inl (by omega))) DrS.nil
  · exact DrS.cons (Dr.lit _ (inl (by omega))) <| DrS.cons (Dr.lit _ (inl (by omega))) <| DrS.cons (Dr.lit _ (inl (by omega))) <| DrS.cons (Dr.lit _ (inl (by omega))) <| DrS.cons (Dr.lit _ (inl (by omega))) <| DrS.cons (Dr.lit _ (inl (by omega))) DrS.nil
theorem cost_dr (B : LawTb Tb ok) (k a : Nat) (σ : Loc) (hv : σ[0]? = some (some (.ref a))) :
    Dr G (callF G Tb (k + 2)) a σ (.callk 1002 [(.var 0), (.lst [(.lit (.int (0))), (.lit (.int (1))), (.bin .add (.lit (.int (1))) (.callk 1001 [(.var 0), (.lit (.int (4)))] [.inl 0, .inl 1])), (.callk 1001 [(.var 0), (.lit (.int (12)))] [.inl 0, .inl 1])])] [.inl 0, .inl 1]) (In 0 11) := by
  refine Dr.pick B k a σ hv _ ?_ (by simp) (by simp)
  exact DrS.cons (Dr.lit _ (inl (by omega))) <| DrS.cons (Dr.lit _ (inl (by omega))) <| DrS.cons ((Dr.addl 1 (Dr.sip B (k + 1) a σ hv 4 (by omega) (by omega))).mono fun _ x => x.mono (by omega) (by omega)) <| DrS.cons ((Dr.sip B (k + 1) a σ hv 12 (by omega) (by omega)).mono fun _ x => x.mono (by omega) (by omega)) DrS.nil
theorem worth_dr (B : LawTb Tb ok) (k a : Nat) (σ : Loc) (hv : σ[0]? = some (some (.ref a))) :
    Dr G (callF G Tb (k + 2)) a σ (.callk 1002 [(.var 0), (.lst [(.lit (.int (0))), (.callk 1001 [(.var 0), (.lit (.int (12)))] [.inl 0, .inl 1]), (.callk 1001 [(.var 0), (.lit (.int (40)))] [.inl 0, .inl 1]), (.bin .sub (.lit (.int (0))) (.callk 1001 [(.var 0), (.lit (.int (9)))] [.inl 0, .inl 1])), (.bin .add (.lit (.int (20))) (.callk 1001 [(.var 0), (.lit (.int (60)))] [.inl 0, .inl 1]))])] [.inl 0, .inl 1]) (In (-8) 79) := by
  refine Dr.pick B k a σ hv _ ?_ (by simp) (by simp)
  exact DrS.cons (Dr.lit _ (inl (by omega))) <| DrS.cons ((Dr.sip B (k + 1) a σ hv 12 (by omega) (by omega)).mono fun _ x => x.mono (by omega) (by omega)) <| DrS.cons ((Dr.sip B (k + 1) a σ hv 40 (by omega) (by omega)).mono fun _ x => x.mono (by omega) (by omega)) <|
    DrS.cons ((Dr.subl 0 (Dr.sip B (k + 1) a σ hv 9 (by omega) (by omega))).mono fun _ x => x.mono (by omega) (by omega)) <| DrS.cons ((Dr.addl 20 (Dr.sip B (k + 1) a σ hv 60 (by omega) (by omega))).mono fun _ x => x.mono (by omega) (by omega)) DrS.nil
theorem weight_dr (B : LawTb Tb ok) (k a : Nat) (σ : Loc) (hv : σ[0]? = some (some (.ref a))) :
    Dr G (callF G Tb (k + 2)) a σ (.callk 1002 [(.var 0), (.lst [(.lit (.int (1))), (.lit (.int (1))), (.lit (.int (2))), (.lit (.int (3))), (.bin .add (.lit (.int (1))) (.callk 1001 [(.var 0), (.lit (.int (9)))] [.inl 0, .inl 1]))])] [.inl 0, .inl 1]) (In 1 9) := by
  refine Dr.pick B k a σ hv _ ?_ (by simp) (by simp)
  exact DrS.cons (Dr.lit _ (inl (by omega))) <| DrS.cons (Dr.lit _ (inl (by omega))) <| DrS.cons (Dr.lit _ (inl (by omega))) <| DrS.cons (Dr.lit _ (inl (by omega))) <| DrS.cons ((Dr.addl 1 (Dr.sip B (k + 1) a σ hv 9 (by omega) (by omega))).mono fun _ x => x.mono (by omega) (by omega)) DrS.nil
end
end Mi.k02
end

section
set_option linter.all false
set_option maxRecDepth 100000
/-! Kw3: the law's flat trees. -/
namespace Mi.k02
open PySem Mi.P
def AR (a r : Nat) (j : Nat) : Prop := j = a ∨ j = r
theorem rng_range (lo m : Nat) : rngD (lo : Int) m 1 = (List.range' lo m).map iD := by
  apply List.ext_getElem
  · simp [rngD]
  · intro i h1 h2
    simp [rngD, iD]
section
variable {G : GE} {Tb : Nat → Option FC} {ok : Nat → Nat → Bool}
theorem lrng_e (Φ : Orc) (σ : Loc) (es : List CE) (h h1 : Hea) (lo m : Nat) (hl : lo ≤ 1000) (hm : m ≤ 1000) (e : evEs G Φ es σ h = .ok [.int (lo : Int), .int ((lo : Int) + (m : Int))] h1) :
    evE G Φ (.lrng es) σ h = .ok (.ref h1.length) (h1 ++ [.lst ((List.range' lo m).map iD)]) := by
  have s1 := small_R (i := (lo : Int)) (by omega) (by omega)
  have s2 := small_R (i := (lo : Int) + (m : Int)) (by omega) (by omega)
  have tn : ((lo : Int) + (m : Int) - (lo : Int)).toNat = m := by omega
  have d : decide (m ≤ SZ) = true := decide_eq_true (by
    have : SZ = 16777216 := rfl
    omega)
  rw [evE, e, Out.bind_ok]
  simp only
  rw [tn, s1, s2, d, ← rng_range]
  rfl
def Sg (a most r : Nat) (x3 x4 x5 x6 : Option D) : Loc := [some (.ref a), some (.int most), some (.ref r), x3, x4, x5, x6]
theorem app_e (Φ : Orc) (σ : Loc) (M : CE) (h h1 h2 : Hea) (r : Nat) (d : D) (ds : List D) (hv : σ[2]? = some (some (.ref r))) (g : h[r]? = some (.lst ds)) (e : evE G Φ M σ h = .ok d h1) (e2 : gAppend (.ref r) [d] h1 = .ok .non h2) :
    evSs G Φ [.exp (.bm .append (.var 2) [M])] σ h = .ok (.nx σ) h2 := by
  simp only [evSs, evS, evE, evEs, hv, Out.bind_ok, recv, listD, rdL, g, Option.isSome_some, if_true, e, callM, e2]
theorem asgI_e (Φ : Orc) (σ : Loc) (M : CE) (i j : Nat) (h h1 h2 : Hea) (x y d : D) (hi : σ[i]? = some (some x)) (hj : σ[j]? = some (some y)) (e : evE G Φ M σ h = .ok d h1) (e2 : setI x y d h1 = .ok () h2) :
    evS G Φ (.asgI (.var i) (.var j) M) σ h = .ok (.nx σ) h2 := by
  simp only [evS, evE, hi, hj, e, Out.bind_ok, e2]
theorem asg_e (Φ : Orc) (σ : Loc) (M : CE) (i : Nat) (h h1 : Hea) (d : D) (e : evE G Φ M σ h = .ok d h1) : evS G Φ (.asg i M) σ h = .ok (.nx (σ.set i (some d))) h1 := by
  simp only [evS, e, Out.bind_ok]
theorem iff_t (Φ : Orc) (σ : Loc) (c : CE) (A E : List CS) (h h1 : Hea) (e : evE G Φ c σ h = .ok (.bl true) h1) : evS G Φ (.iff c A E) σ h = evSs G Φ A σ h1 := by
  simp only [evS, e, Out.bind_ok, asD, truD, lift_some, if_true]
theorem iff_f (Φ : Orc) (σ : Loc) (c : CE) (A E : List CS) (h h1 : Hea) (e : evE G Φ c σ h = .ok (.bl false) h1) : evS G Φ (.iff c A E) σ h = evSs G Φ E σ h1 := by
  simp only [evS, e, Out.bind_ok, asD, truD, lift_some, Bool.false_eq_true, if_false]
theorem ss_one (Φ : Orc) (s : CS) (σ : Loc) (h : Hea) (σ1 : Loc) (h1 : Hea) (e : evS G Φ s σ h = .ok (.nx σ1) h1) : evSs G Φ [s] σ h = .ok (.nx σ1) h1 := by
  rw [ss_nx e, evSs]
theorem flat_in (B : LawTb Tb ok) (k a most r : Nat) (x3 x6 : Option D) (m : Nat) (hm : m ≤ 3) (h0 : Hea) (hr : h0.length ≤ r) (ha : a < h0.length) (base : List Row) (hb : base.length + m ≤ 15) (h : Hea) (x5 : Option D) (R : RowsAt (AR a r) h r base) (C : Cup h a) (K : Kp (fun j => j = a) h0 h) :
    ∃ h' x5' ws, frGo (.nm 5) (evSs G (callF G Tb (k + 2)) c1003f1b) (.fix (rngD 0 m 1)) FUEL 0 (Sg a most r x3 (some (.int m)) x5 x6) h = .ok (.nx (Sg a most r x3 (some (.int m)) x5' x6)) h' ∧ List.length ws = m ∧ (∀ w ∈ ws, 1 ≤ w ∧ w ≤ (9 : Int)) ∧ RowsAt (AR a r) h' r (base ++ ws.map fun w => (0, w, [])) ∧ Cup h' a ∧ Kp (fun j => j = a) h0 h' := by
  have f : FUEL = 18446744073709551616 := rfl
  have zz : SZ = 16777216 := rfl
  have rl : (rngD 0 m 1).length = m := by simp [rngD]
  obtain ⟨σ', h', e, x5', ws, rfl, l, q1, q2, q3, q4⟩ := frGo_inv (.nm 5) (evSs G (callF G Tb (k + 2)) c1003f1b) (.fix (rngD 0 m 1)) (rngD 0 m 1)
    (fun i σ h' => ∃ x5' ws, σ = Sg a most r x3 (some (.int m)) x5' x6 ∧ List.length ws = i ∧ (∀ w ∈ ws, 1 ≤ w ∧ w ≤ (9 : Int)) ∧ RowsAt (AR a r) h' r (base ++ ws.map fun w => (0, w, [])) ∧ Cup h' a ∧ Kp (fun j => j = a) h0 h') (fun _ _ _ _ => rfl)
    (fun i hi σ h1 x => by
      obtain ⟨x5', ws, rfl, l, q1, q2, q3, q4⟩ := x
      rw [rl] at hi
      have er : (rngD 0 m 1)[i]'(by rw [rl]; exact hi) = .int i := by simp [rngD]
      obtain ⟨d, h2, p, kc, w, rfl, w1, w9⟩ := weight_dr (G := G) B k a (Sg a most r x3 (some (.int m)) (some (.int i)) x6) rfl h1 q3
      have z0 : 0 ≤ SZ := Nat.zero_le _
      have nr : a ≠ r := by omega
      have R2 := q2.kp (kc.1) (fun j e => .inl e) (fun e => nr e.symm)
      have R3 := R2.kp (Kp.app (S := fun _ => False) h2 [.lst []]) (fun j e => e.elim) (fun e => e)
      have q := R3.len
      have rlt : r < h2.length := by
        obtain ⟨ds, g, _⟩ := R2
        exact lt_of_get g
      have alt := kc.2.lt
      have ev := row_e (G := G) (callF G Tb (k + 2)) (Sg a most r x3 (some (.int m)) (some (.int i)) x6) (.lit (.int (0))) _ (.lst []) 0 w h2.length h1 h1 h2 (h2 ++ [.lst []]) (by simp [evE]) p (by simp [evE, evEs, z0, new])
      have R4 := R3.kp (Kp.app (S := fun _ => False) (h2 ++ [O.lst []]) [.lst [.int 0, .int w, .ref h2.length]]) (fun j e => e.elim) (fun e => e)
      have rv := row_v (AR a r) (h2 ++ [.lst []]) 0 w [] h2.length (by simp) (by unfold AR; omega) (by unfold AR; simp; omega)
      obtain ⟨h5, e5, R5, k5⟩ := R4.app (.inr rfl) (by simp; omega) rv
      have c4 : Cup (h2 ++ [.lst []] ++ [.lst [.int 0, .int w, .ref h2.length]]) a := (kc.2.app _).app _
      have k04 : Kp (fun j => j = a) h0 (h2 ++ [.lst []] ++ [.lst [.int 0, .int w, .ref h2.length]]) := ((q4.trans kc.1).trans (Kp.app _ _)).trans (Kp.app _ _)
      refine ⟨Sg a most r x3 (some (.int m)) (some (.int i)) x6, Sg a most r x3 (some (.int m)) (some (.int i)) x6, h5, by rw [er]; rfl, ?_, some (.int i), ws ++ [w], rfl, by simp [l], ?_, by simpa using R5, ?_, ?_⟩
      · obtain ⟨ds1, g1, _⟩ := q2
        exact app_e _ _ _ h1 _ h5 r _ ds1 rfl g1 ev e5
      · intro v hv
        rcases List.mem_append.mp hv with hv | hv
        · exact q1 v hv
        · simp at hv; subst hv; exact ⟨w1, w9⟩
      · obtain ⟨p1, p2, p3, p4⟩ := c4
        exact ⟨p1, p2, Kp.get k5 p3 nr, p4⟩
      · exact k04.drop_new (k5.mono (U := fun j => j = a ∨ j = r) fun _ _ e => .inr e) hr)
    FUEL 0 (Sg a most r x3 (some (.int m)) x5 x6) h (by rw [rl]; omega) (Nat.zero_le _) ⟨x5, [], rfl, rfl, by simp, by simpa using R, C, K⟩
  rw [rl] at l
  exact ⟨h', x5', ws, e, l, q1, q2, q3, q4⟩
def FI (h0 : Hea) (a r most s : Nat) (σ : Loc) (h : Hea) : Prop := ∃ x3 x4 x5 x6 rs, σ = Sg a most r x3 x4 x5 x6 ∧ RowsAt (AR a r) h r rs ∧ Wf rs most s ∧ Cup h a ∧ Kp (fun j => j = a) h0 h
theorem flat_step (B : LawTb Tb ok) (k a most r s : Nat) (hmo : most ≤ 15) (h0 : Hea) (hr : h0.length ≤ r) (ha : a < h0.length) (x4 x5 x6 : Option D) (rs : List Row) (h : Hea) (R : RowsAt (AR a r) h r rs) (W : Wf rs most s) (C : Cup h a) (K : Kp (fun j => j = a) h0 h) :
    ∃ σ' h', evSs G (callF G Tb (k + 2)) c1003f0b (Sg a most r (some (.int s)) x4 x5 x6) h = .ok (.nx σ') h' ∧ FI h0 a r most (s + 1) σ' h' := by
  have f : FUEL = 18446744073709551616 := rfl
  have zz : SZ = 16777216 := rfl
  have nr : a ≠ r := by omega
  have wl := W.len
  by_cases hs : s < rs.length
  · have cl : evE G (callF G Tb (k + 2)) (.cmp .lt (.var 3) (.bi .len [(.var 2)])) (Sg a most r (some (.int s)) x4 x5 x6) h = .ok (.bl true) h := by
      have e : decide ((s : Int) < (rs.length : Int)) = true := decide_eq_true (by omega)
      simp [Sg, evE, evEs, callX, callB, fLen, R.len, cmpX, ownEq, cmpG, opC, hs]
    have g : rs[s]? = some ((rs[s]).1, (rs[s]).2.1, (rs[s]).2.2) := by rw [List.getElem?_eq_getElem hs]
    obtain ⟨d, h1, p1, c1, m, rfl, m0, m3⟩ := many_dr (G := G) B k a (Sg a most r (some (.int s)) x4 x5 x6) rfl s rfl h C
    obtain ⟨m, rfl⟩ := Int.eq_ofNat_of_zero_le m0
    have a4 : evS G (callF G Tb (k + 2)) (.asg 4 _) (Sg a most r (some (.int s)) x4 x5 x6) h = .ok (.nx (Sg a most r (some (.int s)) (some (.int m)) x5 x6)) h1 := asg_e _ _ _ 4 _ _ _ p1
    have R1 := R.kp c1.1 (fun j e => .inl e) (fun e => nr e.symm)
    have K1 := K.trans c1.1
    let cnd : Bool := decide (0 < m) && decide (rs.length + m ≤ most)
    have cc : evE G (callF G Tb (k + 2)) (.and (.cmp .gt (.var 4) (.lit (.int (0)))) (.cmp .le (.bin .add (.bi .len [(.var 2)]) (.var 4)) (.var 1))) (Sg a most r (some (.int s)) (some (.int m)) x5 x6) h1 = .ok (.bl cnd) h1 := by
      by_cases q1 : 0 < m
      · have e2 : decide ((rs.length : Int) + (m : Int) ≤ (most : Int)) = decide (rs.length + m ≤ most) := by
          apply decide_eq_decide.mpr; omega
        simp [Sg, evE, evEs, callX, callB, fLen, R1.len, cmpX, ownEq, cmpG, opC, opB, opAdd, asD, truD, q1, cnd, e2]
      · simp [Sg, evE, evEs, cmpX, ownEq, cmpG, opC, asD, truD, q1, cnd]
    by_cases q : cnd = true
    · -- a step
      rw [q] at cc
      simp only [cnd, Bool.and_eq_true, decide_eq_true_eq] at q
      obtain ⟨q1, q2⟩ := q
      obtain ⟨d, h2, p2, c2, n, rfl, n0, n1⟩ := cost_dr (G := G) B k a (Sg a most r (some (.int s)) (some (.int m)) x5 x6) rfl h1 c1.2
      have R2 := R1.kp c2.1 (fun j e => .inl e) (fun e => nr e.symm)
      have w2 := wt_e (G := G) (callF G Tb (k + 2)) R2 g (Sg a most r (some (.int s)) (some (.int m)) x5 x6) rfl rfl
      have lr := lrng_e (G := G) (callF G Tb (k + 2)) (Sg a most r (some (.int s)) (some (.int m)) x5 x6) [(.bi .len [(.var 2)]), (.bin .add (.bi .len [(.var 2)]) (.var 4))] h2 h2 rs.length m (by omega) (by omega) (by
        simp [Sg, evE, evEs, callX, callB, fLen, R2.len, opB, opAdd])
      have ev := row_e (G := G) (callF G Tb (k + 2)) (Sg a most r (some (.int s)) (some (.int m)) x5 x6) _ _ _ n (rs[s]).2.1 h2.length h1 h2 h2 _ p2 w2 lr
      have rlt : r < h2.length := by
        obtain ⟨ds, g, _⟩ := R2
        exact lt_of_get g
      have alt := c2.2.lt
      have R3 := R2.kp (Kp.app (S := fun _ => False) h2 [.lst ((List.range' rs.length m).map iD)]) (fun j e => e.elim) (fun e => e)
      have R4 := R3.kp (Kp.app (S := fun _ => False) (h2 ++ [O.lst ((List.range' rs.length m).map iD)]) [.lst [.int n, .int (rs[s]).2.1, .ref h2.length]]) (fun j e => e.elim) (fun e => e)
      have rv := row_v (AR a r) (h2 ++ [.lst ((List.range' rs.length m).map iD)]) n (rs[s]).2.1 (List.range' rs.length m) h2.length (by simp) (by unfold AR; omega) (by unfold AR; simp; omega)
      obtain ⟨h5, e5, R5, k5⟩ := R4.set (.inr rfl) hs rv
      have c4 : Cup (h2 ++ [.lst ((List.range' rs.length m).map iD)] ++ [.lst [.int n, .int (rs[s]).2.1, .ref h2.length]]) a := (c2.2.app _).app _
      have c5 : Cup h5 a := by
        obtain ⟨p1, p2, p3, p4⟩ := c4
        exact ⟨p1, p2, Kp.get k5 p3 nr, p4⟩
      have K5 : Kp (fun j => j = a) h0 h5 := (((K1.trans c2.1).trans (Kp.app _ _)).trans (Kp.app _ _)).drop_new (k5.mono (U := fun j => j = a ∨ j = r) fun _ _ e => .inr e) hr
      obtain ⟨h6, x5', ws, e6, l6, q6, R6, c6, K6⟩ := flat_in (G := G) B k a most r (some (.int s)) x6 m (by omega) h0 hr ha _ (by simp; omega) h5 x5 R5 c5 K5
      have s1 := asgI_e (G := G) (callF G Tb (k + 2)) (Sg a most r (some (.int s)) (some (.int m)) x5 x6) _ 2 3 h1 _ h5 _ _ _ rfl rfl ev e5
      have s2 : evS G (callF G Tb (k + 2)) (.fr (.nm 5) (.rng [(.var 4)]) c1003f1b) (Sg a most r (some (.int s)) (some (.int m)) x5 x6) h5 = .ok (.nx (Sg a most r (some (.int s)) (some (.int m)) x5' x6)) h6 := by
        rw [evS, evI_rng1 _ m (small_R (by omega) (by omega)) h5 h5 _ _ (by simp [evEs, evE, Sg]), Out.bind_ok]
        exact e6
      refine ⟨Sg a most r (some (.int s)) (some (.int m)) x5' x6, h6, ?_, some (.int s), some (.int m), x5', x6, _, rfl, R6, ?_, c6, K6⟩
      · unfold c1003f0b
        apply ss_one
        rw [iff_t _ _ _ _ _ _ _ cl, ss_nx a4]
        apply ss_one
        rw [iff_t _ _ _ _ _ _ _ cc, ss_nx s1]
        exact ss_one _ _ _ _ _ _ s2
      · have := W.step (n := n) g ⟨n0, n1⟩ ws q6 (by omega) (by omega) (by omega)
        rw [l6] at this
        exact this
    · -- an end
      have q' : cnd = false := by simpa using q
      rw [q'] at cc
      obtain ⟨d, h2, p2, c2, n, rfl, n0, n1⟩ := worth_dr (G := G) B k a (Sg a most r (some (.int s)) (some (.int m)) x5 x6) rfl h1 c1.2
      have R2 := R1.kp c2.1 (fun j e => .inl e) (fun e => nr e.symm)
      have a6 : evS G (callF G Tb (k + 2)) (.asg 6 _) (Sg a most r (some (.int s)) (some (.int m)) x5 x6) h1 = .ok (.nx (Sg a most r (some (.int s)) (some (.int m)) x5 (some (.int n)))) h2 := asg_e _ _ _ 6 _ _ _ p2
      have w2 := wt_e (G := G) (callF G Tb (k + 2)) R2 g (Sg a most r (some (.int s)) (some (.int m)) x5 (some (.int n))) rfl rfl
      have z0 : 0 ≤ SZ := Nat.zero_le _
      have ev := row_e (G := G) (callF G Tb (k + 2)) (Sg a most r (some (.int s)) (some (.int m)) x5 (some (.int n))) (.var 6) _ (.lst []) n (rs[s]).2.1 h2.length h2 h2 h2 (h2 ++ [.lst []]) (by simp [evE, Sg]) w2 (by simp [evE, evEs, z0, new])
      have rlt : r < h2.length := by
        obtain ⟨ds, g, _⟩ := R2
        exact lt_of_get g
      have alt := c2.2.lt
      have R3 := R2.kp (Kp.app (S := fun _ => False) h2 [.lst []]) (fun j e => e.elim) (fun e => e)
      have R4 := R3.kp (Kp.app (S := fun _ => False) (h2 ++ [O.lst []]) [.lst [.int n, .int (rs[s]).2.1, .ref h2.length]]) (fun j e => e.elim) (fun e => e)
      have rv := row_v (AR a r) (h2 ++ [.lst []]) n (rs[s]).2.1 [] h2.length (by simp) (by unfold AR; omega) (by unfold AR; simp; omega)
      obtain ⟨h5, e5, R5, k5⟩ := R4.set (.inr rfl) hs rv
      have c4 : Cup (h2 ++ [.lst []] ++ [.lst [.int n, .int (rs[s]).2.1, .ref h2.length]]) a := (c2.2.app _).app _
      have c5 : Cup h5 a := by
        obtain ⟨p1, p2, p3, p4⟩ := c4
        exact ⟨p1, p2, Kp.get k5 p3 nr, p4⟩
      have K5 : Kp (fun j => j = a) h0 h5 := (((K1.trans c2.1).trans (Kp.app _ _)).trans (Kp.app _ _)).drop_new (k5.mono (U := fun j => j = a ∨ j = r) fun _ _ e => .inr e) hr
      have s1 := asgI_e (G := G) (callF G Tb (k + 2)) (Sg a most r (some (.int s)) (some (.int m)) x5 (some (.int n))) _ 2 3 h2 _ h5 _ _ _ rfl rfl ev e5
      refine ⟨Sg a most r (some (.int s)) (some (.int m)) x5 (some (.int n)), h5, ?_, some (.int s), some (.int m), x5, some (.int n), _, rfl, R5, W.leaf g ⟨n0, n1⟩, c5, K5⟩
      unfold c1003f0b
      apply ss_one
      rw [iff_t _ _ _ _ _ _ _ cl, ss_nx a4]
      apply ss_one
      rw [iff_f _ _ _ _ _ _ _ cc, ss_nx a6]
      exact ss_one _ _ _ _ _ _ s1
  · have cl : evE G (callF G Tb (k + 2)) (.cmp .lt (.var 3) (.bi .len [(.var 2)])) (Sg a most r (some (.int s)) x4 x5 x6) h = .ok (.bl false) h := by
      simp [Sg, evE, evEs, callX, callB, fLen, R.len, cmpX, ownEq, cmpG, opC, hs]
    refine ⟨Sg a most r (some (.int s)) x4 x5 x6, h, ?_, some (.int s), x4, x5, x6, rs, rfl, R, W.skip (by omega), C, K⟩
    unfold c1003f0b
    apply ss_one
    rw [iff_f _ _ _ _ _ _ _ cl, evSs]
theorem flat_ok (B : LawTb Tb ok) (k a most : Nat) (hm1 : 1 ≤ most) (hmo : most ≤ 15) (h : Hea) (C : Cup h a) :
    ∃ h' r rs, callF G Tb (k + 3) 1003 [.ref a, .int most] h = .ok (.ref r) h' ∧ Kc a h h' ∧ RowsAt (fun j => j = a) h' r rs ∧ WfA rs ∧ h.length ≤ r := by
  have f : FUEL = 18446744073709551616 := rfl
  have zz : SZ = 16777216 := rfl
  have rl : (rngD 0 most 1).length = most := by simp [rngD]
  have alt := C.lt
  let h1 : Hea := h ++ [.lst []] ++ [.lst [.int 0, .int 1, .ref h.length]] ++ [.lst [.ref (h.length + 1)]]
  let r := h.length + 2
  have i0 : FI h a r most 0 (Sg a most r none none none none) h1 := by
    refine ⟨none, none, none, none, [(0, 1, [])], rfl, ⟨[.ref (h.length + 1)], by simp [h1, r, List.getElem?_append], rfl, fun i d row e1 e2 => ?_⟩, ?_, ((C.app _).app _).app _, ((Kp.app _ _).trans (Kp.app _ _)).trans (Kp.app _ _)⟩
    · cases i with
      | succ i => simp at e1
      | zero =>
        simp at e1 e2
        subst e1 e2
        refine ⟨h.length + 1, h.length, rfl, by simp [h1, List.getElem?_append], by simp [h1, List.getElem?_append], ?_, ?_⟩
        · unfold AR; simp only [r]; omega
        · unfold AR; simp only [r]; omega
    · refine ⟨by simp, by simpa using hm1, fun i n w ks e => ?_, fun i n w ks e hi => by omega, fun i n w ks e _ => ?_, by simp [mm]⟩
      · cases i with
        | zero => simp at e; obtain ⟨rfl, rfl, rfl⟩ := e; omega
        | succ i => simp at e
      · cases i with
        | zero => simp at e; exact e.2.2
        | succ i => simp at e
  obtain ⟨σ', h', e, x3, x4, x5, x6, rs, rfl, R, W, c, K⟩ := frGo_inv (.nm 3) (evSs G (callF G Tb (k + 2)) c1003f0b) (.fix (rngD 0 most 1)) (rngD 0 most 1) (FI h a r most) (fun _ _ _ _ => rfl)
    (fun i hi σ h1 x => by
      obtain ⟨x3, x4, x5, x6, rs, rfl, R, W, c, K⟩ := x
      rw [rl] at hi
      have er : (rngD 0 most 1)[i]'(by rw [rl]; exact hi) = .int i := by simp [rngD]
      obtain ⟨σ', h', e, i'⟩ := flat_step (G := G) B k a most r i hmo h (by simp [r]) alt x4 x5 x6 rs h1 R W c K
      exact ⟨_, σ', h', by rw [er]; rfl, e, i'⟩)
    FUEL 0 _ h1 (by rw [rl]; omega) (Nat.zero_le _) i0
  rw [rl] at W
  refine ⟨h', r, rs, ?_, ⟨K, c⟩, R.mono fun j e => .inl e, W.all hmo, by simp [r]⟩
  show callF G Tb ((k + 2) + 1) 1003 _ h = _
  unfold callF
  have z1 : 1 ≤ SZ := by omega
  have z3 : 3 ≤ SZ := by omega
  have s1 : evS G (callF G Tb (k + 2)) (.asg 2 (.lst [(.lst [(.lit (.int (0))), (.lit (.int (1))), (.lst [])])])) [some (.ref a), some (.int most), none, none, none, none, none] h = .ok (.nx (Sg a most r none none none none)) h1 := by
    simp [evS, evE, evEs, new, z1, z3, Sg, h1, r]
  have s2 : evS G (callF G Tb (k + 2)) (.fr (.nm 3) (.rng [(.var 1)]) c1003f0b) (Sg a most r none none none none) h1 = .ok (.nx (Sg a most r x3 x4 x5 x6)) h' := by
    rw [evS, evI_rng1 _ most (small_R (by omega) (by omega)) h1 h1 _ _ (by simp [evEs, evE, Sg]), Out.bind_ok]
    exact e
  simp only [B.u3, runF, c1003_w]
  rw [if_pos (by rfl), show Mi.begin ⟨7, 2, _⟩ [D.ref a, D.int most] = [some (.ref a), some (.int most), none, none, none, none, none] from rfl, ss_nx s1, ss_nx s2]
  simp [evSs, evS, evE, Sg]
end
end Mi.k02
end

section
set_option linter.all false
/-! Kr2: the paths of rows, plain. -/
namespace Mi.k02
open PySem Mi.P
mutual
theorem is_uniq {rs : List Row} : ∀ (t u : LT), Is rs t → Is rs u → t.spot = u.spot → t = u
  | .mk s n ks, .mk s' n' ks', h, h', e => by
    simp only [LT.spot] at e
    subst e
    obtain ⟨⟨w, g⟩, i⟩ := h
    obtain ⟨⟨w', g'⟩, i'⟩ := h'
    rw [g] at g'
    simp only [Option.some.injEq, Prod.mk.injEq] at g'
    obtain ⟨rfl, rfl, e⟩ := g'
    rw [iss_uniq ks ks' i i' e]
theorem iss_uniq {rs : List Row} : ∀ (t u : LTs), IsS rs t → IsS rs u → t.spots = u.spots → t = u
  | .nil, .nil, _, _, _ => rfl
  | .nil, .cons _ _ _, _, _, e => by simp [LTs.spots] at e
  | .cons _ _ _, .nil, _, _, e => by simp [LTs.spots] at e
  | .cons w t r, .cons w' t' r', h, h', e => by
    simp only [LTs.spots, List.cons.injEq] at e
    obtain ⟨⟨n, q, g⟩, i, j⟩ := h
    obtain ⟨⟨n', q', g'⟩, i', j'⟩ := h'
    have e1 := is_uniq t t' i i' e.1
    subst e1
    rw [g] at g'
    simp only [Option.some.injEq, Prod.mk.injEq] at g'
    rw [iss_uniq r r' j j' e.2, g'.2.1]
end
/-- the branches of a path -/
def kidsP (p : List Nat) (ks : List Nat) : List (List Nat × Nat) := ks.zipIdx.map fun x => (p ++ [x.2], x.1)
def fnd (rs : List Row) : Nat → List (List Nat × Nat)
  | 0 => [([], 0)]
  | s + 1 => fnd rs s ++ match (fnd rs s)[s]?, rs[s]? with
    | some x, some y => kidsP x.1 y.2.2
    | _, _ => []
theorem kidsP_snd (p : List Nat) (ks : List Nat) : (kidsP p ks).map (·.2) = ks := by
  simp [kidsP, List.map_map, Function.comp_def]
theorem kidsP_mem {p ks : List Nat} {x : List Nat × Nat} (h : x ∈ kidsP p ks) : ∃ j, ks[j]? = some x.2 ∧ x.1 = p ++ [j] := by
  simp only [kidsP, List.mem_map] at h
  obtain ⟨y, hy, rfl⟩ := h
  have := List.mk_mem_zipIdx_iff_getElem?.mp (show (y.1, y.2) ∈ ks.zipIdx from hy)
  exact ⟨y.2, this, rfl⟩
theorem kidsP_get {p ks : List Nat} {j k : Nat} (h : ks[j]? = some k) : (p ++ [j], k) ∈ kidsP p ks := by
  simp only [kidsP, List.mem_map]
  exact ⟨(k, j), List.mk_mem_zipIdx_iff_getElem?.mpr h, rfl⟩
theorem row_at {rs : List Row} (W : WfA rs) {s : Nat} (h : s < rs.length) : ∃ n w ks, rs[s]? = some (n, w, ks) ∧ ks = List.range' (mm rs s) ks.length ∧ s < mm rs s ∧ mm rs (s + 1) = mm rs s + ks.length := by
  have g : rs[s]? = some ((rs[s]).1, (rs[s]).2.1, (rs[s]).2.2) := by rw [List.getElem?_eq_getElem h]
  have := W.len
  obtain ⟨a, b, _⟩ := W.done s _ _ _ g (by omega)
  exact ⟨_, _, _, g, a, b, mm_succ rs s _ g⟩
theorem fnd_snd {rs : List Row} (W : WfA rs) : ∀ s, s ≤ rs.length → (fnd rs s).map (·.2) = List.range (mm rs s)
  | 0, _ => by simp [fnd, mm]
  | s + 1, hs => by
    have ih := fnd_snd W s (by omega)
    obtain ⟨n, w, ks, g, e1, l, m1⟩ := row_at W (s := s) (by omega)
    have fl : (fnd rs s).length = mm rs s := by
      have := congrArg List.length ih
      simpa using this
    have gs : (fnd rs s)[s]? = some (fnd rs s)[s] := List.getElem?_eq_getElem (by omega)
    simp only [fnd, gs, g, List.map_append, ih, kidsP_snd]
    rw [m1, e1, List.range_eq_range', List.range_eq_range', List.length_range']
    have := List.range'_append (s := 0) (m := mm rs s) (n := ks.length) (step := 1)
    simpa using this
theorem fnd_len {rs : List Row} (W : WfA rs) (s : Nat) (h : s ≤ rs.length) : (fnd rs s).length = mm rs s := by
  have := congrArg List.length (fnd_snd W s h)
  simpa using this
theorem fnd_at {rs : List Row} (W : WfA rs) (s : Nat) (h : s ≤ rs.length) (i : Nat) (hi : i < (fnd rs s).length) : ((fnd rs s)[i]).2 = i := by
  have e := fnd_snd W s h
  have : ((fnd rs s).map (·.2))[i]'(by simpa using hi) = i := by
    simp only [e, List.getElem_range]
  simpa using this
theorem fnd_mem {rs : List Row} (W : WfA rs) {s : Nat} (h : s ≤ rs.length) {p : List Nat} {i : Nat} (hm : (p, i) ∈ fnd rs s) : (fnd rs s)[i]? = some (p, i) := by
  obtain ⟨j, hj, e⟩ := List.mem_iff_getElem.mp hm
  have := fnd_at W s h j hj
  rw [e] at this
  simp only at this
  subst this
  rw [List.getElem?_eq_getElem hj, e]
theorem fnd_step {rs : List Row} (W : WfA rs) {s : Nat} (h : s < rs.length) : ∃ p n w ks, (fnd rs s)[s]? = some (p, s) ∧ rs[s]? = some (n, w, ks) ∧ fnd rs (s + 1) = fnd rs s ++ kidsP p ks ∧ (∀ k ∈ ks, s < k) := by
  obtain ⟨n, w, ks, g, e1, l, m1⟩ := row_at W h
  have fl := fnd_len W s (by omega)
  have hs : s < (fnd rs s).length := by omega
  have a := fnd_at W s (by omega) s hs
  have gs : (fnd rs s)[s]? = some ((fnd rs s)[s].1, s) := by
    rw [List.getElem?_eq_getElem hs]
    congr 1
    exact Prod.ext rfl a
  refine ⟨_, n, w, ks, gs, g, by rw [fnd, gs, g], fun k hk => ?_⟩
  rw [e1, List.mem_range'_1] at hk
  omega
def prL (t : LT) : List (List Nat × Nat) := (sb t []).map fun x => (x.1, x.2.spot)
theorem spots_get : ∀ (ts : LTs) (j k : Nat), ts.spots[j]? = some k → ∃ w u, ts.get j = some (w, u) ∧ u.spot = k
  | .nil, j, k, h => by simp [LTs.spots] at h
  | .cons w t r, 0, k, h => ⟨w, t, rfl, by simpa [LTs.spots] using h⟩
  | .cons w t r, j + 1, k, h => by
    obtain ⟨w', u, g, e⟩ := spots_get r j k (by simpa [LTs.spots] using h)
    exact ⟨w', u, g, e⟩
theorem is_row {rs : List Row} {t : LT} (h : Is rs t) : ∃ w, rs[t.spot]? = some (t.num, w, t.ks.spots) := by
  cases t with
  | mk s n ks => exact h.1
theorem fnd_sub {rs : List Row} (W : WfA rs) (t : LT) (ht : Is rs t) (h0 : t.spot = 0) : ∀ s, s ≤ rs.length → ∀ x ∈ fnd rs s, x ∈ prL t
  | 0, _, x, hx => by
    simp [fnd] at hx
    subst hx
    cases t with
    | mk s n ks =>
      simp only [LT.spot] at h0
      subst h0
      simp [prL, sb, LT.spot]
  | s + 1, hs, x, hx => by
    obtain ⟨p, n, w, ks, gs, g, e, _⟩ := fnd_step W (s := s) (by omega)
    rw [e, List.mem_append] at hx
    rcases hx with hx | hx
    · exact fnd_sub W t ht h0 s (by omega) x hx
    · obtain ⟨j, hj, e2⟩ := kidsP_mem hx
      have := fnd_sub W t ht h0 s (by omega) _ (List.mem_of_getElem? gs)
      simp only [prL, List.mem_map] at this ⊢
      obtain ⟨u, hu, eu⟩ := this
      simp only [Prod.mk.injEq] at eu
      obtain ⟨w', gr⟩ := is_row (sb_is t [] ht u hu)
      rw [eu.2, g] at gr
      simp only [Option.some.injEq, Prod.mk.injEq] at gr
      rw [gr.2.2] at hj
      obtain ⟨w2, v, gv, ev⟩ := spots_get _ j _ hj
      refine ⟨_, sb_kid t [] u hu j w2 v gv, ?_⟩
      rw [ev, eu.1, ← e2]
theorem fnd_closed {rs : List Row} (W : WfA rs) : ∀ s, s ≤ rs.length → ∀ p i, i < s → (p, i) ∈ fnd rs s → ∀ n w ks, rs[i]? = some (n, w, ks) → ∀ j k, ks[j]? = some k → (p ++ [j], k) ∈ fnd rs s
  | 0, _, _, _, h, _, _, _, _, _, _, _, _ => by omega
  | s + 1, hs, p, i, hi, hm, n, w, ks, g, j, k, hk => by
    obtain ⟨p', n', w', ks', gs, g', e, lt⟩ := fnd_step W (s := s) (by omega)
    rw [e, List.mem_append] at hm ⊢
    have old : (p, i) ∈ fnd rs s := by
      rcases hm with hm | hm
      · exact hm
      · obtain ⟨j', hj', _⟩ := kidsP_mem hm
        have := lt i (List.mem_of_getElem? hj')
        omega
    by_cases e2 : i = s
    · subst e2
      have := fnd_mem W (by omega) old
      rw [this] at gs
      simp only [Option.some.injEq, Prod.mk.injEq] at gs
      rw [g] at g'
      simp only [Option.some.injEq, Prod.mk.injEq] at g'
      right
      rw [← gs.1, ← g'.2.2]
      exact kidsP_get hk
    · left
      exact fnd_closed W s (by omega) p i (by omega) old n w ks g j k hk
theorem sub_fnd {rs : List Row} (W : WfA rs) (t : LT) (ht : Is rs t) (h0 : t.spot = 0) : ∀ x ∈ prL t, x ∈ fnd rs rs.length := by
  intro x hx
  simp only [prL, List.mem_map] at hx
  obtain ⟨u, hu, rfl⟩ := hx
  have base : ([], 0) ∈ fnd rs rs.length := by
    have : ∀ s, ([], 0) ∈ fnd rs s := by
      intro s
      induction s with
      | zero => simp [fnd]
      | succ s ih => rw [fnd, List.mem_append]; exact .inl ih
    exact this _
  refine (sb_all (fun p v => Is rs v ∧ (p, v.spot) ∈ fnd rs rs.length) ?_ t [] ⟨ht, by rw [h0]; exact base⟩ u hu).2
  intro p v hv j w2 c gc
  obtain ⟨w', gr⟩ := is_row hv.1
  have is : IsS rs v.ks := by
    cases v with
    | mk s n ks => exact hv.1.2
  obtain ⟨ic, sc, _⟩ := get_is v.ks j w2 c is gc
  exact ⟨ic, fnd_closed W _ (Nat.le_refl _) p v.spot (List.getElem?_eq_some_iff.mp gr).1 hv.2 _ _ _ gr j _ sc⟩
theorem nodup_fnd {rs : List Row} (W : WfA rs) : (fnd rs rs.length).Nodup := by
  have : ((fnd rs rs.length).map (·.2)).Nodup := by
    rw [fnd_snd W _ (Nat.le_refl _)]
    exact List.nodup_range
  exact List.Pairwise.of_map _ (fun a b h e => h (by rw [e])) this
theorem bef_irr (a : List Nat) : ¬ Bef a a := by
  intro h
  have := h [] []
  exact absurd ((PyProof.Rows.lex_irrefl (O := PyProof.Rows.itemOrd) (toks a ++ [])).symm.trans this) Bool.false_ne_true
theorem prL_srt (t : LT) : (prL t).Pairwise fun a b => Bef a.1 b.1 := by
  unfold prL
  rw [List.pairwise_map]
  exact sb_srt t []
theorem nodup_prL (t : LT) : (prL t).Nodup := (prL_srt t).imp fun {a b} h e => by
  subst e
  exact bef_irr _ h
theorem fnd_perm {rs : List Row} (W : WfA rs) (t : LT) (ht : Is rs t) (h0 : t.spot = 0) : (fnd rs rs.length).Perm (prL t) :=
  (List.perm_ext_iff_of_nodup (nodup_fnd W) (nodup_prL t)).mpr fun a => ⟨fnd_sub W t ht h0 _ (Nat.le_refl _) a, sub_fnd W t ht h0 a⟩
theorem siz_sb (t : LT) (p : List Nat) : (sb t p).length = siz t.tr := by
  have := nd_len t.tr p
  rw [nd_sb] at this
  simpa using this
theorem siz_root {rs : List Row} (W : WfA rs) (t : LT) (ht : Is rs t) (h0 : t.spot = 0) : siz t.tr = rs.length := by
  have := (fnd_perm W t ht h0).length_eq
  rw [fnd_len W _ (Nat.le_refl _), W.tot] at this
  rw [this, prL, List.length_map, siz_sb]
theorem siz_any {rs : List Row} (W : WfA rs) (t : LT) (ht : Is rs t) : siz t.tr ≤ 15 := by
  obtain ⟨t0, e0, i0⟩ := tree_ex W _ 0 (Nat.le_refl _) W.pos
  obtain ⟨w, g⟩ := is_row ht
  have hs := (List.getElem?_eq_some_iff.mp g).1
  have fl := fnd_len W _ (Nat.le_refl _)
  rw [W.tot] at fl
  have m := List.getElem_mem (l := fnd rs rs.length) (n := t.spot) (by omega)
  have a := fnd_at W _ (Nat.le_refl _) t.spot (by omega)
  have := fnd_sub W t0 i0 e0 _ (Nat.le_refl _) _ m
  simp only [prL, List.mem_map] at this
  obtain ⟨u, hu, eu⟩ := this
  have es : u.2.spot = t.spot := by rw [← a, ← eu]
  have := is_uniq u.2 t (sb_is t0 [] i0 u hu) ht es
  obtain ⟨q, _, aq⟩ := sb_at t0 [] u hu
  have := (lit_at q t0.tr u.2.tr (atL_T q t0 u.2 aq) (lit_is W t0 i0)).2
  rw [siz_root W t0 i0 e0] at this
  have := W.len
  rw [← ‹u.2 = t›]
  omega
end Mi.k02
end

section
set_option linter.all false
set_option maxRecDepth 100000
/-! Kw4: the law's nest and text. -/
namespace Mi.k02
open PySem Mi.P
theorem encs_trs_get : ∀ (ts : LTs) (i : Nat) (w : Int) (u : LT), ts.get i = some (w, u) → (encs ts.trs)[i]? = some (.tup [.int w, enc u.tr])
  | .nil, _, _, _, h => by simp [LTs.get] at h
  | .cons w t r, 0, w', u, h => by
    simp [LTs.get] at h
    simp [LTs.trs, encs, h.1, h.2]
  | .cons w t r, k + 1, w', u, h => by
    have := encs_trs_get r k w' u h
    simpa [LTs.trs, encs] using this
theorem txts_trs_get : ∀ (ts : LTs) (i : Nat) (w : Int) (u : LT), ts.get i = some (w, u) → (txts ts.trs)[i]? = some ((num w ++ (":" : Str)) ++ txt u.tr)
  | .nil, _, _, _, h => by simp [LTs.get] at h
  | .cons w t r, 0, w', u, h => by
    simp [LTs.get] at h
    simp [LTs.trs, txts, h.1, h.2, emp_app]
  | .cons w t r, k + 1, w', u, h => by
    have := txts_trs_get r k w' u h
    simpa [LTs.trs, txts] using this
theorem pd_list (h : Hea) (q : Nat) (ks : List Nat) (g : h[q]? = some (.lst (ks.map iD))) : pd h (.ref q) = some (.list (ks.map iP)) := by
  have e : pdR h 8 q = some (.list (ks.map iP)) := by
    show ((rdL h q).bind fun ds => (pdDs (pdR h 7) ds).map PyData.list) = _
    simp [rdL, g, pdDs_iD]
  simp [pd, pdD, e, SeqAt.shaped, PyData.canLay0, PyData.depth, lay_iP, dep_iP]
theorem eqD_list (h : Hea) (q e : Nat) (ks : List Nat) (g : h[q]? = some (.lst (ks.map iD))) (g2 : h[e]? = some (.lst [])) : eqD h (.ref q) (.ref e) = some (decide (ks = [])) := by
  have p2 := pd_list h e [] (by simpa using g2)
  have := eqv_iP ks []
  simp only [eqD, pd_list h q ks g, p2, Option.bind_some, Option.map_some, PyData.eqv, this]
section
variable {G : GE} {Tb : Nat → Option FC} {ok : Nat → Nat → Bool}
theorem evI_rng3 (Φ : Orc) (σ : Loc) (es : List CE) (h h1 : Hea) (n : Nat) (hn : 1 ≤ n) (hl : n ≤ 1000) (e : evEs G Φ es σ h = .ok [.int ((n : Int) - 1), .int (-1), .int (-1)] h1) :
    evI G Φ (.rng es) σ h = .ok (.fix (rngD ((n : Int) - 1) n (-1))) h1 := by
  have s1 := small_R (i := (n : Int) - 1) (by omega) (by omega)
  have s2 : smallR (-1) = true := by decide
  have tn : ((n : Int) - 1 - (-1)).toNat = n := by omega
  rw [evI, e, Out.bind_ok]
  simp only
  rw [s1, s2, tn]
  rfl
theorem rng3_get (n i : Nat) (h : i < n) : ∃ hl, (rngD ((n : Int) - 1) n (-1))[i]'hl = .int ((n - 1 - i : Nat) : Int) := by
  refine ⟨by simp [rngD]; exact h, ?_⟩
  simp [rngD]
  omega
/-- [d for row in rows] -/
theorem init_lc (Φ : Orc) (d : D) (σ : Loc) (r : Nat) (h : Hea) (ds : List D) (g : h[r]? = some (.lst ds)) (hz : ds.length ≤ 1000) :
    lcGo (.nm 2) (fun _ h => .ok (.bl true) h) (evE G Φ (.lit d)) (.lst r) σ FUEL 0 [] h = .ok (List.replicate ds.length d) h := by
  have zz : SZ = 16777216 := rfl
  have f : FUEL = 18446744073709551616 := rfl
  obtain ⟨acc, h', e, a1, a2⟩ := lcGo_inv1 (.nm 2) (evE G Φ (.lit d)) (.lst r) σ ds (fun i acc h' => acc = List.replicate i d ∧ h' = h) (fun i acc h' x => by rw [x.2]; simp [srcAt, rdL, g])
    (fun i hi acc h' x => ⟨_, d, h', rfl, by simp [evE], by rw [x.1, List.length_replicate]; omega, by rw [x.1, List.replicate_succ'], x.2⟩) h (by omega) ⟨rfl, rfl⟩
  rw [e, a1, a2]
/-- rows[k][1] -/
theorem wt_e2 (Φ : Orc) {S : Nat → Prop} {h : Hea} {r s : Nat} {rs : List Row} (v : RowsAt S h r rs) {row : Row} (e : rs[s]? = some row) (σ : Loc) (i j : Nat) (h2 : σ[i]? = some (some (.ref r))) (h3 : σ[j]? = some (some (.int s))) :
    evE G Φ (.idx (.idx (.var i) (.var j)) (.lit (.int (1)))) σ h = .ok (.int row.2.1) h := by
  obtain ⟨p, q, i, e1, e2⟩ := v.get e
  have i1 : L2.atI [D.int row.1, D.int row.2.1, D.ref q] 1 = some (.int row.2.1) := by rfl
  have i' : idxD (.ref p) (.int 1) h = some (.int row.2.1) := by simp [idxD, rdL, e1, i1]
  simp only [evE, h2, h3, Out.bind_ok, i, lift_some, i']
/-- what is made so far -/
def Made (rs : List Row) (F : LT → D) (c : Nat) (ms : List D) : Prop := ms.length = rs.length ∧ ∀ t : LT, Is rs t → c ≤ t.spot → ms[t.spot]? = some (F t)
theorem Made.set {rs : List Row} {F : LT → D} {c : Nat} {ms : List D} (M : Made rs F (c + 1) ms) (t : LT) (ht : Is rs t) (hs : t.spot = c) (hc : c < rs.length) : Made rs F c (ms.set c (F t)) := by
  refine ⟨by simpa using M.1, fun u hu hl => ?_⟩
  by_cases e : u.spot = c
  · rw [is_uniq u t hu ht (by omega), hs]
    rw [List.getElem?_set_self (by rw [M.1]; exact hc)]
  · rw [List.getElem?_set_ne (by omega)]
    exact M.2 u hu (by omega)
/-- rows[spot] taken apart -/
theorem row_s (Φ : Orc) {S : Nat → Prop} {h : Hea} {r s : Nat} {rs : List Row} (v : RowsAt S h r rs) {n w : Int} {ks : List Nat} (e : rs[s]? = some (n, w, ks)) (x1 x2 x4 x5 x6 x7 : Option D) :
    ∃ q, evS G Φ (.asgT [4, 5, 6] (.idx (.var 0) (.var 3))) [some (.ref r), x1, x2, some (.int s), x4, x5, x6, x7] h = .ok (.nx [some (.ref r), x1, x2, some (.int s), some (.int n), some (.int w), some (.ref q), x7]) h ∧ h[q]? = some (.lst (ks.map iD)) := by
  obtain ⟨p, q, i, e1, e2⟩ := v.get e
  refine ⟨q, ?_, e2⟩
  simp only [evS, evE, List.getElem?_cons_zero, List.getElem?_cons_succ, Out.bind_ok, i, lift_some, seqD, rdL, e1, List.length_cons, List.length_nil, if_true, setAll, List.set_cons_succ, List.set_cons_zero]
theorem nest_lc (Φ : Orc) {S : Nat → Prop} {h : Hea} {r m q : Nat} {rs : List Row} (v : RowsAt S h r rs) (ts : LTs) (hi : IsS rs ts) (g : h[q]? = some (.lst (ts.spots.map iD))) (ms : List D) (gm : h[m]? = some (.lst ms)) (c : Nat) (M : Made rs (fun t => enc t.tr) c ms) (hc : ∀ k ∈ ts.spots, c ≤ k) (x2 x3 x4 x5 x6 x7 : Option D) (hz : ts.len ≤ 1000) :
    lcGo (.nm 7) (fun _ h => .ok (.bl true) h) (evE G Φ c1004l2e) (.lst q) [some (.ref r), some (.ref m), x2, x3, x4, x5, x6, x7] FUEL 0 [] h = .ok (encs ts.trs) h := by
  have zz : SZ = 16777216 := rfl
  have f : FUEL = 18446744073709551616 := rfl
  have sl := spots_len ts
  have el := encs_len ts.trs
  rw [trs_len] at el
  obtain ⟨acc, h', e, a1, a2⟩ := lcGo_inv1 (.nm 7) (evE G Φ c1004l2e) (.lst q) [some (.ref r), some (.ref m), x2, x3, x4, x5, x6, x7] (ts.spots.map iD) (fun i acc h' => acc = (encs ts.trs).take i ∧ h' = h) (fun i acc h' x => by rw [x.2]; simp [srcAt, rdL, g])
    (fun i hi' acc h' x => by
      obtain ⟨xa, rfl⟩ := x
      simp only [List.length_map] at hi'
      obtain ⟨w, u, gu, su⟩ := get_spot ts i (by omega)
      obtain ⟨iu, _, n, qq, gr⟩ := get_is ts i w u hi gu
      have mu := M.2 u iu (hc _ (List.mem_of_getElem? su))
      obtain ⟨l, es⟩ := List.getElem?_eq_some_iff.mp su
      have ew := wt_e2 (G := G) Φ v gr [some (.ref r), some (.ref m), x2, x3, x4, x5, x6, some (.int (u.spot : Int))] 0 7 rfl rfl
      have em : evE G Φ (.idx (.var 1) (.var 7)) [some (.ref r), some (.ref m), x2, x3, x4, x5, x6, some (.int (u.spot : Int))] h' = .ok (enc u.tr) h' := by
        obtain ⟨lm, em⟩ := List.getElem?_eq_some_iff.mp mu
        have := atI_nat ms u.spot lm
        simp [evE, idxD, rdL, gm, this, em]
      refine ⟨[some (.ref r), some (.ref m), x2, x3, x4, x5, x6, some (.int (u.spot : Int))], .tup [.int w, enc u.tr], h', ?_, ?_, ?_, ?_, rfl⟩
      · simp [bindT, iD, es]
      · have z2 : 2 ≤ SZ := by omega
        unfold c1004l2e
        rw [evE, evEs, ew, Out.bind_ok, evEs, em]
        simp [evEs, z2]
      · rw [xa]; simp; omega
      · rw [xa, List.take_add_one, encs_trs_get ts i w u gu]
        rfl)
    h (by simp; omega) ⟨by simp, rfl⟩
  rw [e, a1, a2, List.length_map, sl, ← el, List.take_length]
theorem ltr (s : Nat) (n : Int) (ts : LTs) : enc (Mi.P.LT.mk s n ts).tr = if ts.spots = [] then .tup [.str "end", .int n] else .tup [.str "step", .int n, .tup (encs ts.trs)] := by
  cases ts with
  | nil => simp [LT.tr, LTs.trs, mkT, enc, LTs.spots]
  | cons w t r => simp [LT.tr, LTs.trs, mkT, enc, LTs.spots]
theorem set_made (h : Hea) (m : Nat) (ms : List D) (g : h[m]? = some (.lst ms)) (s : Nat) (hs : s < ms.length) (d : D) : setI (.ref m) (.int s) d h = .ok () (h.set m (.lst (ms.set s d))) := by
  have : L2.ixN ms.length (s : Int) = some s := ixN_nat _ _ hs
  simp [setI, g, this]
theorem nest_ok (B : LawTb Tb ok) (k : Nat) {S : Nat → Prop} {h : Hea} {r : Nat} {rs : List Row} (R : RowsAt S h r rs) (W : WfA rs) (t0 : LT) (i0 : Is rs t0) (z0 : t0.spot = 0) :
    ∃ h', callF G Tb (k + 1) 1004 [.ref r] h = .ok (enc t0.tr) h' ∧ Ex h h' := by
  have zz : SZ = 16777216 := rfl
  have f : FUEL = 18446744073709551616 := rfl
  have hp := W.pos
  have hl := W.len
  obtain ⟨ds, gd, dl, _⟩ := id R
  have il := init_lc (G := G) (callF G Tb k) .non [some (.ref r), none, none, none, none, none, none, none] r h ds gd (by omega)
  let m := h.length
  let h1 : Hea := h ++ [.lst (List.replicate ds.length .non)]
  obtain ⟨σ', h', e, x2, x3, x4, x5, x6, x7, ms, rfl, gm, M, K⟩ := frGo_inv (.nm 3) (evSs G (callF G Tb k) c1004f1b) (.fix (rngD ((rs.length : Int) - 1) rs.length (-1))) (rngD ((rs.length : Int) - 1) rs.length (-1))
    (fun i σ h' => ∃ x2 x3 x4 x5 x6 x7 ms, σ = [some (.ref r), some (.ref m), x2, x3, x4, x5, x6, x7] ∧ h'[m]? = some (.lst ms) ∧ Made rs (fun t => enc t.tr) (rs.length - i) ms ∧ Ex h h') (fun _ _ _ _ => rfl)
    (fun i hi σ h2 x => by
      obtain ⟨x2, x3, x4, x5, x6, x7, ms, rfl, gm, M, K⟩ := x
      have hi' : i < rs.length := by simpa [rngD] using hi
      obtain ⟨_, er⟩ := rng3_get rs.length i hi'
      obtain ⟨t, et, it⟩ := tree_ex W _ (rs.length - 1 - i) (Nat.le_refl _) (by omega)
      have R2 := R.kp K (fun j e => e.elim) (fun e => e)
      cases t with
      | mk s n ts =>
        simp only [LT.spot] at et
        subst et
        obtain ⟨⟨w, gw⟩, is⟩ := id it
        obtain ⟨q, e1, gq⟩ := row_s (G := G) (callF G Tb k) R2 gw (some (.ref m)) x2 x4 x5 x6 x7
        have lm : rs.length - 1 - i < ms.length := by rw [M.1]; omega
        have M' := (show Made rs (fun t => enc t.tr) (rs.length - 1 - i + 1) ms by rwa [show rs.length - 1 - i + 1 = rs.length - i by omega]).set _ it rfl (by omega)
        let h3 : Hea := h2 ++ [.lst []]
        have gq3 : h3[q]? = some (.lst (ts.spots.map iD)) := Ex.get (Kp.app h2 _) gq
        have gm3 : h3[m]? = some (.lst ms) := Ex.get (Kp.app h2 _) gm
        have ge3 : h3[h2.length]? = some (.lst []) := by simp [h3]
        have qe := eqD_list h3 q h2.length _ gq3 ge3
        have K3 : Ex h h3 := K.trans (Kp.app _ _)
        have cc : evE G (callF G Tb k) (.cmp .eq (.var 6) (.lst [])) [some (.ref r), some (.ref m), x2, some (.int ((rs.length - 1 - i : Nat) : Int)), some (.int n), some (.int w), some (.ref q), x7] h2 = .ok (.bl (decide (ts.spots = []))) h3 := by
          have z0 : 0 ≤ SZ := Nat.zero_le _
          have nq : insAt h3 (.ref q) = none := by simp [insAt, gq3]
          simp only [evE, evEs, List.getElem?_cons_zero, List.getElem?_cons_succ, Out.bind_ok, List.length_nil, z0, if_true, new, show h2 ++ [O.lst []] = h3 from rfl, cmpX, ownEq, nq, Option.bind_none, cmpG, opC, qe, Option.map_some, lift_some]
        have bq : bindT h2 [some (.ref r), some (.ref m), x2, x3, x4, x5, x6, x7] ((rngD ((rs.length : Int) - 1) rs.length (-1))[i]) (.nm 3) = some [some (.ref r), some (.ref m), x2, some (.int ((rs.length - 1 - i : Nat) : Int)), x4, x5, x6, x7] := by rw [er]; rfl
        by_cases hk : ts.spots = []
        · rw [decide_eq_true hk] at cc
          have sm := set_made h3 m ms gm3 (rs.length - 1 - i) lm (.tup [.str "end", .int n])
          refine ⟨_, [some (.ref r), some (.ref m), x2, some (.int ((rs.length - 1 - i : Nat) : Int)), some (.int n), some (.int w), some (.ref q), x7], h3.set m (.lst (ms.set (rs.length - 1 - i) (.tup [.str "end", .int n]))), bq, ?_, _, _, _, _, _, _, _, rfl, List.getElem?_set_self (lt_of_get gm3), ?_, K3.set_new m (Nat.le_refl _) _⟩
          · unfold c1004f1b
            rw [ss_nx e1]
            apply ss_one
            rw [iff_t _ _ _ _ _ _ _ cc]
            apply ss_one
            have z2 : 2 ≤ SZ := by omega
            exact asgI_e _ _ _ 1 3 _ h3 _ _ _ _ rfl rfl (by simp [evE, evEs, z2]) sm
          · have := M'
            rw [ltr, if_pos hk] at this
            rw [show rs.length - (i + 1) = rs.length - 1 - i by omega]
            exact this
        · rw [decide_eq_false hk] at cc
          have kl := kid_lt W gw
          have lc := nest_lc (G := G) (callF G Tb k) (R2.kp (Kp.app (S := fun _ => False) h2 [.lst []]) (fun j e => e.elim) (fun e => e)) _ is gq3 ms gm3 (rs.length - i) M (fun k hk => by have := kl k hk; omega) x2 (some (.int ((rs.length - 1 - i : Nat) : Int))) (some (.int n)) (some (.int w)) (some (.ref q)) none (by
            have := (W.done _ n w _ gw (by omega)).2.2.1
            rw [spots_len] at this
            omega)
          rw [show h2 ++ [O.lst []] = h3 from rfl] at lc
          let h4 : Hea := h3 ++ [.lst (encs ts.trs)]
          have gm4 : h4[m]? = some (.lst ms) := Ex.get (Kp.app h3 _) gm3
          have sm := set_made h4 m ms gm4 (rs.length - 1 - i) lm (.tup [.str "step", .int n, .tup (encs ts.trs)])
          refine ⟨_, [some (.ref r), some (.ref m), x2, some (.int ((rs.length - 1 - i : Nat) : Int)), some (.int n), some (.int w), some (.ref q), x7], h4.set m (.lst (ms.set (rs.length - 1 - i) (.tup [.str "step", .int n, .tup (encs ts.trs)]))), bq, ?_, _, _, _, _, _, _, _, rfl, List.getElem?_set_self (lt_of_get gm4), ?_, (K3.trans (Kp.app _ _)).set_new m (Nat.le_refl _) _⟩
          · unfold c1004f1b
            rw [ss_nx e1]
            apply ss_one
            rw [iff_f _ _ _ _ _ _ _ cc]
            apply ss_one
            have z3 : 3 ≤ SZ := by omega
            have gt : h4[h3.length]? = some (.lst (encs ts.trs)) := List.getElem?_concat_length
            refine asgI_e _ _ _ 1 3 _ h4 _ _ _ _ rfl rfl ?_ sm
            have el : evE G (callF G Tb k) (.lc [7] (.nm 7) (.seq (.var 6)) (.lit (.bl true)) c1004l2e) [some (.ref r), some (.ref m), x2, some (.int ((rs.length - 1 - i : Nat) : Int)), some (.int n), some (.int w), some (.ref q), x7] h3 = .ok (.ref h3.length) h4 := by
              simp only [evE, evI, List.getElem?_cons_zero, List.getElem?_cons_succ, Out.bind_ok, walkD, rdL, gq3, Option.map_some, lift_some, wipeL, List.set_cons_succ, List.set_cons_zero, lc, new]
              rfl
            generalize CE.lc [7] (.nm 7) (.seq (.var 6)) (.lit (.bl true)) c1004l2e = L at el ⊢
            simp only [evE, evEs, List.getElem?_cons_zero, List.getElem?_cons_succ, Out.bind_ok, el, callX, callB, fTuple, seqD, rdL, gt, Option.map_some, lift_some, List.length_cons, List.length_nil, z3, if_true]
          · have := M'
            rw [ltr, if_neg hk] at this
            rw [show rs.length - (i + 1) = rs.length - 1 - i by omega]
            exact this)
    FUEL 0 [some (.ref r), some (.ref m), none, none, none, none, none, none] h1 (by simp [rngD]; omega) (Nat.zero_le _)
    ⟨none, none, none, none, none, none, List.replicate ds.length .non, rfl, by simp [h1, m], ⟨by simp [dl], fun t it ht => by
      cases t with
      | mk s n ts =>
        obtain ⟨⟨w, g⟩, _⟩ := it
        have := (List.getElem?_eq_some_iff.mp g).1
        simp only [LT.spot] at ht
        omega⟩, Kp.app _ _⟩
  have rl : (rngD ((rs.length : Int) - 1) rs.length (-1)).length = rs.length := by simp [rngD]
  rw [rl, Nat.sub_self] at M
  have m0 := M.2 t0 i0 (Nat.zero_le _)
  rw [z0] at m0
  obtain ⟨lm, em⟩ := List.getElem?_eq_some_iff.mp m0
  have at0 : L2.atI ms 0 = some (enc t0.tr) := by
    have := atI_nat ms 0 lm
    rw [em] at this
    exact this
  refine ⟨h', ?_, K⟩
  unfold callF
  have s1 : evS G (callF G Tb k) (.asg 1 (.lc [2] (.nm 2) (.seq (.var 0)) (.lit (.bl true)) c1004l0e)) [some (.ref r), none, none, none, none, none, none, none] h = .ok (.nx [some (.ref r), some (.ref m), none, none, none, none, none, none]) h1 := by
    have c0 : c1004l0e = .lit .non := rfl
    rw [c0]
    rw [evS, evE]
    simp only [evI, evE, List.getElem?_cons_zero, Out.bind_ok, walkD, rdL, gd, Option.map_some, lift_some, wipeL, List.set_cons_succ, List.set_cons_zero]
    have il' : lcGo (Tg.nm 2) (fun x x_1 => Out.ok (D.bl true) x_1) (fun x x_1 => Out.ok D.non x_1) (Src.lst r) [some (D.ref r), none, none, none, none, none, none, none] FUEL 0 [] h = .ok (List.replicate ds.length .non) h := by
      have e : (evE G (callF G Tb k) (.lit .non)) = fun x x_1 => Out.ok D.non x_1 := by funext a b; simp [evE]
      rw [← e]; exact il
    rw [il']
    rfl
  have s2 : evS G (callF G Tb k) (.fr (.nm 3) (.rng [(.bin .sub (.bi .len [(.var 0)]) (.lit (.int (1)))), (.neg (.lit (.int (1)))), (.neg (.lit (.int (1))))]) c1004f1b) [some (.ref r), some (.ref m), none, none, none, none, none, none] h1 = .ok (.nx [some (.ref r), some (.ref m), x2, x3, x4, x5, x6, x7]) h' := by
    have R1 := R.kp (Kp.app (S := fun _ => False) h [.lst (List.replicate ds.length .non)]) (fun j e => e.elim) (fun e => e)
    rw [evS, evI_rng3 _ _ _ h1 h1 rs.length hp (by omega) (by simp [evEs, evE, callX, callB, fLen, show h ++ [O.lst (List.replicate ds.length .non)] = h1 from rfl, (show lenD h1 (.ref r) = _ from R1.len), opB, opSub]), Out.bind_ok]
    exact e
  simp only [B.u4, runF, c1004_w]
  rw [if_pos (by rfl), show Mi.begin ⟨8, 1, _⟩ [D.ref r] = [some (.ref r), none, none, none, none, none, none, none] from rfl, ss_nx s1, ss_nx s2]
  simp [evSs, evS, evE, idxD, rdL, gm, at0]
end
end Mi.k02
end

section
set_option linter.all false
set_option maxRecDepth 100000
/-! Kw5: the law's text. -/
namespace Mi.k02
open PySem Mi.P
section
variable {G : GE} {Tb : Nat → Option FC} {ok : Nat → Nat → Bool}
theorem str_i (Φ : Orc) (σ : Loc) (e : CE) (h h1 : Hea) (n : Int) (hs : small n) (he : evE G Φ e σ h = .ok (.int n) h1) : evE G Φ (.bi .str [e]) σ h = .ok (.str (num n)) h1 := by
  have := num_smallI n hs
  simp [evE, evEs, he, callX, insAt, fStr, this, num]
theorem add_s (Φ : Orc) (σ : Loc) (e f : CE) (h h1 h2 : Hea) (x y : Str) (he : evE G Φ e σ h = .ok (.str x) h1) (hf : evE G Φ f σ h1 = .ok (.str y) h2) (hz : x.length + y.length ≤ 1000) : evE G Φ (.bin .add e f) σ h = .ok (.str (x ++ y)) h2 := by
  have : x.length + y.length ≤ SZ := by
    have zz : SZ = 16777216 := rfl
    omega
  simp [evE, he, hf, opB, opAdd, this]
theorem text_lc (Φ : Orc) {S : Nat → Prop} {h : Hea} {r m q : Nat} {rs : List Row} (W : WfA rs) (v : RowsAt S h r rs) (ts : LTs) (hi : IsS rs ts) (g : h[q]? = some (.lst (ts.spots.map iD))) (ms : List D) (gm : h[m]? = some (.lst ms)) (c : Nat) (M : Made rs (fun t => .str (txt t.tr)) c ms) (hc : ∀ k ∈ ts.spots, c ≤ k) (x2 x3 x4 x5 x6 x7 : Option D) (hz : ts.len ≤ 1000) :
    lcGo (.nm 7) (fun _ h => .ok (.bl true) h) (evE G Φ c1006l2e) (.lst q) [some (.ref r), some (.ref m), x2, x3, x4, x5, x6, x7] FUEL 0 [] h = .ok ((txts ts.trs).map D.str) h := by
  have zz : SZ = 16777216 := rfl
  have f : FUEL = 18446744073709551616 := rfl
  have sl := spots_len ts
  have el := txts_len ts.trs
  rw [trs_len] at el
  obtain ⟨acc, h', e, a1, a2⟩ := lcGo_inv1 (.nm 7) (evE G Φ c1006l2e) (.lst q) [some (.ref r), some (.ref m), x2, x3, x4, x5, x6, x7] (ts.spots.map iD) (fun i acc h' => acc = ((txts ts.trs).take i).map D.str ∧ h' = h) (fun i acc h' x => by rw [x.2]; simp [srcAt, rdL, g])
    (fun i hi' acc h' x => by
      obtain ⟨xa, rfl⟩ := x
      simp only [List.length_map] at hi'
      obtain ⟨w, u, gu, su⟩ := get_spot ts i (by omega)
      obtain ⟨iu, _, n, qq, gr⟩ := get_is ts i w u hi gu
      have mu := M.2 u iu (hc _ (List.mem_of_getElem? su))
      obtain ⟨l, es⟩ := List.getElem?_eq_some_iff.mp su
      have w19 := small_w (W.wt _ _ _ _ gr)
      have l1 := num_len w w19
      have l2 := txt_len u.tr (lit_is W u iu)
      have l3 := siz_any W u iu
      have lc : (":" : Str).length = 1 := by decide +kernel
      have ew := wt_e2 (G := G) Φ v gr [some (.ref r), some (.ref m), x2, x3, x4, x5, x6, some (.int (u.spot : Int))] 0 7 rfl rfl
      have em : evE G Φ (.idx (.var 1) (.var 7)) [some (.ref r), some (.ref m), x2, x3, x4, x5, x6, some (.int (u.spot : Int))] h' = .ok (.str (txt u.tr)) h' := by
        obtain ⟨lm, em⟩ := List.getElem?_eq_some_iff.mp mu
        have := atI_nat ms u.spot lm
        simp [evE, idxD, rdL, gm, this, em]
      refine ⟨[some (.ref r), some (.ref m), x2, x3, x4, x5, x6, some (.int (u.spot : Int))], .str ((num w ++ (":" : Str)) ++ txt u.tr), h', ?_, ?_, ?_, ?_, rfl⟩
      · simp [bindT, iD, es]
      · exact add_s _ _ _ _ _ h' _ _ _ (add_s _ _ _ _ _ h' _ _ _ (str_i _ _ _ _ _ _ w19 ew) (by simp [evE]) (by omega)) em (by rw [len_app]; omega)
      · rw [xa]; simp; omega
      · rw [xa, List.take_add_one, txts_trs_get ts i w u gu]
        simp)
    h (by simp; omega) ⟨by simp, rfl⟩
  rw [e, a1, a2, List.length_map, sl, ← el, List.take_length]
theorem txr (s : Nat) (n : Int) (ts : LTs) : txt (Mi.P.LT.mk s n ts).tr = if ts.spots = [] then num n else ((num n ++ ("[" : Str)) ++ PySem.Txt.join (" " : Str) (txts ts.trs)) ++ ("]" : Str) := by
  cases ts with
  | nil => simp [LT.tr, LTs.trs, mkT, txt, LTs.spots]
  | cons w t r => simp [LT.tr, LTs.trs, mkT, txt, LTs.spots, emp_app]
theorem RowsAt.own {S : Nat → Prop} {h : Hea} {r : Nat} {rs : List Row} (v : RowsAt S h r rs) : RowsAt (fun j => h.length ≤ j) h r rs := by
  obtain ⟨ds, g, l, f⟩ := v
  refine ⟨ds, g, l, fun i d row a b => ?_⟩
  obtain ⟨p, q, e0, e1, e2, _⟩ := f i d row a b
  have := lt_of_get e1
  have := lt_of_get e2
  exact ⟨p, q, e0, e1, e2, by omega, by omega⟩
theorem row_s2 (Φ : Orc) {S : Nat → Prop} {h : Hea} {r s : Nat} {rs : List Row} (v : RowsAt S h r rs) {n w : Int} {ks : List Nat} (e : rs[s]? = some (n, w, ks)) (x1 x2 x4 x5 x6 x7 : Option D) :
    ∃ q, evS G Φ (.asgT [4, 5, 6] (.idx (.var 0) (.var 3))) [some (.ref r), x1, x2, some (.int s), x4, x5, x6, x7] h = .ok (.nx [some (.ref r), x1, x2, some (.int s), some (.int n), some (.int w), some (.ref q), x7]) h ∧ h[q]? = some (.lst (ks.map iD)) ∧ ¬ S q := by
  obtain ⟨ds, g, l, f⟩ := v
  have hi := (List.getElem?_eq_some_iff.mp e).1
  obtain ⟨p, q, e0, e1, e2, _, sq⟩ := f s ds[s] _ (List.getElem?_eq_getElem (by omega)) e
  have i : idxD (.ref r) (.int s) h = some (.ref p) := by simp [idxD, rdL, g, atI_nat ds s (by omega), e0]
  refine ⟨q, ?_, e2, sq⟩
  simp only [evS, evE, List.getElem?_cons_zero, List.getElem?_cons_succ, Out.bind_ok, i, lift_some, seqD, rdL, e1, List.length_cons, List.length_nil, if_true, setAll, List.set_cons_succ, List.set_cons_zero]
theorem text_ok (B : LawTb Tb ok) (k : Nat) {S : Nat → Prop} {h : Hea} {r : Nat} {rs : List Row} (R : RowsAt S h r rs) (W : WfA rs) (t0 : LT) (i0 : Is rs t0) (z0 : t0.spot = 0) :
    ∃ h', callF G Tb (k + 1) 1006 [.ref r] h = .ok (.str (txt t0.tr)) h' ∧ Ex h h' := by
  have zz : SZ = 16777216 := rfl
  have f : FUEL = 18446744073709551616 := rfl
  have hp := W.pos
  have hl := W.len
  have R0 := R.own
  obtain ⟨ds, gd, dl, _⟩ := id R
  have il := init_lc (G := G) (callF G Tb k) (.str ("" : Str)) [some (.ref r), none, none, none, none, none, none, none] r h ds gd (by omega)
  let m := h.length
  let h1 : Hea := h ++ [.lst (List.replicate ds.length (.str ("" : Str)))]
  obtain ⟨σ', h', e, x2, x3, x4, x5, x6, x7, ms, rfl, gm, M, K⟩ := frGo_inv (.nm 3) (evSs G (callF G Tb k) c1006f1b) (.fix (rngD ((rs.length : Int) - 1) rs.length (-1))) (rngD ((rs.length : Int) - 1) rs.length (-1))
    (fun i σ h' => ∃ x2 x3 x4 x5 x6 x7 ms, σ = [some (.ref r), some (.ref m), x2, x3, x4, x5, x6, x7] ∧ h'[m]? = some (.lst ms) ∧ Made rs (fun t => .str (txt t.tr)) (rs.length - i) ms ∧ Ex h h') (fun _ _ _ _ => rfl)
    (fun i hi σ h2 x => by
      obtain ⟨x2, x3, x4, x5, x6, x7, ms, rfl, gm, M, K⟩ := x
      have hi' : i < rs.length := by simpa [rngD] using hi
      obtain ⟨_, er⟩ := rng3_get rs.length i hi'
      obtain ⟨t, et, it⟩ := tree_ex W _ (rs.length - 1 - i) (Nat.le_refl _) (by omega)
      have R2 := R0.kp K (fun j e => e.elim) (fun e => e)
      have lt := lit_is W t it
      have st := siz_any W t it
      have tl := txt_len t.tr lt
      cases t with
      | mk s n ts =>
        simp only [LT.spot] at et
        subst et
        obtain ⟨⟨w, gw⟩, is⟩ := id it
        obtain ⟨q, e1, gq, sq⟩ := row_s2 (G := G) (callF G Tb k) R2 gw (some (.ref m)) x2 x4 x5 x6 x7
        have lm : rs.length - 1 - i < ms.length := by rw [M.1]; omega
        have M' := (show Made rs (fun t => .str (txt t.tr)) (rs.length - 1 - i + 1) ms by rwa [show rs.length - 1 - i + 1 = rs.length - i by omega]).set _ it rfl (by omega)
        have dn := W.done _ n w _ gw (by omega)
        have sn : small n := by
          by_cases hk : ts.spots = []
          · exact dn.2.2.2.1 hk
          · have := dn.2.2.2.2 hk
            exact ⟨by omega, by omega⟩
        let σ1 : Loc := [some (.ref r), some (.ref m), x2, some (.int ((rs.length - 1 - i : Nat) : Int)), some (.int n), some (.int w), some (.ref q), x7]
        have sm0 := set_made h2 m ms gm (rs.length - 1 - i) lm (.str (num n))
        let ms2 := ms.set (rs.length - 1 - i) (.str (num n))
        let h2b : Hea := h2.set m (.lst ms2)
        have lmh := lt_of_get gm
        have e2 : evS G (callF G Tb k) (.asgI (.var 1) (.var 3) (.bi .str [(.var 4)])) σ1 h2 = .ok (.nx σ1) h2b := asgI_e _ _ _ 1 3 _ h2 _ _ _ _ rfl rfl (str_i _ _ _ _ _ _ sn (by simp [evE, σ1])) sm0
        have K2b : Ex h h2b := K.set_new m (Nat.le_refl _) _
        have nqm : m ≠ q := by simp only [m]; omega
        let h3 : Hea := h2b ++ [.lst []]
        have gq3 : h3[q]? = some (.lst (ts.spots.map iD)) := Ex.get (Kp.app h2b _) (by simp only [h2b]; rw [List.getElem?_set_ne nqm]; exact gq)
        have gm3 : h3[m]? = some (.lst ms2) := Ex.get (Kp.app h2b _) (List.getElem?_set_self lmh)
        have ge3 : h3[h2b.length]? = some (.lst []) := List.getElem?_concat_length
        have qe := eqD_list h3 q h2b.length _ gq3 ge3
        have K3 : Ex h h3 := K2b.trans (Kp.app _ _)
        have cc : evE G (callF G Tb k) (.cmp .ne (.var 6) (.lst [])) σ1 h2b = .ok (.bl (!decide (ts.spots = []))) h3 := by
          have z0 : 0 ≤ SZ := Nat.zero_le _
          have nq : insAt h3 (.ref q) = none := by simp [insAt, gq3]
          simp only [evE, evEs, σ1, List.getElem?_cons_zero, List.getElem?_cons_succ, Out.bind_ok, List.length_nil, z0, if_true, new, show h2b ++ [O.lst []] = h3 from rfl, cmpX, ownEq, nq, Option.bind_none, cmpG, opC, qe, Option.map_some, lift_some]
        have bq : bindT h2 [some (.ref r), some (.ref m), x2, x3, x4, x5, x6, x7] ((rngD ((rs.length : Int) - 1) rs.length (-1))[i]) (.nm 3) = some [some (.ref r), some (.ref m), x2, some (.int ((rs.length - 1 - i : Nat) : Int)), x4, x5, x6, x7] := by rw [er]; rfl
        by_cases hk : ts.spots = []
        · rw [decide_eq_true hk] at cc
          refine ⟨_, σ1, h3, bq, ?_, _, _, _, _, _, _, _, rfl, gm3, ?_, K3⟩
          · unfold c1006f1b
            rw [ss_nx e1, ss_nx e2]
            apply ss_one
            rw [iff_f _ _ _ _ _ _ _ cc, evSs]
          · have := M'
            rw [txr, if_pos hk] at this
            rw [show rs.length - (i + 1) = rs.length - 1 - i by omega]
            exact this
        · rw [decide_eq_false hk] at cc
          have kl := kid_lt W gw
          have M2 : Made rs (fun t => .str (txt t.tr)) (rs.length - i) ms2 := by
            refine ⟨by simpa [ms2] using M.1, fun u hu hl => ?_⟩
            simp only [ms2]
            rw [List.getElem?_set_ne (by omega)]
            exact M.2 u hu hl
          have lc := text_lc (G := G) (callF G Tb k) W (R0.kp K3 (fun j e => e.elim) (fun e => e)) _ is gq3 ms2 gm3 (rs.length - i) M2 (fun k hk => by have := kl k hk; omega) x2 (some (.int ((rs.length - 1 - i : Nat) : Int))) (some (.int n)) (some (.int w)) (some (.ref q)) none (by
            have := dn.2.2.1
            rw [spots_len] at this
            omega)
          let h4 : Hea := h3 ++ [.lst ((txts ts.trs).map D.str)]
          have gm4 : h4[m]? = some (.lst ms2) := Ex.get (Kp.app h3 _) gm3
          have lm2 : rs.length - 1 - i < ms2.length := by simpa [ms2] using lm
          let V : Str := ((num n ++ ("[" : Str)) ++ PySem.Txt.join (" " : Str) (txts ts.trs)) ++ ("]" : Str)
          have sm := set_made h4 m ms2 gm4 (rs.length - 1 - i) lm2 (.str V)
          rw [txr, if_neg hk] at tl
          have tl' : V.length + 4 ≤ 12 * 15 := by
            have : V.length + 4 ≤ 12 * siz (Mi.P.LT.mk (rs.length - 1 - i) n ts).tr := tl
            omega
          have lV : V.length = (((num n).length + 1) + (PySem.Txt.join (" " : Str) (txts ts.trs)).length) + 1 := by
            have e1 : ("[" : Str).length = 1 := by decide +kernel
            have e2 : ("]" : Str).length = 1 := by decide +kernel
            simp only [V, len_app, e1, e2]
          refine ⟨_, σ1, h4.set m (.lst (ms2.set (rs.length - 1 - i) (.str V))), bq, ?_, _, _, _, _, _, _, _, rfl, List.getElem?_set_self (lt_of_get gm4), ?_, (K3.trans (Kp.app _ _)).set_new m (Nat.le_refl _) _⟩
          · unfold c1006f1b
            rw [ss_nx e1, ss_nx e2]
            apply ss_one
            rw [iff_t _ _ _ _ _ _ _ cc]
            apply ss_one
            have gt : h4[h3.length]? = some (.lst ((txts ts.trs).map D.str)) := List.getElem?_concat_length
            refine asgI_e _ _ _ 1 3 _ h4 _ _ _ _ rfl rfl ?_ sm
            have el : evE G (callF G Tb k) (.lc [7] (.nm 7) (.seq (.var 6)) (.lit (.bl true)) c1006l2e) σ1 h3 = .ok (.ref h3.length) h4 := by
              simp only [evE, evI, σ1, List.getElem?_cons_zero, List.getElem?_cons_succ, Out.bind_ok, walkD, rdL, gq3, Option.map_some, lift_some, wipeL, List.set_cons_succ, List.set_cons_zero, lc, new]
              rfl
            have ej : evE G (callF G Tb k) (.bm .join (.lit (.str (" " : Str))) [(.lc [7] (.nm 7) (.seq (.var 6)) (.lit (.bl true)) c1006l2e)]) σ1 h3 = .ok (.str (PySem.Txt.join (" " : Str) (txts ts.trs))) h4 := by
              have b := txts_sum ts.trs (lits_is W ts is)
              have tl0 := txts_len ts.trs
              have e3 : (" " : Str).length = 1 := by decide +kernel
              have bl : ((txts ts.trs).map (·.length)).sum + (txts ts.trs).length * (" " : Str).length ≤ SZ := by
                have sz : sizs ts.trs + 1 = siz (Mi.P.LT.mk (rs.length - 1 - i) n ts).tr := by
                  cases ts with
                  | nil => simp [LTs.spots] at hk
                  | cons w t r => simp [LT.tr, LTs.trs, mkT, siz]
                rw [e3, Nat.mul_one, tl0]
                simp only [sumL] at b
                omega
              generalize CE.lc [7] (.nm 7) (.seq (.var 6)) (.lit (.bl true)) c1006l2e = L at el ⊢
              simp only [evE, evEs, Out.bind_ok, recv, if_true, el, callM, gJoin, seqD, rdL, gt, Option.bind_some, strsD_map, bl]
            have b1 : ("[" : Str).length = 1 := by decide +kernel
            have b2 : ("]" : Str).length = 1 := by decide +kernel
            refine add_s _ _ _ _ _ h4 _ _ _ (add_s _ _ _ _ _ h3 _ _ _ (add_s _ _ _ _ _ h3 _ _ _ (str_i _ _ _ _ _ _ sn (by simp [evE, σ1])) (by simp [evE]) (by omega)) ej (by rw [len_app]; omega)) (by simp [evE]) (by rw [len_app, len_app]; omega)
          · have := M'
            rw [txr, if_neg hk] at this
            rw [show rs.length - (i + 1) = rs.length - 1 - i by omega]
            simp only [ms2, List.set_set]
            exact this)
    FUEL 0 [some (.ref r), some (.ref m), none, none, none, none, none, none] h1 (by simp [rngD]; omega) (Nat.zero_le _)
    ⟨none, none, none, none, none, none, List.replicate ds.length (.str ("" : Str)), rfl, by simp [h1, m], ⟨by simp [dl], fun t it ht => by
      cases t with
      | mk s n ts =>
        obtain ⟨⟨w, g⟩, _⟩ := it
        have := (List.getElem?_eq_some_iff.mp g).1
        simp only [LT.spot] at ht
        omega⟩, Kp.app _ _⟩
  have rl : (rngD ((rs.length : Int) - 1) rs.length (-1)).length = rs.length := by simp [rngD]
  rw [rl, Nat.sub_self] at M
  have m0 := M.2 t0 i0 (Nat.zero_le _)
  rw [z0] at m0
  obtain ⟨lm, em⟩ := List.getElem?_eq_some_iff.mp m0
  have at0 : L2.atI ms 0 = some (.str (txt t0.tr)) := by
    have := atI_nat ms 0 lm
    rw [em] at this
    exact this
  refine ⟨h', ?_, K⟩
  unfold callF
  have s1 : evS G (callF G Tb k) (.asg 1 (.lc [2] (.nm 2) (.seq (.var 0)) (.lit (.bl true)) c1006l0e)) [some (.ref r), none, none, none, none, none, none, none] h = .ok (.nx [some (.ref r), some (.ref m), none, none, none, none, none, none]) h1 := by
    have c0 : c1006l0e = .lit (.str ("" : Str)) := rfl
    rw [c0]
    rw [evS, evE]
    simp only [evI, evE, List.getElem?_cons_zero, Out.bind_ok, walkD, rdL, gd, Option.map_some, lift_some, wipeL, List.set_cons_succ, List.set_cons_zero]
    have il' : lcGo (Tg.nm 2) (fun x x_1 => Out.ok (D.bl true) x_1) (fun x x_1 => Out.ok (.str ("" : Str)) x_1) (Src.lst r) [some (D.ref r), none, none, none, none, none, none, none] FUEL 0 [] h = .ok (List.replicate ds.length (.str ("" : Str))) h := by
      have e : (evE G (callF G Tb k) (.lit (.str ("" : Str)))) = fun x x_1 => Out.ok (.str ("" : Str)) x_1 := by funext a b; simp [evE]
      rw [← e]; exact il
    rw [il']
    rfl
  have s2 : evS G (callF G Tb k) (.fr (.nm 3) (.rng [(.bin .sub (.bi .len [(.var 0)]) (.lit (.int (1)))), (.neg (.lit (.int (1)))), (.neg (.lit (.int (1))))]) c1006f1b) [some (.ref r), some (.ref m), none, none, none, none, none, none] h1 = .ok (.nx [some (.ref r), some (.ref m), x2, x3, x4, x5, x6, x7]) h' := by
    have R1 := R.kp (Kp.app (S := fun _ => False) h [.lst (List.replicate ds.length (.str ("" : Str)))]) (fun j e => e.elim) (fun e => e)
    rw [evS, evI_rng3 _ _ _ h1 h1 rs.length hp (by omega) (by simp [evEs, evE, callX, callB, fLen, show h ++ [O.lst (List.replicate ds.length (.str ("" : Str)))] = h1 from rfl, (show lenD h1 (.ref r) = _ from R1.len), opB, opSub]), Out.bind_ok]
    exact e
  simp only [B.u6, runF, c1006_w]
  rw [if_pos (by rfl), show Mi.begin ⟨8, 1, _⟩ [D.ref r] = [some (.ref r), none, none, none, none, none, none, none] from rfl, ss_nx s1, ss_nx s2]
  simp [evSs, evS, evE, idxD, rdL, gm, at0]
end
end Mi.k02
end

section
set_option linter.all false
set_option maxRecDepth 100000
/-! Kw6: the law's ways. -/
namespace Mi.k02
open PySem Mi.P
theorem kidsP_len (p ks : List Nat) : (kidsP p ks).length = ks.length := by simp [kidsP]
theorem kidsP_at (p ks : List Nat) (i : Nat) (h : i < ks.length) : (kidsP p ks)[i]'(by rw [kidsP_len]; exact h) = (p ++ [i], ks[i]) := by
  simp [kidsP]
theorem fnd_plen (rs : List Row) : ∀ s, ∀ x ∈ fnd rs s, x.1.length ≤ s
  | 0, x, h => by simp [fnd] at h; subst h; simp
  | s + 1, x, h => by
    rw [fnd, List.mem_append] at h
    rcases h with h | h
    · have := fnd_plen rs s x h
      omega
    · cases e1 : (fnd rs s)[s]? with
      | none => rw [e1] at h; simp at h
      | some y =>
        cases e2 : rs[s]? with
        | none => rw [e1, e2] at h; simp at h
        | some z =>
          rw [e1, e2] at h
          obtain ⟨j, _, e⟩ := kidsP_mem h
          have := fnd_plen rs s y (List.mem_of_getElem? e1)
          rw [e]
          simp
          omega
section
variable {G : GE} {Tb : Nat → Option FC} {ok : Nat → Nat → Bool}
/-- rows[spot][2] -/
theorem ks_e (Φ : Orc) {S : Nat → Prop} {h : Hea} {r s : Nat} {rs : List Row} (v : RowsAt S h r rs) {row : Row} (e : rs[s]? = some row) :
    ∃ q, h[q]? = some (.lst (row.2.2.map iD)) ∧ ∀ (σ : Loc) (i j : Nat), σ[i]? = some (some (.ref r)) → σ[j]? = some (some (.int s)) → evE G Φ (.idx (.idx (.var i) (.var j)) (.lit (.int (2)))) σ h = .ok (.ref q) h := by
  obtain ⟨p, q, i, e1, e2⟩ := v.get e
  refine ⟨q, e2, fun σ i' j' h2 h3 => ?_⟩
  have i1 : L2.atI [D.int row.1, D.int row.2.1, D.ref q] 2 = some (.ref q) := by rfl
  have i'' : idxD (.ref p) (.int 2) h = some (.ref q) := by simp [idxD, rdL, e1, i1]
  simp only [evE, h2, h3, Out.bind_ok, i, lift_some, i'']
theorem ways_lc (Φ : Orc) {S : Nat → Prop} {h : Hea} {r s : Nat} {rs : List Row} (v : RowsAt S h r rs) {n w : Int} {ks : List Nat} (e : rs[s]? = some (n, w, ks)) (p : List Nat) (hp : p.length ≤ 1000) (hk : ks.length ≤ 1000) (x1 x4 x5 : Option D) :
    evE G Φ (.lc [5] (.nm 5) (.rng [(.bi .len [(.idx (.idx (.var 0) (.var 2)) (.lit (.int (2))))])]) (.lit (.bl true)) c1005l2e) [some (.ref r), x1, some (.int s), some (pthD p), x4, x5] h = .ok (.ref h.length) (h ++ [.lst ((kidsP p ks).map encPS)]) := by
  have zz : SZ = 16777216 := rfl
  have f : FUEL = 18446744073709551616 := rfl
  obtain ⟨q, gq, ek⟩ := ks_e (G := G) Φ v e
  simp only at gq
  have kl := kidsP_len p ks
  have rl : (rngD 0 ks.length 1).length = ks.length := by simp [rngD]
  have lq : lenD h (.ref q) = some (ks.length : Int) := by simp [lenD, gq]
  obtain ⟨acc, h', el, a1, a2⟩ := lcGo_inv1 (.nm 5) (evE G Φ c1005l2e) (.fix (rngD 0 ks.length 1)) [some (.ref r), x1, some (.int s), some (pthD p), x4, none] (rngD 0 ks.length 1) (fun i acc h' => acc = ((kidsP p ks).take i).map encPS ∧ h' = h) (fun _ _ _ _ => rfl)
    (fun i hi acc h' x => by
      obtain ⟨xa, rfl⟩ := x
      rw [rl] at hi
      have er : (rngD 0 ks.length 1)[i]'(by rw [rl]; exact hi) = .int i := by simp [rngD]
      have z1 : 1 ≤ SZ := by omega
      have z2 : 2 ≤ SZ := by omega
      have zp : p.length + 1 ≤ SZ := by omega
      have e1 := ek [some (.ref r), x1, some (.int s), some (pthD p), x4, some (.int i)] 0 2 rfl rfl
      have i1 : idxD (.ref q) (.int i) h' = some (.int (ks[i] : Int)) := by
        have := atI_nat (ks.map iD) i (by simpa using hi)
        simp [idxD, rdL, gq, this, iD]
      refine ⟨[some (.ref r), x1, some (.int s), some (pthD p), x4, some (.int i)], encPS (p ++ [i], ks[i]), h', by rw [er]; rfl, ?_, ?_, ?_, rfl⟩
      · unfold c1005l2e
        generalize CE.idx (.idx (.var 0) (.var 2)) (.lit (.int (2))) = M at e1 ⊢
        have ep : evE G Φ (.bin .add (.var 3) (.tup [(.var 5)])) [some (.ref r), x1, some (.int s), some (pthD p), x4, some (.int i)] h' = .ok (pthD (p ++ [i])) h' := by
          simp [evE, evEs, z1, opB, opAdd, pthD, zp, iD]
        generalize CE.bin .add (.var 3) (.tup [(.var 5)]) = M2 at ep ⊢
        simp only [evE, evEs, ep, Out.bind_ok, e1, List.getElem?_cons_zero, List.getElem?_cons_succ, i1, lift_some, List.length_cons, List.length_nil, z2, if_true, encPS]
      · rw [xa]; simp; omega
      · rw [xa]
        have : (kidsP p ks)[i]? = some (p ++ [i], ks[i]) := by rw [List.getElem?_eq_getElem (by omega), kidsP_at p ks i hi]
        rw [List.take_add_one, this]
        simp)
    h (by rw [rl]; omega) ⟨by simp, rfl⟩
  have e1 := ek [some (.ref r), x1, some (.int s), some (pthD p), x4, x5] 0 2 rfl rfl
  have er : evEs G Φ [(.bi .len [(.idx (.idx (.var 0) (.var 2)) (.lit (.int (2))))])] [some (.ref r), x1, some (.int s), some (pthD p), x4, x5] h = .ok [.int (ks.length : Int)] h := by
    generalize CE.idx (.idx (.var 0) (.var 2)) (.lit (.int (2))) = M at e1 ⊢
    simp only [evEs, evE, e1, Out.bind_ok, callX, callB, fLen, lq, Option.map_some, lift_some]
  rw [evE, evI_rng1 Φ ks.length (small_R (by omega) (by omega)) h h _ _ er, Out.bind_ok]
  simp only [evE, wipeL, List.set_cons_succ, List.set_cons_zero]
  rw [rl, ← kl, List.take_length] at a1
  rw [el, a1, a2]
  rfl
theorem ways_ok (B : LawTb Tb ok) (k : Nat) {S : Nat → Prop} {h : Hea} {r : Nat} {rs : List Row} (R : RowsAt S h r rs) (W : WfA rs) (t0 : LT) (i0 : Is rs t0) (z0 : t0.spot = 0) :
    ∃ h' r', callF G Tb (k + 1) 1005 [.ref r] h = .ok (.ref r') h' ∧ h'[r']? = some (.lst ((prL t0).map encPS)) ∧ Ex h h' ∧ h.length ≤ r' := by
  have zz : SZ = 16777216 := rfl
  have f : FUEL = 18446744073709551616 := rfl
  have hp := W.pos
  have hl := W.len
  let h1 : Hea := h ++ [.lst [encPS ([], 0)]]
  have rl : (rngD 0 rs.length 1).length = rs.length := by simp [rngD]
  have mle : ∀ s, s ≤ rs.length → (fnd rs s).length ≤ 15 := fun s hs => by
    rw [fnd_len W s hs]
    have := mm_le rs s rs.length hs
    rw [W.tot] at this
    omega
  obtain ⟨σ', h', e, f', x2, x3, x4, x5, rfl, gf, K, fl⟩ := frGo_inv (.nm 2) (evSs G (callF G Tb k) c1005f0b) (.fix (rngD 0 rs.length 1)) (rngD 0 rs.length 1)
    (fun s σ h' => ∃ f' x2 x3 x4 x5, σ = [some (.ref r), some (.ref f'), x2, x3, x4, x5] ∧ h'[f']? = some (.lst ((fnd rs s).map encPS)) ∧ Ex h h' ∧ h.length ≤ f') (fun _ _ _ _ => rfl)
    (fun s hs σ h2 x => by
      obtain ⟨f', x2, x3, x4, x5, rfl, gf, K, fl⟩ := x
      rw [rl] at hs
      have er : (rngD 0 rs.length 1)[s]'(by rw [rl]; exact hs) = .int s := by simp [rngD]
      obtain ⟨p, n, w, ks, gs, g, es, _⟩ := fnd_step W hs
      have pl := fnd_plen rs s _ (List.mem_of_getElem? gs)
      simp only at pl
      have kl3 : ks.length ≤ 3 := (W.done s n w ks g (by omega)).2.2.1
      have lf := mle s (by omega)
      have lf1 := mle (s + 1) (by omega)
      let hc : Hea := h2 ++ [.lst ((fnd rs s).map encPS)]
      have gc : hc[h2.length]? = some (.lst ((fnd rs s).map encPS)) := List.getElem?_concat_length
      obtain ⟨σ', h', e, f2, y3, y4, y5, rfl, gf2, K2, fl2⟩ := frGo_inv (.tp [3, 4]) (evSs G (callF G Tb k) c1005f1b) (.lst h2.length) ((fnd rs s).map encPS)
        (fun j σ h' => ∃ f2 y3 y4 y5, σ = [some (.ref r), some (.ref f2), some (.int s), y3, y4, y5] ∧ h'[f2]? = some (.lst ((if j ≤ s then fnd rs s else fnd rs (s + 1)).map encPS)) ∧ Ex hc h' ∧ h.length ≤ f2)
        (fun j σ h' x => by
          obtain ⟨_, _, _, _, _, _, K2, _⟩ := x
          simp [srcAt, rdL, Ex.get K2 gc])
        (fun j hj σ h3 x => by
          obtain ⟨f2, y3, y4, y5, rfl, gf2, K2, fl2⟩ := x
          simp only [List.length_map] at hj
          have aj := fnd_at W s (by omega) j hj
          have ej : ((fnd rs s).map encPS)[j]'(by simpa using hj) = .tup [pthD ((fnd rs s)[j]).1, .int (j : Int)] := by
            simp [encPS, aj]
          have bq : bindT h3 [some (.ref r), some (.ref f2), some (.int s), y3, y4, y5] (((fnd rs s).map encPS)[j]'(by simpa using hj)) (.tp [3, 4]) = some [some (.ref r), some (.ref f2), some (.int s), some (pthD ((fnd rs s)[j]).1), some (.int j), y5] := by
            rw [ej]; rfl
          have cc : evE G (callF G Tb k) (.cmp .eq (.var 4) (.var 2)) [some (.ref r), some (.ref f2), some (.int s), some (pthD ((fnd rs s)[j]).1), some (.int j), y5] h3 = .ok (.bl (decide ((j : Int) = (s : Int)))) h3 := by
            simp only [evE, List.getElem?_cons_zero, List.getElem?_cons_succ, Out.bind_ok, cmpX, ownEq, insAt, Option.bind_none, cmpG, opC, eqD_int, Option.map_some, lift_some]
          by_cases e0 : j = s
          · subst e0
            have cc' := cc
            rw [decide_eq_true rfl] at cc'
            have R3 := R.kp (K.trans ((Kp.app h2 _).trans K2)) (fun j e => e.elim) (fun e => e)
            have ep : (fnd rs j)[j] = (p, j) := by
              rw [List.getElem?_eq_getElem hj] at gs
              exact Option.some.inj gs
            have lc := ways_lc (G := G) (callF G Tb k) R3 g p (by omega) (by omega) (some (.ref f2)) (some (.int j)) y5
            rw [if_pos (Nat.le_refl _)] at gf2
            let h4 : Hea := h3 ++ [.lst ((kidsP p ks).map encPS)]
            have g4 : h4[f2]? = some (.lst ((fnd rs j).map encPS)) := Ex.get (Kp.app h3 _) gf2
            have g4b : h4[h3.length]? = some (.lst ((kidsP p ks).map encPS)) := List.getElem?_concat_length
            let h5 : Hea := h4 ++ [.lst ((fnd rs (j + 1)).map encPS)]
            refine ⟨_, [some (.ref r), some (.ref h4.length), some (.int j), some (pthD p), some (.int j), y5], h5, bq, ?_, h4.length, _, _, _, rfl, ?_, (K2.trans (Kp.app _ _)).trans (Kp.app _ _), ?_⟩
            · unfold c1005f1b
              apply ss_one
              rw [iff_t _ _ _ _ _ _ _ cc']
              apply ss_one
              rw [ep]
              simp only
              generalize CE.lc [5] (.nm 5) (.rng [(.bi .len [(.idx (.idx (.var 0) (.var 2)) (.lit (.int (2))))])]) (.lit (.bl true)) c1005l2e = L at lc ⊢
              have lz : ((fnd rs j).map encPS).length + ((kidsP p ks).map encPS).length ≤ SZ := by
                rw [es] at lf1
                simp at *
                omega
              simp only [evS, evE, List.getElem?_cons_zero, List.getElem?_cons_succ, Out.bind_ok, lc, opB, opAdd, show h3 ++ [O.lst ((kidsP p ks).map encPS)] = h4 from rfl, g4, g4b, lz, if_true, new, List.set_cons_succ, List.set_cons_zero]
              simp only [h5, es, List.map_append]
            · rw [if_neg (by omega)]
              exact List.getElem?_concat_length
            · have := K.1
              have := K2.1
              simp only [h4, hc, List.length_append, List.length_cons, List.length_nil] at *
              omega
          · have cc' := cc
            rw [decide_eq_false (by omega)] at cc'
            refine ⟨_, [some (.ref r), some (.ref f2), some (.int s), some (pthD ((fnd rs s)[j]).1), some (.int j), y5], h3, bq, ?_, f2, _, _, _, rfl, ?_, K2, fl2⟩
            · unfold c1005f1b
              apply ss_one
              rw [iff_f _ _ _ _ _ _ _ cc', evSs]
            · by_cases hj2 : j ≤ s
              · rw [if_pos (by omega)]
                rw [if_pos hj2] at gf2
                exact gf2
              · rw [if_neg (by omega)]
                rw [if_neg hj2] at gf2
                exact gf2)
        FUEL 0 [some (.ref r), some (.ref f'), some (.int s), x3, x4, x5] hc (by simp; omega) (Nat.zero_le _)
        ⟨f', x3, x4, x5, rfl, by rw [if_pos (Nat.zero_le _)]; exact Ex.get (Kp.app h2 _) gf, Kp.rfl, fl⟩
      have hlt : s < (fnd rs s).length := (List.getElem?_eq_some_iff.mp gs).1
      simp only [List.length_map] at gf2
      rw [if_neg (by omega)] at gf2
      refine ⟨[some (.ref r), some (.ref f'), some (.int s), x3, x4, x5], [some (.ref r), some (.ref f2), some (.int s), y3, y4, y5], h', by rw [er]; rfl, ?_, f2, some (.int s), y3, y4, y5, rfl, gf2, K.trans ((Kp.app h2 _).trans K2), fl2⟩
      unfold c1005f0b
      apply ss_one
      show evS G (callF G Tb k) _ [some (.ref r), some (.ref f'), some (.int s), x3, x4, x5] h2 = _
      simp only [evS, evI, evE, evEs, List.getElem?_cons_zero, List.getElem?_cons_succ, Out.bind_ok, callX, callB, fList, seqD, rdL, gf, new, walkD, show h2 ++ [O.lst ((fnd rs s).map encPS)] = hc from rfl, gc, Option.map_some, lift_some]
      exact e)
    FUEL 0 [some (.ref r), some (.ref h.length), none, none, none, none] h1 (by rw [rl]; omega) (Nat.zero_le _)
    ⟨h.length, none, none, none, none, rfl, by simp [h1, fnd], Kp.app _ _, Nat.le_refl _⟩
  rw [rl] at gf
  have so := sort_PS h' (fnd rs rs.length) (prL t0) (fnd_perm W t0 i0 z0) (prL_srt t0) (by have := mle _ (Nat.le_refl _); omega)
  refine ⟨h' ++ [.lst ((prL t0).map encPS)], h'.length, ?_, List.getElem?_concat_length, K.trans (Kp.app _ _), K.1⟩
  unfold callF
  have z1 : 1 ≤ SZ := by omega
  have z2 : 2 ≤ SZ := by omega
  have s1 : evS G (callF G Tb k) (.asg 1 (.lst [(.tup [(.tup []), (.lit (.int (0)))])])) [some (.ref r), none, none, none, none, none] h = .ok (.nx [some (.ref r), some (.ref h.length), none, none, none, none]) h1 := by
    simp [evS, evE, evEs, new, z1, z2, h1, encPS, pthD]
  have R1 := R.kp (Kp.app (S := fun _ => False) h [.lst [encPS ([], 0)]]) (fun j e => e.elim) (fun e => e)
  have s2 : evS G (callF G Tb k) (.fr (.nm 2) (.rng [(.bi .len [(.var 0)])]) c1005f0b) [some (.ref r), some (.ref h.length), none, none, none, none] h1 = .ok (.nx [some (.ref r), some (.ref f'), x2, x3, x4, x5]) h' := by
    rw [evS, evI_rng1 _ rs.length (small_R (by omega) (by omega)) h1 h1 _ _ (by simp [evEs, evE, callX, callB, fLen, show h ++ [O.lst [encPS ([], 0)]] = h1 from rfl, (show lenD h1 (.ref r) = _ from R1.len)]), Out.bind_ok]
    exact e
  simp only [B.u5, runF, c1005_w]
  rw [if_pos (by rfl), show Mi.begin ⟨6, 1, _⟩ [D.ref r] = [some (.ref r), none, none, none, none, none] from rfl, ss_nx s1, ss_nx s2]
  simp [evSs, evS, evE, evEs, callX, callB, fSorted, listD, rdL, gf, so, new]
end
end Mi.k02
end

section
set_option linter.all false
set_option maxRecDepth 100000
/-! Kw7: what repr shows of a tree and its text. -/
namespace Mi.k02
open PySem Mi.P PySem.Builtin PySem.Builtin.Str
theorem tup_len (ts : List Str) : (tupleText ts).length ≤ 3 + sumL ts + 2 * ts.length := by
  have c := join_len (", " : Str) ts
  have e1 : ("(" : Str).length = 1 := by decide +kernel
  have e2 : (", " : Str).length = 2 := by decide +kernel
  have e3 : (",)" : Str).length = 2 := by decide +kernel
  have e4 : (")" : Str).length = 1 := by decide +kernel
  rw [e2] at c
  unfold tupleText
  rw [len_app, len_app, e1]
  split
  · rw [e3]; omega
  · rw [e4]; omega
theorem tf_len : ∀ (ts : List Str) (k : Nat) (acc : Str), (textFrom k acc ts).length ≤ acc.length + sumL ts + 2 * ts.length
  | [], k, acc => by simp [textFrom, sumL]
  | t :: r, k, acc => by
    have := tf_len r (k + 1) (acc ++ (if k > 0 then ", " else "" : String) ++ t)
    have e2 : (", " : Str).length = 2 := by decide +kernel
    have e3 : ("" : Str).length = 0 := by decide +kernel
    have el : ((if k > 0 then ", " else "" : String) : Str).length ≤ 2 := by
      split
      · rw [e2]; omega
      · rw [e3]; omega
    rw [textFrom]
    rw [len_app, len_app] at this
    simp only [sumL, List.map_cons, List.sum_cons, List.length_cons] at *
    omega
theorem list_len2 (ts : List Str) : (listText ts).length ≤ 2 + sumL ts + 2 * ts.length := by
  have := tf_len ts 0 ("[" : Str)
  have e1 : ("[" : Str).length = 1 := by decide +kernel
  have e2 : ("]" : Str).length = 1 := by decide +kernel
  unfold listText
  rw [len_app, e2]
  omega
theorem asc_tup (ts : List Str) (h : ∀ x ∈ ts, asc x) : asc (tupleText ts) := by
  unfold tupleText
  refine asc_app (asc_app (by decide +kernel) (asc_join (by decide +kernel) ts h)) ?_
  split
  · decide +kernel
  · decide +kernel
theorem asc_tf : ∀ (ts : List Str) (k : Nat) (acc : Str), asc acc → (∀ x ∈ ts, asc x) → asc (textFrom k acc ts)
  | [], k, acc, ha, _ => ha
  | t :: r, k, acc, ha, h => by
    rw [textFrom]
    refine asc_tf r (k + 1) _ (asc_app (asc_app ha ?_) (h t (by simp))) fun x hx => h x (by simp [hx])
    split
    · decide +kernel
    · decide +kernel
theorem asc_list (ts : List Str) (h : ∀ x ∈ ts, asc x) : asc (listText ts) := asc_app (asc_tf ts 0 _ (by decide +kernel) h) (by decide +kernel)
theorem asc_fold (q : Nat) (hq : q = 34 ∨ q = 39) : ∀ (l : List Nat) (acc : Array Nat), (∀ c ∈ l, c < 128) → acc.all (· < 128) = true → (l.foldl (fun out c => out ++ (reprChar q c).toArray) acc).all (· < 128) = true
  | [], acc, _, ha => ha
  | c :: l, acc, h, ha => by
    refine asc_fold q hq l _ (fun c hc => h c (by simp [hc])) ?_
    have k1 : ∀ i : Fin 128, (reprChar 34 i.val).toArray.all (· < 128) = true := by decide +kernel
    have k2 : ∀ i : Fin 128, (reprChar 39 i.val).toArray.all (· < 128) = true := by decide +kernel
    have hc := h c (by simp)
    have e : (reprChar q c).toArray.all (· < 128) = true := by
      rcases hq with rfl | rfl
      · exact k1 ⟨c, hc⟩
      · exact k2 ⟨c, hc⟩
    rw [Array.all_append, ha, e]
    rfl
theorem asc_repr {x : Str} (h : asc x) : asc (reprText x) := by
  have hq : reprQuote x = 34 ∨ reprQuote x = 39 := by
    unfold reprQuote
    split
    · exact .inl rfl
    · exact .inr rfl
  have m : ∀ c ∈ x.cps.toList, c < 128 := fun c hc => by
    have := Array.all_eq_true_iff_forall_mem.mp h c (by simpa using hc)
    simpa using this
  have q0 : (#[reprQuote x] : Array Nat).all (· < 128) = true := by
    rcases hq with e | e <;> rw [e] <;> decide +kernel
  have := asc_fold (reprQuote x) hq x.cps.toList #[reprQuote x] m q0
  unfold reprText
  show (Array.push _ _).all _ = true
  rw [Array.all_push]
  rw [← Array.foldl_toList, this]
  rcases hq with e | e <;> rw [e] <;> decide +kernel
theorem repr_len {x : Str} (h : asc x) (hz : x.length ≤ 1000) : (reprText x).length ≤ 10 * x.length + 2 := by
  have h0 := asc_ok h
  have : x.cps.size ≤ 1000 := hz
  have e : PyData.layable0 (.str x) = true := by
    have w : decide (x.cps.size ≤ 2 ^ 20) = true := decide_eq_true (by
      have : (2:Nat)^20 = 1048576 := by decide
      omega)
    have d : decide (PyData.depth (.str x) ≤ 64) = true := by simp [PyData.depth]
    have c : PyData.canLay0 (.str x) = true := by simp [PyData.canLay0, h0]
    have w2 : decide (PyData.weight (.str x) ≤ 2 ^ 20) = true := by rw [PyData.weight]; exact w
    unfold PyData.layable0
    rw [c, d, w2]
    rfl
  exact PyProof.Rows.len_repr_of_layable e
mutual
theorem sh_len : ∀ t : Tr, lit t → (pT t).shown.length + 11 ≤ 31 * siz t
  | .fin n, h => by
    have := tup_len [reprText ("end" : Str), num n]
    have a := num_len n h
    have e : (reprText ("end" : Str)).length = 5 := by decide +kernel
    have es : (pT (.fin n)).shown = tupleText [reprText ("end" : Str), num n] := by
      simp only [pT, PyData.shown, PyData.shownAll]
      rfl
    rw [es]
    simp only [sumL, List.map_cons, List.map_nil, List.sum_cons, List.sum_nil, List.length_cons, List.length_nil, e] at this
    simp only [siz]
    omega
  | .stp n bs, h => by
    have a := num_len n h.1
    have b := shs_len bs h.2.2.1
    have t1 := tup_len (PyData.shownAll (pTs bs))
    have t2 := tup_len [reprText ("step" : Str), num n, tupleText (PyData.shownAll (pTs bs))]
    have e : (reprText ("step" : Str)).length = 6 := by decide +kernel
    have es : (pT (.stp n bs)).shown = tupleText [reprText ("step" : Str), num n, tupleText (PyData.shownAll (pTs bs))] := by
      simp only [pT, PyData.shown, PyData.shownAll]
      rfl
    rw [es]
    simp only [sumL, List.map_cons, List.map_nil, List.sum_cons, List.sum_nil, List.length_cons, List.length_nil, e] at t2
    simp only [siz]
    omega
theorem shs_len : ∀ bs : Trs, lits bs → sumL (PyData.shownAll (pTs bs)) + 2 * (PyData.shownAll (pTs bs)).length ≤ 31 * sizs bs
  | .nil, _ => by simp [pTs, PyData.shownAll, sumL]
  | .cons w t r, h => by
    have a := num_len w (small_w h.1)
    have b := sh_len t h.2.1
    have c := shs_len r h.2.2
    have t1 := tup_len [num w, (pT t).shown]
    have es : PyData.shownAll (pTs (.cons w t r)) = tupleText [num w, (pT t).shown] :: PyData.shownAll (pTs r) := by
      simp only [pTs, PyData.shown, PyData.shownAll]
      rfl
    rw [es]
    simp only [sumL, List.map_cons, List.map_nil, List.sum_cons, List.sum_nil, List.length_cons, List.length_nil, sizs] at *
    omega
end
mutual
theorem sh_asc : ∀ t : Tr, lit t → asc (pT t).shown
  | .fin n, h => by
    have es : (pT (.fin n)).shown = tupleText [reprText ("end" : Str), num n] := by
      simp only [pT, PyData.shown, PyData.shownAll]
      rfl
    rw [es]
    refine asc_tup _ fun x hx => ?_
    simp only [List.mem_cons, List.not_mem_nil, or_false] at hx
    rcases hx with rfl | rfl
    · decide +kernel
    · exact num_ch n h
  | .stp n bs, h => by
    have b := shs_asc bs h.2.2.1
    have es : (pT (.stp n bs)).shown = tupleText [reprText ("step" : Str), num n, tupleText (PyData.shownAll (pTs bs))] := by
      simp only [pT, PyData.shown, PyData.shownAll]
      rfl
    rw [es]
    refine asc_tup _ fun x hx => ?_
    simp only [List.mem_cons, List.not_mem_nil, or_false] at hx
    rcases hx with rfl | rfl | rfl
    · decide +kernel
    · exact num_ch n h.1
    · exact asc_tup _ b
theorem shs_asc : ∀ bs : Trs, lits bs → ∀ x ∈ PyData.shownAll (pTs bs), asc x
  | .nil, _, x, hx => by simp [pTs, PyData.shownAll] at hx
  | .cons w t r, h, x, hx => by
    have es : PyData.shownAll (pTs (.cons w t r)) = tupleText [num w, (pT t).shown] :: PyData.shownAll (pTs r) := by
      simp only [pTs, PyData.shown, PyData.shownAll]
      rfl
    rw [es, List.mem_cons] at hx
    rcases hx with rfl | hx
    · refine asc_tup _ fun y hy => ?_
      simp only [List.mem_cons, List.not_mem_nil, or_false] at hy
      rcases hy with rfl | rfl
      · exact num_ch w (small_w h.1)
      · exact sh_asc t h.2.1
    · exact shs_asc r h.2.2 x hx
end
mutual
theorem sh_able : ∀ t : Tr, lit t → (pT t).showable = true
  | .fin n, h => by
    have := num_smallI n h
    simp only [smallI] at this
    simp [pT, PyData.showable, PyData.showableAll]
    simpa using this
  | .stp n bs, h => by
    have := num_smallI n h.1
    simp only [smallI] at this
    have b := shs_able bs h.2.2.1
    simp [pT, PyData.showable, PyData.showableAll, b]
    simpa using this
theorem shs_able : ∀ bs : Trs, lits bs → PyData.showableAll (pTs bs) = true
  | .nil, _ => by simp [pTs, PyData.showableAll]
  | .cons w t r, h => by
    have := num_smallI w (small_w h.1)
    simp only [smallI] at this
    have a := sh_able t h.2.1
    have b := shs_able r h.2.2
    simp [pTs, PyData.showable, PyData.showableAll, a, b]
    simpa using this
end
/-- what repr shows of [tree, text, text] -/
def shT (t : Tr) : Str := listText [(pT t).shown, reprText (txt t), reprText (txt t)]
theorem repr_ok (h : Hea) (a : Nat) (t : Tr) (hl : lit t) (hs : siz t ≤ 15) (g : h[a]? = some (.lst [enc t, .str (txt t), .str (txt t)])) : reprD h (.ref a) = some (shT t) := by
  have na := asc_ok (txt_asc t hl)
  have tl := txt_len t hl
  have sl := sh_len t hl
  have rl := repr_len (txt_asc t hl) (by omega)
  have dp := dep_pT t
  have ds := dep_siz t
  have p : pd h (.ref a) = some (.list [pT t, .str (txt t), .str (txt t)]) := by
    have e : pdR h 8 a = some (.list [pT t, .str (txt t), .str (txt t)]) := by
      show ((rdL h a).bind fun ds => (pdDs (pdR h 7) ds).map PyData.list) = _
      simp [rdL, g, pdDs, pdD, pdD_enc]
    have sh : SeqAt.shaped (.list [pT t, .str (txt t), .str (txt t)]) = true := by
      simp [SeqAt.shaped, PyData.canLay0, PyData.canLayAll0, PyData.depth, PyData.depthAll, lay_pT, na]
      omega
    simp [pd, pdD, e, sh]
  have sa : PyData.showable (.list [pT t, .str (txt t), .str (txt t)]) = true := by
    simp [PyData.showable, PyData.showableAll, sh_able t hl]
  have se : PyData.shown (.list [pT t, .str (txt t), .str (txt t)]) = shT t := by
    simp only [PyData.shown, PyData.shownAll, shT]
  have ll := list_len2 [(pT t).shown, reprText (txt t), reprText (txt t)]
  simp only [sumL, List.map_cons, List.map_nil, List.sum_cons, List.sum_nil, List.length_cons, List.length_nil] at ll
  have zz : SZ = 16777216 := rfl
  have lz : (shT t).length ≤ SZ := by
    unfold shT
    omega
  simp [reprD, p, sa, se, lz]
theorem shT_ok (t : Tr) (hl : lit t) : PyData.strOk (shT t) = true := by
  refine asc_ok (asc_list _ fun x hx => ?_)
  simp only [List.mem_cons, List.not_mem_nil, or_false] at hx
  rcases hx with rfl | rfl | rfl
  · exact sh_asc t hl
  · exact asc_repr (txt_asc t hl)
  · exact asc_repr (txt_asc t hl)
end Mi.k02
end

section
set_option linter.all false
set_option maxRecDepth 100000
/-! Kw8: the law's asks, one by one. -/
namespace Mi.k02
open PySem Mi.P
structure Fx (rs rs2 : List Row) (t u : LT) : Prop where
  W1 : WfA rs
  W2 : WfA rs2
  it : Is rs t
  iu : Is rs2 u
  zt : t.spot = 0
  zu : u.spot = 0
structure St (h : Hea) (a r r2 o w : Nat) (rs rs2 : List Row) (t : LT) : Prop where
  cup : Cup h a
  R1 : RowsAt (fun j => j = a) h r rs
  R2 : RowsAt (fun j => j = a) h r2 rs2
  off : Off h o t.tr
  ways : h[w]? = some (.lst ((prL t).map encPS))
  nr : r ≠ a
  nr2 : r2 ≠ a
  no : o ≠ a
  nw : w ≠ a
theorem St.kc {h h' : Hea} {a r r2 o w : Nat} {rs rs2 : List Row} {t : LT} (s : St h a r r2 o w rs rs2 t) (x : Kc a h h') : St h' a r r2 o w rs rs2 t :=
  ⟨x.2, s.R1.kp x.1 (fun _ e => e) s.nr, s.R2.kp x.1 (fun _ e => e) s.nr2, Kp.get x.1 s.off s.no, Kp.get x.1 s.ways s.nw, s.nr, s.nr2, s.no, s.nw⟩
theorem St.ex {h h' : Hea} {a r r2 o w : Nat} {rs rs2 : List Row} {t : LT} (s : St h a r r2 o w rs rs2 t) (x : Ex h h') : St h' a r r2 o w rs rs2 t := s.kc (Kc.ex s.cup x)
def ptsD (L : List (List Nat)) : D := .tup (L.map pthD)
theorem pdDs_pts (r : Nat → Option PyData) : ∀ L : List (List Nat), pdDs r (L.map pthD) = some (L.map fun p => .tuple (p.map iP))
  | [] => rfl
  | p :: L => by simp [pdDs, pthD, pdD, pdDs_iD]; exact pdDs_pts r L
theorem lay_pts : ∀ L : List (List Nat), PyData.canLayAll0 (L.map fun p => .tuple (p.map iP)) = true
  | [] => by simp [PyData.canLayAll0]
  | p :: L => by simp [PyData.canLayAll0, PyData.canLay0, lay_iP, lay_pts L]
theorem dep_pts : ∀ L : List (List Nat), PyData.depthAll (L.map fun p => .tuple (p.map iP)) ≤ 1
  | [] => by simp [PyData.depthAll]
  | p :: L => by
    have := dep_pts L
    simp [PyData.depthAll, PyData.depth, dep_iP]
    omega
theorem eqD_pts (h : Hea) (L : List (List Nat)) : eqD h (ptsD L) (ptsD L) = some true := by
  have d := dep_pts L
  have p : pd h (ptsD L) = some (.tuple (L.map fun p => .tuple (p.map iP))) := by
    simp [pd, ptsD, pdD, pdDs_pts, SeqAt.shaped, PyData.canLay0, PyData.depth, lay_pts]
    omega
  exact eqD_rfl h _ _ p (by simp [PyData.canLay0, lay_pts])
theorem pths_pts (t : Tr) : pthsD t = ptsD ((nd t []).map (·.1)) := by simp [pthsD, ptsD]
theorem stps_pts (t : Tr) : stpsD t = ptsD (((nd t []).filter nf).map (·.1)) := by simp [stpsD, ptsD]
theorem nd_fst (t : LT) : (nd t.tr []).map (·.1) = (sb t []).map (·.1) := by rw [nd_sb]; simp
theorem eqD_enc (h : Hea) (t : Tr) (d : dep t ≤ 20) : eqD h (enc t) (enc t) = some true := eqD_rfl h _ _ (pd_enc h t d) (lay_pT t)
theorem fin_spots (t : LT) : t.tr.isFin = decide (t.ks.spots = []) := by
  cases t with
  | mk s n ks => cases ks <;> simp [LT.tr, LTs.trs, mkT, Tr.isFin, LT.ks, LTs.spots]
section
variable {G : GE} {Tb : Nat → Option FC} {ok : Nat → Nat → Bool}
theorem ins_enc (h : Hea) (t : Tr) : insAt h (enc t) = none := by cases t <;> simp [enc, insAt]
theorem nest_e (B : LawTb Tb ok) (k : Nat) {S : Nat → Prop} {h : Hea} {r : Nat} {rs : List Row} (R : RowsAt S h r rs) (W : WfA rs) (t0 : LT) (i0 : Is rs t0) (z0 : t0.spot = 0) (σ : Loc) (i : Nat) (hv : σ[i]? = some (some (.ref r))) :
    ∃ h', evE G (callF G Tb (k + 60)) (.callk 1004 [(.var i)] [.inl 0]) σ h = .ok (enc t0.tr) h' ∧ Ex h h' := by
  obtain ⟨h', e, x⟩ := nest_ok (G := G) B (k + 59) R W t0 i0 z0
  exact ⟨h', by simp [evE, evEs, hv, shape, e], x⟩
theorem text_e (B : LawTb Tb ok) (k : Nat) {S : Nat → Prop} {h : Hea} {r : Nat} {rs : List Row} (R : RowsAt S h r rs) (W : WfA rs) (t0 : LT) (i0 : Is rs t0) (z0 : t0.spot = 0) (σ : Loc) (i : Nat) (hv : σ[i]? = some (some (.ref r))) :
    ∃ h', evE G (callF G Tb (k + 60)) (.callk 1006 [(.var i)] [.inl 0]) σ h = .ok (.str (txt t0.tr)) h' ∧ Ex h h' := by
  obtain ⟨h', e, x⟩ := text_ok (G := G) B (k + 59) R W t0 i0 z0
  exact ⟨h', by simp [evE, evEs, hv, shape, e], x⟩
theorem read_e (B : LawTb Tb ok) (C0 : RdG G) (C1 : OfG G) (k : Nat) (t : Tr) (hl : lit t) (hs : siz t ≤ 15) (e : CE) (σ : Loc) (h h1 : Hea) (he : evE G (callF G Tb (k + 60)) e σ h = .ok (.str (txt t)) h1) :
    ∃ h' r, evE G (callF G Tb (k + 60)) (.callk 21 [e] [.inl 0]) σ h = .ok (.ref r) h' ∧ Off h' r t ∧ h1.length ≤ r ∧ Ex h1 h' := by
  obtain ⟨h', r, e1, o, l, x⟩ := read_ok (G := G) B.toRdTb C0 C1 (k + 10) t hl hs h1
  refine ⟨h', r, ?_, o, l, x⟩
  have e1' : callF G Tb (k + 60) 21 [.str (txt t)] h1 = .ok (.ref r) h' := e1
  simp [evE, evEs, he, shape, e1']
/-- a test that is not met -/
theorem test_no (Φ : Orc) (σ : Loc) (c : CE) (A : List CS) (h h1 : Hea) (e : evE G Φ c σ h = .ok (.bl false) h1) : evS G Φ (.iff c A []) σ h = .ok (.nx σ) h1 := by
  rw [iff_f _ _ _ _ _ _ _ e, evSs]
theorem or_no (Φ : Orc) (σ : Loc) (c d : CE) (h h1 h2 : Hea) (e : evE G Φ c σ h = .ok (.bl false) h1) (f : evE G Φ d σ h1 = .ok (.bl false) h2) : evE G Φ (.or c d) σ h = .ok (.bl false) h2 := by
  simp only [evE, e, f, Out.bind_ok, asD, truD, lift_some, Bool.false_eq_true, if_false]
theorem cmp_v (Φ : Orc) (σ : Loc) (o : COp) (c d : CE) (h h1 h2 h3 : Hea) (x y z : D) (e : evE G Φ c σ h = .ok x h1) (f : evE G Φ d σ h1 = .ok y h2) (g : cmpX G Φ o x y h2 = .ok z h3) : evE G Φ (.cmp o c d) σ h = .ok z h3 := by
  simp only [evE, e, f, Out.bind_ok, g]
theorem cx_ne (Φ : Orc) (h : Hea) (x y : D) (n : insAt h x = none) (e : eqD h x y = some true) : cmpX G Φ .ne x y h = .ok (.bl false) h := by
  simp only [cmpX, ownEq, n, Option.bind_none, cmpG, opC, e, Option.map_some, lift_some, Bool.not_true]
theorem cx_eq (Φ : Orc) (h : Hea) (x y : D) (b : Bool) (n : insAt h x = none) (e : eqD h x y = some b) : cmpX G Φ .eq x y h = .ok (.bl b) h := by
  simp only [cmpX, ownEq, n, Option.bind_none, cmpG, opC, e, Option.map_some, lift_some]
theorem tuple_v (Φ : Orc) (σ : Loc) (e : CE) (h h1 : Hea) (q : Nat) (ds : List D) (he : evE G Φ e σ h = .ok (.ref q) h1) (g : h1[q]? = some (.lst ds)) : evE G Φ (.bi .tuple [e]) σ h = .ok (.tup ds) h1 := by
  simp only [evE, evEs, he, Out.bind_ok, callX, callB, fTuple, seqD, rdL, g, Option.map_some, lift_some]
theorem var_v (Φ : Orc) (σ : Loc) (i : Nat) (h : Hea) (d : D) (e : σ[i]? = some (some d)) : evE G Φ (.var i) σ h = .ok d h := by simp only [evE, e]
theorem lst3_v (Φ : Orc) (σ : Loc) (e1 e2 e3 : CE) (x y z : D) (h h1 h2 h3 : Hea) (a1 : evE G Φ e1 σ h = .ok x h1) (a2 : evE G Φ e2 σ h1 = .ok y h2) (a3 : evE G Φ e3 σ h2 = .ok z h3) :
    evE G Φ (.lst [e1, e2, e3]) σ h = .ok (.ref h3.length) (h3 ++ [.lst [x, y, z]]) := by
  have z : 3 ≤ SZ := by decide
  simp only [evE, evEs, a1, a2, a3, Out.bind_ok, List.length_cons, List.length_nil, z, if_true, new]
theorem repr_v (Φ : Orc) (σ : Loc) (e : CE) (h h1 : Hea) (q : Nat) (s : Str) (he : evE G Φ e σ h = .ok (.ref q) h1) (g : reprD h1 (.ref q) = some s) : evE G Φ (.bi .repr [e]) σ h = .ok (.str s) h1 := by
  simp only [evE, evEs, he, Out.bind_ok, callX, callB, fRepr, isRf, if_true, g, Option.map_some, lift_some]
abbrev S11 (a r r2 o w : Nat) (x1 x6 x7 x8 x9 x10 : Option D) : Loc := [some (.ref a), x1, some (.ref r), some (.ref r2), some (.ref o), some (.ref w), x6, x7, x8, x9, x10]
section
variable (B : LawTb Tb ok) (C0 : RdG G) (C1 : OfG G) (k : Nat) {a r r2 o w : Nat} {rs rs2 : List Row} {t u : LT} (F : Fx rs rs2 t u) (x1 x6 x7 x8 x9 x10 : Option D)
include F
theorem F_lit : lit t.tr := lit_is F.W1 t F.it
theorem F_siz : siz t.tr ≤ 15 := siz_any F.W1 t F.it
theorem F_dep : dep t.tr ≤ 20 := by have := dep_siz t.tr; have := F_siz F; omega
theorem F_litu : lit u.tr := lit_is F.W2 u F.iu
theorem F_sizu : siz u.tr ≤ 15 := siz_any F.W2 u F.iu
theorem F_depu : dep u.tr ≤ 20 := by have := dep_siz u.tr; have := F_sizu F; omega
theorem F_tz : (txt t.tr).length ≤ SZ := by
  have zz : SZ = 16777216 := rfl
  have := txt_len t.tr (F_lit F)
  have := F_siz F
  omega
include B C0 C1
theorem s3 {h : Hea} (s : St h a r r2 o w rs rs2 t) : ∃ h', evS G (callF G Tb (k + 60)) (.iff (.cmp .ne (.bi .repr [(.lst [(.fld (.var 4) ("tree" : Str)), (.fld (.var 4) ("text" : Str)), (.bi .str [(.var 4)])])]) (.bi .repr [(.lst [(.callk 1004 [(.var 2)] [.inl 0]), (.callk 1006 [(.var 2)] [.inl 0]), (.callk 1006 [(.var 2)] [.inl 0])])])) [.ret (.lit (.bl false))] []) (S11 a r r2 o w x1 x6 x7 x8 x9 x10) h = .ok (.nx (S11 a r r2 o w x1 x6 x7 x8 x9 x10)) h' ∧ Ex h h' := by
  have fl := F_lit F
  have fs := F_siz F
  have v4 : evE G (callF G Tb (k + 60)) (.var 4) (S11 a r r2 o w x1 x6 x7 x8 x9 x10) h = .ok (.ref o) h := var_v _ _ _ _ _ rfl
  have a1 := fld_tree (G := G) B.toOfTb C1 (k + 59) o t.tr (.var 4) _ h h v4 s.off
  have a2 := fld_text (G := G) B.toOfTb C1 (k + 59) o t.tr (.var 4) _ h h v4 s.off
  have a3 := bi_str (G := G) B.toOfTb C1 (k + 59) o t.tr (.var 4) _ h h v4 s.off (F_tz F)
  have l1 := lst3_v _ _ _ _ _ _ _ _ h h h h a1 a2 a3
  have r1 := repr_v _ _ _ h _ _ _ l1 (repr_ok _ _ t.tr fl fs List.getElem?_concat_length)
  have s1 := s.ex (Kp.app h [.lst [enc t.tr, .str (txt t.tr), .str (txt t.tr)]])
  obtain ⟨h2, b1, y1⟩ := nest_e (G := G) B k s1.R1 F.W1 t F.it F.zt (S11 a r r2 o w x1 x6 x7 x8 x9 x10) 2 rfl
  have s2 := s1.ex y1
  obtain ⟨h3, b2, y2⟩ := text_e (G := G) B k s2.R1 F.W1 t F.it F.zt (S11 a r r2 o w x1 x6 x7 x8 x9 x10) 2 rfl
  have s3 := s2.ex y2
  obtain ⟨h4, b3, y3⟩ := text_e (G := G) B k s3.R1 F.W1 t F.it F.zt (S11 a r r2 o w x1 x6 x7 x8 x9 x10) 2 rfl
  have l2 := lst3_v _ _ _ _ _ _ _ _ _ h2 h3 h4 b1 b2 b3
  have r2' := repr_v _ _ _ _ _ _ _ l2 (repr_ok _ _ t.tr fl fs List.getElem?_concat_length)
  have q : ∀ h, eqD h (.str (shT t.tr)) (.str (shT t.tr)) = some true := fun h => by rw [eqD_str h _ _ (shT_ok _ fl) (shT_ok _ fl)]; simp
  have c := cmp_v _ _ .ne _ _ _ _ _ _ _ _ _ r1 r2' (cx_ne (G := G) _ _ _ _ (by simp [insAt]) (q _))
  exact ⟨_, test_no _ _ _ _ _ _ c, (Kp.app h _).trans (y1.trans (y2.trans (y3.trans (Kp.app _ _))))⟩
theorem s4 {h : Hea} (s : St h a r r2 o w rs rs2 t) : ∃ h', evS G (callF G Tb (k + 60)) (.iff (.cmp .ne (.fld (.var 4) ("paths" : Str)) (.bi .tuple [(.lc [6, 7] (.tp [6, 7]) (.seq (.var 5)) (.lit (.bl true)) c1007l1e)])) [.ret (.lit (.bl false))] []) (S11 a r r2 o w x1 x6 x7 x8 x9 x10) h = .ok (.nx (S11 a r r2 o w x1 x6 x7 x8 x9 x10)) h' ∧ Ex h h' := by
  have zz : SZ = 16777216 := rfl
  have f : FUEL = 18446744073709551616 := rfl
  have fs := F_siz F
  have v4 : evE G (callF G Tb (k + 60)) (.var 4) (S11 a r r2 o w x1 x6 x7 x8 x9 x10) h = .ok (.ref o) h := var_v _ _ _ _ _ rfl
  have a1 := fld_paths (G := G) B.toOfTb C1 (k + 59) o t.tr (.var 4) _ h h v4 s.off
  have pl : (prL t).length ≤ 15 := by rw [prL, List.length_map, siz_sb]; exact fs
  obtain ⟨acc, h', e, b1, b2⟩ := lcGo_inv1 (.tp [6, 7]) (evE G (callF G Tb (k + 60)) c1007l1e) (.lst w) [some (.ref a), x1, some (.ref r), some (.ref r2), some (.ref o), some (.ref w), none, none, x8, x9, x10] ((prL t).map encPS) (fun i acc h' => acc = ((prL t).take i).map (fun x => pthD x.1) ∧ h' = h) (fun i acc h' x => by rw [x.2]; simp [srcAt, rdL, s.ways])
    (fun i hi acc h' x => by
      obtain ⟨xa, rfl⟩ := x
      simp only [List.length_map] at hi
      refine ⟨[some (.ref a), x1, some (.ref r), some (.ref r2), some (.ref o), some (.ref w), some (pthD ((prL t)[i]).1), some (.int ((prL t)[i]).2), x8, x9, x10], pthD ((prL t)[i]).1, h', ?_, ?_, ?_, ?_, rfl⟩
      · simp [bindT, encPS, seqD, setAll]
      · simp [c1007l1e, evE]
      · rw [xa]; simp; omega
      · rw [xa, List.take_add_one, List.getElem?_eq_getElem hi, List.map_append]; rfl)
    h (by simp; omega) ⟨by simp, rfl⟩
  rw [List.length_map, List.take_length] at b1
  subst b1 b2
  have lc : evE G (callF G Tb (k + 60)) (.lc [6, 7] (.tp [6, 7]) (.seq (.var 5)) (.lit (.bl true)) c1007l1e) (S11 a r r2 o w x1 x6 x7 x8 x9 x10) h' = .ok (.ref h'.length) (h' ++ [.lst ((prL t).map fun x => pthD x.1)]) := by
    simp only [evE, evI, List.getElem?_cons_zero, List.getElem?_cons_succ, Out.bind_ok, walkD, rdL, s.ways, Option.map_some, lift_some, wipeL, List.set_cons_succ, List.set_cons_zero, e, new]
  have tv := tuple_v _ _ _ _ _ _ _ lc List.getElem?_concat_length
  have pe : pthsD t.tr = .tup ((prL t).map fun x => pthD x.1) := by
    rw [pths_pts, nd_fst]
    simp [ptsD, prL]
  have q : ∀ h, eqD h (pthsD t.tr) (.tup ((prL t).map fun x => pthD x.1)) = some true := fun h => by rw [← pe, pths_pts]; exact eqD_pts h _
  have c := cmp_v _ _ .ne _ _ _ _ _ _ _ _ _ a1 tv (cx_ne (G := G) _ _ _ _ (by simp [insAt, pthsD]) (q _))
  exact ⟨_, test_no _ _ _ _ _ _ c, Kp.app _ _⟩
end
end
end Mi.k02
end

section
set_option linter.all false
set_option maxRecDepth 100000
/-! Kw9: the law's asks, more. -/
namespace Mi.k02
open PySem Mi.P
theorem eqv_rflT (t : Tr) : PyData.eqv (pT t) (pT t) = true := eqv_rfl _ (lay_pT t)
theorem eqD_bl (h : Hea) (x : Bool) : eqD h (.bl x) (.bl x) = some true := by cases x <;> rfl
mutual
theorem sb_len_le : ∀ (t : LT) (p : List Nat) (x : List Nat × LT), x ∈ sb t p → x.1.length + 1 ≤ p.length + siz t.tr
  | .mk s n ks, p, x, hx => by
    rw [sb, List.mem_cons] at hx
    have e : siz (mkT n ks.trs) = sizs ks.trs + 1 := by cases ks <;> simp [LTs.trs, mkT, siz, sizs]
    simp only [LT.tr, e]
    rcases hx with rfl | hx
    · simp only; omega
    · have := sbs_len_le ks p 0 x hx
      omega
theorem sbs_len_le : ∀ (t : LTs) (p : List Nat) (k : Nat) (x : List Nat × LT), x ∈ sbs t p k → x.1.length ≤ p.length + sizs t.trs
  | .nil, p, k, x, hx => by simp [sbs] at hx
  | .cons w t r, p, k, x, hx => by
    rw [sbs, List.mem_append] at hx
    rcases hx with hx | hx
    · have := sb_len_le t (p ++ [k]) x hx
      simp [LTs.trs, sizs] at *
      omega
    · have := sbs_len_le r p (k + 1) x hx
      simp [LTs.trs, sizs] at *
      omega
end
section
variable {G : GE} {Tb : Nat → Option FC} {ok : Nat → Nat → Bool}
variable (B : LawTb Tb ok) (C0 : RdG G) (C1 : OfG G) (k : Nat) {a r r2 o w : Nat} {rs rs2 : List Row} {t u : LT} (F : Fx rs rs2 t u) (x1 x6 x7 x8 x9 x10 : Option D)
include B C0 C1 F
def nfL (x : List Nat × LT) : Bool := !x.2.tr.isFin
theorem s5 {h : Hea} (s : St h a r r2 o w rs rs2 t) : ∃ h', evS G (callF G Tb (k + 60)) (.iff (.cmp .ne (.fld (.var 4) ("steps" : Str)) (.bi .tuple [(.lc [6, 7] (.tp [6, 7]) (.seq (.var 5)) c1007l2c c1007l2e)])) [.ret (.lit (.bl false))] []) (S11 a r r2 o w x1 x6 x7 x8 x9 x10) h = .ok (.nx (S11 a r r2 o w x1 x6 x7 x8 x9 x10)) h' ∧ Ex h h' := by
  have zz : SZ = 16777216 := rfl
  have f : FUEL = 18446744073709551616 := rfl
  have fs := F_siz F
  have v4 : evE G (callF G Tb (k + 60)) (.var 4) (S11 a r r2 o w x1 x6 x7 x8 x9 x10) h = .ok (.ref o) h := var_v _ _ _ _ _ rfl
  have a1 := fld_steps (G := G) B.toOfTb C1 (k + 59) o t.tr (.var 4) _ h h v4 s.off
  have pl : (sb t []).length ≤ 15 := by rw [siz_sb]; exact fs
  let ds := (sb t []).map fun x => encPS (x.1, x.2.spot)
  have dse : (prL t).map encPS = ds := by simp [prL, ds]
  obtain ⟨acc, h', e, b1, b2⟩ := lcGo_inv (.tp [6, 7]) (evE G (callF G Tb (k + 60)) c1007l2c) (evE G (callF G Tb (k + 60)) c1007l2e) (.lst w) [some (.ref a), x1, some (.ref r), some (.ref r2), some (.ref o), some (.ref w), none, none, x8, x9, x10] ds (fun i acc h' => acc = (((sb t []).take i).filter nfL).map (fun x => pthD x.1) ∧ Ex h h') (fun i acc h' x => by
      have := Ex.get x.2 s.ways
      rw [dse] at this
      simp [srcAt, rdL, this])
    (fun i hi acc h' x => by
      obtain ⟨xa, kx⟩ := x
      simp only [ds, List.length_map] at hi
      have s' := s.ex kx
      have im := sb_is t [] F.it _ (List.getElem_mem hi)
      obtain ⟨wv, gr⟩ := is_row im
      obtain ⟨q, gq, ek⟩ := ks_e (G := G) (callF G Tb (k + 60)) s'.R1 gr
      simp only at gq
      let σ1 : Loc := [some (.ref a), x1, some (.ref r), some (.ref r2), some (.ref o), some (.ref w), some (pthD ((sb t [])[i]).1), some (.int ((sb t [])[i]).2.spot), x8, x9, x10]
      have e1 := ek σ1 2 7 rfl rfl
      have z0 : 0 ≤ SZ := Nat.zero_le _
      have gq2 : (h' ++ [O.lst []])[q]? = some (.lst (((sb t [])[i]).2.ks.spots.map iD)) := Ex.get (Kp.app h' _) gq
      have qe := eqD_list (h' ++ [O.lst []]) q h'.length _ gq2 List.getElem?_concat_length
      have nq : insAt (h' ++ [O.lst []]) (.ref q) = none := by simp [insAt, gq2]
      have tk : (sb t []).take (i + 1) = (sb t []).take i ++ [(sb t [])[i]] := by
        rw [List.take_add_one, List.getElem?_eq_getElem hi]; rfl
      have nfe : nfL (sb t [])[i] = !decide (((sb t [])[i]).2.ks.spots = []) := by rw [nfL, fin_spots]
      refine ⟨σ1, .bl (nfL (sb t [])[i]), h' ++ [O.lst []], nfL (sb t [])[i], ?_, ?_, rfl, ?_, ?_⟩
      · simp [bindT, encPS, seqD, setAll, ds, σ1]
      · unfold c1007l2c
        have ev : evE G (callF G Tb (k + 60)) (.lst []) σ1 h' = .ok (.ref h'.length) (h' ++ [O.lst []]) := by simp [evE, evEs, z0, new]
        refine cmp_v _ _ .ne _ _ _ _ _ _ _ _ _ e1 ev ?_
        rw [nfe]
        simp only [cmpX, ownEq, nq, Option.bind_none, cmpG, opC, qe, Option.map_some, lift_some]
      · intro hb
        refine ⟨pthD ((sb t [])[i]).1, h' ++ [O.lst []], by simp [c1007l2e, evE, σ1], ?_, ?_, kx.trans (Kp.app _ _)⟩
        · rw [xa]
          have : (((sb t []).take i).filter nfL).length ≤ ((sb t []).take i).length := List.length_filter_le _ _
          simp at *
          omega
        · rw [xa, tk, List.filter_append]
          simp [List.filter_cons, hb]
      · intro hb
        refine ⟨?_, kx.trans (Kp.app _ _)⟩
        rw [xa, tk, List.filter_append]
        simp [List.filter_cons, hb])
    FUEL 0 [] h (by simp [ds]; omega) (Nat.zero_le _) ⟨by simp, Kp.rfl⟩
  have dl : ds.length = (sb t []).length := by simp [ds]
  rw [dl, List.take_length] at b1
  subst b1
  have lc : evE G (callF G Tb (k + 60)) (.lc [6, 7] (.tp [6, 7]) (.seq (.var 5)) c1007l2c c1007l2e) (S11 a r r2 o w x1 x6 x7 x8 x9 x10) h = .ok (.ref h'.length) (h' ++ [.lst (((sb t []).filter nfL).map fun x => pthD x.1)]) := by
    simp only [evE, evI, List.getElem?_cons_zero, List.getElem?_cons_succ, Out.bind_ok, walkD, rdL, s.ways, Option.map_some, lift_some, wipeL, List.set_cons_succ, List.set_cons_zero, e, new]
  have tv := tuple_v _ _ _ _ _ _ _ lc List.getElem?_concat_length
  have pe : stpsD t.tr = .tup (((sb t []).filter nfL).map fun x => pthD x.1) := by
    rw [stps_pts, nd_sb, List.filter_map]
    simp [ptsD, Function.comp_def]
    rfl
  have q : ∀ h, eqD h (stpsD t.tr) (.tup (((sb t []).filter nfL).map fun x => pthD x.1)) = some true := fun h => by rw [← pe, stps_pts]; exact eqD_pts h _
  have c := cmp_v _ _ .ne _ _ _ _ _ _ _ _ _ a1 tv (cx_ne (G := G) _ _ _ _ (by simp [insAt, stpsD]) (q _))
  exact ⟨_, test_no _ _ _ _ _ _ c, b2.trans (Kp.app _ _)⟩
theorem s6 {h : Hea} (s : St h a r r2 o w rs rs2 t) : ∃ h' m, evS G (callF G Tb (k + 60)) (.asg 8 (.callk 21 [(.callk 1006 [(.var 2)] [.inl 0])] [.inl 0])) (S11 a r r2 o w x1 x6 x7 x8 x9 x10) h = .ok (.nx (S11 a r r2 o w x1 x6 x7 (some (.ref m)) x9 x10)) h' ∧ Off h' m t.tr ∧ Ex h h' := by
  obtain ⟨h1, e1, y1⟩ := text_e (G := G) B k s.R1 F.W1 t F.it F.zt (S11 a r r2 o w x1 x6 x7 x8 x9 x10) 2 rfl
  obtain ⟨h2, m, e2, om, _, y2⟩ := read_e (G := G) B C0 C1 k t.tr (F_lit F) (F_siz F) _ _ _ _ e1
  exact ⟨h2, m, asg_e _ _ _ 8 _ _ _ e2, om, y1.trans y2⟩
theorem s7 {h : Hea} (s : St h a r r2 o w rs rs2 t) (m : Nat) (om : Off h m t.tr) : ∃ h', evS G (callF G Tb (k + 60)) (.iff (.or (.cmp .ne (.var 8) (.var 4)) (.or (.not (.cmp .eq (.var 8) (.mk 1 [(.fld (.var 4) ("tree" : Str))] [.inl 0, .inl 1]))) (.cmp .ne (.fld (.callk 21 [(.fld (.var 4) ("text" : Str))] [.inl 0]) ("tree" : Str)) (.fld (.var 4) ("tree" : Str))))) [.ret (.lit (.bl false))] []) (S11 a r r2 o w x1 x6 x7 (some (.ref m)) x9 x10) h = .ok (.nx (S11 a r r2 o w x1 x6 x7 (some (.ref m)) x9 x10)) h' ∧ Ex h h' := by
  have dt := F_dep F
  have c1 := cmp_ne (G := G) B.toOfTb C1 (k + 59) m o t.tr t.tr h om s.off dt dt
  rw [eqv_rflT] at c1
  have q1 := cmp_v (G := G) (callF G Tb (k + 60)) (S11 a r r2 o w x1 x6 x7 (some (.ref m)) x9 x10) .ne (.var 8) (.var 4) h h h h _ _ _ (var_v _ _ _ _ _ rfl) (var_v _ _ _ _ _ rfl) c1
  have v4 : ∀ h, evE G (callF G Tb (k + 60)) (.var 4) (S11 a r r2 o w x1 x6 x7 (some (.ref m)) x9 x10) h = .ok (.ref o) h := fun h => var_v _ _ _ _ _ rfl
  have a1 := fld_tree (G := G) B.toOfTb C1 (k + 59) o t.tr (.var 4) _ h h (v4 h) s.off
  obtain ⟨h1, e1, o1, y1⟩ := mk_ok (G := G) B.toOfTb C1 (k + 40) t.tr (F_lit F) (F_siz F) _ _ h h a1
  have s1 := s.ex y1
  have om1 : Off h1 m t.tr := Ex.get y1 om
  have c2 := cmp_eq (G := G) B.toOfTb C1 (k + 59) m h.length t.tr t.tr h1 om1 o1 dt dt
  rw [eqv_rflT] at c2
  have q2 := cmp_v (G := G) (callF G Tb (k + 60)) (S11 a r r2 o w x1 x6 x7 (some (.ref m)) x9 x10) .eq (.var 8) _ h h h1 h1 _ _ _ (var_v _ _ _ _ _ rfl) e1 c2
  have q2' : evE G (callF G Tb (k + 60)) (.not (.cmp .eq (.var 8) (.mk 1 [(.fld (.var 4) ("tree" : Str))] [.inl 0, .inl 1]))) (S11 a r r2 o w x1 x6 x7 (some (.ref m)) x9 x10) h = .ok (.bl false) h1 := by
    rw [evE, q2]
    rfl
  have a2 := fld_text (G := G) B.toOfTb C1 (k + 59) o t.tr (.var 4) _ h1 h1 (v4 h1) s1.off
  obtain ⟨h2, m2, e2, o2, _, y2⟩ := read_e (G := G) B C0 C1 k t.tr (F_lit F) (F_siz F) _ _ _ _ a2
  have s2 := s1.ex y2
  have b1 := fld_tree (G := G) B.toOfTb C1 (k + 59) m2 t.tr _ _ h1 h2 e2 o2
  have b2 := fld_tree (G := G) B.toOfTb C1 (k + 59) o t.tr (.var 4) _ h2 h2 (v4 h2) s2.off
  have q3 := cmp_v _ _ .ne _ _ _ _ _ _ _ _ _ b1 b2 (cx_ne (G := G) _ _ _ _ (ins_enc _ _) (eqD_enc _ _ dt))
  exact ⟨h2, test_no _ _ _ _ _ _ (or_no _ _ _ _ _ _ _ q1 (or_no _ _ _ _ _ _ _ q2' q3)), y1.trans y2⟩
theorem s8 {h : Hea} (s : St h a r r2 o w rs rs2 t) : ∃ h', evS G (callF G Tb (k + 60)) (.iff (.or (.cmp .ne (.cmp .eq (.var 4) (.mk 1 [(.callk 1004 [(.var 3)] [.inl 0])] [.inl 0, .inl 1])) (.cmp .eq (.callk 1004 [(.var 2)] [.inl 0]) (.callk 1004 [(.var 3)] [.inl 0]))) (.or (.cmp .eq (.var 4) (.fld (.var 4) ("tree" : Str))) (.cmp .eq (.var 4) (.fld (.var 4) ("text" : Str))))) [.ret (.lit (.bl false))] []) (S11 a r r2 o w x1 x6 x7 x8 x9 x10) h = .ok (.nx (S11 a r r2 o w x1 x6 x7 x8 x9 x10)) h' ∧ Ex h h' := by
  have dt := F_dep F
  have du := F_depu F
  have v4 : ∀ h, evE G (callF G Tb (k + 60)) (.var 4) (S11 a r r2 o w x1 x6 x7 x8 x9 x10) h = .ok (.ref o) h := fun h => var_v _ _ _ _ _ rfl
  obtain ⟨h1, e1, y1⟩ := nest_e (G := G) B k s.R2 F.W2 u F.iu F.zu (S11 a r r2 o w x1 x6 x7 x8 x9 x10) 3 rfl
  have s1 := s.ex y1
  obtain ⟨h2, e2, o2, y2⟩ := mk_ok (G := G) B.toOfTb C1 (k + 40) u.tr (F_litu F) (F_sizu F) _ _ h h1 e1
  have s2 := s1.ex y2
  have c1 := cmp_eq (G := G) B.toOfTb C1 (k + 59) o h1.length t.tr u.tr h2 s2.off o2 dt du
  have q1 := cmp_v (G := G) (callF G Tb (k + 60)) (S11 a r r2 o w x1 x6 x7 x8 x9 x10) .eq (.var 4) _ h h h2 h2 _ _ _ (v4 h) e2 c1
  obtain ⟨h3, e3, y3⟩ := nest_e (G := G) B k s2.R1 F.W1 t F.it F.zt (S11 a r r2 o w x1 x6 x7 x8 x9 x10) 2 rfl
  have s3 := s2.ex y3
  obtain ⟨h4, e4, y4⟩ := nest_e (G := G) B k s3.R2 F.W2 u F.iu F.zu (S11 a r r2 o w x1 x6 x7 x8 x9 x10) 3 rfl
  have s4 := s3.ex y4
  have q : eqD h4 (enc t.tr) (enc u.tr) = some (PyData.eqv (pT t.tr) (pT u.tr)) := by simp [eqD, pd_enc h4 t.tr dt, pd_enc h4 u.tr du]
  have q2 := cmp_v _ _ .eq _ _ _ _ _ _ _ _ _ e3 e4 (cx_eq (G := G) _ _ _ _ _ (ins_enc _ _) q)
  have q3 := cmp_v _ _ .ne _ _ _ _ _ _ _ _ _ q1 q2 (cx_ne (G := G) _ _ _ _ (by rfl) (eqD_bl _ _))
  have a1 := fld_tree (G := G) B.toOfTb C1 (k + 59) o t.tr (.var 4) _ h4 h4 (v4 h4) s4.off
  have a2 := fld_text (G := G) B.toOfTb C1 (k + 59) o t.tr (.var 4) _ h4 h4 (v4 h4) s4.off
  have q4 := cmp_v (G := G) (callF G Tb (k + 60)) _ .eq (.var 4) _ h4 h4 h4 h4 _ _ _ (v4 h4) a1 (cmp_tup (G := G) B.toOfTb C1 (k + 59) o t.tr t.tr h4 s4.off)
  have q5 := cmp_v (G := G) (callF G Tb (k + 60)) _ .eq (.var 4) _ h4 h4 h4 h4 _ _ _ (v4 h4) a2 (cmp_str (G := G) B.toOfTb C1 (k + 59) o t.tr (txt t.tr) h4 s4.off)
  exact ⟨h4, test_no _ _ _ _ _ _ (or_no _ _ _ _ _ _ _ q3 (or_no _ _ _ _ _ _ _ q4 q5)), y1.trans (y2.trans (y3.trans y4))⟩
/-- a drawn way -/
theorem s9 {h : Hea} (s : St h a r r2 o w rs rs2 t) : ∃ h' p v, evS G (callF G Tb (k + 60)) (.asgT [6, 7] (.idx (.var 5) (.callk 1001 [(.var 0), (.bi .len [(.var 5)])] [.inl 0, .inl 1]))) (S11 a r r2 o w x1 x6 x7 x8 x9 x10) h = .ok (.nx (S11 a r r2 o w x1 (some (pthD p)) (some (.int v.spot)) x8 x9 x10)) h' ∧ Kc a h h' ∧ Is rs v ∧ atL p t = some v ∧ p.length ≤ 15 := by
  have fs := F_siz F
  have pl : (prL t).length = (sb t []).length := by simp [prL]
  have ps := siz_sb t []
  have p1 := siz_pos t.tr
  obtain ⟨v, h1, e1, kc, v0, v1⟩ := sip_ok (G := G) B (k + 59) a ((prL t).length : Int) h s.cup (by omega) (by omega)
  obtain ⟨n, rfl⟩ := Int.eq_ofNat_of_zero_le v0
  have hn : n < (sb t []).length := by omega
  have s1 := s.kc kc
  have gi : L2.atI ((prL t).map encPS) (n : Int) = some (encPS (((sb t [])[n]).1, ((sb t [])[n]).2.spot)) := by
    rw [atI_nat _ _ (by simp; omega)]
    simp [prL]
  obtain ⟨q, eq, aq⟩ := sb_at t [] _ (List.getElem_mem hn)
  refine ⟨h1, ((sb t [])[n]).1, ((sb t [])[n]).2, ?_, kc, sb_is t [] F.it _ (List.getElem_mem hn), by rw [eq]; exact aq, ?_⟩
  · have e1' : callF G Tb (k + 60) 1001 [.ref a, .int ((prL t).length : Int)] h = .ok (.int (n : Int)) h1 := e1
    have g1 := s1.ways
    have g0 := s.ways
    simp [evS, evE, evEs, callX, callB, fLen, lenD, g0, shape, e1', idxD, rdL, g1, gi, encPS, seqD, setAll]
  · have := sb_len_le t [] _ (List.getElem_mem hn)
    simp at this
    omega
end
end Mi.k02
end

section
set_option linter.all false
set_option maxRecDepth 100000
/-! Kw10: the law's last asks. -/
namespace Mi.k02
open PySem Mi.P
theorem cut_take (xs : List D) (n : Nat) : cutD xs none (some (n : Int)) = xs.take n := by
  have h1 : ¬ ((n : Int) < 0) := by omega
  have e1 : (n : Int).toNat = n := by omega
  simp only [cutD, HT.sIx, h1, if_false, e1, List.drop_zero, Nat.sub_zero]
  rw [List.take_eq_take_iff]
  omega
theorem cut_drop (xs : List D) (n : Nat) : cutD xs (some (n : Int)) none = xs.drop n := by
  have h1 : ¬ ((n : Int) < 0) := by omega
  have e1 : (n : Int).toNat = n := by omega
  simp only [cutD, HT.sIx, h1, if_false, e1]
  by_cases h : n ≤ xs.length
  · rw [Nat.min_eq_left h, List.take_of_length_le (by simp)]
  · rw [Nat.min_eq_right (by omega)]
    simp
    omega
section
variable {G : GE} {Tb : Nat → Option FC} {ok : Nat → Nat → Bool}
variable (B : LawTb Tb ok) (C0 : RdG G) (C1 : OfG G) (k : Nat) {a r r2 o w : Nat} {rs rs2 : List Row} {t u : LT} (F : Fx rs rs2 t u) (x1 x8 x9 x10 : Option D)
include B C0 C1 F
theorem at_e {h : Hea} (s : St h a r r2 o w rs rs2 t) (p : List Nat) (v : LT) (av : atL p t = some v) (pl : p.length ≤ 15) (x7 : Option D) :
    ∃ h', evE G (callF G Tb (k + 60)) (.meth (.var 4) ("at" : Str) [(.var 6)] [.inl 0, .inl 1]) (S11 a r r2 o w x1 (some (pthD p)) x7 x8 x9 x10) h = .ok (.ref h.length) h' ∧ Off h' h.length v.tr ∧ Ex h h' := by
  obtain ⟨h', e, o', x'⟩ := at_ok (G := G) B.toOfTb C1 (k + 39) o t.tr v.tr p (atL_T p t v av) (by omega) (F_lit F) (F_siz F) h s.off
  have e' : callF G Tb (k + 60) 27 [.ref o, pthD p] h = .ok (.ref h.length) h' := e
  have g := s.off
  unfold Off at g
  refine ⟨h', ?_, o', x'⟩
  simp [evE, evEs, insAt, g, C1.m2, offF, lookF, n_rt, n_wt, n_at, n_st, shape, e']
theorem s10 {h : Hea} (s : St h a r r2 o w rs rs2 t) (p : List Nat) (v : LT) (av : atL p t = some v) (pl : p.length ≤ 15) (x7 : Option D) :
    ∃ h' q, evS G (callF G Tb (k + 60)) (.asg 9 (.meth (.var 4) ("at" : Str) [(.var 6)] [.inl 0, .inl 1])) (S11 a r r2 o w x1 (some (pthD p)) x7 x8 x9 x10) h = .ok (.nx (S11 a r r2 o w x1 (some (pthD p)) x7 x8 (some (.ref q)) x10)) h' ∧ Off h' q v.tr ∧ Ex h h' := by
  obtain ⟨h', e, o', x'⟩ := at_e B C0 C1 k F x1 x8 x9 x10 s p v av pl x7
  exact ⟨h', h.length, asg_e _ _ _ 9 _ _ _ e, o', x'⟩
theorem s11 {h : Hea} (s : St h a r r2 o w rs rs2 t) (p : List Nat) (v : LT) (iv : Is rs v) (av : atL p t = some v) (pl : p.length ≤ 15) (x7 : Option D) (q : Nat) (oq : Off h q v.tr) :
    ∃ h', evS G (callF G Tb (k + 60)) (.iff (.or (.cmp .ne (.meth (.var 4) ("at" : Str) [(.var 6)] [.inl 0, .inl 1]) (.var 9)) (.cmp .ne (.fld (.var 9) ("paths" : Str)) (.bi .tuple [(.lc [10] (.nm 10) (.seq (.fld (.var 4) ("paths" : Str))) c1007l3c c1007l3e)]))) [.ret (.lit (.bl false))] []) (S11 a r r2 o w x1 (some (pthD p)) x7 x8 (some (.ref q)) x10) h = .ok (.nx (S11 a r r2 o w x1 (some (pthD p)) x7 x8 (some (.ref q)) x10)) h' ∧ Ex h h' := by
  have zz : SZ = 16777216 := rfl
  have f : FUEL = 18446744073709551616 := rfl
  have fs := F_siz F
  have dv : dep v.tr ≤ 20 := by
    have := dep_siz v.tr
    have := siz_any F.W1 v iv
    omega
  obtain ⟨h1, e1, o1, y1⟩ := at_e B C0 C1 k F x1 x8 (some (.ref q)) x10 s p v av pl x7
  have s1 := s.ex y1
  have oq1 : Off h1 q v.tr := Ex.get y1 oq
  have c1 := cmp_ne (G := G) B.toOfTb C1 (k + 59) h.length q v.tr v.tr h1 o1 oq1 dv dv
  rw [eqv_rflT] at c1
  have q1 := cmp_v (G := G) (callF G Tb (k + 60)) _ .ne _ (.var 9) h h1 h1 h1 _ _ _ e1 (var_v _ _ _ _ _ rfl) c1
  have a1 := fld_paths (G := G) B.toOfTb C1 (k + 59) q v.tr (.var 9) (S11 a r r2 o w x1 (some (pthD p)) x7 x8 (some (.ref q)) x10) h1 h1 (var_v _ _ _ _ _ rfl) oq1
  have a2 := fld_paths (G := G) B.toOfTb C1 (k + 59) o t.tr (.var 4) (S11 a r r2 o w x1 (some (pthD p)) x7 x8 (some (.ref q)) x10) h1 h1 (var_v _ _ _ _ _ rfl) s1.off
  have sl : (sb t []).length ≤ 15 := by rw [siz_sb]; exact fs
  have pe : pthsD t.tr = .tup ((sb t []).map fun x => pthD x.1) := by
    rw [pths_pts, nd_fst]
    simp [ptsD]
  obtain ⟨acc, h', e, b1, b2⟩ := lcGo_inv (.nm 10) (evE G (callF G Tb (k + 60)) c1007l3c) (evE G (callF G Tb (k + 60)) c1007l3e) (.fix ((sb t []).map fun x => pthD x.1)) [some (.ref a), x1, some (.ref r), some (.ref r2), some (.ref o), some (.ref w), some (pthD p), x7, x8, some (.ref q), none] ((sb t []).map fun x => pthD x.1) (fun i acc h' => acc = (((sb t []).take i).filter (thr 0 p)).map (fun x => pthD (x.1.drop p.length)) ∧ h' = h1) (fun _ _ _ _ => rfl)
    (fun i hi acc h' x => by
      obtain ⟨xa, rfl⟩ := x
      simp only [List.length_map] at hi
      let σ1 : Loc := [some (.ref a), x1, some (.ref r), some (.ref r2), some (.ref o), some (.ref w), some (pthD p), x7, x8, some (.ref q), some (pthD ((sb t [])[i]).1)]
      have tk : (sb t []).take (i + 1) = (sb t []).take i ++ [(sb t [])[i]] := by
        rw [List.take_add_one, List.getElem?_eq_getElem hi]; rfl
      have ln : evE G (callF G Tb (k + 60)) (.bi .len [(.var 6)]) σ1 h' = .ok (.int (p.length : Int)) h' := by
        simp [evE, evEs, callX, callB, fLen, lenD, pthD, σ1]
      refine ⟨σ1, .bl (thr 0 p (sb t [])[i]), h', thr 0 p (sb t [])[i], ?_, ?_, rfl, ?_, ?_⟩
      · simp [bindT, σ1]
      · unfold c1007l3c
        have ev : evE G (callF G Tb (k + 60)) (.sliH (.var 10) (.bi .len [(.var 6)])) σ1 h' = .ok (pthD (((sb t [])[i]).1.take p.length)) h' := by
          have v10 : evE G (callF G Tb (k + 60)) (.var 10) σ1 h' = .ok (pthD ((sb t [])[i]).1) h' := var_v _ _ _ _ _ rfl
          rw [evE, v10, Out.bind_ok, ln, Out.bind_ok]
          simp only [pthD, sliD, cut_take, List.map_take]
        refine cmp_v _ _ .eq _ _ _ _ _ _ _ _ _ ev (var_v _ _ _ _ _ rfl) (cx_eq (G := G) _ _ _ _ _ (by simp [insAt, pthD]) ?_)
        rw [eqD_path]
        simp [thr]
      · intro hb
        refine ⟨pthD (((sb t [])[i]).1.drop p.length), h', ?_, ?_, ?_, rfl⟩
        · unfold c1007l3e
          have v10 : evE G (callF G Tb (k + 60)) (.var 10) σ1 h' = .ok (pthD ((sb t [])[i]).1) h' := var_v _ _ _ _ _ rfl
          rw [evE, v10, Out.bind_ok, ln, Out.bind_ok]
          simp only [pthD, sliD, cut_drop, List.map_drop]
        · rw [xa]
          have : (((sb t []).take i).filter (thr 0 p)).length ≤ ((sb t []).take i).length := List.length_filter_le _ _
          simp at *
          omega
        · rw [xa, tk, List.filter_append]
          simp [List.filter_cons, hb]
      · intro hb
        refine ⟨?_, rfl⟩
        rw [xa, tk, List.filter_append]
        simp [List.filter_cons, hb])
    FUEL 0 [] h1 (by simp; omega) (Nat.zero_le _) ⟨by simp, rfl⟩
  rw [List.length_map, List.take_length] at b1
  subst b1 b2
  have lc : evE G (callF G Tb (k + 60)) (.lc [10] (.nm 10) (.seq (.fld (.var 4) ("paths" : Str))) c1007l3c c1007l3e) (S11 a r r2 o w x1 (some (pthD p)) x7 x8 (some (.ref q)) x10) h' = .ok (.ref h'.length) (h' ++ [.lst (((sb t []).filter (thr 0 p)).map fun x => pthD (x.1.drop p.length))]) := by
    rw [evE, evI, a2, Out.bind_ok, pe]
    simp only [walkD, lift_some, Out.bind_ok, wipeL, List.set_cons_succ, List.set_cons_zero]
    rw [e]
    rfl
  have tv := tuple_v _ _ _ _ _ _ _ lc List.getElem?_concat_length
  have pe2 : pthsD v.tr = .tup (((sb t []).filter (thr 0 p)).map fun x => pthD (x.1.drop p.length)) := by
    rw [pths_pts, nd_fst, ← paths_at t v p av]
    simp [ptsD]
  have qq : ∀ h, eqD h (pthsD v.tr) (.tup (((sb t []).filter (thr 0 p)).map fun x => pthD (x.1.drop p.length))) = some true := fun h => by rw [← pe2, pths_pts]; exact eqD_pts h _
  have c := cmp_v _ _ .ne _ _ _ _ _ _ _ _ _ a1 tv (cx_ne (G := G) _ _ _ _ (by simp [insAt, pthsD]) (qq _))
  exact ⟨_, test_no _ _ _ _ _ _ (or_no _ _ _ _ _ _ _ q1 c), y1.trans (Kp.app _ _)⟩
theorem s12 {h : Hea} (s : St h a r r2 o w rs rs2 t) (p : List Nat) (v : LT) (iv : Is rs v) (av : atL p t = some v) (pl : p.length ≤ 15) (q : Nat) (oq : Off h q v.tr) :
    ∃ h', evS G (callF G Tb (k + 60)) (.iff (.or (.and (.cmp .eq (.idx (.idx (.var 2) (.var 7)) (.lit (.int (2)))) (.lst [])) (.cmp .ne (.fld (.var 9) ("tree" : Str)) (.tup [(.lit (.str ("end" : Str))), (.idx (.idx (.var 2) (.var 7)) (.lit (.int (0))))]))) (.and (.cmp .eq (.var 6) (.tup [])) (.cmp .ne (.var 9) (.var 4)))) [.ret (.lit (.bl false))] []) (S11 a r r2 o w x1 (some (pthD p)) (some (.int v.spot)) x8 (some (.ref q)) x10) h = .ok (.nx (S11 a r r2 o w x1 (some (pthD p)) (some (.int v.spot)) x8 (some (.ref q)) x10)) h' ∧ Ex h h' := by
  have z0 : 0 ≤ SZ := Nat.zero_le _
  have z2 : 2 ≤ SZ := by decide
  have dt := F_dep F
  have dv : dep v.tr ≤ 20 := by
    have := dep_siz v.tr
    have := siz_any F.W1 v iv
    omega
  obtain ⟨wv, gr⟩ := is_row iv
  obtain ⟨qk, gq, ek⟩ := ks_e (G := G) (callF G Tb (k + 60)) s.R1 gr
  simp only at gq
  let σ1 : Loc := S11 a r r2 o w x1 (some (pthD p)) (some (.int v.spot)) x8 (some (.ref q)) x10
  let h1 : Hea := h ++ [.lst []]
  have x1' : Ex h h1 := Kp.app h _
  have s1 := s.ex x1'
  have oq1 : Off h1 q v.tr := Ex.get x1' oq
  have e1 := ek σ1 2 7 rfl rfl
  have ev : evE G (callF G Tb (k + 60)) (.lst []) σ1 h = .ok (.ref h.length) h1 := by simp [evE, evEs, z0, new, h1]
  have gq2 : h1[qk]? = some (.lst (v.ks.spots.map iD)) := Ex.get x1' gq
  have qe := eqD_list h1 qk h.length _ gq2 List.getElem?_concat_length
  have nq : insAt h1 (.ref qk) = none := by simp [insAt, gq2]
  have c1 := cmp_v (G := G) (callF G Tb (k + 60)) σ1 .eq _ _ h h h1 h1 _ _ _ e1 ev (cx_eq (G := G) _ _ _ _ _ nq qe)
  have A : evE G (callF G Tb (k + 60)) (.and (.cmp .eq (.idx (.idx (.var 2) (.var 7)) (.lit (.int (2)))) (.lst [])) (.cmp .ne (.fld (.var 9) ("tree" : Str)) (.tup [(.lit (.str ("end" : Str))), (.idx (.idx (.var 2) (.var 7)) (.lit (.int (0))))]))) σ1 h = .ok (.bl false) h1 := by
    by_cases hk : v.ks.spots = []
    · rw [decide_eq_true hk] at c1
      have a1 := fld_tree (G := G) B.toOfTb C1 (k + 59) q v.tr (.var 9) σ1 h1 h1 (var_v _ _ _ _ _ rfl) oq1
      have te : enc v.tr = .tup [.str "end", .int v.num] := by
        cases v with
        | mk s n ts =>
          rw [ltr, if_pos (show ts.spots = [] from hk)]
          rfl
      obtain ⟨pp, qq, i, g1, g2⟩ := s1.R1.get gr
      have i0 : idxD (.ref pp) (.int 0) h1 = some (.int v.num) := by
        have : L2.atI [D.int v.num, D.int wv, D.ref qq] 0 = some (.int v.num) := by rfl
        simp [idxD, rdL, g1, this]
      have a2 : evE G (callF G Tb (k + 60)) (.tup [(.lit (.str ("end" : Str))), (.idx (.idx (.var 2) (.var 7)) (.lit (.int (0))))]) σ1 h1 = .ok (enc v.tr) h1 := by
        have v2 : σ1[2]? = some (some (.ref r)) := rfl
        have v7 : σ1[7]? = some (some (.int v.spot)) := rfl
        rw [te]
        simp only [evE, evEs, v2, v7, Out.bind_ok, i, i0, lift_some, List.length_cons, List.length_nil, z2, if_true]
      have c2 := cmp_v (G := G) (callF G Tb (k + 60)) σ1 .ne _ _ h1 h1 h1 h1 _ _ _ a1 a2 (cx_ne (G := G) _ _ _ _ (ins_enc _ _) (eqD_enc _ _ dv))
      rw [evE, c1]
      simp only [Out.bind_ok, asD, truD, lift_some, if_true]
      exact c2
    · rw [decide_eq_false hk] at c1
      rw [evE, c1]
      rfl
  have tn : evE G (callF G Tb (k + 60)) (.tup []) σ1 h1 = .ok (pthD []) h1 := by simp [evE, evEs, z0, pthD]
  have c3 := cmp_v (G := G) (callF G Tb (k + 60)) σ1 .eq (.var 6) _ h1 h1 h1 h1 _ _ _ (var_v _ _ _ _ _ rfl) tn (cx_eq (G := G) _ _ _ _ _ (by simp [insAt, pthD]) (eqD_path h1 p []))
  have A2 : evE G (callF G Tb (k + 60)) (.and (.cmp .eq (.var 6) (.tup [])) (.cmp .ne (.var 9) (.var 4))) σ1 h1 = .ok (.bl false) h1 := by
    by_cases hp : p = []
    · rw [decide_eq_true hp] at c3
      have tv : v = t := by
        subst hp
        simp [atL] at av
        exact av.symm
      subst tv
      have c4 := cmp_ne (G := G) B.toOfTb C1 (k + 59) q o v.tr v.tr h1 oq1 s1.off dv dv
      rw [eqv_rflT] at c4
      have c5 := cmp_v (G := G) (callF G Tb (k + 60)) σ1 .ne (.var 9) (.var 4) h1 h1 h1 h1 _ _ _ (var_v _ _ _ _ _ rfl) (var_v _ _ _ _ _ rfl) c4
      rw [evE, c3]
      simp only [Out.bind_ok, asD, truD, lift_some, if_true]
      exact c5
    · rw [decide_eq_false hp] at c3
      rw [evE, c3]
      rfl
  exact ⟨h1, test_no _ _ _ _ _ _ (or_no _ _ _ _ _ _ _ A A2), x1'⟩
end
end Mi.k02
end

section
set_option linter.all false
set_option maxRecDepth 100000
/-! Kw11: the law's right answer, its cups, the law. -/
namespace Mi.k02
open PySem Mi.P
section
variable {G : GE} {Tb : Nat → Option FC} {ok : Nat → Nat → Bool}
variable (B : LawTb Tb ok) (C0 : RdG G) (C1 : OfG G) (k : Nat)
include B
theorem s1 (a : Nat) (x1 x2 x3 x4 x5 x6 x7 x8 x9 x10 : Option D) (h : Hea) (c : Cup h a) :
    ∃ h' r r2 rs rs2, evS G (callF G Tb (k + 60)) (.asgT [2, 3] (.tup [(.callk 1003 [(.var 0), (.callk 1002 [(.var 0), (.lst [(.lit (.int (3))), (.lit (.int (7))), (.lit (.int (15)))])] [.inl 0, .inl 1])] [.inl 0, .inl 1]), (.callk 1003 [(.var 0), (.lit (.int (5)))] [.inl 0, .inl 1])])) [some (.ref a), x1, x2, x3, x4, x5, x6, x7, x8, x9, x10] h =
      .ok (.nx [some (.ref a), x1, some (.ref r), some (.ref r2), x4, x5, x6, x7, x8, x9, x10]) h' ∧ Kc a h h' ∧ RowsAt (fun j => j = a) h' r rs ∧ RowsAt (fun j => j = a) h' r2 rs2 ∧ WfA rs ∧ WfA rs2 ∧ r ≠ a ∧ r2 ≠ a := by
  have pk := Dr.pick (G := G) B (k + 58) a [some (.ref a), x1, x2, x3, x4, x5, x6, x7, x8, x9, x10] rfl [(.lit (.int (3))), (.lit (.int (7))), (.lit (.int (15)))] (P := In 3 15) (DrS.cons (Dr.lit _ (inl (by omega))) <| DrS.cons (Dr.lit _ (inl (by omega))) <| DrS.cons (Dr.lit _ (inl (by omega))) DrS.nil) (by simp) (by simp)
  obtain ⟨d, h1, e1, kc1, m, rfl, m3, m15⟩ := pk h c
  obtain ⟨m, rfl⟩ := Int.eq_ofNat_of_zero_le (show 0 ≤ m by omega)
  obtain ⟨h2, r, rs, e2, kc2, R, W, lr⟩ := flat_ok (G := G) B (k + 57) a m (by omega) (by omega) h1 kc1.2
  obtain ⟨h3, r2, rs2, e3, kc3, R2, W2, lr2⟩ := flat_ok (G := G) B (k + 57) a 5 (by omega) (by omega) h2 kc2.2
  have nr : r ≠ a := by have := kc1.2.lt; omega
  have nr2 : r2 ≠ a := by have := kc2.2.lt; omega
  have e2' : callF G Tb (k + 60) 1003 [.ref a, .int (m : Int)] h1 = .ok (.ref r) h2 := e2
  have e3' : callF G Tb (k + 60) 1003 [.ref a, .int 5] h2 = .ok (.ref r2) h3 := e3
  have e1' : evE G (callF G Tb (k + 60)) (.callk 1002 [(.var 0), (.lst [(.lit (.int (3))), (.lit (.int (7))), (.lit (.int (15)))])] [.inl 0, .inl 1]) [some (.ref a), x1, x2, x3, x4, x5, x6, x7, x8, x9, x10] h = .ok (.int (m : Int)) h1 := e1
  refine ⟨h3, r, r2, rs, rs2, ?_, (kc1.trans kc2).trans kc3, R.kp kc3.1 (fun _ e => e) nr, R2, W, W2, nr, nr2⟩
  have z2 : 2 ≤ SZ := by decide
  generalize CE.callk 1002 [(.var 0), (.lst [(.lit (.int (3))), (.lit (.int (7))), (.lit (.int (15)))])] [.inl 0, .inl 1] = M at e1' ⊢
  simp only [evS, evE, evEs, List.getElem?_cons_zero, List.getElem?_cons_succ, Out.bind_ok, e1', shape, Option.bind_some, Option.map_some, e2', e3', List.length_cons, List.length_nil, z2, if_true, seqD, setAll, List.set_cons_succ, List.set_cons_zero]
include C0 C1
theorem s2 {a r r2 : Nat} {rs rs2 : List Row} {t u : LT} (F : Fx rs rs2 t u) (x1 x4 x5 x6 x7 x8 x9 x10 : Option D) (h : Hea) (c : Cup h a) (R1 : RowsAt (fun j => j = a) h r rs) (R2 : RowsAt (fun j => j = a) h r2 rs2) (nr : r ≠ a) (nr2 : r2 ≠ a) :
    ∃ h' o w, evS G (callF G Tb (k + 60)) (.asgP [4, 5] [(.mk 1 [(.callk 1004 [(.var 2)] [.inl 0])] [.inl 0, .inl 1]), (.callk 1005 [(.var 2)] [.inl 0])]) [some (.ref a), x1, some (.ref r), some (.ref r2), x4, x5, x6, x7, x8, x9, x10] h =
      .ok (.nx (S11 a r r2 o w x1 x6 x7 x8 x9 x10)) h' ∧ Ex h h' ∧ St h' a r r2 o w rs rs2 t := by
  obtain ⟨h1, e1, y1⟩ := nest_e (G := G) B k R1 F.W1 t F.it F.zt [some (.ref a), x1, some (.ref r), some (.ref r2), x4, x5, x6, x7, x8, x9, x10] 2 rfl
  obtain ⟨h2, e2, o2, y2⟩ := mk_ok (G := G) B.toOfTb C1 (k + 40) t.tr (F_lit F) (F_siz F) _ _ h h1 e1
  have y12 := y1.trans y2
  obtain ⟨h3, w, e3, gw, y3, lw⟩ := ways_ok (G := G) B (k + 59) (R1.kp y12 (fun _ e => e.elim) (fun e => e)) F.W1 t F.it F.zt
  have y123 := y12.trans y3
  have e3' : callF G Tb (k + 60) 1005 [.ref r] h2 = .ok (.ref w) h3 := e3
  have cl := c.lt
  have l1 := y1.1
  have l2 := y2.1
  refine ⟨h3, h1.length, w, ?_, y123, ⟨c.ex y123, R1.kp y123 (fun _ e => e.elim) (fun e => e), R2.kp y123 (fun _ e => e.elim) (fun e => e), Ex.get y3 o2, gw, nr, nr2, by omega, by omega⟩⟩
  have e2' : evE G (callF G Tb (k + 60)) (.mk 1 [(.callk 1004 [(.var 2)] [.inl 0])] [.inl 0, .inl 1]) [some (.ref a), x1, some (.ref r), some (.ref r2), x4, x5, x6, x7, x8, x9, x10] h = .ok (.ref h1.length) h2 := e2
  generalize CE.mk 1 [(.callk 1004 [(.var 2)] [.inl 0])] [.inl 0, .inl 1] = M at e2' ⊢
  simp only [evS, evEs, evE, e2', Out.bind_ok, List.getElem?_cons_zero, List.getElem?_cons_succ, shape, Option.bind_some, Option.map_some, e3', List.length_cons, List.length_nil, if_true, setAll, List.set_cons_succ, List.set_cons_zero]
theorem turn (a : Nat) (x1 x2 x3 x4 x5 x6 x7 x8 x9 x10 : Option D) (h : Hea) (c : Cup h a) :
    ∃ h' y2 y3 y4 y5 y6 y7 y8 y9 y10, evSs G (callF G Tb (k + 60)) c1007f0b [some (.ref a), x1, x2, x3, x4, x5, x6, x7, x8, x9, x10] h = .ok (.nx [some (.ref a), x1, y2, y3, y4, y5, y6, y7, y8, y9, y10]) h' ∧ Kc a h h' := by
  obtain ⟨h1, r, r2, rs, rs2, e1, k1, R1, R2, W1, W2, nr, nr2⟩ := s1 (G := G) B k a x1 x2 x3 x4 x5 x6 x7 x8 x9 x10 h c
  obtain ⟨t, zt, it⟩ := tree_ex W1 _ 0 (Nat.le_refl _) W1.pos
  obtain ⟨u, zu, iu⟩ := tree_ex W2 _ 0 (Nat.le_refl _) W2.pos
  have F : Fx rs rs2 t u := ⟨W1, W2, it, iu, zt, zu⟩
  obtain ⟨h2, o, w, e2, y2, S2⟩ := s2 (G := G) B C0 C1 k F x1 x4 x5 x6 x7 x8 x9 x10 h1 k1.2 R1 R2 nr nr2
  obtain ⟨h3, e3, y3⟩ := s3 (G := G) B C0 C1 k F x1 x6 x7 x8 x9 x10 S2
  have S3 := S2.ex y3
  obtain ⟨h4, e4, y4⟩ := s4 (G := G) B C0 C1 k F x1 x6 x7 x8 x9 x10 S3
  have S4 := S3.ex y4
  obtain ⟨h5, e5, y5⟩ := s5 (G := G) B C0 C1 k F x1 x6 x7 x8 x9 x10 S4
  have S5 := S4.ex y5
  obtain ⟨h6, m, e6, om, y6⟩ := s6 (G := G) B C0 C1 k F x1 x6 x7 x8 x9 x10 S5
  have S6 := S5.ex y6
  obtain ⟨h7, e7, y7⟩ := s7 (G := G) B C0 C1 k F x1 x6 x7 x9 x10 S6 m om
  have S7 := S6.ex y7
  obtain ⟨h8, e8, y8⟩ := s8 (G := G) B C0 C1 k F x1 x6 x7 (some (.ref m)) x9 x10 S7
  have S8 := S7.ex y8
  obtain ⟨h9, p, v, e9, k9, iv, av, pl⟩ := s9 (G := G) B C0 C1 k F x1 x6 x7 (some (.ref m)) x9 x10 S8
  have S9 := S8.kc k9
  obtain ⟨h10, q, e10, oq, y10⟩ := s10 (G := G) B C0 C1 k F x1 (some (.ref m)) x9 x10 S9 p v av pl (some (.int v.spot))
  have S10 := S9.ex y10
  obtain ⟨h11, e11, y11⟩ := s11 (G := G) B C0 C1 k F x1 (some (.ref m)) x10 S10 p v iv av pl (some (.int v.spot)) q oq
  have S11' := S10.ex y11
  obtain ⟨h12, e12, y12⟩ := s12 (G := G) B C0 C1 k F x1 (some (.ref m)) x10 S11' p v iv av pl q (Ex.get y11 oq)
  have S12 := S11'.ex y12
  refine ⟨h12, some (.ref r), some (.ref r2), some (.ref o), some (.ref w), some (pthD p), some (.int v.spot), some (.ref m), some (.ref q), x10, ?_, (k1.trans <| (Kc.ex k1.2 y2).trans <| (Kc.ex S2.cup (y3.trans (y4.trans (y5.trans (y6.trans (y7.trans y8)))))).trans <| k9.trans <| Kc.ex S9.cup (y10.trans (y11.trans y12)))⟩
  unfold c1007f0b
  rw [ss_nx e1, ss_nx e2, ss_nx e3, ss_nx e4, ss_nx e5, ss_nx e6, ss_nx e7, ss_nx e8, ss_nx e9, ss_nx e10, ss_nx e11, ss_nx e12, evSs]
theorem right_ok (a : Nat) (h : Hea) (c : Cup h a) : ∃ h', callF G Tb (k + 61) 1007 [.ref a] h = .ok (.bl true) h' ∧ Kc a h h' := by
  have f : FUEL = 18446744073709551616 := rfl
  have rl : (rngD 0 5 1).length = 5 := rfl
  obtain ⟨σ', h', e, x1, x2, x3, x4, x5, x6, x7, x8, x9, x10, rfl, kc⟩ := frGo_inv (.nm 1) (evSs G (callF G Tb (k + 60)) c1007f0b) (.fix (rngD 0 5 1)) (rngD 0 5 1)
    (fun i σ h' => ∃ x1 x2 x3 x4 x5 x6 x7 x8 x9 x10, σ = [some (.ref a), x1, x2, x3, x4, x5, x6, x7, x8, x9, x10] ∧ Kc a h h') (fun _ _ _ _ => rfl)
    (fun i hi σ h1 x => by
      obtain ⟨x1, x2, x3, x4, x5, x6, x7, x8, x9, x10, rfl, kc⟩ := x
      obtain ⟨h', y2, y3, y4, y5, y6, y7, y8, y9, y10, e, kc2⟩ := turn B C0 C1 k a (some ((rngD 0 5 1)[i])) x2 x3 x4 x5 x6 x7 x8 x9 x10 h1 kc.2
      exact ⟨_, _, h', rfl, e, _, _, _, _, _, _, _, _, _, _, rfl, kc.trans kc2⟩)
    FUEL 0 [some (.ref a), none, none, none, none, none, none, none, none, none, none] h (by rw [rl]; omega) (Nat.zero_le _) ⟨_, _, _, _, _, _, _, _, _, _, rfl, Kc.refl c⟩
  refine ⟨h', ?_, kc⟩
  show callF G Tb ((k + 60) + 1) 1007 _ h = _
  unfold callF
  have s2 : evS G (callF G Tb (k + 60)) (.fr (.nm 1) (.rng [(.lit (.int (5)))]) c1007f0b) [some (.ref a), none, none, none, none, none, none, none, none, none, none] h = .ok (.nx [some (.ref a), x1, x2, x3, x4, x5, x6, x7, x8, x9, x10]) h' := by
    rw [evS, evI_rng1 _ 5 (small_R (by omega) (by omega)) h h _ _ (by simp [evEs, evE]), Out.bind_ok]
    exact e
  simp only [B.u7, runF, c1007_w]
  rw [if_pos (by rfl), show Mi.begin ⟨11, 1, _⟩ [D.ref a] = [some (.ref a), none, none, none, none, none, none, none, none, none, none] from rfl, ss_nx s2]
  simp [evSs, evS, evE]
end
end Mi.k02
end

section
set_option linter.all false
set_option maxRecDepth 100000
/-! Kw12: cups; the law. -/
namespace Mi.k02
open PySem Mi.P
def big (c : Int) : Prop := c.natAbs.log2 ≤ 1048576
theorem big_small {c : Int} (h : c.natAbs < 2 ^ 60) : big c := by
  have : c.natAbs.log2 < 60 := log2_lt (by decide) h
  unfold big
  omega
theorem mulOk_r {c : Int} (h : big c) (n : Int) (hn : n.natAbs.log2 ≤ 100) : mulOk c n = true := by
  unfold big at h
  unfold mulOk
  exact decide_eq_true (by omega)
theorem mulOk_l {c : Int} (n : Int) (hn : n.natAbs.log2 ≤ 100) (h : big c) : mulOk n c = true := by
  unfold big at h
  unfold mulOk
  exact decide_eq_true (by omega)
section
variable {G : GE} {Tb : Nat → Option FC} {ok : Nat → Nat → Bool}
theorem cup_end (Φ : Orc) (s : Nat) (hs : s ≤ 1000) (c : Int) (hc : big c) (x0 x3 : Option D) (h : Hea) :
    ∃ x y, evE G Φ (.lst [(.bin .mod (.bi .int [(.bin .add (.bin .add (.bin .mul (.var 2) (.lit (.int (4093)))) (.bin .mul (.lit (.int (269))) (.var 1))) (.lit (.int (19))))]) (.lit (.int (2147483629)))), (.ite (.or (.cmp .lt (.var 2) (.lit (.int (0)))) (.cmp .ge (.var 2) (.bin .pow (.lit (.int (10))) (.lit (.int (18)))))) (.bi .abs [(.var 2)]) (.lit (.int (0))))]) [x0, some (.int s), some (.int c), x3] h = .ok (.ref h.length) (h ++ [.lst [.int x, .int y]]) ∧ cupOk x y := by
  have m1 := mulOk_r hc 4093 (by decide)
  have m2 : mulOk 269 (s : Int) = true := mulOk_l 269 (by decide) (big_small (by
    have : (2:Nat) ^ 60 = 1152921504606846976 := by decide
    omega))
  have z2 : 2 ≤ SZ := by decide
  have pw : powOk 10 18 = true := by decide
  let X : Int := (c * 4093 + 269 * (s : Int) + 19) % 2147483629
  have x0' := Int.emod_nonneg (c * 4093 + 269 * (s : Int) + 19) (b := 2147483629) (by omega)
  have x1' := Int.emod_lt_of_pos (c * 4093 + 269 * (s : Int) + 19) (b := 2147483629) (by omega)
  have e1 : evE G Φ (.bin .mod (.bi .int [(.bin .add (.bin .add (.bin .mul (.var 2) (.lit (.int (4093)))) (.bin .mul (.lit (.int (269))) (.var 1))) (.lit (.int (19))))]) (.lit (.int (2147483629)))) [x0, some (.int s), some (.int c), x3] h = .ok (.int X) h := by
    simp [evE, evEs, opB, opMul, opAdd, opMod, m1, m2, callX, callB, fInt, X]
  have e2 : ∃ y, evE G Φ (.ite (.or (.cmp .lt (.var 2) (.lit (.int (0)))) (.cmp .ge (.var 2) (.bin .pow (.lit (.int (10))) (.lit (.int (18)))))) (.bi .abs [(.var 2)]) (.lit (.int (0)))) [x0, some (.int s), some (.int c), x3] h = .ok (.int y) h ∧ 0 ≤ y := by
    have pe : evE G Φ (.bin .pow (.lit (.int (10))) (.lit (.int (18)))) [x0, some (.int s), some (.int c), x3] h = .ok (.int (10 ^ 18)) h := by
      simp [evE, opB, opPow, pw]
    generalize CE.bin .pow (.lit (.int (10))) (.lit (.int (18))) = M at pe ⊢
    by_cases q1 : c < 0
    · refine ⟨-c, ?_, by omega⟩
      simp [evE, evEs, cmpX, ownEq, cmpG, opC, asD, truD, q1, callX, callB, fAbs]
    · by_cases q2 : (10 ^ 18 : Int) ≤ c
      · refine ⟨c, ?_, by omega⟩
        have fa : fAbs [.int c] h = .ok (.int c) h := by simp [fAbs, q1]
        simp only [evE, evEs, List.getElem?_cons_zero, List.getElem?_cons_succ, pe, Out.bind_ok, cmpX, ownEq, cmpG, opC, asD, truD, decide_eq_false q1, decide_eq_true q2, Option.map_some, lift_some, Bool.false_eq_true, if_false, if_true, callX, callB, fa]
      · refine ⟨0, ?_, Int.le_refl _⟩
        simp only [evE, evEs, List.getElem?_cons_zero, List.getElem?_cons_succ, pe, Out.bind_ok, cmpX, ownEq, cmpG, opC, asD, truD, decide_eq_false q1, decide_eq_false q2, Option.map_some, lift_some, Bool.false_eq_true, if_false]
  obtain ⟨y, e2, y0⟩ := e2
  refine ⟨X, y, ?_, x0', by omega, y0⟩
  rw [evE, evEs, e1, Out.bind_ok, evEs, e2]
  simp [evEs, z2, new]
theorem cup_ok (B : LawTb Tb ok) (k s : Nat) (hs : s ≤ 63) (ns : List Int) (hn : ns.length ≤ 63) (hb : ∀ c ∈ ns, big c) (h : Hea) (g : h[0]? = some (.frz (ns.map D.int))) :
    ∃ h' c, callF G Tb (k + 1) 1000 [.ref 0, .int s] h = .ok (.ref c) h' ∧ Cup h' c ∧ h.length ≤ c ∧ Ex h h' := by
  have zz : SZ = 16777216 := rfl
  have f : FUEL = 18446744073709551616 := rfl
  have g' := (List.getElem?_eq_some_iff.mp g).2
  have ln : lenD h (.ref 0) = some (ns.length : Int) := by simp [lenD, g]
  -- the loop's list
  have key : ∃ c h2, big c ∧ Ex h h2 ∧ ∃ x3, (evSs G (callF G Tb k) [.asg 2 (.ite (.cmp .lt (.var 1) (.bi .len [(.var 0)])) (.idx (.var 0) (.var 1)) (.bin .add (.bin .mul (.lit (.int (5167))) (.var 1)) (.lit (.int (90173))))), .fr (.nm 3) (.seq (.ite (.cmp .ge (.var 1) (.bi .len [(.var 0)])) (.sliH (.var 0) (.lit (.int (2)))) (.lst []))) c1000f0b] [some (.ref 0), some (.int s), none, none] h) = .ok (.nx [some (.ref 0), some (.int s), some (.int c), x3]) h2 := by
    by_cases q : s < ns.length
    · have lt : ((s : Int) < (ns.length : Int)) := by omega
      have nge : ¬ ((ns.length : Int) ≤ (s : Int)) := by omega
      have ai : idxD (.ref 0) (.int s) h = some (.int ns[s]) := by
        have := atI_nat (ns.map D.int) s (by simpa using q)
        simp [idxD, rdL, g, this]
      refine ⟨ns[s], h ++ [.lst []], hb _ (List.getElem_mem q), Kp.app _ _, none, ?_⟩
      have a1 : evS G (callF G Tb k) (.asg 2 (.ite (.cmp .lt (.var 1) (.bi .len [(.var 0)])) (.idx (.var 0) (.var 1)) (.bin .add (.bin .mul (.lit (.int (5167))) (.var 1)) (.lit (.int (90173)))))) [some (.ref 0), some (.int s), none, none] h = .ok (.nx [some (.ref 0), some (.int s), some (.int ns[s]), none]) h := by
        simp only [evS, evE, evEs, List.getElem?_cons_zero, List.getElem?_cons_succ, Out.bind_ok, callX, callB, fLen, ln, Option.map_some, lift_some, cmpX, ownEq, cmpG, opC, decide_eq_true lt, asD, truD, if_true, ai, List.set_cons_succ, List.set_cons_zero]
      have i1 : evI G (callF G Tb k) (.seq (.ite (.cmp .ge (.var 1) (.bi .len [(.var 0)])) (.sliH (.var 0) (.lit (.int (2)))) (.lst []))) [some (.ref 0), some (.int s), some (.int ns[s]), none] h = .ok (.lst h.length) (h ++ [.lst []]) := by
        have z0 : 0 ≤ SZ := Nat.zero_le _
        have gg : (h ++ [O.lst []])[h.length]? = some (.lst []) := List.getElem?_concat_length
        simp only [evI, evE, evEs, List.getElem?_cons_zero, List.getElem?_cons_succ, Out.bind_ok, callX, callB, fLen, ln, Option.map_some, lift_some, cmpX, ownEq, cmpG, opC, decide_eq_false nge, asD, truD, Bool.false_eq_true, if_false, List.length_nil, z0, if_true, new, walkD, rdL, gg]
      have lp : frGo (.nm 3) (evSs G (callF G Tb k) c1000f0b) (.lst h.length) FUEL 0 [some (.ref 0), some (.int s), some (.int ns[s]), none] (h ++ [.lst []]) = .ok (.nx [some (.ref 0), some (.int s), some (.int ns[s]), none]) (h ++ [.lst []]) := by
        have gg : (h ++ [O.lst []])[h.length]? = some (.lst []) := List.getElem?_concat_length
        obtain ⟨σ', h', e, e1, e2⟩ := frGo_inv (.nm 3) (evSs G (callF G Tb k) c1000f0b) (.lst h.length) [] (fun i σ h' => σ = [some (.ref 0), some (.int s), some (.int ns[s]), none] ∧ h' = h ++ [.lst []]) (fun i σ h' x => by rw [x.2]; simp [srcAt, rdL]) (fun i hi => by simp at hi) FUEL 0 _ _ (by simp; omega) (Nat.zero_le _) ⟨rfl, rfl⟩
        rw [e, e1, e2]
      rw [ss_nx a1]
      apply ss_one
      rw [evS, i1, Out.bind_ok, lp]
    · have nlt : ¬ ((s : Int) < (ns.length : Int)) := by omega
      have ge : ((ns.length : Int) ≤ (s : Int)) := by omega
      have p60 : (2:Nat) ^ 60 = 1152921504606846976 := by decide
      have m1 : mulOk 5167 (s : Int) = true := mulOk_l 5167 (by decide) (big_small (by omega))
      let c0 : Int := 5167 * (s : Int) + 90173
      have a1 : evS G (callF G Tb k) (.asg 2 (.ite (.cmp .lt (.var 1) (.bi .len [(.var 0)])) (.idx (.var 0) (.var 1)) (.bin .add (.bin .mul (.lit (.int (5167))) (.var 1)) (.lit (.int (90173)))))) [some (.ref 0), some (.int s), none, none] h = .ok (.nx [some (.ref 0), some (.int s), some (.int c0), none]) h := by
        simp only [evS, evE, evEs, List.getElem?_cons_zero, List.getElem?_cons_succ, Out.bind_ok, callX, callB, fLen, ln, Option.map_some, lift_some, cmpX, ownEq, cmpG, opC, decide_eq_false nlt, asD, truD, Bool.false_eq_true, if_false, opB, opMul, opAdd, m1, if_true, List.set_cons_succ, List.set_cons_zero, c0]
      let h1 : Hea := h ++ [.lst ((ns.map D.int).take 2)]
      have gg : h1[h.length]? = some (.lst ((ns.map D.int).take 2)) := List.getElem?_concat_length
      have i1 : evI G (callF G Tb k) (.seq (.ite (.cmp .ge (.var 1) (.bi .len [(.var 0)])) (.sliH (.var 0) (.lit (.int (2)))) (.lst []))) [some (.ref 0), some (.int s), some (.int c0), none] h = .ok (.lst h.length) h1 := by
        have ct := cut_take (ns.map D.int) 2
        have ct' : cutD (ns.map D.int) none (some (2 : Int)) = (ns.map D.int).take 2 := ct
        simp only [evI, evE, evEs, List.getElem?_cons_zero, List.getElem?_cons_succ, Out.bind_ok, callX, callB, fLen, ln, Option.map_some, lift_some, cmpX, ownEq, cmpG, opC, decide_eq_true ge, asD, truD, if_true, sliD, rdL, g, ct', new, walkD, show h ++ [O.lst ((ns.map D.int).take 2)] = h1 from rfl, gg]
      obtain ⟨σ', h', e, c, x3, rfl, cb, rfl⟩ := frGo_inv (.nm 3) (evSs G (callF G Tb k) c1000f0b) (.lst h.length) ((ns.map D.int).take 2) (fun i σ h' => ∃ c x3, σ = [some (.ref 0), some (.int s), some (.int c), x3] ∧ (0 ≤ c ∧ c < 1000000007) ∧ h' = h1) (fun i σ h' x => by obtain ⟨_, _, _, _, rfl⟩ := x; simp [srcAt, rdL, gg])
        (fun i hi σ h' x => by
          obtain ⟨c, x3, rfl, cb, rfl⟩ := x
          have hi2 : i < ns.length := by simp at hi; omega
          have ei : ((ns.map D.int).take 2)[i] = .int ns[i] := by simp
          have m31 : mulOk c 31 = true := mulOk_r (big_small (by omega)) 31 (by decide)
          refine ⟨[some (.ref 0), some (.int s), some (.int c), some (.int ns[i])], [some (.ref 0), some (.int s), some (.int ((c * 31 + ns[i]) % 1000000007)), some (.int ns[i])], h1, by rw [ei]; rfl, ?_, _, _, rfl, ⟨Int.emod_nonneg _ (by omega), Int.emod_lt_of_pos _ (by omega)⟩, rfl⟩
          simp [c1000f0b, evSs, evS, evE, evEs, opB, opMul, opAdd, opMod, m31, callX, callB, fInt])
        FUEL 0 [some (.ref 0), some (.int s), some (.int c0), none] h1 (by simp; omega) (Nat.zero_le _) ⟨c0, none, rfl, by simp only [c0]; omega, rfl⟩
      refine ⟨c, h1, big_small (by omega), Kp.app _ _, x3, ?_⟩
      rw [ss_nx a1]
      apply ss_one
      rw [evS, i1, Out.bind_ok, e]
  obtain ⟨c, h2, cb, x2, x3, ek⟩ := key
  obtain ⟨x, y, ee, co⟩ := cup_end (G := G) (callF G Tb k) s (by omega) c cb (some (.ref 0)) x3 h2
  refine ⟨h2 ++ [.lst [.int x, .int y]], h2.length, ?_, ⟨x, y, List.getElem?_concat_length, co⟩, x2.1, x2.trans (Kp.app _ _)⟩
  unfold callF
  simp only [B.u0, runF, c1000_w]
  rw [if_pos (by rfl), show Mi.begin ⟨4, 2, _⟩ [D.ref 0, D.int s] = [some (.ref 0), some (.int s), none, none] from rfl]
  have seq3 : ∀ (a b c : CS) (σ σ1 : Loc) (h h1 : Hea), evSs G (callF G Tb k) [a, b] σ h = .ok (.nx σ1) h1 → evSs G (callF G Tb k) [a, b, c] σ h = evSs G (callF G Tb k) [c] σ1 h1 := by
    intro a b c σ σ1 h h1 e
    simp only [evSs] at e ⊢
    cases ea : evS G (callF G Tb k) a σ h with
    | no => rw [ea] at e; simp at e
    | ex x h => rw [ea] at e; simp at e
    | ok fl h5 =>
      rw [ea] at e
      cases fl with
      | nx σ5 =>
        simp only [Out.bind_ok] at e ⊢
        cases eb : evS G (callF G Tb k) b σ5 h5 with
        | no => rw [eb] at e; simp at e
        | ex x h => rw [eb] at e; simp at e
        | ok fl2 h6 =>
          rw [eb] at e
          cases fl2 with
          | nx σ6 =>
            simp only [Out.bind_ok, Out.ok.injEq, Fl.nx.injEq] at e ⊢
            rw [e.1, e.2]
          | rt d => simp at e
          | bk d => simp at e
          | ct d => simp at e
      | rt d => simp at e
      | bk d => simp at e
      | ct d => simp at e
  rw [seq3 _ _ _ _ _ _ _ ek, ss_rt (d := .ref h2.length) (h1 := h2 ++ [.lst [.int x, .int y]]) (by rw [evS, ee]; rfl)]
  rfl
end
def T0 : Tr := .stp 1 (.cons 1 (.fin (-5)) (.cons 1 (.stp 3 (.cons 1 (.fin 0) (.cons 1 (.fin 20) .nil))) .nil))
def T1 : Tr := .stp 3 (.cons 1 (.fin 0) (.cons 1 (.fin 20) .nil))
theorem T0_lit : lit T0 := by simp [T0, lit, lits, small, Trs.len]
theorem T0_siz : siz T0 ≤ 15 := by decide
theorem T1_lit : lit T1 := by simp [T1, lit, lits, small, Trs.len]
theorem T0_txt : txt T0 = ("1[1:-5 1:3[1:0 1:20]]" : Str) := by decide +kernel
theorem T1_txt : txt T1 = ("3[1:0 1:20]" : Str) := by decide +kernel
theorem T0_pths : pthsD T0 = .tup [.tup [], .tup [.int 0], .tup [.int 1], .tup [.int 1, .int 0], .tup [.int 1, .int 1]] := by rfl
section
variable {G : GE} {Tb : Nat → Option FC} {ok : Nat → Nat → Bool}
theorem law_ok (B : LawTb Tb ok) (C0 : RdG G) (C1 : OfG G) (ns : List Int) (hn : ns.length ≤ 63) (hb : ∀ c ∈ ns, big c) : ∃ h', callF G Tb 100 1008 [.ref 0] [.frz (ns.map D.int)] = .ok (.bl true) h' := by
  have zz : SZ = 16777216 := rfl
  have f : FUEL = 18446744073709551616 := rfl
  have z2 : 2 ≤ SZ := by decide
  have z3 : 3 ≤ SZ := by decide
  have z5 : 5 ≤ SZ := by decide
  have z1 : 1 ≤ SZ := by decide
  have z0 : 0 ≤ SZ := by decide
  let h : Hea := [.frz (ns.map D.int)]
  have g : h[0]? = some (.frz (ns.map D.int)) := rfl
  -- the known offer
  obtain ⟨h1, o, e1, oo, _, y1⟩ := read_e (G := G) B C0 C1 39 T0 T0_lit T0_siz (.lit (.str ("1[1:-5 1:3[1:0 1:20]]" : Str))) [some (.ref 0), none, none] h h (by rw [T0_txt]; simp [evE])
  have a1 := asg_e (G := G) _ _ _ 1 _ _ _ e1
  let σ1 : Loc := [some (.ref 0), some (.ref o), none]
  have v1 : ∀ h, evE G (callF G Tb 99) (.var 1) σ1 h = .ok (.ref o) h := fun h => var_v _ _ _ _ _ rfl
  have t1 := fld_tree (G := G) B.toOfTb C1 98 o T0 (.var 1) σ1 h1 h1 (v1 h1) oo
  have t2 : evE G (callF G Tb 99) (.tup [(.lit (.str ("step" : Str))), (.lit (.int (1))), (.tup [(.tup [(.lit (.int (1))), (.tup [(.lit (.str ("end" : Str))), (.neg (.lit (.int (5))))])]), (.tup [(.lit (.int (1))), (.tup [(.lit (.str ("step" : Str))), (.lit (.int (3))), (.tup [(.tup [(.lit (.int (1))), (.tup [(.lit (.str ("end" : Str))), (.lit (.int (0)))])]), (.tup [(.lit (.int (1))), (.tup [(.lit (.str ("end" : Str))), (.lit (.int (20)))])])])])])])]) σ1 h1 = .ok (enc T0) h1 := by
    simp [evE, evEs, z2, z3, T0, enc, encs]
  have d0 : dep T0 ≤ 20 := by decide
  have q1 := cmp_v _ _ .ne _ _ _ _ _ _ _ _ _ t1 t2 (cx_ne (G := G) _ _ _ _ (ins_enc _ _) (eqD_enc _ _ d0))
  have a2 := test_no _ _ _ [.ret (.lit (.bl false))] _ _ q1
  have p1 := fld_paths (G := G) B.toOfTb C1 98 o T0 (.var 1) σ1 h1 h1 (v1 h1) oo
  have p2 : evE G (callF G Tb 99) (.tup [(.tup []), (.tup [(.lit (.int (0)))]), (.tup [(.lit (.int (1)))]), (.tup [(.lit (.int (1))), (.lit (.int (0)))]), (.tup [(.lit (.int (1))), (.lit (.int (1)))])]) σ1 h1 = .ok (pthsD T0) h1 := by
    rw [T0_pths]
    simp [evE, evEs, z0, z1, z2, z5]
  have q2 := cmp_v _ _ .ne _ _ _ _ _ _ _ _ _ p1 p2 (cx_ne (G := G) _ _ _ _ (by simp [insAt, pthsD]) (by rw [pths_pts]; exact eqD_pts _ _))
  obtain ⟨h2, e2, o2, y2⟩ := at_ok (G := G) B.toOfTb C1 78 o T0 T1 [1] (by rfl) (by decide) T0_lit T0_siz h1 oo
  have e2' : callF G Tb 99 27 [.ref o, .tup [.int 1]] h1 = .ok (.ref h1.length) h2 := e2
  have m1 : evE G (callF G Tb 99) (.meth (.var 1) ("at" : Str) [(.tup [(.lit (.int (1)))])] [.inl 0, .inl 1]) σ1 h1 = .ok (.ref h1.length) h2 := by
    have go := oo
    unfold Off at go
    simp [evE, evEs, σ1, insAt, go, C1.m2, offF, lookF, n_rt, n_wt, n_at, n_st, shape, z1, e2']
  have t3 := fld_text (G := G) B.toOfTb C1 98 h1.length T1 _ σ1 h1 h2 m1 o2
  have t4 : evE G (callF G Tb 99) (.lit (.str ("3[1:0 1:20]" : Str))) σ1 h2 = .ok (.str (txt T1)) h2 := by rw [T1_txt]; simp [evE]
  have sx := asc_ok (txt_asc T1 T1_lit)
  have q3 := cmp_v _ _ .ne _ _ _ _ _ _ _ _ _ t3 t4 (cx_ne (G := G) _ _ _ _ (by simp [insAt]) (by rw [eqD_str _ _ _ sx sx]; simp))
  have a3 := test_no _ _ _ [.ret (.lit (.bl false))] _ _ (or_no _ _ _ _ _ _ _ q2 q3)
  -- all of them
  have g2 : h2[0]? = some (.frz (ns.map D.int)) := Ex.get (y1.trans y2) g
  obtain ⟨m, hm, em⟩ : ∃ m : Nat, m ≤ 6 ∧ evEs G (callF G Tb 99) [(.bi .max [(.lit (.int (2))), (.bi .min [(.bi .len [(.var 0)]), (.lit (.int (6)))])])] σ1 h2 = .ok [.int (m : Int)] h2 := by
    have ln : lenD h2 (.ref 0) = some (ns.length : Int) := by simp [lenD, g2]
    have e0 : evE G (callF G Tb 99) (.bi .len [(.var 0)]) σ1 h2 = .ok (.int (ns.length : Int)) h2 := by
      simp only [evE, evEs, σ1, List.getElem?_cons_zero, Out.bind_ok, callX, callB, fLen, ln, Option.map_some, lift_some]
    generalize CE.bi .len [(.var 0)] = M at e0 ⊢
    refine ⟨max 2 (min ns.length 6), by omega, ?_⟩
    have ex : evE G (callF G Tb 99) (.bi .min [M, (.lit (.int (6)))]) σ1 h2 = .ok (.int ((min ns.length 6 : Nat) : Int)) h2 := by
      simp only [evE, evEs, e0, Out.bind_ok, callX, callB, fMin]
      by_cases q : (6 : Int) < (ns.length : Int)
      · rw [if_pos q]
        congr 2
        omega
      · rw [if_neg q]
        congr 2
        omega
    generalize CE.bi .min [M, (.lit (.int (6)))] = M2 at ex ⊢
    simp only [evE, evEs, ex, Out.bind_ok, callX, callB, fMax]
    by_cases q : ((min ns.length 6 : Nat) : Int) > 2
    · rw [if_pos q]
      congr 3
      omega
    · rw [if_neg q]
      congr 3
      omega
  have rl : (rngD 0 m 1).length = m := by simp [rngD]
  obtain ⟨acc, h3, el, b1, b2⟩ := lcGo_inv1 (.nm 2) (evE G (callF G Tb 99) c1008l0e) (.fix (rngD 0 m 1)) [some (.ref 0), some (.ref o), none] (rngD 0 m 1) (fun i acc h' => acc = List.replicate i (.bl true) ∧ h'[0]? = some (.frz (ns.map D.int))) (fun _ _ _ _ => rfl)
    (fun i hi acc h' x => by
      obtain ⟨xa, gx⟩ := x
      rw [rl] at hi
      have er : (rngD 0 m 1)[i]'(by rw [rl]; exact hi) = .int i := by simp [rngD]
      obtain ⟨h4, c, ec, cc, lc, y4⟩ := cup_ok (G := G) B 98 i (by omega) ns hn hb h' gx
      obtain ⟨h5, e5, k5⟩ := right_ok (G := G) B C0 C1 38 c h4 cc
      have ec' : callF G Tb 99 1000 [.ref 0, .int (i : Int)] h' = .ok (.ref c) h4 := ec
      have e5' : callF G Tb 99 1007 [.ref c] h4 = .ok (.bl true) h5 := e5
      have l0 := lt_of_get gx
      refine ⟨[some (.ref 0), some (.ref o), some (.int i)], .bl true, h5, by rw [er]; rfl, ?_, ?_, by rw [xa, List.replicate_succ'], Kp.get k5.1 (Ex.get y4 gx) (by omega)⟩
      · simp [c1008l0e, evE, evEs, shape, ec', e5']
      · rw [xa, List.length_replicate]; omega)
    h2 (by rw [rl]; omega) ⟨rfl, g2⟩
  rw [rl] at b1
  subst b1
  have lcv : evE G (callF G Tb 99) (.lc [2] (.nm 2) (.rng [(.bi .max [(.lit (.int (2))), (.bi .min [(.bi .len [(.var 0)]), (.lit (.int (6)))])])]) (.lit (.bl true)) c1008l0e) σ1 h2 = .ok (.ref h3.length) (h3 ++ [.lst (List.replicate m (.bl true))]) := by
    rw [evE, evI_rng1 _ m (small_R (by omega) (by omega)) h2 h2 _ _ em, Out.bind_ok]
    simp only [evE, wipeL, σ1, List.set_cons_succ, List.set_cons_zero]
    rw [el]
    rfl
  have a4 : evS G (callF G Tb 99) (.ret (.bi .all [(.lc [2] (.nm 2) (.rng [(.bi .max [(.lit (.int (2))), (.bi .min [(.bi .len [(.var 0)]), (.lit (.int (6)))])])]) (.lit (.bl true)) c1008l0e)])) σ1 h2 = .ok (.rt (.bl true)) (h3 ++ [.lst (List.replicate m (.bl true))]) := by
    have gg : (h3 ++ [O.lst (List.replicate m (.bl true))])[h3.length]? = some (.lst (List.replicate m (.bl true))) := List.getElem?_concat_length
    generalize CE.lc [2] (.nm 2) (.rng [(.bi .max [(.lit (.int (2))), (.bi .min [(.bi .len [(.var 0)]), (.lit (.int (6)))])])]) (.lit (.bl true)) c1008l0e = L at lcv ⊢
    have al : (List.replicate m true).all id = true := by simp
    simp only [evS, evE, evEs, lcv, Out.bind_ok, callX, callB, fAll, listD, rdL, gg, Option.bind_some, bls_true, Option.map_some, lift_some, al]
  refine ⟨h3 ++ [.lst (List.replicate m (.bl true))], ?_⟩
  show callF G Tb (99 + 1) 1008 _ h = _
  unfold callF
  simp only [B.u8, runF, c1008_w]
  rw [if_pos (by rfl), show Mi.begin ⟨3, 1, _⟩ [D.ref 0] = [some (.ref 0), none, none] from rfl]
  have a1' : evS G (callF G Tb 99) (.asg 1 (.callk 21 [(.lit (.str ("1[1:-5 1:3[1:0 1:20]]" : Str)))] [.inl 0])) [some (.ref 0), none, none] h = .ok (.nx σ1) h1 := a1
  rw [ss_nx a1', ss_nx a2, ss_nx a3, ss_rt a4]
  rfl
end
end Mi.k02
end

section
set_option linter.all false
set_option maxRecDepth 100000
set_option maxHeartbeats 0
/-! Fk02: the tables of the law; the end. -/
namespace Mi.k02
open PySem Mi.P
abbrev okV : Nat → Nat → Bool := fun n f => T.vok.contains (f, n)
abbrev TbK : Nat → Option FC := fun f => t.fcs.lookup f
theorem tb1 : TbK 1 = some ⟨3, 3, c1⟩ := by rw [← e1]; rfl
theorem tb2 : TbK 2 = some ⟨1, 1, c2⟩ := by rw [← e2]; rfl
theorem tb3 : TbK 3 = some ⟨1, 1, c3⟩ := by rw [← e3]; rfl
theorem tb4 : TbK 4 = some ⟨1, 1, c4⟩ := by rw [← e4]; rfl
theorem tb5 : TbK 5 = some ⟨2, 1, c5⟩ := by rw [← e5]; rfl
theorem tb6 : TbK 6 = some ⟨2, 2, (c6 okV)⟩ := by rw [← e6]; rfl
theorem tb7 : TbK 7 = some ⟨6, 2, c7⟩ := by rw [← e7]; rfl
theorem tb8 : TbK 8 = some ⟨7, 1, c8⟩ := by rw [← e8]; rfl
theorem tb9 : TbK 9 = some ⟨3, 1, c9⟩ := by rw [← e9]; rfl
theorem tb10 : TbK 10 = some ⟨3, 2, c10⟩ := by rw [← e10]; rfl
theorem tb11 : TbK 11 = some ⟨3, 2, c11⟩ := by rw [← e11]; rfl
theorem tb12 : TbK 12 = some ⟨3, 1, c12⟩ := by rw [← e12]; rfl
theorem tb13 : TbK 13 = some ⟨2, 2, c13⟩ := by rw [← e13]; rfl
theorem tb14 : TbK 14 = some ⟨1, 1, c14⟩ := by rw [← e14]; rfl
theorem tb15 : TbK 15 = some ⟨3, 1, c15⟩ := by rw [← e15]; rfl
theorem tb16 : TbK 16 = some ⟨2, 2, c16⟩ := by rw [← e16]; rfl
theorem tb17 : TbK 17 = some ⟨3, 1, c17⟩ := by rw [← e17]; rfl
theorem tb18 : TbK 18 = some ⟨4, 1, c18⟩ := by rw [← e18]; rfl
theorem tb19 : TbK 19 = some ⟨3, 1, c19⟩ := by rw [← e19]; rfl
theorem tb20 : TbK 20 = some ⟨4, 2, c20⟩ := by rw [← e20]; rfl
theorem tb21 : TbK 21 = some ⟨2, 1, c21⟩ := by rw [← e21]; rfl
theorem tb22 : TbK 22 = some ⟨1, 1, c22⟩ := by rw [← e22]; rfl
theorem tb23 : TbK 23 = some ⟨1, 1, c23⟩ := by rw [← e23]; rfl
theorem tb24 : TbK 24 = some ⟨1, 1, c24⟩ := by rw [← e24]; rfl
theorem tb25 : TbK 25 = some ⟨1, 1, c25⟩ := by rw [← e25]; rfl
theorem tb26 : TbK 26 = some ⟨2, 2, c26⟩ := by rw [← e26]; rfl
theorem tb27 : TbK 27 = some ⟨2, 2, c27⟩ := by rw [← e27]; rfl
theorem tb30 : TbK 30 = some ⟨2, 2, c30⟩ := by rw [← e30]; rfl
theorem tb31 : TbK 31 = some ⟨1, 1, c31⟩ := by rw [← e31]; rfl
theorem tb1000 : TbK 1000 = some ⟨4, 2, c1000⟩ := by rw [← e1000]; rfl
theorem tb1001 : TbK 1001 = some ⟨3, 2, c1001⟩ := by rw [← e1001]; rfl
theorem tb1002 : TbK 1002 = some ⟨2, 2, c1002⟩ := by rw [← e1002]; rfl
theorem tb1003 : TbK 1003 = some ⟨7, 2, c1003⟩ := by rw [← e1003]; rfl
theorem tb1004 : TbK 1004 = some ⟨8, 1, c1004⟩ := by rw [← e1004]; rfl
theorem tb1005 : TbK 1005 = some ⟨6, 1, c1005⟩ := by rw [← e1005]; rfl
theorem tb1006 : TbK 1006 = some ⟨8, 1, c1006⟩ := by rw [← e1006]; rfl
theorem tb1007 : TbK 1007 = some ⟨11, 1, c1007⟩ := by rw [← e1007]; rfl
theorem tb1008 : TbK 1008 = some ⟨3, 1, c1008⟩ := by rw [← e1008]; rfl
theorem lawTb : LawTb TbK okV := {
  t1 := tb1
  t2 := tb2
  t3 := tb3
  t4 := tb4
  t5 := tb5
  t6 := tb6
  t7 := tb7
  t8 := tb8
  t9 := tb9
  t10 := tb10
  t11 := tb11
  t12 := tb12
  o1 := by rfl
  t20 := tb20
  t22 := tb22
  t23 := tb23
  t24 := tb24
  t25 := tb25
  t26 := tb26
  t27 := tb27
  t30 := tb30
  t31 := tb31
  t13 := tb13
  t14 := tb14
  t15 := tb15
  t16 := tb16
  t17 := tb17
  t18 := tb18
  t19 := tb19
  t21 := tb21
  u0 := tb1000
  u1 := tb1001
  u2 := tb1002
  u3 := tb1003
  u4 := tb1004
  u5 := tb1005
  u6 := tb1006
  u7 := tb1007
  u8 := tb1008
}
theorem offG : OfG t.ge := {
  ini := by first | rfl | kernel_rfl | decide +kernel
  p1 := by first | rfl | kernel_rfl | decide +kernel
  p2 := by first | rfl | kernel_rfl | decide +kernel
  p3 := by first | rfl | kernel_rfl | decide +kernel
  p4 := by first | rfl | kernel_rfl | decide +kernel
  q1 := by first | rfl | kernel_rfl | decide +kernel
  q2 := by first | rfl | kernel_rfl | decide +kernel
  q3 := by first | rfl | kernel_rfl | decide +kernel
  q4 := by first | rfl | kernel_rfl | decide +kernel
  a1 := by first | rfl | kernel_rfl | decide +kernel
  a2 := by first | rfl | kernel_rfl | decide +kernel
  a3 := by first | rfl | kernel_rfl | decide +kernel
  a4 := by first | rfl | kernel_rfl | decide +kernel
  m1 := by first | rfl | kernel_rfl | decide +kernel
  m2 := by first | rfl | kernel_rfl | decide +kernel
  m3 := by first | rfl | kernel_rfl | decide +kernel
  m4 := by first | rfl | kernel_rfl | decide +kernel
  s1 := by first | rfl | kernel_rfl | decide +kernel
  y1 := by first | rfl | kernel_rfl | decide +kernel
  y2 := by first | rfl | kernel_rfl | decide +kernel
  c1 := by first | rfl | kernel_rfl | decide +kernel
}
theorem rdG : RdG t.ge := {
  ini := by first | rfl | kernel_rfl | decide +kernel
  a1 := by first | rfl | kernel_rfl | decide +kernel
  a2 := by first | rfl | kernel_rfl | decide +kernel
  a3 := by first | rfl | kernel_rfl | decide +kernel
  q1 := by first | rfl | kernel_rfl | decide +kernel
  q2 := by first | rfl | kernel_rfl | decide +kernel
  q3 := by first | rfl | kernel_rfl | decide +kernel
  m1 := by first | rfl | kernel_rfl | decide +kernel
  m2 := by first | rfl | kernel_rfl | decide +kernel
  m3 := by first | rfl | kernel_rfl | decide +kernel
  m4 := by first | rfl | kernel_rfl | decide +kernel
  m5 := by first | rfl | kernel_rfl | decide +kernel
}
theorem bits_big {c : Int} (h : Builtin.Int.intBits c ≤ 1048576) : big c := by
  unfold Builtin.Int.intBits at h
  unfold big
  by_cases e : c = 0
  · subst e; decide
  · have : (c == 0) = false := by simpa using e
    rw [this] at h
    simp at h
    omega
theorem main (ns : List Int) (hn : ns.length ≤ 63) (hb : ∀ k ∈ ns, Builtin.Int.intBits k ≤ 1048576) : ∃ h', callF t.ge (fun f => t.fcs.lookup f) 100 1008 [.ref 0] [.frz (ns.map D.int)] = .ok (.bl true) h' :=
  law_ok (G := t.ge) (Tb := TbK) (ok := okV) lawTb rdG offG ns hn fun c hc => bits_big (hb c hc)
end Mi.k02
theorem PySem.Challenge.cw_lookcosts_k02_whole_offers_and_their_tex_holds : PySem.Challenge.rw_lookcosts_k02_whole_offers_and_their_tex.Holds :=
  Mi.k02.holds Mi.k02.main
end
