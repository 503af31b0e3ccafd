import PyProof.Rows.All
import Wide.All
import OpenK.AllK
import Wide.FinOn
import HandS.ForMost
import HandS.TupAny
import HandS.TupMul
import HandS.Style
import HandS.Deep
import HandS.TupLe
import HandS.WideBits
import HandS.IsInst
import HandS.Zip
import HandS.Exc
import KE.GoesZip
import KE.GoesMore
import HandS.Iter
import HandS.Words
import KE.KDictPairs
import HandS.Small
import HandS.Strs
import HandS.SortRule
import HandS.Set
import HandS.SetFor
import PyProof.Rows.SortShellAny
import HandS.DictComp
import HandS.ListItems
import PyProof.Rows.IntBool
import HandS.NoneIn
import KE.KDictZip
import KE.LtData
import KE.DataFind
import KE.DataMinMax
import HandS.MakeKwOnly
import HandS.WordsExc
import HandS.TryOnly
import HandS.ExcInit
import HandS.ExcField
import PySem.Challenge.RW_marksure_k14_written_cases
import HandS.EndBits
set_option Elab.async false
set_option linter.all false
set_option maxRecDepth 100000
set_option autoImplicit false
/-! MiCore: plain data, what a body computes on it (mirrors), without any heap. -/
namespace Mi
open PySem L2

/-- data as it is seen: frozen values, a cell of the store, the script -/
inductive D where
  | non | bl (b : Bool) | int (i : Int) | str (s : Str)
  | tup (xs : List D) | tpl (xs : List D) | lst (xs : List D) | cel (n : Nat) | rol (ns : List Int) | dic (kv : List (Key × D))
/-- what an expression gives: data, a slot's own list or dict, a list or dict just made -/
inductive W where
  | d (x : D) | ol (xs : List D) | fr (xs : List D)
  | od (lk : Bool) (kv : List (Key × D)) | fd (kv : List (Key × D))
inductive Cell where
  | lst (xs : List D) | dct (lk : Bool) (kv : List (Key × D)) | ins (fs : List (Str × D)) | dtt (kv : List (List Key × D))
abbrev En := List (Option W)
abbrev Sto := List Cell
abbrev G := En → Sto → Option (W × Sto)
abbrev GA := En → Sto → Option (List W × Sto)
abbrev GT := En → Sto → Option (Bool × Sto)
structure Exn where
  cls : Str
  fs : Option (Str × D)
inductive Out where
  | nx (δ : En) (M : Sto) | rt (w : W) (M : Sto) | bk (δ : En) (M : Sto) | ct (δ : En) (M : Sto) | rs (x : Exn) (M : Sto)
abbrev GS := En → Sto → Option Out
abbrev Fn := List D → Sto → Option (W × Sto)

/-- frozen -/
def frz : W → Option D
  | .d x => some x
  | .fr xs => some (.lst xs)
  | _ => none
def frzs : List W → Option (List D)
  | [] => some []
  | w :: r => (frz w).bind fun x => (frzs r).bind fun xs => some (x :: xs)

/-! ### expressions -/
def gVar (i : Nat) : G := fun δ M => match δ[i]? with
  | some (some w) => some (w, M)
  | _ => none
def gC (x : D) : G := fun _ M => some (.d x, M)
def gBin (op : W → W → Sto → Option W) (a b : G) : G := fun δ M => (a δ M).bind fun p => (b δ p.2).bind fun q => (op p.1 q.1 q.2).map fun z => (z, q.2)
def gUn (op : W → Sto → Option W) (a : G) : G := fun δ M => (a δ M).bind fun p => (op p.1 p.2).map fun z => (z, p.2)
def aNil : GA := fun _ M => some ([], M)
def aCons (a : G) (r : GA) : GA := fun δ M => (a δ M).bind fun p => (r δ p.2).bind fun q => some (p.1 :: q.1, q.2)
def gBlt (op : List W → Sto → Option W) (as : GA) : G := fun δ M => (as δ M).bind fun p => (op p.1 p.2).map fun z => (z, p.2)
def gMt (op : W → List W → Sto → Option W) (o : G) (as : GA) : G := fun δ M => (o δ M).bind fun p => (as δ p.2).bind fun q => (op p.1 q.1 q.2).map fun z => (z, q.2)
def gCall (f : Fn) (as : GA) : G := fun δ M => (as δ M).bind fun p => (frzs p.1).bind fun ds => f ds p.2
abbrev SZ : Nat := 100000
def opTup (ws : List W) (_ : Sto) : Option W := if ws.length ≤ SZ then (frzs ws).map fun xs => .d (.tup xs) else none
def opLst (ws : List W) (_ : Sto) : Option W := if ws.length ≤ SZ then (frzs ws).map fun xs => .fr xs else none
def gTup (as : GA) : G := gBlt opTup as
def gLst (as : GA) : G := gBlt opLst as
/-- tests -/
def tV (a : G) : GT := fun δ M => match a δ M with
  | some (.d (.bl b), M') => some (b, M')
  | _ => none
def tAnd (a b : GT) : GT := fun δ M => (a δ M).bind fun p => if p.1 = true then b δ p.2 else some (false, p.2)
def tOr (a b : GT) : GT := fun δ M => (a δ M).bind fun p => if p.1 = true then some (true, p.2) else b δ p.2
def tNot (a : GT) : GT := fun δ M => (a δ M).map fun p => (!p.1, p.2)
def gIf (c : GT) (a b : G) : G := fun δ M => (c δ M).bind fun p => if p.1 = true then a δ p.2 else b δ p.2
/-- and, or, not as values (of truths) -/
def gAnd (a b : G) : G := fun δ M => (tV a δ M).bind fun p => if p.1 = true then b δ p.2 else some (.d (.bl false), p.2)
def gOr (a b : G) : G := fun δ M => (tV a δ M).bind fun p => if p.1 = true then some (.d (.bl true), p.2) else b δ p.2
def gNot (a : G) : G := fun δ M => (tV a δ M).map fun p => (.d (.bl (!p.1)), p.2)
/-- a op b op' c -/
def gChain (op op' : W → W → Sto → Option W) (a b c : G) : G := fun δ M => (a δ M).bind fun p => (b δ p.2).bind fun q => match op p.1 q.1 q.2 with
  | some (.d (.bl true)) => (c δ q.2).bind fun r => (op' q.1 r.1 r.2).map fun z => (z, r.2)
  | some (.d (.bl false)) => some (.d (.bl false), q.2)
  | _ => none

/-! ### views -/
def vL (M : Sto) : W → Option (List D)
  | .d (.lst xs) => some xs
  | .ol xs => some xs
  | .fr xs => some xs
  | .d (.cel n) => match M[n]? with
    | some (.lst xs) => some xs
    | _ => none
  | _ => none
def vT : W → Option (List D)
  | .d (.tup xs) => some xs
  | .d (.tpl xs) => some xs
  | _ => none
def vS (M : Sto) (w : W) : Option (List D) := match vT w with
  | some xs => some xs
  | none => vL M w
def vK (M : Sto) : W → Option (List (Key × D))
  | .od _ kv => some kv
  | .fd kv => some kv
  | .d (.dic kv) => some kv
  | .d (.cel n) => match M[n]? with
    | some (.dct _ kv) => some kv
    | _ => none
  | _ => none
/-- a list's content as one datum -/
def whole (M : Sto) (w : W) : Option D := match vL M w with
  | some xs => some (.lst xs)
  | none => match w with
    | .d (.cel _) => none
    | .d (.rol _) => none
    | .d x => some x
    | _ => none

/-! ### equality -/
mutual
def D.py : D → PyData
  | .non => .none
  | .bl b => .bool b
  | .int i => .int i
  | .str s => .str s
  | .tup xs => .tuple (pys xs)
  | .tpl xs => .tuple (pys xs)
  | .lst xs => .list (pys xs)
  | .cel _ => .none
  | .rol _ => .none
  | .dic _ => .none
def pys : List D → List PyData
  | [] => []
  | x :: r => x.py :: pys r
end
mutual
/-- no cell within, texts of signs, at most so deep -/
def D.ok : Nat → D → Bool
  | _, .non => true
  | _, .bl _ => true
  | _, .int _ => true
  | _, .str s => s.cps.all (· < 0x110000)
  | 0, .tup _ => false
  | 0, .tpl _ => false
  | 0, .lst _ => false
  | n + 1, .tup xs => oks n xs
  | n + 1, .tpl xs => oks n xs
  | n + 1, .lst xs => oks n xs
  | _, .cel _ => false
  | _, .rol _ => false
  | _, .dic _ => false
def oks : Nat → List D → Bool
  | _, [] => true
  | n, x :: r => x.ok n && oks n r
end
mutual
def deq : D → D → Bool
  | .non, .non => true
  | .bl a, .bl b => a == b
  | .bl a, .int j => (if a then 1 else 0) == j
  | .int i, .bl b => i == (if b then 1 else 0)
  | .int i, .int j => i == j
  | .str x, .str y => x == y
  | .lst xs, .lst ys => deqs xs ys
  | .tup xs, .tup ys => deqs xs ys
  | .tup xs, .tpl ys => deqs xs ys
  | .tpl xs, .tup ys => deqs xs ys
  | .tpl xs, .tpl ys => deqs xs ys
  | _, _ => false
def deqs : List D → List D → Bool
  | [], [] => true
  | x :: xs, y :: ys => deq x y && deqs xs ys
  | _, _ => false
end
/-- none, truths, numbers, texts -/
def D.flat : D → Bool
  | .non => true
  | .bl _ => true
  | .int _ => true
  | .str _ => true
  | _ => false
/-- what == tells, where it is known -/
def eqD (x y : D) : Option Bool := match x, y with
  | .str a, .str b => some (a == b)
  | .int a, .int b => some (a == b)
  | .bl a, .bl b => some (a == b)
  | x, y => if x.ok 60 && y.ok 60 then some (deq x y) else none
def eqW (a b : W) (M : Sto) : Option W := (whole M a).bind fun x => (whole M b).bind fun y => (eqD x y).map fun r => .d (.bl r)
def neW (a b : W) (M : Sto) : Option W := (whole M a).bind fun x => (whole M b).bind fun y => (eqD x y).map fun r => .d (.bl !r)

/-! ### numbers -/
def BIG : Nat := 2 ^ 4000
def addW (a b : W) (M : Sto) : Option W := match a, b with
  | .d (.int i), .d (.int j) => some (.d (.int (i + j)))
  | .d (.str x), .d (.str y) => if x.length + y.length ≤ SZ then some (.d (.str (x ++ y))) else none
  | a, b => match vT a, vT b with
    | some xs, some ys => if xs.length + ys.length ≤ SZ then some (.d (.tup (xs ++ ys))) else none
    | _, _ => match vL M a, vL M b with
      | some xs, some ys => if xs.length + ys.length ≤ SZ then some (.fr (xs ++ ys)) else none
      | _, _ => none
def subW (a b : W) (_ : Sto) : Option W := match a, b with
  | .d (.int i), .d (.int j) => some (.d (.int (i - j)))
  | _, _ => none
def mulW (a b : W) (_ : Sto) : Option W := match a, b with
  | .d (.int i), .d (.int j) => if i.natAbs < BIG ∧ j.natAbs < BIG then some (.d (.int (i * j))) else none
  | .d (.tup xs), .d (.int k) => if xs ≠ [] ∧ 2 ≤ k ∧ k ≤ 1000 ∧ xs.length ≤ 1000 then some (.d (.tup (List.replicate k.toNat xs).flatten)) else none
  | _, _ => none
def fdvW (a b : W) (_ : Sto) : Option W := match a, b with
  | .d (.int i), .d (.int j) => if 0 < j ∧ j.natAbs < BIG then some (.d (.int (i / j))) else none
  | _, _ => none
def modW (a b : W) (_ : Sto) : Option W := match a, b with
  | .d (.int i), .d (.int j) => if 0 < j then some (.d (.int (i % j))) else none
  | _, _ => none
def powW (a b : W) (_ : Sto) : Option W := match a, b with
  | .d (.int i), .d (.int j) => if 0 ≤ j ∧ j ≤ 1000 ∧ 0 ≤ i ∧ i ≤ 10 then some (.d (.int (i ^ j.toNat))) else none
  | _, _ => none
def negW (a : W) (_ : Sto) : Option W := match a with
  | .d (.int i) => some (.d (.int (-i)))
  | _ => none
/-! ### order -/
def strLt (x y : Str) : Bool := decide (x.cps.toList < y.cps.toList)
mutual
def dlt : D → D → Option Bool
  | .int i, .int j => some (decide (i < j))
  | .str x, .str y => some (strLt x y)
  | .tup xs, .tup ys => dlts xs ys
  | _, _ => none
def dlts : List D → List D → Option Bool
  | [], [] => some false
  | [], _ :: _ => some true
  | _ :: _, [] => some false
  | x :: xs, y :: ys => (eqD x y).bind fun e => if e = true then dlts xs ys else dlt x y
end
def ltW (a b : W) (_ : Sto) : Option W := match a, b with
  | .d x, .d y => (dlt x y).map fun r => .d (.bl r)
  | _, _ => none
def cmpI (p : Int → Int → Bool) (a b : W) (_ : Sto) : Option W := match a, b with
  | .d (.int i), .d (.int j) => some (.d (.bl (p i j)))
  | _, _ => none
def leW := cmpI fun i j => decide (i ≤ j)
def gtW := cmpI fun i j => decide (j < i)
def geW := cmpI fun i j => decide (j ≤ i)
def isNonW (a b : W) (_ : Sto) : Option W := match b with
  | .d .non => match a with
    | .d .non => some (.d (.bl true))
    | .d (.cel _) => some (.d (.bl false))
    | .d _ => some (.d (.bl false))
    | _ => some (.d (.bl false))
  | .d (.bl y) => match a with
    | .d (.bl x) => some (.d (.bl (x == y)))
    | _ => none
  | _ => none
def isNotW (a b : W) (M : Sto) : Option W := match isNonW a b M with
  | some (.d (.bl r)) => some (.d (.bl (!r)))
  | _ => none

/-! ### calls of built-in things -/
def lenOf (M : Sto) : W → Option Nat
  | .d (.str s) => if s.length ≤ SZ then some s.length else none
  | .d (.rol ns) => some ns.length
  | w => match vS M w with
    | some xs => some xs.length
    | none => (vK M w).map List.length
def lenW (ws : List W) (M : Sto) : Option W := match ws with
  | [w] => (lenOf M w).map fun (n : Nat) => .d (.int (n : Int))
  | _ => none
def absW (ws : List W) (_ : Sto) : Option W := match ws with
  | [.d (.int i)] => some (.d (.int (if i < 0 then -i else i)))
  | _ => none
def dInts : List D → Option (List Int)
  | [] => some []
  | .int i :: r => (dInts r).map fun l => i :: l
  | _ :: _ => none
def dBools : List D → Option (List Bool)
  | [] => some []
  | .bl i :: r => (dBools r).map fun l => i :: l
  | _ :: _ => none
def dStrs : List D → Option (List Str)
  | [] => some []
  | .str i :: r => (dStrs r).map fun l => i :: l
  | _ :: _ => none
def maxI : List Int → Int
  | [] => 0
  | x :: r => r.foldl (fun a b => if b > a then b else a) x
def minW (ws : List W) (_ : Sto) : Option W := match ws with
  | [.d (.int i), .d (.int j)] => some (.d (.int (if j < i then j else i)))
  | _ => none
def maxW (ws : List W) (M : Sto) : Option W := match ws with
  | [.d (.int i), .d (.int j)] => some (.d (.int (if j > i then j else i)))
  | [w] => (vL M w).bind fun xs => (dInts xs).bind fun ns => if ns = [] then none else some (.d (.int (maxI ns)))
  | _ => none
def sumW (ws : List W) (M : Sto) : Option W := match ws with
  | [w] => (vL M w).bind fun xs => (dInts xs).map fun ns => .d (.int ns.sum)
  | _ => none
def allW (ws : List W) (M : Sto) : Option W := match ws with
  | [w] => (vL M w).bind fun xs => (dBools xs).map fun ns => .d (.bl (ns.all id))
  | _ => none
def anyW (ws : List W) (M : Sto) : Option W := match ws with
  | [w] => (vL M w).bind fun xs => (dBools xs).map fun ns => .d (.bl (ns.any id))
  | _ => none
def listW (ws : List W) (M : Sto) : Option W := match ws with
  | [w] => (vS M w).map fun xs => .fr xs
  | _ => none
def tupleW (ws : List W) (M : Sto) : Option W := match ws with
  | [w] => (vS M w).map fun xs => .d (.tup xs)
  | _ => none
def intW (ws : List W) (_ : Sto) : Option W := match ws with
  | [.d (.int i)] => some (.d (.int i))
  | [.d (.bl b)] => some (.d (.int (if b then 1 else 0)))
  | _ => none
def strW (ws : List W) (_ : Sto) : Option W := match ws with
  | [.d (.int i)] => if i.natAbs < 2 ^ 1900 then some (.d (.str (toString i))) else none
  | _ => none
/-- kinds: told by isinstance -/
inductive Kd where
  | non | bl | int | str | tup | lst | dct | oth
  deriving DecidableEq
def kdOf (M : Sto) : W → Kd
  | .d .non => .non
  | .d (.bl _) => .bl
  | .d (.int _) => .int
  | .d (.str _) => .str
  | .d (.tup _) => .tup
  | .d (.tpl _) => .tup
  | .d (.lst _) => .lst
  | .d (.cel n) => match M[n]? with
    | some (.lst _) => .lst
    | some (.dct _ _) => .dct
    | _ => .oth
  | .d (.rol _) => .oth
  | .d (.dic _) => .dct
  | .ol _ => .lst
  | .fr _ => .lst
  | .od _ _ => .dct
  | .fd _ => .dct
/-- isinstance of one class: b tells of each kind -/
def isiW (b : Kd → Option Bool) (w : W) (M : Sto) : Option W := (b (kdOf M w)).map fun r => .d (.bl r)
def isTup : Kd → Option Bool
  | .tup => some true
  | .oth => none
  | .dct => none
  | _ => some false
def isInt : Kd → Option Bool
  | .int => some true
  | .bl => some true
  | .oth => none
  | .dct => none
  | _ => some false
def isBool : Kd → Option Bool
  | .bl => some true
  | .oth => none
  | .dct => none
  | _ => some false
def isStr : Kd → Option Bool
  | .str => some true
  | .oth => none
  | .dct => none
  | _ => some false
def isTupLst : Kd → Option Bool
  | .tup => some true
  | .lst => some true
  | .oth => none
  | .dct => none
  | _ => some false

/-! ### subscripts, slices, in -/
def atD (xs : List D) (i : Int) : Option D := atI xs i
def ixW (a b : W) (M : Sto) : Option W := match b with
  | .d (.int i) => match a with
    | .d (.rol ns) => (atI ns i).map fun (n : Int) => .d (.int n)
    | .d (.str s) => if s.length ≤ SZ then (atI s.cps.toList i).map fun c => .d (.str ⟨#[c]⟩) else none
    | a => (vS M a).bind fun xs => (atI xs i).map .d
  | .d (.str k) => (vK M a).bind fun kv => ((kv.find? fun p => decide (p.1 = Sum.inr k)).map (·.2)).map .d
  | _ => none
def cutD (xs : List D) (lo hi : Option Int) : List D := (xs.drop (HT.sIx xs.length 0 lo)).take (HT.sIx xs.length xs.length hi - HT.sIx xs.length 0 lo)
def oInt : Option W → Option (Option Int)
  | none => some none
  | some (.d (.int i)) => some (some i)
  | _ => none
def slW (a : W) (lo hi : Option Int) (M : Sto) : Option W := match a with
  | .d (.str z) => if z.length ≤ SZ then some (.d (.str (cutS z lo hi))) else none
  | .d (.tup xs) => some (.d (.tup (cutD xs lo hi)))
  | .d (.tpl xs) => some (.d (.tup (cutD xs lo hi)))
  | a => (vL M a).map fun xs => .fr (cutD xs lo hi)
/-- a part of a slice: none, or an expression -/
abbrev GO := En → Sto → Option (Option Int × Sto)
def oNone : GO := fun _ M => some (none, M)
def oSome (a : G) : GO := fun δ M => match a δ M with
  | some (.d (.int i), M') => some (some i, M')
  | _ => none
def gSl (a : G) (lo hi : GO) : G := fun δ M => (a δ M).bind fun p => (lo δ p.2).bind fun l => (hi δ l.2).bind fun h => (slW p.1 l.1 h.1 h.2).map fun z => (z, h.2)
def keyOf : D → Option Key
  | .int i => some (.inl i)
  | .str s => some (.inr s)
  | _ => none
def inW (a b : W) (M : Sto) : Option W := match a with
  | .d x => match b with
    | .d (.str z) => match x with
      | .str y => some (.d (.bl (!(Builtin.Str.occurrences z y 0 z.length 1).isEmpty)))
      | _ => none
    | b => match vS M b with
      | some ys => if x.flat && ys.all D.flat then some (.d (.bl (ys.any fun y => deq y x)))
          else if x.ok 60 && oks 59 ys then some (.d (.bl (ys.any fun y => deq y x))) else none
      | none => (vK M b).bind fun kv => (keyOf x).map fun k => .d (.bl (kv.any fun p => decide (p.1 = k)))
  | _ => none
def notInW (a b : W) (M : Sto) : Option W := match inW a b M with
  | some (.d (.bl r)) => some (.d (.bl (!r)))
  | _ => none

/-! ### statements -/
def sNext : GS := fun δ M => some (.nx δ M)
def sSeq (a b : GS) : GS := fun δ M => (a δ M).bind fun o => match o with
  | .nx δ' M' => b δ' M'
  | o => some o
/-- x = e: frozen -/
def sAsg (i : Nat) (a : G) : GS := fun δ M => (a δ M).bind fun p => (frz p.1).map fun x => .nx (δ.set i (some (.d x))) p.2
/-- x = e: a new list or dict that the slot owns -/
def sOwn (i : Nat) (a : G) : GS := fun δ M => match a δ M with
  | some (.fr xs, M') => some (.nx (δ.set i (some (.ol xs))) M')
  | some (.fd kv, M') => some (.nx (δ.set i (some (.od false kv))) M')
  | _ => none
/-- a new list or dict becomes a cell of the store -/
def gCel (a : G) : G := fun δ M => match a δ M with
  | some (.fr xs, M') => some (.d (.cel M'.length), M' ++ [.lst xs])
  | some (.fd kv, M') => some (.d (.cel M'.length), M' ++ [.dct false kv])
  | _ => none
def sRet (a : G) : GS := fun δ M => (a δ M).map fun p => .rt p.1 p.2
def sRetN : GS := fun _ M => some (.rt (.d .non) M)
def sIf (c : GT) (a b : GS) : GS := fun δ M => (c δ M).bind fun p => if p.1 = true then a δ p.2 else b δ p.2
def sDrop (a : G) : GS := fun δ M => (a δ M).map fun p => .nx δ p.2
def sBrk : GS := fun δ M => some (.bk δ M)
def sCnt : GS := fun δ M => some (.ct δ M)
def setAll (δ : En) : List Nat → List D → Option En
  | [], [] => some δ
  | i :: is, x :: xs => setAll (δ.set i (some (.d x))) is xs
  | _, _ => none
/-- a, b = e (a tuple) -/
def sUnp (is : List Nat) (a : G) : GS := fun δ M => (a δ M).bind fun p => (vT p.1).bind fun xs => (setAll δ is xs).map fun δ' => .nx δ' p.2
/-- a, b = e, f -/
def sPar (is : List Nat) (as : GA) : GS := fun δ M => (as δ M).bind fun p => (frzs p.1).bind fun xs => (setAll δ is xs).map fun δ' => .nx δ' p.2
/-- ghost: the slot's own list is frozen -/
def frzSlot (i : Nat) (δ : En) : En := match δ[i]? with
  | some (some (.ol xs)) => δ.set i (some (.d (.lst xs)))
  | _ => δ
def sFrz (i : Nat) (a : GS) : GS := fun δ M => a (frzSlot i δ) M
/-- x.append(e) on a slot's own list -/
def sApp (i : Nat) (a : G) : GS := fun δ M => (a δ M).bind fun p => (frz p.1).bind fun x => match δ[i]? with
  | some (some (.ol xs)) => if xs.length < SZ then some (.nx (δ.set i (some (.ol (xs ++ [x])))) p.2) else none
  | _ => none
/-- what a for does with the items: a name, or names of a tuple's parts -/
inductive Tg where
  | nm (i : Nat) | tp (is : List Nat)
def Tg.is : Tg → List Nat
  | .nm i => [i]
  | .tp is => is
def Tg.bd : Tg → D → En → Option En
  | .nm i, x, δ => some (δ.set i (some (.d x)))
  | .tp is, .tup xs, δ => setAll δ is xs
  | .tp is, .tpl xs, δ => setAll δ is xs
  | _, _, _ => none
def forL (bd : Tg) (body : GS) : List D → En → Sto → Option Out
  | [], δ, M => some (.nx δ M)
  | x :: r, δ, M => (bd.bd x δ).bind fun δ1 => (body δ1 M).bind fun o => match o with
    | .nx δ' M' => forL bd body r δ' M'
    | .ct δ' M' => forL bd body r δ' M'
    | .bk δ' M' => some (.nx δ' M')
    | .rt w M' => some (.rt w M')
    | .rs x M' => some (.rs x M')
/-- the items of what a for walks -/
abbrev GI := En → Sto → Option (List D × Sto)
def sFor (it : GI) (bd : Tg) (body : GS) : GS := fun δ M => (it δ M).bind fun p => forL bd body p.1 δ p.2
def whileL (c : GT) (body : GS) : Nat → En → Sto → Option Out
  | 0, _, _ => none
  | n + 1, δ, M => (c δ M).bind fun p => if p.1 = true then (body δ p.2).bind fun o => match o with
      | .nx δ' M' => whileL c body n δ' M'
      | .ct δ' M' => whileL c body n δ' M'
      | .bk δ' M' => some (.nx δ' M')
      | .rt w M' => some (.rt w M')
      | .rs x M' => some (.rs x M')
    else some (.nx δ p.2)
def sWhile (fuel : En → Nat) (c : GT) (body : GS) : GS := fun δ M => whileL c body (fuel δ) δ M
/-! ### comprehensions -/
def wipeE (δ : En) : List Nat → En
  | [] => δ
  | v :: vs => (wipeE δ vs).set v none
def compL (bd : Tg) (t : GT) (e : G) (δ : En) : List D → Sto → Option (List D × Sto)
  | [], M => some ([], M)
  | x :: r, M => (bd.bd x δ).bind fun δ1 => (t δ1 M).bind fun p => if p.1 = true then
      (e δ1 p.2).bind fun q => (frz q.1).bind fun y => (compL bd t e δ r q.2).bind fun z => some (y :: z.1, z.2)
    else compL bd t e δ r p.2
def tYes : GT := fun _ M => some (true, M)
def gComp (it : GI) (bd : Tg) (t : GT) (e : G) (own : List Nat) : G := fun δ M => (it δ M).bind fun p => (compL bd t e (wipeE δ own) p.1 p.2).bind fun z =>
  if z.1.length ≤ SZ ∧ p.1.length ≤ SZ then some (.fr z.1, z.2) else none
/-- what is walked -/
def seqD : W → Option (List D)
  | .d (.tup xs) => some xs
  | .d (.tpl xs) => some xs
  | .d (.lst xs) => some xs
  | .fr xs => some xs
  | _ => none
def iSeq (a : G) : GI := fun δ M => (a δ M).bind fun p => (seqD p.1).map fun xs => (xs, p.2)
def rangeD (lo : Int) (n : Nat) : List D := (List.range n).map fun k => .int (lo + (k : Nat))
/-- range(a), range(a, b) -/
def intOf : W → Option Int
  | .d (.int j) => if -SZ ≤ j ∧ j ≤ SZ then some j else none
  | _ => none
def iRan1 (a : G) : GI := fun δ M => (a δ M).bind fun p => (intOf p.1).map fun j => (rangeD 0 j.toNat, p.2)
def iRan2 (a b : G) : GI := fun δ M => (a δ M).bind fun p => (b δ p.2).bind fun q => (intOf p.1).bind fun i => (intOf q.1).map fun j => (rangeD i (j - i).toNat, q.2)
def enumD : Nat → List D → List D
  | _, [] => []
  | n, x :: r => .tup [.int (n : Nat), x] :: enumD (n + 1) r
def iEnum (a : G) : GI := fun δ M => (iSeq a δ M).map fun p => (enumD 0 p.1, p.2)
def zipD : List D → List D → List D
  | x :: xs, y :: ys => .tup [x, y] :: zipD xs ys
  | _, _ => []
def iZip (a b : G) : GI := fun δ M => (iSeq a δ M).bind fun p => (iSeq b δ p.2).map fun q => (zipD p.1 q.1, q.2)

/-! ### a def -/
def startE (n : Nat) (ds : List D) : En := ds.map (fun x => some (.d x)) ++ List.replicate (n - ds.length) none
def retW : W → Option W
  | .d x => some (.d x)
  | .ol xs => some (.fr xs)
  | .fr xs => some (.fr xs)
  | .od false kv => some (.fd kv)
  | .fd kv => some (.fd kv)
  | .od true _ => none
def mkFn (np n : Nat) (body : GS) : Fn := fun ds M => if ds.length = np then match body (startE n ds) M with
    | some (.rt w M') => (retW w).map fun z => (z, M')
    | some (.nx _ M') => some (.d .non, M')
    | _ => none
  else none
end Mi
/-! MiRel: how plain data stand in the heap. -/
namespace Mi
open PySem L2

/-- what stays while the law runs: the fragment, the works' class -/
structure Zs where
  C : Addr
  ex : Str → Addr
structure Rc where
  K : PySem.W.Frag
  Z : Zs
abbrev Lk := Addr → Option (Obj × HO)
def lkd (l : Option (Obj × HO)) (u : HO) : HO := match l with
  | none => u
  | some o => .frz o.1 u

/-- a tuple without a dict of its own -/
def PlT (K : PySem.W.Frag) (F : Hp) (a : Addr) (vs : List V) : Prop := (∃ o, F a = some (.frz o (.tup vs)) ∧ o.dict = none) ∨
  ∃ (o : Obj) (its : Array Value) (n : Nat), K.lookup a = some o ∧ o.cls = .type "tuple" ∧ o.dict = none ∧ o.data = .seq its n ∧ its.size ≤ sizeLine ∧ Vals vs its.toList
theorem PlT.sq {K : PySem.W.Frag} {F : Hp} {a : Addr} {vs : List V} (h : PlT K F a vs) : SqT K F a vs := by
  rcases h with ⟨o, h, _⟩ | ⟨o, its, n, h1, h2, _, h3⟩
  · exact .inl (.inr ⟨o, h⟩)
  · exact .inr ⟨o, its, n, h1, h2, h3⟩
mutual
inductive DV (K : PySem.W.Frag) (am : List Addr) (F : Hp) : V → D → Prop
  | non : DV K am F .non .non
  | bl (b : Bool) : DV K am F (.bl b) (.bl b)
  | int (i : Int) : DV K am F (.int i) (.int i)
  | str (s : Str) : DV K am F (.str s) (.str s)
  | tup {a : Addr} {vs : List V} {xs : List D} : SqT K F a vs → DVs K am F vs xs → DV K am F (.ref a) (.tup xs)
  | tpl {a : Addr} {vs : List V} {xs : List D} : PlT K F a vs → DVs K am F vs xs → DV K am F (.ref a) (.tpl xs)
  | lst {a : Addr} {vs : List V} {xs : List D} : F a = some (.lst vs) → DVs K am F vs xs → DV K am F (.ref a) (.lst xs)
  | cel {a : Addr} {n : Nat} : am[n]? = some a → DV K am F (.ref a) (.cel n)
  | rol {a : Addr} {ns : List Int} : SqL K F a (ns.map V.int) → DV K am F (.ref a) (.rol ns)
  | dic {a : Addr} {o : Obj} {kvs : List (Key × V)} {kv : List (Key × D)} : F a = some (.frz o (.dK kvs)) → DKs K am F kvs kv → DV K am F (.ref a) (.dic kv)
inductive DVs (K : PySem.W.Frag) (am : List Addr) (F : Hp) : List V → List D → Prop
  | nil : DVs K am F [] []
  | cons {v : V} {vs : List V} {x : D} {xs : List D} : DV K am F v x → DVs K am F vs xs → DVs K am F (v :: vs) (x :: xs)
inductive DKs (K : PySem.W.Frag) (am : List Addr) (F : Hp) : List (Key × V) → List (Key × D) → Prop
  | nil : DKs K am F [] []
  | cons {k : Key} {v : V} {vs : List (Key × V)} {x : D} {xs : List (Key × D)} : DV K am F v x → DKs K am F vs xs → DKs K am F ((k, v) :: vs) ((k, x) :: xs)
end
/-- pairs with keys -/
inductive KVs {κ : Type} (K : PySem.W.Frag) (am : List Addr) (F : Hp) : List (κ × V) → List (κ × D) → Prop
  | nil : KVs K am F [] []
  | cons {k : κ} {v : V} {vs : List (κ × V)} {x : D} {xs : List (κ × D)} : DV K am F v x → KVs K am F vs xs → KVs K am F ((k, v) :: vs) ((k, x) :: xs)

def Le (F F' : Hp) : Prop := ∀ a o, F a = some o → F' a = some o
theorem Le.refl (F : Hp) : Le F F := fun _ _ h => h
theorem Le.trans {F G H : Hp} (a : Le F G) (b : Le G H) : Le F H := fun x o h => b x o (a x o h)
theorem Le.seqT {K : PySem.W.Frag} {F F' : Hp} {a : Addr} {xs : List V} (e : Le F F') (h : SqT K F a xs) : SqT K F' a xs := by
  rcases h with (h | ⟨o, h⟩) | h
  · exact .inl (.inl (e _ _ h))
  · exact .inl (.inr ⟨o, e _ _ h⟩)
  · exact .inr h
theorem Le.plT {K : PySem.W.Frag} {F F' : Hp} {a : Addr} {xs : List V} (e : Le F F') (h : PlT K F a xs) : PlT K F' a xs := by
  rcases h with ⟨o, h, q⟩ | h
  · exact .inl ⟨o, e _ _ h, q⟩
  · exact .inr h
theorem Le.seqL {K : PySem.W.Frag} {F F' : Hp} {a : Addr} {xs : List V} (e : Le F F') (h : SqL K F a xs) : SqL K F' a xs := Same.seq (show Same F F' from e) h

mutual
theorem DV.mono {K : PySem.W.Frag} {am : List Addr} {F F' : Hp} {new : List Addr} (e : Le F F') : ∀ {v : V} {x : D}, DV K am F v x → DV K (am ++ new) F' v x
  | _, _, .non => .non
  | _, _, .bl b => .bl b
  | _, _, .int i => .int i
  | _, _, .str s => .str s
  | _, _, .tup h hs => .tup (e.seqT h) (DVs.mono e hs)
  | _, _, .tpl h hs => .tpl (e.plT h) (DVs.mono e hs)
  | _, _, .lst h hs => .lst (e _ _ h) (DVs.mono e hs)
  | _, _, .cel h => .cel (by rw [List.getElem?_append_left (List.getElem?_eq_some_iff.mp h).1]; exact h)
  | _, _, .rol h => .rol (e.seqL h)
  | _, _, .dic h hs => .dic (e _ _ h) (DKs.mono e hs)
theorem DVs.mono {K : PySem.W.Frag} {am : List Addr} {F F' : Hp} {new : List Addr} (e : Le F F') : ∀ {vs : List V} {xs : List D}, DVs K am F vs xs → DVs K (am ++ new) F' vs xs
  | _, _, .nil => .nil
  | _, _, .cons h hs => .cons (DV.mono e h) (DVs.mono e hs)
theorem DKs.mono {K : PySem.W.Frag} {am : List Addr} {F F' : Hp} {new : List Addr} (e : Le F F') : ∀ {vs : List (Key × V)} {xs : List (Key × D)}, DKs K am F vs xs → DKs K (am ++ new) F' vs xs
  | _, _, .nil => .nil
  | _, _, .cons h hs => .cons (DV.mono e h) (DKs.mono e hs)
end
theorem DKs.kvs {K : PySem.W.Frag} {am : List Addr} {F : Hp} : ∀ {vs : List (Key × V)} {xs : List (Key × D)}, DKs K am F vs xs → KVs K am F vs xs
  | _, _, .nil => .nil
  | _, _, .cons h hs => .cons h (DKs.kvs hs)
theorem KVs.dks {K : PySem.W.Frag} {am : List Addr} {F : Hp} : ∀ {vs : List (Key × V)} {xs : List (Key × D)}, KVs K am F vs xs → DKs K am F vs xs
  | _, _, .nil => .nil
  | _, _, .cons h hs => .cons h (KVs.dks hs)
theorem KVs.mono {κ : Type} {K : PySem.W.Frag} {am : List Addr} {F F' : Hp} {new : List Addr} (e : Le F F') : ∀ {vs : List (κ × V)} {xs : List (κ × D)}, KVs K am F vs xs → KVs K (am ++ new) F' vs xs
  | _, _, .nil => .nil
  | _, _, .cons h hs => .cons (DV.mono e h) (KVs.mono e hs)

theorem DVs.length {K : PySem.W.Frag} {am : List Addr} {F : Hp} : ∀ {vs : List V} {xs : List D}, DVs K am F vs xs → vs.length = xs.length
  | _, _, .nil => rfl
  | _, _, .cons _ hs => by simp [DVs.length hs]
theorem DVs.get {K : PySem.W.Frag} {am : List Addr} {F : Hp} : ∀ {vs : List V} {xs : List D} {i : Nat} {x : D}, DVs K am F vs xs → xs[i]? = some x → ∃ v, vs[i]? = some v ∧ DV K am F v x
  | _, _, _, _, .nil, e => by simp at e
  | _, _, 0, _, .cons h _, e => by simp at e; subst e; exact ⟨_, rfl, h⟩
  | _, _, i + 1, x, .cons _ t, e => by
    obtain ⟨u, h1, h2⟩ := DVs.get (i := i) (x := x) t (by simpa using e)
    exact ⟨u, by simpa using h1, h2⟩
theorem DVs.append {K : PySem.W.Frag} {am : List Addr} {F : Hp} : ∀ {vs ws : List V} {xs ys : List D}, DVs K am F vs xs → DVs K am F ws ys → DVs K am F (vs ++ ws) (xs ++ ys)
  | _, _, _, _, .nil, s => s
  | _, _, _, _, .cons r t, s => .cons r (DVs.append t s)
theorem DVs.take {K : PySem.W.Frag} {am : List Addr} {F : Hp} : ∀ {vs : List V} {xs : List D} (n : Nat), DVs K am F vs xs → DVs K am F (vs.take n) (xs.take n)
  | _, _, 0, _ => .nil
  | _, _, _ + 1, .nil => .nil
  | _, _, n + 1, .cons r t => .cons r (DVs.take n t)
theorem DVs.drop {K : PySem.W.Frag} {am : List Addr} {F : Hp} : ∀ {vs : List V} {xs : List D} (n : Nat), DVs K am F vs xs → DVs K am F (vs.drop n) (xs.drop n)
  | _, _, 0, r => r
  | _, _, _ + 1, .nil => .nil
  | _, _, n + 1, .cons _ t => DVs.drop n t
theorem DVs.set {K : PySem.W.Frag} {am : List Addr} {F : Hp} {v : V} {x : D} (r : DV K am F v x) : ∀ {vs : List V} {xs : List D} (i : Nat), DVs K am F vs xs → DVs K am F (vs.set i v) (xs.set i x)
  | _, _, _, .nil => .nil
  | _, _, 0, .cons _ t => .cons r t
  | _, _, i + 1, .cons q t => .cons q (DVs.set r i t)

/-- a cell of the store as it stands at a -/
def CellOk (K : PySem.W.Frag) (C : Addr) (lk : Lk) (am : List Addr) (F H : Hp) (a : Addr) : Cell → Prop
  | .lst xs => lk a = none ∧ ∃ vs, H a = some (.lst vs) ∧ DVs K am F vs xs
  | .dct l kv => l = (lk a).isSome ∧ ∃ kvs, H a = some (lkd (lk a) (.dK kvs)) ∧ KVs K am F kvs kv
  | .dtt kv => lk a = none ∧ ∃ kvs, H a = some (.dT kvs) ∧ KVs K am F kvs kv
  | .ins fs => lk a = none ∧ ∃ dx fv, H a = some (.ins C dx fv) ∧ KVs K am F fv fs
theorem CellOk.there {K : PySem.W.Frag} {C : Addr} {lk : Lk} {am : List Addr} {F H : Hp} {a : Addr} : ∀ {c : Cell}, CellOk K C lk am F H a c → ∃ o, H a = some o
  | .lst _, ⟨_, _, h, _⟩ => ⟨_, h⟩
  | .dct _ _, ⟨_, _, h, _⟩ => ⟨_, h⟩
  | .dtt _, ⟨_, _, h, _⟩ => ⟨_, h⟩
  | .ins _, ⟨_, _, _, h, _⟩ => ⟨_, h⟩

/-- the state: F what is frozen, M the store, at the addresses am -/
structure SR (R : Rc) (lk : Lk) (am : List Addr) (F : Hp) (M : Sto) (H : Hp) : Prop where
  ex : Le F H
  fz : ∀ a u, F a = some u → lk a = none
  lh : ∀ a u, lk a = some u → H a = some (.frz u.1 u.2)
  len : am.length = M.length
  nd : am.Nodup
  fr : ∀ a, a ∈ am → F a = none
  cl : ∀ (n : Nat) (a : Addr) (c : Cell), am[n]? = some a → M[n]? = some c → CellOk R.K R.Z.C lk am F H a c
/-- growth -/
structure Gr (am : List Addr) (F H : Hp) (am' : List Addr) (F' H' : Hp) : Prop where
  fx : Le F F'
  fn : ∀ a o, H a = some o → F' a = F a
  ad : ∃ new, am' = am ++ new ∧ ∀ a ∈ new, H a = none
  kp : ∀ a o, a ∉ am → H a = some o → H' a = some o
  th : ∀ a o, H a = some o → ∃ o', H' a = some o'
theorem Gr.refl (am : List Addr) (F H : Hp) : Gr am F H am F H := ⟨Le.refl F, fun _ _ _ => rfl, ⟨[], by simp, by simp⟩, fun _ _ _ h => h, fun _ o h => ⟨o, h⟩⟩
theorem Gr.back {am am' : List Addr} {F H F' H' : Hp} (g : Gr am F H am' F' H') {a : Addr} (h : H' a = none) : H a = none := by
  cases e : H a with
  | none => rfl
  | some o =>
    obtain ⟨o', h'⟩ := g.th a o e
    rw [h] at h'; cases h'
theorem Gr.trans {am am1 am2 : List Addr} {F H F1 H1 F2 H2 : Hp} (a : Gr am F H am1 F1 H1) (b : Gr am1 F1 H1 am2 F2 H2) : Gr am F H am2 F2 H2 := by
  obtain ⟨n1, e1, f1⟩ := a.ad
  obtain ⟨n2, e2, f2⟩ := b.ad
  refine ⟨a.fx.trans b.fx, fun x o h => ?_, ⟨n1 ++ n2, by rw [e2, e1, List.append_assoc], fun x hx => ?_⟩, fun x o hn h => ?_, fun x o h => ?_⟩
  · obtain ⟨o', h'⟩ := a.th x o h
    rw [b.fn x o' h', a.fn x o h]
  · rcases List.mem_append.mp hx with h | h
    · exact f1 x h
    · exact a.back (f2 x h)
  · refine b.kp x o (fun hm => ?_) (a.kp x o hn h)
    rw [e1] at hm
    rcases List.mem_append.mp hm with q | q
    · exact hn q
    · rw [f1 x q] at h; cases h
  · obtain ⟨o', h'⟩ := a.th x o h
    exact b.th x o' h'
theorem Gr.dv {K : PySem.W.Frag} {am am' : List Addr} {F H F' H' : Hp} {v : V} {x : D} (g : Gr am F H am' F' H') (h : DV K am F v x) : DV K am' F' v x := by
  obtain ⟨n, e, _⟩ := g.ad
  rw [e]; exact h.mono g.fx
theorem Gr.dvs {K : PySem.W.Frag} {am am' : List Addr} {F H F' H' : Hp} {vs : List V} {xs : List D} (g : Gr am F H am' F' H') (h : DVs K am F vs xs) : DVs K am' F' vs xs := by
  obtain ⟨n, e, _⟩ := g.ad
  rw [e]; exact h.mono g.fx
theorem Gr.kvs {κ : Type} {K : PySem.W.Frag} {am am' : List Addr} {F H F' H' : Hp} {vs : List (κ × V)} {xs : List (κ × D)} (g : Gr am F H am' F' H') (h : KVs K am F vs xs) : KVs K am' F' vs xs := by
  obtain ⟨n, e, _⟩ := g.ad
  rw [e]; exact h.mono g.fx
/-- what is not a cell and known stays not a cell -/
theorem Gr.nam {am am' : List Addr} {F H F' H' : Hp} (g : Gr am F H am' F' H') {a : Addr} {o : HO} (h : H a = some o) (hn : a ∉ am) : a ∉ am' := by
  obtain ⟨n, e, f⟩ := g.ad
  rw [e]
  intro hm
  rcases List.mem_append.mp hm with q | q
  · exact hn q
  · rw [f a q] at h; cases h

/-- an expression's value -/
def RW (K : PySem.W.Frag) (lk : Lk) (am : List Addr) (F H : Hp) (v : V) : W → Prop
  | .d x => DV K am F v x
  | .ol xs => ∃ a vs, v = .ref a ∧ H a = some (.lst vs) ∧ F a = none ∧ a ∉ am ∧ lk a = none ∧ DVs K am F vs xs
  | .fr xs => ∃ a vs, v = .ref a ∧ H a = some (.lst vs) ∧ F a = none ∧ a ∉ am ∧ lk a = none ∧ DVs K am F vs xs
  | .od l kv => ∃ a kvs, v = .ref a ∧ H a = some (lkd (lk a) (.dK kvs)) ∧ F a = none ∧ a ∉ am ∧ l = (lk a).isSome ∧ KVs K am F kvs kv
  | .fd kv => ∃ a kvs, v = .ref a ∧ H a = some (.dK kvs) ∧ F a = none ∧ a ∉ am ∧ lk a = none ∧ KVs K am F kvs kv
theorem RW.gr {K : PySem.W.Frag} {lk : Lk} {am am' : List Addr} {F H F' H' : Hp} (g : Gr am F H am' F' H') {v : V} : ∀ {w : W}, RW K lk am F H v w → RW K lk am' F' H' v w
  | .d _, h => g.dv h
  | .ol _, ⟨a, vs, e, h, f, n, l, s⟩ => ⟨a, vs, e, g.kp a _ n h, by rw [g.fn a _ h]; exact f, g.nam h n, l, g.dvs s⟩
  | .fr _, ⟨a, vs, e, h, f, n, l, s⟩ => ⟨a, vs, e, g.kp a _ n h, by rw [g.fn a _ h]; exact f, g.nam h n, l, g.dvs s⟩
  | .od _ _, ⟨a, vs, e, h, f, n, l, s⟩ => ⟨a, vs, e, g.kp a _ n h, by rw [g.fn a _ h]; exact f, g.nam h n, l, g.kvs s⟩
  | .fd _, ⟨a, vs, e, h, f, n, l, s⟩ => ⟨a, vs, e, g.kp a _ n h, by rw [g.fn a _ h]; exact f, g.nam h n, l, g.kvs s⟩
inductive RWs (K : PySem.W.Frag) (lk : Lk) (am : List Addr) (F H : Hp) : List V → List W → Prop
  | nil : RWs K lk am F H [] []
  | cons {v : V} {vs : List V} {w : W} {ws : List W} : RW K lk am F H v w → RWs K lk am F H vs ws → RWs K lk am F H (v :: vs) (w :: ws)
theorem RWs.gr {K : PySem.W.Frag} {lk : Lk} {am am' : List Addr} {F H F' H' : Hp} (g : Gr am F H am' F' H') : ∀ {vs : List V} {ws : List W}, RWs K lk am F H vs ws → RWs K lk am' F' H' vs ws
  | _, _, .nil => .nil
  | _, _, .cons h t => .cons (h.gr g) (RWs.gr g t)
theorem RWs.length {K : PySem.W.Frag} {lk : Lk} {am : List Addr} {F H : Hp} : ∀ {vs : List V} {ws : List W}, RWs K lk am F H vs ws → vs.length = ws.length
  | _, _, .nil => rfl
  | _, _, .cons _ t => by simp [RWs.length t]
/-- what is just made was not there -/
def Fsh (H H0 : Hp) (v : V) : W → Prop
  | .fr _ => ∃ a, v = .ref a ∧ H a = none
  | .fd _ => ∃ a, v = .ref a ∧ H a = none
  | .ol _ => ∃ a, v = .ref a ∧ H0 a = none
  | .od _ _ => ∃ a, v = .ref a ∧ H0 a = none
  | .d _ => True
theorem Fsh.back {am am' : List Addr} {F H F' H' H0 : Hp} (g : Gr am F H am' F' H') {v : V} : ∀ {w : W}, Fsh H' H0 v w → Fsh H H0 v w
  | .d _, _ => True.intro
  | .ol _, h => h
  | .od _ _, h => h
  | .fr _, ⟨a, e, h⟩ => ⟨a, e, g.back h⟩
  | .fd _, ⟨a, e, h⟩ => ⟨a, e, g.back h⟩
def W.own : W → Bool
  | .ol _ => true
  | .od _ _ => true
  | _ => false
def W.slot : W → Bool
  | .d _ => true
  | .ol _ => true
  | .od _ _ => true
  | _ => false
/-- the slots -/
structure RE (K : PySem.W.Frag) (lk : Lk) (am : List Addr) (F H H0 : Hp) (σ : St) (δ : En) : Prop where
  len : δ.length = σ.length
  at_ : ∀ (i : Nat) (w : W), δ[i]? = some (some w) → ∃ v, σ[i]? = some (some v) ∧ RW K lk am F H v w ∧ w.slot = true
  own : ∀ (i : Nat) (w : W) (v : V), δ[i]? = some (some w) → w.own = true → σ[i]? = some (some v) → ∃ a, v = .ref a ∧ H0 a = none
  dis : ∀ (i j : Nat) (w u : W) (v : V), i ≠ j → δ[i]? = some (some w) → w.own = true → δ[j]? = some (some u) → u.own = true → σ[i]? = some (some v) → σ[j]? ≠ some (some v)
theorem RE.gr {K : PySem.W.Frag} {lk : Lk} {am am' : List Addr} {F H H0 F' H' : Hp} {σ : St} {δ : En} (g : Gr am F H am' F' H') (r : RE K lk am F H H0 σ δ) : RE K lk am' F' H' H0 σ δ :=
  ⟨r.len, fun i w h => let ⟨v, a, b, c⟩ := r.at_ i w h; ⟨v, a, b.gr g, c⟩, r.own, r.dis⟩

/-! ### new objects -/
theorem SR.fresh {R : Rc} {lk : Lk} {am : List Addr} {F H : Hp} {M : Sto} (s : SR R lk am F M H) {p : Addr} (h : H p = none) : F p = none ∧ p ∉ am := by
  refine ⟨?_, fun hm => ?_⟩
  · cases e : F p with
    | none => rfl
    | some o => rw [s.ex p o e] at h; cases h
  · obtain ⟨n, hn, e⟩ := List.getElem_of_mem hm
    have e1 : am[n]? = some p := by rw [List.getElem?_eq_getElem hn, e]
    have hn2 : n < M.length := by rw [← s.len]; exact hn
    obtain ⟨o, ho⟩ := (s.cl n p M[n] e1 (List.getElem?_eq_getElem hn2)).there
    rw [h] at ho; cases ho
theorem CellOk.mono {K : PySem.W.Frag} {C : Addr} {lk : Lk} {am new : List Addr} {F H F' H' : Hp} {a : Addr} (e : Le F F') (h : ∀ o, H a = some o → H' a = some o) : ∀ {c : Cell}, CellOk K C lk am F H a c → CellOk K C lk (am ++ new) F' H' a c
  | .lst _, ⟨l, vs, h1, h2⟩ => ⟨l, vs, h _ h1, h2.mono e⟩
  | .dct _ _, ⟨l, vs, h1, h2⟩ => ⟨l, vs, h _ h1, h2.mono e⟩
  | .dtt _, ⟨l, vs, h1, h2⟩ => ⟨l, vs, h _ h1, h2.mono e⟩
  | .ins _, ⟨l, dx, vs, h1, h2⟩ => ⟨l, dx, vs, h _ h1, h2.mono e⟩
/-- the heap grows by an object that is not frozen -/
theorem SR.grow {R : Rc} {lk : Lk} {am : List Addr} {F H H' : Hp} {M : Sto} (s : SR R lk am F M H) (h : Le H H') : SR R lk am F M H' :=
  ⟨s.ex.trans h, s.fz, fun a u e => h a _ (s.lh a u e), s.len, s.nd, s.fr, fun n a c e1 e2 => by
    have q := (s.cl n a c e1 e2).mono (new := []) (F' := F) (H' := H') (Le.refl F) (fun o q => h a o q)
    rwa [List.append_nil] at q⟩
theorem le_new {H : Hp} {p : Addr} {o : HO} (h : H p = none) : Le H (upd H p o) := fun a u e => by
  rw [upd_ne (ne_of_none e h)]; exact e
/-- p's object as it stands in H is frozen too -/
def frzAt (F : Hp) (H : Hp) (p : Addr) : Hp := fun a => if a = p then H p else F a
theorem frzAt_same {F H : Hp} {p : Addr} : frzAt F H p p = H p := by unfold frzAt; rw [if_pos rfl]
theorem frzAt_ne {F H : Hp} {p a : Addr} (h : a ≠ p) : frzAt F H p a = F a := by unfold frzAt; rw [if_neg h]
theorem le_frzAt {R : Rc} {lk : Lk} {am : List Addr} {F H : Hp} {M : Sto} (s : SR R lk am F M H) (p : Addr) : Le F (frzAt F H p) := fun a o h => by
  by_cases e : a = p
  · subst e; rw [frzAt_same]; exact s.ex a o h
  · rw [frzAt_ne e]; exact h
theorem SR.freeze {R : Rc} {lk : Lk} {am : List Addr} {F H : Hp} {M : Sto} (s : SR R lk am F M H) {p : Addr} (hn : p ∉ am) (hl : lk p = none) : SR R lk am (frzAt F H p) M H := by
  refine ⟨fun a o h => ?_, fun a u h => ?_, s.lh, s.len, s.nd, fun a hm => ?_, fun n a c e1 e2 => ?_⟩
  · by_cases e : a = p
    · subst e; rw [frzAt_same] at h; exact h
    · rw [frzAt_ne e] at h; exact s.ex a o h
  · by_cases e : a = p
    · subst e; exact hl
    · rw [frzAt_ne e] at h; exact s.fz a u h
  · have e : a ≠ p := fun z => hn (z ▸ hm)
    rw [frzAt_ne e]; exact s.fr a hm
  · have q := (s.cl n a c e1 e2).mono (new := []) (H' := H) (le_frzAt s p) (fun o q => q)
    rwa [List.append_nil] at q
/-- a new object, not frozen -/
theorem Gr.new {am : List Addr} {F H : Hp} {p : Addr} {o : HO} (h : H p = none) : Gr am F H am F (upd H p o) :=
  ⟨Le.refl F, fun _ _ _ => rfl, ⟨[], by simp, by simp⟩, fun a u _ e => le_new h a u e, fun a u e => ⟨u, le_new h a u e⟩⟩
/-- freezing what was not there at H0 -/
theorem Gr.freeze {R : Rc} {lk : Lk} {am am0 : List Addr} {F H F0 H0 : Hp} {M : Sto} (g : Gr am0 F0 H0 am F H) (s : SR R lk am F M H) {p : Addr} (h : H0 p = none) : Gr am0 F0 H0 am (frzAt F H p) H :=
  ⟨g.fx.trans (le_frzAt s p), fun a o e => by rw [frzAt_ne (ne_of_none e h)]; exact g.fn a o e, g.ad, g.kp, g.th⟩
theorem Gr.freeze' {R : Rc} {lk : Lk} {am : List Addr} {F H : Hp} {M : Sto} (s : SR R lk am F M H) {p : Addr} (h : H p = none) : Gr am F H am (frzAt F H p) H := (Gr.refl am F H).freeze s h
/-- a new frozen object -/
theorem new_frz {R : Rc} {lk : Lk} {am : List Addr} {F H : Hp} {M : Sto} (s : SR R lk am F M H) {p : Addr} {o : HO} (h : H p = none) :
    Gr am F H am (frzAt F (upd H p o) p) (upd H p o) ∧ SR R lk am (frzAt F (upd H p o) p) M (upd H p o) ∧ frzAt F (upd H p o) p p = some o := by
  have s1 := s.grow (le_new (o := o) h)
  have hn := (s.fresh h).2
  have hl : lk p = none := by
    cases e : lk p with
    | none => rfl
    | some u => have hx := s.lh p u e; rw [h] at hx; cases hx
  refine ⟨(Gr.new h).freeze s1 h, s1.freeze hn hl, by rw [frzAt_same]; exact upd_same⟩
end Mi
/-! MiEx: expressions do what their mirrors tell. -/
namespace Mi
open PySem L2

def Pst (R : Rc) (lk : Lk) (am : List Addr) (F : Hp) (M' : Sto) (H H0 : Hp) (w : W) (Q : VK) : Prop :=
  ∀ v am' F' H', Gr am F H am' F' H' → SR R lk am' F' M' H' → RW R.K lk am' F' H' v w → Fsh H H0 v w → Q v H'
theorem Pst.gr {R : Rc} {lk : Lk} {am am1 : List Addr} {F H F1 H1 H0 : Hp} {M : Sto} {w : W} {Q : VK} (P : Pst R lk am F M H H0 w Q) (g : Gr am F H am1 F1 H1) : Pst R lk am1 F1 M H1 H0 w Q :=
  fun v am' F' H' g' s r f => P v am' F' H' (g.trans g') s r (f.back g)
def tG (R : Rc) (g : G) : TE := fun σ H Q => ∃ lk am F M δ H0 w M', RE R.K lk am F H H0 σ δ ∧ SR R lk am F M H ∧ g δ M = some (w, M') ∧ Pst R lk am F M' H H0 w Q
inductive Fshs (H H0 : Hp) : List V → List W → Prop
  | nil : Fshs H H0 [] []
  | cons {v : V} {vs : List V} {w : W} {ws : List W} : Fsh H H0 v w → Fshs H H0 vs ws → Fshs H H0 (v :: vs) (w :: ws)
theorem Fshs.back {am am' : List Addr} {F H F' H' H0 : Hp} (g : Gr am F H am' F' H') : ∀ {vs : List V} {ws : List W}, Fshs H' H0 vs ws → Fshs H H0 vs ws
  | _, _, .nil => .nil
  | _, _, .cons h t => .cons (h.back g) (Fshs.back g t)
def PstA (R : Rc) (lk : Lk) (am : List Addr) (F : Hp) (M' : Sto) (H H0 : Hp) (ws : List W) (Q : List V → Hp → Prop) : Prop :=
  ∀ vs am' F' H', Gr am F H am' F' H' → SR R lk am' F' M' H' → RWs R.K lk am' F' H' vs ws → Fshs H H0 vs ws → Q vs H'
def tA (R : Rc) (g : GA) : TA := fun σ H Q => ∃ lk am F M δ H0 ws M', RE R.K lk am F H H0 σ δ ∧ SR R lk am F M H ∧ g δ M = some (ws, M') ∧ PstA R lk am F M' H H0 ws Q
def PstT (R : Rc) (lk : Lk) (am : List Addr) (F : Hp) (M' : Sto) (H : Hp) (b : Bool) (Q : Bool → Hp → Prop) : Prop :=
  ∀ am' F' H', Gr am F H am' F' H' → SR R lk am' F' M' H' → Q b H'
def tT (R : Rc) (g : GT) : TT := fun σ H Q => ∃ lk am F M δ H0 b M', RE R.K lk am F H H0 σ δ ∧ SR R lk am F M H ∧ g δ M = some (b, M') ∧ PstT R lk am F M' H b Q
abbrev rc (X : Cx) (C : Zs) : Rc := ⟨X.K, C⟩
/-- e is computed by g -/
abbrev E (X : Cx) (C : Zs) (e : Expr) (g : G) : Prop := PE X e (tG (rc X C) g)
abbrev A (X : Cx) (C : Zs) (es : List Expr) (g : GA) : Prop := PA X es (tA (rc X C) g)
abbrev T (X : Cx) (C : Zs) (e : Expr) (g : GT) : Prop := PT X e (tT (rc X C) g)
abbrev TW (X : Cx) (C : Zs) (e : Expr) (g : GT) : Prop := PW X e (tT (rc X C) g)

theorem wkE {X : Cx} {e : Expr} {t t' : TE} (h : PE X e t) (w : ∀ σ H Q, t' σ H Q → t σ H Q) : PE X e t' := ⟨fun pins s σ H Q I q => h.run pins s σ H Q I (w σ H Q q)⟩
theorem wkA {X : Cx} {e : List Expr} {t t' : TA} (h : PA X e t) (w : ∀ σ H Q, t' σ H Q → t σ H Q) : PA X e t' := ⟨fun pos pins s σ H Q I q => h.run pos pins s σ H Q I (w σ H Q q)⟩
theorem wkT {X : Cx} {e : Expr} {t t' : TT} (h : PT X e t) (w : ∀ σ H Q, t' σ H Q → t σ H Q) : PT X e t' := ⟨fun pins s σ H Q I q => h.run pins s σ H Q I (w σ H Q q)⟩
theorem wkW {X : Cx} {e : Expr} {t t' : TT} (h : PW X e t) (w : ∀ σ H Q, t' σ H Q → t σ H Q) : PW X e t' := ⟨fun wh pins s σ H Q I q => h.run wh pins s σ H Q I (w σ H Q q)⟩

section
variable {X : Cx} {C : Zs} {R : Rc} {lk : Lk} {am : List Addr} {F H H0 : Hp} {M M' : Sto} {Q : VK}

/-! ### ends -/
theorem Pst.now {w : W} {v : V} (P : Pst R lk am F M H H0 w Q) (s : SR R lk am F M H) (r : RW R.K lk am F H v w) (f : Fsh H H0 v w) : Q v H := P v am F H (Gr.refl am F H) s r f
theorem Pst.val {x : D} {v : V} (P : Pst R lk am F M H H0 (.d x) Q) (s : SR R lk am F M H) (r : DV R.K am F v x) : Q v H := P.now s r True.intro
theorem Pst.newT {xs : List D} {vs : List V} (P : Pst R lk am F M H H0 (.d (.tup xs)) Q) (s : SR R lk am F M H) (r : DVs R.K am F vs xs) (p : Addr) (h : H p = none) : Q (.ref p) (upd H p (.tup vs)) := by
  obtain ⟨g, s', e⟩ := new_frz s (o := .tup vs) h
  exact P _ am _ _ g s' (.tup (.of e) (g.dvs r)) True.intro
theorem Pst.newL {xs : List D} {vs : List V} (P : Pst R lk am F M H H0 (.fr xs) Q) (s : SR R lk am F M H) (r : DVs R.K am F vs xs) (p : Addr) (h : H p = none) : Q (.ref p) (upd H p (.lst vs)) := by
  obtain ⟨g, s', e⟩ := new_frz s (o := .lst vs) h
  have hl := s'.fz p _ e
  exact P _ am F _ (Gr.new h) (s.grow (le_new h)) ⟨p, vs, rfl, upd_same, (s.fresh h).1, (s.fresh h).2, hl, r⟩ ⟨p, rfl, h⟩

/-! ### views -/
theorem cell_at {lk : Lk} {n : Nat} {a : Addr} {c : Cell} (s : SR R lk am F M H) (h : am[n]? = some a) (hc : M[n]? = some c) : CellOk R.K R.Z.C lk am F H a c := s.cl n a c h hc
theorem vL_ok {w : W} {v : V} {xs : List D} (s : SR R lk am F M H) (r : RW R.K lk am F H v w) (h : vL M w = some xs) : ∃ a vs, v = .ref a ∧ H a = some (.lst vs) ∧ DVs R.K am F vs xs := by
  cases w with
  | ol ys => cases h; obtain ⟨a, vs, e, h1, _, _, _, h2⟩ := r; exact ⟨a, vs, e, h1, h2⟩
  | fr ys => cases h; obtain ⟨a, vs, e, h1, _, _, _, h2⟩ := r; exact ⟨a, vs, e, h1, h2⟩
  | od _ _ => cases h
  | fd _ => cases h
  | d x =>
    cases x with
    | lst ys =>
      cases h
      cases (show DV R.K am F v (.lst xs) from r) with
      | lst h1 h2 => exact ⟨_, _, rfl, s.ex _ _ h1, h2⟩
    | cel n =>
      cases (show DV R.K am F v (.cel n) from r) with
      | @cel a _ h1 =>
        cases hc : M[n]? with
        | none => simp only [vL, hc] at h; cases h
        | some c =>
          cases c with
          | lst ys =>
            simp only [vL, hc] at h
            cases h
            obtain ⟨_, vs, h2, h3⟩ := cell_at s h1 hc
            exact ⟨a, vs, rfl, h2, h3⟩
          | dct _ _ => simp only [vL, hc] at h; cases h
          | ins _ => simp only [vL, hc] at h; cases h
          | dtt _ => simp only [vL, hc] at h; cases h
    | _ => cases h
theorem vT_ok {w : W} {v : V} {xs : List D} (s : SR R lk am F M H) (r : RW R.K lk am F H v w) (h : vT w = some xs) : ∃ a vs, v = .ref a ∧ SqT R.K H a vs ∧ SqT R.K F a vs ∧ DVs R.K am F vs xs := by
  cases w with
  | d x =>
    cases x with
    | tup ys =>
      cases h
      cases (show DV R.K am F v (.tup xs) from r) with
      | tup h1 h2 => exact ⟨_, _, rfl, (show Le F H from s.ex).seqT h1, h1, h2⟩
    | tpl ys =>
      cases h
      cases (show DV R.K am F v (.tpl xs) from r) with
      | tpl h1 h2 => exact ⟨_, _, rfl, ((show Le F H from s.ex).plT h1).sq, h1.sq, h2⟩
    | _ => cases h
  | _ => cases h
theorem vS_ok {w : W} {v : V} {xs : List D} (s : SR R lk am F M H) (r : RW R.K lk am F H v w) (h : vS M w = some xs) : ∃ a vs, v = .ref a ∧ (H a = some (.lst vs) ∨ SqT R.K H a vs) ∧ DVs R.K am F vs xs := by
  unfold vS at h
  split at h
  · rename_i ys e
    cases h
    obtain ⟨a, vs, e1, h1, _, h2⟩ := vT_ok s r e
    exact ⟨a, vs, e1, .inr h1, h2⟩
  · obtain ⟨a, vs, e1, h1, h2⟩ := vL_ok s r h
    exact ⟨a, vs, e1, .inl h1, h2⟩
theorem sq_or {K : PySem.W.Frag} {a : Addr} {vs : List V} (h : H a = some (.lst vs) ∨ SqT K H a vs) : SqL K H a vs ∨ SqT K H a vs := h.imp SqL.of id
theorem rd_lkd {l : Option (Obj × HO)} {a : Addr} {u : HO} (h : H a = some (lkd l u)) : Rd H a u := by
  cases l with
  | none => exact .inl h
  | some o => exact .inr ⟨o.1, h⟩
theorem vK_ok {w : W} {v : V} {kv : List (Key × D)} (s : SR R lk am F M H) (r : RW R.K lk am F H v w) (h : vK M w = some kv) : ∃ a kvs, v = .ref a ∧ Rd H a (.dK kvs) ∧ KVs R.K am F kvs kv := by
  cases w with
  | od l ys => cases h; obtain ⟨a, vs, e, h1, _, _, _, h2⟩ := r; exact ⟨a, vs, e, rd_lkd h1, h2⟩
  | fd ys => cases h; obtain ⟨a, vs, e, h1, _, _, l, h2⟩ := r; exact ⟨a, vs, e, .inl h1, h2⟩
  | ol _ => cases h
  | fr _ => cases h
  | d x =>
    cases x with
    | cel n =>
      cases (show DV R.K am F v (.cel n) from r) with
      | @cel a _ h1 =>
        cases hc : M[n]? with
        | none => simp only [vK, hc] at h; cases h
        | some c =>
          cases c with
          | dct l ys =>
            simp only [vK, hc] at h
            cases h
            obtain ⟨_, vs, h2, h3⟩ := cell_at s h1 hc
            exact ⟨a, vs, rfl, rd_lkd h2, h3⟩
          | lst _ => simp only [vK, hc] at h; cases h
          | ins _ => simp only [vK, hc] at h; cases h
          | dtt _ => simp only [vK, hc] at h; cases h
    | dic ys =>
      cases h
      cases (show DV R.K am F v (.dic kv) from r) with
      | dic h1 h2 => exact ⟨_, _, rfl, .inr ⟨_, s.ex _ _ h1⟩, h2.kvs⟩
    | _ => cases h

/-! ### names, constants -/
theorem e_var {i : Nat} {x : Str} {pos : Pos} (hN : X.N[i]? = some x := by rfl) (hv : Vis X.env.scope x := by first | exact Or.inl rfl | exact Or.inr (Or.inl rfl) | exact Or.inr (Or.inr rfl)) (hd : (x == ("__debug__" : Str)) = false := by decide)
    (hcd : (x == ("__classdict__" : Str)) = false := by decide) : E X C (.Name x pos) (gVar i) := wkE (pe_var hN hv hd hcd) fun σ H Q h => by
  obtain ⟨lk, am, F, M, δ, H0, w, M', re, sr, h, P⟩ := h
  unfold gVar at h
  split at h
  · rename_i w' e
    cases h
    obtain ⟨v, e1, r, sl⟩ := re.at_ i w e
    refine ⟨v, e1, P.now sr r ?_⟩
    cases w with
    | fr _ => cases sl
    | fd _ => cases sl
    | ol _ => exact re.own i _ v e rfl e1
    | od _ _ => exact re.own i _ v e rfl e1
    | d _ => exact True.intro
  · cases h
theorem e_c {e : Expr} {v : V} {x : D} (h : PE X e (tC v)) (r : ∀ am F, DV X.K am F v x) : E X C e (gC x) := wkE h fun σ H Q q => by
  obtain ⟨lk, am, F, M, δ, H0, w, M', re, sr, h, P⟩ := q
  cases h
  exact P.val sr (r am F)
theorem e_int {i : Int} {j : Nat} {pos : Pos} : E X C (.Constant (.int i) j pos) (gC (.int i)) := e_c pe_int fun _ _ => .int i
theorem e_bl {b : Bool} {j : Nat} {pos : Pos} : E X C (.Constant (.bool b) j pos) (gC (.bl b)) := e_c pe_bl fun _ _ => .bl b
theorem e_non {j : Nat} {pos : Pos} : E X C (.Constant .none j pos) (gC .non) := e_c pe_non fun _ _ => .non
theorem e_str {x : Str} {j : Nat} {pos : Pos} : E X C (.Constant (.str x) j pos) (gC (.str x)) := e_c pe_str fun _ _ => .str x
theorem e_gint {x : Str} {i : Int} {u : Value} {pos : Pos} (hm : X.mg x = some u) (r : RelV (.int i) u) (hg : Gl X x := by rfl) (hd : (x == ("__debug__" : Str)) = false := by decide) : E X C (.Name x pos) (gC (.int i)) := e_c (pe_glob hg hm r hd) fun _ _ => .int i
theorem e_gstr {x : Str} {i : Str} {u : Value} {pos : Pos} (hm : X.mg x = some u) (r : RelV (.str i) u) (hg : Gl X x := by rfl) (hd : (x == ("__debug__" : Str)) = false := by decide) : E X C (.Name x pos) (gC (.str i)) := e_c (pe_glob hg hm r hd) fun _ _ => .str i

/-! ### two operands -/
def OpC (R : Rc) (r : R2) (op : W → W → Sto → Option W) : Prop :=
  ∀ (lk : Lk) (am : List Addr) (F : Hp) (M : Sto) (H H0 : Hp) (x y : V) (a b z : W) (Q : VK), SR R lk am F M H → RW R.K lk am F H x a → RW R.K lk am F H y b → op a b M = some z → Pst R lk am F M H H0 z Q → r x y H Q
theorem bin2 {ga gb : G} {op : W → W → Sto → Option W} {σ : St} {Q : VK} (h : tG R (gBin op ga gb) σ H Q) :
    tG R ga σ H fun x H1 => tG R gb σ H1 fun y H2 => ∃ lk am F M H0 a b z, SR R lk am F M H2 ∧ RW R.K lk am F H2 x a ∧ RW R.K lk am F H2 y b ∧ op a b M = some z ∧ Pst R lk am F M H2 H0 z Q := by
  obtain ⟨lk, am, F, M, δ, H0, w, M', re, sr, h, P⟩ := h
  unfold gBin at h
  simp only [Option.bind_eq_some_iff, Option.map_eq_some_iff, Prod.exists, Prod.mk.injEq] at h
  obtain ⟨a, M1, h1, b, M2, h2, z, h3, rfl, rfl⟩ := h
  exact ⟨lk, am, F, M, δ, H0, a, M1, re, sr, h1, fun v am1 F1 H1 g1 s1 r1 f1 => ⟨lk, am1, F1, M1, δ, H0, b, M2, re.gr g1, s1, h2, fun u am2 F2 H2 g2 s2 r2 f2 =>
    ⟨lk, am2, F2, M2, H0, a, b, z, s2, r1.gr g2, r2, h3, P.gr (g1.trans g2)⟩⟩⟩
theorem e_bin {o : Operator} {a b : Expr} {ga gb : G} {pos : Pos} {r : R2} {op : W → W → Sto → Option W} (ho : OpR X (binaryOp o) r) (hc : OpC (rc X C) r op) (ha : E X C a ga) (hb : E X C b gb) : E X C (.BinOp a o b pos) (gBin op ga gb) :=
  wkE (pe_op (pos := pos) (r := fun x y H Q => ∃ lk am F M H0 a b z, SR (rc X C) lk am F M H ∧ RW X.K lk am F H x a ∧ RW X.K lk am F H y b ∧ op a b M = some z ∧ Pst (rc X C) lk am F M H H0 z Q)
    (fun pins s σ H x y v u Q I rx ry ⟨lk, am, F, M, H0, a, b, z, s1, r1, r2, h, P⟩ => ho pins s σ H x y v u Q I rx ry (hc lk am F M H H0 x y a b z Q s1 r1 r2 h P)) ha hb) fun _ _ _ h => bin2 h
theorem e_cmp {o : CmpOp} {a b : Expr} {ga gb : G} {pos : Pos} {r : R2} {op : W → W → Sto → Option W} (ho : OpR X (compareOp o) r) (hc : OpC (rc X C) r op) (ha : E X C a ga) (hb : E X C b gb) (hm : behindInMarks o b = false) : E X C (.Compare a [o] [b] pos) (gBin op ga gb) :=
  wkE (pe_cmpR (pos := pos) (r := fun x y H Q => ∃ lk am F M H0 a b z, SR (rc X C) lk am F M H ∧ RW X.K lk am F H x a ∧ RW X.K lk am F H y b ∧ op a b M = some z ∧ Pst (rc X C) lk am F M H H0 z Q)
    (fun pins s σ H x y v u Q I rx ry ⟨lk, am, F, M, H0, a, b, z, s1, r1, r2, h, P⟩ => ho pins s σ H x y v u Q I rx ry (hc lk am F M H H0 x y a b z Q s1 r1 r2 h P)) ha hb hm) fun _ _ _ h => bin2 h

/-! ### freezing -/
inductive FZ (K : PySem.W.Frag) (lk : Lk) (am : List Addr) (F H H0 : Hp) : V → D → Prop
  | dv {v : V} {x : D} : DV K am F v x → FZ K lk am F H H0 v x
  | new {a : Addr} {vs : List V} {xs : List D} : H0 a = none → H a = some (.lst vs) → a ∉ am → lk a = none → DVs K am F vs xs → FZ K lk am F H H0 (.ref a) (.lst xs)
theorem DV.le {K : PySem.W.Frag} {am : List Addr} {F F' : Hp} (e : Le F F') {v : V} {x : D} (h : DV K am F v x) : DV K am F' v x := by
  have q := h.mono (new := []) e
  rwa [List.append_nil] at q
theorem DVs.le {K : PySem.W.Frag} {am : List Addr} {F F' : Hp} (e : Le F F') {v : List V} {x : List D} (h : DVs K am F v x) : DVs K am F' v x := by
  have q := h.mono (new := []) e
  rwa [List.append_nil] at q
theorem FZ.le {K : PySem.W.Frag} {lk : Lk} {am : List Addr} {F F' H H0 : Hp} (e : Le F F') {v : V} {x : D} : FZ K lk am F H H0 v x → FZ K lk am F' H H0 v x
  | .dv h => .dv (h.le e)
  | .new h1 h2 h3 h4 h5 => .new h1 h2 h3 h4 (h5.le e)
theorem FZ.of {H0 Hz : Hp} {v : V} {w : W} {x : D} (r : RW R.K lk am F H v w) (f : Fsh H0 Hz v w) (h : frz w = some x) : FZ R.K lk am F H H0 v x := by
  cases w with
  | d y => cases h; exact .dv r
  | fr xs =>
    cases h
    obtain ⟨a, vs, rfl, h1, h2, h3, h4, h5⟩ := r
    obtain ⟨b, e, f⟩ := f
    cases e
    exact .new f h1 h3 h4 h5
  | ol _ => cases h
  | od _ _ => cases h
  | fd _ => cases h
theorem FZ.go {am0 : List Addr} {F0 H0 : Hp} {v : V} {x : D} (g : Gr am0 F0 H0 am F H) (s : SR R lk am F M H) (z : FZ R.K lk am F H H0 v x) : ∃ F', Gr am0 F0 H0 am F' H ∧ SR R lk am F' M H ∧ DV R.K am F' v x ∧ Le F F' := by
  cases z with
  | dv h => exact ⟨F, g, s, h, Le.refl F⟩
  | @new a vs xs h0 h1 h2 h3 h4 =>
    refine ⟨frzAt F H a, g.freeze s h0, s.freeze h2 h3, .lst (by rw [frzAt_same]; exact h1) (h4.le (le_frzAt s a)), le_frzAt s a⟩
inductive FZs (K : PySem.W.Frag) (lk : Lk) (am : List Addr) (F H H0 : Hp) : List V → List D → Prop
  | nil : FZs K lk am F H H0 [] []
  | cons {v : V} {vs : List V} {x : D} {xs : List D} : FZ K lk am F H H0 v x → FZs K lk am F H H0 vs xs → FZs K lk am F H H0 (v :: vs) (x :: xs)
theorem FZs.le {K : PySem.W.Frag} {lk : Lk} {am : List Addr} {F F' H H0 : Hp} (e : Le F F') : ∀ {v : List V} {x : List D}, FZs K lk am F H H0 v x → FZs K lk am F' H H0 v x
  | _, _, .nil => .nil
  | _, _, .cons h t => .cons (h.le e) (FZs.le e t)
theorem FZs.of {H0 Hz : Hp} : ∀ {vs : List V} {ws : List W} {xs : List D}, RWs R.K lk am F H vs ws → Fshs H0 Hz vs ws → frzs ws = some xs → FZs R.K lk am F H H0 vs xs
  | _, _, xs, .nil, .nil, h => by
    cases h
    exact .nil
  | _, w :: ws, xs, .cons r rs, .cons f fs, h => by
    unfold frzs at h
    simp only [Option.bind_eq_some_iff, Option.some.injEq] at h
    obtain ⟨x, h1, ys, h2, rfl⟩ := h
    exact .cons (FZ.of r f h1) (FZs.of rs fs h2)
theorem FZs.go {am0 : List Addr} {F0 H0 : Hp} : ∀ {vs : List V} {xs : List D} {F : Hp}, Gr am0 F0 H0 am F H → SR R lk am F M H → FZs R.K lk am F H H0 vs xs → ∃ F', Gr am0 F0 H0 am F' H ∧ SR R lk am F' M H ∧ DVs R.K am F' vs xs ∧ Le F F'
  | _, _, F, g, s, .nil => ⟨F, g, s, .nil, Le.refl F⟩
  | _, _, F, g, s, .cons z zs => by
    obtain ⟨F1, g1, s1, d1, l1⟩ := z.go g s
    obtain ⟨F2, g2, s2, d2, l2⟩ := FZs.go g1 s1 (zs.le l1)
    exact ⟨F2, g2, s2, .cons (d1.le l2) d2, l1.trans l2⟩
theorem frzs_len : ∀ {ws : List W} {xs : List D}, frzs ws = some xs → xs.length = ws.length
  | [], xs, h => by cases h; rfl
  | w :: ws, xs, h => by
    unfold frzs at h
    simp only [Option.bind_eq_some_iff, Option.some.injEq] at h
    obtain ⟨x, h1, ys, h2, rfl⟩ := h
    simp [frzs_len h2]

/-! ### arguments -/
theorem a_nil : A X C [] aNil := wkA pa_nil fun σ H Q h => by
  obtain ⟨lk, am, F, M, δ, H0, ws, M', re, sr, h, P⟩ := h
  cases h
  exact P _ _ _ _ (Gr.refl _ _ _) sr .nil .nil
theorem a_cons {e : Expr} {es : List Expr} {g : G} {ga : GA} (he : E X C e g) (ha : A X C es ga) (hs : starEach (e :: es) X.env = (false, eval e X.env) :: starEach es X.env := by rfl) : A X C (e :: es) (aCons g ga) :=
  wkA (pa_cons he ha hs) fun σ H Q h => by
    obtain ⟨lk, am, F, M, δ, H0, ws, M', re, sr, h, P⟩ := h
    unfold aCons at h
    simp only [Option.bind_eq_some_iff, Prod.exists, Option.some.injEq, Prod.mk.injEq] at h
    obtain ⟨a, M1, h1, b, M2, h2, rfl, rfl⟩ := h
    exact ⟨lk, am, F, M, δ, H0, a, M1, re, sr, h1, fun v am1 F1 H1 g1 s1 r1 f1 => ⟨lk, am1, F1, M1, δ, H0, b, M2, re.gr g1, s1, h2, fun u am2 F2 H2 g2 s2 r2 f2 =>
      P _ _ _ _ (g1.trans g2) s2 (.cons (r1.gr g2) r2) (.cons f1 (f2.back g1))⟩⟩

/-! ### displays -/
theorem blt_in {ga : GA} {op : List W → Sto → Option W} {σ : St} {Q : VK} (h : tG R (gBlt op ga) σ H Q) :
    tA R ga σ H fun vs H2 => ∃ lk am0 F0 H0 Hz am F M ws z, Gr am0 F0 H0 am F H2 ∧ SR R lk am F M H2 ∧ RWs R.K lk am F H2 vs ws ∧ Fshs H0 Hz vs ws ∧ op ws M = some z ∧ Pst R lk am0 F0 M H0 Hz z Q := by
  obtain ⟨lk, am, F, M, δ, H0, w, M', re, sr, h, P⟩ := h
  unfold gBlt at h
  simp only [Option.bind_eq_some_iff, Option.map_eq_some_iff, Prod.exists, Prod.mk.injEq] at h
  obtain ⟨ws, M1, h1, z, h3, rfl, rfl⟩ := h
  exact ⟨lk, am, F, M, δ, H0, ws, M1, re, sr, h1, fun vs am1 F1 H1 g1 s1 r1 f1 => ⟨lk, am, F, H, H0, am1, F1, M1, ws, z, g1, s1, r1, f1, h3, P⟩⟩
theorem sz_le {n : Nat} (h : n ≤ SZ) : n ≤ sizeLine := Nat.le_trans h (by decide)
theorem e_tup {es : List Expr} {k : Nat} {pos : Pos} {ga : GA} (ha : A X C es ga) : E X C (.Tuple es k pos) (gTup ga) := wkE (pe_tup ha) fun σ H Q h => by
  obtain ⟨lk, am, F, M, δ, H0, ws, M', re, sr, h, P⟩ := blt_in h
  refine ⟨lk, am, F, M, δ, H0, ws, M', re, sr, h, fun vs am1 F1 H1 g1 s1 r1 f1 => ?_⟩
  obtain ⟨lk, am0, F0, H0, Hz, am, F, M, ws, z, g, s, r, f, hz, P⟩ := P vs am1 F1 H1 g1 s1 r1 f1
  unfold opTup at hz
  split at hz
  · rename_i hl
    obtain ⟨xs, h2, rfl⟩ := Option.map_eq_some_iff.mp hz
    obtain ⟨F', g', s', d', _⟩ := (FZs.of (R := rc X C) r f h2).go g s
    refine ⟨by rw [r.length]; exact sz_le hl, fun p hp => ?_⟩
    exact (P.gr g').newT s' d' p hp
  · cases hz
theorem e_lst {es : List Expr} {pos : Pos} {ga : GA} (ha : A X C es ga) : E X C (.List es pos) (gLst ga) := wkE (pe_lst ha) fun σ H Q h => by
  obtain ⟨lk, am, F, M, δ, H0, ws, M', re, sr, h, P⟩ := blt_in h
  refine ⟨lk, am, F, M, δ, H0, ws, M', re, sr, h, fun vs am1 F1 H1 g1 s1 r1 f1 => ?_⟩
  obtain ⟨lk, am0, F0, H0, Hz, am, F, M, ws, z, g, s, r, f, hz, P⟩ := P vs am1 F1 H1 g1 s1 r1 f1
  unfold opLst at hz
  split at hz
  · rename_i hl
    obtain ⟨xs, h2, rfl⟩ := Option.map_eq_some_iff.mp hz
    obtain ⟨F', g', s', d', _⟩ := (FZs.of (R := rc X C) r f h2).go g s
    refine ⟨by rw [r.length]; exact sz_le hl, fun p hp => ?_⟩
    exact (P.gr g').newL s' d' p hp
  · cases hz

/-! ### calls of built-in things -/
def CallC (R : Rc) (r : List V → Hp → VK → Prop) (op : List W → Sto → Option W) : Prop :=
  ∀ (lk : Lk) (am : List Addr) (F : Hp) (M : Sto) (H H0 : Hp) (vs : List V) (ws : List W) (z : W) (Q : VK), SR R lk am F M H → RWs R.K lk am F H vs ws → op ws M = some z → Pst R lk am F M H H0 z Q → r vs H Q
theorem blt_go {r : List V → Hp → VK → Prop} {op : List W → Sto → Option W} {ga : GA} {σ : St} {Q : VK} (hc : CallC R r op) (h : tG R (gBlt op ga) σ H Q) : tCB r (tA R ga) σ H Q := by
  obtain ⟨lk, am, F, M, δ, H0, ws, M', re, sr, h, P⟩ := blt_in h
  refine ⟨lk, am, F, M, δ, H0, ws, M', re, sr, h, fun vs am1 F1 H1 g1 s1 r1 f1 => ?_⟩
  obtain ⟨lk, am0, F0, H0, Hz, am, F, M, ws, z, g, s, r, f, hz, P⟩ := P vs am1 F1 H1 g1 s1 r1 f1
  exact hc lk am F M H1 Hz vs ws z Q s r hz (P.gr g)
theorem e_blt {x : Str} {id : String} {p pos : Pos} {e : Expr} {es : List Expr} {ga : GA} {r : List V → Hp → VK → Prop} {op : List W → Sto → Option W} (hr : CallR X (.builtin id) r) (hc : CallC (rc X C) r op) (hm : X.mg x = none) (hv : bootBuiltins x = some (.builtin id)) (ha : A X C (e :: es) ga)
    (hg : Gl X x := by rfl) (hn : x ≠ "__name__" := by decide) (hdb : (x == ("__debug__" : Str)) = false := by decide)
    (he : starEach (e :: es) X.env = (false, eval e X.env) :: starEach es X.env := by rfl) (hpl : (backTo pos (starEach es X.env)).any (·.1) = false := by rfl) : E X C (.Call (.Name x p) (e :: es) [] pos) (gBlt op ga) :=
  wkE (pe_callB hr hg hm hv ha hn hdb he hpl) fun _ _ _ h => blt_go hc h
theorem e_bty {x : Str} {id : String} {p pos : Pos} {e : Expr} {es : List Expr} {ga : GA} {r : List V → Hp → VK → Prop} {op : List W → Sto → Option W} (hr : CallR X (.type id) r) (hc : CallC (rc X C) r op) (hm : X.mg x = none) (hv : bootBuiltins x = some (.type id)) (ha : A X C (e :: es) ga)
    (hg : Gl X x := by rfl) (hn : x ≠ "__name__" := by decide) (hdb : (x == ("__debug__" : Str)) = false := by decide)
    (he : starEach (e :: es) X.env = (false, eval e X.env) :: starEach es X.env := by rfl) (hpl : (backTo pos (starEach es X.env)).any (·.1) = false := by rfl) : E X C (.Call (.Name x p) (e :: es) [] pos) (gBlt op ga) :=
  wkE (pe_callTy hr hg hm hv ha hn hdb he hpl) fun _ _ _ h => blt_go hc h

/-! ### calls of own defs -/
def spF (R : Rc) (f : Fn) : Sp := fun vs H Q _ => ∃ lk am F M H0 ds w M', SR R lk am F M H ∧ DVs R.K am F vs ds ∧ f ds M = some (w, M') ∧ Pst R lk am F M' H H0 w Q
theorem e_call {k : Nat} {f : Addr} {fd : FuncData} {ps : List Str} {x : Str} {p pos : Pos} {e : Expr} {es : List Expr} {ga : GA} {g : Fn} {CX : CXT} {E0 : XK} (Fk : FnOk X.prog X.w X.K X.mg X.base CX k f fd ps (spF (rc X C) g)) (hr : Room k X.A) (hm : X.mg x = some (.ref f))
    (hk : PySem.W.keepIn X.K (.ref f) = true) (hb : Binds X.K fd ps []) (hx : Passes CX X E0) (ha : A X C (e :: es) ga) (hg : Gl X x := by rfl) (hdb : (x == ("__debug__" : Str)) = false := by decide)
    (he : starEach (e :: es) X.env = (false, eval e X.env) :: starEach es X.env := by rfl) (hpl : (backTo pos (starEach es X.env)).any (·.1) = false := by rfl) : E X C (.Call (.Name x p) (e :: es) [] pos) (gCall g ga) :=
  wkE (pe_call Fk hr hg hm hk hb .nil hx ha hdb he hpl) fun σ H Q h => by
    obtain ⟨lk, am, F, M, δ, H0, w, M', re, sr, h, P⟩ := h
    unfold gCall at h
    simp only [Option.bind_eq_some_iff, Prod.exists] at h
    obtain ⟨ws, M1, h1, ds, h2, h3⟩ := h
    refine ⟨lk, am, F, M, δ, H0, ws, M1, re, sr, h1, fun vs am1 F1 H1 g1 s1 r1 f1 => ?_⟩
    obtain ⟨F', g', s', d', _⟩ := (FZs.of (R := rc X C) r1 f1 h2).go g1 s1
    rw [List.append_nil]
    exact ⟨lk, am1, F', M1, H0, ds, w, M', s', d', h3, P.gr g'⟩

/-! ### tests -/
theorem t_val {e : Expr} {g : G} (h : E X C e g) (he : ∀ whole, isTrue e X.env whole = (do let v ← whole; standAt e.pos; holding [v] (truthy v)) := by intro _; rfl) : T X C e (tV g) := wkT (pt_val h he) fun σ H Q h => by
  obtain ⟨lk, am, F, M, δ, H0, b, M', re, sr, h, P⟩ := h
  unfold tV at h
  split at h
  · rename_i b' M1 e1
    cases h
    refine ⟨lk, am, F, M, δ, H0, _, M', re, sr, e1, fun v am1 F1 H1 g1 s1 r1 _ => ?_⟩
    cases (show DV X.K am1 F1 v (.bl b) from r1)
    exact ⟨b, rfl, P _ _ _ g1 s1⟩
  · cases h
theorem PstT.gr {am1 : List Addr} {F1 H1 : Hp} {b : Bool} {Q : Bool → Hp → Prop} (P : PstT R lk am F M H b Q) (g : Gr am F H am1 F1 H1) : PstT R lk am1 F1 M H1 b Q := fun am' F' H' g' s => P am' F' H' (g.trans g') s
/-- a comparison as a test -/
theorem t_cmp {o : CmpOp} {a b : Expr} {ga gb : G} {pos : Pos} {r : R2} {op : W → W → Sto → Option W} (ho : OpR X (compareOp o) r) (hc : OpC (rc X C) r op) (ha : E X C a ga) (hb : E X C b gb) (hm : behindInMarks o b = false) : T X C (.Compare a [o] [b] pos) (tV (gBin op ga gb)) :=
  wkT (pt_cmpR (pos := pos) (r := fun x y H Q => ∃ lk am F M H0 a b z, SR (rc X C) lk am F M H ∧ RW X.K lk am F H x a ∧ RW X.K lk am F H y b ∧ op a b M = some z ∧ Pst (rc X C) lk am F M H H0 z Q)
    (fun pins s σ H x y v u Q I rx ry ⟨lk, am, F, M, H0, a, b, z, s1, r1, r2, h, P⟩ => ho pins s σ H x y v u Q I rx ry (hc lk am F M H H0 x y a b z Q s1 r1 r2 h P)) ha hb hm) fun σ H Q h => by
    obtain ⟨lk, am, F, M, δ, H0, b, M', re, sr, h, P⟩ := h
    unfold tV at h
    split at h
    · rename_i b' M1 e1
      cases h
      exact bin2 ⟨lk, am, F, M, δ, H0, _, M', re, sr, e1, fun v am1 F1 H1 g1 s1 r1 _ => by
        cases (show DV X.K am1 F1 v (.bl b) from r1)
        exact ⟨b, rfl, P _ _ _ g1 s1⟩⟩
    · cases h
theorem tw_and1 {a : Expr} {pos : Pos} {g : GT} (h : T X C a g) : TW X C (.BoolOp .And [a] pos) g := pw_and1 h
theorem tw_or1 {a : Expr} {pos : Pos} {g : GT} (h : T X C a g) : TW X C (.BoolOp .Or [a] pos) g := pw_or1 h
theorem tw_and {a b : Expr} {rest : List Expr} {pos : Pos} {g g' : GT} (h : T X C a g) (h' : TW X C (.BoolOp .And (b :: rest) pos) g') : TW X C (.BoolOp .And (a :: b :: rest) pos) (tAnd g g') :=
  wkW (pw_and h h') fun σ H Q h => by
    obtain ⟨lk, am, F, M, δ, H0, b, M', re, sr, h, P⟩ := h
    unfold tAnd at h
    obtain ⟨⟨c, M1⟩, h1, h2⟩ := Option.bind_eq_some_iff.mp h
    refine ⟨lk, am, F, M, δ, H0, c, M1, re, sr, h1, fun am1 F1 H1 g1 s1 => ?_⟩
    cases c with
    | true => exact iteT ⟨lk, am1, F1, M1, δ, H0, b, M', re.gr g1, s1, h2, P.gr g1⟩
    | false => cases h2; exact iteF (P _ _ _ g1 s1)
theorem tw_or {a b : Expr} {rest : List Expr} {pos : Pos} {g g' : GT} (h : T X C a g) (h' : TW X C (.BoolOp .Or (b :: rest) pos) g') : TW X C (.BoolOp .Or (a :: b :: rest) pos) (tOr g g') :=
  wkW (pw_or h h') fun σ H Q h => by
    obtain ⟨lk, am, F, M, δ, H0, b, M', re, sr, h, P⟩ := h
    unfold tOr at h
    obtain ⟨⟨c, M1⟩, h1, h2⟩ := Option.bind_eq_some_iff.mp h
    refine ⟨lk, am, F, M, δ, H0, c, M1, re, sr, h1, fun am1 F1 H1 g1 s1 => ?_⟩
    cases c with
    | false => exact iteF ⟨lk, am1, F1, M1, δ, H0, b, M', re.gr g1, s1, h2, P.gr g1⟩
    | true => cases h2; exact iteT (P _ _ _ g1 s1)
theorem tw_t {e : Expr} {g : GT} (h : TW X C e g) : T X C e g := PW.pt h
theorem t_not {a : Expr} {pos : Pos} {g : GT} (h : T X C a g) : T X C (.UnaryOp .Not a pos) (tNot g) := wkT (pt_not h) fun σ H Q h => by
  obtain ⟨lk, am, F, M, δ, H0, b, M', re, sr, h, P⟩ := h
  unfold tNot at h
  obtain ⟨⟨c, M1⟩, h1, h2⟩ := Option.map_eq_some_iff.mp h
  cases h2
  exact ⟨lk, am, F, M, δ, H0, c, _, re, sr, h1, fun am1 F1 H1 g1 s1 => P _ _ _ g1 s1⟩
theorem e_if {c a b : Expr} {pos : Pos} {gc : GT} {ga gb : G} (hc : T X C c gc) (ha : E X C a ga) (hb : E X C b gb) : E X C (.IfExp c a b pos) (gIf gc ga gb) := wkE (pe_ifExp hc ha hb) fun σ H Q h => by
  obtain ⟨lk, am, F, M, δ, H0, w, M', re, sr, h, P⟩ := h
  unfold gIf at h
  obtain ⟨⟨c, M1⟩, h1, h2⟩ := Option.bind_eq_some_iff.mp h
  refine ⟨lk, am, F, M, δ, H0, c, M1, re, sr, h1, fun am1 F1 H1 g1 s1 => ?_⟩
  cases c with
  | true => exact iteT ⟨lk, am1, F1, M1, δ, H0, w, M', re.gr g1, s1, h2, P.gr g1⟩
  | false => exact iteF ⟨lk, am1, F1, M1, δ, H0, w, M', re.gr g1, s1, h2, P.gr g1⟩
/-! ### and, or, not as values -/
theorem tv_of {g : G} {δ : En} {b : Bool} (h : tV g δ M = some (b, M')) : g δ M = some (.d (.bl b), M') := by
  unfold tV at h
  split at h
  · rename_i e; cases h; exact e
  · cases h
theorem e_one {o : BoolOp} {a : Expr} {pos : Pos} {g : G} (h : E X C a g) : E X C (.BoolOp o [a] pos) g := pe_one h
theorem e_and {a b : Expr} {rest : List Expr} {pos : Pos} {g g' : G} (h : E X C a g) (h' : E X C (.BoolOp .And (b :: rest) pos) g') : E X C (.BoolOp .And (a :: b :: rest) pos) (gAnd g g') := wkE (pe_and h h') fun σ H Q h => by
  obtain ⟨lk, am, F, M, δ, H0, w, M', re, sr, h, P⟩ := h
  unfold gAnd at h
  obtain ⟨⟨c, M1⟩, h1, h2⟩ := Option.bind_eq_some_iff.mp h
  refine ⟨lk, am, F, M, δ, H0, _, M1, re, sr, tv_of h1, fun v am1 F1 H1 g1 s1 r1 _ => ?_⟩
  cases (show DV X.K am1 F1 v (.bl c) from r1)
  refine ⟨c, rfl, ?_⟩
  cases c with
  | true => exact iteT ⟨lk, am1, F1, M1, δ, H0, w, M', re.gr g1, s1, h2, P.gr g1⟩
  | false => cases h2; exact iteF ((P.gr g1).val s1 (.bl false))
theorem e_or {a b : Expr} {rest : List Expr} {pos : Pos} {g g' : G} (h : E X C a g) (h' : E X C (.BoolOp .Or (b :: rest) pos) g') : E X C (.BoolOp .Or (a :: b :: rest) pos) (gOr g g') := wkE (pe_or h h') fun σ H Q h => by
  obtain ⟨lk, am, F, M, δ, H0, w, M', re, sr, h, P⟩ := h
  unfold gOr at h
  obtain ⟨⟨c, M1⟩, h1, h2⟩ := Option.bind_eq_some_iff.mp h
  refine ⟨lk, am, F, M, δ, H0, _, M1, re, sr, tv_of h1, fun v am1 F1 H1 g1 s1 r1 _ => ?_⟩
  cases (show DV X.K am1 F1 v (.bl c) from r1)
  refine ⟨c, rfl, ?_⟩
  cases c with
  | false => exact iteF ⟨lk, am1, F1, M1, δ, H0, w, M', re.gr g1, s1, h2, P.gr g1⟩
  | true => cases h2; exact iteT ((P.gr g1).val s1 (.bl true))
theorem e_not {a : Expr} {pos : Pos} {g : G} (h : E X C a g) : E X C (.UnaryOp .Not a pos) (gNot g) := wkE (pe_not h) fun σ H Q h => by
  obtain ⟨lk, am, F, M, δ, H0, w, M', re, sr, h, P⟩ := h
  unfold gNot at h
  obtain ⟨⟨c, M1⟩, h1, h2⟩ := Option.map_eq_some_iff.mp h
  cases h2
  refine ⟨lk, am, F, M, δ, H0, _, _, re, sr, tv_of h1, fun v am1 F1 H1 g1 s1 r1 _ => ?_⟩
  cases (show DV X.K am1 F1 v (.bl c) from r1)
  exact ⟨c, rfl, (P.gr g1).val s1 (.bl _)⟩
/-! ### chains -/
theorem chain_go {r r' : R2} {op op' : W → W → Sto → Option W} {ga gb gc : G} {R : Rc} {σ : St} {H : Hp} {Q : VK} (hc : OpC R r op) (hc' : OpC R r' op') (h : tG R (gChain op op' ga gb gc) σ H Q) : tChain r r' (tG R ga) (tG R gb) (tG R gc) σ H Q := by
  obtain ⟨lk, am, F, M, δ, H0, w, M', re, sr, h, P⟩ := h
  unfold gChain at h
  simp only [Option.bind_eq_some_iff, Prod.exists] at h
  obtain ⟨x, M1, h1, y, M2, h2, h3⟩ := h
  refine ⟨lk, am, F, M, δ, H0, x, M1, re, sr, h1, fun v am1 F1 H1 g1 s1 r1 f1 => ⟨lk, am1, F1, M1, δ, H0, y, M2, re.gr g1, s1, h2, fun u am2 F2 H2 g2 s2 r2 f2 => ?_⟩⟩
  split at h3
  · rename_i e
    refine hc lk am2 F2 M2 H2 H0 v u x y _ _ s2 (r1.gr g2) r2 e fun z am3 F3 H3 g3 s3 r3 _ => ?_
    cases (show DV R.K am3 F3 z (.bl true) from r3)
    refine ⟨true, rfl, iteT ?_⟩
    simp only [Option.bind_eq_some_iff, Option.map_eq_some_iff, Prod.exists, Prod.mk.injEq] at h3
    obtain ⟨t, M3, h4, q, h5, rfl, rfl⟩ := h3
    exact ⟨lk, am3, F3, M2, δ, H0, t, M3, (re.gr g1).gr (g2.trans g3), s3, h4, fun z am4 F4 H4 g4 s4 r4 f4 => hc' lk am4 F4 M3 H4 H0 u z y t q _ s4 (r2.gr (g3.trans g4)) r4 h5 (P.gr ((g1.trans g2).trans (g3.trans g4)))⟩
  · rename_i e
    refine hc lk am2 F2 M2 H2 H0 v u x y _ _ s2 (r1.gr g2) r2 e fun z am3 F3 H3 g3 s3 r3 _ => ?_
    cases (show DV R.K am3 F3 z (.bl false) from r3)
    cases h3
    exact ⟨false, rfl, iteF ((P.gr ((g1.trans g2).trans g3)).val s3 (.bl false))⟩
  · cases h3
theorem e_chain {o o' : CmpOp} {a b c : Expr} {ga gb gc : G} {pos : Pos} {r r' : R2} {op op' : W → W → Sto → Option W} (ho : OpR X (compareOp o) r) (hc : OpC (rc X C) r op) (ho' : OpR X (compareOp o') r') (hc' : OpC (rc X C) r' op')
    (h1 : E X C a ga) (h2 : E X C b gb) (h3 : E X C c gc) (hm : lastMarks [o, o'] [b, c] = false := by with_unfolding_all rfl) : E X C (.Compare a [o, o'] [b, c] pos) (gChain op op' ga gb gc) :=
  wkE (pe_chain (pos := pos) ho ho' h1 h2 h3 hm) fun σ H Q h => chain_go hc hc' h
theorem t_chain {o o' : CmpOp} {a b c : Expr} {ga gb gc : G} {pos : Pos} {r r' : R2} {op op' : W → W → Sto → Option W} (ho : OpR X (compareOp o) r) (hc : OpC (rc X C) r op) (ho' : OpR X (compareOp o') r') (hc' : OpC (rc X C) r' op')
    (h1 : E X C a ga) (h2 : E X C b gb) (h3 : E X C c gc) (hm : lastMarks [o, o'] [b, c] = false := by with_unfolding_all rfl) : T X C (.Compare a [o, o'] [b, c] pos) (tV (gChain op op' ga gb gc)) :=
  wkT (pt_chain (pos := pos) ho ho' h1 h2 h3 hm) fun σ H Q h => by
    obtain ⟨lk, am, F, M, δ, H0, b, M', re, sr, h, P⟩ := h
    refine chain_go hc hc' ⟨lk, am, F, M, δ, H0, _, M', re, sr, tv_of h, fun v am1 F1 H1 g1 s1 r1 _ => ?_⟩
    cases (show DV X.K am1 F1 v (.bl b) from r1)
    exact ⟨b, rfl, P _ _ _ g1 s1⟩
end
end Mi
/-! MiOps: operators and built-in things on plain data. -/
namespace Mi
open PySem L2

section
variable {X : Cx} {C : Zs} {R : Rc}

theorem OpC.or1 {r r' : R2} {op : W → W → Sto → Option W} (h : OpC R r op) : OpC R (fun x y H Q => r x y H Q ∨ r' x y H Q) op := fun lk am F M H H0 x y a b z Q s ra rb h' P => .inl (h lk am F M H H0 x y a b z Q s ra rb h' P)

/-! ### + -/
def rAddM (K : PySem.W.Frag) : R2 := fun x y H Q => (rI0 fun i j => .int (i + j)) x y H Q ∨ (∃ i j, x = V.str i ∧ y = V.str j ∧ i.length + j.length ≤ sizeLine ∧ Q (.str (i ++ j)) H) ∨ rCatA K x y H Q ∨ rCat x y H Q
theorem op_addM : OpR X (binaryOp .Add) (rAddM X.K) := op_add.or (op_add_str.or (op_catA.or op_cat))
theorem c_add : OpC R (rAddM R.K) addW := by
  intro lk am F M H H0 x y a b z Q s ra rb h P
  unfold addW at h
  split at h
  · rename_i i j
    cases ra
    cases rb
    cases h
    exact .inl ⟨i, j, rfl, rfl, P.val s (.int _)⟩
  · rename_i i j
    cases ra
    cases rb
    split at h
    · rename_i hl
      cases h
      exact .inr (.inl ⟨i, j, rfl, rfl, sz_le hl, P.val s (.str _)⟩)
    · cases h
  · split at h
    · rename_i xs ys e1 e2
      split at h
      · rename_i hl
        cases h
        obtain ⟨p, vs, rfl, h1, f1, d1⟩ := vT_ok s ra e1
        obtain ⟨q, us, rfl, h2, f2, d2⟩ := vT_ok s rb e2
        refine .inr (.inr (.inl ⟨p, q, vs, us, rfl, rfl, h1, h2, by rw [d1.length, d2.length]; exact sz_le hl, fun e => ?_, fun e1 e2 => ?_, fun _ _ => P.newT s (d1.append d2)⟩))
        · subst e
          cases d1
          exact P.val s (.tup f2 d2)
        · subst e2
          cases d2
          exact P.val s (by rw [List.append_nil]; exact .tup f1 d1)
      · cases h
    · split at h
      · rename_i xs ys e1 e2
        split at h
        · rename_i hl
          cases h
          obtain ⟨p, vs, rfl, h1, d1⟩ := vL_ok s ra e1
          obtain ⟨q, us, rfl, h2, d2⟩ := vL_ok s rb e2
          exact .inr (.inr (.inr ⟨p, q, vs, us, rfl, rfl, h1, h2, by rw [d1.length, d2.length]; exact sz_le hl, P.newL s (d1.append d2)⟩))
        · cases h
      · cases h

/-! ### numbers -/
theorem c_i {op : W → W → Sto → Option W} {cd : Int → Int → Prop} {g : Int → Int → Int} (ho : ∀ a b M z, op a b M = some z → ∃ i j, a = .d (.int i) ∧ b = .d (.int j) ∧ cd i j ∧ z = .d (.int (g i j))) : OpC R (rI cd fun i j => .int (g i j)) op := by
  intro lk am F M H H0 x y a b z Q s ra rb h P
  obtain ⟨i, j, rfl, rfl, hc, rfl⟩ := ho a b M z h
  cases ra
  cases rb
  exact ⟨i, j, rfl, rfl, hc, P.val s (.int _)⟩
theorem sub_inv {a b z : W} {M : Sto} (h : subW a b M = some z) : ∃ i j, a = .d (.int i) ∧ b = .d (.int j) ∧ True ∧ z = .d (.int (i - j)) := by
  unfold subW at h
  split at h
  · cases h; exact ⟨_, _, rfl, rfl, True.intro, rfl⟩
  · cases h
theorem op_subM : OpR X (binaryOp .Sub) (rI (fun _ _ => True) fun i j => .int (i - j)) := fun pins s σ H x y v u Q I rx ry ⟨i, j, e1, e2, _, q⟩ => op_sub pins s σ H x y v u Q I rx ry ⟨i, j, e1, e2, q⟩
theorem c_sub : OpC R (rI (fun _ _ => True) fun i j => .int (i - j)) subW := c_i fun _ _ _ _ h => sub_inv h
theorem big_ok {i j : Int} (h1 : i.natAbs < BIG) (h2 : j.natAbs < BIG) : CMulX i j := mulx_ok (a := 4000) (b := 4000) h1 h2 (by decide)
def rMulM (K : PySem.W.Frag) : R2 := fun x y H Q => (rI CMulX fun i j => .int (i * j)) x y H Q ∨ rRepT K x y H Q
theorem op_mulM : OpR X (binaryOp .Mult) (rMulM X.K) := op_mulX.or op_repT
theorem DVs.flat {K : PySem.W.Frag} {am : List Addr} {F : Hp} {vs : List V} {xs : List D} (h : DVs K am F vs xs) : ∀ n : Nat, DVs K am F (List.replicate n vs).flatten (List.replicate n xs).flatten
  | 0 => .nil
  | n + 1 => by
    rw [List.replicate_succ, List.replicate_succ, List.flatten_cons, List.flatten_cons]
    exact h.append (DVs.flat h n)
theorem c_mul : OpC R (rMulM R.K) mulW := by
  intro lk am F M H H0 x y a b z Q s ra rb h P
  unfold mulW at h
  split at h
  · rename_i i j
    split at h
    · rename_i hc
      cases h
      cases ra
      cases rb
      exact .inl ⟨i, j, rfl, rfl, big_ok hc.1 hc.2, P.val s (.int _)⟩
    · cases h
  · rename_i xs k
    split at h
    · rename_i hc
      obtain ⟨h1, h2, h3, h4⟩ := hc
      cases h
      cases rb
      obtain ⟨p, vs, rfl, e1, f1, d1⟩ := vT_ok s ra (xs := xs) rfl
      refine .inr ⟨p, k, vs, rfl, rfl, e1, fun e => h1 ?_, h2, h3, by rw [d1.length]; exact h4, P.newT s (d1.flat _)⟩
      subst e
      cases d1
      rfl
    · cases h
  · cases h
theorem op_fdvM : OpR X (binaryOp .FloorDiv) (rI CDivW fun i j => .int (i / j)) := op_fdivW
theorem c_fdv : OpC R (rI CDivW fun i j => .int (i / j)) fdvW := c_i fun a b M z h => by
  unfold fdvW at h
  split at h
  · split at h
    · rename_i hc
      cases h
      exact ⟨_, _, rfl, rfl, wide_div hc.1 (b := 4000) hc.2 (by decide) (by decide), rfl⟩
    · cases h
  · cases h
theorem c_mod : OpC R (rI (fun _ j => 0 < j) fun i j => .int (i % j)) modW := c_i fun a b M z h => by
  unfold modW at h
  split at h
  · split at h
    · rename_i hc
      cases h
      exact ⟨_, _, rfl, rfl, hc, rfl⟩
    · cases h
  · cases h
theorem c_pow : OpC R (rI CPow fun i j => .int (i ^ j.toNat)) powW := c_i fun a b M z h => by
  unfold powW at h
  split at h
  · split at h
    · rename_i hc
      obtain ⟨h1, h2, h3, h4⟩ := hc
      cases h
      refine ⟨_, _, rfl, rfl, ⟨h1, by omega, by omega⟩, rfl⟩
    · cases h
  · cases h

/-! ### order of numbers, texts -/
theorem c_cmpI {p : Int → Int → Bool} : OpC R (rI0 fun i j => .bl (p i j)) (cmpI p) := by
  intro lk am F M H H0 x y a b z Q s ra rb h P
  unfold cmpI at h
  split at h
  · rename_i i j
    cases h
    cases ra
    cases rb
    exact ⟨i, j, rfl, rfl, P.val s (.bl _)⟩
  · cases h
theorem c_le : OpC R (rI0 fun i j => .bl (decide (i ≤ j))) leW := c_cmpI
theorem c_gt : OpC R (rI0 fun i j => .bl (decide (j < i))) gtW := c_cmpI
theorem c_ge : OpC R (rI0 fun i j => .bl (decide (j ≤ i))) geW := c_cmpI

/-! ### equality -/
mutual
theorem D.py_lay : ∀ (n : Nat) (x : D), x.ok n = true → x.py.canLay0 = true ∧ x.py.depth ≤ n
  | n, .non, _ => by simp [D.py, PyData.canLay0, PyData.depth]
  | n, .bl _, _ => by simp [D.py, PyData.canLay0, PyData.depth]
  | n, .int _, _ => by simp [D.py, PyData.canLay0, PyData.depth]
  | n, .str s, h => by
    have h' : s.cps.all (· < 0x110000) = true := by simpa [D.ok] using h
    simp only [D.py, PyData.canLay0, PyData.depth]
    exact ⟨h', Nat.zero_le _⟩
  | 0, .tup _, h => by simp [D.ok] at h
  | 0, .tpl _, h => by simp [D.ok] at h
  | 0, .lst _, h => by simp [D.ok] at h
  | n + 1, .tpl xs, h => by
    have q := pys_lay n xs (by simpa [D.ok] using h)
    simp only [D.py, PyData.canLay0, PyData.depth]
    exact ⟨q.1, by omega⟩
  | n + 1, .tup xs, h => by
    have q := pys_lay n xs (by simpa [D.ok] using h)
    simp only [D.py, PyData.canLay0, PyData.depth]
    exact ⟨q.1, by omega⟩
  | n + 1, .lst xs, h => by
    have q := pys_lay n xs (by simpa [D.ok] using h)
    simp only [D.py, PyData.canLay0, PyData.depth]
    exact ⟨q.1, by omega⟩
  | n, .cel _, h => by simp [D.ok] at h
  | n, .rol _, h => by simp [D.ok] at h
  | n, .dic _, h => by simp [D.ok] at h
theorem pys_lay : ∀ (n : Nat) (xs : List D), oks n xs = true → PyData.canLayAll0 (pys xs) = true ∧ PyData.depthAll (pys xs) ≤ n
  | n, [], _ => by simp [pys, PyData.canLayAll0, PyData.depthAll]
  | n, x :: r, h => by
    have h' : x.ok n = true ∧ oks n r = true := by simpa [oks] using h
    have q1 := D.py_lay n x h'.1
    have q2 := pys_lay n r h'.2
    simp only [pys, PyData.canLayAll0, PyData.depthAll, q1.1, q2.1, Bool.and_self, true_and]
    omega
end
mutual
theorem eqv_py : ∀ (n : Nat) (x y : D), x.ok n = true → y.ok n = true → PyData.eqv x.py y.py = deq x y
  | n, x, y, hx, hy => by
    cases x with
    | tpl xs => cases y with
      | tup ys => cases n with
        | zero => simp [D.ok] at hx
        | succ n => simp only [D.py, PyData.eqv, deq]; exact eqvAll_py n xs ys (by simpa [D.ok] using hx) (by simpa [D.ok] using hy)
      | tpl ys => cases n with
        | zero => simp [D.ok] at hx
        | succ n => simp only [D.py, PyData.eqv, deq]; exact eqvAll_py n xs ys (by simpa [D.ok] using hx) (by simpa [D.ok] using hy)
      | cel _ => simp [D.ok] at hy
      | rol _ => simp [D.ok] at hy
      | dic _ => simp [D.ok] at hy
      | _ => simp only [D.py, PyData.eqv, deq]
    | tup xs => cases y with
      | tup ys => cases n with
        | zero => simp [D.ok] at hx
        | succ n => simp only [D.py, PyData.eqv, deq]; exact eqvAll_py n xs ys (by simpa [D.ok] using hx) (by simpa [D.ok] using hy)
      | tpl ys => cases n with
        | zero => simp [D.ok] at hx
        | succ n => simp only [D.py, PyData.eqv, deq]; exact eqvAll_py n xs ys (by simpa [D.ok] using hx) (by simpa [D.ok] using hy)
      | cel _ => simp [D.ok] at hy
      | rol _ => simp [D.ok] at hy
      | dic _ => simp [D.ok] at hy
      | _ => simp only [D.py, PyData.eqv, deq]
    | lst xs => cases y with
      | lst ys => cases n with
        | zero => simp [D.ok] at hx
        | succ n => simp only [D.py, PyData.eqv, deq]; exact eqvAll_py n xs ys (by simpa [D.ok] using hx) (by simpa [D.ok] using hy)
      | cel _ => simp [D.ok] at hy
      | rol _ => simp [D.ok] at hy
      | dic _ => simp [D.ok] at hy
      | _ => simp only [D.py, PyData.eqv, deq]
    | cel _ => simp [D.ok] at hx
    | rol _ => simp [D.ok] at hx
    | dic _ => simp [D.ok] at hx
    | _ => cases y with
      | cel _ => simp [D.ok] at hy
      | rol _ => simp [D.ok] at hy
      | dic _ => simp [D.ok] at hy
      | _ => simp only [D.py, PyData.eqv, deq]
theorem eqvAll_py : ∀ (n : Nat) (xs ys : List D), oks n xs = true → oks n ys = true → PyData.eqvAll (pys xs) (pys ys) = deqs xs ys
  | _, [], [], _, _ => by simp [pys, PyData.eqvAll, deqs]
  | _, [], _ :: _, _, _ => by simp [pys, PyData.eqvAll, deqs]
  | _, _ :: _, [], _, _ => by simp [pys, PyData.eqvAll, deqs]
  | n, x :: xs, y :: ys, hx, hy => by
    have h1 : x.ok n = true ∧ oks n xs = true := by simpa [oks] using hx
    have h2 : y.ok n = true ∧ oks n ys = true := by simpa [oks] using hy
    simp only [pys, PyData.eqvAll, deqs]
    rw [eqv_py n x y h1.1 h2.1, eqvAll_py n xs ys h1.2 h2.2]
end
theorem ok_shaped {n : Nat} {x : D} (h : x.ok n = true) (hn : n ≤ 64) : SeqAt.shaped x.py = true := by
  have q := D.py_lay n x h
  unfold SeqAt.shaped
  rw [q.1, Bool.true_and]
  exact decide_eq_true (by omega)
mutual
theorem DV.dp {K : PySem.W.Frag} {am : List Addr} {F H : Hp} (e : Le F H) : ∀ (n : Nat) {v : V} {x : D}, x.ok n = true → DV K am F v x → Dp K H v x.py
  | _, _, _, _, .non => .non
  | _, _, _, _, .bl b => .bl b
  | _, _, _, _, .int i => .int i
  | _, _, _, _, .str s => .str s
  | 0, _, _, h, .tup _ _ => by simp [D.ok] at h
  | 0, _, _, h, .lst _ _ => by simp [D.ok] at h
  | 0, _, _, h, .tpl _ _ => by simp [D.ok] at h
  | n + 1, _, _, h, .tup h1 h2 => .tup (e.seqT h1) (DVs.dp e n (by simpa [D.ok] using h) h2)
  | n + 1, _, _, h, .tpl h1 h2 => .tup (e.plT h1).sq (DVs.dp e n (by simpa [D.ok] using h) h2)
  | n + 1, _, _, h, .lst h1 h2 => .lst (.of (e _ _ h1)) (DVs.dp e n (by simpa [D.ok] using h) h2)
  | _, _, _, h, .cel _ => by simp [D.ok] at h
  | _, _, _, h, .rol _ => by simp [D.ok] at h
  | _, _, _, h, .dic _ _ => by simp [D.ok] at h
theorem DVs.dp {K : PySem.W.Frag} {am : List Addr} {F H : Hp} (e : Le F H) : ∀ (n : Nat) {v : List V} {x : List D}, oks n x = true → DVs K am F v x → DpAll K H v (pys x)
  | _, _, _, _, .nil => .nil
  | n, _, x :: r, h, .cons h1 h2 => by
    have h' : x.ok n = true ∧ oks n r = true := by simpa [oks] using h
    exact .cons (DV.dp e n h'.1 h1) (DVs.dp e n h'.2 h2)
end
theorem whole_dp {lk : Lk} {am : List Addr} {F H : Hp} {M : Sto} {w : W} {v : V} {x : D} {n : Nat} (s : SR R lk am F M H) (r : RW R.K lk am F H v w) (h : whole M w = some x) (ho : x.ok n = true) : Dp R.K H v x.py := by
  unfold whole at h
  split at h
  · rename_i xs e
    cases h
    obtain ⟨a, vs, rfl, h1, d⟩ := vL_ok s r e
    cases n with
    | zero => simp [D.ok] at ho
    | succ n => exact .lst (.of h1) (d.dp s.ex n (by simpa [D.ok] using ho))
  · split at h
    · cases h
    · cases h
    · cases h
      exact DV.dp s.ex n ho r
    · cases h
def rEqM (K : PySem.W.Frag) (f : Bool → Bool) : R2 := fun x y H Q => (scalS x y = true ∧ Q (.bl (f (decide (x = y)))) H) ∨ ∃ d e, Dp K H x d ∧ Dp K H y e ∧ SeqAt.shaped d = true ∧ SeqAt.shaped e = true ∧ Q (.bl (f (PyData.eqv d e))) H
where scalS : V → V → Bool
  | .int _, .int _ => true
  | .bl _, .bl _ => true
  | .str _, .str _ => true
  | _, _ => false
theorem scalS_scal {x y : V} (h : rEqM.scalS x y = true) : scal x y = true := by
  cases x <;> cases y <;> first | rfl | exact absurd (show false = true from h) Bool.false_ne_true
theorem op_eqM (hu : X.A.units + 64 < cLine) : OpR X (compareOp .Eq) (rEqM X.K id) := fun pins s σ H x y v u Q I rx ry h => by
  rcases h with ⟨h, q⟩ | ⟨d, e, h1, h2, h3, h4, q⟩
  · exact op_eq pins s σ H x y v u Q I rx ry ⟨scalS_scal h, q⟩
  · exact op_eqD hu pins s σ H x y v u Q I rx ry ⟨d, e, h1, h2, h3, h4, q⟩
theorem op_neM (hu : X.A.units + 64 < cLine) : OpR X (compareOp .NotEq) (rEqM X.K not) := fun pins s σ H x y v u Q I rx ry h => by
  rcases h with ⟨h, q⟩ | ⟨d, e, h1, h2, h3, h4, q⟩
  · exact op_ne pins s σ H x y v u Q I rx ry ⟨scalS_scal h, q⟩
  · exact op_neD hu pins s σ H x y v u Q I rx ry ⟨d, e, h1, h2, h3, h4, q⟩
theorem whole_flat {K : PySem.W.Frag} {lk : Lk} {am : List Addr} {F H : Hp} {M : Sto} {w : W} {v : V} {x : D} (r : RW K lk am F H v w) (h : whole M w = some x) (hx : x.flat = true) : DV K am F v x := by
  unfold whole at h
  split at h
  · cases h; cases hx
  · split at h
    · cases h
    · cases h
    · cases h; exact r
    · cases h
theorem c_eqf {f : Bool → Bool} {op : W → W → Sto → Option W} (ho : ∀ a b M z, op a b M = some z → ∃ x y r, whole M a = some x ∧ whole M b = some y ∧ eqD x y = some r ∧ z = .d (.bl (f r))) : OpC R (rEqM R.K f) op := by
  intro lk am F M H H0 x y a b z Q s ra rb h P
  obtain ⟨dx, dy, r, h1, h2, h3, rfl⟩ := ho a b M z h
  unfold eqD at h3
  split at h3
  · cases h3
    cases whole_flat ra h1 rfl
    cases whole_flat rb h2 rfl
    exact .inl ⟨rfl, by rw [dec_str]; exact P.val s (.bl _)⟩
  · cases h3
    cases whole_flat ra h1 rfl
    cases whole_flat rb h2 rfl
    exact .inl ⟨rfl, by rw [dec_int]; exact P.val s (.bl _)⟩
  · cases h3
    cases whole_flat ra h1 rfl
    cases whole_flat rb h2 rfl
    exact .inl ⟨rfl, by rw [dec_bl]; exact P.val s (.bl _)⟩
  · split at h3
    · rename_i hk
      cases h3
      have hk' : dx.ok 60 = true ∧ dy.ok 60 = true := by simpa using hk
      refine .inr ⟨_, _, whole_dp s ra h1 hk'.1, whole_dp s rb h2 hk'.2, ok_shaped hk'.1 (by decide), ok_shaped hk'.2 (by decide), ?_⟩
      rw [eqv_py 60 _ _ hk'.1 hk'.2]
      exact P.val s (.bl _)
    · cases h3
theorem eqW_inv {f : Bool → Bool} {a b z : W} {M : Sto} (h : ((whole M a).bind fun x => (whole M b).bind fun y => (eqD x y).map fun r => W.d (.bl (f r))) = some z) : ∃ x y r, whole M a = some x ∧ whole M b = some y ∧ eqD x y = some r ∧ z = .d (.bl (f r)) := by
  simp only [Option.bind_eq_some_iff, Option.map_eq_some_iff] at h
  obtain ⟨x, h1, y, h2, r, h3, rfl⟩ := h
  exact ⟨x, y, r, h1, h2, h3, rfl⟩
theorem c_eq : OpC R (rEqM R.K id) eqW := c_eqf fun _ _ _ _ h => eqW_inv (f := id) h
theorem c_ne : OpC R (rEqM R.K not) neW := c_eqf fun _ _ _ _ h => eqW_inv (f := not) h

/-! ### is -/
def rIsM (f : Bool → Bool) : R2 := fun x y H Q => (y = .non ∧ Q (.bl (f (decide (x = .non)))) H) ∨ ∃ a b : Bool, x = .bl a ∧ y = .bl b ∧ Q (.bl (f (decide (a = b)))) H
theorem op_isM : OpR X (compareOp .Is) (rIsM id) := op_isN.or op_is_bl
theorem op_isnM : OpR X (compareOp .IsNot) (rIsM not) := op_notN.or op_isnot_bl
theorem rw_non {K : PySem.W.Frag} {lk : Lk} {am : List Addr} {F H : Hp} {v : V} : ∀ {w : W}, RW K lk am F H v w → (v = .non ↔ w = .d .non)
  | .d x, r => by
    cases (show DV K am F v x from r) <;> simp
  | .ol _, ⟨_, _, e, _⟩ => by simp [e]
  | .fr _, ⟨_, _, e, _⟩ => by simp [e]
  | .od _ _, ⟨_, _, e, _⟩ => by simp [e]
  | .fd _, ⟨_, _, e, _⟩ => by simp [e]
theorem is_inv {a b z : W} {M : Sto} (h : isNonW a b M = some z) : (b = .d .non ∧ ((a = .d .non ∧ z = .d (.bl true)) ∨ (a ≠ .d .non ∧ z = .d (.bl false)))) ∨ ∃ x y, a = .d (.bl x) ∧ b = .d (.bl y) ∧ z = .d (.bl (x == y)) := by
  unfold isNonW at h
  split at h
  · refine .inl ⟨rfl, ?_⟩
    split at h
    · cases h; exact .inl ⟨rfl, rfl⟩
    · cases h; exact .inr ⟨by simp, rfl⟩
    · rename_i n1 n2
      cases h
      exact .inr ⟨by intro e; cases e; exact n1 rfl, rfl⟩
    · rename_i n1 n2 n3
      cases h
      exact .inr ⟨by intro e; cases e; exact n1 rfl, rfl⟩
  · split at h
    · cases h; exact .inr ⟨_, _, rfl, rfl, rfl⟩
    · cases h
  · cases h
theorem is_go {f : Bool → Bool} {lk : Lk} {am : List Addr} {F H H0 : Hp} {M : Sto} {x y : V} {a b z : W} {Q : VK} (s : SR R lk am F M H) (ra : RW R.K lk am F H x a) (rb : RW R.K lk am F H y b) {r : Bool} (hz : isNonW a b M = some (.d (.bl r))) (P : Pst R lk am F M H H0 (.d (.bl (f r))) Q) : rIsM f x y H Q := by
  have hi := is_inv hz
  clear hz
  rcases hi with ⟨rfl, h⟩ | ⟨p, q, rfl, rfl, h⟩
  · cases rb
    refine .inl ⟨rfl, ?_⟩
    rcases h with ⟨rfl, h⟩ | ⟨h1, h⟩
    · cases h
      rw [(rw_non ra).mpr rfl, decide_eq_true rfl]
      exact P.val s (.bl _)
    · cases h
      rw [decide_eq_false fun e => h1 ((rw_non ra).mp e)]
      exact P.val s (.bl _)
  · cases ra
    cases rb
    cases h
    refine .inr ⟨p, q, rfl, rfl, ?_⟩
    rw [← Bool.beq_eq_decide_eq]
    exact P.val s (.bl _)
theorem c_is : OpC R (rIsM id) isNonW := by
  intro lk am F M H H0 x y a b z Q s ra rb h P
  obtain ⟨r, rfl⟩ : ∃ r, z = .d (.bl r) := by
    rcases is_inv h with ⟨_, ⟨_, e⟩ | ⟨_, e⟩⟩ | ⟨_, _, _, _, e⟩ <;> exact ⟨_, e⟩
  exact is_go (z := a) s ra rb h P
theorem c_isn : OpC R (rIsM not) isNotW := by
  intro lk am F M H H0 x y a b z Q s ra rb h P
  unfold isNotW at h
  split at h
  · rename_i r e
    cases h
    exact is_go (z := a) s ra rb e P
  · cases h

/-! ### one operand -/
theorem e_neg {a : Expr} {g : G} {pos : Pos} (h : E X C a g) : E X C (.UnaryOp .USub a pos) (gUn negW g) := wkE (pe_un un_neg h) fun σ H Q h => by
  obtain ⟨lk, am, F, M, δ, H0, w, M', re, sr, h, P⟩ := h
  unfold gUn at h
  simp only [Option.bind_eq_some_iff, Option.map_eq_some_iff, Prod.exists, Prod.mk.injEq] at h
  obtain ⟨a, M1, h1, z, h2, rfl, rfl⟩ := h
  refine ⟨lk, am, F, M, δ, H0, a, M1, re, sr, h1, fun v am1 F1 H1 g1 s1 r1 f1 => ?_⟩
  unfold negW at h2
  split at h2
  · cases h2
    cases r1
    exact ⟨_, rfl, (P.gr g1).val s1 (.int _)⟩
  · cases h2
end
end Mi
/-! MiBlt: built-in functions, subscripts, slices, membership. -/
namespace Mi
open PySem L2

section
variable {X : Cx} {C : Zs} {R : Rc}
/-! ### the cells' lists as values -/
theorem DVs.dInts {K : PySem.W.Frag} {am : List Addr} {F : Hp} : ∀ {vs : List V} {xs : List D} {ns : List Int}, DVs K am F vs xs → dInts xs = some ns → vs = ns.map V.int
  | _, _, _, .nil, h => by cases h; rfl
  | _, x :: r, ns, .cons h1 h2, h => by
    cases x with
    | int i =>
      unfold Mi.dInts at h
      obtain ⟨l, e, rfl⟩ := Option.map_eq_some_iff.mp h
      cases h1
      rw [DVs.dInts h2 e]
      rfl
    | _ => exact absurd h (by unfold Mi.dInts; simp)
theorem DVs.dBools {K : PySem.W.Frag} {am : List Addr} {F : Hp} : ∀ {vs : List V} {xs : List D} {ns : List Bool}, DVs K am F vs xs → dBools xs = some ns → vs = ns.map V.bl
  | _, _, _, .nil, h => by cases h; rfl
  | _, x :: r, ns, .cons h1 h2, h => by
    cases x with
    | bl i =>
      unfold Mi.dBools at h
      obtain ⟨l, e, rfl⟩ := Option.map_eq_some_iff.mp h
      cases h1
      rw [DVs.dBools h2 e]
      rfl
    | _ => exact absurd h (by unfold Mi.dBools; simp)
theorem DVs.dStrs {K : PySem.W.Frag} {am : List Addr} {F : Hp} : ∀ {vs : List V} {xs : List D} {ns : List Str}, DVs K am F vs xs → dStrs xs = some ns → vs = ns.map V.str
  | _, _, _, .nil, h => by cases h; rfl
  | _, x :: r, ns, .cons h1 h2, h => by
    cases x with
    | str i =>
      unfold Mi.dStrs at h
      obtain ⟨l, e, rfl⟩ := Option.map_eq_some_iff.mp h
      cases h1
      rw [DVs.dStrs h2 e]
      rfl
    | _ => exact absurd h (by unfold Mi.dStrs; simp)
theorem rws1 {K : PySem.W.Frag} {lk : Lk} {am : List Addr} {F H : Hp} {vs : List V} {w : W} (r : RWs K lk am F H vs [w]) : ∃ v, vs = [v] ∧ RW K lk am F H v w := by
  cases r with
  | cons h t => cases t; exact ⟨_, rfl, h⟩
theorem rws2 {K : PySem.W.Frag} {lk : Lk} {am : List Addr} {F H : Hp} {vs : List V} {w u : W} (r : RWs K lk am F H vs [w, u]) : ∃ v z, vs = [v, z] ∧ RW K lk am F H v w ∧ RW K lk am F H z u := by
  cases r with
  | cons h t =>
    cases t with
    | cons h2 t2 => cases t2; exact ⟨_, _, rfl, h, h2⟩

/-! ### len -/
theorem KVs.length {κ : Type} {K : PySem.W.Frag} {am : List Addr} {F : Hp} : ∀ {vs : List (κ × V)} {xs : List (κ × D)}, KVs K am F vs xs → vs.length = xs.length
  | _, _, .nil => rfl
  | _, _, .cons _ t => by simp [KVs.length t]
def rLenM (K : PySem.W.Frag) : List V → Hp → VK → Prop := fun xs H Q => (∃ x n, xs = [x] ∧ LenV K x H n ∧ Q (.int n) H) ∨ ∃ a kvs, xs = [V.ref a] ∧ Rd H a (.dK kvs) ∧ Q (.int kvs.length) H
theorem call_lenM : CallR X (.builtin "len") (rLenM X.K) := by
  intro pins s σ H xs us Q I r h
  rcases h with h | ⟨a, kvs, rfl, ha, q⟩
  · exact call_len pins s σ H xs us Q I r h
  · obtain ⟨u, rfl, ru⟩ := vals1 r
    cases ru
    exact d_len I ha fun t s' I' => ⟨.int kvs.length, H, I', ⟨t, rfl⟩, q⟩
theorem c_len : CallC R (rLenM R.K) lenW := by
  intro lk am F M H H0 vs ws z Q s r h P
  unfold lenW at h
  split at h
  · rename_i w
    obtain ⟨v, rfl, rw⟩ := rws1 r
    obtain ⟨n, h1, rfl⟩ := Option.map_eq_some_iff.mp h
    unfold lenOf at h1
    split at h1
    · rename_i y
      split at h1
      · rename_i hl
        cases h1
        cases rw
        exact .inl ⟨_, y.length, rfl, ⟨sz_le hl, rfl⟩, P.val s (.int _)⟩
      · cases h1
    · rename_i ns
      cases h1
      cases (show DV R.K am F v (.rol ns) from rw) with
      | @rol a _ h2 => exact .inl ⟨_, ns.length, rfl, .inl ⟨_, (show Le F H from s.ex).seqL h2, by simp⟩, P.val s (.int _)⟩
    · split at h1
      · rename_i xs e
        cases h1
        obtain ⟨a, vs, rfl, h2, d⟩ := vS_ok s rw e
        refine .inl ⟨_, vs.length, rfl, ?_, by rw [d.length]; exact P.val s (.int _)⟩
        rcases h2 with h2 | h2
        · exact .inl ⟨vs, .of h2, rfl⟩
        · exact .inr ⟨vs, h2, rfl⟩
      · obtain ⟨kv, e, rfl⟩ := Option.map_eq_some_iff.mp h1
        obtain ⟨a, kvs, rfl, h2, d⟩ := vK_ok s rw e
        exact .inr ⟨a, kvs, rfl, h2, by rw [d.length]; exact P.val s (.int _)⟩
  · cases h
/-! ### abs, min, max, sum, all, any -/
theorem c_abs : CallC R (fun xs H Q => ∃ i, xs = [V.int i] ∧ Q (.int (if i < 0 then -i else i)) H) absW := by
  intro lk am F M H H0 vs ws z Q s r h P
  unfold absW at h
  split at h
  · rename_i i
    cases h
    obtain ⟨v, rfl, rw⟩ := rws1 r
    cases rw
    exact ⟨i, rfl, P.val s (.int _)⟩
  · cases h
theorem c_min : CallC R (fun xs H Q => ∃ i j, xs = [V.int i, V.int j] ∧ Q (.int (if j < i then j else i)) H) minW := by
  intro lk am F M H H0 vs ws z Q s r h P
  unfold minW at h
  split at h
  · rename_i i j
    cases h
    obtain ⟨v, u, rfl, rw, ru⟩ := rws2 r
    cases rw
    cases ru
    exact ⟨i, j, rfl, P.val s (.int _)⟩
  · cases h
theorem maxI_fold : ∀ (r : List Int) (x : Int), (∀ y ∈ x :: r, y ≤ r.foldl (fun a b => if b > a then b else a) x) ∧ r.foldl (fun a b => if b > a then b else a) x ∈ x :: r
  | [], x => by simp
  | z :: r, x => by
    simp only [List.foldl_cons]
    have ih := maxI_fold r (if z > x then z else x)
    have hle : (if z > x then z else x) ≤ r.foldl (fun a b => if b > a then b else a) (if z > x then z else x) := ih.1 _ (by simp)
    have h2 : x ≤ (if z > x then z else x) ∧ z ≤ (if z > x then z else x) := by split <;> omega
    have h3 : (if z > x then z else x) = x ∨ (if z > x then z else x) = z := by split <;> simp
    generalize (if z > x then z else x) = m at *
    constructor
    · intro y hy
      rcases List.mem_cons.mp hy with e | hy
      · omega
      · rcases List.mem_cons.mp hy with e | hy
        · omega
        · exact ih.1 y (List.mem_cons_of_mem _ hy)
    · rcases List.mem_cons.mp ih.2 with e | h
      · rcases h3 with h3 | h3
        · rw [e, h3]; simp
        · rw [e, h3]; simp
      · exact List.mem_cons_of_mem _ (List.mem_cons_of_mem _ h)
theorem maxI_uniq {ns : List Int} {m : Int} (h : m ∈ ns) (hle : ∀ y, y ∈ ns → y ≤ m) : m = maxI ns := by
  cases ns with
  | nil => cases h
  | cons x r =>
    have q := maxI_fold r x
    have h1 := hle _ q.2
    have h2 := q.1 _ h
    show m = r.foldl (fun a b => if b > a then b else a) x
    omega
def rMaxM (K : PySem.W.Frag) : List V → Hp → VK → Prop := fun xs H Q => (∃ i j, xs = [V.int i, V.int j] ∧ Q (.int (if j > i then j else i)) H) ∨ rMax K xs H Q
theorem call_maxM (hc : X.calm = true) : CallR X (.builtin "max") (rMaxM X.K) := (call_max2 hc).or (cr_max hc)
theorem c_max : CallC R (rMaxM R.K) maxW := by
  intro lk am F M H H0 vs ws z Q s r h P
  unfold maxW at h
  split at h
  · rename_i i j
    cases h
    obtain ⟨v, u, rfl, rw, ru⟩ := rws2 r
    cases rw
    cases ru
    exact .inl ⟨i, j, rfl, P.val s (.int _)⟩
  · rename_i w
    simp only [Option.bind_eq_some_iff] at h
    obtain ⟨xs, h1, ns, h2, h3⟩ := h
    split at h3
    · cases h3
    · rename_i hne
      cases h3
      obtain ⟨v, rfl, rw⟩ := rws1 r
      obtain ⟨a, vs, rfl, e, d⟩ := vL_ok s rw h1
      have ev := d.dInts h2
      subst ev
      refine .inr ⟨a, ns, rfl, .of e, List.length_pos_iff.mpr hne, fun m hm hle => ?_⟩
      rw [maxI_uniq hm hle]
      exact P.val s (.int _)
  · cases h
theorem c_sum : CallC R (rSum R.K) sumW := by
  intro lk am F M H H0 vs ws z Q s r h P
  unfold sumW at h
  split at h
  · simp only [Option.bind_eq_some_iff, Option.map_eq_some_iff] at h
    obtain ⟨xs, h1, ns, h2, rfl⟩ := h
    obtain ⟨v, rfl, rw⟩ := rws1 r
    obtain ⟨a, vs, rfl, e, d⟩ := vL_ok s rw h1
    have ev := d.dInts h2
    subst ev
    exact ⟨a, ns, rfl, .of e, P.val s (.int _)⟩
  · cases h
theorem c_all : CallC R (rAll R.K) allW := by
  intro lk am F M H H0 vs ws z Q s r h P
  unfold allW at h
  split at h
  · simp only [Option.bind_eq_some_iff, Option.map_eq_some_iff] at h
    obtain ⟨xs, h1, ns, h2, rfl⟩ := h
    obtain ⟨v, rfl, rw⟩ := rws1 r
    obtain ⟨a, vs, rfl, e, d⟩ := vL_ok s rw h1
    have ev := d.dBools h2
    subst ev
    exact ⟨a, ns, rfl, .of e, P.val s (.bl _)⟩
  · cases h
theorem c_any : CallC R (rAny R.K) anyW := by
  intro lk am F M H H0 vs ws z Q s r h P
  unfold anyW at h
  split at h
  · simp only [Option.bind_eq_some_iff, Option.map_eq_some_iff] at h
    obtain ⟨xs, h1, ns, h2, rfl⟩ := h
    obtain ⟨v, rfl, rw⟩ := rws1 r
    obtain ⟨a, vs, rfl, e, d⟩ := vL_ok s rw h1
    have ev := d.dBools h2
    subst ev
    exact ⟨a, ns, rfl, .of e, P.val s (.bl _)⟩
  · cases h
/-! ### list, tuple, int, str -/
theorem c_list : CallC R (fun xs H Q => ∃ p ys, xs = [V.ref p] ∧ (SqL R.K H p ys ∨ SqT R.K H p ys) ∧ ∀ l, H l = none → Q (.ref l) (upd H l (.lst ys))) listW := by
  intro lk am F M H H0 vs ws z Q s r h P
  unfold listW at h
  split at h
  · obtain ⟨xs, h1, rfl⟩ := Option.map_eq_some_iff.mp h
    obtain ⟨v, rfl, rw⟩ := rws1 r
    obtain ⟨a, vs, rfl, e, d⟩ := vS_ok s rw h1
    exact ⟨a, vs, rfl, sq_or e, P.newL s d⟩
  · cases h
theorem c_tuple : CallC R (fun xs H Q => ∃ p ys, xs = [V.ref p] ∧ ((SqL R.K H p ys ∧ ∀ l, H l = none → Q (.ref l) (upd H l (.tup ys))) ∨ (SqT R.K H p ys ∧ Q (.ref p) H))) tupleW := by
  intro lk am F M H H0 vs ws z Q s r h P
  unfold tupleW at h
  split at h
  · obtain ⟨xs, h1, rfl⟩ := Option.map_eq_some_iff.mp h
    obtain ⟨v, rfl, rw⟩ := rws1 r
    unfold vS at h1
    split at h1
    · rename_i ys e
      cases h1
      obtain ⟨a, vs, rfl, e1, e2, d⟩ := vT_ok s rw e
      exact ⟨a, vs, rfl, .inr ⟨e1, P.val s (.tup e2 d)⟩⟩
    · obtain ⟨a, vs, rfl, e1, d⟩ := vL_ok s rw h1
      exact ⟨a, vs, rfl, .inl ⟨.of e1, P.newT s d⟩⟩
  · cases h
theorem c_int : CallC R (fun xs H Q => (∃ i, xs = [V.int i] ∧ Q (.int i) H) ∨ ∃ k, xs = [V.bl k] ∧ Q (.int (if k then 1 else 0)) H) intW := by
  intro lk am F M H H0 vs ws z Q s r h P
  unfold intW at h
  split at h
  · cases h
    obtain ⟨v, rfl, rw⟩ := rws1 r
    cases rw
    exact .inl ⟨_, rfl, P.val s (.int _)⟩
  · cases h
    obtain ⟨v, rfl, rw⟩ := rws1 r
    cases rw
    exact .inr ⟨_, rfl, P.val s (.int _)⟩
  · cases h
theorem c_str : CallC R (fun xs H Q => ∃ i, xs = [V.int i] ∧ i.natAbs.log2 < 1920 ∧ Q (.str (toString i)) H) strW := by
  intro lk am F M H H0 vs ws z Q s r h P
  unfold strW at h
  split at h
  · split at h
    · rename_i hl
      cases h
      obtain ⟨v, rfl, rw⟩ := rws1 r
      cases rw
      exact ⟨_, rfl, Nat.lt_trans (PySem.Flt.log2_lt_of (by decide) hl) (by decide), P.val s (.str _)⟩
    · cases h
  · cases h

/-! ### isinstance -/
def kdT : Kd → String
  | .non => "NoneType"
  | .bl => "bool"
  | .int => "int"
  | .str => "str"
  | .tup => "tuple"
  | .lst => "list"
  | .dct => "dict"
  | .oth => ""
theorem lkd_ty {K : PySem.W.Frag} {H : Hp} {a : Addr} {l : Option (Obj × HO)} {kvs : List (Key × V)} (h : H a = some (lkd l (.dK kvs))) : TyX K H (.ref a) (.type "dict") := by
  cases l with
  | none => exact .base (.dK h)
  | some o => exact .fDict h
theorem sqT_ty {K : PySem.W.Frag} {H : Hp} {a : Addr} {vs : List V} (h : SqT K H a vs) : TyX K H (.ref a) (.type "tuple") := by
  rcases h with (h | ⟨o, h⟩) | ⟨o, its, n, h1, h2, _⟩
  · exact .base (.tup h)
  · exact .fTuple h
  · exact .kTuple h1 h2
theorem kd_ty {lk : Lk} {am : List Addr} {F H : Hp} {M : Sto} {w : W} {v : V} (s : SR R lk am F M H) (r : RW R.K lk am F H v w) (h : kdOf M w ≠ .oth) : TyX R.K H v (.type (kdT (kdOf M w))) := by
  cases w with
  | ol xs => obtain ⟨a, vs, rfl, h1, _⟩ := r; exact .base (.lst h1)
  | fr xs => obtain ⟨a, vs, rfl, h1, _⟩ := r; exact .base (.lst h1)
  | od l xs => obtain ⟨a, vs, rfl, h1, _⟩ := r; exact lkd_ty h1
  | fd xs => obtain ⟨a, vs, rfl, h1, _⟩ := r; exact .base (.dK h1)
  | d x =>
    cases x with
    | non => cases r; exact .base .non
    | bl b => cases r; exact .base (.bl b)
    | int b => cases r; exact .base (.int b)
    | str b => cases r; exact .base (.str b)
    | tup xs => cases (show DV R.K am F v (.tup xs) from r) with
      | tup h1 _ => exact sqT_ty ((show Le F H from s.ex).seqT h1)
    | tpl xs => cases (show DV R.K am F v (.tpl xs) from r) with
      | tpl h1 _ => exact sqT_ty ((show Le F H from s.ex).plT h1).sq
    | lst xs => cases (show DV R.K am F v (.lst xs) from r) with
      | lst h1 _ => exact .base (.lst (s.ex _ _ h1))
    | rol ns => exact absurd rfl h
    | dic kv => cases (show DV R.K am F v (.dic kv) from r) with
      | dic h1 _ => exact .fDict (s.ex _ _ h1)
    | cel n => cases (show DV R.K am F v (.cel n) from r) with
      | @cel a _ h1 =>
        cases hc : M[n]? with
        | none => exact absurd (by simp only [kdOf, hc]) h
        | some c =>
          cases c with
          | lst ys =>
            obtain ⟨_, vs, h2, _⟩ := cell_at s h1 hc
            simp only [kdOf, hc]
            exact .base (.lst h2)
          | dct l ys =>
            obtain ⟨_, vs, h2, _⟩ := cell_at s h1 hc
            simp only [kdOf, hc]
            exact lkd_ty h2
          | ins _ => exact absurd (by simp only [kdOf, hc]) h
          | dtt _ => exact absurd (by simp only [kdOf, hc]) h
/-- isinstance(e, T) -/
theorem e_isi {e : Expr} {g : G} {x : Str} {n : String} {b : Kd → Option Bool} {p p2 pos : Pos} (h : E X C e g) (hm : X.mg "isinstance" = none) (hm2 : X.mg x = none) (hv2 : bootBuiltins x = some (.type n)) (hb : ∀ k r, b k = some r → k ≠ .oth ∧ kitB (kdT k) n = some r)
    (hg : Gl X "isinstance" := by rfl) (hg2 : Gl X x := by rfl) (hn2 : x ≠ "__name__" := by decide) (hdb2 : (x == ("__debug__" : Str)) = false := by decide)
    (he : starEach [e, .Name x p2] X.env = (false, eval e X.env) :: starEach [.Name x p2] X.env := by rfl) (hpl : (backTo pos (starEach [.Name x p2] X.env)).any (·.1) = false := by rfl)
    (hs2 : starEach [.Name x p2] X.env = (false, eval (.Name x p2) X.env) :: starEach [] X.env := by rfl) :
    E X C (.Call (.Name "isinstance" p) [e, .Name x p2] [] pos) (gUn (isiW b) g) :=
  wkE (pe_callB call_isi hg hm (by decide +kernel) (pa_cons h (pa_cons (pe_bltn (v := .ty n) hg2 hm2 hv2 rfl hn2 hdb2) pa_nil hs2) he) (he := he) (hpl := hpl)) fun σ H Q h => by
    obtain ⟨lk, am, F, M, δ, H0, w, M', re, sr, h, P⟩ := h
    unfold gUn at h
    simp only [Option.bind_eq_some_iff, Option.map_eq_some_iff, Prod.exists, Prod.mk.injEq] at h
    obtain ⟨a, M1, h1, z, h2, rfl, rfl⟩ := h
    refine ⟨lk, am, F, M, δ, H0, a, M1, re, sr, h1, fun v am1 F1 H1 g1 s1 r1 f1 => ?_⟩
    unfold isiW at h2
    obtain ⟨r, h3, rfl⟩ := Option.map_eq_some_iff.mp h2
    obtain ⟨k1, k2⟩ := hb _ _ h3
    exact ⟨v, .ty n, _, .type n, r, rfl, .ty n, kd_ty s1 r1 k1, kit_ty k2, (P.gr g1).val s1 (.bl _)⟩
theorem kd_tuple (k : Kd) (r : Bool) (h : isTup k = some r) : k ≠ .oth ∧ kitB (kdT k) "tuple" = some r := by
  cases k <;> simp only [isTup, Option.some.injEq, reduceCtorEq] at h <;> subst h <;> exact ⟨by decide, by decide +kernel⟩
theorem kd_int (k : Kd) (r : Bool) (h : isInt k = some r) : k ≠ .oth ∧ kitB (kdT k) "int" = some r := by
  cases k <;> simp only [isInt, Option.some.injEq, reduceCtorEq] at h <;> subst h <;> exact ⟨by decide, by decide +kernel⟩
theorem kd_bool (k : Kd) (r : Bool) (h : isBool k = some r) : k ≠ .oth ∧ kitB (kdT k) "bool" = some r := by
  cases k <;> simp only [isBool, Option.some.injEq, reduceCtorEq] at h <;> subst h <;> exact ⟨by decide, by decide +kernel⟩
theorem kd_str (k : Kd) (r : Bool) (h : isStr k = some r) : k ≠ .oth ∧ kitB (kdT k) "str" = some r := by
  cases k <;> simp only [isStr, Option.some.injEq, reduceCtorEq] at h <;> subst h <;> exact ⟨by decide, by decide +kernel⟩
/-- isinstance(e, (tuple, list)) -/
theorem e_isi2 {e : Expr} {g : G} {x y : Str} {n m : String} {b : Kd → Option Bool} {p p2 p3 p4 pos : Pos} {kk : Nat} (h : E X C e g) (hm : X.mg "isinstance" = none) (hm2 : X.mg x = none) (hv2 : bootBuiltins x = some (.type n)) (hm3 : X.mg y = none) (hv3 : bootBuiltins y = some (.type m))
    (hb : ∀ k r, b k = some r → k ≠ .oth ∧ ∃ r1 r2, kitB (kdT k) n = some r1 ∧ kitB (kdT k) m = some r2 ∧ r = (r1 || r2))
    (hg : Gl X "isinstance" := by rfl) (hg2 : Gl X x := by rfl) (hg3 : Gl X y := by rfl) (hn2 : x ≠ "__name__" := by decide) (hdb2 : (x == ("__debug__" : Str)) = false := by decide) (hn3 : y ≠ "__name__" := by decide) (hdb3 : (y == ("__debug__" : Str)) = false := by decide)
    (he : starEach [e, .Tuple [.Name x p2, .Name y p3] kk p4] X.env = (false, eval e X.env) :: starEach [.Tuple [.Name x p2, .Name y p3] kk p4] X.env := by rfl) (hpl : (backTo pos (starEach [.Tuple [.Name x p2, .Name y p3] kk p4] X.env)).any (·.1) = false := by rfl)
    (hs2 : starEach [.Tuple [.Name x p2, .Name y p3] kk p4] X.env = (false, eval (.Tuple [.Name x p2, .Name y p3] kk p4) X.env) :: starEach [] X.env := by rfl)
    (hs3 : starEach [.Name x p2, .Name y p3] X.env = (false, eval (.Name x p2) X.env) :: starEach [.Name y p3] X.env := by rfl) (hs4 : starEach [.Name y p3] X.env = (false, eval (.Name y p3) X.env) :: starEach [] X.env := by rfl) :
    E X C (.Call (.Name "isinstance" p) [e, .Tuple [.Name x p2, .Name y p3] kk p4] [] pos) (gUn (isiW b) g) :=
  wkE (pe_callB call_isiT hg hm (by decide +kernel) (pa_cons h (pa_cons (pe_tup (pa_cons (pe_bltn (v := .ty n) hg2 hm2 hv2 rfl hn2 hdb2) (pa_cons (pe_bltn (v := .ty m) hg3 hm3 hv3 rfl hn3 hdb3) pa_nil hs4) hs3)) pa_nil hs2) he) (he := he) (hpl := hpl)) fun σ H Q h => by
    obtain ⟨lk, am, F, M, δ, H0, w, M', re, sr, h, P⟩ := h
    unfold gUn at h
    simp only [Option.bind_eq_some_iff, Option.map_eq_some_iff, Prod.exists, Prod.mk.injEq] at h
    obtain ⟨a, M1, h1, z, h2, rfl, rfl⟩ := h
    refine ⟨lk, am, F, M, δ, H0, a, M1, re, sr, h1, fun v am1 F1 H1 g1 s1 r1 f1 => ?_⟩
    unfold isiW at h2
    obtain ⟨r, h3, rfl⟩ := Option.map_eq_some_iff.mp h2
    obtain ⟨k1, c1, c2, q1, q2, rfl⟩ := hb _ _ h3
    refine ⟨by show 2 ≤ sizeLine; decide, fun tp htp => ?_⟩
    have g2 : Gr am1 F1 H1 am1 F1 (upd H1 tp (.tup [.ty n, .ty m])) := Gr.new htp
    have s2 := s1.grow (le_new (o := .tup [.ty n, .ty m]) htp)
    refine ⟨v, tp, [.ty n, .ty m], _, [.type n, .type m], c1 || c2, rfl, upd_same, .cons (.ty n) (.cons (.ty m) .nil), kd_ty s2 (r1.gr g2) k1, kitAny_cons (kit_ty q1) (fun e => ?_) (fun e => by rw [e]; rfl), (P.gr (g1.trans g2)).val s2 (.bl _)⟩
    refine kitAny_cons (kit_ty q2) (fun e2 => ?_) (fun e2 => by rw [e2, Bool.or_true])
    rw [e, e2]
    exact kitAny_nil
theorem kd_tl (k : Kd) (r : Bool) (h : isTupLst k = some r) : k ≠ .oth ∧ ∃ r1 r2, kitB (kdT k) "tuple" = some r1 ∧ kitB (kdT k) "list" = some r2 ∧ r = (r1 || r2) := by
  cases k <;> simp only [isTupLst, Option.some.injEq, reduceCtorEq] at h <;> subst h
  · exact ⟨by decide, false, false, by decide +kernel, by decide +kernel, rfl⟩
  · exact ⟨by decide, false, false, by decide +kernel, by decide +kernel, rfl⟩
  · exact ⟨by decide, false, false, by decide +kernel, by decide +kernel, rfl⟩
  · exact ⟨by decide, false, false, by decide +kernel, by decide +kernel, rfl⟩
  · exact ⟨by decide, true, false, by decide +kernel, by decide +kernel, rfl⟩
  · exact ⟨by decide, false, true, by decide +kernel, by decide +kernel, rfl⟩

/-! ### subscripts -/
theorem ix_dict (hu : X.A.units + 1 < cLine) : IxR X (fun x y H Q => ∃ a v, x = .ref a ∧ DGet H a y (some v) ∧ Q v H) := by
  intro value slice pins s σ H x y v u Q I rx ry h hs
  obtain ⟨a, z, rfl, g, q⟩ := h
  cases rx
  exact PyProof.Rows.tail_any (dict_typeIs I g) PySem.F.slot_dict_getitem.lookup (d_getItem hu I g ry fun w' s3 I3 rw' => ⟨z, H, I3, rw', q⟩) hs
def rIxM (K : PySem.W.Frag) : R2 := fun x y H Q => rIx K x y H Q ∨ ∃ a v, x = .ref a ∧ DGet H a y (some v) ∧ Q v H
theorem ixM (hu : X.A.units + 1 < cLine) : IxR X (rIxM X.K) := ix_seq.or (ix_dict hu)
theorem atI_dv {K : PySem.W.Frag} {am : List Addr} {F : Hp} {vs : List V} {xs : List D} {i : Int} {x : D} (h : DVs K am F vs xs) (e : atI xs i = some x) : ∃ v, atI vs i = some v ∧ DV K am F v x := by
  unfold atI at e ⊢
  rw [h.length]
  cases q : ixN xs.length i with
  | none => rw [q] at e; cases e
  | some j =>
    rw [q] at e
    exact h.get e
theorem KVs.find {κ : Type} [DecidableEq κ] {K : PySem.W.Frag} {am : List Addr} {F : Hp} {k : κ} : ∀ {vs : List (κ × V)} {xs : List (κ × D)}, KVs K am F vs xs →
    (∀ x, (xs.find? fun p => decide (p.1 = k)).map (·.2) = some x → ∃ v, valV vs k = some v ∧ DV K am F v x) ∧ ((xs.find? fun p => decide (p.1 = k)) = none → valV vs k = none)
  | _, _, .nil => ⟨fun _ h => by simp at h, fun _ => rfl⟩
  | _, _, .cons (k := k') (v := v) (vs := vs) (x := x) (xs := xs) h t => by
    have ih := KVs.find (k := k) t
    unfold valV at ih ⊢
    simp only [List.find?_cons]
    by_cases e : k' = k
    · simp only [e, decide_true]
      exact ⟨fun y h' => ⟨v, rfl, by simp only [Option.map_some, Option.some.injEq] at h'; rw [← h']; exact h⟩, fun h' => by simp at h'⟩
    · simp only [e, decide_false]
      exact ih
theorem c_ix : OpC R (rIxM R.K) ixW := by
  intro lk am F M H H0 x y wa wb z Q s ra rb h P
  unfold ixW at h
  split at h
  · rename_i i
    cases rb
    split at h
    · rename_i ns
      obtain ⟨n, e, rfl⟩ := Option.map_eq_some_iff.mp h
      cases (show DV R.K am F x (.rol ns) from ra) with
      | @rol a _ h1 =>
        refine .inl (.inl ⟨a, ns.map V.int, i, .int n, rfl, rfl, (show Le F H from s.ex).seqL h1, ?_, P.val s (.int n)⟩)
        unfold atI at e ⊢
        rw [List.length_map]
        cases q : ixN ns.length i with
        | none => rw [q] at e; cases e
        | some j =>
          rw [q] at e
          show (ns.map V.int)[j]? = some (V.int n)
          rw [List.getElem?_map, show ns[j]? = some n from e]
          rfl
    · rename_i z
      split at h
      · rename_i hl
        obtain ⟨c, e, rfl⟩ := Option.map_eq_some_iff.mp h
        cases ra
        exact .inl (.inr (.inr ⟨z, i, c, rfl, rfl, sz_le hl, e, P.val s (.str _)⟩))
      · cases h
    · simp only [Option.bind_eq_some_iff, Option.map_eq_some_iff] at h
      obtain ⟨xs, e1, x, e2, rfl⟩ := h
      obtain ⟨a, vs, rfl, e3, d⟩ := vS_ok s ra e1
      obtain ⟨v', e4, d'⟩ := atI_dv d e2
      rcases e3 with e3 | e3
      · exact .inl (.inl ⟨a, vs, i, v', rfl, rfl, .of e3, e4, P.val s d'⟩)
      · exact .inl (.inr (.inl ⟨a, vs, i, v', rfl, rfl, e3, e4, P.val s d'⟩))
  · rename_i k
    cases rb
    simp only [Option.bind_eq_some_iff] at h
    obtain ⟨kv, e1, h⟩ := h
    obtain ⟨x, e2, rfl⟩ := Option.map_eq_some_iff.mp h
    obtain ⟨a, kvs, rfl, e3, d⟩ := vK_ok s ra e1
    obtain ⟨v', e4, d'⟩ := d.find.1 x e2
    exact .inr ⟨a, v', rfl, .inl ⟨kvs, .inr k, e3, rfl, e4.symm⟩, P.val s d'⟩
  · cases h
theorem e_ix {a b : Expr} {ga gb : G} {pos : Pos} {k : Nat} (hr : Room k X.A) (ha : E X C a ga) (hb : E X C b gb) (hs : PlainIx b := by exact fun _ _ => rfl) : E X C (.Subscript a b pos) (gBin ixW ga gb) :=
  wkE (pe_ix (pos := pos) (r := fun x y H Q => ∃ lk am F M H0 a b z, SR (rc X C) lk am F M H ∧ RW X.K lk am F H x a ∧ RW X.K lk am F H y b ∧ ixW a b M = some z ∧ Pst (rc X C) lk am F M H H0 z Q)
    (fun value slice pins s σ H x y v u Q I rx ry ⟨lk, am, F, M, H0, a, b, z, s1, r1, r2, h, P⟩ hs => ixM (hu_of hr) value slice pins s σ H x y v u Q I rx ry (c_ix lk am F M H H0 x y a b z Q s1 r1 r2 h P) hs) ha hb hs) fun _ _ _ h => bin2 h

/-! ### slices -/
def tOm (R : Rc) (g : GO) : TO := fun σ H Q => ∃ lk am F M δ H0 o M', RE R.K lk am F H H0 σ δ ∧ SR R lk am F M H ∧ g δ M = some (o, M') ∧ ∀ am' F' H', Gr am F H am' F' H' → SR R lk am' F' M' H' → Q o H'
theorem wkO {e : Option Expr} {t t' : TO} (h : PO X e t) (w : ∀ σ H Q, t' σ H Q → t σ H Q) : PO X e t' := by
  cases h with
  | mk run => exact ⟨fun pins s σ H Q I q => run pins s σ H Q I (w σ H Q q)⟩
abbrev O (X : Cx) (C : Zs) (e : Option Expr) (g : GO) : Prop := PO X e (tOm (rc X C) g)
theorem o_none : O X C none oNone := wkO po_none fun σ H Q h => by
  obtain ⟨lk, am, F, M, δ, H0, o, M', re, sr, h, P⟩ := h
  cases h
  exact P _ _ _ (Gr.refl _ _ _) sr
theorem o_some {e : Expr} {g : G} (h : E X C e g) : O X C (some e) (oSome g) := wkO (po_some h) fun σ H Q h => by
  obtain ⟨lk, am, F, M, δ, H0, o, M', re, sr, h, P⟩ := h
  unfold oSome at h
  split at h
  · rename_i i M1 e1
    cases h
    refine ⟨lk, am, F, M, δ, H0, _, M', re, sr, e1, fun v am1 F1 H1 g1 s1 r1 _ => ?_⟩
    cases (show DV X.K am1 F1 v (.int i) from r1)
    exact ⟨i, rfl, P _ _ _ g1 s1⟩
  · cases h
theorem DVs.cut {K : PySem.W.Frag} {am : List Addr} {F : Hp} {vs : List V} {xs : List D} (h : DVs K am F vs xs) (lo hi : Option Int) : DVs K am F (cutV vs lo hi) (cutD xs lo hi) := by
  unfold cutV cutD
  rw [h.length]
  exact (h.drop _).take _
theorem cutD_whole {xs : List D} {lo hi : Option Int} (h : HT.sIx xs.length 0 lo = 0 ∧ HT.sIx xs.length xs.length hi = xs.length) : cutD xs lo hi = xs := by
  unfold cutD
  rw [h.1, h.2]
  simp
theorem slM : SlR X (fun x lo hi H Q => rSlL X.K x lo hi H Q ∨ (fun x lo hi H Q => rSlA X.K x lo hi H Q ∨ rSlS x lo hi H Q) x lo hi H Q) := sl_list.or (sl_tupA.or sl_str)
theorem e_sl {a : Expr} {lo hi : Option Expr} {ga : G} {gl gh : GO} {p2 pos : Pos} (ha : E X C a ga) (hl : O X C lo gl) (hh : O X C hi gh) : E X C (.Subscript a (.Slice lo hi none p2) pos) (gSl ga gl gh) :=
  wkE (pe_slice slM ha hl hh) fun σ H Q h => by
    obtain ⟨lk, am, F, M, δ, H0, w, M', re, sr, h, P⟩ := h
    unfold gSl at h
    simp only [Option.bind_eq_some_iff, Option.map_eq_some_iff, Prod.exists, Prod.mk.injEq] at h
    obtain ⟨x, M1, h1, l, M2, h2, u, M3, h3, z, h4, rfl, rfl⟩ := h
    refine ⟨lk, am, F, M, δ, H0, x, M1, re, sr, h1, fun v am1 F1 H1 g1 s1 r1 f1 => ⟨lk, am1, F1, M1, δ, H0, l, M2, re.gr g1, s1, h2, fun am2 F2 H2 g2 s2 => ⟨lk, am2, F2, M2, δ, H0, u, M3, (re.gr g1).gr g2, s2, h3, fun am3 F3 H3 g3 s3 => ?_⟩⟩⟩
    have r3 := r1.gr (g2.trans g3)
    have P3 := P.gr ((g1.trans g2).trans g3)
    unfold slW at h4
    split at h4
    · rename_i y
      split at h4
      · rename_i hy
        cases h4
        cases r3
        exact .inr (.inr ⟨y, rfl, sz_le hy, P3.val s3 (.str _)⟩)
      · cases h4
    · rename_i xs
      cases h4
      obtain ⟨p, vs, rfl, e1, f1, d⟩ := vT_ok s3 r3 (xs := xs) rfl
      refine .inr (.inl ⟨p, vs, rfl, e1, fun hw => ?_, fun _ => P3.newT s3 (d.cut l u)⟩)
      rw [d.length] at hw
      rw [cutD_whole hw] at P3
      exact P3.val s3 (.tup f1 d)
    · rename_i xs
      cases h4
      obtain ⟨p, vs, rfl, e1, f1, d⟩ := vT_ok s3 r3 (xs := xs) rfl
      refine .inr (.inl ⟨p, vs, rfl, e1, fun hw => ?_, fun _ => P3.newT s3 (d.cut l u)⟩)
      rw [d.length] at hw
      rw [cutD_whole hw] at P3
      exact P3.val s3 (.tup f1 d)
    · obtain ⟨xs, e, rfl⟩ := Option.map_eq_some_iff.mp h4
      obtain ⟨p, vs, rfl, e1, d⟩ := vL_ok s3 r3 e
      exact .inl ⟨p, vs, rfl, .of e1, P3.newL s3 (d.cut l u)⟩
end
end Mi
/-! MiSt: statements, loops, comprehensions, defs do what their mirrors tell. -/
namespace Mi
open PySem L2

/-- an exception as it stands -/
def ExnOk (R : Rc) (am : List Addr) (F H : Hp) (x : Exn) (cls : Value) (d : Option Addr) : Prop :=
  cls = .ref (R.Z.ex x.cls) ∧ match x.fs with
    | none => d = none
    | some (f, y) => ∃ a v, d = some a ∧ H a = some (.xd [(f, v)]) ∧ DV R.K am F v y
/-- what is frozen stays, cells stay -/
structure Mo (am : List Addr) (F : Hp) (am' : List Addr) (F' : Hp) : Prop where
  ad : ∃ new, am' = am ++ new
  fx : Le F F'
theorem Mo.refl (am : List Addr) (F : Hp) : Mo am F am F := ⟨⟨[], by simp⟩, Le.refl F⟩
theorem Mo.of {am am' : List Addr} {F H F' H' : Hp} (g : Gr am F H am' F' H') : Mo am F am' F' := ⟨let ⟨n, e, _⟩ := g.ad; ⟨n, e⟩, g.fx⟩
theorem Mo.trans {am am1 am2 : List Addr} {F F1 F2 : Hp} (a : Mo am F am1 F1) (b : Mo am1 F1 am2 F2) : Mo am F am2 F2 := by
  obtain ⟨n1, e1⟩ := a.ad
  obtain ⟨n2, e2⟩ := b.ad
  exact ⟨⟨n1 ++ n2, by rw [e2, e1, List.append_assoc]⟩, a.fx.trans b.fx⟩
def OkO (R : Rc) (lk : Lk) (am0 : List Addr) (F0 H0 : Hp) (am : List Addr) (F : Hp) (Wx : WX) (D : Ends) : Out → Prop
  | .nx δ' M' => ∀ σ' am' F' H', Gr am0 F0 H0 am' F' H' → Mo am F am' F' → RE R.K lk am' F' H' H0 σ' δ' → SR R lk am' F' M' H' → D.nx σ' H'
  | .bk δ' M' => ∀ σ' am' F' H', Gr am0 F0 H0 am' F' H' → Mo am F am' F' → RE R.K lk am' F' H' H0 σ' δ' → SR R lk am' F' M' H' → D.bk σ' H'
  | .ct δ' M' => ∀ σ' am' F' H', Gr am0 F0 H0 am' F' H' → Mo am F am' F' → RE R.K lk am' F' H' H0 σ' δ' → SR R lk am' F' M' H' → D.ct σ' H'
  | .rt w M' => ∀ v am' F' H', Gr am0 F0 H0 am' F' H' → Mo am F am' F' → SR R lk am' F' M' H' → RW R.K lk am' F' H' v w → Fsh H0 H0 v w → D.rt v H'
  | .rs x M' => ∀ cls d σ' am' F' H', Gr am0 F0 H0 am' F' H' → Mo am F am' F' → SR R lk am' F' M' H' → ExnOk R am' F' H' x cls d → Wx cls d σ' H'
theorem OkO.mo {R : Rc} {lk : Lk} {am0 am am1 : List Addr} {F0 H0 F F1 : Hp} {Wx : WX} {D : Ends} {o : Out} (P : OkO R lk am0 F0 H0 am F Wx D o) (m : Mo am F am1 F1) : OkO R lk am0 F0 H0 am1 F1 Wx D o := by
  cases o with
  | nx δ' M' => exact fun σ' am' F' H' g m' => P σ' am' F' H' g (m.trans m')
  | bk δ' M' => exact fun σ' am' F' H' g m' => P σ' am' F' H' g (m.trans m')
  | ct δ' M' => exact fun σ' am' F' H' g m' => P σ' am' F' H' g (m.trans m')
  | rt w M' => exact fun v am' F' H' g m' => P v am' F' H' g (m.trans m')
  | rs x M' => exact fun cls d σ' am' F' H' g m' => P cls d σ' am' F' H' g (m.trans m')
def tS (R : Rc) (Wx : WX) (g : GS) : TS := fun D σ H => ∃ lk am0 F0 H0 am F M δ o, Gr am0 F0 H0 am F H ∧ RE R.K lk am F H H0 σ δ ∧ SR R lk am F M H ∧ g δ M = some o ∧ OkO R lk am0 F0 H0 am F Wx D o
abbrev S (X : Cx) (C : Zs) (Wx : WX) (st : Stmt) (g : GS) : Prop := PS X st (tS (rc X C) Wx g)
abbrev SS (X : Cx) (C : Zs) (Wx : WX) (sts : List Stmt) (g : GS) : Prop := PSs X sts (tS (rc X C) Wx g)
theorem wkS {X : Cx} {e : Stmt} {t t' : TS} (h : PS X e t) (w : ∀ D σ H, t' D σ H → t D σ H) : PS X e t' := ⟨fun pins s σ H D I q => h.run pins s σ H D I (w D σ H q)⟩
theorem wkSs {X : Cx} {e : List Stmt} {t t' : TS} (h : PSs X e t) (w : ∀ D σ H, t' D σ H → t D σ H) : PSs X e t' := ⟨fun pins s σ H D I q => h.run pins s σ H D I (w D σ H q)⟩
theorem wkI {X : Cx} {tg e : Expr} {t t' : TI} (h : PI X tg e t) (w : ∀ σ H Q, t' σ H Q → t σ H Q) : PI X tg e t' := ⟨fun pins s σ H Q I q => h.run pins s σ H Q I (w σ H Q q)⟩
theorem wkG {X : Cx} {e : Expr} {t t' : TG} (h : PG X e t) (w : ∀ v σ H Q, t' v σ H Q → t v σ H Q) : PG X e t' := ⟨fun pins s σ H v u Q I r q => h.run pins s σ H v u Q I r (w v σ H Q q)⟩
theorem wkGs {X : Cx} {e : List Expr} {t t' : TGs} (h : PGs X e t) (w : ∀ v σ H Q, t' v σ H Q → t v σ H Q) : PGs X e t' := ⟨fun pins s σ H v u Q I r q => h.run pins s σ H v u Q I r (w v σ H Q q)⟩

section
variable {X : Cx} {C : Zs} {R : Rc} {Wx : WX} {lk : Lk} {am am0 : List Addr} {F H F0 H0 : Hp} {M : Sto}

/-! ### blocks -/
theorem ss_nil : SS X C Wx [] sNext := wkSs pss_nil fun D σ H h => by
  obtain ⟨lk, am0, F0, H0, am, F, M, δ, o, g, re, sr, h, P⟩ := h
  cases h
  exact P _ _ _ _ g (.refl _ _) re sr
theorem seq_go {a b : GS} {D : Ends} {σ : St} (h : tS R Wx (sSeq a b) D σ H) : tSeq (tS R Wx a) (tS R Wx b) D σ H := by
  obtain ⟨lk, am0, F0, H0, am, F, M, δ, o, g, re, sr, h, P⟩ := h
  unfold sSeq at h
  obtain ⟨o1, h1, h2⟩ := Option.bind_eq_some_iff.mp h
  refine ⟨lk, am0, F0, H0, am, F, M, δ, o1, g, re, sr, h1, ?_⟩
  cases o1 with
  | nx δ' M' => exact fun σ' am' F' H' g' mo re' sr' => ⟨lk, am0, F0, H0, am', F', M', δ', o, g', re', sr', h2, P.mo mo⟩
  | bk δ' M' => cases h2; exact P
  | ct δ' M' => cases h2; exact P
  | rt w M' => cases h2; exact P
  | rs x M' => cases h2; exact P
theorem ss_cons {st : Stmt} {rest : List Stmt} {a b : GS} (h1 : S X C Wx st a) (h2 : SS X C Wx rest b) : SS X C Wx (st :: rest) (sSeq a b) := wkSs (pss_cons h1 h2) fun _ _ _ h => seq_go h
theorem ss_one {st : Stmt} {a : GS} (h1 : S X C Wx st a) : SS X C Wx [st] a := pss_one h1
theorem s_doc {x : Str} {j : Nat} {pos pos' : Pos} : S X C Wx (.Expr (.Constant (.str x) j pos) pos') sNext := wkS ps_doc fun D σ H h => by
  obtain ⟨lk, am0, F0, H0, am, F, M, δ, o, g, re, sr, h, P⟩ := h
  cases h
  exact P _ _ _ _ g (.refl _ _) re sr
theorem s_brk {pos : Pos} : S X C Wx (.Break pos) sBrk := wkS ps_break fun D σ H h => by
  obtain ⟨lk, am0, F0, H0, am, F, M, δ, o, g, re, sr, h, P⟩ := h
  cases h
  exact P _ _ _ _ g (.refl _ _) re sr
theorem s_cnt {pos : Pos} : S X C Wx (.Continue pos) sCnt := wkS ps_continue fun D σ H h => by
  obtain ⟨lk, am0, F0, H0, am, F, M, δ, o, g, re, sr, h, P⟩ := h
  cases h
  exact P _ _ _ _ g (.refl _ _) re sr

/-! ### slots -/
theorem set_at {α : Type} {l : List α} {i j : Nat} {x y : α} (h : (l.set i x)[j]? = some y) : (i = j ∧ i < l.length ∧ y = x) ∨ (i ≠ j ∧ l[j]? = some y) := by
  by_cases e : i = j
  · subst e
    by_cases hl : i < l.length
    · rw [List.getElem?_set_self hl] at h
      exact .inl ⟨rfl, hl, (Option.some.inj h).symm⟩
    · rw [List.getElem?_eq_none (by simpa using hl)] at h
      cases h
  · rw [List.getElem?_set_ne e] at h
    exact .inr ⟨e, h⟩
theorem RE.setD {σ : St} {δ : En} (r : RE R.K lk am F H H0 σ δ) {i : Nat} {v : V} {x : D} (d : DV R.K am F v x) : RE R.K lk am F H H0 (σ.set i (some v)) (δ.set i (some (.d x))) := by
  refine ⟨by simp [r.len], fun j w h => ?_, fun j w u h ho hs => ?_, fun j k w u z hjk h1 o1 h2 o2 hs => ?_⟩
  · rcases set_at h with ⟨rfl, hl, e⟩ | ⟨hne, h⟩
    · cases e
      exact ⟨v, by rw [List.getElem?_set_self (by rw [← r.len]; exact hl)], d, rfl⟩
    · obtain ⟨v', a, b, c⟩ := r.at_ j w h
      exact ⟨v', by rw [List.getElem?_set_ne hne]; exact a, b, c⟩
  · rcases set_at h with ⟨rfl, hl, e⟩ | ⟨hne, h⟩
    · cases e; cases ho
    · rw [List.getElem?_set_ne hne] at hs
      exact r.own j w u h ho hs
  · rcases set_at h1 with ⟨rfl, hl, e⟩ | ⟨hne, h1⟩
    · cases e; cases o1
    · rcases set_at h2 with ⟨rfl, hl, e⟩ | ⟨hne2, h2⟩
      · cases e; cases o2
      · rw [List.getElem?_set_ne hne] at hs
        rw [List.getElem?_set_ne hne2]
        exact r.dis j k w u z hjk h1 o1 h2 o2 hs
theorem RE.setOwn {σ : St} {δ : En} (r : RE R.K lk am F H H0 σ δ) {i : Nat} {a : Addr} {w : W} (d : RW R.K lk am F H (.ref a) w) (ho : w.own = true) (h0 : H0 a = none)
    (hd : ∀ (j : Nat) (u : W), δ[j]? = some (some u) → u.own = true → σ[j]? ≠ some (some (.ref a))) : RE R.K lk am F H H0 (σ.set i (some (.ref a))) (δ.set i (some w)) := by
  have hsl : w.slot = true := by cases w <;> first | rfl | cases ho
  refine ⟨by simp [r.len], fun j u h => ?_, fun j u z h hu hs => ?_, fun j k u t z hjk h1 o1 h2 o2 hs => ?_⟩
  · rcases set_at h with ⟨rfl, hl, e⟩ | ⟨hne, h⟩
    · cases e
      exact ⟨_, by rw [List.getElem?_set_self (by rw [← r.len]; exact hl)], d, hsl⟩
    · obtain ⟨v', a, b, c⟩ := r.at_ j u h
      exact ⟨v', by rw [List.getElem?_set_ne hne]; exact a, b, c⟩
  · rcases set_at h with ⟨rfl, hl, e⟩ | ⟨hne, h⟩
    · rw [List.getElem?_set_self (by rw [← r.len]; exact hl)] at hs
      cases hs
      exact ⟨a, rfl, h0⟩
    · rw [List.getElem?_set_ne hne] at hs
      exact r.own j u z h hu hs
  · rcases set_at h1 with ⟨rfl, hl, e⟩ | ⟨hne, h1⟩
    · rw [List.getElem?_set_self (by rw [← r.len]; exact hl)] at hs
      cases hs
      rcases set_at h2 with ⟨rfl, _, _⟩ | ⟨hne2, h2⟩
      · exact absurd rfl hjk
      · rw [List.getElem?_set_ne hne2]
        exact hd k t h2 o2
    · rw [List.getElem?_set_ne hne] at hs
      rcases set_at h2 with ⟨rfl, hl, e⟩ | ⟨hne2, h2⟩
      · rw [List.getElem?_set_self (by rw [← r.len]; exact hl)]
        intro q
        cases q
        exact hd j u h1 o1 hs
      · rw [List.getElem?_set_ne hne2]
        exact r.dis j k u t z hjk h1 o1 h2 o2 hs
theorem RW.addr {w : W} {a : Addr} (r : RW R.K lk am F H (.ref a) w) (ho : w.own = true) : ∃ o, H a = some o := by
  cases w with
  | ol xs => obtain ⟨b, vs, e, h, _⟩ := r; cases e; exact ⟨_, h⟩
  | od l kv => obtain ⟨b, vs, e, h, _⟩ := r; cases e; exact ⟨_, h⟩
  | _ => cases ho
/-- a new thing stands apart from what the slots own -/
theorem RE.apart {σ : St} {δ : En} (r : RE R.K lk am F H H0 σ δ) {a : Addr} (h : H a = none) (j : Nat) (u : W) (hu : δ[j]? = some (some u)) (ho : u.own = true) : σ[j]? ≠ some (some (.ref a)) := fun e => by
  obtain ⟨v, e2, rw, _⟩ := r.at_ j u hu
  rw [e] at e2
  cases e2
  obtain ⟨o, h2⟩ := rw.addr ho
  rw [h] at h2
  cases h2

/-! ### assignments -/
theorem asg_go {i : Nat} {ga : G} {D : Ends} {σ : St} (h : tS R Wx (sAsg i ga) D σ H) : tAsg (tG R ga) (gName i) D σ H := by
  obtain ⟨lk, am0, F0, H0, am, F, M, δ, o, g, re, sr, h, P⟩ := h
  unfold sAsg at h
  simp only [Option.bind_eq_some_iff, Option.map_eq_some_iff, Prod.exists] at h
  obtain ⟨w, M1, h1, x, h2, rfl⟩ := h
  refine ⟨lk, am, F, M, δ, H0, w, M1, re, sr, h1, fun v am1 F1 H1 g1 s1 r1 f1 => ?_⟩
  obtain ⟨F', g', s', d', _⟩ := (FZ.of (R := R) r1 f1 h2).go g1 s1
  exact P _ _ _ _ (g.trans g') (.of g') ((re.gr g').setD d') s'
theorem s_asg {i : Nat} {x : Str} {e : Expr} {ga : G} {pos pos' : Pos} (hN : X.N.Nodup) (he : E X C e ga) (hi : X.N[i]? = some x := by rfl) (hx : Loc X.env.scope x := by first | exact Or.inl rfl | exact Or.inr rfl) (hs : swapsWith e (some (.Name x pos')) pos.line X.env = pure false := by rfl)
    (hf : X.fn x = true ∨ X.env.scope.names.lookup x = some .local := by first | exact .inl rfl | exact .inr rfl) : S X C Wx (.Assign [.Name x pos'] e pos) (sAsg i ga) := wkS (ps_set hN hi hx he hs hf) fun _ _ _ h => asg_go h
theorem own_go {i : Nat} {ga : G} {D : Ends} {σ : St} (h : tS R Wx (sOwn i ga) D σ H) : tAsg (tG R ga) (gName i) D σ H := by
  obtain ⟨lk, am0, F0, H0, am, F, M, δ, o, g, re, sr, h, P⟩ := h
  unfold sOwn at h
  split at h
  · rename_i xs M1 h1
    cases h
    refine ⟨lk, am, F, M, δ, H0, _, M1, re, sr, h1, fun v am1 F1 H1 g1 s1 r1 f1 => ?_⟩
    obtain ⟨a, rfl, ha⟩ := f1
    obtain ⟨b, vs, e, h2, h3, h4, h5, h6⟩ := r1
    cases e
    exact P _ _ _ _ (g.trans g1) (.of g1) ((re.gr g1).setOwn (w := .ol xs) ⟨a, vs, rfl, h2, h3, h4, h5, h6⟩ rfl (g.back ha) fun j u hu ho => re.apart ha j u hu ho) s1
  · rename_i kv M1 h1
    cases h
    refine ⟨lk, am, F, M, δ, H0, _, M1, re, sr, h1, fun v am1 F1 H1 g1 s1 r1 f1 => ?_⟩
    obtain ⟨a, rfl, ha⟩ := f1
    obtain ⟨b, vs, e, h2, h3, h4, h5, h6⟩ := r1
    cases e
    exact P _ _ _ _ (g.trans g1) (.of g1) ((re.gr g1).setOwn (w := .od false kv) ⟨a, vs, rfl, by rw [h5]; exact h2, h3, h4, by rw [h5]; rfl, h6⟩ rfl (g.back ha) fun j u hu ho => re.apart ha j u hu ho) s1
  · cases h
theorem s_own {i : Nat} {x : Str} {e : Expr} {ga : G} {pos pos' : Pos} (hN : X.N.Nodup) (he : E X C e ga) (hi : X.N[i]? = some x := by rfl) (hx : Loc X.env.scope x := by first | exact Or.inl rfl | exact Or.inr rfl) (hs : swapsWith e (some (.Name x pos')) pos.line X.env = pure false := by rfl)
    (hf : X.fn x = true ∨ X.env.scope.names.lookup x = some .local := by first | exact .inl rfl | exact .inr rfl) : S X C Wx (.Assign [.Name x pos'] e pos) (sOwn i ga) := wkS (ps_set hN hi hx he hs hf) fun _ _ _ h => own_go h
/-- a cell is added to the store -/
theorem SR.push {a : Addr} {c : Cell} (s : SR R lk am F M H) (hn : a ∉ am) (hF : F a = none) (hc : CellOk R.K R.Z.C lk am F H a c) : SR R lk (am ++ [a]) F (M ++ [c]) H := by
  refine ⟨s.ex, s.fz, s.lh, by simp [s.len], ?_, fun b hb => ?_, fun n b c' e1 e2 => ?_⟩
  · rw [List.nodup_append]
    exact ⟨s.nd, by simp, fun x hx y hy e => by simp at hy; subst hy; subst e; exact hn hx⟩
  · rcases List.mem_append.mp hb with h | h
    · exact s.fr b h
    · simp at h; subst h; exact hF
  · have hlen := s.len
    by_cases hl : n < am.length
    · rw [List.getElem?_append_left hl] at e1
      rw [List.getElem?_append_left (by omega)] at e2
      exact (s.cl n b c' e1 e2).mono (Le.refl F) fun o q => q
    · rw [List.getElem?_append_right (by omega)] at e1
      rw [List.getElem?_append_right (by omega)] at e2
      have h0 : n - am.length = 0 := by
        cases h : n - am.length with
        | zero => rfl
        | succ k => rw [h] at e1; simp at e1
      have h0' : n - M.length = 0 := by omega
      rw [h0] at e1
      rw [h0'] at e2
      cases e1
      cases e2
      exact hc.mono (Le.refl F) fun o q => q
theorem Gr.push {am1 : List Addr} {F1 H1 : Hp} {a : Addr} (g : Gr am F H am1 F1 H1) (h : H a = none) : Gr am F H (am1 ++ [a]) F1 H1 := by
  obtain ⟨n, e, f⟩ := g.ad
  refine ⟨g.fx, g.fn, ⟨n ++ [a], by rw [e, List.append_assoc], fun x hx => ?_⟩, g.kp, g.th⟩
  rcases List.mem_append.mp hx with q | q
  · exact f x q
  · simp at q; subst q; exact h
theorem e_cel {e : Expr} {ga : G} (he : E X C e ga) : E X C e (gCel ga) := wkE he fun σ H Q h => by
  obtain ⟨lk, am, F, M, δ, H0, w, M', re, sr, h, P⟩ := h
  unfold gCel at h
  split at h
  · rename_i xs M1 h1
    cases h
    refine ⟨lk, am, F, M, δ, H0, _, M1, re, sr, h1, fun v am1 F1 H1 g1 s1 r1 f1 => ?_⟩
    obtain ⟨a, rfl, ha⟩ := f1
    obtain ⟨b, vs, e, h2, h3, h4, h5, h6⟩ := r1
    cases e
    refine P _ _ _ _ (g1.push ha) (s1.push h4 h3 ⟨h5, vs, h2, h6⟩) (.cel ?_) True.intro
    rw [← s1.len]
    simp
  · rename_i kv M1 h1
    cases h
    refine ⟨lk, am, F, M, δ, H0, _, M1, re, sr, h1, fun v am1 F1 H1 g1 s1 r1 f1 => ?_⟩
    obtain ⟨a, rfl, ha⟩ := f1
    obtain ⟨b, vs, e, h2, h3, h4, h5, h6⟩ := r1
    cases e
    refine P _ _ _ _ (g1.push ha) (s1.push h4 h3 ⟨by rw [h5]; rfl, vs, by rw [h5]; exact h2, h6⟩) (.cel ?_) True.intro
    rw [← s1.len]
    simp
  · cases h

/-! ### return, if, an expression dropped -/
theorem s_ret {e : Expr} {ga : G} {pos : Pos} (he : E X C e ga) : S X C Wx (.Return (some e) pos) (sRet ga) := wkS (ps_ret he) fun D σ H h => by
  obtain ⟨lk, am0, F0, H0, am, F, M, δ, o, g, re, sr, h, P⟩ := h
  unfold sRet at h
  simp only [Option.map_eq_some_iff, Prod.exists] at h
  obtain ⟨w, M1, h1, rfl⟩ := h
  exact ⟨lk, am, F, M, δ, H0, w, M1, re, sr, h1, fun v am1 F1 H1 g1 s1 r1 f1 => P v _ _ _ (g.trans g1) (.of g1) s1 r1 (f1.back g)⟩
theorem s_retN {pos : Pos} : S X C Wx (.Return none pos) sRetN := wkS ps_retN fun D σ H h => by
  obtain ⟨lk, am0, F0, H0, am, F, M, δ, o, g, re, sr, h, P⟩ := h
  cases h
  exact P .non _ _ _ g (.refl _ _) sr .non True.intro
theorem s_if {c : Expr} {a b : List Stmt} {gc : GT} {ga gb : GS} {pos : Pos} (hc : T X C c gc) (ha : SS X C Wx a ga) (hb : SS X C Wx b gb) : S X C Wx (.If c a b pos) (sIf gc ga gb) := wkS (ps_if hc ha hb) fun D σ H h => by
  obtain ⟨lk, am0, F0, H0, am, F, M, δ, o, g, re, sr, h, P⟩ := h
  unfold sIf at h
  obtain ⟨⟨b, M1⟩, h1, h2⟩ := Option.bind_eq_some_iff.mp h
  refine ⟨lk, am, F, M, δ, H0, b, M1, re, sr, h1, fun am1 F1 H1 g1 s1 => ?_⟩
  cases b with
  | true => exact iteT ⟨lk, am0, F0, H0, am1, F1, M1, δ, o, g.trans g1, re.gr g1, s1, h2, P.mo (.of g1)⟩
  | false => exact iteF ⟨lk, am0, F0, H0, am1, F1, M1, δ, o, g.trans g1, re.gr g1, s1, h2, P.mo (.of g1)⟩
theorem s_drop {e : Expr} {ga : G} {pos : Pos} (he : E X C e ga) (hs : swapsWith e none pos.line X.env = pure false := by rfl) : S X C Wx (.Expr e pos) (sDrop ga) := wkS (ps_expr he hs) fun D σ H h => by
  obtain ⟨lk, am0, F0, H0, am, F, M, δ, o, g, re, sr, h, P⟩ := h
  unfold sDrop at h
  simp only [Option.map_eq_some_iff, Prod.exists] at h
  obtain ⟨w, M1, h1, rfl⟩ := h
  exact ⟨lk, am, F, M, δ, H0, w, M1, re, sr, h1, fun v am1 F1 H1 g1 s1 r1 f1 => P _ _ _ _ (g.trans g1) (.of g1) (re.gr g1) s1⟩
end
end Mi
/-! MiLp: targets, loops, comprehensions, defs. -/
namespace Mi
open PySem L2

section
variable {X : Cx} {C : Zs} {R : Rc} {Wx : WX} {lk : Lk} {am am0 : List Addr} {F H F0 H0 : Hp} {M : Sto}

/-! ### targets -/
def setV (σ : St) : List Nat → List V → St
  | i :: is, v :: vs => setV (σ.set i (some v)) is vs
  | _, _ => σ
theorem setAll_re : ∀ {is : List Nat} {xs : List D} {vs : List V} {σ : St} {δ δ' : En}, RE R.K lk am F H H0 σ δ → DVs R.K am F vs xs → setAll δ is xs = some δ' → RE R.K lk am F H H0 (setV σ is vs) δ' ∧ vs.length = is.length
  | [], [], _, σ, δ, δ', r, .nil, h => by cases h; exact ⟨r, rfl⟩
  | i :: is, x :: xs, _, σ, δ, δ', r, .cons d ds, h => by
    have q := setAll_re (r.setD (i := i) d) ds (show setAll (δ.set i (some (.d x))) is xs = some δ' from h)
    exact ⟨q.1, by simp [q.2]⟩
  | [], _ :: _, _, _, _, _, _, _, h => by cases h
  | _ :: _, [], _, _, _, _, _, _, h => by cases h
def tNs (is : List Nat) : TGs := fun vs σ H Q => vs.length = is.length ∧ Q (setV σ is vs) H
abbrev NT (X : Cx) (ts : List Expr) (is : List Nat) : Prop := PGs X ts (tNs is)
theorem nt_nil : NT X [] [] := wkGs pgs_nil fun vs σ H Q h => by
  obtain ⟨h1, h2⟩ := h
  have e : vs = [] := List.length_eq_zero_iff.mp h1
  subst e
  exact ⟨rfl, h2⟩
theorem nt_cons {x : Str} {pos : Pos} {es : List Expr} {i : Nat} {is : List Nat} (hN : X.N.Nodup) (h : NT X es is) (hi : X.N[i]? = some x := by rfl) (hx : Loc X.env.scope x := by first | exact Or.inl rfl | exact Or.inr rfl)
    (hf : X.fn x = true ∨ X.env.scope.names.lookup x = some .local := by first | exact .inl rfl | exact .inr rfl) (hs : (assignEach (.Name x pos :: es) X.env).map (·.2) = assign (.Name x pos) X.env :: (assignEach es X.env).map (·.2) := by rfl) : NT X (.Name x pos :: es) (i :: is) :=
  wkGs (pgs_cons (pg_name hN hi hx hf) h hs) fun vs σ H Q h => by
    obtain ⟨h1, h2⟩ := h
    cases vs with
    | nil => cases h1
    | cons v r => exact ⟨v, r, rfl, by simpa using h1, h2⟩
theorem unp_go {is : List Nat} {ga : G} {D : Ends} {σ : St} {g : TGs} (hg : g = tNs is) (h : tS R Wx (sUnp is ga) D σ H) : tAsg (tG R ga) (L2.gTup R.K is.length g) D σ H := by
  subst hg
  obtain ⟨lk, am0, F0, H0, am, F, M, δ, o, g, re, sr, h, P⟩ := h
  unfold sUnp at h
  simp only [Option.bind_eq_some_iff, Option.map_eq_some_iff, Prod.exists] at h
  obtain ⟨w, M1, h1, xs, h2, δ', h3, rfl⟩ := h
  refine ⟨lk, am, F, M, δ, H0, w, M1, re, sr, h1, fun v am1 F1 H1 g1 s1 r1 f1 => ?_⟩
  obtain ⟨a, vs, rfl, e1, e2, d⟩ := vT_ok s1 r1 h2
  obtain ⟨re', hl⟩ := setAll_re (re.gr g1) d h3
  exact ⟨a, vs, rfl, e1, hl, hl, P _ _ _ _ (g.trans g1) (.of g1) re' s1⟩
theorem s_unp {ts : List Expr} {k : Nat} {e : Expr} {is : List Nat} {ga : G} {pos pos' : Pos} (hc : X.calm = true) (ht : NT X ts is) (he : E X C e ga) (hs : swapsWithSole [.Tuple ts k pos'] e pos.line X.env = pure false := by rfl) (hw : swappedStores [.Tuple ts k pos'] e X.env = pure none := by rfl)
    (h1 : (assignEach [.Tuple ts k pos'] X.env).map (·.2) = [assign (.Tuple ts k pos') X.env] := by rfl) (hn : (assignEach ts X.env).length = is.length := by rfl) (hst : (assignEach ts X.env).findIdx? (·.1) = none := by rfl) :
    S X C Wx (.Assign [.Tuple ts k pos'] e pos) (sUnp is ga) := wkS (ps_asg he (pg_tup hc ht hn hst) hs hw h1) fun _ _ _ h => unp_go rfl h
theorem par_go {is : List Nat} {ga : GA} {D : Ends} {σ : St} (h : tS R Wx (sPar is ga) D σ H) : tA R ga σ H fun vs H1 => vs.length = is.length ∧ D.nx (setV σ is vs) H1 := by
  obtain ⟨lk, am0, F0, H0, am, F, M, δ, o, g, re, sr, h, P⟩ := h
  unfold sPar at h
  simp only [Option.bind_eq_some_iff, Option.map_eq_some_iff, Prod.exists] at h
  obtain ⟨ws, M1, h1, xs, h2, δ', h3, rfl⟩ := h
  refine ⟨lk, am, F, M, δ, H0, ws, M1, re, sr, h1, fun vs am1 F1 H1 g1 s1 r1 f1 => ?_⟩
  obtain ⟨F', g', s', d', _⟩ := (FZs.of (R := R) r1 f1 h2).go g1 s1
  obtain ⟨re', hl⟩ := setAll_re (re.gr g') d' h3
  exact ⟨hl, P _ _ _ _ (g.trans g') (.of g') re' s'⟩
theorem s_par {i j : Nat} {x y : Str} {a b : Expr} {ga : GA} {px py pt pos : Pos} {kt k2 : Nat} {pt2 : Pos} (hc : X.calm = true) (hN : X.N.Nodup) (ha : A X C [a, b] ga) (hi : X.N[i]? = some x := by rfl) (hj : X.N[j]? = some y := by rfl) (hij : i ≠ j := by decide)
    (hx : X.env.scope.names.lookup x = some .local := by rfl) (hy : X.env.scope.names.lookup y = some .local := by rfl)
    (hw : swappedStores [.Tuple [.Name x px, .Name y py] kt pt] (.Tuple [a, b] k2 pt2) X.env = pure (some [x, y]) := by rfl) (hs : swapsWithSole [.Tuple [.Name x px, .Name y py] kt pt] (.Tuple [a, b] k2 pt2) pos.line X.env = pure false := by rfl) :
    S X C Wx (.Assign [.Tuple [.Name x px, .Name y py] kt pt] (.Tuple [a, b] k2 pt2) pos) (sPar [i, j] ga) := wkS (ps_par hc hN hi hj hij hx hy ha hw hs) fun D σ H h => by
  obtain ⟨lk, am, F, M, δ, H0, ws, M', re, sr, h, P⟩ := par_go h
  refine ⟨lk, am, F, M, δ, H0, ws, M', re, sr, h, fun vs am1 F1 H1 g1 s1 r1 f1 => ?_⟩
  obtain ⟨hl, q⟩ := P vs am1 F1 H1 g1 s1 r1 f1
  match vs, hl with
  | [v, w], _ => exact ⟨v, w, rfl, q⟩
theorem s_par3 {i j l : Nat} {x y z : Str} {a b c : Expr} {ga : GA} {px py pz pt pos : Pos} {kt k2 : Nat} {pt2 : Pos} (hc : X.calm = true) (hN : X.N.Nodup) (ha : A X C [a, b, c] ga) (hi : X.N[i]? = some x := by rfl) (hj : X.N[j]? = some y := by rfl) (hl : X.N[l]? = some z := by rfl) (hij : i ≠ j := by decide) (hil : i ≠ l := by decide) (hjl : j ≠ l := by decide)
    (hx : X.env.scope.names.lookup x = some .local := by rfl) (hy : X.env.scope.names.lookup y = some .local := by rfl) (hz : X.env.scope.names.lookup z = some .local := by rfl)
    (hw : swappedStores [.Tuple [.Name x px, .Name y py, .Name z pz] kt pt] (.Tuple [a, b, c] k2 pt2) X.env = pure (some [x, y, z]) := by rfl) (hs : swapsWithSole [.Tuple [.Name x px, .Name y py, .Name z pz] kt pt] (.Tuple [a, b, c] k2 pt2) pos.line X.env = pure false := by rfl) :
    S X C Wx (.Assign [.Tuple [.Name x px, .Name y py, .Name z pz] kt pt] (.Tuple [a, b, c] k2 pt2) pos) (sPar [i, j, l] ga) := wkS (ps_par3 hc hN hi hj hl hij hil hjl hx hy hz ha hw hs) fun D σ H h => by
  obtain ⟨lk, am, F, M, δ, H0, ws, M', re, sr, h, P⟩ := par_go h
  refine ⟨lk, am, F, M, δ, H0, ws, M', re, sr, h, fun vs am1 F1 H1 g1 s1 r1 f1 => ?_⟩
  obtain ⟨hl, q⟩ := P vs am1 F1 H1 g1 s1 r1 f1
  match vs, hl with
  | [v, w, u], _ => exact ⟨v, w, u, rfl, q⟩

/-! ### what is walked -/
/-- from the frozen heap F0 on the iterator J yields xs -/
def JOk (R : Rc) (lk : Lk) (am0 : List Addr) (F0 : Hp) (J : It) (xs : List D) : Prop :=
  ∀ (i : Nat) (am : List Addr) (F : Hp) (M : Sto) (H : Hp), (∃ new, am = am0 ++ new) → Le F0 F → SR R lk am F M H →
    (∀ x, xs[i]? = some x → J.go i H ∧ ∀ v H', J.yld i H v H' → ∃ F', Gr am F H am F' H' ∧ SR R lk am F' M H' ∧ DV R.K am F' v x) ∧ (xs.length = i → J.stop i H)
def tI (R : Rc) (gi : GI) : TI := fun σ H Q => ∃ lk am F M δ H0 xs M', RE R.K lk am F H H0 σ δ ∧ SR R lk am F M H ∧ gi δ M = some (xs, M') ∧ ∀ am' F' H' J, Gr am F H am' F' H' → SR R lk am' F' M' H' → JOk R lk am' F' J xs → Q J H'
abbrev I (X : Cx) (C : Zs) (tg e : Expr) (gi : GI) : Prop := PI X tg e (tI (rc X C) gi)
theorem dvs_ext {K : PySem.W.Frag} {am am1 : List Addr} {F F1 : Hp} (h : ∃ new, am1 = am ++ new) (e : Le F F1) {vs : List V} {xs : List D} (d : DVs K am F vs xs) : DVs K am1 F1 vs xs := by
  obtain ⟨n, rfl⟩ := h
  exact d.mono e
theorem jok_list {a : Addr} {vs : List V} {xs : List D} (h : F a = some (.lst vs)) (d : DVs R.K am F vs xs) : JOk R lk am F (Itl R.K a) xs := fun i am1 F1 M1 H1 he hl s => by
  have e1 := s.ex _ _ (hl _ _ h)
  refine ⟨fun x hx => ?_, fun hi => ⟨vs, .of e1, by rw [d.length]; exact Nat.le_of_eq hi⟩⟩
  obtain ⟨v, hv, dv⟩ := (dvs_ext he hl d).get hx
  refine ⟨⟨vs, v, .of e1, hv⟩, fun u H' hy => ?_⟩
  obtain ⟨rfl, hy⟩ := hy
  have e2 := hy vs (.of e1)
  rw [hv] at e2
  cases e2
  exact ⟨F1, Gr.refl _ _ _, s, dv⟩
theorem jok_tup {a : Addr} {vs : List V} {xs : List D} (h : SqT R.K F a vs) (d : DVs R.K am F vs xs) : JOk R lk am F (Itt R.K a) xs := fun i am1 F1 M1 H1 he hl s => by
  have e1 := (show Le F1 H1 from s.ex).seqT (hl.seqT h)
  refine ⟨fun x hx => ?_, fun hi => ⟨vs, e1, by rw [d.length]; exact Nat.le_of_eq hi⟩⟩
  obtain ⟨v, hv, dv⟩ := (dvs_ext he hl d).get hx
  refine ⟨⟨vs, v, e1, hv⟩, fun u H' hy => ?_⟩
  obtain ⟨rfl, hy⟩ := hy
  have e2 := hy vs (e1)
  rw [hv] at e2
  cases e2
  exact ⟨F1, Gr.refl _ _ _, s, dv⟩
/-- a list or a tuple is walked -/
theorem pi_seq {tg l : Expr} {tl : TE} (hl : PE X l tl) : PI X tg l (fun σ H Q => tl σ H fun x H1 => ∃ a, x = .ref a ∧ (((∃ xs, SqL X.K H1 a xs) ∧ Q (Itl X.K a) H1) ∨ ((∃ xs, SqT X.K H1 a xs) ∧ Q (Itt X.K a) H1))) := by
  refine ⟨fun pins s σ H R I h => ?_⟩
  refine thn (hl.run pins s σ H _ I h) fun v s1 ⟨x, H1, I1, r1, q1⟩ => ?_
  obtain ⟨a, e, q1⟩ := q1
  subst e
  cases r1
  rcases q1 with ⟨⟨xs, hq⟩, q⟩ | ⟨⟨xs, hq⟩, q⟩
  · obtain ⟨its, rv, p, hz⟩ := I1.list hq
    refine PySem.wpAny_pyIter_list p.isList ?_
    refine ⟨s1.heap.objs.size, [s1.heap.objs.size], _, _, H1, rfl, I1.kept (t' := s1.toks) fun b o e => Heap.get?_push_of_some _ e, turn_list a _, ⟨_, Heap.get?_push_size _ rfl, rfl, rfl⟩, fun b hb => ?_, q⟩
    have e : b = s1.heap.objs.size := by simpa using hb
    subst e
    exact I1.fpOk (Nat.le_refl _) (I1.hok.fresh (Nat.le_refl _))
  · obtain ⟨its, rv, p, hz⟩ := I1.tuple hq
    refine PySem.wpAny_pyIter_tuple (show s1.heap.IsTuple a its.toArray from p) ?_
    refine ⟨s1.heap.objs.size, [s1.heap.objs.size], _, _, H1, rfl, I1.kept (t' := s1.toks) fun b o e => Heap.get?_push_of_some _ e, turn_tuple a _, ⟨_, Heap.get?_push_size _ rfl, rfl, rfl⟩, fun b hb => ?_, q⟩
    have e : b = s1.heap.objs.size := by simpa using hb
    subst e
    exact I1.fpOk (Nat.le_refl _) (I1.hok.fresh (Nat.le_refl _))
/-- what a value to be walked is: a frozen sequence -/
theorem seq_at {w : W} {v : V} {xs : List D} {am' : List Addr} {F' H' : Hp} (g : Gr am F H am' F' H') (s : SR R lk am' F' M H') (r : RW R.K lk am' F' H' v w) (f : Fsh H H0 v w) (h : seqD w = some xs) :
    ∃ F2 a vs, v = .ref a ∧ Gr am F H am' F2 H' ∧ SR R lk am' F2 M H' ∧ Le F' F2 ∧ DVs R.K am' F2 vs xs ∧ (F2 a = some (.lst vs) ∨ SqT R.K F2 a vs) := by
  cases w with
  | d x =>
    cases x with
    | tup ys =>
      cases h
      cases (show DV R.K am' F' v (.tup xs) from r) with
      | tup h1 h2 => exact ⟨F', _, _, rfl, g, s, Le.refl _, h2, .inr h1⟩
    | tpl ys =>
      cases h
      cases (show DV R.K am' F' v (.tpl xs) from r) with
      | tpl h1 h2 => exact ⟨F', _, _, rfl, g, s, Le.refl _, h2, .inr h1.sq⟩
    | lst ys =>
      cases h
      cases (show DV R.K am' F' v (.lst xs) from r) with
      | lst h1 h2 => exact ⟨F', _, _, rfl, g, s, Le.refl _, h2, .inl h1⟩
    | _ => cases h
  | fr ys =>
    cases h
    obtain ⟨a, vs, rfl, h1, h2, h3, h4, h5⟩ := r
    obtain ⟨b, e, hb⟩ := f
    cases e
    exact ⟨frzAt F' H' a, a, vs, rfl, g.freeze s hb, s.freeze h3 h4, le_frzAt s a, h5.le (le_frzAt s a), .inl (by rw [frzAt_same]; exact h1)⟩
  | _ => cases h
theorem i_seq {tg e : Expr} {ga : G} (he : E X C e ga) : I X C tg e (iSeq ga) := wkI (pi_seq he) fun σ H Q h => by
  obtain ⟨lk, am, F, M, δ, H0, xs, M', re, sr, h, P⟩ := h
  unfold iSeq at h
  simp only [Option.bind_eq_some_iff, Option.map_eq_some_iff, Prod.exists, Prod.mk.injEq] at h
  obtain ⟨w, M1, h1, xs, h2, rfl, rfl⟩ := h
  refine ⟨lk, am, F, M, δ, H0, w, M1, re, sr, h1, fun v am1 F1 H1 g1 s1 r1 f1 => ?_⟩
  obtain ⟨F2, a, vs, rfl, g2, s2, l2, d2, q⟩ := seq_at (R := rc X C) g1 s1 r1 f1 h2
  refine ⟨a, rfl, ?_⟩
  rcases q with q | q
  · exact .inl ⟨⟨vs, .of (s2.ex _ _ q)⟩, P am1 F2 H1 _ g2 s2 (jok_list q d2)⟩
  · exact .inr ⟨⟨vs, (show Le F2 H1 from s2.ex).seqT q⟩, P am1 F2 H1 _ g2 s2 (jok_tup q d2)⟩
theorem rangeD_get {lo : Int} {n i : Nat} {x : D} (h : (rangeD lo n)[i]? = some x) : i < n ∧ x = .int (lo + (i : Nat)) := by
  unfold rangeD at h
  rw [List.getElem?_map] at h
  by_cases hi : i < n
  · rw [List.getElem?_range hi] at h
    cases h
    exact ⟨hi, rfl⟩
  · rw [List.getElem?_eq_none (by simpa using hi)] at h
    cases h
theorem jok_range {lo : Int} {n : Nat} : JOk R lk am F (Itr lo n) (rangeD lo n) := fun i am1 F1 M1 H1 he hl s => by
  refine ⟨fun x hx => ?_, fun hi => ?_⟩
  · obtain ⟨h1, rfl⟩ := rangeD_get hx
    refine ⟨h1, fun v H' hy => ?_⟩
    obtain ⟨rfl, rfl⟩ := hy
    exact ⟨F1, Gr.refl _ _ _, s, .int _⟩
  · unfold rangeD at hi
    rw [List.length_map, List.length_range] at hi
    exact Nat.le_of_eq hi
theorem intOf_at {w : W} {v : V} {j : Int} {lk : Lk} {K : PySem.W.Frag} (r : RW K lk am F H v w) (h : intOf w = some j) : v = .int j ∧ -(2 ^ 62) ≤ j ∧ j < 2 ^ 62 := by
  unfold intOf at h
  split at h
  · split at h
    · rename_i hj
      cases h
      cases r
      have hs : (SZ : Int) = 100000 := rfl
      rw [hs] at hj
      exact ⟨rfl, by omega, by omega⟩
    · cases h
  · cases h
theorem i_range1 {tg a : Expr} {ga : G} {p pos : Pos} (hm : X.mg "range" = none) (ha : E X C a ga) (hg : Gl X "range" := by rfl) (hs : starEach [a] X.env = [(false, eval a X.env)] := by rfl) : I X C tg (.Call (.Name "range" p) [a] [] pos) (iRan1 ga) := wkI (pi_range1 hg hm (pa_cons ha pa_nil hs) hs) fun σ H Q h => by
  obtain ⟨lk, am, F, M, δ, H0, xs, M', re, sr, h, P⟩ := h
  unfold iRan1 at h
  simp only [Option.bind_eq_some_iff, Option.map_eq_some_iff, Prod.exists, Prod.mk.injEq] at h
  obtain ⟨w, M1, h1, j, h2, rfl, rfl⟩ := h
  refine ⟨lk, am, F, M, δ, H0, w, M1, re, sr, h1, fun v am1 F1 H1 g1 s1 r1 f1 => ?_⟩
  obtain ⟨rfl, e1, e2⟩ := intOf_at r1 h2
  exact ⟨j, rfl, e1, e2, P am1 F1 H1 _ g1 s1 jok_range⟩
theorem i_range2 {tg a b : Expr} {ga gb : G} {p pos : Pos} (hm : X.mg "range" = none) (ha : E X C a ga) (hb : E X C b gb) (hg : Gl X "range" := by rfl) (hs : starEach [a, b] X.env = [(false, eval a X.env), (false, eval b X.env)] := by rfl) (hs2 : starEach [b] X.env = [(false, eval b X.env)] := by rfl) : I X C tg (.Call (.Name "range" p) [a, b] [] pos) (iRan2 ga gb) :=
  wkI (pi_range2 hg hm (pa_cons ha (pa_cons hb pa_nil hs2) (by rw [hs, hs2])) hs hs2) fun σ H Q h => by
  obtain ⟨lk, am, F, M, δ, H0, xs, M', re, sr, h, P⟩ := h
  unfold iRan2 at h
  simp only [Option.bind_eq_some_iff, Option.map_eq_some_iff, Prod.exists, Prod.mk.injEq] at h
  obtain ⟨w, M1, h1, w2, M2, h2, i, h3, j, h4, rfl, rfl⟩ := h
  refine ⟨lk, am, F, M, δ, H0, w, M1, re, sr, h1, fun v am1 F1 H1 g1 s1 r1 f1 => ⟨lk, am1, F1, M1, δ, H0, w2, M2, re.gr g1, s1, h2, fun u am2 F2 H2 g2 s2 r2 f2 => ?_⟩⟩
  obtain ⟨rfl, e1, e2⟩ := intOf_at r1 h3
  obtain ⟨rfl, e3, e4⟩ := intOf_at r2 h4
  exact ⟨i, j, rfl, ⟨e1, e2, e3, e4⟩, P am2 F2 H2 _ (g1.trans g2) s2 jok_range⟩

/-! ### for -/
def tB (R : Rc) (b : Tg) : L2.TG := fun v σ H Q => ∃ lk am F M H0 δ x δ', RE R.K lk am F H H0 σ δ ∧ SR R lk am F M H ∧ DV R.K am F v x ∧ b.bd x δ = some δ' ∧ ∀ σ', RE R.K lk am F H H0 σ' δ' → (∃ vs, σ' = setV σ b.is vs) → Q σ' H
abbrev B (X : Cx) (C : Zs) (tg : Expr) (b : Tg) : Prop := PG X tg (tB (rc X C) b)
theorem b_name {x : Str} {i : Nat} {pos : Pos} (hN : X.N.Nodup) (hi : X.N[i]? = some x := by rfl) (hx : Loc X.env.scope x := by first | exact Or.inl rfl | exact Or.inr rfl)
    (hf : X.fn x = true ∨ X.env.scope.names.lookup x = some .local := by first | exact .inl rfl | exact .inr rfl) : B X C (.Name x pos) (.nm i) := wkG (pg_name hN hi hx hf) fun v σ H Q h => by
  obtain ⟨lk, am, F, M, H0, δ, x, δ', re, sr, d, h, P⟩ := h
  cases h
  exact P _ (re.setD d) ⟨[v], rfl⟩
theorem b_tup {ts : List Expr} {k : Nat} {is : List Nat} {pos' : Pos} (hc : X.calm = true) (ht : NT X ts is) (hn : (assignEach ts X.env).length = is.length := by rfl) (hst : (assignEach ts X.env).findIdx? (·.1) = none := by rfl) : B X C (.Tuple ts k pos') (.tp is) :=
  wkG (pg_tup hc ht hn hst) fun v σ H Q h => by
    obtain ⟨lk, am, F, M, H0, δ, x, δ', re, sr, d, h, P⟩ := h
    cases x with
    | tup xs =>
      cases d with
      | @tup a vs _ h1 h2 =>
        obtain ⟨re', hl⟩ := setAll_re re h2 (show setAll δ is xs = some δ' from h)
        exact ⟨a, vs, rfl, (show Le F H from sr.ex).seqT h1, hl, hl, P _ re' ⟨vs, rfl⟩⟩
    | tpl xs =>
      cases d with
      | @tpl a vs _ h1 h2 =>
        obtain ⟨re', hl⟩ := setAll_re re h2 (show setAll δ is xs = some δ' from h)
        exact ⟨a, vs, rfl, (show Le F H from sr.ex).seqT h1.sq, hl, hl, P _ re' ⟨vs, rfl⟩⟩
    | _ => cases h
theorem drop_cons {α : Type} {l : List α} {i : Nat} (h : i < l.length) : l.drop i = l[i] :: l.drop (i + 1) := by rw [List.drop_eq_getElem_cons h]
theorem for_go {gi : GI} {b : Tg} {gb : GS} {D : Ends} {σ : St} (h : tS R Wx (sFor gi b gb) D σ H) : tFor (tI R gi) (tB R b) (tS R Wx gb) D σ H := by
  obtain ⟨lk, am0, F0, H0, am, F, M, δ, o, g, re, sr, h, P⟩ := h
  unfold sFor at h
  simp only [Option.bind_eq_some_iff, Prod.exists] at h
  obtain ⟨xs, M1, h1, h2⟩ := h
  refine ⟨lk, am, F, M, δ, H0, xs, M1, re, sr, h1, fun amI FI HI J gI sI jk => ?_⟩
  refine ⟨fun i m σ H => m = xs.length - i ∧ i ≤ xs.length ∧ ∃ am1 F1 M δ, Gr am0 F0 H0 am1 F1 H ∧ Mo amI FI am1 F1 ∧ RE R.K lk am1 F1 H H0 σ δ ∧ SR R lk am1 F1 M H ∧ forL b gb (xs.drop i) δ M = some o,
    ⟨xs.length, by simp, Nat.zero_le _, amI, FI, M1, δ, g.trans gI, .refl _ _, re.gr gI, sI, by rw [List.drop_zero]; exact h2⟩, ?_⟩
  rintro i m σ H ⟨rfl, hi, am1, F1, M, δ, g1, mo, re, sr, h⟩
  obtain ⟨jg, js⟩ := jk i am1 F1 M H mo.ad mo.fx sr
  have P1 := P.mo ((Mo.of gI).trans mo)
  by_cases hlt : i < xs.length
  · rw [drop_cons hlt] at h
    unfold forL at h
    obtain ⟨δ1, hb, h⟩ := Option.bind_eq_some_iff.mp h
    obtain ⟨o1, hbo, h⟩ := Option.bind_eq_some_iff.mp h
    obtain ⟨hgo, hy⟩ := jg xs[i] (by simp [hlt])
    refine .inr ⟨hgo, fun σ H => i + 1 ≤ xs.length ∧ ∃ am1 F1 M δ, Gr am0 F0 H0 am1 F1 H ∧ Mo amI FI am1 F1 ∧ RE R.K lk am1 F1 H H0 σ δ ∧ SR R lk am1 F1 M H ∧ forL b gb (xs.drop (i + 1)) δ M = some o, fun σ' H' n => ⟨xs.length - (i + 1), by omega, rfl, n⟩, fun v H' y => ?_⟩
    obtain ⟨F', g', s', d'⟩ := hy v H' y
    refine ⟨lk, am1, F', M, H0, δ, xs[i], δ1, re.gr g', s', d', hb, fun σ' re' _ => ?_⟩
    refine ⟨lk, am0, F0, H0, am1, F', M, δ1, o1, g1.trans g', re', s', hbo, ?_⟩
    have P2 := P1.mo (Mo.of g')
    have mo2 := mo.trans (Mo.of g')
    cases o1 with
    | nx δ' M' => exact fun σ2 am2 F2 H2 g2 m2 r2 s2 => ⟨hlt, am2, F2, M', δ', g2, mo2.trans m2, r2, s2, h⟩
    | ct δ' M' => exact fun σ2 am2 F2 H2 g2 m2 r2 s2 => ⟨hlt, am2, F2, M', δ', g2, mo2.trans m2, r2, s2, h⟩
    | bk δ' M' => cases h; exact P2
    | rt w M' => cases h; exact P2
    | rs x M' => cases h; exact P2
  · have e : i = xs.length := by omega
    subst e
    rw [List.drop_length] at h
    cases h
    exact .inl ⟨js rfl, P1 _ _ _ _ g1 (.refl _ _) re sr⟩
theorem s_for {tg iter : Expr} {body : List Stmt} {gi : GI} {b : Tg} {gb : GS} {pos : Pos} (hc : X.calm = true) (hp : PassesOwn (model X.prog X.w) X.A X.env X.xe) (hi : I X C tg iter gi) (hg : B X C tg b) (hb : SS X C Wx body gb)
    (hs : ∀ x, foldedSetIterable iter X.env x = pure x := by intro _; rfl) : S X C Wx (.For tg iter body [] pos) (sFor gi b gb) := wkS (ps_for hp hc hi hg hb hs) fun _ _ _ h => for_go h
/-! ### while -/
theorem while_go {gc : GT} {gb : GS} {fuel : En → Nat} {D : Ends} {σ : St} (h : tS R Wx (sWhile fuel gc gb) D σ H) : tWhile (tT R gc) (tS R Wx gb) D σ H := by
  obtain ⟨lk, am0, F0, H0, am, F, M, δ, o, g, re, sr, h, P⟩ := h
  refine ⟨fun m σ H => ∃ am1 F1 M δ, Gr am0 F0 H0 am1 F1 H ∧ Mo am F am1 F1 ∧ RE R.K lk am1 F1 H H0 σ δ ∧ SR R lk am1 F1 M H ∧ whileL gc gb m δ M = some o, ⟨fuel δ, am, F, M, δ, g, .refl _ _, re, sr, h⟩, ?_⟩
  rintro m σ H ⟨am1, F1, M, δ, g1, mo, re, sr, h⟩
  cases m with
  | zero => cases h
  | succ m =>
    unfold whileL at h
    obtain ⟨⟨b, M1⟩, h1, h2⟩ := Option.bind_eq_some_iff.mp h
    refine ⟨lk, am1, F1, M, δ, H0, b, M1, re, sr, h1, fun am2 F2 H2 g2 s2 => ?_⟩
    have mo2 := mo.trans (Mo.of g2)
    cases b with
    | false =>
      cases h2
      exact iteF (P _ _ _ _ (g1.trans g2) mo2 (re.gr g2) s2)
    | true =>
      obtain ⟨o1, h3, h4⟩ := Option.bind_eq_some_iff.mp h2
      refine iteT ⟨fun σ H => ∃ am1 F1 M δ, Gr am0 F0 H0 am1 F1 H ∧ Mo am F am1 F1 ∧ RE R.K lk am1 F1 H H0 σ δ ∧ SR R lk am1 F1 M H ∧ whileL gc gb m δ M = some o, fun σ' H' n => ⟨m, by omega, n⟩, ?_⟩
      refine ⟨lk, am0, F0, H0, am2, F2, M1, δ, o1, g1.trans g2, re.gr g2, s2, h3, ?_⟩
      have P2 := P.mo mo2
      cases o1 with
      | nx δ' M' => exact fun σ2 am3 F3 H3 g3 m3 r3 s3 => ⟨am3, F3, M', δ', g3, mo2.trans m3, r3, s3, h4⟩
      | ct δ' M' => exact fun σ2 am3 F3 H3 g3 m3 r3 s3 => ⟨am3, F3, M', δ', g3, mo2.trans m3, r3, s3, h4⟩
      | bk δ' M' => cases h4; exact P2
      | rt w M' => cases h4; exact P2
      | rs x M' => cases h4; exact P2
theorem s_while {c : Expr} {body : List Stmt} {gc : GT} {gb : GS} {pos : Pos} (fuel : En → Nat) (hp : PassesOwn (model X.prog X.w) X.A X.env X.xe) (hc : T X C c gc) (hb : SS X C Wx body gb) : S X C Wx (.While c body [] pos) (sWhile fuel gc gb) := wkS (ps_while hp hc hb) fun _ _ _ h => while_go h

/-! ### comprehensions -/
theorem wp_out {i : Nat} {x : Option V} {σ : St} : ∀ {own : List Nat}, i ∉ own → wipe (σ.set i x) own = (wipe σ own).set i x
  | [], _ => rfl
  | v :: vs, h => by
    unfold wipe
    rw [wp_out (x := x) fun hm => h (List.mem_cons_of_mem _ hm), List.set_comm _ _ (fun e => h (by rw [e]; exact List.mem_cons_self))]
theorem wp_set {i : Nat} {x : Option V} {σ : St} : ∀ {own : List Nat}, i ∈ own → wipe (σ.set i x) own = wipe σ own
  | [], h => by cases h
  | v :: vs, h => by
    unfold wipe
    by_cases hm : i ∈ vs
    · rw [wp_set hm]
    · rcases List.mem_cons.mp h with q | q
      · subst q
        rw [wp_out (x := x) hm, List.set_set]
      · exact absurd q hm
theorem setV_wipe : ∀ {is : List Nat} {vs : List V} {σ : St} {own : List Nat}, (∀ i ∈ is, i ∈ own) → wipe (setV σ is vs) own = wipe σ own
  | [], _, _, _, _ => by unfold setV; rfl
  | _ :: _, [], _, _, _ => by unfold setV; rfl
  | i :: is, v :: vs, σ, own, h => by
    show wipe (setV (σ.set i (some v)) is vs) own = wipe σ own
    rw [setV_wipe fun j hj => h j (List.mem_cons_of_mem _ hj)]
    exact wp_set (h i List.mem_cons_self)
theorem wipe_wipe (σ : St) (own : List Nat) : wipe (wipe σ own) own = wipe σ own := by
  have key : ∀ (vs : List Nat) (τ : St), (∀ v ∈ vs, v < τ.length → τ[v]? = some none) → wipe τ vs = τ := by
    intro vs
    induction vs with
    | nil => intro τ _; rfl
    | cons v vs ih =>
      intro τ h
      unfold wipe
      rw [ih τ fun x hx => h x (List.mem_cons_of_mem _ hx)]
      by_cases hv : v < τ.length
      · have e := h v List.mem_cons_self hv
        apply List.ext_getElem?
        intro j
        by_cases hj : v = j
        · subst hj; rw [List.getElem?_set_self hv, e]
        · rw [List.getElem?_set_ne hj]
      · rw [List.set_eq_of_length_le (by omega)]
  refine key own _ fun v hv hl => ?_
  clear key
  induction own with
  | nil => cases hv
  | cons u us ih =>
    unfold wipe at hl ⊢
    rw [List.length_set] at hl
    by_cases e : u = v
    · subst e
      rw [List.getElem?_set_self hl]
    · rw [List.getElem?_set_ne e]
      rcases List.mem_cons.mp hv with q | q
      · exact absurd q.symm e
      · exact ih q hl
theorem wipe_re {σ : St} {δ : En} (r : RE R.K lk am F H H0 σ δ) : ∀ own : List Nat, RE R.K lk am F H H0 (wipe σ own) (wipeE δ own)
  | [] => r
  | v :: vs => by
    have q := wipe_re r vs
    unfold wipe wipeE
    refine ⟨by simp [q.len], fun j w h => ?_, fun j w u h ho hs => ?_, fun j k w u z hjk h1 o1 h2 o2 hs => ?_⟩
    · rcases set_at h with ⟨_, _, e⟩ | ⟨hne, h⟩
      · cases e
      · obtain ⟨v', a, b, c⟩ := q.at_ j w h
        exact ⟨v', by rw [List.getElem?_set_ne hne]; exact a, b, c⟩
    · rcases set_at h with ⟨_, _, e⟩ | ⟨hne, h⟩
      · cases e
      · rw [List.getElem?_set_ne hne] at hs
        exact q.own j w u h ho hs
    · rcases set_at h1 with ⟨_, _, e⟩ | ⟨hne, h1⟩
      · cases e
      · rcases set_at h2 with ⟨_, _, e⟩ | ⟨hne2, h2⟩
        · cases e
        · rw [List.getElem?_set_ne hne] at hs
          rw [List.getElem?_set_ne hne2]
          exact q.dis j k w u z hjk h1 o1 h2 o2 hs
/-- a thing that is neither frozen nor a cell changes -/
theorem SR.out {p : Addr} {o : HO} (s : SR R lk am F M H) (hn : p ∉ am) (hF : F p = none) (hl : lk p = none) : SR R lk am F M (upd H p o) := by
  refine ⟨fun a u h => ?_, s.fz, fun a u h => ?_, s.len, s.nd, s.fr, fun n a c e1 e2 => ?_⟩
  · have e : a ≠ p := fun z => by rw [z, hF] at h; cases h
    rw [upd_ne e]; exact s.ex a u h
  · have e : a ≠ p := fun z => by rw [z, hl] at h; cases h
    rw [upd_ne e]; exact s.lh a u h
  · have e : a ≠ p := fun z => hn (by rw [← z]; exact List.mem_of_getElem? e1)
    have q := (s.cl n a c e1 e2).mono (new := []) (H' := upd H p o) (Le.refl F) (fun u hu => by rw [upd_ne e]; exact hu)
    rwa [List.append_nil] at q
theorem Gr.out {p : Addr} {o : HO} (g : Gr am0 F0 H0 am F H) (h : H0 p = none) : Gr am0 F0 H0 am F (upd H p o) :=
  ⟨g.fx, g.fn, g.ad, fun a u hn e => by rw [upd_ne (ne_of_none e h)]; exact g.kp a u hn e, fun a u e => by rw [upd_ne (ne_of_none e h)]; exact g.th a u e⟩
def tTs (R : Rc) (g : GT) : TT := tT R g
abbrev TT' (X : Cx) (C : Zs) (es : List Expr) (g : GT) : Prop := PTs X es (tT (rc X C) g)
theorem tt_yes : TT' X C [] Mi.tYes := ⟨fun pins s σ H Q I h => by
  obtain ⟨lk, am, F, M, δ, H0, b, M', re, sr, h, P⟩ := h
  cases h
  exact pts_nil.run pins s σ H Q I (P _ _ _ (Gr.refl _ _ _) sr)⟩
theorem tt_one {c : Expr} {g : GT} (h : T X C c g) : TT' X C [c] g := pts_one h
theorem compL_len {b : Tg} {t : GT} {e : G} {δ : En} : ∀ {xs : List D} {M M' : Sto} {ys : List D}, compL b t e δ xs M = some (ys, M') → ys.length ≤ xs.length
  | [], M, M', ys, h => by cases h; exact Nat.le_refl _
  | x :: r, M, M', ys, h => by
    unfold compL at h
    simp only [Option.bind_eq_some_iff, Prod.exists] at h
    obtain ⟨δ1, _, c, M1, _, h⟩ := h
    cases c with
    | true =>
      simp only [if_true, Option.bind_eq_some_iff, Prod.exists, Option.some.injEq, Prod.mk.injEq] at h
      obtain ⟨_, M2, _, y, _, zs, M3, h, rfl, rfl⟩ := h
      have := compL_len h
      simp only [List.length_cons]; omega
    | false =>
      simp only [Bool.false_eq_true, if_false] at h
      have := compL_len h
      simp only [List.length_cons]; omega
theorem comp_go {gi : GI} {b : Tg} {t : GT} {e : G} {own : List Nat} {σ : St} {Q : VK} (hb : ∀ i ∈ b.is, i ∈ own) (h : tG R (gComp gi b t e own) σ H Q) : tLc (tI R gi) (tB R b) (tT R t) (tG R e) own σ H Q := by
  obtain ⟨lk, am, F, M, δ, H0, w, M', re, sr, h, P⟩ := h
  unfold gComp at h
  simp only [Option.bind_eq_some_iff, Prod.exists] at h
  obtain ⟨xs, M1, h1, zs, Mz, h2, h3⟩ := h
  split at h3
  · rename_i hsz
    cases h3
    refine ⟨lk, am, F, M, δ, H0, xs, M1, re, sr, h1, fun amI FI HI J gI sI jk A hA => ?_⟩
    have hA1 := sI.fresh hA
    have hAl : lk A = none := by
      cases q : lk A with
      | none => rfl
      | some u => have hx := sI.lh A u q; rw [hA] at hx; cases hx
    have reW := wipe_re (re.gr gI) own
    refine ⟨fun i m H => m = xs.length - i ∧ i ≤ xs.length ∧ ∃ am1 F1 M acc ys zs', Gr amI FI HI am1 F1 H ∧ SR R lk am1 F1 M H ∧ H A = some (.lst acc) ∧ A ∉ am1 ∧ F1 A = none ∧ DVs R.K am1 F1 acc ys ∧ ys.length ≤ i ∧ compL b t e (wipeE δ own) (xs.drop i) M = some (zs', M') ∧ ys ++ zs' = zs,
      ⟨xs.length, by simp, Nat.zero_le _, amI, FI, M1, [], [], zs, (Gr.refl _ _ _).out hA, sI.out hA1.2 hA1.1 hAl, upd_same, hA1.2, hA1.1, .nil, Nat.le_refl _, by rw [List.drop_zero]; exact h2, rfl⟩, ?_⟩
    rintro i m H ⟨rfl, hi, am1, F1, M, acc, ys, zs', g1, s1, hD, hn, hF, d1, hyl, h, ez⟩
    obtain ⟨jg, js⟩ := jk i am1 F1 M H (Mo.of g1).ad g1.fx s1
    by_cases hlt : i < xs.length
    · rw [drop_cons hlt] at h
      unfold compL at h
      simp only [Option.bind_eq_some_iff, Prod.exists] at h
      obtain ⟨δ1, hb1, c, M3, h3, h4⟩ := h
      obtain ⟨hgo, hy⟩ := jg xs[i] (by simp [hlt])
      refine .inr ⟨hgo, fun H => i + 1 ≤ xs.length ∧ ∃ am1 F1 M acc ys zs', Gr amI FI HI am1 F1 H ∧ SR R lk am1 F1 M H ∧ H A = some (.lst acc) ∧ A ∉ am1 ∧ F1 A = none ∧ DVs R.K am1 F1 acc ys ∧ ys.length ≤ i + 1 ∧ compL b t e (wipeE δ own) (xs.drop (i + 1)) M = some (zs', M') ∧ ys ++ zs' = zs,
        fun H' n => ⟨xs.length - (i + 1), by omega, rfl, n⟩, fun v H' y => ?_⟩
      obtain ⟨F', g', s', d'⟩ := hy v H' y
      refine ⟨lk, am1, F', M, H0, wipeE δ own, xs[i], δ1, (reW.gr g1).gr g', s', d', hb1, fun σ2 re2 ⟨vs, ev⟩ => ⟨?_, ?_⟩⟩
      · rw [ev, setV_wipe hb]
        exact wipe_wipe σ own
      refine ⟨lk, am1, F', M, δ1, H0, c, M3, re2, s', h3, fun am3 F3 H3 g3 s3 => ?_⟩
      have gA := g'.trans g3
      have hD3 := gA.kp A _ hn hD
      have hn3 := gA.nam hD hn
      have hF3 : F3 A = none := by rw [gA.fn A _ hD]; exact hF
      cases c with
      | false =>
        simp only [Bool.false_eq_true, if_false] at h4
        exact iteF ⟨hlt, am3, F3, M3, acc, ys, zs', g1.trans gA, s3, hD3, hn3, hF3, gA.dvs d1, by omega, h4, ez⟩
      | true =>
        simp only [if_true, Option.bind_eq_some_iff, Prod.exists, Option.some.injEq, Prod.mk.injEq] at h4
        obtain ⟨w, M4, h5, y, h6, zs2, M5, h7, rfl, rfl⟩ := h4
        refine iteT ⟨lk, am3, F3, M3, δ1, H0, w, M4, re2.gr g3, s3, h5, fun u am4 F4 H4 g4 s4 r4 f4 => ?_⟩
        obtain ⟨F5, g5, s5, d5, _⟩ := (FZ.of (R := R) r4 f4 h6).go g4 s4
        have hD5 := g5.kp A _ hn3 hD3
        have hn5 := g5.nam hD3 hn3
        have hF5 : F5 A = none := by rw [g5.fn A _ hD3]; exact hF3
        have hlen : acc.length = ys.length := d1.length
        refine ⟨acc, hD5, ?_, hlt, am4, F5, M4, acc ++ [u], ys ++ [y], zs2, ((g1.trans gA).trans g5).out hA, s5.out hn5 hF5 hAl, upd_same, hn5, hF5, ((g5.dvs (gA.dvs d1)).append (.cons d5 .nil)), ?_, h7, ?_⟩
        · have := hsz.2
          have hs : SZ < sizeLine := by decide
          omega
        · rw [List.length_append, List.length_singleton]; omega
        · rw [List.append_assoc]; exact ez
    · have hi2 : i = xs.length := by omega
      subst hi2
      rw [List.drop_length] at h
      cases h
      rw [List.append_nil] at ez
      subst ez
      refine .inl ⟨js rfl, P _ _ _ _ (gI.trans g1) s1 ⟨A, acc, rfl, hD, hF, hn, hAl, d1⟩ ⟨A, rfl, gI.back hA⟩⟩
  · cases h3
end
end Mi
/-! MiIt: enumerate and zip over lists and tuples alike. -/
namespace Mi
open PySem L2
open PySem.Sem (wp)
open AutoSeq1 (wpAny_loadPart')

def SqB (b : Bool) (K : PySem.W.Frag) (H : Hp) (a : Addr) (xs : List V) : Prop := match b with
  | true => SqT K H a xs
  | false => SqL K H a xs
def ItB (b : Bool) (h : Heap) (it a : Addr) (i : Nat) : Prop := match b with
  | true => h.IsTupleIter it a i
  | false => h.IsListIter it a i
def ObB (b : Bool) (h : Heap) (a : Addr) (items : Array Value) : Prop := match b with
  | true => h.IsTuple a items
  | false => h.IsList a items
def itT (b : Bool) : String := match b with
  | true => "tuple_iterator"
  | false => "list_iterator"
theorem drawsB {prog : Program} {w : World} {A : Around} (hh : A.handled = none) (b : Bool) (it l : Addr) (hne : l ≠ it) (items : Array Value) :
    Draws prog w A it [it, l] items.size (fun i v => items[i]? = some v) (fun i h => ItB b h it l i ∧ ObB b h l items) := match b with
  | true => Draws.tuple hh it l hne items
  | false => Draws.list hh it l hne items
section
variable {X : Cx} {pins : List (Addr × Obj)} {σ : St} {H : Hp} {s : Shared} {a : Addr} {xs ys : List V}
theorem seqB {b : Bool} (I : Inv X pins σ H s) (h : SqB b X.K H a xs) : ∃ its : List Value, Vals xs its ∧ ObB b s.heap a its.toArray ∧ a < s.heap.objs.size := by
  cases b with
  | true =>
    obtain ⟨its, r, p, _⟩ := I.tuple h
    exact ⟨its, r, p, p.lt⟩
  | false =>
    obtain ⟨its, r, p, _⟩ := I.list h
    exact ⟨its, r, p.isList, p.lt⟩
theorem injB {b : Bool} (I : Inv X pins σ H s) (h : SqB b X.K H a xs) (h' : SqB b X.K H a ys) : xs = ys := by
  cases b with
  | true => exact I.tuple_inj h h'
  | false => exact I.list_inj h h'
end
theorem ItB.at {b : Bool} {h h' : Heap} {it a : Addr} {i : Nat} (x : ItB b h it a i) (k : ∀ o, h.get? it = some o → h'.get? it = some o) : ItB b h' it a i := by
  cases b with
  | true => exact Heap.IsTupleIter.at x k
  | false => exact Heap.IsListIter.at x k
theorem ItB.there {b : Bool} {h : Heap} {it a : Addr} {i : Nat} (x : ItB b h it a i) : ∃ o, h.get? it = some o ∧ ∀ v, o.data ≠ .cell v := by
  cases b with
  | true =>
    obtain ⟨o, e, _, d⟩ := (show h.IsTupleIter it a i from x)
    exact ⟨o, e, fun v q => by rw [d] at q; cases q⟩
  | false =>
    obtain ⟨o, e, _, d⟩ := (show h.IsListIter it a i from x)
    exact ⟨o, e, fun v q => by rw [d] at q; cases q⟩
theorem ItB.new {b : Bool} {h : Heap} {it a : Addr} {i : Nat} (e : h.get? it = some { cls := .type (itT b), data := .fields #[.ref a, .int (i : Nat) 0] }) : ItB b h it a i := by
  cases b with
  | true => exact ⟨_, e, rfl, rfl⟩
  | false => exact ⟨_, e, rfl, rfl⟩
theorem pyIterB {prog : Program} {w : World} {A : Around} {E : Value → Shared → Prop} {s : Shared} {b : Bool} {l : Addr} {items : Array Value} {Q : Value → Shared → Prop} (hl : ObB b s.heap l items)
    (h : Q (.ref s.heap.objs.size) { s with heap := s.heap.push { cls := .type (itT b), data := .fields #[.ref l, .int 0 0] } }) : wpAny (model prog w) A (pyIter (.ref l)) Q E s := by
  cases b with
  | true => exact wpAny_pyIter_tuple hl h
  | false => exact wpAny_pyIter_list hl h
theorem ObB.push {b : Bool} {h : Heap} {l : Addr} {items : Array Value} (x : ObB b h l items) (o : Obj) : ObB b (h.push o) l items := by
  cases b with
  | true => exact Heap.IsTuple.push x o
  | false => exact Heap.IsList.push x o

/-! ### enumerate -/
def IteB (b : Bool) (K : PySem.W.Frag) (a : Addr) : It :=
  ⟨fun i H => ∃ (xs : List V) (x : V), SqB b K H a xs ∧ xs[i]? = some x, fun i H v H' => ∃ T x, v = .ref T ∧ H T = none ∧ H' = upd H T (.tup [.int (i : Nat), x]) ∧ ∀ xs, SqB b K H a xs → xs[i]? = some x, fun i H => ∃ xs : List V, SqB b K H a xs ∧ xs.length = i⟩
theorem turn_enumB {P : Program} {w : World} {K : PySem.W.Frag} {elts : List Expr} {kk : Nat} {tpos : Pos} (b : Bool) (a e it : Addr) (hae : a ≠ e) (hai : a ≠ it) :
    Turn P w K (.Tuple elts kk tpos) (IteB b K a) [e, it] e (fun i h => (∃ old, IsEnum h e it ((i : Nat) : Int) old) ∧ ItB b h it a i ∧ e ≠ it) where
  mem := by simp
  obj := fun i h st c hb => by
    obtain ⟨⟨old, he⟩, hi, _⟩ := st
    have e' : c = e ∨ c = it := by simpa using hb
    rcases e' with z | z
    · rw [z]; exact ⟨_, he, fun v q => nomatch q⟩
    · rw [z]; exact hi.there
  keep := fun i h h' st k => let ⟨⟨old, he⟩, hi, hne⟩ := st; ⟨⟨old, k e (by simp) _ he⟩, hi.at fun o q => k it (by simp) o q, hne⟩
  item := by
    intro X hP hw hK hc i pins s σ H E I hf st hg
    subst hP hw hK
    obtain ⟨⟨old, he⟩, hit, hne⟩ := st
    obtain ⟨xs, x, hq, hx⟩ := hg
    obtain ⟨its, rv, p, hla⟩ := seqB I hq
    obtain ⟨u, hu, ru⟩ := rv.get hx
    have hel : e < s.heap.objs.size := Heap.lt_size he
    have hil : it < s.heap.objs.size := by obtain ⟨_, q, _⟩ := hit.there; exact Heap.lt_size q
    have hlt : i < its.toArray.size := by
      have := (List.getElem?_eq_some_iff.mp hu).1
      simpa using this
    refine wpAny_pyNext_enum_itemD (drawsB (prog := X.prog) (w := X.w) (A := X.A.in1) (show X.A.in1.handled = none from I.ok.hd hc) b it a hai its.toArray) he ⟨hit, p⟩ hlt hne (by simp [hne, hae.symm]) fun y h' tk hy ho hst' hT hsz hk => ?_
    have ey : y = u := by
      have hu' : its.toArray[i]? = some u := by simpa using hu
      rw [hu'] at hy
      exact (Option.some.inj hy).symm
    subst ey
    refine ⟨_, rfl, wpAny_letOwnedTupleGo_enum (s := { s with heap := h', toks := tk + 1 }) ho fun h'' he' sb => ?_⟩
    have hT2 : h''.get? s.heap.objs.size = some { cls := .type "tuple", data := .seq #[.int i tk, y] } := (sb.2 _ (Nat.ne_of_gt hel)).trans hT
    have new : ObjOk X.prog X.w (upd H s.heap.objs.size (.tup [.int (i : Nat), x])) h'' s.heap.objs.size (.tup [.int (i : Nat), x]) :=
      ⟨by show 2 ≤ sizeLine; decide, [.int i tk, y], .cons ⟨_, rfl⟩ (.cons ru .nil), ⟨_, hT2, rfl, _, rfl⟩⟩
    have I1 : Inv X pins σ (upd H s.heap.objs.size (.tup [.int (i : Nat), x])) { s with heap := h'', toks := tk + 1 } :=
      I.turnedNew (ch := [e, it]) (fun c ob hb q => (sb.2 c (fun z => hb (by simp [z]))).trans (hk c ob (fun z => hb (by simp [z])) (fun z => hb (by simp [z])) q)) hf (Nat.le_refl _) new
    refine ⟨.ref s.heap.objs.size, _, I1, rfl, ⟨_, x, rfl, I.hok.fresh (Nat.le_refl _), rfl, fun ys hy => by rw [injB I hy hq]; exact hx⟩, ⟨⟨y, ?_⟩, hst'.1.at fun o q => (sb.2 it (Ne.symm hne)).trans q, hne⟩, fun c hb => ?_⟩
    · have e1 : ((i + 1 : Nat) : Int) = (i : Int) + 1 := by omega
      rw [e1]; exact he'
    · have hb' : c < s.heap.objs.size := by
        have e' : c = e ∨ c = it := by simpa using hb
        rcases e' with z | z
        · rw [z]; exact hel
        · rw [z]; exact hil
      rw [upd_ne (Nat.ne_of_lt hb')]
      exact (hf c hb).1
  done := by
    intro X hP hw hK hc i pins s σ H E I hf st hg
    subst hP hw hK
    obtain ⟨⟨old, he⟩, hit, hne⟩ := st
    obtain ⟨xs, hq, hx⟩ := hg
    obtain ⟨its, rv, p, hla⟩ := seqB I hq
    obtain ⟨f0, f1, f2, f3, f4, f5⟩ := hf it (by simp)
    have hl := rv.length
    have hi : i = its.toArray.size := by simp; omega
    subst hi
    exact wpAny_pyNext_enum_endD (drawsB (prog := X.prog) (w := X.w) (A := X.A.in1) (show X.A.in1.handled = none from I.ok.hd hc) b it a hai its.toArray) he ⟨hit, p⟩ fun h' eb => ⟨rfl, I.turned (t' := s.toks) (fun c o hb q => eb c o hb q) f0 f1 f3 f4 f5⟩
  self := fun A i s Q E st h => let ⟨⟨_, he⟩, _⟩ := st; wpAny_pyIter_enum he h
theorem meets_enumT (l : Addr) (items : Array Value) (n : Nat) (dct : Option Addr) (sl : Array (Option Value)) :
    Meets (Builtin.«enumerate.__new__» ⟨[.type "enumerate", .ref l], []⟩) (fun _ R s => s.heap.get? l = some { cls := .type "tuple", dict := dct, data := .seq items n, slots := sl } ∧
      R (.ok (.ret (.ref (s.heap.push { cls := .type "tuple_iterator", data := .fields #[.ref l, .int 0 0] }).objs.size)))
        { s with heap := (s.heap.push { cls := .type "tuple_iterator", data := .fields #[.ref l, .int 0 0] }).push { cls := .type "enumerate", data := .fields #[.none, .bool false, .ref s.heap.objs.size, rawInt 0, .none, .none] } }) :=
  .of_wp fun prog w A R s h => by
    obtain ⟨hp, g, d, tk, os⟩ := s; obtain ⟨hl, h⟩ := h
    have hsub := sub_enumerate
    have hL : Heap.IsTuple (Shared.heap ⟨hp, g, d, tk, os⟩) l items := ⟨_, hl, rfl, n, rfl⟩
    wp_walk using wpAny_loadPart' hl
    refine wpAny_stack_any fun st => wpAny_pure ?_
    split
    · rename_i c _ _ _ _ _
      cases (c == Value.type "enumerate")
      · wp_walk using wpAny_loadPart' hl, wpAny_pyIter_tuple hL
        exact ⟨_, rfl, h⟩
      · wp_walk using wpAny_loadPart' hl, wpAny_pyIter_tuple hL
        exact ⟨_, rfl, h⟩
    · wp_walk using wpAny_loadPart' hl, wpAny_pyIter_tuple hL
      exact ⟨_, rfl, h⟩
section
variable {prog : Program} {w : World} {A : Around} {E : Value → Shared → Prop} {s : Shared}
theorem call_enumT {l : Addr} {items : Array Value} {Q : Value → Shared → Prop} (hL : s.heap.IsTuple l items)
    (h : ∀ h', IsEnum h' (s.heap.objs.size + 1) s.heap.objs.size 0 .none → h'.IsTupleIter s.heap.objs.size l 0 → h'.objs.size = s.heap.objs.size + 2 →
      (∀ b o, s.heap.get? b = some o → h'.get? b = some o) → Q (.ref (s.heap.objs.size + 1)) { s with heap := h' }) :
    wpAny (model prog w) A (call (.type "enumerate") [.ref l]) Q E s := by
  obtain ⟨⟨c, dct, dt, sl⟩, hl, hc, n, hd⟩ := hL
  replace hc : c = .type "tuple" := hc
  replace hd : dt = .seq items n := hd
  subst hc hd
  refine callType_new F.called_enumerate (by decide) (F.typeCall_enumerate_1 _) (F.newCall_enumerate_1 _) (fun obj => F.args_object_init_2 obj _) F.entry_enumerate_new
    (meets_enumT l items n dct sl) ⟨hl, ?_⟩
  have hz : (s.heap.push { cls := .type "tuple_iterator", data := .fields #[.ref l, .int 0 0] }).objs.size = s.heap.objs.size + 1 := Heap.size_push ..
  show _ ∧ _
  rw [hz]
  have he : IsEnum ((s.heap.push { cls := .type "tuple_iterator", data := .fields #[.ref l, .int 0 0] }).push
      { cls := .type "enumerate", data := .fields #[.none, .bool false, .ref s.heap.objs.size, rawInt 0, .none, .none] }) (s.heap.objs.size + 1) s.heap.objs.size 0 .none := by
    have := Heap.get?_push_size (s.heap.push { cls := .type "tuple_iterator", data := .fields #[.ref l, .int 0 0] })
      (o := { cls := .type "enumerate", data := .fields #[.none, .bool false, .ref s.heap.objs.size, rawInt 0, .none, .none] }) rfl
    rw [hz] at this; exact this
  refine ⟨⟨_, he, rfl⟩, h _ he ⟨_, Heap.get?_push_of_some _ (Heap.get?_push_size _ rfl), rfl, rfl⟩ (by rw [Heap.size_push, hz]) fun b o x => Heap.get?_push_of_some _ (Heap.get?_push_of_some _ x)⟩
theorem call_enumB {b : Bool} {l : Addr} {items : Array Value} {Q : Value → Shared → Prop} (hL : ObB b s.heap l items)
    (h : ∀ h', IsEnum h' (s.heap.objs.size + 1) s.heap.objs.size 0 .none → ItB b h' s.heap.objs.size l 0 → h'.objs.size = s.heap.objs.size + 2 →
      (∀ b o, s.heap.get? b = some o → h'.get? b = some o) → Q (.ref (s.heap.objs.size + 1)) { s with heap := h' }) :
    wpAny (model prog w) A (call (.type "enumerate") [.ref l]) Q E s := by
  cases b with
  | true => exact call_enumT hL h
  | false => exact call_enumerate_list hL h
end
def iEnumB (K : PySem.W.Frag) (ta : TA) : TI := fun σ H R => ta σ H fun vs H1 => ∃ a b xs, vs = [.ref a] ∧ SqB b K H1 a xs ∧ R (IteB b K a) H1
theorem pi_enumB {X : Cx} {e : Expr} {ta : TA} {p pos tpos : Pos} {elts : List Expr} {kk : Nat} (hg : Gl X "enumerate") (hm : X.mg "enumerate" = none) (ha : PA X [e] ta) (hs : starEach [e] X.env = [(false, eval e X.env)] := by rfl) :
    PI X (.Tuple elts kk tpos) (.Call (.Name "enumerate" p) [e] [] pos) (iEnumB X.K ta) := by
  refine ⟨fun pins s σ H R I h => ?_⟩
  refine PyProof.Rows.Call_ (ld_blt I hg hm PyProof.Rows.boot_enumerate (PyProof.Rows.callWith_type1 (thn (ha.run pos pins s σ H _ I h) fun us s1 ⟨vs, H1, I1, r1, q1⟩ => ?_) hs rfl))
  obtain ⟨a, b, xs, ex, hq, q⟩ := q1
  subst ex
  cases r1 with
  | cons r rr =>
    cases rr
    cases r
    obtain ⟨its, rv, p', hla⟩ := seqB I1 hq
    refine call_enumB p' fun h' he hit hsz hk => wpAny_pyIter_enum he ?_
    have I2 : Inv X pins σ H1 { s1 with heap := h' } := I1.kept (t' := s1.toks) hk
    refine ⟨s1.heap.objs.size + 1, [s1.heap.objs.size + 1, s1.heap.objs.size], _, _, H1, rfl, I2, turn_enumB b a (s1.heap.objs.size + 1) s1.heap.objs.size (Nat.ne_of_lt (Nat.lt_succ_of_lt hla)) (Nat.ne_of_lt hla), ⟨⟨.none, he⟩, hit, Nat.succ_ne_self _⟩, fun c hb => ?_, q⟩
    have e' : c = s1.heap.objs.size + 1 ∨ c = s1.heap.objs.size := by simpa using hb
    have hle : s1.heap.objs.size ≤ c := by
      rcases e' with z | z
      · rw [z]; exact Nat.le_add_right _ _
      · rw [z]; exact Nat.le_refl _
    exact I1.fpOk hle (I1.hok.fresh hle)

/-! ### zip -/
def ItzB (b c : Bool) (K : PySem.W.Frag) (a d : Addr) : It :=
  ⟨fun i H => ∃ (xs ys : List V) (x y : V), SqB b K H a xs ∧ SqB c K H d ys ∧ xs[i]? = some x ∧ ys[i]? = some y,
    fun i H v H' => ∃ T x y, v = .ref T ∧ H T = none ∧ H' = upd H T (.tup [x, y]) ∧ (∀ xs, SqB b K H a xs → xs[i]? = some x) ∧ ∀ ys, SqB c K H d ys → ys[i]? = some y,
    fun i H => ∃ xs ys : List V, SqB b K H a xs ∧ SqB c K H d ys ∧ i = min xs.length ys.length⟩
theorem turn_zipB {P : Program} {w : World} {K : PySem.W.Frag} {elts : List Expr} {kk : Nat} {tpos : Pos} (b c : Bool) {a d z TI TO i1 i2 : Addr} (S : ZipSep2 z TI TO i1 i2 [i1, a] [i2, d]) (h1a : a ≠ i1) (h2d : d ≠ i2) :
    Turn P w K (.Tuple elts kk tpos) (ItzB b c K a d) [z, TI, TO, i1, i2] z (fun i h => IsZip h z TI TO .none ∧ IsTupOf2 h TI (.ref i1) (.ref i2) ∧ (∃ x y, IsTupOf2 h TO x y) ∧ ItB b h i1 a i ∧ ItB c h i2 d i) where
  mem := by simp
  obj := fun i h st e hc => by
    obtain ⟨hz, hTI, ⟨x, y, hTO⟩, h1, h2⟩ := st
    have e' : e = z ∨ e = TI ∨ e = TO ∨ e = i1 ∨ e = i2 := by simpa using hc
    rcases e' with q | q | q | q | q
    · rw [q]; exact ⟨_, hz, fun v q => nomatch q⟩
    · rw [q]; exact ⟨_, hTI, fun v q => nomatch q⟩
    · rw [q]; exact ⟨_, hTO, fun v q => nomatch q⟩
    · rw [q]; exact h1.there
    · rw [q]; exact h2.there
  keep := fun i h h' st k => by
    obtain ⟨hz, hTI, ⟨x, y, hTO⟩, h1, h2⟩ := st
    exact ⟨k z (by simp) _ hz, k TI (by simp) _ hTI, ⟨x, y, k TO (by simp) _ hTO⟩, h1.at fun o q => k i1 (by simp) o q, h2.at fun o q => k i2 (by simp) o q⟩
  item := by
    intro X hP hw hK hc i pins s σ H E I hf st hg
    subst hP hw hK
    obtain ⟨hz, hTI, ⟨x0, y0, hTO⟩, h1, h2⟩ := st
    obtain ⟨xs, ys, x, y, hqx, hqy, hx, hy⟩ := hg
    obtain ⟨its, rv, p, _⟩ := seqB I hqx
    obtain ⟨its2, rv2, p2, _⟩ := seqB I hqy
    obtain ⟨u, hu, ru⟩ := rv.get hx
    obtain ⟨u2, hu2, ru2⟩ := rv2.get hy
    have hzl : z < s.heap.objs.size := Heap.lt_size hz
    have hlt : i < its.toArray.size := by
      have := (List.getElem?_eq_some_iff.mp hu).1
      simpa using this
    have hlt2 : i < its2.toArray.size := by
      have := (List.getElem?_eq_some_iff.mp hu2).1
      simpa using this
    refine wpAny_pyNext_zipD2_item S (drawsB (prog := X.prog) (w := X.w) (A := X.A.in1) (show X.A.in1.handled = none from I.ok.hd hc) b i1 a h1a its.toArray) (drawsB (prog := X.prog) (w := X.w) (A := X.A.in1) (show X.A.in1.handled = none from I.ok.hd hc) c i2 d h2d its2.toArray) hz hTI hTO ⟨h1, p⟩ ⟨h2, p2⟩ hlt hlt2 fun w1 w2 h' tk e1 e2 z' TO' st1 st2 hT hsz hk => ?_
    have ew1 : w1 = u := by
      have hu' : its.toArray[i]? = some u := by simpa using hu
      rw [hu'] at e1
      exact (Option.some.inj e1).symm
    have ew2 : w2 = u2 := by
      have hu' : its2.toArray[i]? = some u2 := by simpa using hu2
      rw [hu'] at e2
      exact (Option.some.inj e2).symm
    subst ew1 ew2
    refine ⟨_, rfl, wpAny_letOwnedTupleGo_zip (s := { s with heap := h', toks := tk }) z' fun h'' z'' sb => ?_⟩
    have hT2 : h''.get? s.heap.objs.size = some { cls := .type "tuple", data := .seq #[w1, w2] } := (sb.2 _ (Nat.ne_of_gt hzl)).trans hT
    have new : ObjOk X.prog X.w (upd H s.heap.objs.size (.tup [x, y])) h'' s.heap.objs.size (.tup [x, y]) :=
      ⟨by show 2 ≤ sizeLine; decide, [w1, w2], .cons ru (.cons ru2 .nil), ⟨_, hT2, rfl, _, rfl⟩⟩
    have I1 : Inv X pins σ (upd H s.heap.objs.size (.tup [x, y])) { s with heap := h'', toks := tk } :=
      I.turnedNew (t' := tk) (ch := [z, TI, TO, i1, i2]) (fun e o hb q => (sb.2 e (fun q' => hb (by simp [q']))).trans (hk e o (fun q' => hb (by simp [q'])) (fun q' => hb (by simp [q'])) (fun q' => hb (by simp [q'])) (fun q' => hb (by simp [q'])) q)) hf (Nat.le_refl _) new
    have hi1z : i1 ≠ z := S.zi1.symm
    have hi2z : i2 ≠ z := S.zi2.symm
    refine ⟨.ref s.heap.objs.size, _, I1, rfl, ⟨_, x, y, rfl, I.hok.fresh (Nat.le_refl _), rfl, fun l hl => by rw [injB I hl hqx]; exact hx, fun l hl => by rw [injB I hl hqy]; exact hy⟩, ⟨z'', ?_, ⟨w1, w2, ?_⟩, ?_, ?_⟩, fun e hcm => ?_⟩
    · exact (sb.2 _ S.TIz).trans (hk _ _ S.TIz S.TITO S.TIi1 S.TIi2 hTI)
    · exact (sb.2 _ S.TOz).trans TO'
    · exact st1.1.at fun o q => (sb.2 _ hi1z).trans q
    · exact st2.1.at fun o q => (sb.2 _ hi2z).trans q
    · have hlt : e < s.heap.objs.size := by
        have e' : e = z ∨ e = TI ∨ e = TO ∨ e = i1 ∨ e = i2 := by simpa using hcm
        rcases e' with q | q | q | q | q
        · rw [q]; exact hzl
        · rw [q]; exact Heap.lt_size hTI
        · rw [q]; exact Heap.lt_size hTO
        · rw [q]; obtain ⟨_, e1, _⟩ := h1.there; exact Heap.lt_size e1
        · rw [q]; obtain ⟨_, e2, _⟩ := h2.there; exact Heap.lt_size e2
      rw [upd_ne (Nat.ne_of_lt hlt)]
      exact (hf e hcm).1
  done := by
    intro X hP hw hK hc i pins s σ H E I hf st hg
    subst hP hw hK
    obtain ⟨hz, hTI, ⟨x0, y0, hTO⟩, h1, h2⟩ := st
    obtain ⟨xs, ys, hqx, hqy, hend⟩ := hg
    obtain ⟨its, rv, p, _⟩ := seqB I hqx
    obtain ⟨its2, rv2, p2, _⟩ := seqB I hqy
    have l1 := rv.length
    have l2 := rv2.length
    refine wpAny_pyNext_zipD2_end S (drawsB (prog := X.prog) (w := X.w) (A := X.A.in1) (show X.A.in1.handled = none from I.ok.hd hc) b i1 a h1a its.toArray) (drawsB (prog := X.prog) (w := X.w) (A := X.A.in1) (show X.A.in1.handled = none from I.ok.hd hc) c i2 d h2d its2.toArray) hz hTI hTO ⟨h1, p⟩ ⟨h2, p2⟩
      (by simp; omega) (by simp; omega) (by simp only [List.size_toArray]; omega) fun h' tk hk => ⟨rfl, I.turnedL (t' := tk) (ch := [z, TI, TO, i1, i2]) (fun e o hb q =>
      hk e o (fun q' => hb (by simp [q'])) (fun q' => hb (by simp [q'])) (fun q' => hb (by simp [q'])) (fun q' => hb (by simp [q'])) q) hf⟩
  self := fun A i s Q E st h => wpAny_pyIter_zip st.1 h
abbrev zH1 (b c : Bool) (h : Heap) (l1 : Addr) : Heap := h.push { cls := .type (itT b), data := .fields #[.ref l1, .int 0 0] }
abbrev zH2 (b c : Bool) (h : Heap) (l1 l2 : Addr) : Heap := (zH1 b c h l1).push { cls := .type (itT c), data := .fields #[.ref l2, .int 0 0] }
abbrev zH3 (b c : Bool) (h : Heap) (l1 l2 : Addr) : Heap := (zH2 b c h l1 l2).push { cls := .type "tuple", data := .seq #[.ref h.objs.size, .ref (zH1 b c h l1).objs.size] }
abbrev zH4 (b c : Bool) (h : Heap) (l1 l2 : Addr) : Heap := (zH3 b c h l1 l2).push { cls := .type "tuple", data := .seq #[.none, .none] }
abbrev zH5 (b c : Bool) (h : Heap) (l1 l2 : Addr) : Heap := (zH4 b c h l1 l2).push { cls := .type "zip", data := .fields #[.none, .bool false, .bool false, .ref (zH2 b c h l1 l2).objs.size, .ref (zH3 b c h l1 l2).objs.size] }
set_option maxHeartbeats 2000000 in
theorem meets_zipTT (l1 l2 : Addr) (xs ys : Array Value) :
    Meets (Builtin.«zip.__new__» ⟨[.type "zip", .ref l1, .ref l2], []⟩) (fun _ R s => s.heap.IsTuple l1 xs ∧ s.heap.IsTuple l2 ys ∧
      R (.ok (.ret (.ref (zH4 true true s.heap l1 l2).objs.size))) { s with heap := zH5 true true s.heap l1 l2 }) :=
  .of_wp fun prog w A R s h => by
    obtain ⟨hp, g, d, tk, os⟩ := s; obtain ⟨hl1, hl2, h⟩ := h
    have hsub := sub_zip
    have hL1 : Heap.IsTuple (Shared.heap ⟨hp, g, d, tk, os⟩) l1 xs := hl1
    have hL2 : Heap.IsTuple (Shared.heap ⟨hp.push { cls := .type "tuple_iterator", data := .fields #[.ref l1, .int 0 0] }, g, d, tk, os⟩) l2 ys := Heap.IsTuple.push hl2 _
    wp_walk using wpAny_pyIter_tuple hL1, wpAny_pyIter_tuple hL2
    exact ⟨_, rfl, h⟩
set_option maxHeartbeats 2000000 in
theorem meets_zipTL (l1 l2 : Addr) (xs ys : Array Value) :
    Meets (Builtin.«zip.__new__» ⟨[.type "zip", .ref l1, .ref l2], []⟩) (fun _ R s => s.heap.IsTuple l1 xs ∧ s.heap.IsList l2 ys ∧
      R (.ok (.ret (.ref (zH4 true false s.heap l1 l2).objs.size))) { s with heap := zH5 true false s.heap l1 l2 }) :=
  .of_wp fun prog w A R s h => by
    obtain ⟨hp, g, d, tk, os⟩ := s; obtain ⟨hl1, hl2, h⟩ := h
    have hsub := sub_zip
    have hL1 : Heap.IsTuple (Shared.heap ⟨hp, g, d, tk, os⟩) l1 xs := hl1
    have hL2 : Heap.IsList (Shared.heap ⟨hp.push { cls := .type "tuple_iterator", data := .fields #[.ref l1, .int 0 0] }, g, d, tk, os⟩) l2 ys := Heap.IsList.push hl2 _
    wp_walk using wpAny_pyIter_tuple hL1, wpAny_pyIter_list hL2
    exact ⟨_, rfl, h⟩
set_option maxHeartbeats 2000000 in
theorem meets_zipLT (l1 l2 : Addr) (xs ys : Array Value) :
    Meets (Builtin.«zip.__new__» ⟨[.type "zip", .ref l1, .ref l2], []⟩) (fun _ R s => s.heap.IsList l1 xs ∧ s.heap.IsTuple l2 ys ∧
      R (.ok (.ret (.ref (zH4 false true s.heap l1 l2).objs.size))) { s with heap := zH5 false true s.heap l1 l2 }) :=
  .of_wp fun prog w A R s h => by
    obtain ⟨hp, g, d, tk, os⟩ := s; obtain ⟨hl1, hl2, h⟩ := h
    have hsub := sub_zip
    have hL1 : Heap.IsList (Shared.heap ⟨hp, g, d, tk, os⟩) l1 xs := hl1
    have hL2 : Heap.IsTuple (Shared.heap ⟨hp.push { cls := .type "list_iterator", data := .fields #[.ref l1, .int 0 0] }, g, d, tk, os⟩) l2 ys := Heap.IsTuple.push hl2 _
    wp_walk using wpAny_pyIter_list hL1, wpAny_pyIter_tuple hL2
    exact ⟨_, rfl, h⟩
set_option maxHeartbeats 2000000 in
theorem meets_zipLL (l1 l2 : Addr) (xs ys : Array Value) :
    Meets (Builtin.«zip.__new__» ⟨[.type "zip", .ref l1, .ref l2], []⟩) (fun _ R s => s.heap.IsList l1 xs ∧ s.heap.IsList l2 ys ∧
      R (.ok (.ret (.ref (zH4 false false s.heap l1 l2).objs.size))) { s with heap := zH5 false false s.heap l1 l2 }) :=
  .of_wp fun prog w A R s h => by
    obtain ⟨hp, g, d, tk, os⟩ := s; obtain ⟨hl1, hl2, h⟩ := h
    have hsub := sub_zip
    have hL1 : Heap.IsList (Shared.heap ⟨hp, g, d, tk, os⟩) l1 xs := hl1
    have hL2 : Heap.IsList (Shared.heap ⟨hp.push { cls := .type "list_iterator", data := .fields #[.ref l1, .int 0 0] }, g, d, tk, os⟩) l2 ys := Heap.IsList.push hl2 _
    wp_walk using wpAny_pyIter_list hL1, wpAny_pyIter_list hL2
    exact ⟨_, rfl, h⟩
theorem meets_zipB (b c : Bool) (l1 l2 : Addr) (xs ys : Array Value) :
    Meets (Builtin.«zip.__new__» ⟨[.type "zip", .ref l1, .ref l2], []⟩) (fun _ R s => ObB b s.heap l1 xs ∧ ObB c s.heap l2 ys ∧
      R (.ok (.ret (.ref (zH4 b c s.heap l1 l2).objs.size))) { s with heap := zH5 b c s.heap l1 l2 }) := match b, c with
  | true, true => meets_zipTT l1 l2 xs ys
  | true, false => meets_zipTL l1 l2 xs ys
  | false, true => meets_zipLT l1 l2 xs ys
  | false, false => meets_zipLL l1 l2 xs ys
section
variable {prog : Program} {w : World} {A : Around} {E : Value → Shared → Prop} {s : Shared}
theorem call_zipB {b c : Bool} {l1 l2 : Addr} {xs ys : Array Value} {Q : Value → Shared → Prop} (hl1 : ObB b s.heap l1 xs) (hl2 : ObB c s.heap l2 ys)
    (h : ∀ h', IsZip h' (s.heap.objs.size + 4) (s.heap.objs.size + 2) (s.heap.objs.size + 3) .none → IsTupOf2 h' (s.heap.objs.size + 2) (.ref s.heap.objs.size) (.ref (s.heap.objs.size + 1)) →
      IsTupOf2 h' (s.heap.objs.size + 3) .none .none → ItB b h' s.heap.objs.size l1 0 → ItB c h' (s.heap.objs.size + 1) l2 0 → h'.objs.size = s.heap.objs.size + 5 →
      (∀ c o, s.heap.get? c = some o → h'.get? c = some o) → Q (.ref (s.heap.objs.size + 4)) { s with heap := h' }) :
    wpAny (model prog w) A (call (.type "zip") [.ref l1, .ref l2]) Q E s := by
  refine callType_new F.called_zip (by decide) (F.typeCall_zip_2 _ _) (F.newCall_zip_2 _ _) (fun obj => F.args_object_init_3 obj _ _) F.entry_zip_new
    (meets_zipB b c l1 l2 xs ys) ⟨hl1, hl2, ?_⟩
  have z1 : (zH1 b c s.heap l1).objs.size = s.heap.objs.size + 1 := Heap.size_push ..
  have z2 : (zH2 b c s.heap l1 l2).objs.size = s.heap.objs.size + 2 := by rw [Heap.size_push, z1]
  have z3 : (zH3 b c s.heap l1 l2).objs.size = s.heap.objs.size + 3 := by rw [Heap.size_push, z2]
  have z4 : (zH4 b c s.heap l1 l2).objs.size = s.heap.objs.size + 4 := by rw [Heap.size_push, z3]
  have z5 : (zH5 b c s.heap l1 l2).objs.size = s.heap.objs.size + 5 := by rw [Heap.size_push, z4]
  have g5 : (zH5 b c s.heap l1 l2).get? (zH4 b c s.heap l1 l2).objs.size = some _ := Heap.get?_push_size _ rfl
  have g4 : (zH5 b c s.heap l1 l2).get? (zH3 b c s.heap l1 l2).objs.size = some _ := Heap.get?_push_of_some _ (Heap.get?_push_size _ rfl)
  have g3 : (zH5 b c s.heap l1 l2).get? (zH2 b c s.heap l1 l2).objs.size = some _ := Heap.get?_push_of_some _ (Heap.get?_push_of_some _ (Heap.get?_push_size _ rfl))
  have g2 : (zH5 b c s.heap l1 l2).get? (zH1 b c s.heap l1).objs.size = some _ := Heap.get?_push_of_some _ (Heap.get?_push_of_some _ (Heap.get?_push_of_some _ (Heap.get?_push_size _ (by cases c <;> rfl))))
  have g1 : (zH5 b c s.heap l1 l2).get? s.heap.objs.size = some _ := Heap.get?_push_of_some _ (Heap.get?_push_of_some _ (Heap.get?_push_of_some _ (Heap.get?_push_of_some _ (Heap.get?_push_size _ (by cases b <;> rfl)))))
  show _ ∧ _
  rw [z2, z3, z4] at g5
  rw [z1, z2] at g3
  rw [z3] at g4
  rw [z1] at g2
  rw [z4]
  exact ⟨⟨_, g5, rfl⟩, h _ g5 g3 g4 (ItB.new (i := 0) g1) (ItB.new (i := 0) g2) z5 fun c o x =>
    Heap.get?_push_of_some _ (Heap.get?_push_of_some _ (Heap.get?_push_of_some _ (Heap.get?_push_of_some _ (Heap.get?_push_of_some _ x))))⟩
end
theorem nn2 {x y z : Nat} (h1 : x ≠ y) (h2 : x ≠ z) : (x : Addr) ∉ ([y, z] : List Addr) := fun h => by
  rcases List.mem_cons.mp h with q | q
  · exact h1 q
  · exact h2 (List.mem_singleton.mp q)
theorem zip_sep {n a d : Nat} (ha : a < n) (hd : d < n) : ZipSep2 (n + 4) (n + 2) (n + 3) n (n + 1) [n, a] [n + 1, d] :=
  ⟨show (n + 2 : Nat) ≠ n + 4 by omega, show (n + 3 : Nat) ≠ n + 4 by omega, show (n + 2 : Nat) ≠ n + 3 by omega, show (n + 2 : Nat) ≠ n by omega, List.mem_cons_self, nn2 (by omega) (by omega), nn2 (by omega) (by omega),
    show (n + 2 : Nat) ≠ n + 1 by omega, List.mem_cons_self, nn2 (by omega) (by omega), nn2 (by omega) (by omega), nn2 (by omega) (by omega), nn2 (by omega) (by omega)⟩
def iZipB (K : PySem.W.Frag) (ta : TA) : TI := fun σ H R => ta σ H fun vs H1 => ∃ a d b c xs ys, vs = [.ref a, .ref d] ∧ SqB b K H1 a xs ∧ SqB c K H1 d ys ∧ R (ItzB b c K a d) H1
theorem pi_zipB {X : Cx} {e e2 : Expr} {ta : TA} {p pos tpos : Pos} {elts : List Expr} {kk : Nat} (hg : Gl X "zip") (hm : X.mg "zip" = none) (ha : PA X [e, e2] ta)
    (hs : starEach [e, e2] X.env = (false, eval e X.env) :: starEach [e2] X.env := by rfl) (hpl : (backTo pos (starEach [e2] X.env)).any (·.1) = false := by rfl) :
    PI X (.Tuple elts kk tpos) (.Call (.Name "zip" p) [e, e2] [] pos) (iZipB X.K ta) := by
  refine ⟨fun pins s σ H R I h => ?_⟩
  refine PyProof.Rows.Call_ (ld_blt I hg hm PyProof.Rows.boot_zip (PyProof.Rows.callWith_type1 (thn (ha.run pos pins s σ H _ I h) fun us s1 ⟨vs, H1, I1, r1, q1⟩ => ?_) hs hpl))
  obtain ⟨a, d, b, c, xs, ys, ex, hqx, hqy, q⟩ := q1
  subst ex
  cases r1 with
  | cons r rr =>
    cases rr with
    | cons r' rr =>
      cases rr
      cases r
      cases r'
      obtain ⟨its, rv, p1, la⟩ := seqB I1 hqx
      obtain ⟨its2, rv2, p2, lb⟩ := seqB I1 hqy
      refine call_zipB p1 p2 fun h' hz hTI hTO h1 h2 hsz hk => wpAny_pyIter_zip hz ?_
      have I2 : Inv X pins σ H1 { s1 with heap := h' } := I1.kept (t' := s1.toks) hk
      refine ⟨s1.heap.objs.size + 4, [s1.heap.objs.size + 4, s1.heap.objs.size + 2, s1.heap.objs.size + 3, s1.heap.objs.size, s1.heap.objs.size + 1], _, _, H1, rfl, I2, turn_zipB b c (zip_sep la lb) (Nat.ne_of_lt la) (Nat.ne_of_lt (Nat.lt_succ_of_lt lb)), ⟨hz, hTI, ⟨_, _, hTO⟩, h1, h2⟩, fun c hcm => ?_, q⟩
      · have e' : c = s1.heap.objs.size + 4 ∨ c = s1.heap.objs.size + 2 ∨ c = s1.heap.objs.size + 3 ∨ c = s1.heap.objs.size ∨ c = s1.heap.objs.size + 1 := by simpa using hcm
        have hle : s1.heap.objs.size ≤ c := by
          rcases e' with z | z | z | z | z
          · rw [z]; exact Nat.le_add_right _ _
          · rw [z]; exact Nat.le_add_right _ _
          · rw [z]; exact Nat.le_add_right _ _
          · rw [z]; exact Nat.le_refl _
          · rw [z]; exact Nat.le_add_right _ _
        exact I1.fpOk hle (I1.hok.fresh hle)

end Mi
/-! MiIu: enumerate and zip, their mirrors. -/
namespace Mi
open PySem L2
/-! ### the mirrors -/
section
variable {X : Cx} {C : Zs} {R : Rc} {lk : Lk} {am : List Addr} {F H : Hp} {M : Sto}
theorem enumD_get : ∀ {xs : List D} {n i : Nat} {x : D}, (enumD n xs)[i]? = some x → ∃ y, xs[i]? = some y ∧ x = .tup [.int ((n + i : Nat) : Int), y]
  | [], _, _, _, h => by simp [enumD] at h
  | y :: r, n, 0, x, h => by simp [enumD] at h; exact ⟨y, rfl, by rw [← h]; rfl⟩
  | y :: r, n, i + 1, x, h => by
    simp only [enumD, List.getElem?_cons_succ] at h
    obtain ⟨z, h1, h2⟩ := enumD_get h
    exact ⟨z, by simpa using h1, by rw [h2, show n + 1 + i = n + (i + 1) by omega]⟩
theorem enumD_len : ∀ (xs : List D) (n : Nat), (enumD n xs).length = xs.length
  | [], _ => rfl
  | y :: r, n => by simp [enumD, enumD_len r (n + 1)]
def FzB (b : Bool) (K : PySem.W.Frag) (F : Hp) (a : Addr) (vs : List V) : Prop := match b with
  | true => SqT K F a vs
  | false => F a = some (.lst vs)
theorem FzB.sq {b : Bool} {a : Addr} {vs : List V} {K : PySem.W.Frag} {F F1 H1 : Hp} (h : FzB b K F a vs) (e : Le F F1) (e2 : Le F1 H1) : SqB b K H1 a vs := by
  cases b with
  | true => exact e2.seqT (e.seqT h)
  | false => exact .of (e2 _ _ (e _ _ h))
theorem pair_new {x y : V} {dx dy : D} {T : Addr} (s : SR R lk am F M H) (hT : H T = none) (d1 : DV R.K am F x dx) (d2 : DV R.K am F y dy) :
    ∃ F', Gr am F H am F' (upd H T (.tup [x, y])) ∧ SR R lk am F' M (upd H T (.tup [x, y])) ∧ DV R.K am F' (.ref T) (.tup [dx, dy]) := by
  obtain ⟨g, s', e⟩ := new_frz s (o := .tup [x, y]) hT
  exact ⟨_, g, s', .tup (.of e) (.cons (g.dv d1) (.cons (g.dv d2) .nil))⟩
theorem jok_enum {b : Bool} {a : Addr} {vs : List V} {xs : List D} (h : FzB b R.K F a vs) (d : DVs R.K am F vs xs) : JOk R lk am F (IteB b R.K a) (enumD 0 xs) := fun i am1 F1 M1 H1 he hl s => by
  have sq : SqB b R.K H1 a vs := h.sq hl s.ex
  refine ⟨fun x hx => ?_, fun hi => ?_⟩
  · obtain ⟨y, hy, rfl⟩ := enumD_get hx
    obtain ⟨v, hv, dv⟩ := (dvs_ext he hl d).get hy
    refine ⟨⟨vs, v, sq, hv⟩, fun u H' hY => ?_⟩
    obtain ⟨T, x', rfl, hT, rfl, hyl⟩ := hY
    have e2 := hyl vs sq
    rw [hv] at e2
    cases e2
    have q := pair_new s hT (.int ((i : Nat) : Int)) dv
    rw [show (0 + i : Nat) = i by omega]
    exact q
  · rw [enumD_len] at hi
    exact ⟨vs, sq, by rw [d.length]; exact hi⟩
theorem zipD_get : ∀ {xs ys : List D} {i : Nat} {x : D}, (zipD xs ys)[i]? = some x → ∃ a b, xs[i]? = some a ∧ ys[i]? = some b ∧ x = .tup [a, b]
  | [], _, _, _, h => by simp [zipD] at h
  | _ :: _, [], _, _, h => by simp [zipD] at h
  | a :: r, b :: q, 0, x, h => by simp [zipD] at h; exact ⟨a, b, rfl, rfl, h.symm⟩
  | a :: r, b :: q, i + 1, x, h => by
    simp only [zipD, List.getElem?_cons_succ] at h
    obtain ⟨c, d, h1, h2, h3⟩ := zipD_get h
    exact ⟨c, d, by simpa using h1, by simpa using h2, h3⟩
theorem zipD_len : ∀ (xs ys : List D), (zipD xs ys).length = min xs.length ys.length
  | [], _ => by simp [zipD]
  | _ :: _, [] => by simp [zipD]
  | a :: r, b :: q => by simp only [zipD, List.length_cons, zipD_len r q]; omega
theorem jok_zip {b c : Bool} {a d : Addr} {vs us : List V} {xs ys : List D} (h : FzB b R.K F a vs) (h' : FzB c R.K F d us) (dx : DVs R.K am F vs xs) (dy : DVs R.K am F us ys) : JOk R lk am F (ItzB b c R.K a d) (zipD xs ys) := fun i am1 F1 M1 H1 he hl s => by
  have sq : SqB b R.K H1 a vs := h.sq hl s.ex
  have sq' : SqB c R.K H1 d us := h'.sq hl s.ex
  refine ⟨fun x hx => ?_, fun hi => ?_⟩
  · obtain ⟨p, q, hp, hq, rfl⟩ := zipD_get hx
    obtain ⟨v, hv, dv⟩ := (dvs_ext he hl dx).get hp
    obtain ⟨u, hu, du⟩ := (dvs_ext he hl dy).get hq
    refine ⟨⟨vs, us, v, u, sq, sq', hv, hu⟩, fun w H' hY => ?_⟩
    obtain ⟨T, v', u', rfl, hT, rfl, hy1, hy2⟩ := hY
    have e2 := hy1 vs sq
    have e3 := hy2 us sq'
    rw [hv] at e2
    rw [hu] at e3
    cases e2
    cases e3
    exact pair_new s hT dv du
  · rw [zipD_len] at hi
    exact ⟨vs, us, sq, sq', by rw [dx.length, dy.length]; exact hi.symm⟩
/-- what is frozen, list or tuple -/
theorem fz_or {K : PySem.W.Frag} {a : Addr} {vs : List V} (h : F a = some (.lst vs) ∨ SqT K F a vs) : ∃ b, FzB b K F a vs := h.elim (fun q => ⟨false, q⟩) fun q => ⟨true, q⟩
end
section
variable {X : Cx} {C : Zs}
theorem i_enum {e : Expr} {ga : G} {p pos tpos : Pos} {elts : List Expr} {kk : Nat} (hm : X.mg "enumerate" = none) (ha : E X C e ga) (hg : Gl X "enumerate" := by rfl) (hs : starEach [e] X.env = [(false, eval e X.env)] := by rfl) :
    I X C (.Tuple elts kk tpos) (.Call (.Name "enumerate" p) [e] [] pos) (iEnum ga) := wkI (pi_enumB hg hm (pa_cons ha pa_nil (by rw [hs]; rfl)) hs) fun σ H Q h => by
  obtain ⟨lk, am, F, M, δ, H0, xs, M', re, sr, h, P⟩ := h
  unfold iEnum iSeq at h
  simp only [Option.map_eq_some_iff, Option.bind_eq_some_iff, Prod.exists, Prod.mk.injEq] at h
  obtain ⟨ys, M1, ⟨w, M2, h1, zs, h2, rfl, rfl⟩, rfl, rfl⟩ := h
  refine ⟨lk, am, F, M, δ, H0, w, M2, re, sr, h1, fun v am1 F1 H1 g1 s1 r1 f1 => ?_⟩
  obtain ⟨F2, a, vs, rfl, g2, s2, l2, d2, q⟩ := seq_at (R := rc X C) g1 s1 r1 f1 h2
  obtain ⟨b, hb⟩ := fz_or q
  exact ⟨a, b, vs, rfl, hb.sq (Le.refl _) s2.ex, P am1 F2 H1 _ g2 s2 (jok_enum hb d2)⟩
end
section
variable {R : Rc} {lk : Lk} {am : List Addr} {F H H0 : Hp} {M : Sto}
theorem FzB.le {b : Bool} {a : Addr} {vs : List V} {K : PySem.W.Frag} {F F1 : Hp} (h : FzB b K F a vs) (e : Le F F1) : FzB b K F1 a vs := by
  cases b with
  | true => exact e.seqT h
  | false => exact e _ _ h
end
section
variable {X : Cx} {C : Zs}
theorem i_zip {e e2 : Expr} {ga gb : G} {p pos tpos : Pos} {elts : List Expr} {kk : Nat} (hm : X.mg "zip" = none) (ha : E X C e ga) (hb : E X C e2 gb) (hg : Gl X "zip" := by rfl)
    (hs : starEach [e, e2] X.env = (false, eval e X.env) :: starEach [e2] X.env := by rfl) (hs2 : starEach [e2] X.env = (false, eval e2 X.env) :: starEach [] X.env := by rfl) (hpl : (backTo pos (starEach [e2] X.env)).any (·.1) = false := by rfl) :
    I X C (.Tuple elts kk tpos) (.Call (.Name "zip" p) [e, e2] [] pos) (iZip ga gb) := wkI (pi_zipB hg hm (pa_cons ha (pa_cons hb pa_nil hs2) hs) hs hpl) fun σ H Q h => by
  obtain ⟨lk, am, F, M, δ, H0, xs, M', re, sr, h, P⟩ := h
  unfold iZip iSeq at h
  simp only [Option.map_eq_some_iff, Option.bind_eq_some_iff, Prod.exists, Prod.mk.injEq] at h
  obtain ⟨ys, M1, ⟨w, M2, h1, zs, h2, rfl, rfl⟩, us, M3, ⟨w2, M4, h3, ts, h4, rfl, rfl⟩, rfl, rfl⟩ := h
  refine ⟨lk, am, F, M, δ, H0, w, M2, re, sr, h1, fun v am1 F1 H1 g1 s1 r1 f1 => ?_⟩
  obtain ⟨F2, a, vs, rfl, g2, s2, l2, d2, q⟩ := seq_at (R := rc X C) g1 s1 r1 f1 h2
  obtain ⟨b, hb⟩ := fz_or q
  refine ⟨lk, am1, F2, M2, δ, H0, w2, M4, re.gr g2, s2, h3, fun v2 am3 F3 H3 g3 s3 r3 f3 => ?_⟩
  obtain ⟨F4, a2, vs2, rfl, g4, s4, l4, d4, q4⟩ := seq_at (R := rc X C) g3 s3 r3 f3 h4
  obtain ⟨c, hc⟩ := fz_or q4
  have hb' := hb.le g4.fx
  exact ⟨a, a2, b, c, vs, vs2, rfl, hb'.sq (Le.refl _) s4.ex, hc.sq (Le.refl _) s4.ex, P am3 F4 H3 _ (g2.trans g4) s4 (jok_zip hb' hc (g4.dvs d2) d4)⟩
end
end Mi
/-! MiFn: comprehensions as expressions, defs. -/
namespace Mi
open PySem L2

section
variable {X : Cx} {C : Zs} {R : Rc} {Wx : WX} {lk : Lk} {am am0 : List Addr} {F H F0 H0 : Hp} {M : Sto}

/-! ### comprehensions -/
theorem blk_by {scope : Scope} {own : List (Str × Nat)} {N' : List Str} {sc' : Scope} (eN : X.N = N') (es : X.env.scope = sc') (ok : blkC N' sc' scope own = true) : BlkOk X.N X.env.scope scope own := by
  rw [eN, es]; exact blkOk_by ok
theorem e_comp {elt tg iter : Expr} {ifs : List Expr} {scope : Scope} {own : List (Str × Nat)} {pos : Pos} {gi : GI} {b : Tg} {gt : GT} {ge : G} (hc : X.calm = true) (hN : X.N.Nodup) (hi : I X C tg iter gi) {N' : List Str} {sc' : Scope} (eN : X.N = N') (es : X.env.scope = sc') (ok : blkC N' sc' scope own = true)
    (hg : ∀ (s : Shared) (H : Hp) (D : Addr) (cl : List (Str × Addr)) (fp : List Addr), B (X.blk s H scope (compEnvC scope cl D X.env) fp) C tg b) (ht : ∀ (s : Shared) (H : Hp) (D : Addr) (cl : List (Str × Addr)) (fp : List Addr), TT' (X.blk s H scope (compEnvC scope cl D X.env) fp) C ifs gt)
    (he : ∀ (s : Shared) (H : Hp) (D : Addr) (cl : List (Str × Addr)) (fp : List Addr), E (X.blk s H scope (compEnvC scope cl D X.env) fp) C elt ge) (hb : ∀ i ∈ b.is, i ∈ own.map (·.2)) (hs : ∀ x, foldedSetIterable iter X.env x = pure x := by intro _; rfl) :
    E X C (.ListComp elt [⟨tg, iter, ifs, 0⟩] scope pos) (gComp gi b gt ge (own.map (·.2))) := wkE (pe_lc hc hN hi (blk_by eN es ok) hg ht he hs) fun _ _ _ h => comp_go hb h
theorem lc_asg {i : Nat} {t : TE} {ga : G} {D : Ends} {σ : St} (ht : ∀ Q, tG R ga σ H Q → t σ H Q) (h : tS R Wx (sAsg i ga) D σ H) : tAsg t (gName i) D σ H := ht _ (asg_go h)
theorem lc_own {i : Nat} {t : TE} {ga : G} {D : Ends} {σ : St} (ht : ∀ Q, tG R ga σ H Q → t σ H Q) (h : tS R Wx (sOwn i ga) D σ H) : tAsg t (gName i) D σ H := ht _ (own_go h)
section
variable {j : Nat} {y : Str} {py : Pos} {elt tg iter : Expr} {ifs : List Expr} {scope : Scope} {own : List (Str × Nat)} {pos spos : Pos} {gi : GI} {b : Tg} {gt : GT} {ge : G}
theorem s_asgLc (hc : X.calm = true) (hN : X.N.Nodup) (hi : I X C tg iter gi) {N' : List Str} {sc' : Scope} (eN : X.N = N') (es : X.env.scope = sc') (ok : blkC N' sc' scope own = true)
    (hg : ∀ (s : Shared) (H : Hp) (D : Addr) (cl : List (Str × Addr)) (fp : List Addr), B (X.blk s H scope (compEnvC scope cl D X.env) fp) C tg b) (ht : ∀ (s : Shared) (H : Hp) (D : Addr) (cl : List (Str × Addr)) (fp : List Addr), TT' (X.blk s H scope (compEnvC scope cl D X.env) fp) C ifs gt)
    (he : ∀ (s : Shared) (H : Hp) (D : Addr) (cl : List (Str × Addr)) (fp : List Addr), E (X.blk s H scope (compEnvC scope cl D X.env) fp) C elt ge) (hb : ∀ i ∈ b.is, i ∈ own.map (·.2)) (hy : X.N[j]? = some y := by rfl) (hyl : X.env.scope.names.lookup y = some .local := by rfl)
    (hsw : swapsWith (.ListComp elt [⟨tg, iter, ifs, 0⟩] scope pos) (some (.Name y py)) spos.line X.env = pure true := by rfl) (hs : ∀ x, foldedSetIterable iter X.env x = pure x := by intro _; rfl) :
    S X C Wx (.Assign [.Name y py] (.ListComp elt [⟨tg, iter, ifs, 0⟩] scope pos) spos) (sAsg j (gComp gi b gt ge (own.map (·.2)))) := wkS (ps_setLc hc hN hy hyl hsw hi (blk_by eN es ok) hg ht he hs) fun _ _ _ h => lc_asg (fun _ q => comp_go hb q) h
theorem s_ownLc (hc : X.calm = true) (hN : X.N.Nodup) (hi : I X C tg iter gi) {N' : List Str} {sc' : Scope} (eN : X.N = N') (es : X.env.scope = sc') (ok : blkC N' sc' scope own = true)
    (hg : ∀ (s : Shared) (H : Hp) (D : Addr) (cl : List (Str × Addr)) (fp : List Addr), B (X.blk s H scope (compEnvC scope cl D X.env) fp) C tg b) (ht : ∀ (s : Shared) (H : Hp) (D : Addr) (cl : List (Str × Addr)) (fp : List Addr), TT' (X.blk s H scope (compEnvC scope cl D X.env) fp) C ifs gt)
    (he : ∀ (s : Shared) (H : Hp) (D : Addr) (cl : List (Str × Addr)) (fp : List Addr), E (X.blk s H scope (compEnvC scope cl D X.env) fp) C elt ge) (hb : ∀ i ∈ b.is, i ∈ own.map (·.2)) (hy : X.N[j]? = some y := by rfl) (hyl : X.env.scope.names.lookup y = some .local := by rfl)
    (hsw : swapsWith (.ListComp elt [⟨tg, iter, ifs, 0⟩] scope pos) (some (.Name y py)) spos.line X.env = pure true := by rfl) (hs : ∀ x, foldedSetIterable iter X.env x = pure x := by intro _; rfl) :
    S X C Wx (.Assign [.Name y py] (.ListComp elt [⟨tg, iter, ifs, 0⟩] scope pos) spos) (sOwn j (gComp gi b gt ge (own.map (·.2)))) := wkS (ps_setLc hc hN hy hyl hsw hi (blk_by eN es ok) hg ht he hs) fun _ _ _ h => lc_own (fun _ q => comp_go hb q) h
end

/-! ### defs -/
def W0 : WX := fun _ _ _ _ => False
theorem dvs_start : ∀ {vs : List V} {ds : List D}, DVs R.K am F vs ds → ∀ (i : Nat) (w : W), (ds.map (fun x => some (W.d x)))[i]? = some (some w) → ∃ v, (vs.map some)[i]? = some (some v) ∧ ∃ x, w = .d x ∧ DV R.K am F v x
  | _, _, .nil, i, w, h => by simp at h
  | _, _, .cons d ds, 0, w, h => by
    simp at h
    exact ⟨_, rfl, _, h.symm, d⟩
  | _, _, .cons d ds, i + 1, w, h => dvs_start ds i w h
theorem start_re {N : List Str} {vs : List V} {ds : List D} (d : DVs R.K am F vs ds) : RE R.K lk am F H H (L2.start N vs) (startE N.length ds) := by
  have key : ∀ (i : Nat) (w : W), (startE N.length ds)[i]? = some (some w) → ∃ v, (L2.start N vs)[i]? = some (some v) ∧ ∃ x, w = .d x ∧ DV R.K am F v x := fun i w h => by
    unfold startE at h
    unfold L2.start
    by_cases hi : i < ds.length
    · rw [List.getElem?_append_left (by simpa using hi)] at h
      rw [List.getElem?_append_left (by simpa [d.length] using hi)]
      exact dvs_start d i w h
    · rw [List.getElem?_append_right (by simpa using hi)] at h
      rw [List.getElem?_replicate] at h
      split at h <;> cases h
  refine ⟨by unfold startE L2.start; simp [d.length], fun i w h => ?_, fun i w v h ho hs => ?_, fun i j w u v hij h1 o1 h2 o2 hs => ?_⟩
  · obtain ⟨v, h1, x, rfl, h2⟩ := key i w h
    exact ⟨v, h1, h2, rfl⟩
  · obtain ⟨v, h1, x, rfl, h2⟩ := key i w h
    cases ho
  · obtain ⟨v, _, x, rfl, _⟩ := key i w h1
    cases o1
theorem ret_rw {v : V} {w z : W} (r : RW R.K lk am F H v w) (f : Fsh H0 H0 v w) (h : retW w = some z) : RW R.K lk am F H v z ∧ Fsh H0 H0 v z := by
  cases w with
  | d x => cases h; exact ⟨r, f⟩
  | ol xs => cases h; exact ⟨r, f⟩
  | fr xs => cases h; exact ⟨r, f⟩
  | fd kv => cases h; exact ⟨r, f⟩
  | od l kv =>
    cases l with
    | true => cases h
    | false =>
      cases h
      obtain ⟨a, kvs, rfl, h1, h2, h3, h4, h5⟩ := r
      have e : lk a = none := by
        cases q : lk a with
        | none => rfl
        | some u => rw [q] at h4; cases h4
      rw [e] at h1
      exact ⟨⟨a, kvs, rfl, h1, h2, h3, e, h5⟩, f⟩
theorem pst_h0 {w : W} {Q : VK} {Hz : Hp} (P : Pst R lk am F M H H0 w Q) {v : V} {am1 : List Addr} {F1 H1 : Hp} (g : Gr am F H am1 F1 H1) (s : SR R lk am1 F1 M H1) (r : RW R.K lk am1 F1 H1 v w) (f : Fsh H Hz v w) (ho : w.own = false) : Q v H1 := by
  refine P v am1 F1 H1 g s r ?_
  cases w with
  | d x => exact True.intro
  | ol xs => cases ho
  | fr xs => exact f
  | fd kv => exact f
  | od l kv => cases ho
theorem ret_own {w z : W} (h : retW w = some z) : z.own = false := by
  cases w with
  | d x => cases h; rfl
  | ol xs => cases h; rfl
  | fr xs => cases h; rfl
  | fd kv => cases h; rfl
  | od l kv =>
    cases l with
    | true => cases h
    | false => cases h; rfl
theorem body_go {N ps : List Str} {g : GS} {vs : List V} {Q : VK} {E : XK} (h : spF R (mkFn ps.length N.length g) vs H Q E) : tS R W0 g { nx := fun _ H' => Q .non H', rt := Q } (L2.start N vs) H := by
  obtain ⟨lk, am, F, M, H0, ds, w, M', sr, d, h, P⟩ := h
  unfold mkFn at h
  split at h
  · split at h
    · rename_i hl w' M1 e
      obtain ⟨z, hz, e2⟩ := Option.map_eq_some_iff.mp h
      cases e2
      refine ⟨lk, am, F, H, am, F, M, _, _, Gr.refl _ _ _, start_re d, sr, e, fun v am1 F1 H1 g1 m1 s1 r1 f1 => ?_⟩
      obtain ⟨r2, f2⟩ := ret_rw r1 f1 hz
      exact pst_h0 P g1 s1 r2 f2 (ret_own hz)
    · rename_i hl δ' M1 e
      cases h
      exact ⟨lk, am, F, H, am, F, M, _, _, Gr.refl _ _ _, start_re d, sr, e, fun σ' am1 F1 H1 g1 m1 r1 s1 => P _ _ _ _ g1 s1 .non True.intro⟩
    · cases h
  · cases h
variable {Pr : Program} {w : World} {K : PySem.W.Frag} {mg : Str → Option Value} {base : Heap}
theorem spF_len {f : Fn} {n : Nat} (hf : ∀ ds M r, f ds M = some r → ds.length = n) (vs : List V) (H : Hp) (Q : VK) (E : XK) (h : spF R f vs H Q E) : vs.length = n := by
  obtain ⟨lk, am, F, M, H0, ds, w, M', sr, d, h, P⟩ := h
  rw [d.length]
  exact hf _ _ _ h
theorem mkFn_len {np n : Nat} {g : GS} (ds : List D) (M : Sto) (r : W × Sto) (h : mkFn np n g ds M = some r) : ds.length = np := by
  unfold mkFn at h
  split at h
  · assumption
  · cases h
/-- THE RULE for a def that raises nothing -/
theorem fn_ok {x qual : Str} {st : Stmt} {f : Addr} {fd : FuncData} {N ps : List Str} {k : Nat} {g : GS} (Fu : Fun K x qual st f fd) (Sc : FnScope N ps (defScope st))
    (hbody : ∀ (cdv : Value) (A : Around) (outer : List Env) (s : Shared) (H : Hp) (E : XK), Room k (A.deeper (PyProof.Rows.envOfC qual (defScope st) s.heap.objs.size f cdv)) → SS (cxOf CX0 Pr w K mg base N qual (defScope st) f cdv A outer s H E).nox C W0 (defBody st) g) : FnOk Pr w K mg base CX0 (k + 1) f fd ps (spF ⟨K, C⟩ (mkFn ps.length N.length g)) := by
  refine Fu.ok Sc (spF_len fun ds M r h => mkFn_len ds M r h) fun cdv A outer s H vs Q E hr h => ?_
  exact ⟨_, hbody cdv A outer s H E hr, body_go h⟩
/-- a def under its name -/
structure Cl (Pr : Program) (w : World) (K : PySem.W.Frag) (mg : Str → Option Value) (base : Heap) (C : Zs) (k : Nat) (x : Str) (g : Fn) : Prop where
  ex : ∃ (f : Addr) (fd : FuncData) (ps : List Str), FnOk Pr w K mg base CX0 k f fd ps (spF ⟨K, C⟩ g) ∧ mg x = some (.ref f) ∧ PySem.W.keepIn K (.ref f) = true ∧ Binds K fd ps []
end
section
variable {X : Cx} {C : Zs}
theorem e_cl {k j : Nat} {x : Str} {p pos : Pos} {e : Expr} {es : List Expr} {ga : GA} {g : Fn} (c : Cl X.prog X.w X.K X.mg X.base C k x g) (hr : Room j X.A) (hk : k ≤ j) (ha : A X C (e :: es) ga) (hg : Gl X x := by rfl) (hdb : (x == ("__debug__" : Str)) = false := by decide)
    (he : starEach (e :: es) X.env = (false, eval e X.env) :: starEach es X.env := by rfl) (hpl : (backTo pos (starEach es X.env)).any (·.1) = false := by rfl) : E X C (.Call (.Name x p) (e :: es) [] pos) (gCall g ga) := by
  obtain ⟨f, fd, ps, F, hm, hk', hb⟩ := c.ex
  exact e_call F (hr.mono hk) hm hk' hb pass0 ha hg hdb he hpl
theorem hu64 {A : Around} {k : Nat} (hr : Room k A) : A.units + 64 < cLine := Nat.lt_of_le_of_lt (Nat.add_le_add_left (by decide : 64 ≤ 64) _) hr.units
end
end Mi
/-! MiMut: what changes: a slot's own list or dict, a cell of the store. -/
namespace Mi
open PySem L2

/-! ### mirrors -/
def putD {κ : Type} [DecidableEq κ] (kv : List (κ × D)) (k : κ) (x : D) : List (κ × D) :=
  if (kv.any fun p => decide (p.1 = k)) = true then kv.map (fun p => if p.1 = k then (p.1, x) else p) else kv ++ [(k, x)]
def setW (w ix : W) (x : D) : Option W := match w, ix with
  | .ol xs, .d (.int i) => (ixN xs.length i).map fun j => .ol (xs.set j x)
  | .od false kv, .d y => (keyOf y).bind fun k => if kv.length < SZ then some (.od false (putD kv k x)) else none
  | _, _ => none
/-- x[e] = e', the slot's own -/
def sSetO (i : Nat) (gi ge : G) : GS := fun δ M => (ge δ M).bind fun p => (frz p.1).bind fun x => match δ[i]? with
  | some (some w) => (gi δ p.2).bind fun q => (setW w q.1 x).map fun w' => .nx (δ.set i (some w')) q.2
  | _ => none
def setCl (c : Cell) (ix : W) (x : D) : Option Cell := match c, ix with
  | .lst xs, .d (.int i) => (ixN xs.length i).map fun j => .lst (xs.set j x)
  | .dct false kv, .d y => (keyOf y).bind fun k => if kv.length < SZ then some (.dct false (putD kv k x)) else none
  | _, _ => none
/-- o[e] = e', o a cell -/
def sSetC (go gi ge : G) : GS := fun δ M => (ge δ M).bind fun p => (frz p.1).bind fun x => (go δ p.2).bind fun r => match r.1 with
  | .d (.cel n) => (gi δ r.2).bind fun q => match q.2[n]? with
    | some c => (setCl c q.1 x).map fun c' => .nx δ (q.2.set n c')
    | none => none
  | _ => none
def getC (w ix : W) : Option D := match w, ix with
  | .ol xs, .d (.int i) => if 0 ≤ i then xs[i.toNat]? else none
  | .od _ kv, .d y => (keyOf y).bind fun k => (kv.find? fun p => decide (p.1 = k)).map (·.2)
  | _, _ => none
abbrev IOp := Int → Int → Option Int
def iAdd : IOp := fun i j => some (i + j)
def iMul : IOp := fun i j => if i.natAbs < BIG ∧ j.natAbs < BIG then some (i * j) else none
/-- x[e] op= e', the slot's own -/
def sAugO (i : Nat) (op : IOp) (gi ge : G) : GS := fun δ M => match δ[i]? with
  | some (some w) => (gi δ M).bind fun q => match getC w q.1 with
    | some (.int a) => (ge δ q.2).bind fun r => match r.1 with
      | .d (.int b) => (op a b).bind fun z => (setW w q.1 (.int z)).map fun w' => .nx (δ.set i (some w')) r.2
      | _ => none
    | _ => none
  | _ => none
/-- x op= e -/
def sAugN (i : Nat) (op : IOp) (ge : G) : GS := fun δ M => match δ[i]? with
  | some (some (.d (.int a))) => (ge δ M).bind fun r => match r.1 with
    | .d (.int b) => (op a b).map fun z => .nx (δ.set i (some (.d (.int z)))) r.2
    | _ => none
  | _ => none

section
variable {X : Cx} {C : Zs} {R : Rc} {Wx : WX} {lk : Lk} {am am0 : List Addr} {F H F0 H0 : Hp} {M : Sto}

/-! ### a slot's own thing changes -/
theorem RW.upd_ne {w : W} {v : V} {p : Addr} {o : HO} (r : RW R.K lk am F H v w) (h : w.own = true → v ≠ .ref p) (hs : w.slot = true) : RW R.K lk am F (upd H p o) v w := by
  cases w with
  | d x => exact r
  | ol xs =>
    obtain ⟨a, vs, rfl, h1, h2⟩ := r
    exact ⟨a, vs, rfl, by rw [L2.upd_ne (fun e => h rfl (by rw [e]))]; exact h1, h2⟩
  | od l kv =>
    obtain ⟨a, vs, rfl, h1, h2⟩ := r
    exact ⟨a, vs, rfl, by rw [L2.upd_ne (fun e => h rfl (by rw [e]))]; exact h1, h2⟩
  | fr _ => cases hs
  | fd _ => cases hs
theorem RE.mut {σ : St} {δ : En} {i : Nat} {w w' : W} {a : Addr} {o : HO} (r : RE R.K lk am F H H0 σ δ) (hi : δ[i]? = some (some w)) (ho : w.own = true) (hs : σ[i]? = some (some (.ref a))) (ho' : w'.own = true) (rw' : RW R.K lk am F (upd H a o) (.ref a) w') :
    RE R.K lk am F (upd H a o) H0 σ (δ.set i (some w')) := by
  have hsl : w'.slot = true := by cases w' <;> first | rfl | cases ho'
  obtain ⟨_, e0, h0⟩ := r.own i w _ hi ho hs
  cases e0
  have hd : ∀ (j : Nat) (u : W), i ≠ j → δ[j]? = some (some u) → u.own = true → σ[j]? ≠ some (some (.ref a)) := fun j u hij hu hou => r.dis i j w u _ hij hi ho hu hou hs
  refine ⟨by rw [List.length_set]; exact r.len, fun j u h => ?_, fun j u z h hu hz => ?_, fun j k u t z hjk h1 o1 h2 o2 hz => ?_⟩
  · rcases set_at h with ⟨rfl, hl, e⟩ | ⟨hne, h⟩
    · cases e
      exact ⟨_, hs, rw', hsl⟩
    · obtain ⟨v', e1, e2, e3⟩ := r.at_ j u h
      exact ⟨v', e1, e2.upd_ne (fun hou e => hd j u hne h hou (by rw [← e]; exact e1)) e3, e3⟩
  · rcases set_at h with ⟨rfl, hl, e⟩ | ⟨hne, h⟩
    · rw [hs] at hz
      cases hz
      exact ⟨a, rfl, h0⟩
    · exact r.own j u z h hu hz
  · rcases set_at h1 with ⟨rfl, hl, e⟩ | ⟨hne, h1⟩
    · rcases set_at h2 with ⟨rfl, _, _⟩ | ⟨hne2, h2⟩
      · exact absurd rfl hjk
      · rw [hs] at hz
        cases hz
        exact hd k t hne2 h2 o2
    · rcases set_at h2 with ⟨rfl, hl, e⟩ | ⟨hne2, h2⟩
      · rw [hs]
        intro q
        cases q
        exact hd j u (Ne.symm hjk) h1 o1 hz
      · exact r.dis j k u t z hjk h1 o1 h2 o2 hz
/-- what an owning slot holds: not frozen, no cell, not there at the start -/
theorem RE.owned {σ : St} {δ : En} {i : Nat} {w : W} (r : RE R.K lk am F H H0 σ δ) (hi : δ[i]? = some (some w)) (ho : w.own = true) : ∃ a, σ[i]? = some (some (.ref a)) ∧ RW R.K lk am F H (.ref a) w ∧ H0 a = none ∧ F a = none ∧ a ∉ am := by
  obtain ⟨v, e1, r1, _⟩ := r.at_ i w hi
  obtain ⟨a, rfl, h0⟩ := r.own i w v hi ho e1
  refine ⟨a, e1, r1, h0, ?_⟩
  cases w with
  | ol xs => obtain ⟨b, vs, e, h1, h2, h3, _⟩ := r1; cases e; exact ⟨h2, h3⟩
  | od l kv => obtain ⟨b, vs, e, h1, h2, h3, _⟩ := r1; cases e; exact ⟨h2, h3⟩
  | _ => cases ho

/-! ### a cell changes -/
theorem SR.mut {n : Nat} {a : Addr} {c : Cell} {o : HO} (s : SR R lk am F M H) (ha : am[n]? = some a) (hk : lk a = none) (hc : CellOk R.K R.Z.C lk am F (upd H a o) a c) : SR R lk am F (M.set n c) (upd H a o) := by
  have hF : F a = none := s.fr a (List.mem_of_getElem? ha)
  refine ⟨fun b u h => ?_, s.fz, fun b u h => ?_, by rw [List.length_set]; exact s.len, s.nd, s.fr, fun m b d e1 e2 => ?_⟩
  · have e : b ≠ a := fun z => by rw [z, hF] at h; cases h
    rw [L2.upd_ne e]; exact s.ex b u h
  · have e : b ≠ a := fun z => by rw [z, hk] at h; cases h
    rw [L2.upd_ne e]; exact s.lh b u h
  · rcases set_at e2 with ⟨rfl, _, e⟩ | ⟨hne, e2⟩
    · cases e
      rw [ha] at e1
      cases e1
      exact hc
    · have e : b ≠ a := fun z => by
        subst z
        obtain ⟨hm, em⟩ := List.getElem?_eq_some_iff.mp e1
        obtain ⟨hn, en⟩ := List.getElem?_eq_some_iff.mp ha
        exact hne ((List.getElem_inj s.nd).mp (en.trans em.symm))
      have q := (s.cl m b d e1 e2).mono (new := []) (H' := upd H a o) (Le.refl F) (fun u hu => by rw [L2.upd_ne e]; exact hu)
      rwa [List.append_nil] at q
theorem Gr.cell {a : Addr} {o : HO} (g : Gr am0 F0 H0 am F H) (ha : a ∈ am) : Gr am0 F0 H0 am F (upd H a o) := by
  refine ⟨g.fx, g.fn, g.ad, fun b u hn e => ?_, fun b u e => ?_⟩
  · have ne : b ≠ a := fun z => by
      subst z
      obtain ⟨n, en, f⟩ := g.ad
      rw [en] at ha
      rcases List.mem_append.mp ha with q | q
      · exact hn q
      · rw [f b q] at e; cases e
    rw [L2.upd_ne ne]; exact g.kp b u hn e
  · by_cases ne : b = a
    · exact ⟨o, by rw [ne]; exact upd_same⟩
    · rw [L2.upd_ne ne]; exact g.th b u e
theorem RE.cell {σ : St} {δ : En} {a : Addr} {o : HO} (r : RE R.K lk am F H H0 σ δ) (ha : a ∈ am) : RE R.K lk am F (upd H a o) H0 σ δ := by
  refine ⟨r.len, fun j u h => ?_, r.own, r.dis⟩
  obtain ⟨v', e1, e2, e3⟩ := r.at_ j u h
  refine ⟨v', e1, e2.upd_ne (fun hou e => ?_) e3, e3⟩
  subst e
  obtain ⟨_, e4, _, _, _, q⟩ := r.owned h hou
  rw [e1] at e4
  cases e4
  exact q ha

/-! ### x.append(e) -/
theorem KVs.put {κ : Type} [DecidableEq κ] {K : PySem.W.Frag} {vs : List (κ × V)} {xs : List (κ × D)} {k : κ} {v : V} {x : D} (h : KVs K am F vs xs) (d : DV K am F v x) : KVs K am F (putK vs k v) (putD xs k x) := by
  have e : (vs.any fun p => decide (p.1 = k)) = xs.any fun p => decide (p.1 = k) := by
    induction h with
    | nil => rfl
    | cons h t ih => simp only [List.any_cons, ih]
  unfold putK putD
  rw [e]
  by_cases hk : (xs.any fun p => decide (p.1 = k)) = true
  · rw [if_pos hk, if_pos hk]
    clear e hk
    induction h with
    | nil => exact .nil
    | @cons k' v' vs x' xs h t ih =>
      simp only [List.map_cons]
      by_cases ek : k' = k
      · simp only [ek, if_true]; exact .cons d ih
      · simp only [ek, if_false]; exact .cons h ih
  · rw [if_neg hk, if_neg hk]
    clear e hk
    induction h with
    | nil => exact .cons d .nil
    | cons h t ih => exact .cons h ih
theorem sz_lt {n : Nat} (h : n ≤ SZ) : n < sizeLine := Nat.lt_of_le_of_lt h (by decide)
theorem s_app {i : Nat} {x : Str} {e : Expr} {ga : G} {px apos cpos pos : Pos} (he : E X C e ga) (hN : X.N[i]? = some x := by rfl) (hv : Vis X.env.scope x := by first | exact Or.inl rfl | exact Or.inr (Or.inl rfl) | exact Or.inr (Or.inr rfl)) (hd : (x == ("__debug__" : Str)) = false := by decide) (hcd : (x == ("__classdict__" : Str)) = false := by decide)
    (hbase : attributeBase (.Name x px) "append" X.env (eval (.Name x px) X.env) = eval (.Name x px) X.env := by rfl)
    (hfew : ((backTo cpos (starEach [e] X.env)).all (fun x => !x.1) && (backToKw cpos (keywordEach [] X.env)).all (fun x => x.1.isSome) && decide (([e] : List Expr).length + ([] : List Keyword).length + (if ([] : List Keyword).isEmpty then 0 else 1) < 30)) = true := by rfl)
    (hline : (apos.endLine == cpos.line) = true := by rfl) (hst : starEach [e] X.env = [(false, eval e X.env)] := by rfl) (hplain : (backTo cpos (starEach [] X.env)).any (·.1) = false := by rfl)
    (hs : swapsWith (.Call (.Attribute (.Name x px) "append" apos) [e] [] cpos) none pos.line X.env = pure false := by rfl) :
    S X C Wx (.Expr (.Call (.Attribute (.Name x px) "append" apos) [e] [] cpos) pos) (sApp i ga) :=
  wkS (ps_expr (pe_bm PySem.F.plainAttrs_list PySem.F.slot_list_append PySem.F.type_list_append mt_append (pe_var hN hv hd hcd) (pa_cons he pa_nil (by rw [hst]; rfl)) hbase hfew hline hst hplain) hs) fun D σ H h => by
  obtain ⟨lk, am0, F0, H0, am, F, M, δ, o, g, re, sr, h, P⟩ := h
  unfold sApp at h
  simp only [Option.bind_eq_some_iff, Prod.exists] at h
  obtain ⟨w, M1, h1, x, h2, h3⟩ := h
  split at h3
  · rename_i xs hi
    split at h3
    · rename_i hl
      cases h3
      obtain ⟨a, hσ, r, h0, hF, hn⟩ := re.owned hi rfl
      refine ⟨.ref a, hσ, .inl ⟨rfl, ?_⟩, lk, am, F, M, δ, H0, w, M1, re, sr, h1, fun v am1 F1 H1 g1 s1 r1 f1 => ?_⟩
      · obtain ⟨b, vs, e, h4, _⟩ := r; cases e; exact ⟨vs, .of h4⟩
      · obtain ⟨F', g', s', d', _⟩ := (FZ.of (R := rc X C) r1 f1 h2).go g1 s1
        have re' := re.gr g'
        obtain ⟨_, hσ', r', _, hF', hn'⟩ := re'.owned hi rfl
        rw [hσ] at hσ'; cases hσ'
        obtain ⟨b, vs, e, h4, _, _, hlk, ds⟩ := r'
        cases e
        refine ⟨a, vs, v, rfl, rfl, h4, by rw [ds.length]; exact Nat.lt_trans hl (by decide), ?_⟩
        exact P _ _ _ _ ((g.trans g').out (H0 := H0) h0) (.of g') (re'.mut hi rfl hσ rfl ⟨a, vs ++ [v], rfl, upd_same, hF', hn', hlk, ds.append (.cons d' .nil)⟩) (s'.out hn' hF' hlk)
    · cases h3
  · cases h3
end
end Mi
/-! MiSet: stores under an index, op=, methods that ask, dict(pairs). -/
namespace Mi
open PySem L2

section
variable {X : Cx} {C : Zs} {R : Rc} {Wx : WX} {lk : Lk} {am am0 : List Addr} {F H F0 H0 : Hp} {M : Sto}
def rSetM : TSet := fun o i v H Q => rSetL o i v H Q ∨ rSetD o i v H Q
theorem setM (hu : X.A.units + 1 < cLine) : PSet X rSetM := fun pins s σ H o i v ov iv u Q I r1 r2 r3 h => h.elim (fun q => set_list pins s σ H o i v ov iv u Q I r1 r2 r3 q) fun q => set_dict hu pins s σ H o i v ov iv u Q I r1 r2 r3 q
theorem key_dv {K : PySem.W.Frag} {v : V} {y : D} {k : Key} (d : DV K am F v y) (h : keyOf y = some k) : v = kV k := by
  cases y with
  | int i => cases h; cases d; rfl
  | str z => cases h; cases d; rfl
  | _ => cases h
/-- a slot's own thing gets an item -/
theorem set_own {K : PySem.W.Frag} {a : Addr} {w w' ix : W} {iv v : V} {x : D} (r : RW K lk am F H (.ref a) w) (ri : RW K lk am F H iv ix) (d : DV K am F v x) (h : setW w ix x = some w') :
    ∃ o, RW K lk am F (upd H a o) (.ref a) w' ∧ w'.own = true ∧ lk a = none ∧ ∀ Q : Hp → Prop, Q (upd H a o) → rSetM (.ref a) iv v H Q := by
  unfold setW at h
  split at h
  · rename_i xs i
    obtain ⟨j, hj, rfl⟩ := Option.map_eq_some_iff.mp h
    obtain ⟨b, vs, e, h1, h2, h3, h4, h5⟩ := r
    cases e
    cases ri
    exact ⟨.lst (vs.set j v), ⟨a, _, rfl, upd_same, h2, h3, h4, h5.set d j⟩, rfl, h4, fun Q q => .inl ⟨a, vs, i, j, rfl, rfl, h1, by rw [h5.length]; exact hj, q⟩⟩
  · rename_i kv y
    simp only [Option.bind_eq_some_iff] at h
    obtain ⟨k, hk, h⟩ := h
    split at h
    · rename_i hl
      cases h
      obtain ⟨b, kvs, e, h1, h2, h3, h4, h5⟩ := r
      cases e
      have e : lk a = none := by
        cases q : lk a with
        | none => rfl
        | some u => rw [q] at h4; cases h4
      rw [e] at h1
      have ei := key_dv (show DV K am F iv y from ri) hk
      subst ei
      exact ⟨.dK (putK kvs k v), ⟨a, _, rfl, by rw [e]; exact upd_same, h2, h3, h4, h5.put d⟩, rfl, e, fun Q q => .inr ⟨a, _, rfl, DPut.k h1 (by rw [h5.length]; exact Nat.lt_trans hl (by decide)), q⟩⟩
    · cases h
  · cases h
theorem s_setO {i k : Nat} {x : Str} {ei ev : Expr} {gi gv : G} {px p2 pos : Pos} (hr : Room k X.A) (hi : E X C ei gi) (he : E X C ev gv) (hN : X.N[i]? = some x := by rfl) (hv : Vis X.env.scope x := by first | exact Or.inl rfl | exact Or.inr (Or.inl rfl) | exact Or.inr (Or.inr rfl)) (hd : (x == ("__debug__" : Str)) = false := by decide) (hcd : (x == ("__classdict__" : Str)) = false := by decide)
    (hs : swapsWithSole [.Subscript (.Name x px) ei p2] ev pos.line X.env = pure false := by rfl) (hw : swappedStores [.Subscript (.Name x px) ei p2] ev X.env = pure none := by rfl) (h1 : (assignEach [.Subscript (.Name x px) ei p2] X.env).map (·.2) = [assign (.Subscript (.Name x px) ei p2) X.env] := by rfl)
    (ha : ∀ v, assign (.Subscript (.Name x px) ei p2) X.env v = (do let ov ← holding [v] (eval (.Name x px) X.env); let iv ← holding [v, ov] (eval ei X.env); standAt p2; holding [v, ov, iv] (setItem ov iv v); release [v, ov, iv] []) := by intro _; rfl) :
    S X C Wx (.Assign [.Subscript (.Name x px) ei p2] ev pos) (sSetO i gi gv) := wkS (ps_asg he (pg_sub (pe_var hN hv hd hcd) hi (setM (hu_of hr)) ha) hs hw h1) fun D σ H h => by
  obtain ⟨lk, am0, F0, H0, am, F, M, δ, o, g, re, sr, h, P⟩ := h
  unfold sSetO at h
  simp only [Option.bind_eq_some_iff, Prod.exists] at h
  obtain ⟨w, M1, h1, x, h2, h3⟩ := h
  split at h3
  · rename_i wo ho
    simp only [Option.bind_eq_some_iff, Option.map_eq_some_iff, Prod.exists] at h3
    obtain ⟨wi, M2, h4, w', h5, rfl⟩ := h3
    have hown : wo.own = true := by unfold setW at h5; split at h5 <;> first | rfl | cases h5
    refine ⟨lk, am, F, M, δ, H0, w, M1, re, sr, h1, fun v am1 F1 H1 g1 s1 r1 f1 => ?_⟩
    obtain ⟨F', g', s', d', _⟩ := (FZ.of (R := rc X C) r1 f1 h2).go g1 s1
    have re' := re.gr g'
    obtain ⟨a, hσ, ra, h0, hF, hn⟩ := re'.owned ho hown
    refine ⟨.ref a, hσ, lk, am1, F', M1, δ, H0, wi, M2, re', s', h4, fun iv am2 F2 H2 g2 s2 r2 f2 => ?_⟩
    have re2 := re'.gr g2
    obtain ⟨_, hσ2, ra2, _, hF2, hn2⟩ := re2.owned ho hown
    rw [hσ] at hσ2; cases hσ2
    obtain ⟨ob, rn, hon, hlk, q⟩ := set_own ra2 r2 (g2.dv d') h5
    exact q _ (P _ _ _ _ (((g.trans g').trans g2).out h0) (.of (g'.trans g2)) (re2.mut ho hown hσ hon rn) (s2.out hn2 hF2 hlk))
  · cases h3
/-- a cell gets an item -/
theorem set_cell {n : Nat} {a : Addr} {c c' : Cell} {ix : W} {iv v : V} {x : D} (s : SR R lk am F M H) (ha : am[n]? = some a) (hc : M[n]? = some c) (ri : RW R.K lk am F H iv ix) (d : DV R.K am F v x) (h : setCl c ix x = some c') :
    ∃ o, SR R lk am F (M.set n c') (upd H a o) ∧ ∀ Q : Hp → Prop, Q (upd H a o) → rSetM (.ref a) iv v H Q := by
  have ok := s.cl n a c ha hc
  unfold setCl at h
  split at h
  · rename_i xs i
    obtain ⟨j, hj, rfl⟩ := Option.map_eq_some_iff.mp h
    obtain ⟨h4, vs, h1, h5⟩ := ok
    cases ri
    exact ⟨.lst (vs.set j v), s.mut ha h4 ⟨h4, _, upd_same, h5.set d j⟩, fun Q q => .inl ⟨a, vs, i, j, rfl, rfl, h1, by rw [h5.length]; exact hj, q⟩⟩
  · rename_i kv y
    simp only [Option.bind_eq_some_iff] at h
    obtain ⟨k, hk, h⟩ := h
    split at h
    · rename_i hl
      cases h
      obtain ⟨h4, kvs, h1, h5⟩ := ok
      have e : lk a = none := by
        cases q : lk a with
        | none => rfl
        | some u => rw [q] at h4; cases h4
      rw [e] at h1
      have ei := key_dv (show DV R.K am F iv y from ri) hk
      subst ei
      exact ⟨.dK (putK kvs k v), s.mut ha e ⟨h4, _, by rw [e]; exact upd_same, h5.put d⟩, fun Q q => .inr ⟨a, _, rfl, DPut.k h1 (by rw [h5.length]; exact Nat.lt_trans hl (by decide)), q⟩⟩
    · cases h
  · cases h
theorem cel_at {n : Nat} {v : V} {K : PySem.W.Frag} (d : DV K am F v (.cel n)) : ∃ a, v = .ref a ∧ am[n]? = some a := by
  cases d with
  | @cel a _ h => exact ⟨a, rfl, h⟩
theorem Gr.cel {am' : List Addr} {F' H' : Hp} {n : Nat} {a : Addr} (g : Gr am F H am' F' H') (h : am[n]? = some a) : am'[n]? = some a := by
  obtain ⟨nw, e, _⟩ := g.ad
  rw [e, List.getElem?_append_left (List.getElem?_eq_some_iff.mp h).1]
  exact h
theorem s_setC {k : Nat} {eo ei ev : Expr} {go gi gv : G} {p2 pos : Pos} (hr : Room k X.A) (hO : E X C eo go) (hi : E X C ei gi) (he : E X C ev gv)
    (hs : swapsWithSole [.Subscript eo ei p2] ev pos.line X.env = pure false := by rfl) (hw : swappedStores [.Subscript eo ei p2] ev X.env = pure none := by rfl) (h1 : (assignEach [.Subscript eo ei p2] X.env).map (·.2) = [assign (.Subscript eo ei p2) X.env] := by rfl)
    (ha : ∀ v, assign (.Subscript eo ei p2) X.env v = (do let ov ← holding [v] (eval eo X.env); let iv ← holding [v, ov] (eval ei X.env); standAt p2; holding [v, ov, iv] (setItem ov iv v); release [v, ov, iv] []) := by intro _; rfl) :
    S X C Wx (.Assign [.Subscript eo ei p2] ev pos) (sSetC go gi gv) := wkS (ps_asg he (pg_sub hO hi (setM (hu_of hr)) ha) hs hw h1) fun D σ H h => by
  obtain ⟨lk, am0, F0, H0, am, F, M, δ, o, g, re, sr, h, P⟩ := h
  unfold sSetC at h
  simp only [Option.bind_eq_some_iff, Prod.exists] at h
  obtain ⟨w, M1, h1, x, h2, wo, M2, h3, h4⟩ := h
  split at h4
  · rename_i n
    simp only [Option.bind_eq_some_iff, Prod.exists] at h4
    obtain ⟨wi, M3, h5, h6⟩ := h4
    split at h6
    · rename_i c hc
      obtain ⟨c', h7, rfl⟩ := Option.map_eq_some_iff.mp h6
      refine ⟨lk, am, F, M, δ, H0, w, M1, re, sr, h1, fun v am1 F1 H1 g1 s1 r1 f1 => ?_⟩
      obtain ⟨F', g', s', d', _⟩ := (FZ.of (R := rc X C) r1 f1 h2).go g1 s1
      refine ⟨lk, am1, F', M1, δ, H0, _, M2, re.gr g', s', h3, fun ov am2 F2 H2 g2 s2 r2 _ => ?_⟩
      obtain ⟨a, rfl, ha⟩ := cel_at (show DV X.K am2 F2 ov (.cel n) from r2)
      refine ⟨lk, am2, F2, M2, δ, H0, wi, M3, (re.gr g').gr g2, s2, h5, fun iv am3 F3 H3 g3 s3 r3 _ => ?_⟩
      have ha3 := g3.cel ha
      obtain ⟨ob, sn, q⟩ := set_cell s3 ha3 hc r3 ((g2.trans g3).dv d') h7
      have hm := List.mem_of_getElem? ha3
      have gg := (g'.trans g2).trans g3
      exact q _ (P _ _ _ _ ((g.trans gg).cell hm) (.of gg) ((re.gr gg).cell hm) sn)
    · cases h6
  · cases h4

/-! ### op= -/
def rGetM : V → V → Hp → VK → Prop := fun o i H Q => (∃ a vs k v, o = .ref a ∧ i = .int k ∧ H a = some (.lst vs) ∧ 0 ≤ k ∧ vs[k.toNat]? = some v ∧ Q v H) ∨ ∃ a v, o = .ref a ∧ DGet H a i (some v) ∧ Q v H
theorem getM (hu : X.A.units + 1 < cLine) : PGet X rGetM := by
  intro pins s σ H o i ov iv Q I r1 r2 h
  rcases h with ⟨a, vs, k, v, rfl, rfl, ha, h0, hv, q⟩ | ⟨a, v, rfl, hg, q⟩
  · cases r1
    obtain ⟨t, rfl⟩ := r2
    obtain ⟨its, n, rv, ho, hz⟩ := I.lst ha
    obtain ⟨u, hu', ru⟩ := rv.get hv
    have hl := (List.getElem?_eq_some_iff.mp hv).1
    have hn := line63
    exact PySem.wpAny_getItem_list ⟨_, ho, rfl, n, rfl⟩ h0 (by omega) (by simpa using hu') ⟨v, H, I, ru, q⟩
  · cases r1
    exact d_getItem hu I hg r2 fun w' s' I' rw' => ⟨v, H, I', rw', q⟩
def rIO (op : IOp) : TIp := fun x y H Q => ∃ i j z, x = .int i ∧ y = .int j ∧ op i j = some z ∧ Q (.int z) H
theorem ipA : PIp X .Add (rIO iAdd) := by
  intro pins s σ H x y v u Q I r1 r2 h
  obtain ⟨i, j, z, rfl, rfl, e, q⟩ := h
  cases e
  exact ip_add pins s σ H _ _ v u Q I r1 r2 ⟨i, j, rfl, rfl, q⟩
theorem ipM : PIp X .Mult (rIO iMul) := by
  intro pins s σ H x y v u Q I r1 r2 h
  obtain ⟨i, j, z, rfl, rfl, e, q⟩ := h
  unfold iMul at e
  split at e
  · rename_i hb
    cases e
    obtain ⟨t, rfl⟩ := r1
    obtain ⟨t', rfl⟩ := r2
    exact PyProof.Rows.imul_int ⟨.int _, H, I.tok _, ⟨_, rfl⟩, q⟩ (big_ok hb.1 hb.2).ok
  · cases e
theorem get_own {K : PySem.W.Frag} {a : Addr} {w ix : W} {iv : V} {x : D} (s : SR R lk am F M H) (r : RW K lk am F H (.ref a) w) (ri : RW K lk am F H iv ix) (h : getC w ix = some x) :
    ∃ v, DV K am F v x ∧ ∀ Q : VK, Q v H → rGetM (.ref a) iv H Q := by
  unfold getC at h
  split at h
  · rename_i xs i
    split at h
    · rename_i h0
      obtain ⟨b, vs, e, h1, h2, h3, h4, h5⟩ := r
      cases e
      cases ri
      obtain ⟨v, hv, dv⟩ := h5.get h
      exact ⟨v, dv, fun Q q => .inl ⟨a, vs, i, v, rfl, rfl, h1, h0, hv, q⟩⟩
    · cases h
  · rename_i l kv y
    simp only [Option.bind_eq_some_iff] at h
    obtain ⟨k, hk, h⟩ := h
    obtain ⟨b, kvs, e, h1, h2, h3, h4, h5⟩ := r
    cases e
    have ei := key_dv (show DV K am F iv y from ri) hk
    subst ei
    obtain ⟨v, hv, dv⟩ := h5.find.1 x h
    exact ⟨v, dv, fun Q q => .inr ⟨a, v, rfl, .inl ⟨kvs, k, rd_lkd h1, rfl, hv.symm⟩, q⟩⟩
  · cases h
end
end Mi
/-! MiAug: op= at a name, at an item; methods that ask; dict(pairs). -/
namespace Mi
open PySem L2
/-- methods that ask: ty looks at the object before the arguments are computed -/
def gMtT (ty : W → Sto → Bool) (op : W → List W → Sto → Option W) (o : G) (as : GA) : G := fun δ M => (o δ M).bind fun p => if ty p.1 p.2 = true then (as δ p.2).bind fun q => (op p.1 q.1 q.2).map fun z => (z, q.2) else none
def tyL (w : W) (M : Sto) : Bool := (vL M w).isSome
def tyT (w : W) (_ : Sto) : Bool := (vT w).isSome
def tyS (w : W) (_ : Sto) : Bool := match w with
  | .d (.str _) => true
  | _ => false
def firstEq (x : D) : List D → Nat → Option Nat
  | [], _ => none
  | y :: r, n => if deq y x = true then some n else firstEq x r (n + 1)
/-- l.index(x), flat things -/
def indexW (w : W) (as : List W) (M : Sto) : Option W := match as with
  | [.d x] => (vL M w).bind fun ys => if x.flat && ys.all D.flat then (firstEq x ys 0).map fun (n : Nat) => .d (.int (n : Int)) else none
  | _ => none
def indexT (w : W) (as : List W) (_ : Sto) : Option W := match as with
  | [.d x] => (vT w).bind fun ys => if x.flat && ys.all D.flat then (firstEq x ys 0).map fun (n : Nat) => .d (.int (n : Int)) else none
  | _ => none
/-- dict(pairs) -/
def pairK : D → Option (Key × D)
  | .tup [k, x] => (keyOf k).map fun k => (k, x)
  | _ => none
def pairsK : List D → Option (List (Key × D))
  | [] => some []
  | p :: r => (pairK p).bind fun q => (pairsK r).map fun l => q :: l
def mergeD (acc more : List (Key × D)) : List (Key × D) := more.foldl (fun a p => putD a p.1 p.2) acc
def dictW (ws : List W) (M : Sto) : Option W := match ws with
  | [w] => (vS M w).bind fun xs => (pairsK xs).map fun kv => .fd (mergeD [] kv)
  | _ => none

section
variable {X : Cx} {C : Zs} {R : Rc} {Wx : WX} {lk : Lk} {am am0 : List Addr} {F H F0 H0 : Hp} {M : Sto}
theorem s_augO {i k : Nat} {x : Str} {ei ev : Expr} {gi gv : G} {px p2 pos : Pos} {o : Operator} {op : IOp} (hr : Room k X.A) (ho : PIp X o (rIO op)) (hi : E X C ei gi) (he : E X C ev gv) (hN : X.N[i]? = some x := by rfl) (hv : Vis X.env.scope x := by first | exact Or.inl rfl | exact Or.inr (Or.inl rfl) | exact Or.inr (Or.inr rfl)) (hd : (x == ("__debug__" : Str)) = false := by decide) (hcd : (x == ("__classdict__" : Str)) = false := by decide)
    (ha : ∀ ov iv new, augStore ei ov iv new = (do holding [new, ov, iv] (setItem ov iv new); release [new, ov, iv] []; pure .next) := by intros; rfl) :
    S X C Wx (.AugAssign (.Subscript (.Name x px) ei p2) o ev pos) (sAugO i op gi gv) := wkS (ps_augS (pe_var hN hv hd hcd) hi (getM (hu_of hr)) he ho (setM (hu_of hr)) ha) fun D σ H h => by
  obtain ⟨lk, am0, F0, H0, am, F, M, δ, o, g, re, sr, h, P⟩ := h
  unfold sAugO at h
  split at h
  · rename_i w hw
    simp only [Option.bind_eq_some_iff, Prod.exists] at h
    obtain ⟨wi, M1, h1, h2⟩ := h
    split at h2
    · rename_i a hg
      simp only [Option.bind_eq_some_iff, Prod.exists] at h2
      obtain ⟨wy, M2, h3, h4⟩ := h2
      split at h4
      · rename_i b
        simp only [Option.bind_eq_some_iff, Option.map_eq_some_iff] at h4
        obtain ⟨z, h5, w', h6, rfl⟩ := h4
        have hown : w.own = true := by unfold setW at h6; split at h6 <;> first | rfl | cases h6
        obtain ⟨ad, hσ, ra, h0, hF, hn⟩ := re.owned hw hown
        refine ⟨.ref ad, hσ, lk, am, F, M, δ, H0, wi, M1, re, sr, h1, fun iv am1 F1 H1 g1 s1 r1 f1 => ?_⟩
        have re1 := re.gr g1
        obtain ⟨_, hσ1, ra1, _, _, _⟩ := re1.owned hw hown
        rw [hσ] at hσ1; cases hσ1
        obtain ⟨v, dv, q⟩ := get_own s1 ra1 r1 hg
        cases dv
        refine q _ ⟨lk, am1, F1, M1, δ, H0, _, M2, re1, s1, h3, fun y am2 F2 H2 g2 s2 r2 f2 => ?_⟩
        cases (show DV X.K am2 F2 y (.int b) from r2)
        refine ⟨a, b, z, rfl, rfl, h5, ?_⟩
        have re2 := re1.gr g2
        obtain ⟨_, hσ2, ra2, _, hF2, hn2⟩ := re2.owned hw hown
        rw [hσ] at hσ2; cases hσ2
        obtain ⟨ob, rn, hon, hlk, q2⟩ := set_own (v := .int z) ra2 (r1.gr g2) (.int z) h6
        exact q2 _ (P _ _ _ _ (((g.trans g1).trans g2).out h0) (.of (g1.trans g2)) (re2.mut hw hown hσ hon rn) (s2.out hn2 hF2 hlk))
      · cases h4
    · cases h2
  · cases h
theorem s_augN {i : Nat} {x : Str} {ev : Expr} {gv : G} {px pos : Pos} {o : Operator} {op : IOp} (hN : X.N.Nodup) (ho : PIp X o (rIO op)) (he : E X C ev gv) (hi : X.N[i]? = some x := by rfl) (hx : Loc X.env.scope x := by first | exact Or.inl rfl | exact Or.inr rfl)
    (hf : X.fn x = true ∨ X.env.scope.names.lookup x = some .local := by first | exact .inl rfl | exact .inr rfl) : S X C Wx (.AugAssign (.Name x px) o ev pos) (sAugN i op gv) := wkS (ps_aug hN hi hx he ho hf) fun D σ H h => by
  obtain ⟨lk, am0, F0, H0, am, F, M, δ, o, g, re, sr, h, P⟩ := h
  unfold sAugN at h
  split at h
  · rename_i a hw
    simp only [Option.bind_eq_some_iff, Prod.exists] at h
    obtain ⟨wy, M1, h1, h2⟩ := h
    split at h2
    · rename_i b
      obtain ⟨z, h3, rfl⟩ := Option.map_eq_some_iff.mp h2
      obtain ⟨v, hσ, r, _⟩ := re.at_ i _ hw
      cases (show DV X.K am F v (.int a) from r)
      refine ⟨_, hσ, lk, am, F, M, δ, H0, _, M1, re, sr, h1, fun y am1 F1 H1 g1 s1 r1 f1 => ?_⟩
      cases (show DV X.K am1 F1 y (.int b) from r1)
      exact ⟨a, b, z, rfl, rfl, h3, P _ _ _ _ (g.trans g1) (.of g1) ((re.gr g1).setD (.int z)) s1⟩
    · cases h2
  · cases h

/-! ### methods that ask -/
def TyC (R : Rc) (T : String) (ty : W → Sto → Bool) : Prop := ∀ (lk : Lk) (am : List Addr) (F : Hp) (M : Sto) (H : Hp) (v : V) (w : W), SR R lk am F M H → RW R.K lk am F H v w → ty w M = true → tyV R.K T v H
def MtC (R : Rc) (r : V → List V → Hp → VK → Prop) (op : W → List W → Sto → Option W) : Prop :=
  ∀ (lk : Lk) (am : List Addr) (F : Hp) (M : Sto) (H H0 : Hp) (x : V) (a : W) (vs : List V) (ws : List W) (z : W) (Q : VK), SR R lk am F M H → RW R.K lk am F H x a → RWs R.K lk am F H vs ws → op a ws M = some z → Pst R lk am F M H H0 z Q → r x vs H Q
theorem ty_list : TyC R "list" tyL := fun lk am F M H v w s r h => by
  unfold tyL at h
  obtain ⟨xs, e⟩ := Option.isSome_iff_exists.mp h
  obtain ⟨a, vs, rfl, h1, _⟩ := vL_ok s r e
  exact .inl ⟨rfl, vs, .of h1⟩
theorem ty_str : TyC R "str" tyS := fun lk am F M H v w s r h => by
  unfold tyS at h
  split at h
  · cases r; rfl
  · cases h
theorem e_mt {ob e : Expr} {es : List Expr} {name : Str} {T id : String} {apos cpos : Pos} {go : G} {ga : GA} {ty : W → Sto → Bool} {op : W → List W → Sto → Option W} {r : V → List V → Hp → VK → Prop}
    (pa : PlainAttrs T) (slot : Slot T name id) (hty : typeOf (.builtin id) = pure (.type "method_descriptor")) (hm : MtR X id r) (ht : TyC (rc X C) T ty) (hc : MtC (rc X C) r op) (ho : E X C ob go) (ha : A X C (e :: es) ga)
    (hbase : attributeBase ob name X.env (eval ob X.env) = eval ob X.env := by rfl)
    (hfew : ((backTo cpos (starEach (e :: es) X.env)).all (fun x => !x.1) && (backToKw cpos (keywordEach [] X.env)).all (fun x => x.1.isSome) && decide ((e :: es).length + ([] : List Keyword).length + (if ([] : List Keyword).isEmpty then 0 else 1) < 30)) = true := by rfl)
    (hline : (apos.endLine == cpos.line) = true := by rfl) (hst : starEach (e :: es) X.env = (false, eval e X.env) :: starEach es X.env := by rfl) (hplain : (backTo cpos (starEach es X.env)).any (·.1) = false := by rfl) :
    E X C (.Call (.Attribute ob name apos) (e :: es) [] cpos) (gMtT ty op go ga) := wkE (pe_bm pa slot hty hm ho ha hbase hfew hline hst hplain) fun σ H Q h => by
  obtain ⟨lk, am, F, M, δ, H0, w, M', re, sr, h, P⟩ := h
  unfold gMtT at h
  simp only [Option.bind_eq_some_iff, Prod.exists] at h
  obtain ⟨a, M1, h1, h2⟩ := h
  split at h2
  · rename_i hty
    simp only [Option.bind_eq_some_iff, Option.map_eq_some_iff, Prod.exists, Prod.mk.injEq] at h2
    obtain ⟨ws, M2, h3, z, h4, rfl, rfl⟩ := h2
    refine ⟨lk, am, F, M, δ, H0, a, M1, re, sr, h1, fun v am1 F1 H1 g1 s1 r1 f1 => ⟨ht lk am1 F1 M1 H1 v a s1 r1 hty, ?_⟩⟩
    exact ⟨lk, am1, F1, M1, δ, H0, ws, M2, re.gr g1, s1, h3, fun vs am2 F2 H2 g2 s2 r2 f2 => hc lk am2 F2 M2 H2 H0 v a vs ws z Q s2 (r1.gr g2) r2 h4 (P.gr (g1.trans g2))⟩
  · cases h2
theorem e_mt0 {ob : Expr} {name : Str} {T id : String} {apos cpos : Pos} {go : G} {ty : W → Sto → Bool} {op : W → List W → Sto → Option W} {r : V → List V → Hp → VK → Prop}
    (pa : PlainAttrs T) (slot : Slot T name id) (hty : typeOf (.builtin id) = pure (.type "method_descriptor")) (hm : MtR X id r) (ht : TyC (rc X C) T ty) (hc : MtC (rc X C) r op) (ho : E X C ob go)
    (hbase : attributeBase ob name X.env (eval ob X.env) = eval ob X.env := by rfl) (hline : (apos.endLine == cpos.line) = true := by rfl) :
    E X C (.Call (.Attribute ob name apos) [] [] cpos) (gMtT ty op go aNil) := wkE (pe_bm0 pa slot hty hm ho hbase hline) fun σ H Q h => by
  obtain ⟨lk, am, F, M, δ, H0, w, M', re, sr, h, P⟩ := h
  unfold gMtT aNil at h
  simp only [Option.bind_eq_some_iff, Prod.exists] at h
  obtain ⟨a, M1, h1, h2⟩ := h
  split at h2
  · rename_i hty
    simp only [Option.bind_some, Option.map_eq_some_iff, Prod.mk.injEq] at h2
    obtain ⟨z, h4, rfl, rfl⟩ := h2
    exact ⟨lk, am, F, M, δ, H0, a, M1, re, sr, h1, fun v am1 F1 H1 g1 s1 r1 f1 => ⟨ht lk am1 F1 M1 H1 v a s1 r1 hty, hc lk am1 F1 M1 H1 H0 v a [] [] z Q s1 r1 .nil h4 (P.gr g1)⟩⟩
  · cases h2
end
end Mi
/-! MiAsk: list.index, tuple.index, dict(pairs). -/
namespace Mi
open PySem L2
section
variable {X : Cx} {C : Zs} {R : Rc} {Wx : WX} {lk : Lk} {am am0 : List Addr} {F H F0 H0 : Hp} {M : Sto}
theorem flat_dv {K : PySem.W.Frag} {v : V} {x : D} (d : DV K am F v x) (h : x.flat = true) : flatV v = true := by
  cases d <;> first | rfl | cases h
theorem flat_dvs {K : PySem.W.Frag} : ∀ {vs : List V} {xs : List D}, DVs K am F vs xs → xs.all D.flat = true → vs.all flatV = true
  | _, _, .nil, _ => rfl
  | _, _, .cons d t, h => by
    simp only [List.all_cons, Bool.and_eq_true] at h ⊢
    exact ⟨flat_dv d h.1, flat_dvs t h.2⟩
theorem eqV_dv {K : PySem.W.Frag} {v u : V} {x y : D} (d : DV K am F v x) (e : DV K am F u y) (hx : x.flat = true) (hy : y.flat = true) : eqV v u = deq x y := by
  cases d <;> first | exact Bool.noConfusion hx | (cases e <;> first | exact Bool.noConfusion hy | rfl | (unfold deq; rfl))
theorem firstEq_ok {K : PySem.W.Frag} {v : V} {x : D} (d : DV K am F v x) (hx : x.flat = true) : ∀ {vs : List V} {xs : List D} {n j : Nat}, DVs K am F vs xs → xs.all D.flat = true → firstEq x xs n = some j →
    ∃ (k : Nat) (z : V), j = n + k ∧ vs[k]? = some z ∧ eqV z v = true ∧ ∀ (m : Nat) (z' : V), m < k → vs[m]? = some z' → eqV z' v = false
  | _, _, n, j, .nil, _, h => by cases h
  | _, _, n, j, .cons (v := u) (x := y) du t, hf, h => by
    simp only [List.all_cons, Bool.and_eq_true] at hf
    unfold firstEq at h
    by_cases hy : deq y x = true
    · rw [if_pos hy] at h
      cases h
      exact ⟨0, u, rfl, rfl, by rw [eqV_dv du d hf.1 hx]; exact hy, fun m z' hm => by omega⟩
    · rw [if_neg hy] at h
      obtain ⟨k, z, e1, e2, e3, e4⟩ := firstEq_ok d hx t hf.2 h
      refine ⟨k + 1, z, by omega, by simpa using e2, e3, fun m z' hm hz => ?_⟩
      cases m with
      | zero =>
        simp only [List.getElem?_cons_zero, Option.some.injEq] at hz
        subst hz
        rw [eqV_dv du d hf.1 hx]
        simpa using hy
      | succ m => exact e4 m z' (by omega) (by simpa using hz)
theorem c_indexL : MtC R (rIndex R.K) indexW := by
  intro lk am F M H H0 x a vs ws z Q s ra rws h P
  unfold indexW at h
  split at h
  · rename_i y
    simp only [Option.bind_eq_some_iff] at h
    obtain ⟨ys, e1, h⟩ := h
    split at h
    · rename_i hf
      simp only [Bool.and_eq_true] at hf
      obtain ⟨j, hj, rfl⟩ := Option.map_eq_some_iff.mp h
      obtain ⟨p, us, rfl, h1, du⟩ := vL_ok s ra e1
      cases rws with
      | cons r t =>
        cases t
        have dy : DV R.K am F _ y := r
        obtain ⟨k, u, e2, e3, e4, e5⟩ := firstEq_ok dy hf.1 du hf.2 hj
        rw [Nat.zero_add] at e2
        subst e2
        exact ⟨p, us, _, j, u, rfl, rfl, .of h1, flat_dv dy hf.1, flat_dvs du hf.2, e3, e4, e5, P.val s (.int _)⟩
    · cases h
  · cases h
end
end Mi
/-! MiPl: tuples that are known to have no dict of their own: displays, tuple(list), slices; dict(t), t.index(x). -/
namespace Mi
open PySem L2
/-- (a, b, ..), known to be plain -/
def opTupP (ws : List W) (_ : Sto) : Option W := if ws.length ≤ SZ then (frzs ws).map fun xs => .d (.tpl xs) else none
def gTupP (as : GA) : G := gBlt opTupP as
def tuplePW (ws : List W) (M : Sto) : Option W := match ws with
  | [.d (.tpl xs)] => some (.d (.tpl xs))
  | [w] => (vL M w).map fun xs => .d (.tpl xs)
  | _ => none
def slPW (a : W) (lo hi : Option Int) (_ : Sto) : Option W := match a with
  | .d (.tpl xs) => some (.d (.tpl (cutD xs lo hi)))
  | _ => none
def gSlP (a : G) (lo hi : GO) : G := fun δ M => (a δ M).bind fun p => (lo δ p.2).bind fun l => (hi δ l.2).bind fun h => (slPW p.1 l.1 h.1 h.2).map fun z => (z, h.2)
def firstS (z : Str) : List Str → Nat → Option Nat
  | [], _ => none
  | y :: r, n => if y = z then some n else firstS z r (n + 1)
def vP : W → Option (List D)
  | .d (.tpl xs) => some xs
  | _ => none
def tyP (w : W) (_ : Sto) : Bool := (vP w).isSome
def indexPW (w : W) (as : List W) (_ : Sto) : Option W := match as with
  | [.d (.str z)] => (vP w).bind fun xs => (dStrs xs).bind fun ys => (firstS z ys 0).map fun (n : Nat) => .d (.int (n : Int))
  | _ => none
def dictPW (ws : List W) (M : Sto) : Option W := match ws with
  | [w] => match vP w with
    | some xs => if xs.length ≤ SZ then (pairsK xs).map fun kv => .fd (mergeD [] kv) else none
    | none => (vL M w).bind fun xs => (pairsK xs).map fun kv => .fd (mergeD [] kv)
  | _ => none

section
variable {X : Cx} {C : Zs} {R : Rc} {Wx : WX} {lk : Lk} {am am0 : List Addr} {F H F0 H0 : Hp} {M : Sto}
/-- a new plain tuple -/
def NewP (H : Hp) (ys : List V) (Q : VK) : Prop := ∀ (p : Addr) (ob : Obj), H p = none → ob.dict = none → Q (.ref p) (upd H p (.frz ob (.tup ys)))
theorem newP_at {pins : List (Addr × Obj)} {s : Shared} {σ : St} {ys : List V} {us : List Value} {Q : VK} {t : Nat} (I : Inv X pins σ H s) (r : Vals ys us) (hz : ys.length ≤ sizeLine) (h : NewP H ys Q) :
    EP X pins σ Q (.ref s.heap.objs.size) { s with heap := s.heap.push { cls := .type "tuple", data := .seq us.toArray }, toks := t } :=
  ⟨.ref s.heap.objs.size, _, I.laid (t' := t) (o := .frz { cls := .type "tuple", data := .seq us.toArray } (.tup ys)) (fun b o e => Heap.get?_push_of_some _ e) (Nat.le_refl _) ⟨Heap.get?_push_size _ rfl, hz, us, r, ⟨_, Heap.get?_push_size _ rfl, rfl, _, rfl⟩⟩, rfl, h _ _ (I.hok.fresh (Nat.le_refl _)) rfl⟩
theorem plT_of {K : PySem.W.Frag} {a : Addr} {vs : List V} {o : Obj} (h : F a = some (.frz o (.tup vs))) (hd : o.dict = none) : PlT K F a vs := .inl ⟨o, h, hd⟩
theorem Pst.newP {xs : List D} {vs : List V} {Q : VK} (P : Pst R lk am F M H H0 (.d (.tpl xs)) Q) (s : SR R lk am F M H) (r : DVs R.K am F vs xs) : NewP H vs Q := fun p ob h hd => by
  obtain ⟨g, s', e⟩ := new_frz s (o := .frz ob (.tup vs)) h
  exact P _ am _ _ g s' (.tpl (plT_of e hd) (g.dvs r)) True.intro
theorem pe_tupP {es : List Expr} {k : Nat} {pos : Pos} {t : TA} (h : PA X es t) : PE X (.Tuple es k pos) (fun σ H Q => t σ H fun xs H1 => xs.length ≤ sizeLine ∧ NewP H1 xs Q) := by
  refine ⟨fun pins s σ H Q I hq => ?_⟩
  refine PySem.wpAny_Tuple_spliced (thn (h.run pos pins s σ H _ I hq) fun us s1 ⟨xs, H1, I1, r, z, q⟩ => ⟨by rw [← r.length]; exact z, ?_⟩)
  exact newP_at (t := s1.toks) I1 r z q
theorem e_tupP {es : List Expr} {k : Nat} {pos : Pos} {ga : GA} (ha : A X C es ga) : E X C (.Tuple es k pos) (gTupP ga) := wkE (pe_tupP ha) fun σ H Q h => by
  obtain ⟨lk, am, F, M, δ, H0, ws, M', re, sr, h, P⟩ := blt_in h
  refine ⟨lk, am, F, M, δ, H0, ws, M', re, sr, h, fun vs am1 F1 H1 g1 s1 r1 f1 => ?_⟩
  obtain ⟨lk, am0, F0, H0, Hz, am, F, M, ws, z, g, s, r, f, hz, P⟩ := P vs am1 F1 H1 g1 s1 r1 f1
  unfold opTupP at hz
  split at hz
  · rename_i hl
    obtain ⟨xs, h2, rfl⟩ := Option.map_eq_some_iff.mp hz
    obtain ⟨F', g', s', d', _⟩ := (FZs.of (R := rc X C) r f h2).go g s
    exact ⟨by rw [r.length]; exact sz_le hl, (P.gr g').newP s' d'⟩
  · cases hz
def rTupP (K : PySem.W.Frag) (xs : List V) (H : Hp) (Q : VK) : Prop := ∃ p ys, xs = [V.ref p] ∧ ((SqL K H p ys ∧ NewP H ys Q) ∨ (SqT K H p ys ∧ Q (.ref p) H))
theorem call_tupP : CallR X (.type "tuple") (rTupP X.K) := by
  intro pins s σ H xs us Q I r h
  obtain ⟨p, ys, rfl, ⟨hq, q⟩ | ⟨hq, q⟩⟩ := h
  · obtain ⟨u, rfl, rx⟩ := vals1 r
    cases rx
    obtain ⟨its, r', pl, hz⟩ := I.list hq
    have hlen := r'.length
    refine PySem.call_tuple_list pl.isList (fun h' kp => ?_) (by rw [List.size_toArray]; omega)
    exact newP_at (t := s.toks) (I.kept (h' := h') (t' := s.toks) kp) r' hz q
  · exact call_tuple_of pins s σ H _ us Q I r ⟨p, ys, rfl, .inr ⟨hq, q⟩⟩
theorem c_tupP : CallC R (rTupP R.K) tuplePW := by
  intro lk am F M H H0 vs ws z Q s r h P
  unfold tuplePW at h
  split at h
  · rename_i xs
    cases h
    obtain ⟨v, rfl, rw⟩ := rws1 r
    cases (show DV R.K am F v (.tpl xs) from rw) with
    | tpl h1 d => exact ⟨_, _, rfl, .inr ⟨((show Le F H from s.ex).plT h1).sq, P.val s (.tpl h1 d)⟩⟩
  · obtain ⟨xs, h1, rfl⟩ := Option.map_eq_some_iff.mp h
    obtain ⟨v, rfl, rw⟩ := rws1 r
    obtain ⟨a, us, rfl, e, d⟩ := vL_ok s rw h1
    exact ⟨a, us, rfl, .inl ⟨.of e, P.newP s d⟩⟩
  · cases h
/-! ### slices -/
def rSlP (K : PySem.W.Frag) : V → Option Int → Option Int → Hp → VK → Prop := fun x lo hi H Q => ∃ a xs, x = .ref a ∧ SqT K H a xs ∧
  (HT.sIx xs.length 0 lo = 0 ∧ HT.sIx xs.length xs.length hi = xs.length → Q (.ref a) H) ∧ (¬ (HT.sIx xs.length 0 lo = 0 ∧ HT.sIx xs.length xs.length hi = xs.length) → NewP H (cutV xs lo hi) Q)
theorem sl_tupP : SlR X (rSlP X.K) := by
  intro pins s σ H x v vl vu lo hi sl Q I rx hs pl pu h
  obtain ⟨a, xs, rfl, hx, q1, q2⟩ := h
  by_cases hw : HT.sIx xs.length 0 lo = 0 ∧ HT.sIx xs.length xs.length hi = xs.length
  · exact sl_tupA pins s σ H _ v vl vu lo hi sl Q I rx hs pl pu ⟨a, xs, rfl, hx, q1, fun n => absurd hw n⟩
  · cases rx
    obtain ⟨its, r, ht, hz⟩ := I.tuple hx
    have hlen : its.toArray.size = xs.length := by rw [List.size_toArray]; exact r.length.symm
    refine ⟨"tuple", _, PyProof.Rows.slot_tuple_getitem.lookup, ht.typeIs, HT.getItem_tuple_cut ht hs pl pu (by rw [hlen]; exact hw) ?_ (by rw [hlen]; exact hz)⟩
    rw [hlen]
    exact newP_at (t := s.toks) I ((r.drop (HT.sIx xs.length 0 lo)).take (HT.sIx xs.length xs.length hi - HT.sIx xs.length 0 lo)) (Nat.le_trans (cutV_length xs lo hi) hz) (q2 hw)
theorem e_slP {a : Expr} {lo hi : Option Expr} {ga : G} {gl gh : GO} {p2 pos : Pos} (ha : E X C a ga) (hl : O X C lo gl) (hh : O X C hi gh) : E X C (.Subscript a (.Slice lo hi none p2) pos) (gSlP ga gl gh) :=
  wkE (pe_slice sl_tupP ha hl hh) fun σ H Q h => by
    obtain ⟨lk, am, F, M, δ, H0, w, M', re, sr, h, P⟩ := h
    unfold gSlP at h
    simp only [Option.bind_eq_some_iff, Option.map_eq_some_iff, Prod.exists, Prod.mk.injEq] at h
    obtain ⟨x, M1, h1, l, M2, h2, u, M3, h3, z, h4, rfl, rfl⟩ := h
    refine ⟨lk, am, F, M, δ, H0, x, M1, re, sr, h1, fun v am1 F1 H1 g1 s1 r1 f1 => ⟨lk, am1, F1, M1, δ, H0, l, M2, re.gr g1, s1, h2, fun am2 F2 H2 g2 s2 => ⟨lk, am2, F2, M2, δ, H0, u, M3, (re.gr g1).gr g2, s2, h3, fun am3 F3 H3 g3 s3 => ?_⟩⟩⟩
    have r3 := r1.gr (g2.trans g3)
    have P3 := P.gr ((g1.trans g2).trans g3)
    unfold slPW at h4
    split at h4
    · rename_i xs
      cases h4
      cases (show DV X.K am3 F3 v (.tpl xs) from r3) with
      | @tpl p vs _ hp d =>
        refine ⟨p, vs, rfl, ((show Le F3 H3 from s3.ex).plT hp).sq, fun hw => ?_, fun _ => P3.newP s3 (d.cut l u)⟩
        rw [d.length] at hw
        rw [cutD_whole hw] at P3
        exact P3.val s3 (.tpl hp d)
    · cases h4

/-! ### t.index(x) -/
theorem plT_dict {pins : List (Addr × Obj)} {s : Shared} {σ : St} {a : Addr} {vs : List V} (I : Inv X pins σ H s) (h : PlT X.K H a vs) : s.TypeIs (.ref a) "tuple" ∧ ∃ ob, s.heap.get? a = some ob ∧ ob.dict = none := by
  rcases h with ⟨o, h, hd⟩ | ⟨o, its, n, h1, h2, hd, _⟩
  · obtain ⟨e, _, us, _, ⟨o', e', hc, _⟩⟩ := I.hok a _ h
    rw [e] at e'
    cases e'
    exact ⟨⟨o, e, hc⟩, o, e, hd⟩
  · have e := I.kIn a o h1
    exact ⟨⟨o, e, h2⟩, o, e, hd⟩
theorem pe_bmP {o e : Expr} {es : List Expr} {to : TE} {t : TA} {name : Str} {apos cpos : Pos} {id : String} {r : V → List V → Hp → VK → Prop} (slot : Slot "tuple" name id) (hty : typeOf (.builtin id) = pure (.type "method_descriptor")) (hm : MtR X id r) (ho : PE X o to) (ha : PA X (e :: es) t)
    (hbase : attributeBase o name X.env (eval o X.env) = eval o X.env := by rfl)
    (hfew : ((backTo cpos (starEach (e :: es) X.env)).all (fun x => !x.1) && (backToKw cpos (keywordEach [] X.env)).all (fun x => x.1.isSome) && decide ((e :: es).length + ([] : List Keyword).length + (if ([] : List Keyword).isEmpty then 0 else 1) < 30)) = true := by rfl)
    (hline : (apos.endLine == cpos.line) = true := by rfl) (hst : starEach (e :: es) X.env = (false, eval e X.env) :: starEach es X.env := by rfl) (hplain : (backTo cpos (starEach es X.env)).any (·.1) = false := by rfl) :
    PE X (.Call (.Attribute o name apos) (e :: es) [] cpos) (fun σ H Q => to σ H fun x H1 => (∃ a vs, x = .ref a ∧ PlT X.K H1 a vs) ∧ t σ H1 fun xs H2 => r x xs H2 Q) := by
  refine ⟨fun pins s σ H Q I h => PySem.wpAny_Call_method_late hbase hfew hline rfl (thn (ho.run pins s σ H _ I h) fun v s1 ⟨x, H1, I1, r1, ⟨a, vs, ex, hp⟩, q1⟩ => ?_)⟩
  subst ex
  cases r1
  obtain ⟨h1, h2⟩ := plT_dict I1 hp
  refine ⟨"tuple", id, PySem.F.plainAttrs_tuple, slot, hty, h1, fun b eb => (by cases eb; exact h2), ?_⟩
  have hA := ha.run cpos pins s1 σ H1 _ I1 q1
  rw [hst] at hA ⊢
  refine Calls.callWith_builtin (by show (false || (backTo cpos (starEach es X.env)).any (·.1)) = false; rw [hplain] <;> rfl) (Calls.evalArgs_plain (thn hA fun us s2 ⟨xs, H2, I2, r2, q2⟩ => ?_))
  exact hm pins s2 σ H2 (.ref a) xs _ us Q I2 (show RelV (.ref a) (Value.ref a) from rfl) r2 q2
theorem firstS_ok {z : Str} : ∀ {ys : List Str} {n j : Nat}, firstS z ys n = some j → ∃ k, j = n + k ∧ ys[k]? = some z ∧ ∀ m, m < k → ys[m]? ≠ some z
  | [], _, _, h => by cases h
  | y :: r, n, j, h => by
    unfold firstS at h
    by_cases e : y = z
    · rw [if_pos e] at h
      cases h
      exact ⟨0, rfl, by simp [e], fun m hm => by omega⟩
    · rw [if_neg e] at h
      obtain ⟨k, h1, h2, h3⟩ := firstS_ok h
      refine ⟨k + 1, by omega, by simpa using h2, fun m hm => ?_⟩
      cases m with
      | zero => simpa using e
      | succ m => simpa using h3 m (by omega)
theorem dStrs_dv {K : PySem.W.Frag} : ∀ {vs : List V} {xs : List D} {ys : List Str}, DVs K am F vs xs → dStrs xs = some ys → vs = ys.map V.str
  | _, _, ys, .nil, h => by cases h; rfl
  | _, _, ys, .cons (x := x) d t, h => by
    cases x with
    | str s =>
      obtain ⟨l, h1, rfl⟩ := Option.map_eq_some_iff.mp (show (dStrs _).map (fun l => s :: l) = some ys from h)
      cases d
      rw [dStrs_dv t h1]
      rfl
    | _ => cases h
theorem e_tindex {o e : Expr} {go ge : G} {apos cpos : Pos} (ho : E X C o go) (he : E X C e ge)
    (hbase : attributeBase o "index" X.env (eval o X.env) = eval o X.env := by rfl)
    (hfew : ((backTo cpos (starEach [e] X.env)).all (fun x => !x.1) && (backToKw cpos (keywordEach [] X.env)).all (fun x => x.1.isSome) && decide (([e] : List Expr).length + ([] : List Keyword).length + (if ([] : List Keyword).isEmpty then 0 else 1) < 30)) = true := by rfl)
    (hline : (apos.endLine == cpos.line) = true := by rfl) (hst : starEach [e] X.env = [(false, eval e X.env)] := by rfl) (hplain : (backTo cpos (starEach [] X.env)).any (·.1) = false := by rfl) :
    E X C (.Call (.Attribute o "index" apos) [e] [] cpos) (gMtT tyP indexPW go (aCons ge aNil)) := wkE (pe_bmP PySem.F.slot_tuple_index PySem.F.type_tuple_index mt_tup_index ho (a_cons he a_nil (by rw [hst]; rfl)) hbase hfew hline (by rw [hst]; rfl) hplain) fun σ H Q h => by
  obtain ⟨lk, am, F, M, δ, H0, w, M', re, sr, h, P⟩ := h
  unfold gMtT at h
  simp only [Option.bind_eq_some_iff, Prod.exists] at h
  obtain ⟨a, M1, h1, h2⟩ := h
  split at h2
  · rename_i hty
    simp only [Option.bind_eq_some_iff, Option.map_eq_some_iff, Prod.exists, Prod.mk.injEq] at h2
    obtain ⟨ws, M2, h3, z, h4, rfl, rfl⟩ := h2
    refine ⟨lk, am, F, M, δ, H0, a, M1, re, sr, h1, fun v am1 F1 H1 g1 s1 r1 f1 => ?_⟩
    unfold indexPW at h4
    split at h4
    · rename_i y
      simp only [Option.bind_eq_some_iff, Option.map_eq_some_iff] at h4
      obtain ⟨xs, h5, ys, h6, j, h7, rfl⟩ := h4
      unfold vP at h5
      split at h5
      · rename_i ts
        cases h5
        cases (show DV X.K am1 F1 v (.tpl xs) from r1) with
        | @tpl p vs _ hp d =>
          refine ⟨⟨p, vs, rfl, (show Le F1 H1 from s1.ex).plT hp⟩, lk, am1, F1, M1, δ, H0, _, M2, re.gr g1, s1, h3, fun us am2 F2 H2 g2 s2 r2 f2 => ?_⟩
          obtain ⟨u, rfl, ru⟩ := rws1 r2
          cases (show DV X.K am2 F2 u (.str y) from ru)
          have ev := dStrs_dv d h6
          subst ev
          obtain ⟨k, e1, e2, e3⟩ := firstS_ok h7
          rw [Nat.zero_add] at e1
          subst e1
          exact ⟨p, ys, y, j, rfl, rfl, ((show Le F2 H2 from s2.ex).plT (g2.fx.plT hp)).sq, e2, e3, (P.gr (g1.trans g2)).val s2 (.int _)⟩
      · cases h5
    · cases h4
  · cases h2
/-! ### dict(pairs) -/
theorem pairs_keys {K : PySem.W.Frag} {F1 : Hp} (e : Le F F1) : ∀ {vs : List V} {xs : List D} {kv : List (Key × D)}, DVs K am F vs xs → pairsK xs = some kv →
    ∃ (ps : List Addr) (kvs : List (Key × V)), vs = ps.map V.ref ∧ Paired (fun p kv => SqT K F1 p [kV kv.1, kv.2]) ps kvs ∧ KVs K am F kvs kv ∧ kvs.length = vs.length
  | _, _, kv, .nil, h => by cases h; exact ⟨[], [], rfl, .nil, .nil, rfl⟩
  | _, _, kv, .cons (v := v) (vs := vs) (x := x) d t, h => by
    unfold pairsK at h
    simp only [Option.bind_eq_some_iff, Option.map_eq_some_iff] at h
    obtain ⟨q, h1, l, h2, rfl⟩ := h
    obtain ⟨ps, kvs, rfl, r, dk, hl⟩ := pairs_keys e t h2
    unfold pairK at h1
    split at h1
    · rename_i k y
      obtain ⟨k', h3, rfl⟩ := Option.map_eq_some_iff.mp h1
      cases d with
      | @tup a us _ hs du =>
        cases du with
        | cons d1 du =>
          cases du with
          | cons d2 du =>
            cases du
            have ek := key_dv d1 h3
            subst ek
            exact ⟨a :: ps, (k', _) :: kvs, rfl, .cons (e.seqT hs) r, .cons d2 dk, by simpa using hl⟩
    · cases h1
theorem KVs.merge {K : PySem.W.Frag} : ∀ {more : List (Key × V)} {md : List (Key × D)} {acc : List (Key × V)} {ad : List (Key × D)}, KVs K am F more md → KVs K am F acc ad → KVs K am F (mergeK acc more) (mergeD ad md)
  | _, _, _, _, .nil, h => h
  | _, _, acc, ad, .cons (k := k) (v := v) (x := x) d t, h => by
    show KVs K am F (mergeK (putK acc k v) _) (mergeD (putD ad k x) _)
    exact KVs.merge t (h.put d)
def rDictP (K : PySem.W.Frag) (xs : List V) (H : Hp) (Q : VK) : Prop := ∃ (a : Addr) (ps : List Addr) (kvs : List (Key × V)), xs = [.ref a] ∧ (SqL K H a (ps.map V.ref) ∨ PlT K H a (ps.map V.ref)) ∧ Paired (fun p kv => SqT K H p [kV kv.1, kv.2]) ps kvs ∧ ∀ p, H p = none → Q (.ref p) (upd H p (.dK (mergeK [] kvs)))
theorem call_dictT (hcalm : X.calm = true) : CallR X (.type "dict") (rDictP X.K) := by
  intro pins s σ H xs us Q I r q
  obtain ⟨a, ps, kvs, rfl, hq, hp, q⟩ := q
  rcases hq with hq | hq
  · exact call_dictP hcalm pins s σ H _ us Q I r ⟨a, ps, kvs, rfl, hq, hp, q⟩
  · obtain ⟨u, rfl, rx⟩ := vals1 r
    cases rx
    obtain ⟨⟨_, _, _⟩, ob, hob, hdn⟩ := plT_dict I hq
    obtain ⟨its, rv, ⟨ob', hob', hcls, n, hdat⟩, hz⟩ := I.tuple hq.sq
    rw [hob] at hob'
    cases hob'
    have ei := refs_at rv
    subst ei
    rw [List.length_map] at hz
    obtain ⟨prs, rel, hl, hpr⟩ := pairs_of I hp
    have key : ∀ (j : Nat) (hj : j < prs.length), ∃ (b : Addr) (k : Value), ps[j]? = some b ∧ s.heap.IsTuple b #[k, prs[j].2] ∧ (mixKind X.prog X.w).is prs[j].1 k = true := fun j hj => by
      obtain ⟨b, k, e1, e2, e3⟩ := hpr j prs[j] (List.getElem?_eq_getElem hj)
      exact ⟨b, k, e1, e2, e3⟩
    have pick : ∀ n : Nat, ∃ ks : List Value, n ≤ prs.length → ks.length = n ∧ ∀ (j : Nat) (b : Addr) (q : Key × Value) (k : Value), ks[j]? = some k → ps[j]? = some b → prs[j]? = some q → s.heap.IsTuple b #[k, q.2] ∧ (mixKind X.prog X.w).is q.1 k = true := by
      intro n
      induction n with
      | zero => exact ⟨[], fun _ => ⟨rfl, fun j b q k e => by simp at e⟩⟩
      | succ n ih =>
        obtain ⟨ks, ih⟩ := ih
        by_cases hn : n < prs.length
        · obtain ⟨b0, k0, e1, e2, e3⟩ := key n hn
          obtain ⟨i1, i2⟩ := ih (Nat.le_of_lt hn)
          refine ⟨ks ++ [k0], fun _ => ⟨by simp [i1], fun j b q k ek eb eq => ?_⟩⟩
          by_cases hj : j < n
          · rw [List.getElem?_append_left (by omega)] at ek
            exact i2 j b q k ek eb eq
          · have hlt := (List.getElem?_eq_some_iff.mp ek).1
            rw [List.length_append, List.length_singleton, i1] at hlt
            have ej : j = n := by omega
            subst ej
            rw [List.getElem?_append_right (by omega), i1, Nat.sub_self] at ek
            cases ek
            rw [e1] at eb
            cases eb
            rw [List.getElem?_eq_getElem hn] at eq
            cases eq
            exact ⟨e2, e3⟩
        · exact ⟨[], fun h => absurd h (by omega)⟩
    obtain ⟨ks, hks⟩ := pick prs.length
    obtain ⟨kl, hks⟩ := hks (Nat.le_refl _)
    have hlk : (ks.zip (prs.map (·.2))).length = prs.length := by simp [kl]
    refine PySem.call_dict_pairs (knd := mixKind X.prog X.w) (kvs := prs) (PairArg.tuple a (ps.map Value.ref).toArray (fun j => (ps[j]?).getD 0) (ks.zip (prs.map (·.2)))) (I.ok.hd hcalm)
      ⟨⟨ob, n, hob, hcls, hdn, hdat⟩, by simp [hlk, hl], fun j k v hjk => ?_⟩ ⟨hlk.symm, fun j k v hjk => ?_⟩ (by rw [hlk, hl]; exact hz) fun h' tk hd' kp => ?_
    · have h2 := hjk
      rw [List.getElem?_zip_eq_some] at h2
      obtain ⟨h3, h4⟩ := h2
      rw [List.getElem?_map] at h4
      obtain ⟨q', h5, h6⟩ := Option.map_eq_some_iff.mp h4
      have hj : j < ps.length := by rw [← hl]; exact (List.getElem?_eq_some_iff.mp h5).1
      have h7 : ps[j]? = some ps[j] := List.getElem?_eq_getElem hj
      obtain ⟨h8, h9⟩ := hks j ps[j] q' k h3 h7 h5
      refine ⟨by simp [h7], ?_⟩
      show PairAt s.heap ((ps[j]?).getD 0) k v
      rw [h7]
      cases h6
      exact .inl h8
    · have h2 : (ks.zip (prs.map (·.2)))[j]? = some (k, v) := hjk
      rw [List.getElem?_zip_eq_some] at h2
      obtain ⟨h3, h4⟩ := h2
      rw [List.getElem?_map] at h4
      obtain ⟨q', h5, h6⟩ := Option.map_eq_some_iff.mp h4
      have hj : j < ps.length := by rw [← hl]; exact (List.getElem?_eq_some_iff.mp h5).1
      obtain ⟨h8, h9⟩ := hks j ps[j] q' k h3 (List.getElem?_eq_getElem hj) h5
      cases h6
      exact ⟨q'.1, h5, h9⟩
    · have hm : (s.heap.objs.size == sysModules) = false := beq_eq_false_iff_ne.mpr (Nat.ne_of_gt I.big)
      have hlen : (mergeK [] kvs).length ≤ sizeLine := by
        refine Nat.le_trans (length_mergeK kvs []) ?_
        rw [List.length_nil, Nat.zero_add, rel.length, hl]
        exact hz
      exact ⟨.ref s.heap.objs.size, _, I.laid (t' := tk) (o := .dK (mergeK [] kvs)) (fun b o e => kp b o (by simp) e) (Nat.le_refl _) ⟨hlen, hm, merged [] prs, KV.merge rel .nil, hd'⟩, rfl, q _ (I.hok.fresh (Nat.le_refl _))⟩
theorem Pst.newK {kv : List (Key × D)} {kvs : List (Key × V)} {Q : VK} (P : Pst R lk am F M H H0 (.fd kv) Q) (s : SR R lk am F M H) (r : KVs R.K am F kvs kv) (p : Addr) (h : H p = none) : Q (.ref p) (upd H p (.dK kvs)) := by
  obtain ⟨g, s', e⟩ := new_frz s (o := .dK kvs) h
  have hl := s'.fz p _ e
  exact P _ am F _ (Gr.new h) (s.grow (le_new h)) ⟨p, kvs, rfl, upd_same, (s.fresh h).1, (s.fresh h).2, hl, r⟩ ⟨p, rfl, h⟩
theorem c_dictP : CallC R (rDictP R.K) dictPW := by
  intro lk am F M H H0 vs ws z Q s r h P
  unfold dictPW at h
  split at h
  · rename_i w
    obtain ⟨v, rfl, rw⟩ := rws1 r
    split at h
    · rename_i xs e
      split at h
      · rename_i hsz
        obtain ⟨kv, h2, rfl⟩ := Option.map_eq_some_iff.mp h
        unfold vP at e
        split at e
        · cases e
          cases (show DV R.K am F v (.tpl xs) from rw) with
          | @tpl a us _ hp d =>
            obtain ⟨ps, kvs, rfl, pr, dk, _⟩ := pairs_keys s.ex d h2
            exact ⟨a, ps, kvs, rfl, .inr ((show Le F H from s.ex).plT hp), pr, fun p hp => P.newK s (dk.merge .nil) p hp⟩
        · cases e
      · cases h
    · simp only [Option.bind_eq_some_iff, Option.map_eq_some_iff] at h
      obtain ⟨xs, h1, kv, h2, rfl⟩ := h
      obtain ⟨a, us, rfl, e, d⟩ := vL_ok s rw h1
      obtain ⟨ps, kvs, rfl, pr, dk, _⟩ := pairs_keys s.ex d h2
      exact ⟨a, ps, kvs, rfl, .inl (.of e), pr, fun p hp => P.newK s (dk.merge .nil) p hp⟩
  · cases h
end
end Mi
/-! MiOrd: a < b of numbers, of texts. -/
namespace Mi
open PySem L2
def ltQ (a b : W) (_ : Sto) : Option W := match a, b with
  | .d (.int i), .d (.int j) => some (.d (.bl (decide (i < j))))
  | .d (.str x), .d (.str y) => some (.d (.bl (strLt x y)))
  | _, _ => none
def fuelW (δ : En) (i : Nat) : Nat := match δ[i]? with
  | some (some (.d (.int j))) => j.toNat
  | _ => 0
section
variable {X : Cx} {C : Zs} {R : Rc}
def rLtQ : R2 := fun x y H Q => (rI0 fun i j => .bl (decide (i < j))) x y H Q ∨ ∃ i j, x = .str i ∧ y = .str j ∧ Q (.bl (decide (i.cps.toList < j.cps.toList))) H
theorem op_ltQ : OpR X (compareOp .Lt) rLtQ := fun pins s σ H x y v u Q I r1 r2 h => h.elim (fun q => op_lt pins s σ H x y v u Q I r1 r2 q) fun q => op_lt_str pins s σ H x y v u Q I r1 r2 q
theorem c_ltQ : OpC R rLtQ ltQ := by
  intro lk am F M H H0 x y a b z Q s ra rb h P
  unfold ltQ at h
  split at h
  · cases ra; cases rb; cases h
    exact .inl ⟨_, _, rfl, rfl, P.val s (.bl _)⟩
  · cases ra; cases rb; cases h
    exact .inr ⟨_, _, rfl, rfl, P.val s (.bl _)⟩
  · cases h
theorem rel_str {s : Str} : RelV (.str s) (.str s 0) := ⟨0, rfl⟩
end
end Mi
/-! MiSort: sorted of pairs that begin with a text; of texts; of a tuple. -/
namespace Mi
open PySem L2 PyProof.Rows SrtO

/-! ### the order of texts -/
theorem strLt_irr (x : Str) : strLt x x = false := decide_eq_false (List.lt_irrefl _)
theorem strLt_asy {x y : Str} (h : strLt x y = true) : strLt y x = false := decide_eq_false (List.lt_asymm (of_decide_eq_true h))
theorem strLt_tr {x y z : Str} (h : strLt x y = true) (k : strLt y z = true) : strLt x z = true := decide_eq_true (List.lt_trans (of_decide_eq_true h) (of_decide_eq_true k))
theorem strLt_eq {x y : Str} (h : strLt x y = false) (k : strLt y x = false) : x = y := by
  have h1 : ¬ x.cps.toList < y.cps.toList := of_decide_eq_false h
  have h2 : ¬ y.cps.toList < x.cps.toList := of_decide_eq_false k
  have e := List.le_antisymm (List.not_lt.mp h2) (List.not_lt.mp h1)
  cases x
  cases y
  simp only at e
  congr
  exact Array.toList_inj.mp e
theorem strLt_le {x y z : Str} (h : strLt y x = false) (k : strLt z y = false) : strLt z x = false := by
  cases e : strLt z x with
  | false => rfl
  | true =>
    cases e2 : strLt x y with
    | true => rw [strLt_tr e e2] at k; cases k
    | false => rw [strLt_eq e2 h] at e; rw [e] at k; cases k
/-! ### pairs that begin with a text -/
def IsPS (h : Heap) (v : Value) (x : Str) (u : Value) : Prop := ∃ a o t n, v = .ref a ∧ h.get? a = some o ∧ o.cls = .type "tuple" ∧ o.data = .seq #[.str x t, u] n
theorem IsPS.keeps {h h' : Heap} {v u : Value} {x : Str} (p : IsPS h v x u) (k : ∀ b o, h.get? b = some o → o.cls = .type "tuple" → h'.get? b = some o) : IsPS h' v x u := by
  obtain ⟨a, o, t, n, e, ho, hc, hd⟩ := p
  exact ⟨a, o, t, n, e, k _ _ ho hc, hc, hd⟩
def ltK (k : Value → Str) (l2 : Value → Value → Bool) (v u : Value) : Bool := if k v = k u then l2 v u else strLt (k v) (k u)
theorem swoK {k : Value → Str} {l2 : Value → Value → Bool} (O : Swo l2) : Swo (ltK k l2) := by
  refine ⟨fun x y h => ?_, fun x y z h1 h2 => ?_⟩
  · unfold ltK at h ⊢
    by_cases e : k x = k y
    · rw [if_pos e] at h; rw [if_pos e.symm]; exact O.asym _ _ h
    · rw [if_neg e] at h; rw [if_neg (Ne.symm e)]; exact strLt_asy h
  · unfold ltK at h1 h2 ⊢
    by_cases e : k y = k x
    · rw [if_pos e] at h1
      by_cases e2 : k z = k y
      · rw [if_pos e2] at h2; rw [if_pos (e2.trans e)]; exact O.tr _ _ _ h1 h2
      · rw [if_neg e2] at h2; rw [if_neg (fun q => e2 (q.trans e.symm)), ← e]; exact h2
    · rw [if_neg e] at h1
      by_cases e2 : k z = k y
      · rw [if_neg (fun q => e (e2.symm.trans q)), e2]; exact h1
      · rw [if_neg e2] at h2
        by_cases e3 : k z = k x
        · rw [e3] at h2
          exact absurd (strLt_eq h1 h2) e
        · rw [if_neg e3]; exact strLt_le h1 h2
section
variable {prog : Program} {w : World} {A : Around} {E : Value → Shared → Prop} {s : Shared}
/-- what is asked of second parts behind like names -/
def Sec (prog : Program) (w : World) (A : Around) (s : Shared) (v u : Value) (l : Bool) : Prop := ∃ e : Bool, SeqAt.EqAt A s v u e ∧ (e = true → l = false) ∧ (e = false → ∀ Q : Bool → Shared → Prop, Q l s → wpAny (model prog w) A (oneLt' false v u) Q (fun _ _ => False) s)
theorem pairS_cmp {vs : List Value} {k : Value → Str} {k2 : Value → Value} {l2 : Value → Value → Bool} (hp : ∀ v ∈ vs, IsPS s.heap v (k v) (k2 v)) (h2 : ∀ v ∈ vs, ∀ u ∈ vs, k v = k u → Sec prog w A s (k2 v) (k2 u) (l2 v u)) :
    Cmp prog w A s (tuples' true) (fun p => p.1 ∈ vs) (lt2 (ltK k l2)) := by
  intro p q hm hm'
  have e1 := hp _ hm
  have e2 := hp _ hm'
  have e3 := h2 _ hm _ hm'
  show wpAny (model prog w) A (keyLt' (tuples' true) p.1 q.1) (fun r s' => s' = s ∧ r = ltK k l2 p.1 q.1) (fun _ _ => False) s
  unfold ltK
  generalize l2 p.1 q.1 = lv at e3 ⊢
  generalize k p.1 = x at e1 e3 ⊢
  generalize k2 p.1 = y at e1 e3
  generalize k q.1 = x' at e2 e3 ⊢
  generalize k2 q.1 = y' at e2 e3
  obtain ⟨a, o, t, n, e, ho, hc, hd⟩ := e1
  obtain ⟨a', o', t', n', e', ho', hc', hd'⟩ := e2
  rw [e, e']
  refine PySem.W.kat_lt ho hd ho' hd' ?_
  show PySem.W.KatLex prog w A true (decide (2 < 2)) _ [(.str x t, .str x' t'), (y, y')] 0 s
  refine PySem.W.kat_cons (SeqAt.EqAt.str_str x t x' t' prog w _ _ (PySem.W.kat_go (fun h1 => ?_) (fun h1 => ?_)))
  · have ex : x = x' := by simpa using h1
    rw [if_pos ex]
    obtain ⟨e, he, ht, hf⟩ := e3 ex
    refine PySem.W.kat_yes (PySem.W.kat_cons (he prog w _ _ (PySem.W.kat_go (fun h2 => ?_) (fun h2 => ?_))))
    · exact PySem.W.kat_yes (PySem.W.kat_nil ⟨rfl, (ht h2).symm⟩)
    · exact PySem.W.kat_no (hf h2 _ ⟨rfl, rfl⟩)
  · have ex : ¬ x = x' := by simpa using h1
    rw [if_neg ex]
    exact PySem.W.kat_no (oneLt_str ⟨rfl, rfl⟩)
theorem firstsS {h : Heap} {k : Value → Str} {k2 : Value → Value} : ∀ {vs : List Value}, (∀ v ∈ vs, IsPS h v (k v) (k2 v)) → ∃ fs : List Value, PySem.W.KatTups h vs fs ∧ fs.length = vs.length ∧ ∀ f ∈ fs, ∃ x t, f = Value.str x t
  | [], _ => ⟨[], PySem.W.KatTups.nil, rfl, fun _ hm => by simp at hm⟩
  | v :: vs, hp => by
    obtain ⟨fs, h1, h2, h3⟩ := firstsS (vs := vs) fun v' hm => hp v' (List.mem_cons_of_mem _ hm)
    obtain ⟨a, o, t, n, e, ho, hc, hd⟩ := hp v List.mem_cons_self
    generalize k v = x at hd
    subst e
    refine ⟨.str x t :: fs, PySem.W.KatTups.cons ho hc hd rfl h1, by simp [h2], fun f hm => ?_⟩
    rcases List.mem_cons.mp hm with rfl | hm
    · exact ⟨x, t, rfl⟩
    · exact h3 f hm
theorem ps_sortable {a : Addr} {vs : List Value} {k : Value → Str} {k2 : Value → Value} {l2 : Value → Value → Bool} (h0 : 0 < vs.length) (hp : ∀ v ∈ vs, IsPS s.heap v (k v) (k2 v)) (h2 : ∀ (s' : Shared), ∀ v ∈ vs, ∀ u ∈ vs, k v = k u → Sec prog w A s' (k2 v) (k2 u) (l2 v u))
    (ha : ∀ o, s.heap.get? a = some o → o.cls ≠ .type "tuple") : SortableO prog w A s a vs (ltK k l2) := by
  intro g keep
  have hp' : ∀ v ∈ vs, IsPS g v (k v) (k2 v) := fun v hm => (hp v hm).keeps fun b o e c => keep b o (fun z => ha o (z ▸ e) c) e
  obtain ⟨fs, f1, f2, f3⟩ := firstsS hp'
  refine ⟨tuples' true, fun Q E hq => PySem.W.kat_kind (T := .type "str") f1 (by omega) (fun f hm => ?_) (by rfl) ?_, pairS_cmp hp' (h2 _)⟩
  · obtain ⟨x, t, rfl⟩ := f3 f hm
    exact PySem.W.Looks.now
  · rw [show (Value.type "str" != Value.type "tuple") = true by decide]
    exact hq
theorem collect_tup {t : Addr} {vs : List Value} {Q : List Value → Shared → Prop} (ht : s.heap.IsTuple t vs.toArray) (hz : vs.length ≤ sizeLine)
    (hq : Q vs { s with heap := (s.heap.push (seqObj "list" #[] 0)).update s.heap.objs.size (Obj.mapSeq (· ++ vs.toArray)) }) : wpAny (model prog w) A (collect (.ref t)) Q E s := by
  obtain ⟨ob, hob, hcl, m, hdat⟩ := id ht
  have hob' : (s.heap.push (seqObj "list" #[] 0)).get? t = some ob := Heap.get?_push_of_some _ hob
  have hnew : (s.heap.push (seqObj "list" #[] 0)).get? s.heap.objs.size = some (seqObj "list" #[] 0) := Heap.get?_push_size _ rfl
  unfold collect
  refine wpAny_bind (wpAny_runValue (codeAny_builtin entry_proto_collect' ?_))
  show wpAny _ _ (do again (.builtin "list.__iadd__" ⟨[← newList [], .ref t], []⟩)) _ _ s
  refine wpAny_bind (wpAny_newList (wpAny_pure ⟨Code.quiet_builtin _ (by decide +kernel), codeAny_builtin entry_list_iadd' ?_⟩))
  show wpAny _ _ (Builtin.List.listExtendWith (.ref s.heap.objs.size) (.ref t) (.ref s.heap.objs.size)) _ _ { s with heap := s.heap.push (seqObj "list" #[] 0) }
  unfold Builtin.List.listExtendWith
  refine wpAny_bind (wpAny_typeOf (T := "tuple") ⟨ob, hob', hcl⟩ ?_)
  rw [if_pos (by simp)]
  refine wpAny_bind (listItems_at hob' hdat (wpAny_bind (listItems_at hnew rfl ?_)))
  rw [if_neg (by simp)]
  refine wpAny_bind (listUpdate_at hnew rfl ?_ (Nat.zero_le _) (by show (#[] ++ vs.toArray).size ≤ sizeLine + 1; simp; omega))
  refine wpAny_pure ?_
  show wpAny (model prog w) A (do
      let z ← load s.heap.objs.size
      match z.data with
      | .seq ys _ => pure ys.toList
      | _ => unsupported "internal:collect") Q E { s with heap := (s.heap.push (seqObj "list" #[] 0)).update s.heap.objs.size (Obj.mapSeq (· ++ vs.toArray)) }
  refine wpAny_bind (wpAny_load (get?_update_seq hnew _) ?_)
  show wpAny _ _ (pure ((#[] : Array Value) ++ vs.toArray).toList) Q E _
  rw [show ((#[] : Array Value) ++ vs.toArray).toList = vs by simp]
  exact wpAny_pure hq
/-- sorted(t) of a tuple -/
theorem sorted_tup {t : Addr} {vs : List Value} {ltv : Value → Value → Bool} {Q : Value → Shared → Prop} (O : Swo ltv) (ht : s.heap.IsTuple t vs.toArray) (hz : vs.length ≤ sizeLine)
    (hS : 2 ≤ vs.length → ∀ (g : Heap) (a : Addr), g.get? a = some (seqObj "list" vs.toArray 0) → (∀ b o, s.heap.get? b = some o → b ≠ a ∧ g.get? b = some o) → SortableO prog w A.in1.in1 { s with heap := g } a vs ltv)
    (hq : ∀ out : List Value, Srtd ltv out → Stb ltv out vs → Q (.ref (s.heap.objs.size + 1)) { s with heap := sortedAll s.heap vs out.toArray }) : wpAny (model prog w) A (call (.builtin "sorted") [.ref t]) Q E s := by
  refine Calls.call_function_entry kind_sorted plain_sorted entry_sorted (args_sorted1 _) ?_
  unfold Builtin.«sorted»
  refine wpAny_bind (m := checkCount "sorted" 1 1 _) (wpAny_pure (wpAny_bind (collect_tup ht hz (wpAny_bind (wpAny_newList ?_ hz)))))
  have sz : ((s.heap.push (seqObj "list" #[] 0)).update s.heap.objs.size (Obj.mapSeq (· ++ vs.toArray))).objs.size = s.heap.objs.size + 1 := by
    rw [Heap.size_update, size_push']
  have at1 : (((s.heap.push (seqObj "list" #[] 0)).update s.heap.objs.size (Obj.mapSeq (· ++ vs.toArray))).push (seqObj "list" vs.toArray 0)).get? (s.heap.objs.size + 1) = some (seqObj "list" vs.toArray 0) := by
    rw [← sz]; exact Heap.get?_push_size _ rfl
  have old : ∀ b o, s.heap.get? b = some o → b ≠ s.heap.objs.size + 1 ∧ (((s.heap.push (seqObj "list" #[] 0)).update s.heap.objs.size (Obj.mapSeq (· ++ vs.toArray))).push (seqObj "list" vs.toArray 0)).get? b = some o := fun b o e => by
    have lt : b < s.heap.objs.size := Heap.lt_size e
    refine ⟨Nat.ne_of_lt (Nat.lt_succ_of_lt lt), Heap.get?_push_of_some _ ?_⟩
    rw [Heap.get?_update_ne _ _ _ _ (Nat.ne_of_lt lt)]
    exact Heap.get?_push_of_some _ e
  show wpAny _ _ _ _ _ { s with heap := ((s.heap.push (seqObj "list" #[] 0)).update s.heap.objs.size (Obj.mapSeq (· ++ vs.toArray))).push (seqObj "list" vs.toArray 0) }
  rw [sz]
  refine wpAny_bind (wpAny_holding (wpAny_call_entry slot_list_sort ⟨_, at1, rfl⟩ entry_list_sort (list_sort_ord O at1 hz (fun h => hS h _ _ at1 old) fun out h1 h2 => ⟨_, rfl, ?_⟩) (args_list_sort _)))
  exact wpAny_pure ⟨_, rfl, hq out h1 h2⟩
end
end Mi
/-! MiSorw: sorted(pairs), its mirror. -/
namespace Mi
open PySem L2 PyProof.Rows SrtO
theorem perm_lift {α β : Type} (f : α → β) : ∀ {out l : List β}, out.Perm l → ∀ {L : List α}, l = L.map f → ∃ L' : List α, L'.Perm L ∧ L'.map f = out := by
  intro out l p
  induction p with
  | nil => intro L h; cases L with
    | nil => exact ⟨[], .nil, rfl⟩
    | cons _ _ => cases h
  | cons x p ih =>
    intro L h
    cases L with
    | nil => cases h
    | cons y L =>
      simp only [List.map_cons, List.cons.injEq] at h
      obtain ⟨L', h1, h2⟩ := ih h.2
      exact ⟨y :: L', h1.cons y, by simp [h2, h.1]⟩
  | swap x y l =>
    intro L h
    match L, h with
    | a :: b :: L, h =>
      simp only [List.map_cons, List.cons.injEq] at h
      exact ⟨b :: a :: L, List.Perm.swap _ _ _, by simp [h.1, h.2.1, h.2.2]⟩
  | trans p q ih1 ih2 =>
    intro L h
    obtain ⟨L1, h1, h2⟩ := ih2 h
    obtain ⟨L2, h3, h4⟩ := ih1 h2.symm
    exact ⟨L2, h3.trans h1, h4⟩
theorem IsPS.inj {h : Heap} {v u u' : Value} {x x' : Str} (p : IsPS h v x u) (q : IsPS h v x' u') : x = x' ∧ u = u' := by
  obtain ⟨a, o, t, n, rfl, ho, hc, hd⟩ := p
  obtain ⟨a', o', t', n', e, ho', hc', hd'⟩ := q
  cases e
  rw [ho] at ho'
  cases ho'
  rw [hd] at hd'
  simp only [Data.seq.injEq, Array.mk.injEq, List.cons.injEq, Value.str.injEq, and_true] at hd'
  exact ⟨hd'.1.1.1, hd'.1.2⟩
open Classical in
noncomputable def psC (h : Heap) (v : Value) : Str × Value := if e : ∃ p : Str × Value, IsPS h v p.1 p.2 then e.choose else (Str.ofString "", .none)
theorem psC_eq {h : Heap} {v u : Value} {x : Str} (p : IsPS h v x u) : psC h v = (x, u) := by
  have e : ∃ p : Str × Value, IsPS h v p.1 p.2 := ⟨(x, u), p⟩
  unfold psC
  rw [dif_pos e]
  obtain ⟨h1, h2⟩ := IsPS.inj e.choose_spec p
  exact Prod.ext h1 h2
theorem ltK_at {k : Value → Str} {l2 : Value → Value → Bool} {v u : Value} {a b : Str} {c : Bool} (h1 : k v = a) (h2 : k u = b) (h3 : l2 v u = c) : ltK k l2 v u = if a = b then c else strLt a b := by
  subst h1 h2 h3; rfl
def txtV (v : Value) : Str := match v with
  | .str s _ => s
  | _ => Str.ofString ""
/-- the order of pairs: name, then text (m) or nothing -/
def ltA {α : Type} (pk : α → Str) (pt : α → Str) (m : Bool) (x y : α) : Bool := if pk x = pk y then (m && strLt (pt x) (pt y)) else strLt (pk x) (pk y)
def vtx (v : V) : Str := match v with
  | .str s => s
  | _ => Str.ofString ""
def rSortPS (K : PySem.W.Frag) (xs : List V) (H : Hp) (Q : VK) : Prop := ∃ (a : Addr) (α : Type) (L : List α) (pa : α → Addr) (pk : α → Str) (p2 : α → V) (m : Bool), xs = [.ref a] ∧ (SqL K H a (L.map fun x => .ref (pa x)) ∨ SqT K H a (L.map fun x => .ref (pa x))) ∧
  (∀ x ∈ L, SqT K H (pa x) [.str (pk x), p2 x]) ∧ (m = true → ∀ x ∈ L, ∃ z, p2 x = .str z) ∧ (m = false → ∀ x ∈ L, ∀ y ∈ L, pk x = pk y → pa x = pa y) ∧
  ∀ (L' : List α) (p : Addr), L'.Perm L → L'.Pairwise (fun x y => ltA pk (fun z => vtx (p2 z)) m y x = false) → H p = none → Q (.ref p) (upd H p (.lst (L'.map fun x => .ref (pa x))))
section
variable {X : Cx}
theorem refs_vals {α : Type} {pa : α → Addr} : ∀ (L : List α), Vals (L.map fun x => V.ref (pa x)) (L.map fun x => Value.ref (pa x))
  | [] => .nil
  | _ :: L => .cons rfl (refs_vals L)
theorem vals_refs {α : Type} {pa : α → Addr} : ∀ {L : List α} {us : List Value}, Vals (L.map fun x => V.ref (pa x)) us → us = L.map fun x => Value.ref (pa x)
  | [], _, .nil => rfl
  | _ :: L, _, .cons r t => by
    cases r
    rw [vals_refs t]
    rfl
theorem swo_txt (k2 : Value → Value) (m : Bool) : Swo (fun v u => m && strLt (txtV (k2 v)) (txtV (k2 u))) := by
  cases m with
  | false => exact ⟨fun _ _ h => (by cases h), fun _ _ _ _ _ => rfl⟩
  | true => exact ⟨fun x y h => by simp only [Bool.true_and] at h ⊢; exact strLt_asy h, fun x y z h k => by simp only [Bool.true_and] at h k ⊢; exact strLt_le h k⟩
theorem call_sortPS : CallR X (.builtin "sorted") (rSortPS X.K) := by
  intro pins s σ H xs us Q I r h
  obtain ⟨a, α, L, pa, pk, p2, m, rfl, hsq, hp, hm1, hm2, q⟩ := h
  obtain ⟨u, rfl, rx⟩ := vals1 r
  cases rx
  have pr : ∀ x ∈ L, ∃ u, RelV (p2 x) u ∧ IsPS s.heap (.ref (pa x)) (pk x) u := fun x hx => by
    obtain ⟨its, rv, ⟨o, ho, hc, n, hd⟩, _⟩ := I.tuple (hp x hx)
    cases rv with
    | cons r1 rv =>
      cases rv with
      | cons r2 rv =>
        cases rv
        obtain ⟨t, rfl⟩ := r1
        exact ⟨_, r2, pa x, o, t, n, rfl, ho, hc, hd⟩
  have hsz : L.length ≤ sizeLine := by
    rcases hsq with q | q
    · obtain ⟨its, rv, pl, hz⟩ := I.list q; simpa using hz
    · obtain ⟨its, rv, pl, hz⟩ := I.tuple q; simpa using hz
  have hl2 : ∀ x ∈ L, ∀ g : Heap, (∀ b o, s.heap.get? b = some o → g.get? b = some o) → ∃ u, RelV (p2 x) u ∧ psC s.heap (.ref (pa x)) = (pk x, u) ∧ IsPS g (.ref (pa x)) (pk x) u := fun x hx g hg => by
    obtain ⟨u, h1, h2⟩ := pr x hx
    exact ⟨u, h1, psC_eq h2, h2.keeps fun b o e _ => hg b o e⟩
  have hlen : (L.map fun x => Value.ref (pa x)).length = L.length := List.length_map _
  have sec : ∀ (A : Around) (s' : Shared), ∀ v ∈ L.map (fun x => Value.ref (pa x)), ∀ u ∈ L.map (fun x => Value.ref (pa x)), (psC s.heap v).1 = (psC s.heap u).1 → Sec X.prog X.w A s' (psC s.heap v).2 (psC s.heap u).2 (m && strLt (txtV (psC s.heap v).2) (txtV (psC s.heap u).2)) := by
    intro A s' v hv u hu hk
    obtain ⟨x, hx, rfl⟩ := List.mem_map.mp hv
    obtain ⟨y, hy, rfl⟩ := List.mem_map.mp hu
    obtain ⟨vx, r1, e1, _⟩ := hl2 x hx s.heap fun _ _ e => e
    obtain ⟨vy, r2, e2, _⟩ := hl2 y hy s.heap fun _ _ e => e
    rw [e1, e2] at hk ⊢
    cases m with
    | true =>
      obtain ⟨zx, ex⟩ := hm1 rfl x hx
      obtain ⟨zy, ey⟩ := hm1 rfl y hy
      rw [ex] at r1
      rw [ey] at r2
      obtain ⟨t1, rfl⟩ := r1
      obtain ⟨t2, rfl⟩ := r2
      refine ⟨zx == zy, SeqAt.EqAt.str_str _ _ _ _, fun e => ?_, fun _ Q hq => ?_⟩
      · have e' : zx = zy := by simpa using e
        subst e'
        simp only [Bool.true_and]
        exact strLt_irr _
      · exact PySem.W.kat_one _ _ (PyProof.Rows.lt_str hq)
    | false =>
      have e := hm2 rfl x hx y hy hk
      rw [e] at e1
      rw [e1] at e2
      have e3 := (Prod.mk.inj e2).2
      subst e3
      exact ⟨true, SeqAt.EqAt.same _, fun _ => rfl, fun q => Bool.noConfusion q⟩
  have O : Swo (ltK (fun v => (psC s.heap v).1) (fun v u => m && strLt (txtV (psC s.heap v).2) (txtV (psC s.heap u).2))) := swoK (swo_txt _ m)
  have srt : 2 ≤ (L.map fun x => Value.ref (pa x)).length → ∀ (g : Heap) (b : Addr), g.get? b = some (seqObj "list" (L.map fun x => Value.ref (pa x)).toArray 0) → (∀ c o, s.heap.get? c = some o → c ≠ b ∧ g.get? c = some o) → SortableO X.prog X.w X.A.in1.in1 { s with heap := g } b (L.map fun x => Value.ref (pa x)) (ltK (fun v => (psC s.heap v).1) (fun v u => m && strLt (txtV (psC s.heap v).2) (txtV (psC s.heap u).2))) := by
    intro h2 g b hb keep
    refine ps_sortable (k2 := fun v => (psC s.heap v).2) (by omega) (fun v hv => ?_) (fun s' v hv u hu hk => sec _ s' v hv u hu hk) fun o e => ?_
    · obtain ⟨x, hx, rfl⟩ := List.mem_map.mp hv
      obtain ⟨vx, r1, e1, p⟩ := hl2 x hx g fun c o e => (keep c o e).2
      show IsPS g _ (psC s.heap _).1 (psC s.heap _).2
      rw [e1]
      exact p
    · rw [show ({ s with heap := g } : Shared).heap.get? b = some (seqObj "list" (L.map fun x => Value.ref (pa x)).toArray 0) from hb] at e
      cases e
      intro c
      exact absurd (Value.type.inj c) (by decide)
  have fin : ∀ out : List Value, Srtd (ltK (fun v => (psC s.heap v).1) (fun v u => m && strLt (txtV (psC s.heap v).2) (txtV (psC s.heap u).2))) out → Stb (ltK (fun v => (psC s.heap v).1) (fun v u => m && strLt (txtV (psC s.heap v).2) (txtV (psC s.heap u).2))) out (L.map fun x => Value.ref (pa x)) → EP X pins σ Q (.ref (s.heap.objs.size + 1)) { s with heap := sortedAll s.heap (L.map fun x => Value.ref (pa x)) out.toArray } := by
    intro out h1 h2
    obtain ⟨L', p1, p2'⟩ := perm_lift (fun x => Value.ref (pa x)) h2.perm rfl
    subst p2'
    obtain ⟨c, hc⟩ := sortedAll_at s.heap (L.map fun x => Value.ref (pa x)) (L'.map fun x => Value.ref (pa x)).toArray
    have hlL : L'.length = L.length := p1.length_eq
    refine ⟨.ref (s.heap.objs.size + 1), _, I.laid (t' := s.toks) (o := .lst (L'.map fun x => V.ref (pa x))) (fun b o e => sortedAll_old e) (Nat.le_succ _) ⟨by rw [List.length_map, hlL]; exact hsz, _, c, refs_vals L', hc⟩, rfl, q L' _ p1 ?_ (I.hok.fresh (Nat.le_succ _))⟩
    refine List.Pairwise.imp_of_mem (fun {x y} hx hy hle => ?_) (List.pairwise_map.mp h1)
    obtain ⟨vx, r1, e1, _⟩ := hl2 x (p1.mem_iff.mp hx) s.heap fun _ _ e => e
    obtain ⟨vy, r2, e2, _⟩ := hl2 y (p1.mem_iff.mp hy) s.heap fun _ _ e => e
    rw [ltK_at (congrArg Prod.fst e2) (congrArg Prod.fst e1) (show (m && strLt (txtV (psC s.heap (.ref (pa y))).2) (txtV (psC s.heap (.ref (pa x))).2)) = (m && strLt (txtV vy) (txtV vx)) by rw [e1, e2])] at hle
    unfold ltA
    cases m with
    | false => exact hle
    | true =>
      obtain ⟨zx, ex⟩ := hm1 rfl x (p1.mem_iff.mp hx)
      obtain ⟨zy, ey⟩ := hm1 rfl y (p1.mem_iff.mp hy)
      rw [ex] at r1
      rw [ey] at r2
      obtain ⟨t1, rfl⟩ := r1
      obtain ⟨t2, rfl⟩ := r2
      show (if pk y = pk x then (true && strLt (vtx (p2 y)) (vtx (p2 x))) else strLt (pk y) (pk x)) = false
      rw [ex, ey]
      exact hle
  rcases hsq with hq | hq
  · obtain ⟨its, rv, pl, hz⟩ := I.list hq
    have e := vals_refs rv
    subst e
    exact sorted_ord O pl.isList (by rw [hlen]; exact hsz) srt fin
  · obtain ⟨its, rv, pl, hz⟩ := I.tuple hq
    have e := vals_refs rv
    subst e
    exact sorted_tup O pl (by rw [hlen]; exact hsz) srt fin
end
end Mi
/-! MiSor2: sorted, as a mirror. -/
namespace Mi
open PySem L2
/-! ### sorting by insertion -/
section
variable {α : Type}
def insB (lt : α → α → Bool) (x : α) : List α → List α
  | [] => [x]
  | y :: r => if lt y x = true then y :: insB lt x r else x :: y :: r
def isort (lt : α → α → Bool) : List α → List α
  | [] => []
  | x :: r => insB lt x (isort lt r)
theorem insB_perm (lt : α → α → Bool) (x : α) : ∀ l, (insB lt x l).Perm (x :: l)
  | [] => List.Perm.refl _
  | y :: r => by
    unfold insB
    split
    · exact ((insB_perm lt x r).cons y).trans (List.Perm.swap _ _ _)
    · exact List.Perm.refl _
theorem isort_perm (lt : α → α → Bool) : ∀ l, (isort lt l).Perm l
  | [] => List.Perm.refl _
  | x :: r => (insB_perm lt x _).trans ((isort_perm lt r).cons x)
def Sd (lt : α → α → Bool) (l : List α) : Prop := l.Pairwise fun x y => lt y x = false
/-- on the members of l: asymmetric, and not above is transitive -/
structure Ord (lt : α → α → Bool) (l : List α) : Prop where
  asy : ∀ x ∈ l, ∀ y ∈ l, lt x y = true → lt y x = false
  tr : ∀ x ∈ l, ∀ y ∈ l, ∀ z ∈ l, lt y x = false → lt z y = false → lt z x = false
theorem Ord.sub {lt : α → α → Bool} {l m : List α} (o : Ord lt l) (h : ∀ x ∈ m, x ∈ l) : Ord lt m := ⟨fun x hx y hy => o.asy x (h x hx) y (h y hy), fun x hx y hy z hz => o.tr x (h x hx) y (h y hy) z (h z hz)⟩
theorem insB_sd {lt : α → α → Bool} {x : α} : ∀ {l : List α}, Ord lt (x :: l) → Sd lt l → Sd lt (insB lt x l)
  | [], _, _ => List.pairwise_singleton _ _
  | y :: r, o, s => by
    have s' := List.pairwise_cons.mp s
    unfold insB
    split
    · rename_i h
      have ih := insB_sd (x := x) (l := r) (o.sub fun z hz => by rcases List.mem_cons.mp hz with e | e <;> simp [e]) s'.2
      refine List.pairwise_cons.mpr ⟨fun z hz => ?_, ih⟩
      rcases List.mem_cons.mp ((insB_perm lt x r).mem_iff.mp hz) with e | e
      · rw [e]; exact o.asy y (by simp) x (by simp) h
      · exact s'.1 z e
    · rename_i h
      have h0 : lt y x = false := by simpa using h
      refine List.pairwise_cons.mpr ⟨fun z hz => ?_, s⟩
      rcases List.mem_cons.mp hz with e | e
      · rw [e]; exact h0
      · exact o.tr x (by simp) y (by simp) z (by simp [e]) h0 (s'.1 z e)
theorem isort_sd {lt : α → α → Bool} : ∀ {l : List α}, Ord lt l → Sd lt (isort lt l)
  | [], _ => List.Pairwise.nil
  | x :: r, o => insB_sd (o.sub fun z hz => by
      rcases List.mem_cons.mp hz with e | e
      · simp [e]
      · exact List.mem_cons_of_mem _ ((isort_perm lt r).mem_iff.mp e)) (isort_sd (o.sub fun z hz => List.mem_cons_of_mem _ hz))
theorem sd_uniq {lt : α → α → Bool} : ∀ {l m : List α}, l.Perm m → Sd lt l → Sd lt m → (∀ x ∈ l, ∀ y ∈ l, lt x y = false → lt y x = false → x = y) → l = m
  | [], m, p, _, _, _ => (List.Perm.nil_eq p)
  | x :: l, [], p, _, _, _ => by have := p.length_eq; simp at this
  | x :: l, y :: m, p, s, t, a => by
    have s' := List.pairwise_cons.mp s
    have t' := List.pairwise_cons.mp t
    have hy : y ∈ x :: l := p.mem_iff.mpr List.mem_cons_self
    have hx : x ∈ y :: m := p.mem_iff.mp List.mem_cons_self
    have e : x = y := by
      rcases List.mem_cons.mp hx with e | h1
      · exact e
      · rcases List.mem_cons.mp hy with e | h2
        · exact e.symm
        · exact a x (by simp) y hy (t'.1 x h1) (s'.1 y h2)
    subst e
    rw [sd_uniq (List.Perm.cons_inv p) s'.2 t'.2 fun u hu v hv => a u (List.mem_cons_of_mem _ hu) v (List.mem_cons_of_mem _ hv)]
/-- what is sorted stays -/
theorem isort_id {lt : α → α → Bool} : ∀ {l : List α}, Sd lt l → isort lt l = l
  | [], _ => rfl
  | x :: r, s => by
    have s' := List.pairwise_cons.mp s
    unfold isort
    rw [isort_id s'.2]
    cases r with
    | nil => rfl
    | cons y r =>
      unfold insB
      rw [if_neg (by rw [s'.1 y (by simp)]; exact Bool.false_ne_true)]
end

/-! ### the mirror -/
def pkeyD : D → Option (Str × D)
  | .tup [.str a, y] => some (a, y)
  | _ => none
def dtx : D → Str
  | .str s => s
  | _ => Str.ofString ""
def ltDP (m : Bool) (x y : D) : Bool := match pkeyD x, pkeyD y with
  | some (a, u), some (b, v) => if a = b then (m && strLt (dtx u) (dtx v)) else strLt a b
  | _, _ => false
def isTx : D → Bool
  | .str _ => true
  | _ => false
def okSP (xs : List D) : Bool := xs.all fun x => (pkeyD x).isSome
def txSP (xs : List D) : Bool := xs.all fun x => match pkeyD x with
  | some (_, y) => isTx y
  | none => false
def pname (x : D) : Str := match pkeyD x with
  | some (a, _) => a
  | none => Str.ofString ""
def sortedW (ws : List W) (M : Sto) : Option W := match ws with
  | [w] => (vS M w).bind fun xs => if okSP xs = true then
      (if txSP xs = true then some (.fr (isort (ltDP true) xs)) else if (xs.map pname).Nodup then some (.fr (isort (ltDP false) xs)) else none)
    else (vL M w).bind fun xs => (dStrs xs).bind fun ss => if ss.length < 64 then some (.fr ((isort strLt ss).map .str)) else none
  | _ => none
theorem pkey_eq {x y : D} {a : Str} (h : pkeyD x = some (a, y)) : x = .tup [.str a, y] := by
  unfold pkeyD at h
  split at h
  · cases h; rfl
  · cases h
theorem nodup_inj {α β : Type} {f : α → β} : ∀ {l : List α}, (l.map f).Nodup → ∀ x ∈ l, ∀ y ∈ l, f x = f y → x = y
  | [], _, x, h, _, _, _ => by cases h
  | z :: l, nd, x, hx, y, hy, e => by
    simp only [List.map_cons, List.nodup_cons, List.mem_map, not_exists, not_and] at nd
    rcases List.mem_cons.mp hx with e1 | h1 <;> rcases List.mem_cons.mp hy with e2 | h2
    · rw [e1, e2]
    · subst e1; exact absurd e.symm (nd.1 y h2)
    · subst e2; exact absurd e (nd.1 x h1)
    · exact nodup_inj nd.2 x h1 y h2 e
structure It4 where
  a : Addr
  k : Str
  v : V
  d : D
section
variable {R : Rc} {lk : Lk} {am : List Addr} {F H H0 : Hp} {M : Sto} {X : Cx} {C : Zs}
theorem items_of {K : PySem.W.Frag} : ∀ {vs : List V} {xs : List D}, DVs K am F vs xs → okSP xs = true → ∃ L : List It4, vs = L.map (fun x => V.ref x.a) ∧ xs = L.map (·.d) ∧ ∀ x ∈ L, SqT K F x.a [.str x.k, x.v] ∧ DV K am F (.ref x.a) x.d ∧ ∃ y, pkeyD x.d = some (x.k, y) ∧ DV K am F x.v y
  | _, _, .nil, _ => ⟨[], rfl, rfl, by simp⟩
  | _, _, .cons (v := v) (x := x) d t, h => by
    simp only [okSP, List.all_cons, Bool.and_eq_true] at h
    obtain ⟨L, e1, e2, hL⟩ := items_of t h.2
    obtain ⟨⟨a, y⟩, hk⟩ := Option.isSome_iff_exists.mp h.1
    have ex := pkey_eq hk
    subst ex
    have dd := d
    cases d with
    | @tup p us _ hs du =>
      cases du with
      | cons d1 du =>
        cases du with
        | cons d2 du =>
          cases du
          cases d1
          rename_i vy
          refine ⟨⟨p, a, vy, .tup [.str a, y]⟩ :: L, by rw [e1]; rfl, by rw [e2]; rfl, fun z hz => ?_⟩
          rcases List.mem_cons.mp hz with e | hz
          · subst e
            exact ⟨hs, dd, y, hk, d2⟩
          · exact hL z hz
theorem dvs_items {K : PySem.W.Frag} : ∀ {L : List It4}, (∀ x ∈ L, DV K am F (.ref x.a) x.d) → DVs K am F (L.map fun x => V.ref x.a) (L.map (·.d))
  | [], _ => .nil
  | x :: L, h => .cons (h x (by simp)) (dvs_items fun y hy => h y (List.mem_cons_of_mem _ hy))
theorem ltDP_ord (m : Bool) (xs : List D) (ok : okSP xs = true) : Ord (ltDP m) xs := by
  have kk : ∀ x ∈ xs, ∃ a y, pkeyD x = some (a, y) := fun x hx => by
    obtain ⟨⟨a, y⟩, h⟩ := Option.isSome_iff_exists.mp (List.all_eq_true.mp ok x hx)
    exact ⟨a, y, h⟩
  refine ⟨fun x hx y hy h => ?_, fun x hx y hy z hz h1 h2 => ?_⟩
  · obtain ⟨a, u, e1⟩ := kk x hx
    obtain ⟨b, v, e2⟩ := kk y hy
    unfold ltDP at h ⊢
    rw [e1, e2] at h
    rw [e1, e2]
    dsimp only at h ⊢
    by_cases e : a = b
    · rw [if_pos e] at h
      rw [if_pos e.symm]
      cases m with
      | false => rfl
      | true => exact strLt_asy h
    · rw [if_neg e] at h
      rw [if_neg (Ne.symm e)]
      exact strLt_asy h
  · obtain ⟨a, u, e1⟩ := kk x hx
    obtain ⟨b, v, e2⟩ := kk y hy
    obtain ⟨c, t, e3⟩ := kk z hz
    unfold ltDP at h1 h2 ⊢
    rw [e1, e2] at h1
    rw [e2, e3] at h2
    rw [e1, e3]
    dsimp only at h1 h2 ⊢
    by_cases e : b = a
    · rw [if_pos e] at h1
      by_cases e' : c = b
      · rw [if_pos e'] at h2
        rw [if_pos (e'.trans e)]
        cases m with
        | false => rfl
        | true => exact strLt_le h1 h2
      · rw [if_neg e'] at h2
        rw [if_neg (fun q => e' (q.trans e.symm)), ← e]
        exact h2
    · rw [if_neg e] at h1
      by_cases e' : c = b
      · rw [if_neg (fun q => e (e'.symm.trans q)), e']
        exact h1
      · rw [if_neg e'] at h2
        by_cases e3 : c = a
        · rw [e3] at h2
          exact absurd (strLt_eq h1 h2) e
        · rw [if_neg e3]
          exact strLt_le h1 h2
def rSortM (K : PySem.W.Frag) (xs : List V) (H : Hp) (Q : VK) : Prop := rSortPS K xs H Q ∨ rSortedS K xs H Q
theorem call_sortM : CallR X (.builtin "sorted") (rSortM X.K) := fun pins s σ H xs us Q I r h => h.elim (fun q => call_sortPS pins s σ H xs us Q I r q) fun q => cr_sortedS pins s σ H xs us Q I r q
theorem rising_sd : ∀ (r : List Str) (x : Str), PyProof.Rows.risingS x r = true → Sd strLt (x :: r)
  | [], x, _ => List.pairwise_singleton _ _
  | y :: r, x, h => by
    have h' : (!strLt y x && PyProof.Rows.risingS y r) = true := by
      have e : PyProof.Rows.risingS x (y :: r) = (!strLt y x && PyProof.Rows.risingS y r) := by
        show (!PySem.Spec.ltCps y.cps.toList x.cps.toList && PyProof.Rows.risingS y r) = _
        rw [PyProof.Rows.ltCps_eq]
        rfl
      rw [← e]
      exact h
    simp only [Bool.and_eq_true, Bool.not_eq_true'] at h'
    have ih := rising_sd r y h'.2
    refine List.pairwise_cons.mpr ⟨fun z hz => ?_, ih⟩
    rcases List.mem_cons.mp hz with e | e
    · rw [e]; exact h'.1
    · exact strLt_le h'.1 ((List.pairwise_cons.mp ih).1 z e)
theorem sortedS_sd : ∀ (l : List Str), PyProof.Rows.sortedS l = true → Sd strLt l
  | [], _ => List.Pairwise.nil
  | x :: r, h => rising_sd r x h
theorem strLt_ord (l : List Str) : Ord strLt l := ⟨fun _ _ _ _ h => strLt_asy h, fun _ _ _ _ _ _ h k => strLt_le h k⟩
theorem strs_dv {K : PySem.W.Frag} : ∀ (l : List Str), DVs K am F (l.map V.str) (l.map D.str)
  | [] => .nil
  | x :: r => .cons (.str x) (strs_dv r)
theorem c_sorted : CallC R (rSortM R.K) sortedW := by
  intro lk am F M H H0 vs ws z Q s r h P
  unfold sortedW at h
  split at h
  · rename_i w
    obtain ⟨v, rfl, rw0⟩ := rws1 r
    obtain ⟨xs, h1, h⟩ := Option.bind_eq_some_iff.mp h
    split at h
    · rename_i ok
      refine .inl ?_
      obtain ⟨a, us, rfl, hq, d⟩ := vS_ok s rw0 h1
      obtain ⟨L, e1, e2, hL⟩ := items_of d ok
      subst e1
      have hsq : SqL R.K H a (L.map fun x => V.ref x.a) ∨ SqT R.K H a (L.map fun x => V.ref x.a) := sq_or hq
      have go : ∀ m : Bool, (m = true → txSP xs = true) → (m = false → (xs.map pname).Nodup) → z = .fr (isort (ltDP m) xs) → rSortPS R.K [.ref a] H Q := by
        intro m hm1 hm2 ez
        have pn : ∀ x ∈ L, pname x.d = x.k := fun x hx => by
          obtain ⟨_, _, y, hk, _⟩ := hL x hx
          unfold pname
          rw [hk]
        have tx : m = true → ∀ x ∈ L, ∃ t, x.v = .str t ∧ pkeyD x.d = some (x.k, .str t) := fun e x hx => by
          obtain ⟨_, _, y, hk, dy⟩ := hL x hx
          have q := hm1 e
          rw [e2] at q
          have q2 := List.all_eq_true.mp q x.d (List.mem_map.mpr ⟨x, hx, rfl⟩)
          rw [hk] at q2
          generalize x.v = xv at dy
          cases y with
          | str t => cases dy; exact ⟨t, rfl, hk⟩
          | _ => cases q2
        have nd : m = false → (L.map (·.k)).Nodup := fun e => by
          have q := hm2 e
          rw [e2, List.map_map] at q
          have e3 : L.map (pname ∘ (·.d)) = L.map (·.k) := List.map_congr_left fun x hx => pn x hx
          rw [e3] at q
          exact q
        refine ⟨a, It4, L, (·.a), (·.k), (·.v), m, rfl, hsq, fun x hx => (show Le F H from s.ex).seqT (hL x hx).1, fun e x hx => ?_, fun e x hx y hy hk => ?_, fun L' p pm pw hp => ?_⟩
        · obtain ⟨t, e3, _⟩ := tx e x hx
          exact ⟨t, e3⟩
        · rw [nodup_inj (nd e) x hx y hy hk]
        · have hd : DVs R.K am F (L'.map fun x => V.ref x.a) (L'.map (·.d)) := dvs_items fun x hx => (hL x (pm.mem_iff.mp hx)).2.1
          have same : ∀ x ∈ L, ∀ y ∈ L, ltDP m x.d y.d = ltA (·.k) (fun z => vtx z.v) m x y := fun x hx y hy => by
            obtain ⟨_, _, u, e3, _⟩ := hL x hx
            obtain ⟨_, _, t, e4, _⟩ := hL y hy
            unfold ltDP ltA
            rw [e3, e4]
            cases m with
            | false => rfl
            | true =>
              obtain ⟨t1, e5, e6⟩ := tx rfl x hx
              obtain ⟨t2, e7, e8⟩ := tx rfl y hy
              rw [e3] at e6
              rw [e4] at e8
              cases e6
              cases e8
              show _ = if x.k = y.k then (true && strLt (vtx x.v) (vtx y.v)) else strLt x.k y.k
              rw [e5, e7]
              rfl
          have eq : L'.map (·.d) = isort (ltDP m) xs := by
            refine sd_uniq (lt := ltDP m) ?_ ?_ (isort_sd (ltDP_ord m xs ok)) fun x hx y hy h3 h4 => ?_
            · rw [e2]
              exact (pm.map _).trans (isort_perm _ _).symm
            · refine List.pairwise_map.mpr (List.Pairwise.imp_of_mem (fun {x y} hx hy hle => ?_) pw)
              rw [same y (pm.mem_iff.mp hy) x (pm.mem_iff.mp hx)]
              exact hle
            · obtain ⟨x', hx', rfl⟩ := List.mem_map.mp hx
              obtain ⟨y', hy', rfl⟩ := List.mem_map.mp hy
              have mx := pm.mem_iff.mp hx'
              have my := pm.mem_iff.mp hy'
              obtain ⟨_, _, u, e3, _⟩ := hL x' mx
              obtain ⟨_, _, t, e4, _⟩ := hL y' my
              unfold ltDP at h3 h4
              rw [e3, e4] at h3
              rw [e3, e4] at h4
              dsimp only at h3 h4
              by_cases e : x'.k = y'.k
              · cases m with
                | false => rw [nodup_inj (nd rfl) x' mx y' my e]
                | true =>
                  rw [if_pos e] at h3
                  rw [if_pos e.symm] at h4
                  obtain ⟨t1, _, e6⟩ := tx rfl x' mx
                  obtain ⟨t2, _, e8⟩ := tx rfl y' my
                  rw [e3] at e6
                  rw [e4] at e8
                  cases e6
                  cases e8
                  have ee : t1 = t2 := strLt_eq h3 h4
                  rw [pkey_eq e3, pkey_eq e4, e, ee]
              · rw [if_neg e] at h3
                rw [if_neg (Ne.symm e)] at h4
                exact absurd (strLt_eq h3 h4) e
          rw [eq] at hd
          subst ez
          exact P.newL s hd p hp
      split at h
      · rename_i ht
        cases h
        exact go true (fun _ => ht) (fun q => Bool.noConfusion q) rfl
      · split at h
        · rename_i hn
          cases h
          exact go false (fun q => Bool.noConfusion q) (fun _ => hn) rfl
        · cases h
    · obtain ⟨ys, h2, h⟩ := Option.bind_eq_some_iff.mp h
      obtain ⟨ss, h3, h⟩ := Option.bind_eq_some_iff.mp h
      split at h
      · rename_i hl
        cases h
        obtain ⟨a, us, rfl, hq, d⟩ := vL_ok s rw0 h2
        have e := dStrs_dv d h3
        subst e
        refine .inr ⟨a, ss, rfl, .of hq, hl, fun out p pm ps hp => ?_⟩
        have eq : out = isort strLt ss := sd_uniq (pm.trans (isort_perm _ _).symm) (sortedS_sd _ ps) (isort_sd (strLt_ord _)) fun x _ y _ h3 h4 => strLt_eq h3 h4
        subst eq
        exact P.newL s (strs_dv _) p hp
      · cases h
  · cases h
end
end Mi
/-! MiIn: in, not in. -/
namespace Mi
open PySem L2
section
variable {X : Cx} {C : Zs} {R : Rc}
/-- x in y, whatever f does with the answer -/
def rInM (K : PySem.W.Frag) (f : Bool → Bool) : R2 := fun x y H Q =>
  (∃ i j, x = .str i ∧ y = .str j ∧ Q (.bl (f (!(Builtin.Str.occurrences j i 0 j.length 1).isEmpty))) H) ∨
  (∃ p xs, y = .ref p ∧ (SqL K H p xs ∨ SqT K H p xs) ∧ flatV x = true ∧ xs.all flatV = true ∧ Q (.bl (f (inV x xs))) H) ∨
  (∃ d ds, Dp K H x d ∧ (Dp K H y (.list ds) ∧ SeqAt.shaped (.list ds) = true ∨ Dp K H y (.tuple ds) ∧ SeqAt.shaped (.tuple ds) = true) ∧ SeqAt.shaped d = true ∧ Q (.bl (f (ds.any fun z => PyData.eqv z d))) H) ∨
  ∃ a o, y = .ref a ∧ DGet H a x o ∧ Q (.bl (f o.isSome)) H
theorem room_inT {ds : List PyData} {d : PyData} {A : Around} (sd : SeqAt.shaped d = true) (hu : A.units + 65 < cLine) : A.units + 1 + min (PyData.depthAll ds) d.depth < cLine := by
  unfold SeqAt.shaped at sd
  simp only [Bool.and_eq_true, decide_eq_true_eq] at sd
  have := Nat.min_le_right (PyData.depthAll ds) d.depth
  omega
theorem op_inM (hu : X.A.units + 65 < cLine) : OpR X (compareOp .In) (rInM X.K id) := by
  intro pins s σ H x y v u Q I r1 r2 h
  rcases h with ⟨i, j, e1, e2, q⟩ | ⟨p, xs, e1, e2, e3, e4, q⟩ | ⟨d, ds, h1, h2, h3, q⟩ | ⟨a, o, rfl, g, q⟩
  · exact op_in_str pins s σ H x y v u Q I r1 r2 ⟨i, j, e1, e2, q⟩
  · exact op_in_seq pins s σ H x y v u Q I r1 r2 ⟨p, xs, e1, e2, e3, e4, q⟩
  · rcases h2 with ⟨h2, h4⟩ | ⟨h2, h4⟩
    · exact op_inD hu pins s σ H x y v u Q I r1 r2 ⟨d, ds, h1, h2, h3, h4, q⟩
    · obtain ⟨as, t1⟩ := Dp.reads I d x v h1 r1
      obtain ⟨bs, t2⟩ := Dp.reads I (.tuple ds) y u h2 r2
      exact SeqAt.in_tuple_reads t2 t1 (SeqAt.canLay_of_shaped h4) (SeqAt.canLay_of_shaped h3) (room_inT h3 hu) ⟨.bl _, H, I, rfl, q⟩
  · cases r2
    exact d_in (by omega) I g r1 fun s' I' => ⟨.bl _, H, I', rfl, q⟩
theorem op_ninM (hu : X.A.units + 65 < cLine) : OpR X (compareOp .NotIn) (rInM X.K not) := by
  intro pins s σ H x y v u Q I r1 r2 h
  rcases h with ⟨i, j, e1, e2, q⟩ | ⟨p, xs, e1, e2, e3, e4, q⟩ | ⟨d, ds, h1, h2, h3, q⟩ | ⟨a, o, rfl, g, q⟩
  · exact op_notIn_str pins s σ H x y v u Q I r1 r2 ⟨i, j, e1, e2, q⟩
  · exact op_notIn_seq pins s σ H x y v u Q I r1 r2 ⟨p, xs, e1, e2, e3, e4, q⟩
  · rcases h2 with ⟨h2, h4⟩ | ⟨h2, h4⟩
    · exact op_notInD hu pins s σ H x y v u Q I r1 r2 ⟨d, ds, h1, h2, h3, h4, q⟩
    · obtain ⟨as, t1⟩ := Dp.reads I d x v h1 r1
      obtain ⟨bs, t2⟩ := Dp.reads I (.tuple ds) y u h2 r2
      exact SeqAt.notIn_tuple_reads t2 t1 (SeqAt.canLay_of_shaped h4) (SeqAt.canLay_of_shaped h3) (room_inT h3 hu) ⟨.bl _, H, I, rfl, q⟩
  · cases r2
    exact d_notIn (by omega) I g r1 fun s' I' => ⟨.bl _, H, I', rfl, q⟩
theorem inv_flat {K : PySem.W.Frag} {am : List Addr} {F : Hp} {v : V} {x : D} (d : DV K am F v x) (hx : x.flat = true) : ∀ {vs : List V} {xs : List D}, DVs K am F vs xs → xs.all D.flat = true → inV v vs = xs.any fun y => deq y x
  | _, _, .nil, _ => rfl
  | _, _, .cons (v := u) (vs := vs) (x := y) (xs := xs) e t, h => by
    simp only [List.all_cons, Bool.and_eq_true] at h
    have ih := inv_flat d hx t h.2
    unfold inV at ih ⊢
    rw [List.any_cons, List.any_cons, ih, eqV_dv e d h.1 hx]
mutual
theorem ok_up : ∀ {n : Nat} {x : D}, x.ok n = true → x.ok (n + 1) = true
  | _, .non, _ => by simp [D.ok]
  | _, .bl _, _ => by simp [D.ok]
  | _, .int _, _ => by simp [D.ok]
  | _, .str s, h => by simpa [D.ok] using h
  | 0, .tup _, h => by simp [D.ok] at h
  | 0, .tpl _, h => by simp [D.ok] at h
  | 0, .lst _, h => by simp [D.ok] at h
  | n + 1, .tup xs, h => by unfold D.ok; exact oks_up (by simpa [D.ok] using h)
  | n + 1, .tpl xs, h => by unfold D.ok; exact oks_up (by simpa [D.ok] using h)
  | n + 1, .lst xs, h => by unfold D.ok; exact oks_up (by simpa [D.ok] using h)
  | _, .cel _, h => by simp [D.ok] at h
  | _, .rol _, h => by simp [D.ok] at h
  | _, .dic _, h => by simp [D.ok] at h
theorem oks_up : ∀ {n : Nat} {xs : List D}, oks n xs = true → oks (n + 1) xs = true
  | _, [], _ => rfl
  | n, x :: r, h => by
    have h' : x.ok n = true ∧ oks n r = true := by simpa [oks] using h
    show (x.ok (n + 1) && oks (n + 1) r) = true
    rw [ok_up h'.1, oks_up h'.2]
    rfl
end
theorem any_py {x : D} (hx : x.ok 60 = true) : ∀ {xs : List D}, oks 59 xs = true → ((pys xs).any fun z => PyData.eqv z x.py) = xs.any fun y => deq y x
  | [], _ => rfl
  | y :: r, h => by
    have h' : y.ok 59 = true ∧ oks 59 r = true := by simpa [oks] using h
    show (PyData.eqv y.py x.py || (pys r).any fun z => PyData.eqv z x.py) = _
    rw [List.any_cons, any_py hx h'.2, eqv_py 60 y x (ok_up h'.1) hx]
theorem kvs_any {κ : Type} [DecidableEq κ] {K : PySem.W.Frag} {am : List Addr} {F : Hp} {k : κ} : ∀ {vs : List (κ × V)} {xs : List (κ × D)}, KVs K am F vs xs → (vs.any fun p => decide (p.1 = k)) = xs.any fun p => decide (p.1 = k)
  | _, _, .nil => rfl
  | _, _, .cons _ t => by simp only [List.any_cons, kvs_any t]
theorem c_inf {f : Bool → Bool} {op : W → W → Sto → Option W} (ho : ∀ a b M z, op a b M = some z → ∃ r, inW a b M = some (.d (.bl r)) ∧ z = .d (.bl (f r))) : OpC R (rInM R.K f) op := by
  intro lk am F M H H0 x y a b z Q s ra rb h P
  obtain ⟨r, hin, rfl⟩ := ho a b M z h
  clear h
  have h := hin
  unfold inW at h
  split at h
  · rename_i dx
    have da : DV R.K am F x dx := ra
    split at h
    · rename_i t
      split at h
      · cases h
        cases da
        cases rb
        exact .inl ⟨_, _, rfl, rfl, P.val s (.bl _)⟩
      · cases h
    · split at h
      · rename_i ys e1
        obtain ⟨p, us, rfl, hq, du⟩ := vS_ok s rb e1
        split at h
        · rename_i hf
          simp only [Bool.and_eq_true] at hf
          cases h
          refine .inr (.inl ⟨p, us, rfl, sq_or hq, flat_dv da hf.1, flat_dvs du hf.2, ?_⟩)
          rw [inv_flat da hf.1 du hf.2]
          exact P.val s (.bl _)
        · split at h
          · rename_i hk
            simp only [Bool.and_eq_true] at hk
            cases h
            have dd := DVs.dp s.ex 59 hk.2 du
            refine .inr (.inr (.inl ⟨dx.py, pys ys, da.dp s.ex 60 hk.1, ?_, ok_shaped hk.1 (by decide), ?_⟩))
            · rcases hq with hq | hq
              · exact .inl ⟨.lst (.of hq) dd, ok_shaped (x := .lst ys) (n := 60) (by unfold D.ok; exact hk.2) (by decide)⟩
              · exact .inr ⟨.tup hq dd, ok_shaped (x := .tup ys) (n := 60) (by unfold D.ok; exact hk.2) (by decide)⟩
            · rw [any_py hk.1 hk.2]
              exact P.val s (.bl _)
          · cases h
      · simp only [Option.bind_eq_some_iff, Option.map_eq_some_iff] at h
        obtain ⟨kv, e1, k, e2, e3⟩ := h
        obtain ⟨p, kvs, rfl, hq, dk⟩ := vK_ok s rb e1
        have ek := key_dv da e2
        subst ek
        cases e3
        refine .inr (.inr (.inr ⟨p, valV kvs k, rfl, .inl ⟨kvs, k, hq, rfl, rfl⟩, ?_⟩))
        have es : (valV kvs k).isSome = kv.any fun p => decide (p.1 = k) := by
          rw [← valV_any]
          exact kvs_any dk
        rw [es]
        exact P.val s (.bl _)
  · cases h
theorem c_in : OpC R (rInM R.K id) inW := c_inf fun a b M z h => by
  have hz : ∃ r, z = .d (.bl r) := by
    unfold inW at h
    split at h
    · split at h
      · split at h
        · cases h; exact ⟨_, rfl⟩
        · cases h
      · split at h
        · split at h
          · cases h; exact ⟨_, rfl⟩
          · split at h
            · cases h; exact ⟨_, rfl⟩
            · cases h
        · simp only [Option.bind_eq_some_iff, Option.map_eq_some_iff] at h
          obtain ⟨_, _, _, _, e⟩ := h
          exact ⟨_, e.symm⟩
    · cases h
  obtain ⟨r, rfl⟩ := hz
  exact ⟨r, h, rfl⟩
theorem c_nin : OpC R (rInM R.K not) notInW := c_inf fun a b M z h => by
  unfold notInW at h
  split at h
  · rename_i r e
    cases h
    exact ⟨r, e, rfl⟩
  · cases h
theorem hu65 {A : Around} {k : Nat} (hr : Room k A) : A.units + 65 < cLine := by have := hr.un; omega
end
end Mi
/-! MiTxs: sets of texts: made of a list or a tuple, sorted, counted. -/
namespace Mi
open PySem L2 PySem.Spec PyProof.Rows
/-- a text as a set's row -/
def RowS (w : World) (e : Int × Value) (k : Str) : Prop := ∃ tk, e = (hashStr w k, Value.str k tk)
/-- the set of the texts L at a, with what its walk needs -/
def SetS (w : World) (h : Heap) (a : Addr) (L : List Str) : Prop :=
  ∃ o es ep t, h.get? a = some o ∧ o.ExactSet ∧ o.data = .set es ep t ∧ Paired (RowS w) es.toList L ∧ L.Nodup ∧ es.size < scanBound ∧ t.fits es.size = true ∧ Ris t.place.toList ∧ (w.params.followText "set-order" = true ∨ t.led = true)
theorem paired_mem {α β : Type} {r : α → β → Prop} : ∀ {l : List α} {m : List β}, Paired r l m → ∀ x ∈ l, ∃ y ∈ m, r x y
  | _, _, .nil, x, h => by cases h
  | _, _, .cons (a := a) (b := b) h t, x, hx => by
    rcases List.mem_cons.mp hx with e | hx
    · exact ⟨b, by simp, e ▸ h⟩
    · obtain ⟨y, h1, h2⟩ := paired_mem t x hx
      exact ⟨y, by simp [h1], h2⟩
theorem paired_perm {α β : Type} {r : α → β → Prop} {l l' : List α} (p : l'.Perm l) : ∀ {m : List β}, Paired r l m → ∃ m', Paired r l' m' ∧ m'.Perm m := by
  induction p with
  | nil => intro m h; cases h; exact ⟨[], .nil, .nil⟩
  | cons x p ih =>
    intro m h
    cases h with
    | cons h t =>
      obtain ⟨m', h1, h2⟩ := ih t
      exact ⟨_ :: m', .cons h h1, h2.cons _⟩
  | swap x y l =>
    intro m h
    cases h with
    | cons h t =>
      cases t with
      | cons h' t => exact ⟨_, .cons h' (.cons h t), List.Perm.swap _ _ _⟩
  | trans p q ih1 ih2 =>
    intro m h
    obtain ⟨m1, h1, h2⟩ := ih2 h
    obtain ⟨m2, h3, h4⟩ := ih1 h1
    exact ⟨m2, h3, h4.trans h2⟩
theorem paired_len {α β : Type} {r : α → β → Prop} : ∀ {l : List α} {m : List β}, Paired r l m → l.length = m.length
  | _, _, .nil => rfl
  | _, _, .cons _ t => by simp [paired_len t]
section
variable {P : Program} {w : World} {A : Around} {E : Value → Shared → Prop} {s : Shared} {a : Addr} {L : List Str}
theorem rowS_elems {l : List (Int × Value)} (g : Paired (RowS w) l L) : ElemsOf (strKind P w) l := fun e he => by
  obtain ⟨k, _, tk, rfl⟩ := paired_mem g e he
  exact ⟨⟨k, strKind_is P w k tk, rfl⟩, rfl⟩
theorem rowS_is {e : Int × Value} {k j : Str} (g : RowS w e k) : (strKind P w).is j e.2 = true ↔ k = j := by
  obtain ⟨tk, rfl⟩ := g
  show ((k == j) = true) ↔ k = j
  exact beq_iff_eq
theorem rowS_mem {j : Str} : ∀ {l : List (Int × Value)} {L : List Str}, Paired (RowS w) l L → (j ∈ L ↔ ∃ e ∈ l, (strKind P w).is j e.2 = true)
  | _, _, .nil => by simp
  | _, _, .cons (a := e) (b := k) h t => by
    have ih := rowS_mem (j := j) t
    simp only [List.mem_cons, ih]
    constructor
    · rintro (q | ⟨x, h1, h2⟩)
      · exact ⟨e, .inl rfl, (rowS_is h).mpr q.symm⟩
      · exact ⟨x, .inr h1, h2⟩
    · rintro ⟨x, h1 | h1, h2⟩
      · subst h1; exact .inl ((rowS_is h).mp h2).symm
      · exact .inr ⟨x, h1, h2⟩
theorem setS_tail {gv : Bool → Sem Unit} (hgv : ∀ (b : Bool) (s₁ : Shared) (Q' : Unit → Shared → Prop), Q' () s₁ → wpAny (model P w) A (gv b) Q' E s₁)
    {ob : Obj} {rows : Array (Int × Value)} {en : Nat} {tb : SetTable} (hob : s.heap.get? a = some ob) (hxs : ob.ExactSet) (hdt : ob.data = .set rows en tb)
    {rows1 : Array (Int × Value)} {tb2 : SetTable} {L1 : List Str} (g1 : Paired (RowS w) rows1.toList L1) (nd1 : L1.Nodup) (hsc : rows1.size < scanBound) (hft : tb2.fits rows1.size = true) (hri : Ris tb2.place.toList) (hld : w.params.followText "set-order" = true ∨ tb2.led = true) {dum : Bool} {R : Option Bool → Shared → Prop}
    (hR : ∀ h' L2, Heap.SameBut a s.heap h' → L2.Perm L1 → SetS w h' a L2 → R (some true) { s with heap := h' }) :
    wpAny (model P w) A (do
        storeSet a rows1 tb2
        if (!dum && tb2.tooFull) = true then do
            gv (relayAll tb2 rows1 (SetTable.grown rows1.size)).2.2
            storeSet a (relayAll tb2 rows1 (SetTable.grown rows1.size)).1 (relayAll tb2 rows1 (SetTable.grown rows1.size)).2.1
            pure (some true)
          else pure (some true)) R E s := by
  refine wpAny_bind (wpAny_storeSet_of hob hdt ?_ (fits_of_scanBound hsc))
  have at1 := store_at (es' := rows1) (t' := tb2) hob hdt
  have but1 := Heap.SameBut.update s.heap a (Obj.putSet rows1 tb2)
  split
  · have pm := relayAll_perm tb2 rows1 (SetTable.grown rows1.size)
    have f3 := relayAll_fits tb2 rows1 (SetTable.grown rows1.size)
    have r3 := relayAll_ris tb2 rows1 (SetTable.grown rows1.size)
    have l3 := relayAll_led tb2 rows1 (SetTable.grown rows1.size)
    generalize relayAll tb2 rows1 (SetTable.grown rows1.size) = Z at pm f3 r3 l3 ⊢
    obtain ⟨rows2, tb3, gave⟩ := Z
    dsimp only at pm f3 r3 l3 ⊢
    have sz2 : rows2.size = rows1.size := by rw [← Array.length_toList, pm.length_eq, Array.length_toList]
    have sc2 : rows2.size < scanBound := by rw [sz2]; exact hsc
    refine wpAny_bind (hgv _ _ _ (wpAny_bind (wpAny_storeSet_of at1 rfl ?_ (fits_of_scanBound sc2))))
    have at2 := store_at (es' := rows2) (t' := tb3) at1 rfl
    obtain ⟨L2, g2, p2⟩ := paired_perm pm g1
    exact wpAny_pure (hR _ L2 (but1.trans (Heap.SameBut.update _ a _)) p2 ⟨_, rows2, _, tb3, at2, hxs, rfl, g2, p2.nodup_iff.mpr nd1, sc2, f3, r3, hld.imp id fun z => by rw [l3]; exact z⟩)
  · exact wpAny_pure (hR _ L1 but1 (List.Perm.refl _) ⟨_, rows1, _, tb2, at1, hxs, rfl, g1, nd1, hsc, hft, hri, hld⟩)
theorem setS_add {k : Str} {tk : Tok} {Q : Bool → Shared → Prop} (R : SetS w s.heap a L) (room : L.length + 1 < scanBound)
    (hQ : ∀ b h' L', Heap.SameBut a s.heap h' → SetS w h' a L' → (∀ j, j ∈ L' ↔ j ∈ L ∨ j = k) → L'.length ≤ L.length + 1 → Q b { s with heap := h' }) :
    wpAny (model P w) A (setAddHashed a (.str k tk) ((strKind P w).hash k)) Q E s := by
  obtain ⟨ob, rows, en, tb, hob, hxs, hdt, g, nd, hsc, hft, hri, hld⟩ := R
  have hkey : (strKind P w).is k (.str k tk) = true := strKind_is P w k tk
  have hcan : (Value.str k tk).scannable = true := rfl
  have hel : ElemsOf (strKind P w) rows.toList := rowS_elems g
  have hlen : rows.size = L.length := by rw [← Array.length_toList]; exact paired_len g
  unfold setAddHashed setAddHashedIn
  refine wpAny_holding (wpAny_bind (wpAny_setState_of hob hdt hft ?_))
  dsimp only
  rw [byScan_of hcan hsc hel]
  simp only [↓reduceIte]
  unfold setAddByScan
  refine wpAny_bind (wpAny_bind (wpAny_rule (wpAny_bind (wpAny_setScan_of hkey hob hdt hft hel ?_))))
  cases hfi : List.findIdx? (fun e => (strKind P w).is k e.2) rows.toList with
  | some j =>
    dsimp only
    obtain ⟨hj, pj, _⟩ := List.findIdx?_eq_some_iff_getElem.mp hfi
    have hk : k ∈ L := (rowS_mem (P := P) g).mpr ⟨rows.toList[j], List.getElem_mem hj, pj⟩
    refine wpAny_pure (wpAny_pure (hQ _ s.heap L (Heap.SameBut.refl a s.heap) ⟨ob, rows, en, tb, hob, hxs, hdt, g, nd, hsc, hft, hri, hld⟩ (fun i => ⟨.inl, fun q => q.elim id fun e => e ▸ hk⟩) (Nat.le_succ _)))
  | none =>
    dsimp only
    have hnk : k ∉ L := fun z => by
      obtain ⟨e, he, q⟩ := (rowS_mem (P := P) g).mp z
      rw [List.findIdx?_eq_none_iff.mp hfi e he] at q
      cases q
    have quiet : ∀ (b : Bool) {s₁ : Shared} {Q' : Unit → Shared → Prop}, Q' () s₁ → wpAny (model P w) A (match b with | true => rule "set.scan.the-table-gave-way" | false => pure ()) Q' E s₁ := fun b s₁ Q' q => by
      cases b <;> first | exact wpAny_pure q | exact wpAny_rule q
    have pm := layNew_perm tb rows ((strKind P w).hash k) (.str k tk)
    have f1 := layNew_fits tb rows ((strKind P w).hash k) (.str k tk)
    have r1 := layNew_ris tb rows ((strKind P w).hash k) (.str k tk) hri
    have l1 := layNew_led tb rows ((strKind P w).hash k) (.str k tk)
    generalize layNew tb rows ((strKind P w).hash k) (.str k tk) = Z at pm f1 r1 l1 ⊢
    obtain ⟨rows1, tb1, dum, gave⟩ := Z
    dsimp only at pm f1 r1 l1 ⊢
    rw [Array.toList_push] at pm
    have pc : rows1.toList.Perm (((strKind P w).hash k, Value.str k tk) :: rows.toList) := pm.trans (List.perm_append_singleton _ _)
    obtain ⟨L1, g1, pL⟩ := paired_perm pc (.cons (b := k) (⟨tk, rfl⟩ : RowS w ((strKind P w).hash k, Value.str k tk) k) g)
    have nd1 : L1.Nodup := pL.nodup_iff.mpr (List.nodup_cons.mpr ⟨hnk, nd⟩)
    have sz1 : rows1.size = L.length + 1 := by rw [← Array.length_toList, pc.length_eq, List.length_cons, Array.length_toList, hlen]
    have sc1 : rows1.size < scanBound := by rw [sz1]; exact room
    have ld1 : w.params.followText "set-order" = true ∨ tb1.led = true := hld.imp id fun z => by rw [l1]; exact z
    have fin : ∀ h' L2, Heap.SameBut a s.heap h' → L2.Perm L1 → SetS w h' a L2 → Q true { s with heap := h' } := fun h' L2 sb p2 r => by
      refine hQ true h' L2 sb r (fun j => ?_) ?_
      · rw [p2.mem_iff, pL.mem_iff, List.mem_cons]
        exact Or.comm
      · rw [p2.length_eq, pL.length_eq]
        exact Nat.le_refl _
    refine wpAny_bind (quiet _ ?_)
    split
    · refine wpAny_bind ?_
      rw [hashByValue_scannable 8 hcan]
      refine wpAny_pure (setS_tail ?_ hob hxs hdt g1 nd1 sc1 ?_ ?_ ?_ ?_)
      · intro b s₁ Q' q; cases b <;> first | exact wpAny_pure q | exact wpAny_rule q
      · first | (split <;> first | exact f1 | exact SetTable.fits_plain_off f1) | exact f1
      · first | (split <;> exact r1) | exact r1
      · first | (split <;> exact ld1) | exact ld1
      · intro h' L2 sb p2 r; dsimp only; exact wpAny_pure (fin h' L2 sb p2 r)
    · refine wpAny_bind (wpAny_pure ?_)
      simp only [↓reduceIte]
      refine setS_tail ?_ hob hxs hdt g1 nd1 sc1 f1 r1 ld1 ?_
      · intro b s₁ Q' q; cases b <;> first | exact wpAny_pure q | exact wpAny_rule q
      · intro h' L2 sb p2 r; dsimp only; exact wpAny_pure (fin h' L2 sb p2 r)
end
/-- the texts that were met up to i -/
def GotS (xs : List Str) (i : Nat) (L : List Str) : Prop := (∀ j, j ∈ L ↔ j ∈ xs.take i) ∧ L.length ≤ i
theorem SetS.at {w : World} {h h' : Heap} {a : Addr} {L : List Str} (R : SetS w h a L) (k : ∀ o, h.get? a = some o → h'.get? a = some o) : SetS w h' a L := by
  obtain ⟨ob, rows, en, tb, hob, rest⟩ := R
  exact ⟨ob, rows, en, tb, k ob hob, rest⟩
section
variable {prog : Program} {w : World} {A : Around} {R : Result → Shared → Prop} {I : Addr} {fp wr : List Addr} {G : Array GenState → Array GenState → Prop} {n : Nat} {Pv : Nat → Value → Prop} {St : Nat → Shared → Prop}
theorem loopTx (W : WalksS prog w A.in1 I fp wr G n Pv St) (S : Addr) (hSf : S ∉ fp) (xs : List Str) (hsz : xs.length = n) (hfew : n < 1000) (hval : ∀ i v, Pv i v → ∃ t, v = .str (xs.getD i Str.empty) t) :
    ∀ (k i : Nat) (s : Shared), n - i = k → i ≤ n → St i s → (∃ L, SetS w s.heap S L ∧ GotS xs i L) →
      (∀ s' L, Moved (S :: wr) G s s' → SetS w s'.heap S L → GotS xs n L → R (.ok (.ret .none)) s') →
      codeAny (model prog w) A (.builtin "set.update.loop" ⟨[.ref S, .ref I], []⟩) R s := by
  have notW : S ∉ wr := fun h => hSf (W.sub _ h)
  have inW' : ∀ b ∈ wr, b ∈ S :: wr := fun b hb => List.mem_cons_of_mem _ hb
  intro k
  induction k with
  | zero =>
    intro i s hk hi hst ⟨L, hL, hg⟩ hR
    have ein : i = n := by omega
    subst ein
    refine codeAny_builtin PyProof.Rows.F.entry_set_update_loop ?_
    rw [Around.under_plainId PyProof.Rows.F.plain_set_update_loop _]
    show wpAny _ A.in1 (pyNext (.ref I) >>= _) _ _ s
    refine wpAny_bind (W.done s _ _ hst fun s' hm => ?_)
    show wpAny _ A.in1 (ret Value.none) _ _ s'
    exact wpAny_pure (hR s' L (hm.mono inW') (hL.at fun o e => hm.heap S o notW e) hg)
  | succ k ih =>
    intro i s hk hi hst ⟨L, hL, hg⟩ hR
    have hlt : i < n := by omega
    refine codeAny_builtin PyProof.Rows.F.entry_set_update_loop ?_
    rw [Around.under_plainId PyProof.Rows.F.plain_set_update_loop _]
    show wpAny _ A.in1 (pyNext (.ref I) >>= _) _ _ s
    refine wpAny_bind (W.item i s _ _ hlt hst fun v s' hP hst' hm => ?_)
    obtain ⟨t, rfl⟩ := hval i v hP
    have hL' : SetS w s'.heap S L := hL.at fun o e => hm.heap S o notW e
    show wpAny _ A.in1 (holding [Value.str (xs.getD i Str.empty) t] (setAdd S (.str (xs.getD i Str.empty) t)) >>= _) _ _ s'
    refine wpAny_bind (wpAny_holding ?_)
    unfold setAdd
    refine wpAny_holding ?_
    refine wpAny_bind ((PySem.strKind prog w).pyHash (k := xs.getD i Str.empty) (strKind_is _ _ _ _) ?_)
    refine setS_add (P := prog) (s := { s' with toks := s'.toks + 1 }) hL' (by have := hg.2; unfold scanBound; omega) fun b g' L' sb hS' hmem hle => ?_
    have hg' : GotS xs (i + 1) L' := by
      have hx : xs[i]? = some (xs.getD i Str.empty) := by
        rw [List.getD_eq_getElem?_getD, List.getElem?_eq_getElem (by omega)]
        rfl
      refine ⟨fun j => ?_, by have := hg.2; omega⟩
      rw [hmem, hg.1, List.take_succ, hx]
      simp
    refine wpAny_pure ⟨plainId_quiet PyProof.Rows.F.plain_set_update_loop _, ih (i + 1) _ (by omega) hlt (W.frame _ s' _ _ hst' (Nat.le_succ _) fun b hb o e => ?_) ⟨L', hS', hg'⟩ fun s'' L2 hm'' hS'' hg'' => ?_⟩
    · rw [sb.2 b (fun z : b = S => hSf (z ▸ hb))]; exact e
    · refine hR s'' L2 (Moved.trans W.gtrans ((hm.mono inW').then_heap (Nat.le_succ _) fun b o hb e => ?_) hm'') hS'' hg''
      rw [sb.2 b (fun z : b = S => hb (by rw [z]; exact List.mem_cons_self))]; exact e
end
end Mi
/-! MiTxc: set(list or tuple of texts). -/
namespace Mi
open PySem L2 PySem.Spec PyProof.Rows
theorem strsAre_len : ∀ {us : List Value} {xs : List Str}, StrsAre us xs → us.length = xs.length
  | _, _, .nil => rfl
  | _, _, .cons _ _ r => by simp [strsAre_len r]
abbrev nwS (w : World) : Obj := { cls := .type "set", dict := none, data := .set #[] 0 (.fresh 0 0 (!w.params.followText "set-order")) }
section
variable {P : Program} {w : World} {A : Around} {E : Value → Shared → Prop} {s : Shared}
theorem setS_new {h : Heap} {a : Addr} (g : h.get? a = some (nwS w)) : SetS w h a [] := by
  refine ⟨_, #[], 0, _, g, ⟨rfl, rfl, rfl⟩, rfl, .nil, List.nodup_nil, by decide, ?_, ?_, ?_⟩
  · rfl
  · exact List.Pairwise.nil
  · cases w.params.followText "set-order" <;> simp [SetTable.fresh]
theorem nz1 {l n m : Nat} (h : l < n) (e : m = n + 1) : l ≠ m := by omega
theorem nz2 {n m : Nat} (e : m = n + 1) (q : n = m) : False := by omega
theorem nz3 {l n : Nat} (h : l < n) (q : n = l) : False := by omega
set_option maxHeartbeats 3200000
theorem call_set_listX {l : Addr} {vs : Array Value} (xs : List Str) {Q : Value → Shared → Prop}
    (hh : A.handled = none) (hl : s.heap.IsList l vs) (hv : StrsAre vs.toList xs) (hfew : vs.size < 1000)
    (h : ∀ h' tk L, SetS w h' s.heap.objs.size L → GotS xs vs.size L →
      (∀ b o, s.heap.get? b = some o → h'.get? b = some o) → Q (.ref s.heap.objs.size) { s with heap := h', toks := tk }) :
    wpAny (model P w) A (call (.type "set") [.ref l]) Q E s := by
  have hxs : xs.length = vs.size := (strsAre_len hv).symm.trans Array.length_toList
  have B := PySem.F.called_set
  obtain ⟨cc, tt, hmro⟩ := B.mro
  have hmade := B.made
  have hsub := B.sub
  have hli := B.init.lookup
  have hbi := B.init.bind (.ref s.heap.objs.size)
  have hp1 := B.notType
  have hp2 := B.canCreate
  have hct := PySem.F.typeCall_set_1 (.ref l)
  have top : ∀ o, s.heap.get? l = some o → l < s.heap.objs.size := fun o e => Heap.lt_size e
  refine wpAny_call (codeAny_of_tree ?_)
  show wpAny _ _ (callAny (.type "set") _) _ _ _
  refine wpAny_pure ⟨Code.quiet_builtin _ (by decide +kernel), codeAny_builtin PySem.F.entry_type_call ?_⟩
  rw [Around.under_plain (weight_type_call_type "set" [.ref l] []) rfl]
  repeat (any_goals (first | assumption | wp_step))
  refine codeAny_mono (code_set_led1 (.ref l) (E := E) (Q₁ := fun ob z => ob = .ref s.heap.objs.size ∧ z = { s with heap := s.heap.push (nwS w) }) ⟨rfl, rfl⟩) fun r z hr => ?_
  match r, hr with
  | .error _, hr => exact hr
  | .ok .next, hr => exact hr.elim
  | .ok .brk, hr => exact hr.elim
  | .ok .cont, hr => exact hr.elim
  | .ok (.ret _), hr =>
    obtain ⟨rfl, rfl⟩ := hr
    have g0 : (s.heap.push (nwS w)).get? s.heap.objs.size = some (nwS w) := Heap.get?_push_size _ rfl
    have ty : Shared.TypeIs { s with heap := s.heap.push (nwS w) } (.ref s.heap.objs.size) "set" := ⟨_, g0, rfl⟩
    repeat (any_goals (first | assumption | wp_step))
    refine codeAny_mono (codeAny_call_builtin (R := wants (fun r z => r = .none ∧ ∃ h' tk L, z = { s with heap := h', toks := tk } ∧ SetS w h' s.heap.objs.size L ∧ GotS xs vs.size L ∧
      (∀ b o, s.heap.get? b = some o → h'.get? b = some o)) E) B.init.plain PySem.F.entry_set_init (check_set_init_1 ty ?_)) fun r2 z2 hr2 => ?_
    · obtain ⟨⟨k1, k2, k3, k4⟩, hol, hcl, nl, hdl⟩ := hl
      have lS := top _ hol
      simp only at hcl hdl
      cases hcl; cases hdl
      have hol' : (s.heap.push (nwS w)).get? l = some ⟨.type "list", k2, .seq vs nl, k4⟩ := Heap.get?_push_of_some _ hol
      have is1 : (s.heap.push (nwS w)).IsList l vs := ⟨_, hol', rfl, nl, rfl⟩
      have sb1 := PySem.F.sub_list_set
      have sb2 := PySem.F.sub_list_frozenset
      have nd : (Value.type "list" == Value.type "dict") = false := by decide
      unfold Builtin.«set.__init__» noKeywords Builtin.Frozenset.updateFrom
      generalize gP : pyIter = PI
      wp_walk
      subst gP
      refine wpAny_pyIter_list is1 ?_
      refine wpAny_bind (wpAny_runValue ?_)
      have h3 : A.in1.in1.in1.handled = none := by simp [hh]
      have zz : (s.heap.push (nwS w)).objs.size = s.heap.objs.size + 1 := Heap.size_push ..
      have lI : l ≠ (s.heap.push (nwS w)).objs.size := nz1 lS zz
      have nin : s.heap.objs.size ∉ [(s.heap.push (nwS w)).objs.size, l] := fun m => by
        rcases List.mem_cons.mp m with e | m
        · exact nz2 zz e
        · exact nz3 lS (List.mem_singleton.mp m)
      have iv : ∀ (i : Nat) (v : Value), vs[i]? = some v → ∃ t, v = .str (xs.getD i Str.empty) t := fun i v e => SS.strs_at hv i v (by rw [Array.getElem?_toList]; exact e)
      have emp : SetS w ((s.heap.push (nwS w)).push { cls := .type "list_iterator", data := .fields #[.ref l, .int 0 0] }) s.heap.objs.size [] :=
        setS_new (Heap.get?_push_of_some _ g0)
      refine loopTx ((Walks.list h3 _ l lI vs).toS) s.heap.objs.size nin xs hxs hfew iv (vs.size - 0) 0 _ (by omega) (Nat.zero_le _)
        ⟨⟨_, Heap.get?_push_size _ rfl, rfl, rfl⟩, (is1.push _)⟩ ⟨[], emp, fun j => (by simp), Nat.zero_le _⟩ ?_
      intro z' L mv hS hg
      obtain ⟨h1, g1, d1, t1, o1⟩ := z'
      have e1 : g1 = s.gens := mv.gens
      have e2 : d1 = s.drawn := mv.drawn
      have e3 : o1 = s.os := mv.os
      cases e1; cases e2; cases e3
      show wpAny _ _ _ _ _ _
      refine wpAny_pure ?_
      show wpAny _ _ (ret Value.none) _ _ _
      refine wpAny_pure ⟨rfl, h1, t1, L, rfl, hS, hg, fun b o e => mv.heap b o (fun m => ?_) (Heap.get?_push_of_some _ (Heap.get?_push_of_some _ e))⟩
      have bl := Heap.lt_size e
      rcases List.mem_cons.mp m with m | m
      · exact nz3 bl m.symm
      · exact nz1 bl zz (List.mem_singleton.mp m)
    · match r2, hr2 with
      | .error _, q => exact q
      | .ok .next, q => exact q.elim
      | .ok .brk, q => exact q.elim
      | .ok .cont, q => exact q.elim
      | .ok (.ret _), q =>
        obtain ⟨rfl, h1, t1, L, rfl, hS, hg, kp⟩ := q
        repeat (any_goals (first | assumption | wp_step))
        exact h _ _ _ hS hg kp
theorem call_set_tupleX {l : Addr} {vs : Array Value} (xs : List Str) {Q : Value → Shared → Prop}
    (hh : A.handled = none) (hl : s.heap.IsTuple l vs) (hv : StrsAre vs.toList xs) (hfew : vs.size < 1000)
    (h : ∀ h' tk L, SetS w h' s.heap.objs.size L → GotS xs vs.size L →
      (∀ b o, s.heap.get? b = some o → h'.get? b = some o) → Q (.ref s.heap.objs.size) { s with heap := h', toks := tk }) :
    wpAny (model P w) A (call (.type "set") [.ref l]) Q E s := by
  have hxs : xs.length = vs.size := (strsAre_len hv).symm.trans Array.length_toList
  have B := PySem.F.called_set
  obtain ⟨cc, tt, hmro⟩ := B.mro
  have hmade := B.made
  have hsub := B.sub
  have hli := B.init.lookup
  have hbi := B.init.bind (.ref s.heap.objs.size)
  have hp1 := B.notType
  have hp2 := B.canCreate
  have hct := PySem.F.typeCall_set_1 (.ref l)
  have top : ∀ o, s.heap.get? l = some o → l < s.heap.objs.size := fun o e => Heap.lt_size e
  refine wpAny_call (codeAny_of_tree ?_)
  show wpAny _ _ (callAny (.type "set") _) _ _ _
  refine wpAny_pure ⟨Code.quiet_builtin _ (by decide +kernel), codeAny_builtin PySem.F.entry_type_call ?_⟩
  rw [Around.under_plain (weight_type_call_type "set" [.ref l] []) rfl]
  repeat (any_goals (first | assumption | wp_step))
  refine codeAny_mono (code_set_led1 (.ref l) (E := E) (Q₁ := fun ob z => ob = .ref s.heap.objs.size ∧ z = { s with heap := s.heap.push (nwS w) }) ⟨rfl, rfl⟩) fun r z hr => ?_
  match r, hr with
  | .error _, hr => exact hr
  | .ok .next, hr => exact hr.elim
  | .ok .brk, hr => exact hr.elim
  | .ok .cont, hr => exact hr.elim
  | .ok (.ret _), hr =>
    obtain ⟨rfl, rfl⟩ := hr
    have g0 : (s.heap.push (nwS w)).get? s.heap.objs.size = some (nwS w) := Heap.get?_push_size _ rfl
    have ty : Shared.TypeIs { s with heap := s.heap.push (nwS w) } (.ref s.heap.objs.size) "set" := ⟨_, g0, rfl⟩
    repeat (any_goals (first | assumption | wp_step))
    refine codeAny_mono (codeAny_call_builtin (R := wants (fun r z => r = .none ∧ ∃ h' tk L, z = { s with heap := h', toks := tk } ∧ SetS w h' s.heap.objs.size L ∧ GotS xs vs.size L ∧
      (∀ b o, s.heap.get? b = some o → h'.get? b = some o)) E) B.init.plain PySem.F.entry_set_init (check_set_init_1 ty ?_)) fun r2 z2 hr2 => ?_
    · obtain ⟨⟨k1, k2, k3, k4⟩, hol, hcl, nl, hdl⟩ := hl
      have lS := top _ hol
      simp only at hcl hdl
      cases hcl; cases hdl
      have hol' : (s.heap.push (nwS w)).get? l = some ⟨.type "tuple", k2, .seq vs nl, k4⟩ := Heap.get?_push_of_some _ hol
      have is1 : (s.heap.push (nwS w)).IsTuple l vs := ⟨_, hol', rfl, nl, rfl⟩
      have sb1 := PySem.F.sub_tuple_set
      have sb2 := PySem.F.sub_tuple_frozenset
      have nd : (Value.type "tuple" == Value.type "dict") = false := by decide
      unfold Builtin.«set.__init__» noKeywords Builtin.Frozenset.updateFrom
      generalize gP : pyIter = PI
      wp_walk
      subst gP
      refine wpAny_pyIter_tuple is1 ?_
      refine wpAny_bind (wpAny_runValue ?_)
      have h3 : A.in1.in1.in1.handled = none := by simp [hh]
      have zz : (s.heap.push (nwS w)).objs.size = s.heap.objs.size + 1 := Heap.size_push ..
      have lI : l ≠ (s.heap.push (nwS w)).objs.size := nz1 lS zz
      have nin : s.heap.objs.size ∉ [(s.heap.push (nwS w)).objs.size, l] := fun m => by
        rcases List.mem_cons.mp m with e | m
        · exact nz2 zz e
        · exact nz3 lS (List.mem_singleton.mp m)
      have iv : ∀ (i : Nat) (v : Value), vs[i]? = some v → ∃ t, v = .str (xs.getD i Str.empty) t := fun i v e => SS.strs_at hv i v (by rw [Array.getElem?_toList]; exact e)
      have emp : SetS w ((s.heap.push (nwS w)).push { cls := .type "tuple_iterator", data := .fields #[.ref l, .int 0 0] }) s.heap.objs.size [] :=
        setS_new (Heap.get?_push_of_some _ g0)
      refine loopTx ((Walks.tuple h3 _ l lI vs).toS) s.heap.objs.size nin xs hxs hfew iv (vs.size - 0) 0 _ (by omega) (Nat.zero_le _)
        ⟨⟨_, Heap.get?_push_size _ rfl, rfl, rfl⟩, (is1.push _)⟩ ⟨[], emp, fun j => (by simp), Nat.zero_le _⟩ ?_
      intro z' L mv hS hg
      obtain ⟨h1, g1, d1, t1, o1⟩ := z'
      have e1 : g1 = s.gens := mv.gens
      have e2 : d1 = s.drawn := mv.drawn
      have e3 : o1 = s.os := mv.os
      cases e1; cases e2; cases e3
      show wpAny _ _ _ _ _ _
      refine wpAny_pure ?_
      show wpAny _ _ (ret Value.none) _ _ _
      refine wpAny_pure ⟨rfl, h1, t1, L, rfl, hS, hg, fun b o e => mv.heap b o (fun m => ?_) (Heap.get?_push_of_some _ (Heap.get?_push_of_some _ e))⟩
      have bl := Heap.lt_size e
      rcases List.mem_cons.mp m with m | m
      · exact nz3 bl m.symm
      · exact nz1 bl zz (List.mem_singleton.mp m)
    · match r2, hr2 with
      | .error _, q => exact q
      | .ok .next, q => exact q.elim
      | .ok .brk, q => exact q.elim
      | .ok .cont, q => exact q.elim
      | .ok (.ret _), q =>
        obtain ⟨rfl, h1, t1, L, rfl, hS, hg, kp⟩ := q
        repeat (any_goals (first | assumption | wp_step))
        exact h _ _ _ hS hg kp
end
end Mi
/-! MiTxd: sorted(set of texts). -/
namespace Mi
open PySem L2 PySem.Spec PyProof.Rows
theorem rows_vals {w : World} : ∀ {l : List (Int × Value)} {L : List Str}, Paired (RowS w) l L → StrsAre (l.map (·.2)) L
  | _, _, .nil => .nil
  | _, _, .cons (b := k) ⟨t, e⟩ r => by
    subst e
    exact .cons k t (rows_vals r)
theorem strsAre_perm {us us' : List Value} (p : us'.Perm us) : ∀ {L : List Str}, StrsAre us L → ∃ L', StrsAre us' L' ∧ L'.Perm L := by
  induction p with
  | nil => intro L h; exact ⟨L, h, .refl _⟩
  | cons x p ih =>
    intro L h
    cases h with
    | cons n t h =>
      obtain ⟨m', h1, h2⟩ := ih h
      exact ⟨_ :: m', .cons n t h1, h2.cons _⟩
  | swap x y l =>
    intro L h
    cases h with
    | cons n t h =>
      cases h with
      | cons n' t' h => exact ⟨_, .cons n' t' (.cons n t h), List.Perm.swap _ _ _⟩
  | trans p q ih1 ih2 =>
    intro L h
    obtain ⟨m1, h1, h2⟩ := ih2 h
    obtain ⟨m2, h3, h4⟩ := ih1 h1
    exact ⟨m2, h3, h4.trans h2⟩
section
variable {P : Program} {w : World} {A : Around} {E : Value → Shared → Prop} {s : Shared} {a : Addr} {L : List Str}
theorem sorted_setX {Q : Value → Shared → Prop} (R : SetS w s.heap a L) (hh : A.handled = none) (hfew : L.length ≤ 1000)
    (hQ : ∀ z p (out : Array Value) c ys, (∀ b o, s.heap.get? b = some o → z.heap.get? b = some o) → z.gens = s.gens → z.os = s.os → s.heap.objs.size ≤ p →
      z.heap.get? p = some (seqObj "list" out c) → StrsAre out.toList ys → ys.Perm L → sortedS ys = true → Q (.ref p) z) :
    wpAny (model P w) A (call (.builtin "sorted") [.ref a]) Q E s := by
  obtain ⟨ob, rows, en, tb, hob, hxs, hdt, g, nd, hsc, hft, hri, hld⟩ := R
  refine Calls.call_function_entry kind_sorted plain_sorted entry_sorted (args_sorted1 _) ?_
  unfold Builtin.«sorted»
  refine wpAny_bind (m := checkCount "sorted" 1 1 _) (wpAny_pure (wpAny_bind (collect_set (A := A.in1) hh ⟨ob, hob, hxs.1, hdt⟩ hft hsc hri hld fun z vs kp le eg eo pm => ?_)))
  obtain ⟨L1, hS, p1⟩ := strsAre_perm pm (rows_vals g)
  have vl : vs.length ≤ sizeLine := by
    rw [strsAre_len hS, p1.length_eq, sizeLine_eq]; omega
  refine wpAny_bind (wpAny_newList ?_ vl)
  have gL : (z.heap.push (seqObj "list" vs.toArray 0)).get? z.heap.objs.size = some (seqObj "list" vs.toArray 0) := Heap.get?_push_size _ rfl
  refine wpAny_bind (wpAny_holding (wpAny_call_entry slot_list_sort ⟨_, gL, rfl⟩ entry_list_sort
    (list_sort_treeKAny strKind_oneLt gL hS.keysOf (fun v₁ v₂ rest e => keyKind_strs (by rw [← e]; exact hS)) vl fun st hp hs => ⟨_, rfl, ?_⟩) (args_list_sort _)))
  obtain ⟨ys, h1, h2, h3⟩ := sorted_out_str hS hp hs
  obtain ⟨c, hc⟩ := sortedHeap_at (vs := vs) (out := (arrOf st).map (·.2)) gL
  refine wpAny_pure ⟨_, rfl, hQ _ z.heap.objs.size _ c ys (fun b u e => ?_) eg eo le hc h1 (h2.trans p1) h3⟩
  have q := kp b u e
  have lt := Heap.lt_size q
  show (sortedHeap (z.heap.push (seqObj "list" vs.toArray 0)) z.heap.objs.size vs ((arrOf st).map (·.2))).get? b = some u
  rw [sortedHeap_old (Nat.ne_of_lt lt) (by rw [size_push']; exact Nat.lt_succ_of_lt lt)]
  exact Heap.get?_push_of_some _ q
end
end Mi
/-! MiTxe: len(set(xs)), sorted(set(xs)) of texts, as expressions. -/
namespace Mi
open PySem L2 PySem.Spec PyProof.Rows
section
variable {X : Cx}
/-- the texts xs are told by a list or a tuple at p -/
def TxAt (K : PySem.W.Frag) (H : Hp) (v : V) (xs : List Str) : Prop := ∃ p, v = .ref p ∧ (SqL K H p (xs.map V.str) ∨ SqT K H p (xs.map V.str)) ∧ xs.length < 1000
/-- the distinct texts of xs -/
def DistS (xs ys : List Str) : Prop := ys.Nodup ∧ (∀ j, j ∈ ys ↔ j ∈ xs) ∧ ys.length ≤ xs.length
theorem dist_got {w : World} {h : Heap} {a : Addr} {xs L : List Str} {n : Nat} (S : SetS w h a L) (g : GotS xs n L) (e : n = xs.length) : DistS xs L := by
  obtain ⟨ob, rows, en, tb, hob, hxs, hdt, p, nd, rest⟩ := S
  subst e
  exact ⟨nd, fun j => by rw [g.1 j, List.take_length], g.2⟩
theorem mk_setX {pins : List (Addr × Obj)} {σ : L2.St} {H : Hp} {s : Shared} {v : V} {u : Value} {xs : List Str} {Q : Value → Shared → Prop} (hc : X.calm = true) (I : Inv X pins σ H s) (r : RelV v u) (t : TxAt X.K H v xs)
    (h : ∀ h' tk L, SetS X.w h' s.heap.objs.size L → DistS xs L → Inv X pins σ H { s with heap := h', toks := tk } → (∀ b o, s.heap.get? b = some o → h'.get? b = some o) → Q (.ref s.heap.objs.size) { s with heap := h', toks := tk }) :
    wpAny (model X.prog X.w) X.A (call (.type "set") [u]) Q X.xe s := by
  obtain ⟨p, rfl, hq, h1⟩ := t
  cases r
  rcases hq with hq | hq
  · obtain ⟨its, r, pl, hz⟩ := I.list hq
    have sz : its.toArray.size = xs.length := by rw [List.size_toArray, ← r.length, List.length_map]
    exact call_set_listX xs (I.ok.hd hc) pl.isList (by simpa using strsAre_of r) (by rw [sz]; exact h1) fun h' tk L S g k => h h' tk L S (dist_got S g sz) (I.kept (t' := tk) fun b o e => k b o e) k
  · obtain ⟨its, r, pl, hz⟩ := I.tuple hq
    have sz : its.toArray.size = xs.length := by rw [List.size_toArray, ← r.length, List.length_map]
    exact call_set_tupleX xs (I.ok.hd hc) pl (by simpa using strsAre_of r) (by rw [sz]; exact h1) fun h' tk L S g k => h h' tk L S (dist_got S g sz) (I.kept (t' := tk) fun b o e => k b o e) k
def tLenSetX (K : PySem.W.Frag) (ta : TE) : TE := fun σ H Q => ta σ H fun x H1 => ∃ xs, TxAt K H1 x xs ∧ ∀ ys, DistS xs ys → Q (.int ys.length) H1
def tSortSetX (K : PySem.W.Frag) (ta : TE) : TE := fun σ H Q => ta σ H fun x H1 => ∃ xs, TxAt K H1 x xs ∧ ∀ ys p, DistS xs ys → sortedS ys = true → H1 p = none → Q (.ref p) (upd H1 p (.lst (ys.map V.str)))
theorem pe_lenSetX {a : Expr} {ta : TE} {p p2 q pos : Pos} (hc : X.calm = true) (hm : X.mg "len" = none) (hm2 : X.mg "set" = none) (ha : PE X a ta) (hg : Gl X "len" := by rfl) (hg2 : Gl X "set" := by rfl)
    (na : starEach [a] X.env = (false, eval a X.env) :: starEach [] X.env := by rfl) : PE X (.Call (.Name "len" p) [.Call (.Name "set" p2) [a] [] q] [] pos) (tLenSetX X.K ta) := by
  refine ⟨fun pins s σ H Q I h => Call_ (ld_blt I hg hm boot_len (PyProof.Rows.callWith_builtin1 (PyProof.Rows.args_cons ?_ rfl) rfl rfl))⟩
  refine Call_ (ld_blt I hg2 hm2 boot_set (PyProof.Rows.callWith_type1 (PyProof.Rows.args_cons (thn (ha.run pins s σ H _ I h) fun v s1 ⟨x, H1, I1, r1, xs, tx, k⟩ => PyProof.Rows.args_nil ?_) na) na rfl))
  refine mk_setX hc I1 r1 tx fun h' tk L S ds J kp => PyProof.Rows.args_nil ?_
  obtain ⟨ob, rows, en, tb, hob, hxs, hdt, g, nd, hsc, hft, _⟩ := S
  have e : rows.size = L.length := by rw [← Array.length_toList]; exact paired_len g
  exact call_len_set hob hxs hdt hft (by unfold scanBound at hsc; omega) ⟨.int L.length, H1, J.tok _, ⟨_, by rw [e]⟩, k L ds⟩
theorem pe_sortSetX {a : Expr} {ta : TE} {p p2 q pos : Pos} (hc : X.calm = true) (hm : X.mg "sorted" = none) (hm2 : X.mg "set" = none) (hv : bootBuiltins "sorted" = some (.builtin "sorted")) (ha : PE X a ta) (hg : Gl X "sorted" := by rfl) (hg2 : Gl X "set" := by rfl)
    (na : starEach [a] X.env = (false, eval a X.env) :: starEach [] X.env := by rfl) : PE X (.Call (.Name "sorted" p) [.Call (.Name "set" p2) [a] [] q] [] pos) (tSortSetX X.K ta) := by
  refine ⟨fun pins s σ H Q I h => Call_ (ld_blt I hg hm hv (PyProof.Rows.callWith_builtin1 (PyProof.Rows.args_cons ?_ rfl) rfl rfl))⟩
  refine Call_ (ld_blt I hg2 hm2 boot_set (PyProof.Rows.callWith_type1 (PyProof.Rows.args_cons (thn (ha.run pins s σ H _ I h) fun v s1 ⟨x, H1, I1, r1, xs, tx, k⟩ => PyProof.Rows.args_nil ?_) na) na rfl))
  refine mk_setX hc I1 r1 tx fun h' tk L S ds J kp => PyProof.Rows.args_nil ?_
  have few : xs.length < 1000 := by obtain ⟨_, _, _, z⟩ := tx; exact z
  refine sorted_setX S (J.ok.hd hc) (by have := ds.2.2; omega) fun z p out c ys kp2 eg eo hp hg hi pm sd => ?_
  have hlen : (ys.map V.str).length ≤ sizeLine := by rw [List.length_map, pm.length_eq, sizeLine_eq]; have := ds.2.2; omega
  have hn : H1 p = none := J.hok.fresh hp
  have dd : DistS xs ys := ⟨pm.nodup_iff.mpr ds.1, fun j => by rw [pm.mem_iff]; exact ds.2.1 j, by rw [pm.length_eq]; exact ds.2.2⟩
  have J2 : Inv X pins σ (upd H1 p (.lst (ys.map V.str))) { s1 with heap := z.heap, gens := z.gens, drawn := z.drawn, toks := z.toks } :=
    Inv.call (s := { s1 with heap := h', toks := tk }) J (ch := []) (Un.laid kp2 hp hn) (J.hok.laid kp2 hp ⟨hlen, out.toList, c, vals_of_strs hi, hg⟩) (by rw [eg]; exact J.bare) (fun _ z => nomatch z)
  have e : z = { s1 with heap := z.heap, gens := z.gens, drawn := z.drawn, toks := z.toks } := by
    obtain ⟨z1, z2, z3, z4, z5⟩ := z
    cases eo
    rfl
  rw [e]
  exact ⟨.ref p, _, J2, rfl, k ys p dd sd hn⟩
end
end Mi
/-! MiTxf: the mirrors of len(set(xs)), sorted(set(xs)) of texts. -/
namespace Mi
open PySem L2
def undup : List Str → List Str
  | [] => []
  | x :: l => if x ∈ undup l then undup l else x :: undup l
theorem undup_mem {j : Str} : ∀ l : List Str, j ∈ undup l ↔ j ∈ l
  | [] => Iff.rfl
  | x :: l => by
    have ih := undup_mem (j := j) l
    unfold undup
    split
    · rename_i h
      rw [ih, List.mem_cons]
      exact ⟨.inr, fun q => q.elim (fun e => by subst e; exact (undup_mem l).mp h) id⟩
    · rw [List.mem_cons, List.mem_cons, ih]
theorem undup_nodup : ∀ l : List Str, (undup l).Nodup
  | [] => List.nodup_nil
  | x :: l => by
    unfold undup
    split
    · exact undup_nodup l
    · rename_i h; exact List.nodup_cons.mpr ⟨h, undup_nodup l⟩
theorem undup_dist {xs ys : List Str} (h : DistS xs ys) : ys.Perm (undup xs) :=
  (List.perm_ext_iff_of_nodup h.1 (undup_nodup xs)).mpr fun j => by rw [h.2.1 j, undup_mem]
theorem undup_sort {xs ys : List Str} (h : DistS xs ys) (hs : PyProof.Rows.sortedS ys = true) : ys = isort strLt (undup xs) :=
  sd_uniq ((undup_dist h).trans (isort_perm _ _).symm) (sortedS_sd ys hs) (isort_sd (strLt_ord _)) fun x _ y _ a b => strLt_eq a b
def setTx (M : Sto) (w : W) : Option (List Str) := (vS M w).bind fun xs => (dStrs xs).bind fun ss => if ss.length < 1000 then some ss else none
def lenSetW (w : W) (M : Sto) : Option W := (setTx M w).map fun ss => .d (.int (undup ss).length)
def sortSetW (w : W) (M : Sto) : Option W := (setTx M w).map fun ss => .fr ((isort strLt (undup ss)).map .str)
section
variable {X : Cx} {C : Zs} {R : Rc} {lk : Lk} {am : List Addr} {F : Hp} {M : Sto} {H : Hp}
theorem setTx_ok {w : W} {v : V} {ss : List Str} (s : SR R lk am F M H) (r : RW R.K lk am F H v w) (h : setTx M w = some ss) : TxAt R.K H v ss := by
  unfold setTx at h
  obtain ⟨xs, h1, h⟩ := Option.bind_eq_some_iff.mp h
  obtain ⟨ys, h2, h⟩ := Option.bind_eq_some_iff.mp h
  split at h
  · rename_i hl
    cases h
    obtain ⟨a, us, rfl, hq, d⟩ := vS_ok s r h1
    have e := d.dStrs h2
    subst e
    exact ⟨a, rfl, sq_or hq, hl⟩
  · cases h
theorem e_lenSet {a : Expr} {g : G} {p p2 q pos : Pos} (hc : X.calm = true) (hm : X.mg "len" = none) (hm2 : X.mg "set" = none) (h : E X C a g) (hg : Gl X "len" := by rfl) (hg2 : Gl X "set" := by rfl)
    (na : starEach [a] X.env = (false, eval a X.env) :: starEach [] X.env := by rfl) : E X C (.Call (.Name "len" p) [.Call (.Name "set" p2) [a] [] q] [] pos) (gUn lenSetW g) := wkE (pe_lenSetX hc hm hm2 h hg hg2 na) fun σ H Q h => by
  obtain ⟨lk, am, F, M, δ, H0, w, M', re, sr, h, P⟩ := h
  unfold gUn at h
  simp only [Option.bind_eq_some_iff, Option.map_eq_some_iff, Prod.exists, Prod.mk.injEq] at h
  obtain ⟨a, M1, h1, z, h2, rfl, rfl⟩ := h
  refine ⟨lk, am, F, M, δ, H0, a, M1, re, sr, h1, fun v am1 F1 H1 g1 s1 r1 f1 => ?_⟩
  obtain ⟨ss, h3, rfl⟩ := Option.map_eq_some_iff.mp h2
  refine ⟨ss, setTx_ok s1 r1 h3, fun ys ds => ?_⟩
  rw [(undup_dist ds).length_eq]
  exact (P.gr g1).val s1 (.int _)
theorem e_sortSet {a : Expr} {g : G} {p p2 q pos : Pos} (hc : X.calm = true) (hm : X.mg "sorted" = none) (hm2 : X.mg "set" = none) (hv : bootBuiltins "sorted" = some (.builtin "sorted")) (h : E X C a g) (hg : Gl X "sorted" := by rfl) (hg2 : Gl X "set" := by rfl)
    (na : starEach [a] X.env = (false, eval a X.env) :: starEach [] X.env := by rfl) : E X C (.Call (.Name "sorted" p) [.Call (.Name "set" p2) [a] [] q] [] pos) (gUn sortSetW g) := wkE (pe_sortSetX hc hm hm2 hv h hg hg2 na) fun σ H Q h => by
  obtain ⟨lk, am, F, M, δ, H0, w, M', re, sr, h, P⟩ := h
  unfold gUn at h
  simp only [Option.bind_eq_some_iff, Option.map_eq_some_iff, Prod.exists, Prod.mk.injEq] at h
  obtain ⟨a, M1, h1, z, h2, rfl, rfl⟩ := h
  refine ⟨lk, am, F, M, δ, H0, a, M1, re, sr, h1, fun v am1 F1 H1 g1 s1 r1 f1 => ?_⟩
  obtain ⟨ss, h3, rfl⟩ := Option.map_eq_some_iff.mp h2
  refine ⟨ss, setTx_ok s1 r1 h3, fun ys p ds sd hp => ?_⟩
  rw [undup_sort ds sd]
  exact (P.gr g1).newL s1 (strs_dv _) p hp
end
end Mi
/-! MiTit: walks over the letters of a text. -/
namespace Mi
open PySem L2
def letters (z : Str) : List D := z.cps.toList.map fun c => D.str ⟨#[c]⟩
def iTxt (ga : G) : GI := fun δ M => (ga δ M).bind fun p => match p.1 with
  | .d (.str z) => some (letters z, p.2)
  | _ => none
section
variable {X : Cx} {C : Zs} {R : Rc} {lk : Lk} {am : List Addr} {F : Hp} {M : Sto} {H : Hp}
theorem jok_str {z : Str} : JOk R lk am F (Its z) (letters z) := fun i am1 F1 M1 H1 he hl s => by
  refine ⟨fun x hx => ?_, fun hi => ?_⟩
  · unfold letters at hx
    rw [List.getElem?_map] at hx
    obtain ⟨c, hc, rfl⟩ := Option.map_eq_some_iff.mp hx
    rw [Array.getElem?_toList] at hc
    refine ⟨(Array.getElem?_eq_some_iff.mp hc).1, fun v H' hy => ?_⟩
    obtain ⟨rfl, c', hc', rfl⟩ := hy
    rw [hc] at hc'
    cases hc'
    exact ⟨F1, Gr.refl _ _ _, s, .str _⟩
  · unfold letters at hi
    rw [List.length_map, Array.length_toList] at hi
    exact Nat.le_of_eq hi
theorem i_txt {tg e : Expr} {ga : G} (he : E X C e ga) : I X C tg e (iTxt ga) := wkI (pi_str he) fun σ H Q h => by
  obtain ⟨lk, am, F, M, δ, H0, xs, M', re, sr, h, P⟩ := h
  unfold iTxt at h
  obtain ⟨⟨w, M1⟩, h1, h2⟩ := Option.bind_eq_some_iff.mp h
  refine ⟨lk, am, F, M, δ, H0, w, M1, re, sr, h1, fun v am1 F1 H1 g1 s1 r1 f1 => ?_⟩
  dsimp only at h2
  split at h2
  · rename_i z
    cases h2
    cases r1
    exact ⟨z, rfl, P am1 F1 H1 _ g1 s1 jok_str⟩
  · cases h2
end
end Mi
/-! MiCnt: list.count of flat things. -/
namespace Mi
open PySem L2
theorem countU {x : V} : ∀ {ys : List V} {us : List Value}, Vals ys us → ys.all flatV = true → us.countP (eqU x) = ys.countP fun z => eqV z x
  | _, _, .nil, _ => rfl
  | _, _, .cons r t, f => by
    rw [List.all_cons, Bool.and_eq_true] at f
    rw [List.countP_cons, List.countP_cons, countU t f.2, eqU_of r f.1]
def countW (w : W) (as : List W) (M : Sto) : Option W := match as with
  | [.d x] => (vL M w).bind fun ys => if x.flat && ys.all D.flat then some (.d (.int (ys.countP fun y => deq y x : Nat))) else none
  | _ => none
section
variable {X : Cx} {C : Zs} {R : Rc} {lk : Lk} {am : List Addr} {F : Hp} {M : Sto} {H : Hp}
def rCntF (K : PySem.W.Frag) (x : V) (xs : List V) (H : Hp) (Q : VK) : Prop := ∃ (a : Addr) (ys : List V) (y : V), x = .ref a ∧ xs = [y] ∧ SqL K H a ys ∧ flatV y = true ∧ ys.all flatV = true ∧ Q (.int ((ys.countP fun z => eqV z y : Nat) : Int)) H
theorem mt_countF : MtR X "list.count" (rCntF X.K) := by
  intro pins s σ H x xs v us Q I rx rxs h
  obtain ⟨a, ys, y, rfl, rfl, hs, fy, fys, q⟩ := h
  cases rx
  cases rxs with
  | cons ry rt =>
    cases rt
    obtain ⟨its, rv, ⟨⟨c1, c2, c3, c4⟩, n, ho, hc, hdn, hd⟩, hlen⟩ := I.list hs
    simp only at hc hd
    cases hc; cases hd
    refine call_meets PySem.F.slot_list_count ⟨_, ho, rfl⟩ PySem.F.entry_list_count (PySem.F.args_list_count_2 _ _)
      (SeqAt.list_countAt a its.toArray n c2 c4 _ (eqU y)) ⟨ho, fun u hu => mem_eqAt ry fy rv fys u (by simpa using hu), ?_⟩
    have ec : its.toArray.toList.countP (eqU y) = ys.countP fun z => eqV z y := countU rv fys
    refine ⟨.int ((ys.countP fun z => eqV z y : Nat) : Int), H, I.tok _, ⟨s.toks, ?_⟩, q⟩
    show Value.int ((its.toArray.toList.countP (eqU y) : Nat) : Int) s.toks = _
    rw [ec]
theorem countD {K : PySem.W.Frag} {v : V} {x : D} (d : DV K am F v x) (hx : x.flat = true) : ∀ {vs : List V} {xs : List D}, DVs K am F vs xs → xs.all D.flat = true → (vs.countP fun z => eqV z v) = xs.countP fun y => deq y x
  | _, _, .nil, _ => rfl
  | _, _, .cons du t, hf => by
    rw [List.all_cons, Bool.and_eq_true] at hf
    rw [List.countP_cons, List.countP_cons, countD d hx t hf.2, eqV_dv du d hf.1 hx]
theorem c_countL : MtC R (rCntF R.K) countW := by
  intro lk am F M H H0 x a vs ws z Q s ra rws h P
  unfold countW at h
  split at h
  · rename_i y
    obtain ⟨ys, e1, h⟩ := Option.bind_eq_some_iff.mp h
    split at h
    · rename_i hf
      simp only [Bool.and_eq_true] at hf
      cases h
      obtain ⟨p, us, rfl, h1, du⟩ := vL_ok s ra e1
      cases rws with
      | cons r t =>
        cases t
        have dy : DV R.K am F _ y := r
        refine ⟨p, us, _, rfl, rfl, .of h1, flat_dv dy hf.1, flat_dvs du hf.2, ?_⟩
        rw [countD dy hf.1 du hf.2]
        exact P.val s (.int _)
    · cases h
  · cases h
end
end Mi
/-! MiDic: dicts that stay as they are: made, walked; dict comprehensions; copies. -/
namespace Mi
open PySem L2
/-! ### mirrors -/
def gDic (a : G) : G := fun δ M => match a δ M with
  | some (.fd kv, M') => some (.d (.dic kv), M')
  | _ => none
def keyD : Key → D
  | .inl i => .int i
  | .inr s => .str s
def keysD (kv : List (Key × D)) : List D := kv.map fun p => keyD p.1
/-- what a for walks, whatever it is -/
def itD : W → Option (List D)
  | .d (.dic kv) => some (keysD kv)
  | .d (.str z) => some (letters z)
  | w => seqD w
def iIt (a : G) : GI := fun δ M => (a δ M).bind fun p => (itD p.1).map fun xs => (xs, p.2)
def valsD (kv : List (Key × D)) : List D := kv.map (·.2)
def dicK : W → Option (List (Key × D))
  | .d (.dic kv) => some kv
  | _ => none
def iVal (a : G) : GI := fun δ M => (a δ M).bind fun p => (dicK p.1).map fun kv => (valsD kv, p.2)
def itemsD (kv : List (Key × D)) : List D := kv.map fun p => .tup [keyD p.1, p.2]
def iItm (a : G) : GI := fun δ M => (a δ M).bind fun p => (dicK p.1).map fun kv => (itemsD kv, p.2)
def gNewD : G := fun _ M => some (.fd [], M)
def keyW : W → Option Key
  | .d x => keyOf x
  | _ => none
def dcompL (bd : Tg) (t : GT) (ek ev : G) (δ : En) : List D → Sto → List (Key × D) → Option (List (Key × D) × Sto)
  | [], M, acc => some (acc, M)
  | x :: r, M, acc => (bd.bd x δ).bind fun δ1 => (t δ1 M).bind fun p => if p.1 = true then
      (ek δ1 p.2).bind fun q => (keyW q.1).bind fun k => (ev δ1 q.2).bind fun u => (frz u.1).bind fun y => if acc.length < SZ then dcompL bd t ek ev δ r u.2 (putD acc k y) else none
    else dcompL bd t ek ev δ r p.2 acc
def gDComp (it : GI) (bd : Tg) (t : GT) (ek ev : G) (own : List Nat) : G := fun δ M => (it δ M).bind fun p => (dcompL bd t ek ev (wipeE δ own) p.1 p.2 []).map fun z => (.fd z.1, z.2)
/-- dict(pairs), dict(d) -/
def dictAW (ws : List W) (M : Sto) : Option W := match ws with
  | [w] => match vK M w with
    | some kv => some (.fd kv)
    | none => dictPW ws M
  | _ => none
/-- list(d.items()) -/
def litemsW (w : W) (_ : Sto) : Option W := (dicK w).map fun kv => .fr (itemsD kv)

/-! ### locked for good -/
theorem pe_lockE {X : Cx} {e : Expr} {td : TE} (h : PE X e td) : PE X e (fun σ H Q => td σ H fun x H1 => ∃ d u, x = .ref d ∧ H1 d = some u ∧ Mut (some u) ∧ ∀ od, Q x (upd H1 d (.frz od u))) := by
  refine ⟨fun pins s σ H Q I q => thn (h.run pins s σ H _ I q) fun v s1 ⟨x, H1, I1, r1, d, u, ex, hd, mu, q⟩ => ?_⟩
  obtain ⟨od, I2⟩ := I1.lock hd mu
  exact ⟨x, _, I2, r1, q od⟩
section
variable {X : Cx} {C : Zs} {R : Rc} {lk : Lk} {am : List Addr} {F H F0 H0 : Hp} {M : Sto}
theorem KVs.le {κ : Type} {K : PySem.W.Frag} {F F' : Hp} {vs : List (κ × V)} {xs : List (κ × D)} (h : KVs K am F vs xs) (e : Le F F') : KVs K am F' vs xs := by
  have q := h.mono (new := []) e
  rwa [List.append_nil] at q
theorem e_dic {e : Expr} {ga : G} (he : E X C e ga) : E X C e (gDic ga) := wkE (pe_lockE he) fun σ H Q h => by
  obtain ⟨lk, am, F, M, δ, H0, w, M', re, sr, h, P⟩ := h
  unfold gDic at h
  split at h
  · rename_i kv Mz h1
    obtain ⟨rfl, rfl⟩ := Prod.mk.inj (Option.some.inj h)
    refine ⟨lk, am, F, M, δ, H0, _, _, re, sr, h1, fun v am1 F1 H1 g1 s1 r1 f1 => ?_⟩
    obtain ⟨a, rfl, ha⟩ := f1
    obtain ⟨b, kvs, e, h2, h3, h4, h5, h6⟩ := r1
    cases e
    refine ⟨a, _, rfl, h2, True.intro, fun od => ?_⟩
    have s2 := s1.out (o := .frz od (.dK kvs)) h4 h3 h5
    have g2 := (g1.out (o := .frz od (.dK kvs)) ha).freeze s2 ha
    exact P _ _ _ _ g2 (s2.freeze h4 h5) (.dic (by rw [frzAt_same]; exact upd_same) (h6.le (le_frzAt s2 a)).dks) True.intro
  · cases h

/-! ### walks -/
theorem KVs.get {κ : Type} {K : PySem.W.Frag} : ∀ {vs : List (κ × V)} {xs : List (κ × D)} {i : Nat} {p : κ × D}, KVs K am F vs xs → xs[i]? = some p → ∃ v, vs[i]? = some (p.1, v) ∧ DV K am F v p.2
  | _, _, i, p, .nil, e => by simp at e
  | _, _, 0, p, .cons h _, e => by simp at e; subst e; exact ⟨_, rfl, h⟩
  | _, _, i + 1, p, .cons _ t, e => by
    obtain ⟨u, h1, h2⟩ := KVs.get (i := i) t (by simpa using e)
    exact ⟨u, by simpa using h1, h2⟩
theorem kvs_ext {κ : Type} {K : PySem.W.Frag} {am1 : List Addr} {F1 : Hp} (h : ∃ new, am1 = am ++ new) (e : Le F F1) {vs : List (κ × V)} {xs : List (κ × D)} (d : KVs K am F vs xs) : KVs K am1 F1 vs xs := by
  obtain ⟨n, rfl⟩ := h
  exact d.mono e
theorem kV_keyD {K : PySem.W.Frag} (k : Key) : DV K am F (kV k) (keyD k) := by
  cases k with
  | inl i => exact .int i
  | inr s => exact .str s
theorem jok_keys {a : Addr} {o : Obj} {kvs : List (Key × V)} {kv : List (Key × D)} (h : F a = some (.frz o (.dK kvs))) (d : KVs R.K am F kvs kv) : JOk R lk am F (Itk a o kvs) (keysD kv) := fun i am1 F1 M1 H1 he hl s => by
  have e1 := s.ex _ _ (hl _ _ h)
  refine ⟨fun x hx => ?_, fun hi => ?_⟩
  · unfold keysD at hx
    rw [List.getElem?_map] at hx
    obtain ⟨p, hp, rfl⟩ := Option.map_eq_some_iff.mp hx
    obtain ⟨v, hv, dv⟩ := (kvs_ext he hl d).get hp
    refine ⟨⟨e1, (List.getElem?_eq_some_iff.mp hv).1⟩, fun u H' hy => ?_⟩
    obtain ⟨rfl, k, v', hk, rfl⟩ := hy
    rw [hv] at hk
    cases hk
    exact ⟨F1, Gr.refl _ _ _, s, kV_keyD _⟩
  · unfold keysD at hi
    rw [List.length_map] at hi
    exact ⟨e1, by rw [d.length]; exact Nat.le_of_eq hi⟩
theorem jok_vals {a : Addr} {o : Obj} {kvs : List (Key × V)} {kv : List (Key × D)} (h : F a = some (.frz o (.dK kvs))) (d : KVs R.K am F kvs kv) : JOk R lk am F (Itd a o kvs) (valsD kv) := fun i am1 F1 M1 H1 he hl s => by
  have e1 := s.ex _ _ (hl _ _ h)
  refine ⟨fun x hx => ?_, fun hi => ?_⟩
  · unfold valsD at hx
    rw [List.getElem?_map] at hx
    obtain ⟨p, hp, rfl⟩ := Option.map_eq_some_iff.mp hx
    obtain ⟨v, hv, dv⟩ := (kvs_ext he hl d).get hp
    refine ⟨⟨e1, (List.getElem?_eq_some_iff.mp hv).1⟩, fun u H' hy => ?_⟩
    obtain ⟨rfl, k, hk⟩ := hy
    rw [hv] at hk
    cases hk
    exact ⟨F1, Gr.refl _ _ _, s, dv⟩
  · unfold valsD at hi
    rw [List.length_map] at hi
    exact ⟨e1, by rw [d.length]; exact Nat.le_of_eq hi⟩
theorem jok_items {a : Addr} {o : Obj} {kvs : List (Key × V)} {kv : List (Key × D)} (h : F a = some (.frz o (.dK kvs))) (d : KVs R.K am F kvs kv) : JOk R lk am F (Iti a o kvs) (itemsD kv) := fun i am1 F1 M1 H1 he hl s => by
  have e1 := s.ex _ _ (hl _ _ h)
  refine ⟨fun x hx => ?_, fun hi => ?_⟩
  · unfold itemsD at hx
    rw [List.getElem?_map] at hx
    obtain ⟨p, hp, rfl⟩ := Option.map_eq_some_iff.mp hx
    obtain ⟨v, hv, dv⟩ := (kvs_ext he hl d).get hp
    refine ⟨⟨e1, (List.getElem?_eq_some_iff.mp hv).1⟩, fun u H' hy => ?_⟩
    obtain ⟨T, k, v', hk, rfl, hT, rfl⟩ := hy
    rw [hv] at hk
    cases hk
    exact pair_new s hT (kV_keyD _) dv
  · unfold itemsD at hi
    rw [List.length_map] at hi
    exact ⟨e1, by rw [d.length]; exact Nat.le_of_eq hi⟩
/-- a list, a tuple, a text or a dict is walked -/
theorem pi_it {tg l : Expr} {tl : TE} (hl : PE X l tl) : PI X tg l (fun σ H Q => tl σ H fun x H1 => (∃ a, x = .ref a ∧ (((∃ xs, SqL X.K H1 a xs) ∧ Q (Itl X.K a) H1) ∨ ((∃ xs, SqT X.K H1 a xs) ∧ Q (Itt X.K a) H1))) ∨
    (∃ d o kvs, x = .ref d ∧ H1 d = some (.frz o (.dK kvs)) ∧ Q (Itk d o kvs) H1) ∨ ∃ z, x = .str z ∧ Q (Its z) H1) := by
  refine ⟨fun pins s σ H R I h => ?_⟩
  refine thn (hl.run pins s σ H _ I h) fun v s1 ⟨x, H1, I1, r1, q1⟩ => ?_
  rcases q1 with q1 | ⟨d, o, kvs, rfl, hd, q⟩ | ⟨z, rfl, q⟩
  · obtain ⟨a, e, q1⟩ := q1
    subst e
    cases r1
    rcases q1 with ⟨⟨xs, hq⟩, q⟩ | ⟨⟨xs, hq⟩, q⟩
    · obtain ⟨its, rv, p, hz⟩ := I1.list hq
      refine PySem.wpAny_pyIter_list p.isList ?_
      refine ⟨s1.heap.objs.size, [s1.heap.objs.size], _, _, H1, rfl, I1.kept (t' := s1.toks) fun b o e => Heap.get?_push_of_some _ e, turn_list a _, ⟨_, Heap.get?_push_size _ rfl, rfl, rfl⟩, fun b hb => ?_, q⟩
      have e : b = s1.heap.objs.size := by simpa using hb
      subst e
      exact I1.fpOk (Nat.le_refl _) (I1.hok.fresh (Nat.le_refl _))
    · obtain ⟨its, rv, p, hz⟩ := I1.tuple hq
      refine PySem.wpAny_pyIter_tuple (show s1.heap.IsTuple a its.toArray from p) ?_
      refine ⟨s1.heap.objs.size, [s1.heap.objs.size], _, _, H1, rfl, I1.kept (t' := s1.toks) fun b o e => Heap.get?_push_of_some _ e, turn_tuple a _, ⟨_, Heap.get?_push_size _ rfl, rfl, rfl⟩, fun b hb => ?_, q⟩
      have e : b = s1.heap.objs.size := by simpa using hb
      subst e
      exact I1.fpOk (Nat.le_refl _) (I1.hok.fresh (Nat.le_refl _))
  · obtain rfl : v = Value.ref d := r1
    obtain ⟨hs, hgd, hx, es, ep, vs, hdt, hsz, kv, hm⟩ := I1.frzK hd
    refine iter_keys hs hgd hx hdt (pi_one (tk := s1.toks) I1 _ (turn_keys _ hdt) ⟨_, Heap.get?_push_size _ rfl, rfl, ?_⟩ q)
    rw [hsz] <;> rfl
  · obtain ⟨t, rfl⟩ := r1
    cases ha : z.cps.all (· < 128)
    · exact wpAny_pyIter_wide ha (pi_one (tk := s1.toks) I1 _ (turn_str _ z t "str_iterator" (.inr rfl)) ⟨_, Heap.get?_push_size _ rfl, rfl, rfl⟩ q)
    · exact wpAny_pyIter_ascii ha (pi_one (tk := s1.toks) I1 _ (turn_str _ z t "str_ascii_iterator" (.inl rfl)) ⟨_, Heap.get?_push_size _ rfl, rfl, rfl⟩ q)
theorem i_it {tg e : Expr} {ga : G} (he : E X C e ga) : I X C tg e (iIt ga) := wkI (pi_it he) fun σ H Q h => by
  obtain ⟨lk, am, F, M, δ, H0, xs, M', re, sr, h, P⟩ := h
  unfold iIt at h
  simp only [Option.bind_eq_some_iff, Option.map_eq_some_iff, Prod.exists, Prod.mk.injEq] at h
  obtain ⟨w, M1, h1, xs, h2, rfl, rfl⟩ := h
  refine ⟨lk, am, F, M, δ, H0, w, M1, re, sr, h1, fun v am1 F1 H1 g1 s1 r1 f1 => ?_⟩
  unfold itD at h2
  split at h2
  · rename_i kv
    cases h2
    cases (show DV X.K am1 F1 v (.dic kv) from r1) with
    | dic h3 h4 => exact .inr (.inl ⟨_, _, _, rfl, s1.ex _ _ h3, P am1 F1 H1 _ g1 s1 (jok_keys h3 h4.kvs)⟩)
  · rename_i z
    cases h2
    cases r1
    exact .inr (.inr ⟨z, rfl, P am1 F1 H1 _ g1 s1 jok_str⟩)
  · obtain ⟨F2, a, vs, rfl, g2, s2, l2, d2, q⟩ := seq_at (R := rc X C) g1 s1 r1 f1 h2
    refine .inl ⟨a, rfl, ?_⟩
    rcases q with q | q
    · exact .inl ⟨⟨vs, .of (s2.ex _ _ q)⟩, P am1 F2 H1 _ g2 s2 (jok_list q d2)⟩
    · exact .inr ⟨⟨vs, (show Le F2 H1 from s2.ex).seqT q⟩, P am1 F2 H1 _ g2 s2 (jok_tup q d2)⟩
theorem i_val {tg e : Expr} {ga : G} {apos cpos : Pos} (he : E X C e ga) (hbase : attributeBase e "values" X.env (eval e X.env) = eval e X.env := by rfl) (hline : (apos.endLine == cpos.line) = true := by rfl) : I X C tg (.Call (.Attribute e "values" apos) [] [] cpos) (iVal ga) := wkI (pi_values he hbase hline) fun σ H Q h => by
  obtain ⟨lk, am, F, M, δ, H0, xs, M', re, sr, h, P⟩ := h
  unfold iVal at h
  simp only [Option.bind_eq_some_iff, Option.map_eq_some_iff, Prod.exists, Prod.mk.injEq] at h
  obtain ⟨w, M1, h1, kv, h2, rfl, rfl⟩ := h
  refine ⟨lk, am, F, M, δ, H0, w, M1, re, sr, h1, fun v am1 F1 H1 g1 s1 r1 f1 => ?_⟩
  unfold dicK at h2
  split at h2
  · cases h2
    cases (show DV X.K am1 F1 v (.dic kv) from r1) with
    | dic h3 h4 => exact ⟨_, _, _, rfl, s1.ex _ _ h3, P am1 F1 H1 _ g1 s1 (jok_vals h3 h4.kvs)⟩
  · cases h2
theorem i_itm {elts : List Expr} {kk : Nat} {tpos : Pos} {e : Expr} {ga : G} {apos cpos : Pos} (he : E X C e ga) (hbase : attributeBase e "items" X.env (eval e X.env) = eval e X.env := by rfl) (hline : (apos.endLine == cpos.line) = true := by rfl) : I X C (.Tuple elts kk tpos) (.Call (.Attribute e "items" apos) [] [] cpos) (iItm ga) := wkI (pi_items he hbase hline) fun σ H Q h => by
  obtain ⟨lk, am, F, M, δ, H0, xs, M', re, sr, h, P⟩ := h
  unfold iItm at h
  simp only [Option.bind_eq_some_iff, Option.map_eq_some_iff, Prod.exists, Prod.mk.injEq] at h
  obtain ⟨w, M1, h1, kv, h2, rfl, rfl⟩ := h
  refine ⟨lk, am, F, M, δ, H0, w, M1, re, sr, h1, fun v am1 F1 H1 g1 s1 r1 f1 => ?_⟩
  unfold dicK at h2
  split at h2
  · cases h2
    cases (show DV X.K am1 F1 v (.dic kv) from r1) with
    | dic h3 h4 => exact ⟨_, _, _, rfl, s1.ex _ _ h3, P am1 F1 H1 _ g1 s1 (jok_items h3 h4.kvs)⟩
  · cases h2

/-! ### made -/
theorem Pst.newD {kvs : List (Key × V)} {kv : List (Key × D)} {Q : VK} (P : Pst R lk am F M H H0 (.fd kv) Q) (s : SR R lk am F M H) (r : KVs R.K am F kvs kv) (p : Addr) (h : H p = none) : Q (.ref p) (upd H p (.dK kvs)) := by
  have hl : lk p = none := by
    cases q : lk p with
    | none => rfl
    | some u => have hx := s.lh p u q; rw [h] at hx; cases hx
  exact P _ am F _ (Gr.new h) (s.grow (le_new h)) ⟨p, kvs, rfl, upd_same, (s.fresh h).1, (s.fresh h).2, hl, r⟩ ⟨p, rfl, h⟩
theorem e_newD {pos : Pos} : E X C (.Dict [] [] pos) gNewD := wkE pe_dnewK fun σ H Q h => by
  obtain ⟨lk, am, F, M, δ, H0, w, M', re, sr, h, P⟩ := h
  cases h
  exact fun p hp => P.newD sr .nil p hp
def rDictA (K : PySem.W.Frag) : List V → Hp → VK → Prop := fun xs H Q => (∃ (a : Addr) (kvs : List (Key × V)), xs = [.ref a] ∧ Rd H a (.dK kvs) ∧ ∀ p, H p = none → Q (.ref p) (upd H p (.dK kvs))) ∨ rDictP K xs H Q
theorem call_dictA (hc : X.calm = true) : CallR X (.type "dict") (rDictA X.K) := fun pins s σ H xs us Q I r h => h.elim (fun q => call_dictD pins s σ H xs us Q I r q) fun q => call_dictT hc pins s σ H xs us Q I r q
theorem c_dictA : CallC R (rDictA R.K) dictAW := by
  intro lk am F M H H0 vs ws z Q s r h P
  unfold dictAW at h
  split at h
  · rename_i w
    split at h
    · rename_i kv e
      cases h
      obtain ⟨v, rfl, rw⟩ := rws1 r
      obtain ⟨a, kvs, rfl, h1, d⟩ := vK_ok s rw e
      exact .inl ⟨a, kvs, rfl, h1, P.newD s d⟩
    · exact .inr (c_dictP lk am F M H H0 vs _ z Q s r h P)
  · cases h
theorem dcomp_go {gi : GI} {b : Tg} {t : GT} {ek ev : G} {own : List Nat} {σ : St} {Q : VK} (hb : ∀ i ∈ b.is, i ∈ own) (h : tG R (gDComp gi b t ek ev own) σ H Q) : tDc (tI R gi) (tB R b) (tT R t) (tG R ek) (tG R ev) own σ H Q := by
  obtain ⟨lk, am, F, M, δ, H0, w, M', re, sr, h, P⟩ := h
  unfold gDComp at h
  simp only [Option.bind_eq_some_iff, Option.map_eq_some_iff, Prod.exists, Prod.mk.injEq] at h
  obtain ⟨xs, M1, h1, zs, Mz, h2, rfl, rfl⟩ := h
  refine ⟨lk, am, F, M, δ, H0, xs, M1, re, sr, h1, fun amI FI HI J gI sI jk A hA => ?_⟩
  have hA1 := sI.fresh hA
  have hAl : lk A = none := by
    cases q : lk A with
    | none => rfl
    | some u => have hx := sI.lh A u q; rw [hA] at hx; cases hx
  have reW := wipe_re (re.gr gI) own
  refine ⟨fun i m H => m = xs.length - i ∧ i ≤ xs.length ∧ ∃ am1 F1 M acc ys, Gr amI FI HI am1 F1 H ∧ SR R lk am1 F1 M H ∧ H A = some (.dK acc) ∧ A ∉ am1 ∧ F1 A = none ∧ KVs R.K am1 F1 acc ys ∧ dcompL b t ek ev (wipeE δ own) (xs.drop i) M ys = some (zs, Mz),
    ⟨xs.length, by simp, Nat.zero_le _, amI, FI, M1, [], [], (Gr.refl _ _ _).out hA, sI.out hA1.2 hA1.1 hAl, upd_same, hA1.2, hA1.1, .nil, by rw [List.drop_zero]; exact h2⟩, ?_⟩
  rintro i m H ⟨rfl, hi, am1, F1, M, acc, ys, g1, s1, hD, hn, hF, d1, h⟩
  obtain ⟨jg, js⟩ := jk i am1 F1 M H (Mo.of g1).ad g1.fx s1
  by_cases hlt : i < xs.length
  · rw [drop_cons hlt] at h
    unfold dcompL at h
    simp only [Option.bind_eq_some_iff, Prod.exists] at h
    obtain ⟨δ1, hb1, c, M3, h3, h4⟩ := h
    obtain ⟨hgo, hy⟩ := jg xs[i] (by simp [hlt])
    refine .inr ⟨hgo, fun H => i + 1 ≤ xs.length ∧ ∃ am1 F1 M acc ys, Gr amI FI HI am1 F1 H ∧ SR R lk am1 F1 M H ∧ H A = some (.dK acc) ∧ A ∉ am1 ∧ F1 A = none ∧ KVs R.K am1 F1 acc ys ∧ dcompL b t ek ev (wipeE δ own) (xs.drop (i + 1)) M ys = some (zs, Mz),
      fun H' n => ⟨xs.length - (i + 1), by omega, rfl, n⟩, fun v H' y => ?_⟩
    obtain ⟨F', g', s', d'⟩ := hy v H' y
    refine ⟨lk, am1, F', M, H0, wipeE δ own, xs[i], δ1, (reW.gr g1).gr g', s', d', hb1, fun σ2 re2 ⟨vs, ev⟩ => ⟨?_, ?_⟩⟩
    · rw [ev, setV_wipe hb]
      exact wipe_wipe σ own
    refine ⟨lk, am1, F', M, δ1, H0, c, M3, re2, s', h3, fun am3 F3 H3 g3 s3 => ?_⟩
    have gA := g'.trans g3
    have hD3 := gA.kp A _ hn hD
    have hn3 := gA.nam hD hn
    have hF3 : F3 A = none := by rw [gA.fn A _ hD]; exact hF
    cases c with
    | false =>
      simp only [Bool.false_eq_true, if_false] at h4
      exact iteF ⟨hlt, am3, F3, M3, acc, ys, g1.trans gA, s3, hD3, hn3, hF3, gA.kvs d1, h4⟩
    | true =>
      simp only [if_true, Option.bind_eq_some_iff, Prod.exists] at h4
      obtain ⟨wk, M4, h5, k, hk, wv, M5, h6, y, hy, h7⟩ := h4
      split at h7
      · rename_i hsz
        refine iteT ⟨lk, am3, F3, M3, δ1, H0, wk, M4, re2.gr g3, s3, h5, fun u am4 F4 H4 g4 s4 r4 f4 => ?_⟩
        refine ⟨lk, am4, F4, M4, δ1, H0, wv, M5, (re2.gr g3).gr g4, s4, h6, fun u2 am5 F5 H5 g5 s5 r5 f5 => ?_⟩
        obtain ⟨F6, g6, s6, d6, _⟩ := (FZ.of (R := R) r5 f5 hy).go g5 s5
        have g46 := g4.trans g6
        have hD6 := g46.kp A _ hn3 hD3
        have hn6 := g46.nam hD3 hn3
        have hF6 : F6 A = none := by rw [g46.fn A _ hD3]; exact hF3
        have ek : u = kV k := by
          cases wk with
          | d x => exact key_dv (show DV R.K am4 F4 u x from r4) hk
          | _ => cases hk
        refine ⟨acc, k, ek, hD6, by rw [d1.length]; exact Nat.lt_trans hsz (by decide), hlt, am5, F6, M5, putK acc k u2, putD ys k y, ((g1.trans gA).trans g46).out hA, s6.out hn6 hF6 hAl, upd_same, hn6, hF6, (g46.kvs (gA.kvs d1)).put d6, h7⟩
      · cases h7
  · have hi2 : i = xs.length := by omega
    subst hi2
    rw [List.drop_length] at h
    cases h
    exact .inl ⟨js rfl, P _ _ _ _ (gI.trans g1) s1 ⟨A, acc, rfl, hD, hF, hn, hAl, d1⟩ ⟨A, rfl, gI.back hA⟩⟩
theorem e_dcomp {kx vx tg iter : Expr} {ifs : List Expr} {scope : Scope} {own : List (Str × Nat)} {pos : Pos} {gi : GI} {b : Tg} {gt : GT} {gk gv : G} (hc : X.calm = true) (hN : X.N.Nodup) (hi : I X C tg iter gi) {N' : List Str} {sc' : Scope} (eN : X.N = N') (es : X.env.scope = sc') (ok : blkC N' sc' scope own = true)
    (hg : ∀ (s : Shared) (H : Hp) (D : Addr) (cl : List (Str × Addr)) (fp : List Addr), B (X.blk s H scope (compEnvC scope cl D X.env) fp) C tg b) (ht : ∀ (s : Shared) (H : Hp) (D : Addr) (cl : List (Str × Addr)) (fp : List Addr), TT' (X.blk s H scope (compEnvC scope cl D X.env) fp) C ifs gt)
    (hk : ∀ (s : Shared) (H : Hp) (D : Addr) (cl : List (Str × Addr)) (fp : List Addr), E (X.blk s H scope (compEnvC scope cl D X.env) fp) C kx gk) (he : ∀ (s : Shared) (H : Hp) (D : Addr) (cl : List (Str × Addr)) (fp : List Addr), E (X.blk s H scope (compEnvC scope cl D X.env) fp) C vx gv)
    (hb : ∀ i ∈ b.is, i ∈ own.map (·.2)) (hs : ∀ x, foldedSetIterable iter X.env x = pure x := by intro _; rfl) :
    E X C (.DictComp kx vx [⟨tg, iter, ifs, 0⟩] scope pos) (gDComp gi b gt gk gv (own.map (·.2))) := wkE (pe_dc hc hN hi (blk_by eN es ok) hg ht hk he hs) fun _ _ _ h => dcomp_go hb h

/-! ### list(d.items()) of a dict locked for good -/
open PyProof.Rows in
theorem pe_listItemsF {e : Expr} {te : TE} {p apos cpos pos : Pos} (hc : X.calm = true) (he : PE X e te) (hg : Gl X "list") (hm : X.mg "list" = none) (hv : bootBuiltins "list" = some (.type "list")) (hbase : attributeBase e "items" X.env (eval e X.env) = eval e X.env) (hline : (apos.endLine == cpos.line) = true)
    (hs : starEach [.Call (.Attribute e "items" apos) [] [] cpos] X.env = (false, eval (.Call (.Attribute e "items" apos) [] [] cpos) X.env) :: starEach [] X.env) :
    PE X (.Call (.Name "list" p) [.Call (.Attribute e "items" apos) [] [] cpos] [] pos) (fun σ H Q => te σ H fun x H => ∃ (d : Addr) (o : Obj) (kvs : List (Key × V)), x = .ref d ∧ H d = some (.frz o (.dK kvs)) ∧
      ∀ (H' : Hp) (p : Addr) (ts : List Addr), (∀ b o, H b = some o → H' b = some o) → H p = none → (∀ t ∈ ts, H t = none) → p ∉ ts → H' p = some (.lst (ts.map V.ref)) → Paired (fun (t : Addr) (q : Key × V) => H' t = some (.tup [kV q.1, q.2])) ts kvs → Q (.ref p) H') := by
  refine ⟨fun pins s σ H Q I hq => ?_⟩
  refine wpAny_Call_Name_kw (ld_blt I hg hm hv ?_)
  refine PyProof.Rows.callWith_type1 ?_ hs rfl
  rw [hs]
  show wpAny _ _ (spliced ((false, eval (.Call (.Attribute e "items" apos) [] [] cpos) X.env) :: backTo pos (starEach [] X.env))) _ _ s
  refine Calls.spliced_cons ?_
  refine wpAny_Call_method (T := "dict") (id := "dict.items") hbase rfl hline F.plainAttrs_dict F.slot_dict_items F.type_dict_items (thn (he.run pins s σ H _ I hq) fun u s1 ⟨x, H1, I1, rx, d, o, kvs, ex, hd, q⟩ => ?_)
  subst ex
  obtain rfl : u = Value.ref d := rx
  obtain ⟨hs0, hgd, hx, es, ep, vs, hdt, hsz, kv, hm2⟩ := I1.frzK hd
  have hdo := hm2.dictOf
  have hz : kvs.length ≤ sizeLine := (I1.hok d _ hd).2.1
  obtain ⟨ep, hat⟩ := hdo.dictAt
  have lk : kvs.length = vs.length := Paired.length kv
  have I2 : Inv X pins σ H1 { s1 with heap := s1.heap.push { cls := .type "dict_items", data := .fields #[.ref d] } } := I1.kept (t' := s1.toks) fun b ob q => Heap.get?_push_of_some _ q
  refine ⟨hdo.typeIs, hdo.mapOf.noDict, ?_⟩
  show wpAny _ _ (callWith cpos (.builtin "dict.items") [.ref d] [] []) _ X.xe s1
  refine method_meetsIn F.slot_dict_items F.entry_dict_items rfl (PySem.evalArgs_none ⟨rfl, hdo.typeIs, F.args_dict_items_1 _, _, meets_dict_items (mixKind X.prog X.w) d hs0, ⟨vs, hdo⟩, ?_⟩)
  refine Calls.spliced_nil ?_
  refine PySem.W.kdx_call (knd := mixKind X.prog X.w) (kvs := vs) (ep := ep) (I1.ok.hd hc) ⟨_, Heap.get?_push_size _ rfl, rfl, rfl⟩ (hat.push _) (by omega) fun h' tk acc c as hk hS hl hG hacc => ?_
  obtain ⟨H', k1, k2, k3, k4, k5, k6, J⟩ := LiI.items_laid (tk := tk) I2 hz kv hk hS hl hG hacc
  exact ⟨.ref _, H', J, rfl, q H' _ as k1 k2 k3 k4 k5 k6⟩
/-- many new things, frozen -/
theorem frz_many {R : Rc} {lk : Lk} {am : List Addr} {M : Sto} : ∀ {ts : List Addr} {kvs : List (Key × V)} {kv : List (Key × D)} {F H0 H F0 : Hp} {am0 : List Addr}, Gr am0 F0 H0 am F H → SR R lk am F M H → KVs R.K am F kvs kv → (∀ t ∈ ts, H0 t = none ∧ t ∉ am ∧ lk t = none) → Paired (fun (t : Addr) (q : Key × V) => H t = some (.tup [kV q.1, q.2])) ts kvs →
    ∃ F', Gr am0 F0 H0 am F' H ∧ SR R lk am F' M H ∧ Le F F' ∧ DVs R.K am F' (ts.map V.ref) (itemsD kv) ∧ ∀ b, b ∉ ts → F' b = F b
  | _, _, _, F, _, _, _, _, g, s, .nil, _, .nil => ⟨F, g, s, Le.refl F, .nil, fun _ _ => rfl⟩
  | t :: ts, _, _, F, H0, H, _, _, g, s, .cons (x := y) d ds, h, .cons e es => by
    obtain ⟨h1, h2, h3⟩ := h t List.mem_cons_self
    have g' := g.freeze s h1
    have s' := s.freeze (p := t) h2 h3
    have l := le_frzAt s t
    obtain ⟨F', g2, s2, l2, d2, n2⟩ := frz_many g' s' (ds.le l) (fun x hx => h x (List.mem_cons_of_mem _ hx)) es
    refine ⟨F', g2, s2, l.trans l2, ?_, fun b hb => by rw [n2 b (fun z => hb (List.mem_cons_of_mem _ z)), frzAt_ne (fun z => hb (by rw [z]; exact List.mem_cons_self))]⟩
    exact .cons (.tup (.of (l2 _ _ (by rw [frzAt_same]; exact e))) (.cons (kV_keyD _) (.cons (d.le (l.trans l2)) .nil))) d2
theorem e_litems {e : Expr} {ga : G} {p apos cpos pos : Pos} (hc : X.calm = true) (hm : X.mg "list" = none) (he : E X C e ga) (hg : Gl X "list" := by rfl) (hv : bootBuiltins "list" = some (.type "list") := by decide +kernel) (hbase : attributeBase e "items" X.env (eval e X.env) = eval e X.env := by rfl) (hline : (apos.endLine == cpos.line) = true := by rfl)
    (hs : starEach [.Call (.Attribute e "items" apos) [] [] cpos] X.env = (false, eval (.Call (.Attribute e "items" apos) [] [] cpos) X.env) :: starEach [] X.env := by rfl) :
    E X C (.Call (.Name "list" p) [.Call (.Attribute e "items" apos) [] [] cpos] [] pos) (gUn litemsW ga) := wkE (pe_listItemsF hc he hg hm hv hbase hline hs) fun σ H Q h => by
  obtain ⟨lk, am, F, M, δ, H0, w, M', re, sr, h, P⟩ := h
  unfold gUn at h
  simp only [Option.bind_eq_some_iff, Option.map_eq_some_iff, Prod.exists, Prod.mk.injEq] at h
  obtain ⟨a, M1, h1, z, h2, rfl, rfl⟩ := h
  refine ⟨lk, am, F, M, δ, H0, a, M1, re, sr, h1, fun v am1 F1 H1 g1 s1 r1 f1 => ?_⟩
  unfold litemsW dicK at h2
  obtain ⟨kv, h3, rfl⟩ := Option.map_eq_some_iff.mp h2
  split at h3
  · cases h3
    cases (show DV X.K am1 F1 v (.dic kv) from r1) with
    | @dic d o kvs _ hd hk =>
      refine ⟨d, o, kvs, rfl, s1.ex _ _ hd, fun H' l ts k1 k2 k3 k4 k5 k6 => ?_⟩
      have s2 := s1.grow k1
      have nl : ∀ t, H1 t = none → lk t = none := fun t ht => by
        cases q : lk t with
        | none => rfl
        | some u => have hx := s1.lh t u q; rw [ht] at hx; cases hx
      have g2 : Gr am1 F1 H1 am1 F1 H' := ⟨Le.refl _, fun _ _ _ => rfl, ⟨[], by simp, by simp⟩, fun a o _ e => k1 a o e, fun a o e => ⟨o, k1 a o e⟩⟩
      obtain ⟨F', g3, s3, l3, d3, n3⟩ := frz_many g2 s2 hk.kvs (fun t ht => ⟨k3 t ht, (s1.fresh (k3 t ht)).2, nl t (k3 t ht)⟩) k6
      have hF : F' l = none := by rw [n3 l k4]; exact (s1.fresh k2).1
      exact P _ _ _ _ (g1.trans g3) s3 ⟨l, _, rfl, k5, hF, (s1.fresh k2).2, nl l k2, d3⟩ ⟨l, rfl, g1.back k2⟩
  · cases h3
end
end Mi
/-! MiAny: what things of any kind need: truths as numbers, str(truth), upper, [::-1], a slot's list frozen, two items exchanged. -/
namespace Mi
open PySem L2
def b2 (b : Bool) : Int := if b = true then 1 else 0
/-- a number, or a truth as a number -/
def numW : W → Option Int
  | .d (.int i) => some i
  | .d (.bl b) => some (b2 b)
  | _ => none
/-! ### mirrors -/
def addB (a b : W) (M : Sto) : Option W := match a, b with
  | .d (.bl x), .d (.int j) => some (.d (.int (b2 x + j)))
  | a, b => addW a b M
def subB (a b : W) (M : Sto) : Option W := match a, b with
  | .d (.bl x), .d (.int j) => some (.d (.int (b2 x - j)))
  | a, b => subW a b M
def negB (a : W) (M : Sto) : Option W := match a with
  | .d (.bl x) => some (.d (.int (-b2 x)))
  | a => negW a M
def strB (ws : List W) (M : Sto) : Option W := match ws with
  | [.d (.bl b)] => some (.d (.str (if b then "True" else "False")))
  | ws => strW ws M
def upperW (w : W) (as : List W) (_ : Sto) : Option W := match w, as with
  | .d (.str z), [] => if z.length ≤ SZ then some (.d (.str (Txt.upper z))) else none
  | _, _ => none
/-- x[::-1] -/
def revW (w : W) (M : Sto) : Option W := match w with
  | .d (.tup xs) => some (.d (.tpl xs.reverse))
  | .d (.tpl xs) => some (.d (.tpl xs.reverse))
  | w => (vL M w).map fun xs => .fr xs.reverse
/-- x[i], x[j] = x[j], x[i] over the slot's own list -/
def sSwap (k i j : Nat) : GS := fun δ M => match δ[k]?, δ[i]?, δ[j]? with
  | some (some (.ol xs)), some (some (.d (.int a))), some (some (.d (.int b))) => (atI xs a).bind fun x => (atI xs b).bind fun y => (ixN xs.length a).bind fun na => (ixN xs.length b).map fun nb => .nx (δ.set k (some (.ol ((xs.set na y).set nb x)))) M
  | _, _, _ => none
/-- a, b = e, a tuple or a list -/
def sUnpA (is : List Nat) (a : G) : GS := fun δ M => (a δ M).bind fun p => (vS p.2 p.1).bind fun xs => (setAll δ is xs).map fun δ' => .nx δ' p.2
def sVoid : GS := fun _ _ => none

section
variable {X : Cx} {C : Zs} {R : Rc} {Wx : WX} {lk : Lk} {am am0 : List Addr} {F H F0 H0 : Hp} {M : Sto}
theorem ss_void {sts : List Stmt} : SS X C Wx sts sVoid := ⟨fun pins s σ H D I q => by
  obtain ⟨lk, am0, F0, H0, am, F, M, δ, o, g, re, sr, h, P⟩ := q
  cases h⟩
theorem s_void {st : Stmt} : S X C Wx st sVoid := ⟨fun pins s σ H D I q => by
  obtain ⟨lk, am0, F0, H0, am, F, M, δ, o, g, re, sr, h, P⟩ := q
  cases h⟩

theorem e_gs {x : Str} {i : Str} {pos : Pos} (h : ∃ t, X.mg x = some (.str i t)) (hg : Gl X x := by rfl) (hd : (x == ("__debug__" : Str)) = false := by decide) : E X C (.Name x pos) (gC (.str i)) := by
  obtain ⟨t, hm⟩ := h
  exact e_gstr hm ⟨t, rfl⟩ hg hd
theorem e_gi {x : Str} {i : Int} {pos : Pos} (h : ∃ t, X.mg x = some (.int i t)) (hg : Gl X x := by rfl) (hd : (x == ("__debug__" : Str)) = false := by decide) : E X C (.Name x pos) (gC (.int i)) := by
  obtain ⟨t, hm⟩ := h
  exact e_gint hm ⟨t, rfl⟩ hg hd
theorem pg_una {es : List Expr} {k : Nat} {t : TGs} {n : Nat} {pos : Pos} (hc : X.calm = true) (h : PGs X es t)
    (hn : (assignEach es X.env).length = n := by rfl) (hst : (assignEach es X.env).findIdx? (·.1) = none := by rfl) : PG X (.Tuple es k pos) (fun v σ H Q => L2.gTup X.K n t v σ H Q ∨ L2.gUnl X.K n t v σ H Q) :=
  ⟨fun pins s σ H v u Q I r hw => hw.elim (fun q => (pg_tup hc h hn hst).run pins s σ H v u Q I r q) fun q => (pg_unl hc h hn hst).run pins s σ H v u Q I r q⟩
theorem s_unpA {ts : List Expr} {k : Nat} {e : Expr} {is : List Nat} {ga : G} {pos pos' : Pos} (hc : X.calm = true) (ht : NT X ts is) (he : E X C e ga) (hs : swapsWithSole [.Tuple ts k pos'] e pos.line X.env = pure false := by rfl) (hw : swappedStores [.Tuple ts k pos'] e X.env = pure none := by rfl)
    (h1 : (assignEach [.Tuple ts k pos'] X.env).map (·.2) = [assign (.Tuple ts k pos') X.env] := by rfl) (hn : (assignEach ts X.env).length = is.length := by rfl) (hst : (assignEach ts X.env).findIdx? (·.1) = none := by rfl) :
    S X C Wx (.Assign [.Tuple ts k pos'] e pos) (sUnpA is ga) := wkS (ps_asg he (pg_una hc ht hn hst) hs hw h1) fun D σ H h => by
  obtain ⟨lk, am0, F0, H0, am, F, M, δ, o, g, re, sr, h, P⟩ := h
  unfold sUnpA at h
  simp only [Option.bind_eq_some_iff, Option.map_eq_some_iff, Prod.exists] at h
  obtain ⟨w, M1, h1, xs, h2, δ', h3, rfl⟩ := h
  refine ⟨lk, am, F, M, δ, H0, w, M1, re, sr, h1, fun v am1 F1 H1 g1 s1 r1 f1 => ?_⟩
  obtain ⟨a, vs, rfl, e1, d⟩ := vS_ok s1 r1 h2
  obtain ⟨re', hl⟩ := setAll_re (re.gr g1) d h3
  have q := P _ _ _ _ (g.trans g1) (.of g1) re' s1
  rcases e1 with e1 | e1
  · exact .inr ⟨a, vs, rfl, .of e1, hl, hl, q⟩
  · exact .inl ⟨a, vs, rfl, e1, hl, hl, q⟩
/-! ### truths as numbers -/
def rAddB (K : PySem.W.Frag) : R2 := fun x y H Q => (∃ b j, x = .bl b ∧ y = .int j ∧ Q (.int (b2 b + j)) H) ∨ rAddM K x y H Q
theorem op_addB : OpR X (binaryOp .Add) (rAddB X.K) := by
  intro pins s σ H x y v u Q I rx ry h
  rcases h with ⟨b, j, rfl, rfl, q⟩ | h
  · cases (show v = Value.bool b from rx)
    obtain ⟨t, rfl⟩ := ry
    exact PySem.IntBool.add_bool_int ⟨.int _, H, I.tok _, ⟨_, rfl⟩, q⟩
  · exact op_addM pins s σ H x y v u Q I rx ry h
theorem c_addB : OpC R (rAddB R.K) addB := by
  intro lk am F M H H0 x y a b z Q s ra rb h P
  unfold addB at h
  split at h
  · cases ra
    cases rb
    cases h
    exact .inl ⟨_, _, rfl, rfl, P.val s (.int _)⟩
  · exact .inr (c_add lk am F M H H0 x y a b z Q s ra rb h P)
def rSubB : R2 := fun x y H Q => (∃ b j, x = .bl b ∧ y = .int j ∧ Q (.int (b2 b - j)) H) ∨ (rI (fun _ _ => True) fun i j => .int (i - j)) x y H Q
theorem op_subB : OpR X (binaryOp .Sub) rSubB := by
  intro pins s σ H x y v u Q I rx ry h
  rcases h with ⟨b, j, rfl, rfl, q⟩ | h
  · cases (show v = Value.bool b from rx)
    obtain ⟨t, rfl⟩ := ry
    exact PySem.IntBool.sub_bool_int ⟨.int _, H, I.tok _, ⟨_, rfl⟩, q⟩
  · exact op_subM pins s σ H x y v u Q I rx ry h
theorem c_subB : OpC R rSubB subB := by
  intro lk am F M H H0 x y a b z Q s ra rb h P
  unfold subB at h
  split at h
  · cases ra
    cases rb
    cases h
    exact .inl ⟨_, _, rfl, rfl, P.val s (.int _)⟩
  · exact .inr (c_sub lk am F M H H0 x y a b z Q s ra rb h P)
theorem gives_neg_bool (b : Bool) : Gives (Builtin.«int.__neg__» ⟨[.bool b], []⟩) (.int (-b2 b)) := by
  cases b <;> exact .of_eq rfl
theorem neg_bool {prog : Program} {w : World} {A : Around} {E : Value → Shared → Prop} {s : Shared} {b : Bool} {Q : Value → Shared → Prop} (h : Q (.int (-b2 b) s.toks) { s with toks := s.toks + 1 }) : wpAny (model prog w) A (unaryOp .USub (.bool b)) Q E s :=
  unaryOp_gives (op := .USub) (typeIs_bool s b) rfl F.slot_bool_neg F.entry_int_neg (F.args_int_neg_1 _) (gives_neg_bool b) h
def rNegB : V → Hp → VK → Prop := fun x H Q => (∃ b, x = .bl b ∧ Q (.int (-b2 b)) H) ∨ (rU fun i => .int (-i)) x H Q
theorem un_negB : UnR X (unaryOp .USub) rNegB := by
  intro pins s σ H x v Q I rx h
  rcases h with ⟨b, rfl, q⟩ | h
  · cases (show v = Value.bool b from rx)
    exact neg_bool ⟨.int _, H, I.tok _, ⟨_, rfl⟩, q⟩
  · exact un_neg pins s σ H x v Q I rx h
theorem e_negB {a : Expr} {g : G} {pos : Pos} (h : E X C a g) : E X C (.UnaryOp .USub a pos) (gUn negB g) := wkE (pe_un un_negB h) fun σ H Q h => by
  obtain ⟨lk, am, F, M, δ, H0, w, M', re, sr, h, P⟩ := h
  unfold gUn at h
  simp only [Option.bind_eq_some_iff, Option.map_eq_some_iff, Prod.exists, Prod.mk.injEq] at h
  obtain ⟨a, M1, h1, z, h2, rfl, rfl⟩ := h
  refine ⟨lk, am, F, M, δ, H0, a, M1, re, sr, h1, fun v am1 F1 H1 g1 s1 r1 f1 => ?_⟩
  unfold negB at h2
  split at h2
  · cases h2
    cases r1
    exact .inl ⟨_, rfl, (P.gr g1).val s1 (.int _)⟩
  · unfold negW at h2
    split at h2
    · cases h2
      cases r1
      exact .inr ⟨_, rfl, (P.gr g1).val s1 (.int _)⟩
    · cases h2
def rStrB : List V → Hp → VK → Prop := fun xs H Q => (∃ b, xs = [V.bl b] ∧ Q (.str (if b then "True" else "False")) H) ∨ ∃ i, xs = [V.int i] ∧ i.natAbs.log2 < 1920 ∧ Q (.str (toString i)) H
theorem call_strB : CallR X (.type "str") rStrB := by
  intro pins s σ H xs us Q I r h
  rcases h with ⟨b, rfl, q⟩ | h
  · obtain ⟨u, rfl, ru⟩ := vals1 r
    cases (show u = Value.bool b from ru)
    exact PySem.P.str_of_bool ⟨.str _, H, I.tok _, ⟨_, rfl⟩, q⟩
  · exact call_str_int pins s σ H xs us Q I r h
theorem c_strB : CallC R rStrB strB := by
  intro lk am F M H H0 vs ws z Q s r h P
  unfold strB at h
  split at h
  · cases h
    obtain ⟨v, rfl, rw⟩ := rws1 r
    cases rw
    exact .inl ⟨_, rfl, P.val s (.str _)⟩
  · exact .inr (c_str lk am F M H H0 vs _ z Q s r h P)
/-! ### upper -/
theorem c_upper : MtC R (fun x xs H Q => ∃ a, x = .str a ∧ xs = [] ∧ a.length ≤ 5592405 ∧ Q (.str (Txt.upper a)) H) upperW := by
  intro lk am F M H H0 x a vs ws z Q s ra rws h P
  unfold upperW at h
  split at h
  · split at h
    · rename_i hl
      cases h
      cases ra
      cases rws
      exact ⟨_, rfl, rfl, Nat.le_trans hl (by decide), P.val s (.str _)⟩
    · cases h
  · cases h
/-! ### [::-1] -/
theorem rev_places (n : Nat) : (Builtin.Slice.sliceAdjust none none (-1) (n : Int)) = ((n : Int) - 1, -1) := rfl
theorem rev_count (n : Nat) : Builtin.Slice.slicePlaces ((n : Int) - 1) (-1) (-1) = n := by
  unfold Builtin.Slice.slicePlaces
  rw [if_neg (by decide)]
  by_cases h : n = 0
  · subst h; rfl
  · rw [if_pos (by omega)]
    have e : ((n : Int) - 1 - -1 - 1) / (- -1) + 1 = (n : Int) := by
      rw [Int.neg_neg, Int.ediv_one]; omega
    rw [e]; simp
theorem fm_congr {α β : Type} {f g : α → Option β} : ∀ {l : List α}, (∀ k ∈ l, f k = g k) → l.filterMap f = l.filterMap g
  | [], _ => rfl
  | x :: r, h => by rw [List.filterMap_cons, List.filterMap_cons, h x List.mem_cons_self, fm_congr fun k hk => h k (List.mem_cons_of_mem _ hk)]
theorem rev_pick (xs : Array Value) : ((List.range xs.size).filterMap fun (k : Nat) => xs[((xs.size : Int) - 1 + (k : Int) * -1).toNat]?).toArray = xs.toList.reverse.toArray := by
  congr 1
  have key : ∀ (l : List Value), ((List.range l.length).filterMap fun (k : Nat) => l[((l.length : Int) - 1 + (k : Int) * -1).toNat]?) = l.reverse := by
    intro l
    have h : ∀ k ∈ List.range l.length, l[((l.length : Int) - 1 + (k : Int) * -1).toNat]? = l.reverse[k]? := fun k hk => by
      have hk' : k < l.length := List.mem_range.mp hk
      rw [List.getElem?_reverse hk', show ((l.length : Int) - 1 + (k : Int) * -1).toNat = l.length - 1 - k by omega]
    rw [fm_congr h]
    have e2 : ∀ m : List Value, (List.range m.length).filterMap (fun k => m[k]?) = m := by
      intro m
      apply List.ext_getElem?
      have hf : (List.range m.length).filterMap (fun k => m[k]?) = (List.range m.length).filterMap (fun k => some (m.getD k .none)) := by
        refine fm_congr fun k hk => ?_
        have hk' : k < m.length := List.mem_range.mp hk
        rw [List.getElem?_eq_getElem hk', List.getD_eq_getElem?_getD, List.getElem?_eq_getElem hk']
        rfl
      intro i
      rw [hf, List.filterMap_eq_map', List.getElem?_map]
      by_cases hi : i < m.length
      · rw [List.getElem?_range hi, List.getElem?_eq_getElem hi]
        simp [List.getD_eq_getElem?_getD, List.getElem?_eq_getElem hi]
      · rw [List.getElem?_eq_none (by simpa using hi), List.getElem?_eq_none (by simpa using hi)]
        rfl
    have := e2 l.reverse
    rwa [List.length_reverse] at this
  have q := key xs.toList
  rw [Array.length_toList] at q
  rw [← q]
  refine fm_congr fun k _ => ?_
  rw [Array.getElem?_toList]
section
variable {prog : Program} {w : World} {A : Around} {E : Value → Shared → Prop} {s : Shared}
theorem sliceApplied_rev {sl : Addr} {v0 : Value} {n : Nat} {Q : Int × Int × Nat → Shared → Prop} (hs : s.heap.IsSliceOf sl .none .none v0) (ps : IsPart v0 (some (-1)))
    (h : Q ((n : Int) - 1, -1, n) s) : wpAny (model prog w) A (Builtin.Slice.sliceApplied (.ref sl) (pure (n : Int))) Q E s := by
  obtain ⟨os, hos, hcs, hds⟩ := id hs
  unfold Builtin.Slice.sliceApplied Builtin.Slice.sliceFields
  refine wpAny_bind (wpAny_bind (wpAny_field hos hds (x := .none) rfl (wpAny_bind (wpAny_field hos hds (x := .none) rfl (wpAny_bind (wpAny_field hos hds (x := v0) rfl (wpAny_pure ?_)))))))
  refine wpAny_bind (HT.slicePart_ ps ?_)
  show wpAny _ _ (if ((-1 : Int) == 0) = true then _ else _) _ _ s
  rw [if_neg (by decide)]
  refine wpAny_bind (HT.slicePart_ .none (wpAny_bind (HT.slicePart_ .none (wpAny_bind (wpAny_pure ?_)))))
  show wpAny _ _ (match Builtin.Slice.sliceAdjust none none (-1) (n : Int) with | (lo, hi) => pure (lo, (-1 : Int), Builtin.Slice.slicePlaces lo hi (-1))) _ _ s
  rw [rev_places]
  show wpAny _ _ (pure ((n : Int) - 1, (-1 : Int), Builtin.Slice.slicePlaces ((n : Int) - 1) (-1) (-1))) _ _ s
  rw [rev_count]
  exact wpAny_pure h
theorem getItem_tuple_rev {t sl : Addr} {items : Array Value} {v0 : Value} {Q : Value → Shared → Prop} (ht : PyProof.Rows.IsTup s.heap t items) (hs : s.heap.IsSliceOf sl .none .none v0) (ps : IsPart v0 (some (-1)))
    (h : Q (.ref s.heap.objs.size) { s with heap := s.heap.push { cls := .type "tuple", data := .seq items.toList.reverse.toArray } }) (hsz : items.size ≤ sizeLine) : wpAny (model prog w) A (getItem (.ref t) (.ref sl)) Q E s := by
  have htake : sizeOk (.seq items.toList.reverse.toArray) := by
    show items.toList.reverse.toArray.size ≤ sizeLine
    rw [List.size_toArray, List.length_reverse, Array.length_toList]; exact hsz
  obtain ⟨os, hos, hcs, hds⟩ := id hs
  have hTs : s.TypeIs (.ref sl) "slice" := ⟨os, hos, hcs⟩
  unfold getItem
  try with_reducible refine wpAny_holding ?_
  first | refine wpAny_bind (wpAny_pure ?_) | skip
  refine wpAny_bind (wpAny_sequenceKey ht.typeIs (by decide) ?_)
  refine wpAny_bind (wpAny_callSpecial?_slot (name := Str.ofString "__getitem__") ht.typeIs PyProof.Rows.slot_tuple_getitem
    (wpAny_call_entry PyProof.Rows.slot_tuple_getitem ht.typeIs PyProof.Rows.entry_tuple_getitem ?_ (PyProof.Rows.args_tuple_getitem _ _)))
  show wpAny _ _ (Builtin.Tuple.tupleItemsOf (.ref t) >>= _) _ _ s
  refine wpAny_bind (PyProof.Rows.tupleItemsOf_ ht ?_)
  refine wpAny_bind (wpAny_typeOf hTs ?_)
  rw [if_pos (by decide)]
  refine wpAny_bind (sliceApplied_rev hs ps ?_)
  have hno : ¬ ((((items.size : Int) - 1) == 0 && (-1 : Int) == 1 && items.size == items.size) = true) := by
    intro q
    rw [Bool.and_eq_true, Bool.and_eq_true] at q
    exact absurd (eq_of_beq q.1.2) (by decide)
  show wpAny _ _ (if (((items.size : Int) - 1) == 0 && (-1 : Int) == 1 && items.size == items.size) = true then _ else _) _ _ s
  rw [if_neg hno, rev_pick]
  first
    | exact wpAny_bind (m := Builtin.Tuple.tupleExact _) (wpAny_newObj_type (wpAny_pure ⟨_, rfl, wpAny_pure h⟩) htake)
    | exact wpAny_bind (m := Builtin.Tuple.tupleExact _) (wpAny_newObj_type (wpAny_bind (wpAny_pure (wpAny_pure ⟨_, rfl, wpAny_pure h⟩))) htake)
    | exact wpAny_bind (wpAny_bind (m := Builtin.Tuple.tupleExact _) (wpAny_newObj_type (wpAny_pure (wpAny_pure ⟨_, rfl, wpAny_pure h⟩)) htake))
    | exact wpAny_bind (wpAny_bind (m := Builtin.Tuple.tupleExact _) (wpAny_newObj_type (wpAny_pure ⟨_, rfl, wpAny_pure h⟩) htake))
end
theorem pe_revA {e : Expr} {te : TE} {k : Nat} {p1 p2 p3 pos : Pos} (he : PE X e te) : PE X (.Subscript e (.Slice none none (some (.UnaryOp .USub (.Constant (.int 1) k p1) p2)) p3) pos)
    (fun σ H Q => te σ H fun x H1 => ∃ a xs, x = .ref a ∧ ((SqL X.K H1 a xs ∧ ∀ p, H1 p = none → Q (.ref p) (upd H1 p (.lst xs.reverse))) ∨ (SqT X.K H1 a xs ∧ NewP H1 xs.reverse Q))) := by
  refine ⟨fun pins s σ H Q I h => ?_⟩
  refine PyProof.Rows.Subscript_ (thn (he.run pins s σ H _ I h) fun v s1 ⟨x, H1, I1, r1, q1⟩ => ?_)
  obtain ⟨a, xs, ex, q⟩ := q1
  subst ex
  cases r1
  have hst : PO X (some (.UnaryOp .USub (.Constant (.int 1) k p1) p2)) (tPart (tUn (rU fun i => .int (-i)) (tC (.int 1)))) := po_some (pe_un un_neg pe_int)
  refine wpAny_Slice (thn (po_none.run pins s1 σ H1 (fun o H2 => o = none ∧ H2 = H1) I1 ⟨rfl, rfl⟩) fun vl s2 ⟨l, H2, I2, pl, el, e2⟩ => ?_)
  subst el e2
  refine thn (po_none.run pins s2 σ H2 (fun o H3 => o = none ∧ H3 = H2) I2 ⟨rfl, rfl⟩) fun vu s3 ⟨u, H3, I3, pu, eu, e3⟩ => ?_
  subst eu e3
  refine thn (hst.run pins s3 σ H3 (fun o H4 => o = some (-1) ∧ H4 = H3) I3 ⟨1, rfl, -1, rfl, rfl, rfl⟩) fun vs s4 ⟨o, H4, I4, ps, eo, e4⟩ => ?_
  subst eo e4
  have I5 : Inv X pins σ H4 { s4 with heap := s4.heap.push { cls := .type "slice", data := .fields #[vl, vu, vs] } } := I4.kept (t' := s4.toks) fun b ob q => Heap.get?_push_of_some _ q
  rcases q with ⟨hx, q⟩ | ⟨hx, q⟩
  · obtain ⟨its, r, ht, hz⟩ := I5.list hx
    have hlen := r.length
    show wpAny (model X.prog X.w) X.A (PyProof.Rows.subscriptTail e (.Slice none none (some (.UnaryOp .USub (.Constant (.int 1) k p1) p2)) p3) (.ref a) (.ref s4.heap.objs.size)) (EP X pins σ Q) X.xe { s4 with heap := s4.heap.push { cls := .type "slice", data := .fields #[vl, vu, vs] } }
    refine PyProof.Rows.tail_any (ops := [.ref a, .ref s4.heap.objs.size]) ht.isList.typeIs (PySem.slot_list_getitem.lookup) ?_ (by with_unfolding_all rfl)
    refine wpAny_getItem_list_slice ht.isList (Heap.IsSliceOf.new _ vl vu vs) pl pu ps (by decide) ?_ (by rw [List.size_toArray]; omega)
    rw [PySem.W.krv_pick]
    refine ⟨.ref _, _, I5.laid (t' := s4.toks) (o := .lst xs.reverse) (fun b ob q => Heap.get?_push_of_some _ q) (Nat.le_refl _) ?_, rfl, q _ (I5.hok.fresh (Nat.le_refl _))⟩
    exact ⟨by rw [List.length_reverse]; exact hz, _, 0, r.reverse, Heap.get?_push_size _ rfl⟩
  · obtain ⟨its, r, ht, hz⟩ := I5.tuple hx
    have hlen := r.length
    show wpAny (model X.prog X.w) X.A (PyProof.Rows.subscriptTail e (.Slice none none (some (.UnaryOp .USub (.Constant (.int 1) k p1) p2)) p3) (.ref a) (.ref s4.heap.objs.size)) (EP X pins σ Q) X.xe { s4 with heap := s4.heap.push { cls := .type "slice", data := .fields #[vl, vu, vs] } }
    refine PyProof.Rows.tail_any (ops := [.ref a, .ref s4.heap.objs.size]) ht.typeIs (PyProof.Rows.slot_tuple_getitem.lookup) ?_ (by with_unfolding_all rfl)
    cases pl
    cases pu
    refine getItem_tuple_rev ht (Heap.IsSliceOf.new _ .none .none vs) ps ?_ (by rw [List.size_toArray]; omega)
    exact newP_at (t := s4.toks) I5 r.reverse (by rw [List.length_reverse]; exact hz) q
theorem DVs.reverse {K : PySem.W.Frag} {vs : List V} {xs : List D} (h : DVs K am F vs xs) : DVs K am F vs.reverse xs.reverse := by
  induction xs generalizing vs with
  | nil => cases h; exact .nil
  | cons x xs ih =>
    cases h with
    | cons d t =>
      rw [List.reverse_cons, List.reverse_cons]
      exact (ih t).append (.cons d .nil)
theorem e_rev {e : Expr} {g : G} {k : Nat} {p1 p2 p3 pos : Pos} (h : E X C e g) : E X C (.Subscript e (.Slice none none (some (.UnaryOp .USub (.Constant (.int 1) k p1) p2)) p3) pos) (gUn revW g) := wkE (pe_revA h) fun σ H Q h => by
  obtain ⟨lk, am, F, M, δ, H0, w, M', re, sr, h, P⟩ := h
  unfold gUn at h
  simp only [Option.bind_eq_some_iff, Option.map_eq_some_iff, Prod.exists, Prod.mk.injEq] at h
  obtain ⟨a, M1, h1, z, h2, rfl, rfl⟩ := h
  refine ⟨lk, am, F, M, δ, H0, a, M1, re, sr, h1, fun v am1 F1 H1 g1 s1 r1 f1 => ?_⟩
  unfold revW at h2
  split at h2
  · rename_i xs
    cases h2
    obtain ⟨p, vs, rfl, hq, _, d⟩ := vT_ok s1 r1 (xs := xs) rfl
    exact ⟨p, vs, rfl, .inr ⟨hq, (P.gr g1).newP s1 d.reverse⟩⟩
  · rename_i xs
    cases h2
    obtain ⟨p, vs, rfl, hq, _, d⟩ := vT_ok s1 r1 (xs := xs) rfl
    exact ⟨p, vs, rfl, .inr ⟨hq, (P.gr g1).newP s1 d.reverse⟩⟩
  · obtain ⟨xs, h3, rfl⟩ := Option.map_eq_some_iff.mp h2
    obtain ⟨p, vs, rfl, hq, d⟩ := vL_ok s1 r1 h3
    exact ⟨p, vs, rfl, .inl ⟨.of hq, (P.gr g1).newL s1 d.reverse⟩⟩

/-! ### a slot's list is frozen -/
theorem RE.frz {σ : St} {δ : En} {i : Nat} {a : Addr} {xs : List D} (r : RE R.K lk am F H H0 σ δ) (s : SR R lk am F M H) (hi : δ[i]? = some (some (.ol xs))) (hs : σ[i]? = some (some (.ref a))) :
    RE R.K lk am (frzAt F H a) H H0 σ (δ.set i (some (.d (.lst xs)))) := by
  obtain ⟨b, e0, r0, h0, hF, hn⟩ := r.owned hi rfl
  rw [hs] at e0
  cases e0
  obtain ⟨c, vs, e1, h1, _, _, _, ds⟩ := r0
  cases e1
  have l := le_frzAt s a
  refine ⟨by rw [List.length_set]; exact r.len, fun j u h => ?_, fun j u z h hu hz => ?_, fun j k u t z hjk h1 o1 h2 o2 hz => ?_⟩
  · rcases set_at h with ⟨rfl, hl, e⟩ | ⟨hne, h⟩
    · cases e
      exact ⟨_, hs, .lst (by rw [frzAt_same]; exact h1) (ds.le l), rfl⟩
    · obtain ⟨v', e1, e2, e3⟩ := r.at_ j u h
      refine ⟨v', e1, ?_, e3⟩
      cases u with
      | d x => exact DV.le l e2
      | ol ys =>
        obtain ⟨b, us, rfl, k1, k2, k3, k4, k5⟩ := e2
        have hb : b ≠ a := fun e => r.dis i j _ _ _ hne hi rfl h rfl hs (by rw [e1, e])
        exact ⟨b, us, rfl, k1, by rw [frzAt_ne hb]; exact k2, k3, k4, k5.le l⟩
      | od m ys =>
        obtain ⟨b, us, rfl, k1, k2, k3, k4, k5⟩ := e2
        have hb : b ≠ a := fun e => r.dis i j _ _ _ hne hi rfl h rfl hs (by rw [e1, e])
        exact ⟨b, us, rfl, k1, by rw [frzAt_ne hb]; exact k2, k3, k4, k5.le l⟩
      | fr _ => cases e3
      | fd _ => cases e3
  · rcases set_at h with ⟨rfl, hl, e⟩ | ⟨hne, h⟩
    · cases e; cases hu
    · exact r.own j u z h hu hz
  · rcases set_at h1 with ⟨rfl, hl, e⟩ | ⟨hne, h1⟩
    · cases e; cases o1
    · rcases set_at h2 with ⟨rfl, hl, e⟩ | ⟨hne2, h2⟩
      · cases e; cases o2
      · exact r.dis j k u t z hjk h1 o1 h2 o2 hz
theorem s_frz {st : Stmt} {g : GS} (i : Nat) (h : S X C Wx st g) : S X C Wx st (sFrz i g) := wkS h fun D σ H h => by
  obtain ⟨lk, am0, F0, H0, am, F, M, δ, o, gr, re, sr, h, P⟩ := h
  unfold sFrz frzSlot at h
  split at h
  · rename_i xs hi
    obtain ⟨a, hs, r0, h0, hF, hn⟩ := re.owned hi rfl
    obtain ⟨c, vs, e1, h1, _, _, hl, ds⟩ := r0
    cases e1
    exact ⟨lk, am0, F0, H0, am, frzAt F H a, M, _, o, gr.freeze sr h0, re.frz sr hi hs, sr.freeze hn hl, h, P.mo ⟨⟨[], by simp⟩, le_frzAt sr a⟩⟩
  · exact ⟨lk, am0, F0, H0, am, F, M, _, o, gr, re, sr, h, P⟩

/-! ### two items exchanged -/
theorem s_swap {n k i j : Nat} {x xi xj : Str} {e1 e2 : Expr} {px px' pi pj p2 p3 pt pt2 pos : Pos} {kt k2 : Nat} (hr : Room n X.A) (hc : X.calm = true) (he : A X C [e1, e2] (aCons (gBin ixW (gVar k) (gVar j)) (aCons (gBin ixW (gVar k) (gVar i)) aNil)))
    (hk : X.N[k]? = some x := by rfl) (hi : X.N[i]? = some xi := by rfl) (hj : X.N[j]? = some xj := by rfl)
    (hv : Vis X.env.scope x := by first | exact Or.inl rfl | exact Or.inr (Or.inl rfl) | exact Or.inr (Or.inr rfl)) (hd : (x == ("__debug__" : Str)) = false := by decide) (hcd : (x == ("__classdict__" : Str)) = false := by decide)
    (hvi : Vis X.env.scope xi := by first | exact Or.inl rfl | exact Or.inr (Or.inl rfl) | exact Or.inr (Or.inr rfl)) (hdi : (xi == ("__debug__" : Str)) = false := by decide) (hcdi : (xi == ("__classdict__" : Str)) = false := by decide)
    (hvj : Vis X.env.scope xj := by first | exact Or.inl rfl | exact Or.inr (Or.inl rfl) | exact Or.inr (Or.inr rfl)) (hdj : (xj == ("__debug__" : Str)) = false := by decide) (hcdj : (xj == ("__classdict__" : Str)) = false := by decide)
    (ha : ∀ v, assign (.Subscript (.Name x px) (.Name xi pi) p2) X.env v = (do let ov ← holding [v] (eval (.Name x px) X.env); let iv ← holding [v, ov] (eval (.Name xi pi) X.env); standAt p2; holding [v, ov, iv] (setItem ov iv v); release [v, ov, iv] []) := by intro _; rfl)
    (hb : ∀ v, assign (.Subscript (.Name x px') (.Name xj pj) p3) X.env v = (do let ov ← holding [v] (eval (.Name x px') X.env); let iv ← holding [v, ov] (eval (.Name xj pj) X.env); standAt p3; holding [v, ov, iv] (setItem ov iv v); release [v, ov, iv] []) := by intro _; rfl)
    (hs1 : (assignEach [.Subscript (.Name x px) (.Name xi pi) p2, .Subscript (.Name x px') (.Name xj pj) p3] X.env).map (·.2) = assign (.Subscript (.Name x px) (.Name xi pi) p2) X.env :: (assignEach [.Subscript (.Name x px') (.Name xj pj) p3] X.env).map (·.2) := by rfl)
    (hs2 : (assignEach [.Subscript (.Name x px') (.Name xj pj) p3] X.env).map (·.2) = assign (.Subscript (.Name x px') (.Name xj pj) p3) X.env :: (assignEach [] X.env).map (·.2) := by rfl)
    (hn : (assignEach [.Subscript (.Name x px) (.Name xi pi) p2, .Subscript (.Name x px') (.Name xj pj) p3] X.env).length = 2 := by rfl) (hst : (assignEach [.Subscript (.Name x px) (.Name xi pi) p2, .Subscript (.Name x px') (.Name xj pj) p3] X.env).findIdx? (·.1) = none := by rfl)
    (hs : swapsWithSole [.Tuple [.Subscript (.Name x px) (.Name xi pi) p2, .Subscript (.Name x px') (.Name xj pj) p3] kt pt] (.Tuple [e1, e2] k2 pt2) pos.line X.env = pure false := by rfl)
    (hw : swappedStores [.Tuple [.Subscript (.Name x px) (.Name xi pi) p2, .Subscript (.Name x px') (.Name xj pj) p3] kt pt] (.Tuple [e1, e2] k2 pt2) X.env = pure none := by rfl)
    (h1 : (assignEach [.Tuple [.Subscript (.Name x px) (.Name xi pi) p2, .Subscript (.Name x px') (.Name xj pj) p3] kt pt] X.env).map (·.2) = [assign (.Tuple [.Subscript (.Name x px) (.Name xi pi) p2, .Subscript (.Name x px') (.Name xj pj) p3] kt pt) X.env] := by rfl) :
    S X C Wx (.Assign [.Tuple [.Subscript (.Name x px) (.Name xi pi) p2, .Subscript (.Name x px') (.Name xj pj) p3] kt pt] (.Tuple [e1, e2] k2 pt2) pos) (sSwap k i j) :=
  wkS (ps_asg (e_tupP (k := k2) (pos := pt2) he) (pg_tup (n := 2) hc (pgs_cons (pg_sub (pe_var hk hv hd hcd) (pe_var hi hvi hdi hcdi) (setM (hu_of hr)) ha) (pgs_cons (pg_sub (pe_var hk hv hd hcd) (pe_var hj hvj hdj hcdj) (setM (hu_of hr)) hb) pgs_nil hs2) hs1) hn hst) hs hw h1) fun D σ H h => by
  obtain ⟨lk, am0, F0, H0, am, F, M, δ, o, g, re, sr, h, P⟩ := h
  unfold sSwap at h
  split at h
  · rename_i xs a b hk' hi' hj'
    simp only [Option.bind_eq_some_iff, Option.map_eq_some_iff] at h
    obtain ⟨dx, ex, dy, ey, na, en, nb, em, rfl⟩ := h
    have hG : gTupP (aCons (gBin ixW (gVar k) (gVar j)) (aCons (gBin ixW (gVar k) (gVar i)) aNil)) δ M = some (.d (.tpl [dy, dx]), M) := by
      have ix : ∀ i, ixW (.ol xs) (.d (.int i)) M = (atI xs i).map .d := fun _ => rfl
      simp only [gTupP, gBlt, aCons, gBin, gVar, aNil, hk', hi', hj', ix, ex, ey, Option.bind_some, Option.map_some]
      rfl
    refine ⟨lk, am, F, M, δ, H0, _, M, re, sr, hG, fun v am1 F1 H1 g1 s1 r1 f1 => ?_⟩
    obtain ⟨T, vs, rfl, hT, _, dv⟩ := vT_ok s1 r1 (xs := [dy, dx]) rfl
    cases dv with
    | @cons vy _ _ _ d1 dv =>
      cases dv with
      | @cons vx _ _ _ d2 dv =>
        cases dv
        refine ⟨T, _, rfl, hT, rfl, vy, [vx], rfl, ?_⟩
        have re1 := re.gr g1
        obtain ⟨p, hσ, rp, h0, hF, hn'⟩ := re1.owned hk' rfl
        obtain ⟨vi, hσi, ri, _⟩ := re1.at_ i _ hi'
        cases (show DV X.K am1 F1 vi (.int a) from ri)
        obtain ⟨vj, hσj, rj, _⟩ := re1.at_ j _ hj'
        cases (show DV X.K am1 F1 vj (.int b) from rj)
        have hs1' : setW (.ol xs) (.d (.int a)) dy = some (.ol (xs.set na dy)) := by show (ixN xs.length a).map _ = _; rw [en]; rfl
        obtain ⟨ob, rn, hon, hlk, q⟩ := set_own (lk := lk) rp (show RW X.K lk _ _ _ (.int a) (.d (.int a)) from DV.int a) d1 hs1'
        refine ⟨.ref p, hσ, .int a, hσi, q _ ?_⟩
        have g2 := (g.trans g1).out (o := ob) h0
        have re2 := re1.mut hk' rfl hσ rfl rn
        have s2 := s1.out (o := ob) hn' hF hlk
        refine ⟨vx, [], rfl, ?_⟩
        have hk2 : (δ.set k (some (W.ol (xs.set na dy))))[k]? = some (some (.ol (xs.set na dy))) := by
          rw [List.getElem?_set_self (List.getElem?_eq_some_iff.mp hk').1]
        obtain ⟨p', hσ', rp', h0', hF', hn2⟩ := re2.owned hk2 rfl
        rw [hσ] at hσ'
        cases hσ'
        have hs2' : setW (.ol (xs.set na dy)) (.d (.int b)) dx = some (.ol ((xs.set na dy).set nb dx)) := by show (ixN (xs.set na dy).length b).map _ = _; rw [List.length_set, em]; rfl
        obtain ⟨ob2, rn2, hon2, hlk2, q2⟩ := set_own (lk := lk) rp' (show RW X.K lk _ _ _ (.int b) (.d (.int b)) from DV.int b) d2 hs2'
        refine ⟨.ref p, hσ, .int b, hσj, q2 _ ⟨rfl, ?_⟩⟩
        have e3 : (δ.set k (some (W.ol (xs.set na dy)))).set k (some (.ol ((xs.set na dy).set nb dx))) = δ.set k (some (.ol ((xs.set na dy).set nb dx))) := by rw [List.set_set]
        have re3 := re2.mut hk2 rfl hσ rfl rn2
        rw [e3] at re3
        exact P _ _ _ _ (g2.out h0) (.of g1) re3 (s2.out hn2 hF' hlk2)
  · cases h
end
end Mi
/-! MiZip: dict(zip(..)) over lists and tuples alike. -/
namespace Mi
open PySem L2
open Sem (wp)
theorem ItB.extB {b : Bool} {h h' : Heap} {it a e : Addr} {i : Nat} (x : ItB b h it a i) (k : Heap.ExtBut e h h') (n : it ≠ e) : ItB b h' it a i := x.at fun o q => k _ _ n q
theorem ObB.at' {b : Bool} {h h' : Heap} {l : Addr} {items : Array Value} (x : ObB b h l items) (k : ∀ o, h.get? l = some o → h'.get? l = some o) : ObB b h' l items := by
  cases b with
  | true => exact Heap.IsTuple.at x k
  | false => exact Heap.IsList.at x k
theorem ObB.extB {b : Bool} {h h' : Heap} {l e : Addr} {items : Array Value} (x : ObB b h l items) (k : Heap.ExtBut e h h') (n : l ≠ e) : ObB b h' l items := x.at' fun o q => k _ _ n q
theorem ObB.there {b : Bool} {h : Heap} {l : Addr} {items : Array Value} (x : ObB b h l items) : ∃ o, h.get? l = some o := by
  cases b with
  | true => obtain ⟨o, e, _⟩ := (show h.IsTuple l items from x); exact ⟨o, e⟩
  | false => obtain ⟨o, e, _⟩ := (show h.IsList l items from x); exact ⟨o, e⟩
section
variable {prog : Program} {w : World} {A : Around} {E : Value → Shared → Prop} {s : Shared}
theorem nextB_item {b : Bool} {it t : Addr} {i : Nat} {items : Array Value} {x : Value} {Q : Value → Shared → Prop} (hit : ItB b s.heap it t i) (ht : ObB b s.heap t items) (hx : items[i]? = some x)
    (hQ : ∀ h', ItB b h' it t (i + 1) → Heap.SameBut it s.heap h' → Q x { s with heap := h' }) : wpAny (model prog w) A (Builtin.SmallTypes.nextOf (.ref it)) Q E s := by
  cases b with
  | true => exact wpAny_nextOf_tuple_item hit ht hx hQ
  | false => exact wpAny_nextOf_list_item hit ht hx hQ
theorem nextB_end {b : Bool} {it t : Addr} {i : Nat} {items : Array Value} {Q : Value → Shared → Prop} (hh : A.handled = none) (hit : ItB b s.heap it t i) (ht : ObB b s.heap t items) (hx : items[i]? = none)
    (hE : ∀ h' e, Heap.ExtBut it s.heap h' → (∃ o, h'.get? e = some o ∧ o.cls = .type "StopIteration") → E (.ref e) { s with heap := h' }) : wpAny (model prog w) A (Builtin.SmallTypes.nextOf (.ref it)) Q E s := by
  cases b with
  | true => exact wpAny_nextOf_tuple_end hh hit ht hx hE
  | false => exact wpAny_nextOf_list_end hh hit ht hx hE
variable {z TI TO T i1 i2 l1 l2 : Addr} {b c f : Bool} {oT : Obj} {k1 k2 : Nat} {xs ys : Array Value}
theorem zipB_item_held {x y : Value} {Q : Value → Shared → Prop} (D : ZipApart z TI TO i1 i2 l1 l2)
    (hz : IsZipHeld s.heap z TI TO T f) (hT : s.heap.get? T = some oT) (hTI : IsPair s.heap TI (.ref i1) (.ref i2))
    (h1 : ItB b s.heap i1 l1 k1) (h2 : ItB c s.heap i2 l2 k2) (hl1 : ObB b s.heap l1 xs) (hl2 : ObB c s.heap l2 ys) (hx : xs[k1]? = some x) (hy : ys[k2]? = some y)
    (hQ : ∀ h', IsZipHeld h' z TI TO T true → ItB b h' i1 l1 (k1 + 1) → ItB c h' i2 l2 (k2 + 1) → IsPair h' s.heap.objs.size x y → h'.objs.size = s.heap.objs.size + 1 →
      (∀ c o, c ≠ z → c ≠ i1 → c ≠ i2 → s.heap.get? c = some o → h'.get? c = some o) → Q (.ref s.heap.objs.size) { s with heap := h' }) :
    wpAny (model prog w) A (Builtin.«zip.__next__» ⟨[.ref z], []⟩) (fun fin s' => ∃ v, fin = .done (.ret v) ∧ Q v s') E s := by
  show wpAny _ _ (field (.ref z) 2 >>= _) _ _ _
  refine wpAny_bind (wpAny_field hz rfl (x := .bool false) rfl ?_)
  show wpAny _ _ (field (.ref z) 3 >>= _) _ _ _
  refine wpAny_bind (wpAny_field hz rfl (x := .ref TI) rfl ?_)
  refine wpAny_bind (wpAny_seqItems hTI rfl ?_)
  show wpAny _ _ (Builtin.SmallTypes.ownedTupleIsFree (.ref z) >>= _) _ _ _
  refine wpAny_bind (wpAny_tupleHeld_zip hz hT fun h₁ hz₁ hs₁ => ?_)
  simp only [Bool.false_eq_true, if_false]
  refine wpAny_bind ?_
  rw [← Array.forIn_toList]
  simp only [List.forIn_cons, List.forIn_nil]
  refine wpAny_bind (wpAny_bind (wpAny_holding ?_))
  show wpAny _ _ (Builtin.SmallTypes.nextOf (.ref i1) >>= _) _ _ _
  refine wpAny_bind (nextB_item (s := { s with heap := h₁ }) (h1.extB hs₁.extBut D.i1z) (hl1.extB hs₁.extBut D.l1z) hx fun h₂ h1₂ hs₂ => wpAny_pure ?_)
  refine wpAny_pure ?_
  refine wpAny_bind (wpAny_bind (wpAny_holding ?_))
  show wpAny _ _ (Builtin.SmallTypes.nextOf (.ref i2) >>= _) _ _ _
  refine wpAny_bind (nextB_item (s := { s with heap := h₂ }) ((h2.extB hs₁.extBut D.i2z).extB hs₂.extBut D.i12.symm) ((hl2.extB hs₁.extBut D.l2z).extB hs₂.extBut D.l2i1) hy fun h₃ h2₃ hs₃ => wpAny_pure ?_)
  refine wpAny_pure (wpAny_pure ?_)
  show wpAny _ _ (newTuple [x, y] >>= _) _ _ _
  refine wpAny_bind (wpAny_newTuple ?_)
  have hsz : h₃.objs.size = s.heap.objs.size := by rw [hs₃.1, hs₂.1, hs₁.1]
  have hz₃ : IsZipHeld h₃ z TI TO T true := hs₃.extBut _ _ D.i2z.symm (hs₂.extBut _ _ D.i1z.symm hz₁)
  have hk : ∀ c o, c ≠ z → c ≠ i1 → c ≠ i2 → s.heap.get? c = some o → h₃.get? c = some o := fun c o c1 c2 c3 e => hs₃.extBut _ _ c3 (hs₂.extBut _ _ c2 (hs₁.extBut _ _ c1 e))
  have h1₃ : ItB b h₃ i1 l1 (k1 + 1) := h1₂.extB hs₃.extBut D.i12
  refine wpAny_pure ⟨_, rfl, ?_⟩
  show Q (.ref h₃.objs.size) _
  have hp : IsPair (h₃.push { cls := .type "tuple", data := .seq #[x, y] }) h₃.objs.size x y := Heap.get?_push_size _ rfl
  have hz4 : (h₃.push { cls := .type "tuple", data := .seq #[x, y] }).objs.size = h₃.objs.size + 1 := Heap.size_push ..
  rw [hsz] at hp hz4 ⊢
  exact hQ _ (Heap.get?_push_of_some _ hz₃) (h1₃.at fun o e => Heap.get?_push_of_some _ e) (h2₃.at fun o e => Heap.get?_push_of_some _ e) hp hz4 fun c o c1 c2 c3 e => Heap.get?_push_of_some _ (hk c o c1 c2 c3 e)
theorem zipB_end_held {Q : Fin → Shared → Prop} (hh : A.handled = none) (D : ZipApart z TI TO i1 i2 l1 l2)
    (hz : IsZipHeld s.heap z TI TO T f) (hT : s.heap.get? T = some oT) (hTI : IsPair s.heap TI (.ref i1) (.ref i2))
    (h1 : ItB b s.heap i1 l1 k1) (h2 : ItB c s.heap i2 l2 k2) (hl1 : ObB b s.heap l1 xs) (hl2 : ObB c s.heap l2 ys) (hend : xs[k1]? = none ∨ ys[k2]? = none)
    (hE : ∀ h' e, (∀ c o, c ≠ z → c ≠ i1 → c ≠ i2 → s.heap.get? c = some o → h'.get? c = some o) → (∃ o, h'.get? e = some o ∧ o.cls = .type "StopIteration") → E (.ref e) { s with heap := h' }) :
    wpAny (model prog w) A (Builtin.«zip.__next__» ⟨[.ref z], []⟩) Q E s := by
  show wpAny _ _ (field (.ref z) 2 >>= _) _ _ _
  refine wpAny_bind (wpAny_field hz rfl (x := .bool false) rfl ?_)
  show wpAny _ _ (field (.ref z) 3 >>= _) _ _ _
  refine wpAny_bind (wpAny_field hz rfl (x := .ref TI) rfl ?_)
  refine wpAny_bind (wpAny_seqItems hTI rfl ?_)
  show wpAny _ _ (Builtin.SmallTypes.ownedTupleIsFree (.ref z) >>= _) _ _ _
  refine wpAny_bind (wpAny_tupleHeld_zip hz hT fun h₁ hz₁ hs₁ => ?_)
  simp only [Bool.false_eq_true, if_false]
  refine wpAny_bind ?_
  rw [← Array.forIn_toList]
  simp only [List.forIn_cons, List.forIn_nil]
  refine wpAny_bind (wpAny_bind (wpAny_holding ?_))
  show wpAny _ _ (Builtin.SmallTypes.nextOf (.ref i1) >>= _) _ _ _
  cases hx : xs[k1]? with
  | none =>
    refine wpAny_bind (nextB_end (s := { s with heap := h₁ }) hh (h1.extB hs₁.extBut D.i1z) (hl1.extB hs₁.extBut D.l1z) hx fun h₂ e hs₂ he => ?_)
    exact hE h₂ e (fun c o c1 c2 _ x => hs₂ _ _ c2 (hs₁.extBut _ _ c1 x)) he
  | some x =>
    have hy : ys[k2]? = none := by rcases hend with h | h; rw [hx] at h; cases h; exact h
    refine wpAny_bind (nextB_item (s := { s with heap := h₁ }) (h1.extB hs₁.extBut D.i1z) (hl1.extB hs₁.extBut D.l1z) hx fun h₂ h1₂ hs₂ => wpAny_pure ?_)
    refine wpAny_pure ?_
    refine wpAny_bind (wpAny_bind (wpAny_holding ?_))
    show wpAny _ _ (Builtin.SmallTypes.nextOf (.ref i2) >>= _) _ _ _
    refine wpAny_bind (nextB_end (s := { s with heap := h₂ }) hh ((h2.extB hs₁.extBut D.i2z).extB hs₂.extBut D.i12.symm) ((hl2.extB hs₁.extBut D.l2z).extB hs₂.extBut D.l2i1) hy fun h₃ e hs₃ he => ?_)
    exact hE h₃ e (fun c o c1 c2 c3 x => hs₃ _ _ c3 (hs₂.extBut _ _ c2 (hs₁.extBut _ _ c1 x))) he
theorem pyNext_zipB_item_held {x y : Value} {Q : Option Value → Shared → Prop} (D : ZipApart z TI TO i1 i2 l1 l2)
    (hz : IsZipHeld s.heap z TI TO T f) (hT : s.heap.get? T = some oT) (hTI : IsPair s.heap TI (.ref i1) (.ref i2))
    (h1 : ItB b s.heap i1 l1 k1) (h2 : ItB c s.heap i2 l2 k2) (hl1 : ObB b s.heap l1 xs) (hl2 : ObB c s.heap l2 ys) (hx : xs[k1]? = some x) (hy : ys[k2]? = some y)
    (hQ : ∀ h', IsZipHeld h' z TI TO T true → ItB b h' i1 l1 (k1 + 1) → ItB c h' i2 l2 (k2 + 1) → IsPair h' s.heap.objs.size x y → h'.objs.size = s.heap.objs.size + 1 →
      (∀ c o, c ≠ z → c ≠ i1 → c ≠ i2 → s.heap.get? c = some o → h'.get? c = some o) → Q (some (.ref s.heap.objs.size)) { s with heap := h' }) :
    wpAny (model prog w) A (pyNext (.ref z)) Q E s := by
  have hTy : s.TypeIs (.ref z) "zip" := ⟨_, hz, rfl⟩
  unfold pyNext
  exact wpAny_bind (wpAny_attempt (wpAny_callSpecial?_slot (name := Str.ofString "__next__") hTy F.slot_zip_next
    (wpAny_call_entry F.slot_zip_next hTy F.entry_zip_next
      (zipB_item_held D hz hT hTI h1 h2 hl1 hl2 hx hy fun h' a1 a3 a4 a5 a6 a7 => wpAny_pure (hQ h' a1 a3 a4 a5 a6 a7)) (F.args_zip_next_1 _))))
theorem pyNext_zipB_end_held {Q : Option Value → Shared → Prop} (hh : A.handled = none) (D : ZipApart z TI TO i1 i2 l1 l2)
    (hz : IsZipHeld s.heap z TI TO T f) (hT : s.heap.get? T = some oT) (hTI : IsPair s.heap TI (.ref i1) (.ref i2))
    (h1 : ItB b s.heap i1 l1 k1) (h2 : ItB c s.heap i2 l2 k2) (hl1 : ObB b s.heap l1 xs) (hl2 : ObB c s.heap l2 ys) (hend : xs[k1]? = none ∨ ys[k2]? = none)
    (hQ : ∀ h', (∀ c o, c ≠ z → c ≠ i1 → c ≠ i2 → s.heap.get? c = some o → h'.get? c = some o) → Q none { s with heap := h' }) : wpAny (model prog w) A (pyNext (.ref z)) Q E s := by
  have hTy : s.TypeIs (.ref z) "zip" := ⟨_, hz, rfl⟩
  unfold pyNext
  refine wpAny_bind (wpAny_attempt (wpAny_callSpecial?_slot (name := Str.ofString "__next__") hTy F.slot_zip_next
    (wpAny_call_entry F.slot_zip_next hTy F.entry_zip_next (zipB_end_held hh D hz hT hTI h1 h2 hl1 hl2 hend fun h' e hk he => ?_) (F.args_zip_next_1 _))))
  obtain ⟨o, ho, hc⟩ := he
  refine wpAny_bind (wpAny_isInstance (T := "StopIteration") (b := true) ⟨o, ho, hc⟩ isSubtype_stop ?_)
  exact wpAny_pure (hQ _ hk)
end
section
variable {prog : Program} {w : World}
theorem pairArg_zipB (b c : Bool) (z TI TO i1 i2 l1 l2 : Addr) (S : ZipSep2 z TI TO i1 i2 [i1, l1] [i2, l2]) (D : ZipApart z TI TO i1 i2 l1 l2) (xs ys : Array Value) :
    PairArg prog w "zip" z [z, TI, TO, i1, i2, l1, l2] [z, TO, i1, i2] (min xs.size ys.size) (fun i k v => xs[i]? = some k ∧ ys[i]? = some v)
      (fun h => IsZip h z TI TO .none ∧ IsPair h TI (.ref i1) (.ref i2) ∧ (∃ a b, IsPair h TO a b) ∧ ItB b h i1 l1 0 ∧ ItB c h i2 l2 0 ∧ ObB b h l1 xs ∧ ObB c h l2 ys) where
  type := fun s ok => ⟨_, ok.1, rfl⟩
  notDict := by decide
  keep := fun h h' ok hk => by
    obtain ⟨hz, hTI, ⟨a, b, hTO⟩, h1, h2, hl1, hl2⟩ := ok
    exact ⟨hk _ _ hz, hk _ _ hTI, ⟨a, b, hk _ _ hTO⟩, h1.at fun o e => hk _ o e, h2.at fun o e => hk _ o e, hl1.at' fun o e => hk _ o e, hl2.at' fun o e => hk _ o e⟩
  there := fun h ok b hb => by
    obtain ⟨hz, hTI, ⟨a, c, hTO⟩, h1, h2, hl1, hl2⟩ := ok
    obtain ⟨o1, h1, _⟩ := h1.there
    obtain ⟨o2, h2, _⟩ := h2.there
    obtain ⟨o3, hl1⟩ := hl1.there
    obtain ⟨o4, hl2⟩ := hl2.there
    simp only [List.mem_cons, List.not_mem_nil, or_false] at hb
    rcases hb with rfl | rfl | rfl | rfl | rfl | rfl | rfl
    all_goals first | exact ⟨_, hz⟩ | exact ⟨_, hTI⟩ | exact ⟨_, hTO⟩ | exact ⟨_, h1⟩ | exact ⟨_, h2⟩ | exact ⟨_, hl1⟩ | exact ⟨_, hl2⟩
  sub := fun b hb => by simp at hb ⊢; rcases hb with rfl | rfl | rfl | rfl <;> simp
  noKeys := fun A s Q E hA ok h => getAttrOr_miss_zip ok.1 rfl rfl rfl zip_no_keys (by decide +kernel) hA h
  iter := fun A s d Q E hA ok hd hdf h => by
    obtain ⟨hz, hTI, ⟨p, q, hTO⟩, h1, h2, hl1, hl2⟩ := ok
    simp only [List.mem_cons, List.not_mem_nil, or_false, not_or] at hdf
    obtain ⟨dz, dTI, dTO, di1, di2, dl1, dl2⟩ := hdf
    refine wpAny_pyIter_zip hz (h z [z, TO, i1, i2] (fun i h => IsPair h TI (.ref i1) (.ref i2) ∧ ItB b h i1 l1 i ∧ ItB c h i2 l2 i ∧ ObB b h l1 xs ∧ ObB c h l2 ys ∧
      ((IsZip h z TI TO .none ∧ ∃ a b, IsPair h TO a b) ∨ ∃ T f oT, IsZipHeld h z TI TO T f ∧ h.get? T = some oT ∧ T ≠ z ∧ T ≠ i1 ∧ T ≠ i2 ∧ T ≠ d)) s.heap s.toks ?_
      ⟨hTI, h1, h2, hl1, hl2, .inl ⟨hz, p, q, hTO⟩⟩ (fun _ _ e => e) fun b hb => .inl hb)
    exact {
      off := fun hm => by
        simp only [List.mem_cons, List.not_mem_nil, or_false] at hm
        rcases hm with e | e | e | e
        · exact dz e
        · exact dTO e
        · exact di1 e
        · exact di2 e
      frame := fun i h₁ h₂ st hk => by
        obtain ⟨hTI, h1, h2, hl1, hl2, hz⟩ := st
        refine ⟨hk _ _ (Ne.symm dTI) hTI, h1.at fun o e => hk _ o (Ne.symm di1) e, h2.at fun o e => hk _ o (Ne.symm di2) e, hl1.at' fun o e => hk _ o (Ne.symm dl1) e, hl2.at' fun o e => hk _ o (Ne.symm dl2) e, ?_⟩
        rcases hz with ⟨hz, a, b, hTO⟩ | ⟨T, f, oT, hz, hT, r1, r2, r3, r4⟩
        · exact .inl ⟨hk _ _ (Ne.symm dz) hz, a, b, hk _ _ (Ne.symm dTO) hTO⟩
        · exact .inr ⟨T, f, oT, hk _ _ (Ne.symm dz) hz, hk _ _ r4 hT, r1, r2, r3, r4⟩
      item := fun i s₁ Q₁ E₁ hi st hds hQ => by
        obtain ⟨hTI, h1, h2, hl1, hl2, hz⟩ := st
        have hix : i < xs.size := Nat.lt_of_lt_of_le hi (Nat.min_le_left ..)
        have hiy : i < ys.size := Nat.lt_of_lt_of_le hi (Nat.min_le_right ..)
        have ex := Array.getElem?_eq_getElem hix
        have ey := Array.getElem?_eq_getElem hiy
        have lt : ∀ {c o}, s₁.heap.get? c = some o → s₁.heap.objs.size ≠ c := fun e => Nat.ne_of_gt (Heap.lt_size e)
        have n1 : s₁.heap.objs.size ≠ i1 := let ⟨_, e, _⟩ := h1.there; lt e
        have n2 : s₁.heap.objs.size ≠ i2 := let ⟨_, e, _⟩ := h2.there; lt e
        rcases hz with ⟨hz, a, b', hTO⟩ | ⟨T, f, oT, hz, hT, r1, r2, r3, r4⟩
        · refine wpAny_pyNext_zipD2_item S (drawsB (A := A.in1) hA b i1 l1 D.l1i1 xs) (drawsB (A := A.in1) hA c i2 l2 D.l2i2 ys) hz hTI hTO ⟨h1, hl1⟩ ⟨h2, hl2⟩ hix hiy fun x1 x2 h' tk e1 e2 a1 a2 a3 a4 a5 a6 hk => ?_
          exact hQ s₁.heap.objs.size _ _ h' tk ⟨e1, e2⟩ (.inl ⟨_, a5, rfl, _, rfl⟩)
            ⟨hk _ _ D.TIz D.TITO D.TIi1 D.TIi2 hTI, a3.1, a4.1, a3.2, a4.2,
              .inr ⟨s₁.heap.objs.size, false, _, a1, a5, lt hz, n1, n2, Nat.ne_of_gt hds⟩⟩
            fun c o hc e => hk c o (fun x => hc (by simp [x])) (fun x => hc (by simp [x])) (fun x => hc (by simp [x])) (fun x => hc (by simp [x])) e
        · refine pyNext_zipB_item_held D hz hT hTI h1 h2 hl1 hl2 ex ey fun h' a1 a3 a4 a5 a6 hk => ?_
          exact hQ s₁.heap.objs.size _ _ h' s₁.toks ⟨ex, ey⟩ (.inl ⟨_, a5, rfl, _, rfl⟩)
            ⟨hk _ _ D.TIz D.TIi1 D.TIi2 hTI, a3, a4, hl1.at' fun o e => hk _ o D.l1z D.l1i1 D.l1i2 e, hl2.at' fun o e => hk _ o D.l2z D.l2i1 D.l2i2 e,
              .inr ⟨T, true, oT, a1, hk _ _ r1 r2 r3 hT, r1, r2, r3, r4⟩⟩
            fun c o hc e => hk c o (fun x => hc (by simp [x])) (fun x => hc (by simp [x])) (fun x => hc (by simp [x])) e
      done := fun s₁ Q₁ E₁ st hQ => by
        obtain ⟨hTI, h1, h2, hl1, hl2, hz⟩ := st
        have hend : min xs.size ys.size = xs.size ∨ min xs.size ys.size = ys.size := by omega
        rcases hz with ⟨hz, a, b', hTO⟩ | ⟨T, f, oT, hz, hT, r1, r2, r3, r4⟩
        · exact wpAny_pyNext_zipD2_end S (drawsB (A := A.in1) hA b i1 l1 D.l1i1 xs) (drawsB (A := A.in1) hA c i2 l2 D.l2i2 ys) hz hTI hTO ⟨h1, hl1⟩ ⟨h2, hl2⟩ (Nat.min_le_left ..) (Nat.min_le_right ..) hend fun h' tk hk => hQ h' tk fun c o hc e => hk c o (fun x => hc (by simp [x])) (fun x => hc (by simp [x])) (fun x => hc (by simp [x])) (fun x => hc (by simp [x])) e
        · have hend' : xs[min xs.size ys.size]? = none ∨ ys[min xs.size ys.size]? = none := by
            rcases hend with h | h
            · exact .inl (Array.getElem?_eq_none (by rw [h]; exact Nat.le_refl _))
            · exact .inr (Array.getElem?_eq_none (by rw [h]; exact Nat.le_refl _))
          exact pyNext_zipB_end_held hA D hz hT hTI h1 h2 hl1 hl2 hend' fun h' hk => hQ h' s₁.toks fun c o hc e => hk c o (fun x => hc (by simp [x])) (fun x => hc (by simp [x])) (fun x => hc (by simp [x])) e }
end
end Mi
namespace Mi
open PySem L2
/-! ### the rule -/
def zipK : List D → List D → Option (List (Key × D))
  | x :: xs, y :: ys => (keyOf x).bind fun k => (zipK xs ys).map fun l => (k, y) :: l
  | _, _ => some []
def dzipW (ws : List W) (M : Sto) : Option W := match ws with
  | [a, b] => (vS M a).bind fun xs => (vS M b).bind fun ys => if xs.length ≤ SZ then (zipK xs ys).map fun kv => .fd (mergeD [] kv) else none
  | _ => none
inductive ZK : List V → List V → List (Key × V) → Prop
  | nil1 {ys : List V} : ZK [] ys []
  | nil2 {xs : List V} : ZK xs [] []
  | cons {k : Key} {v : V} {xs ys : List V} {kvs : List (Key × V)} : ZK xs ys kvs → ZK (kV k :: xs) (v :: ys) ((k, v) :: kvs)
theorem zip_prs {P : Program} {w : World} : ∀ {xs ys : List V} {kvs : List (Key × V)} {its its2 : List Value}, ZK xs ys kvs → Vals xs its → Vals ys its2 →
    ∃ prs : List (Key × Value), KV kvs prs ∧ prs.length = min its.length its2.length ∧ ∀ (i : Nat) (key v : Value), its[i]? = some key → its2[i]? = some v → ∃ k, prs[i]? = some (k, v) ∧ (mixKind P w).is k key = true
  | _, _, _, _, its2, .nil1, .nil, _ => ⟨[], .nil, by simp, fun i key v h => by simp at h⟩
  | _, _, _, its, _, .nil2, _, .nil => ⟨[], .nil, by simp, fun i key v _ h => by simp at h⟩
  | _, _, _, _, _, .cons (k := k) z, .cons (b := u) rx tx, .cons (b := y) ry ty => by
    obtain ⟨prs, r, hl, hp⟩ := zip_prs (P := P) (w := w) z tx ty
    refine ⟨(k, y) :: prs, .cons ⟨rfl, ry⟩ r, by simp only [List.length_cons, hl]; omega, fun i key v h1 h2 => ?_⟩
    cases i with
    | zero =>
      cases h1
      cases h2
      exact ⟨k, rfl, kV_is rx⟩
    | succ i => exact hp i key v (by simpa using h1) (by simpa using h2)
theorem ZK.len : ∀ {xs ys : List V} {kvs : List (Key × V)}, ZK xs ys kvs → kvs.length ≤ xs.length
  | _, _, _, .nil1 => Nat.zero_le _
  | _, _, _, .nil2 => Nat.zero_le _
  | _, _, _, .cons z => Nat.succ_le_succ z.len
def rDictZ (K : PySem.W.Frag) (vs : List V) (H1 : Hp) (Q : VK) : Prop := ∃ a d b c xs ys kvs, vs = [.ref a, .ref d] ∧ SqB b K H1 a xs ∧ SqB c K H1 d ys ∧ ZK xs ys kvs ∧ ∀ p, H1 p = none → Q (.ref p) (upd H1 p (.dK (mergeK [] kvs)))
theorem zip_apart {n a d : Nat} (ha : a < n) (hd : d < n) : ZipApart (n + 4) (n + 2) (n + 3) n (n + 1) a d := by
  constructor <;> intro h <;> (have h' : (_ : Nat) = _ := h; omega)
theorem pe_dictZ {X : Cx} {e e2 : Expr} {ta : TA} {p p2 q pos : Pos} (hc : X.calm = true) (hm : X.mg "dict" = none) (hm2 : X.mg "zip" = none) (ha : PA X [e, e2] ta) (hg : Gl X "dict" := by rfl) (hg2 : Gl X "zip" := by rfl)
    (hs : starEach [e, e2] X.env = (false, eval e X.env) :: starEach [e2] X.env := by rfl) (hpl : (backTo q (starEach [e2] X.env)).any (·.1) = false := by rfl) :
    PE X (.Call (.Name "dict" p) [.Call (.Name "zip" p2) [e, e2] [] q] [] pos) (tCB (rDictZ X.K) ta) := by
  refine ⟨fun pins s σ H Q I h => PyProof.Rows.Call_ (ld_blt I hg hm PyProof.Rows.boot_dict (PyProof.Rows.callWith_type1 (PyProof.Rows.args_cons ?_ rfl) rfl rfl))⟩
  refine PyProof.Rows.Call_ (ld_blt I hg2 hm2 PyProof.Rows.boot_zip (PyProof.Rows.callWith_type1 (thn (ha.run q pins s σ H _ I h) fun us s1 ⟨vs, H1, I1, r1, q1⟩ => ?_) hs hpl))
  obtain ⟨a, d, b, c, xs, ys, kvs, rfl, hqx, hqy, zk, qq⟩ := q1
  cases r1 with
  | cons r rr =>
    cases rr with
    | cons r' rr =>
      cases rr
      cases r
      cases r'
      obtain ⟨its, rv, p1, la⟩ := seqB I1 hqx
      obtain ⟨its2, rv2, p2, lb⟩ := seqB I1 hqy
      have hzx : xs.length ≤ sizeLine := by
        cases b with
        | true =>
          obtain ⟨_, _, _, hz⟩ := I1.tuple hqx
          exact hz
        | false =>
          obtain ⟨_, _, _, hz⟩ := I1.list hqx
          exact hz
      obtain ⟨prs, rel, hl, hp⟩ := zip_prs (P := X.prog) (w := X.w) zk rv rv2
      refine call_zipB p1 p2 fun h' hz hTI hTO h1 h2 hsz hk => PyProof.Rows.args_nil ?_
      have la' : a < s1.heap.objs.size := la
      have lb' : d < s1.heap.objs.size := lb
      refine PySem.call_dict_pairs (s := { s1 with heap := h' }) (knd := mixKind X.prog X.w) (kvs := prs) (pairArg_zipB b c (s1.heap.objs.size + 4) (s1.heap.objs.size + 2) (s1.heap.objs.size + 3) s1.heap.objs.size (s1.heap.objs.size + 1) a d (zip_sep la lb) (zip_apart la lb) its.toArray its2.toArray)
        (I.ok.hd hc) ⟨hz, hTI, ⟨_, _, hTO⟩, h1, h2, p1.at' fun o e => hk _ _ e, p2.at' fun o e => hk _ _ e⟩ ⟨by simpa using hl, fun i key v hr => hp i key v (by simpa using hr.1) (by simpa using hr.2)⟩
        (by rw [List.size_toArray, List.size_toArray]; have := rv.length; omega) fun h'' tk hd' kp => ?_
      have hge : s1.heap.objs.size ≤ h'.objs.size := by omega
      have hm : (h'.objs.size == sysModules) = false := beq_eq_false_iff_ne.mpr (Nat.ne_of_gt (Nat.lt_of_lt_of_le I1.big hge))
      have hlen : (mergeK [] kvs).length ≤ sizeLine := by
        refine Nat.le_trans (length_mergeK kvs []) ?_
        rw [List.length_nil, Nat.zero_add]
        exact Nat.le_trans zk.len hzx
      exact ⟨.ref h'.objs.size, _, I1.laid (t' := tk) (o := .dK (mergeK [] kvs)) (fun b o e => kp b o (fun hb => by
        have hlt : b < s1.heap.objs.size := Heap.lt_size e
        simp only [List.mem_cons, List.not_mem_nil, or_false] at hb
        rcases hb with h | h | h | h
        · exact absurd hlt (by rw [h]; exact Nat.not_lt.mpr (Nat.le_add_right _ _))
        · exact absurd hlt (by rw [h]; exact Nat.not_lt.mpr (Nat.le_add_right _ _))
        · exact absurd hlt (by rw [h]; exact Nat.lt_irrefl _)
        · exact absurd hlt (by rw [h]; exact Nat.not_lt.mpr (Nat.le_add_right _ _))) (hk _ _ e)) hge ⟨hlen, hm, merged [] prs, KV.merge rel .nil, hd'⟩, rfl, qq _ (I1.hok.fresh hge)⟩
section
variable {X : Cx} {C : Zs} {R : Rc} {lk : Lk} {am : List Addr} {F H : Hp} {M : Sto}
theorem zipK_ok {K : PySem.W.Frag} : ∀ {xs ys : List D} {vs us : List V} {kv : List (Key × D)}, DVs K am F vs xs → DVs K am F us ys → zipK xs ys = some kv → ∃ kvs, ZK vs us kvs ∧ KVs K am F kvs kv
  | _, _, _, _, kv, .nil, _, h => by
    unfold zipK at h
    cases h
    exact ⟨[], .nil1, .nil⟩
  | _, _, _, _, kv, .cons _ _, .nil, h => by
    unfold zipK at h
    cases h
    exact ⟨[], .nil2, .nil⟩
  | _, _, _, _, kv, .cons d t, .cons d' t', h => by
    unfold zipK at h
    simp only [Option.bind_eq_some_iff, Option.map_eq_some_iff] at h
    obtain ⟨k, h1, l, h2, rfl⟩ := h
    obtain ⟨kvs, z, dk⟩ := zipK_ok t t' h2
    have ek := key_dv d h1
    subst ek
    exact ⟨(k, _) :: kvs, .cons z, .cons d' dk⟩
theorem c_dictZ : CallC R (rDictZ R.K) dzipW := by
  intro lk am F M H H0 vs ws z Q s r h P
  unfold dzipW at h
  split at h
  · rename_i w1 w2
    obtain ⟨v1, v2, rfl, rw1, rw2⟩ := rws2 r
    simp only [Option.bind_eq_some_iff] at h
    obtain ⟨xs, h1, ys, h2, h⟩ := h
    split at h
    · obtain ⟨kv, h3, rfl⟩ := Option.map_eq_some_iff.mp h
      obtain ⟨a, us1, rfl, e1, d1⟩ := vS_ok s rw1 h1
      obtain ⟨d, us2, rfl, e2, d2⟩ := vS_ok s rw2 h2
      obtain ⟨kvs, zk, dk⟩ := zipK_ok d1 d2 h3
      have sb : ∀ {a : Addr} {us : List V}, (H a = some (.lst us) ∨ SqT R.K H a us) → ∃ b, SqB b R.K H a us := fun h => by
        rcases sq_or h with h | h
        · exact ⟨false, h⟩
        · exact ⟨true, h⟩
      obtain ⟨b, s1⟩ := sb e1
      obtain ⟨c, s2⟩ := sb e2
      exact ⟨a, d, b, c, us1, us2, kvs, rfl, s1, s2, zk, fun p hp => P.newK s (dk.merge .nil) p hp⟩
    · cases h
  · cases h
theorem e_dictZ {a b : Expr} {ga : GA} {p p2 q pos : Pos} (hc : X.calm = true) (hm : X.mg "dict" = none) (hm2 : X.mg "zip" = none) (ha : A X C [a, b] ga) (hg : Gl X "dict" := by rfl) (hg2 : Gl X "zip" := by rfl)
    (hs : starEach [a, b] X.env = (false, eval a X.env) :: starEach [b] X.env := by rfl) (hpl : (backTo q (starEach [b] X.env)).any (·.1) = false := by rfl) :
    E X C (.Call (.Name "dict" p) [.Call (.Name "zip" p2) [a, b] [] q] [] pos) (gBlt dzipW ga) := wkE (pe_dictZ hc hm hm2 ha hg hg2 hs hpl) fun σ H Q h => blt_go c_dictZ h
end
end Mi
/-! MiPop: y = x.pop(e) of a slot's own list. -/
namespace Mi
open PySem L2
def sPop (k j : Nat) (gi : G) : GS := fun δ M => (gi δ M).bind fun p => match p.1, δ[k]? with
  | .d (.int i), some (some (.ol xs)) => if xs.length ≤ SZ then (seqIndex? i xs.length).bind fun n => (xs[n]?).map fun y => .nx ((δ.set k (some (.ol (xs.eraseIdx n)))).set j (some (.d y))) p.2 else none
  | _, _ => none
section
variable {X : Cx} {C : Zs} {R : Rc} {Wx : WX} {lk : Lk} {am am0 : List Addr} {F H F0 H0 : Hp} {M : Sto}
theorem DVs.eraseIdx {K : PySem.W.Frag} : ∀ {vs : List V} {xs : List D} (n : Nat), DVs K am F vs xs → DVs K am F (vs.eraseIdx n) (xs.eraseIdx n)
  | _, _, _, .nil => by simpa using DVs.nil
  | _, _, 0, .cons _ t => by simpa using t
  | _, _, n + 1, .cons d t => by simpa using DVs.cons d (DVs.eraseIdx n t)
theorem seqIndex_lt {i : Int} {l n : Nat} (h : seqIndex? i l = some n) : -(l : Int) ≤ i ∧ i < l := by
  refine ⟨?_, ?_⟩
  · rcases Int.lt_or_le i (-(l : Int)) with z | z
    · rw [PySem.seqIndex_below z] at h
      cases h
    · exact z
  · rcases Int.lt_or_le i l with z | z
    · exact z
    · rw [PySem.MeetsSeq.seqIndex_none_hi z] at h
      cases h
theorem s_pop {k j : Nat} {x y : Str} {e : Expr} {ge : G} {px py apos cpos pos : Pos} (hN : X.N.Nodup) (he : E X C e ge) (hk : X.N[k]? = some x := by rfl) (hj : X.N[j]? = some y := by rfl)
    (hv : Vis X.env.scope x := by first | exact Or.inl rfl | exact Or.inr (Or.inl rfl) | exact Or.inr (Or.inr rfl)) (hd : (x == ("__debug__" : Str)) = false := by decide) (hcd : (x == ("__classdict__" : Str)) = false := by decide)
    (hy : Loc X.env.scope y := by first | exact Or.inl rfl | exact Or.inr rfl) (hf : X.fn y = true ∨ X.env.scope.names.lookup y = some .local := by first | exact .inl rfl | exact .inr rfl)
    (hbase : attributeBase (.Name x px) "pop" X.env (eval (.Name x px) X.env) = eval (.Name x px) X.env := by rfl)
    (hfew : ((backTo cpos (starEach [e] X.env)).all (fun x => !x.1) && (backToKw cpos (keywordEach [] X.env)).all (fun x => x.1.isSome) && decide (([e] : List Expr).length + ([] : List Keyword).length + (if ([] : List Keyword).isEmpty then 0 else 1) < 30)) = true := by rfl)
    (hline : (apos.endLine == cpos.line) = true := by rfl) (hst : starEach [e] X.env = [(false, eval e X.env)] := by rfl) (hplain : (backTo cpos (starEach [] X.env)).any (·.1) = false := by rfl)
    (hs : swapsWith (.Call (.Attribute (.Name x px) "pop" apos) [e] [] cpos) (some (.Name y py)) pos.line X.env = pure false := by rfl) :
    S X C Wx (.Assign [.Name y py] (.Call (.Attribute (.Name x px) "pop" apos) [e] [] cpos) pos) (sPop k j ge) :=
  wkS (ps_set hN hj hy (pe_bm PySem.F.plainAttrs_list PySem.F.slot_list_pop PySem.F.type_list_pop mt_popAt (pe_var hk hv hd hcd) (pa_cons he pa_nil (by rw [hst]; rfl)) hbase hfew hline hst hplain) hs hf) fun D σ H h => by
  obtain ⟨lk, am0, F0, H0, am, F, M, δ, o, g, re, sr, h, P⟩ := h
  unfold sPop at h
  simp only [Option.bind_eq_some_iff, Prod.exists] at h
  obtain ⟨w, M1, h1, h2⟩ := h
  split at h2
  · rename_i i xs hi
    split at h2
    · rename_i hl
      simp only [Option.bind_eq_some_iff, Option.map_eq_some_iff] at h2
      obtain ⟨n, hn, z, hz, rfl⟩ := h2
      obtain ⟨a, hσ, r, h0, hF, hna⟩ := re.owned hi rfl
      refine ⟨.ref a, hσ, .inl ⟨rfl, ?_⟩, lk, am, F, M, δ, H0, _, M1, re, sr, h1, fun v am1 F1 H1 g1 s1 r1 f1 => ?_⟩
      · obtain ⟨b, vs, e, h4, _⟩ := r; cases e; exact ⟨vs, .of h4⟩
      · cases (show DV X.K am1 F1 v (.int i) from r1)
        have re' := re.gr g1
        obtain ⟨_, hσ', r', _, hF', hn'⟩ := re'.owned hi rfl
        rw [hσ] at hσ'; cases hσ'
        obtain ⟨b, vs, e, h4, _, _, hlk, ds⟩ := r'
        cases e
        obtain ⟨u, hu, du⟩ := ds.get hz
        have hlt := seqIndex_lt hn
        have hl' : xs.length ≤ 100000 := hl
        refine ⟨a, vs, i, n, u, rfl, rfl, h4, by omega, by omega, by rw [ds.length]; exact hn, hu, ?_⟩
        have re2 := re'.mut (w' := .ol (xs.eraseIdx n)) (o := .lst (vs.eraseIdx n)) hi rfl hσ rfl ⟨a, vs.eraseIdx n, rfl, upd_same, hF', hn', hlk, ds.eraseIdx n⟩
        exact P _ _ _ _ ((g.trans g1).out (H0 := H0) h0) (.of g1) (re2.setD (i := j) du) (s1.out hn' hF' hlk)
    · cases h2
  · cases h2
/-! ### sorted(d) -/
def keysS : List (Key × D) → Option (List Str)
  | [] => some []
  | (.inr s, _) :: r => (keysS r).map fun l => s :: l
  | _ => none
def dKeys : W → Option (List Str)
  | .d (.dic kv) => keysS kv
  | .od _ kv => keysS kv
  | .fd kv => keysS kv
  | _ => none
def sortedDW (ws : List W) (M : Sto) : Option W := match ws with
  | [w] => match dKeys w with
    | some ks => if ks.length < 64 then some (.fr ((isort strLt ks).map .str)) else none
    | none => sortedW [w] M
  | ws => sortedW ws M
theorem keysS_ok : ∀ {kvs : List (Key × V)} {kv : List (Key × D)} {K : PySem.W.Frag} {ks : List Str}, KVs K am F kvs kv → keysS kv = some ks → kvs.map (·.1) = ks.map Sum.inr
  | _, _, _, ks, .nil, h => by cases h; rfl
  | _, _, _, ks, .cons (k := k) d t, h => by
    cases k with
    | inl i => cases h
    | inr s =>
      obtain ⟨l, h1, rfl⟩ := Option.map_eq_some_iff.mp (show (keysS _).map (fun l => s :: l) = some ks from h)
      rw [List.map_cons, List.map_cons, keysS_ok t h1]
def rSortD (H : Hp) (xs : List V) (Q : VK) : Prop := ∃ (a : Addr) (kvs : List (Key × V)) (ks : List Str), xs = [.ref a] ∧ Rd H a (.dK kvs) ∧ kvs.map (·.1) = ks.map Sum.inr ∧ ks.length < 64 ∧
    ∀ ys p, ys.Perm ks → PyProof.Rows.sortedS ys = true → H p = none → Q (.ref p) (upd H p (.lst (ys.map V.str)))
def rSortMD (K : PySem.W.Frag) (xs : List V) (H : Hp) (Q : VK) : Prop := rSortD H xs Q ∨ rSortM K xs H Q
theorem call_sortMD (hc : X.calm = true) : CallR X (.builtin "sorted") (rSortMD X.K) := fun pins s σ H xs us Q I r h => h.elim (fun q => call_sortedD hc pins s σ H xs us Q I r q) fun q => call_sortM pins s σ H xs us Q I r q
theorem c_sortD : CallC R (rSortMD R.K) sortedDW := by
  intro lk am F M H H0 vs ws z Q s r h P
  unfold sortedDW at h
  split at h
  · rename_i w
    split at h
    · rename_i ks hk
      split at h
      · rename_i hl
        cases h
        obtain ⟨v, rfl, rw0⟩ := rws1 r
        have fin : ∀ (a : Addr) (kvs : List (Key × V)) (kv : List (Key × D)), v = .ref a → Rd H a (.dK kvs) → KVs R.K am F kvs kv → keysS kv = some ks → rSortMD R.K [v] H Q := fun a kvs kv e1 hd hkv e2 => by
          refine .inl ⟨a, kvs, ks, by rw [e1], hd, keysS_ok hkv e2, hl, fun out p pm ps hp => ?_⟩
          have eq : out = isort strLt ks := sd_uniq (pm.trans (isort_perm _ _).symm) (sortedS_sd _ ps) (isort_sd (strLt_ord _)) fun x _ y _ h3 h4 => strLt_eq h3 h4
          subst eq
          exact P.newL s (strs_dv _) p hp
        unfold dKeys at hk
        split at hk
        · cases (show DV R.K am F v (.dic _) from rw0) with
          | dic h3 h4 => exact fin _ _ _ rfl (.inr ⟨_, s.ex _ _ h3⟩) h4.kvs hk
        · obtain ⟨a, kvs, rfl, h2, h3, h4, h5, h6⟩ := rw0
          exact fin _ _ _ rfl (rd_lkd h2) h6 hk
        · obtain ⟨a, kvs, rfl, h2, h3, h4, h5, h6⟩ := rw0
          exact fin _ _ _ rfl (.inl h2) h6 hk
        · cases hk
      · cases h
    · exact .inr (c_sorted lk am F M H H0 vs [w] z Q s r h P)
  · exact .inr (c_sorted lk am F M H H0 vs _ z Q s r h P)
end
end Mi
/-! MiLtp: `<` of numbers, of texts, of pairs of texts. -/
namespace Mi
open PySem L2
/-- a pair of texts -/
def pairS : D → Option (Str × Str)
  | .tup [.str a, .str b] => some (a, b)
  | .tpl [.str a, .str b] => some (a, b)
  | _ => none
def ltP (p q : Str × Str) : Bool := if p.1 = q.1 then strLt p.2 q.2 else strLt p.1 q.1
def ltU (a b : W) (M : Sto) : Option W := match a, b with
  | .d x, .d y => match pairS x, pairS y with
    | some p, some q => some (.d (.bl (ltP p q)))
    | _, _ => ltQ a b M
  | a, b => ltQ a b M
section
variable {X : Cx} {C : Zs} {R : Rc} {lk : Lk} {am : List Addr} {F H : Hp} {M : Sto}
def rLtD (K : PySem.W.Frag) : R2 := fun x y H Q => ∃ a b c d, Dp K H x (.tuple [.str a, .str b]) ∧ Dp K H y (.tuple [.str c, .str d]) ∧ Q (.bl (ltP (a, b) (c, d))) H
theorem dataLt_pair (a b c d : Str) : PySem.W.dataLt (.tuple [.str a, .str b]) (.tuple [.str c, .str d]) = ltP (a, b) (c, d) := by
  have al : ∀ x y : Str, PySem.W.alike (.str x) (.str y) = true := fun _ _ => by unfold PySem.W.alike; rfl
  have ev : ∀ x y : Str, PyData.eqv (.str x) (.str y) = (x == y) := fun _ _ => by unfold PyData.eqv; rfl
  rw [PySem.W.dataLt_tuple]
  unfold ltP
  by_cases h : a = c
  · subst h
    rw [PySem.W.dataLt_all_yes (al _ _) (by rw [ev]; simp), if_pos rfl]
    by_cases h2 : b = d
    · subst h2
      rw [PySem.W.dataLt_all_yes (al _ _) (by rw [ev]; simp)]
      show _ = decide (b.cps.toList < b.cps.toList)
      rw [decide_eq_false (List.lt_irrefl _)]
      decide
    · rw [PySem.W.dataLt_all_no (al _ _) (by rw [ev]; simpa using h2), PySem.W.dataLt_str]
      rfl
  · rw [PySem.W.dataLt_all_no (al _ _) (by rw [ev]; simpa using h), PySem.W.dataLt_str, if_neg h]
    rfl
theorem op_ltD (hu : X.A.units + 64 < cLine) : OpR X (compareOp .Lt) (rLtD X.K) := by
  intro pins s σ H x y v u Q I rx ry h
  obtain ⟨a, b, c, d, hd, he, q⟩ := h
  obtain ⟨as, r1⟩ := Dp.reads I _ x v hd rx
  obtain ⟨bs, r2⟩ := Dp.reads I _ y u he ry
  have al : PySem.W.alike (.tuple [.str a, .str b]) (.tuple [.str c, .str d]) = true := rfl
  have := PySem.W.rcLt_alike _ _ X.A s v u as bs r1 r2 al (by intro z; cases z) (by
    have : min (PyData.depth (.tuple [.str a, .str b])) (PyData.depth (.tuple [.str c, .str d])) ≤ 64 := by
      refine Nat.le_trans (Nat.min_le_left _ _) ?_
      simp [PyData.depth, PyData.depthAll]
    omega)
  rw [dataLt_pair] at this
  exact this _ _ _ _ ⟨.bl _, H, I, rfl, q⟩
def rLtU (K : PySem.W.Frag) : R2 := fun x y H Q => rLtD K x y H Q ∨ rLtQ x y H Q
theorem op_ltU (hu : X.A.units + 64 < cLine) : OpR X (compareOp .Lt) (rLtU X.K) := fun pins s σ H x y v u Q I r1 r2 h => h.elim (fun q => op_ltD hu pins s σ H x y v u Q I r1 r2 q) fun q => op_ltQ pins s σ H x y v u Q I r1 r2 q
theorem pairS_dp {x : D} {v : V} {p : Str × Str} (s : SR R lk am F M H) (d : DV R.K am F v x) (h : pairS x = some p) : Dp R.K H v (.tuple [.str p.1, .str p.2]) := by
  unfold pairS at h
  split at h
  · cases h
    cases d with
    | tup h1 dv =>
      cases dv with
      | cons d1 dv =>
        cases dv with
        | cons d2 dv =>
          cases dv
          cases d1
          cases d2
          exact .tup ((show Le F H from s.ex).seqT h1) (.cons (.str _) (.cons (.str _) .nil))
  · cases h
    cases d with
    | tpl h1 dv =>
      cases dv with
      | cons d1 dv =>
        cases dv with
        | cons d2 dv =>
          cases dv
          cases d1
          cases d2
          exact .tup ((show Le F H from s.ex).plT h1).sq (.cons (.str _) (.cons (.str _) .nil))
  · cases h
theorem c_ltU : OpC R (rLtU R.K) ltU := by
  intro lk am F M H H0 x y a b z Q s ra rb h P
  unfold ltU at h
  split at h
  · rename_i dx dy
    split at h
    · rename_i p q hp hq
      cases h
      exact .inl ⟨p.1, p.2, q.1, q.2, pairS_dp s ra hp, pairS_dp s rb hq, P.val s (.bl _)⟩
    · exact .inr (c_ltQ lk am F M H H0 x y _ _ z Q s ra rb h P)
  · exact .inr (c_ltQ lk am F M H H0 x y _ _ z Q s ra rb h P)
end
end Mi
/-! MiRem: x.remove(e) of a slot's own list, data of any kind. -/
namespace Mi
open PySem L2
def sRem (k : Nat) (ge : G) : GS := fun δ M => (ge δ M).bind fun p => match p.1, δ[k]? with
  | .d y, some (some (.ol xs)) => if y.ok 40 && oks 40 xs && decide (xs.length ≤ SZ) then (xs.findIdx? fun z => deq z y).map fun j => .nx (δ.set k (some (.ol (xs.eraseIdx j)))) p.2 else none
  | _, _ => none
theorem pys_plain {n : Nat} : ∀ {xs : List D}, oks n xs = true → PyData.plainAll (pys xs) = true ∧ ∀ x ∈ xs, x.py.depth ≤ n
  | [], _ => ⟨rfl, by simp⟩
  | x :: r, h => by
    have h' : x.ok n = true ∧ oks n r = true := by simpa [oks] using h
    obtain ⟨h1, h2⟩ := D.py_lay n x h'.1
    obtain ⟨h3, h4⟩ := pys_plain h'.2
    refine ⟨?_, fun y hy => ?_⟩
    · show (PyData.plain x.py && PyData.plainAll (pys r)) = true
      rw [PyData.plain_of_canLay0 _ h1, h3]
      rfl
    · rcases List.mem_cons.mp hy with rfl | hy
      · exact h2
      · exact h4 y hy
theorem place_py {n : Nat} {y : D} (hy : y.ok n = true) : ∀ {xs : List D}, oks n xs = true → SeqAt.dataPlace (pys xs) y.py = xs.findIdx? fun z => deq z y
  | [], _ => rfl
  | x :: r, h => by
    have h' : x.ok n = true ∧ oks n r = true := by simpa [oks] using h
    have ih := place_py hy h'.2
    unfold SeqAt.dataPlace at ih ⊢
    show List.findIdx? (fun z => PyData.eqv z y.py) (x.py :: pys r) = _
    rw [List.findIdx?_cons, List.findIdx?_cons, eqv_py n x y h'.1 hy, ih]
section
variable {X : Cx} {C : Zs} {R : Rc} {Wx : WX} {lk : Lk} {am am0 : List Addr} {F H F0 H0 : Hp} {M : Sto}
def rRemD (K : PySem.W.Frag) : V → List V → Hp → VK → Prop := fun x vs H Q => ∃ (l : Addr) (xs : List V) (ds : List PyData) (y : V) (d : PyData) (j : Nat), x = .ref l ∧ vs = [y] ∧ H l = some (.lst xs) ∧ DpAll K H xs ds ∧ Dp K H y d ∧ PyData.plainAll ds = true ∧ d.plain = true ∧ d.depth ≤ 40 ∧ SeqAt.dataPlace ds d = some j ∧
  Q .non (upd H l (.lst (xs.eraseIdx j)))
theorem mt_remD (hu : X.A.units + 64 < cLine) : MtM X "list.remove" (rRemD X.K) := by
  intro pins s σ H x vs v us Q I rx rv h
  obtain ⟨l, xs, ds, y, d, j, rfl, rfl, hH, hds, hd, pl, pd, dd, hp, q⟩ := h
  cases rx
  obtain ⟨u, rfl, ru⟩ := rv.one
  obtain ⟨z, its, n, r, hl, e⟩ := I.lstM hH
  obtain ⟨as, rs⟩ := Dp.readsAll I ds xs its hds r
  obtain ⟨bs, rx⟩ := Dp.reads I d y u hd ru
  have hlist : s.heap.IsList l its.toArray := ⟨_, e, rfl, _, rfl⟩
  refine SeqAt.remove_list_data hlist (by simpa using rs) rx pl pd (by
    have : min (PyData.depthAll ds) d.depth ≤ 40 := Nat.le_trans (Nat.min_le_right _ _) dd
    omega) hp (by rw [List.size_toArray]; omega) ?_
  refine ⟨.non, _, I.lset (its' := its.eraseIdx j) hH e ?_ (r.eraseIdx j) ?_, rfl, q⟩
  · show its.toArray.eraseIdxIfInBounds j = (its.eraseIdx j).toArray
    rw [List.eraseIdxIfInBounds_toArray]
  · have := len_erase xs j
    omega
theorem s_rem {k n : Nat} {x : Str} {e : Expr} {ge : G} {px apos cpos pos : Pos} (hr : Room n X.A) (he : E X C e ge) (hN : X.N[k]? = some x := by rfl) (hv : Vis X.env.scope x := by first | exact Or.inl rfl | exact Or.inr (Or.inl rfl) | exact Or.inr (Or.inr rfl)) (hd : (x == ("__debug__" : Str)) = false := by decide) (hcd : (x == ("__classdict__" : Str)) = false := by decide)
    (hbase : attributeBase (.Name x px) "remove" X.env (eval (.Name x px) X.env) = eval (.Name x px) X.env := by rfl)
    (hfew : ((backTo cpos (starEach [e] X.env)).all (fun x => !x.1) && (backToKw cpos (keywordEach [] X.env)).all (fun x => x.1.isSome) && decide (([e] : List Expr).length + ([] : List Keyword).length + (if ([] : List Keyword).isEmpty then 0 else 1) < 30)) = true := by rfl)
    (hline : (apos.endLine == cpos.line) = true := by rfl) (hst : starEach [e] X.env = [(false, eval e X.env)] := by rfl) (hplain : (backTo cpos (starEach [] X.env)).any (·.1) = false := by rfl)
    (hs : swapsWith (.Call (.Attribute (.Name x px) "remove" apos) [e] [] cpos) none pos.line X.env = pure false := by rfl) :
    S X C Wx (.Expr (.Call (.Attribute (.Name x px) "remove" apos) [e] [] cpos) pos) (sRem k ge) :=
  wkS (ps_expr (pe_bm PySem.F.plainAttrs_list PySem.F.slot_list_remove PySem.F.type_list_remove (mt_remD (hu64 hr)) (pe_var hN hv hd hcd) (pa_cons he pa_nil (by rw [hst]; rfl)) hbase hfew hline hst hplain) hs) fun D σ H h => by
  obtain ⟨lk, am0, F0, H0, am, F, M, δ, o, g, re, sr, h, P⟩ := h
  unfold sRem at h
  simp only [Option.bind_eq_some_iff, Prod.exists] at h
  obtain ⟨w, M1, h1, h2⟩ := h
  split at h2
  · rename_i y xs hi
    split at h2
    · rename_i hl
      simp only [Bool.and_eq_true, decide_eq_true_eq] at hl
      obtain ⟨⟨oy, ox⟩, hsz⟩ := hl
      obtain ⟨j, hj, rfl⟩ := Option.map_eq_some_iff.mp h2
      obtain ⟨a, hσ, r, h0, hF, hna⟩ := re.owned hi rfl
      refine ⟨.ref a, hσ, .inl ⟨rfl, ?_⟩, lk, am, F, M, δ, H0, _, M1, re, sr, h1, fun v am1 F1 H1 g1 s1 r1 f1 => ?_⟩
      · obtain ⟨b, vs, e, h4, _⟩ := r; cases e; exact ⟨vs, .of h4⟩
      · have re' := re.gr g1
        obtain ⟨_, hσ', r', _, hF', hn'⟩ := re'.owned hi rfl
        rw [hσ] at hσ'; cases hσ'
        obtain ⟨b, vs, e, h4, _, _, hlk, ds⟩ := r'
        cases e
        have hdy : DV X.K am1 F1 v y := r1
        obtain ⟨ly, dy⟩ := Mi.D.py_lay 40 y oy
        refine ⟨a, vs, pys xs, v, y.py, j, rfl, rfl, h4, DVs.dp s1.ex 40 ox ds, DV.dp s1.ex 40 oy hdy, (pys_plain ox).1, PyData.plain_of_canLay0 _ ly, dy, by rw [place_py oy ox]; exact hj, ?_⟩
        have re2 := re'.mut (w' := .ol (xs.eraseIdx j)) (o := .lst (vs.eraseIdx j)) hi rfl hσ rfl ⟨a, vs.eraseIdx j, rfl, upd_same, hF', hn', hlk, ds.eraseIdx j⟩
        exact P _ _ _ _ ((g.trans g1).out (H0 := H0) h0) (.of g1) re2 (s1.out hn' hF' hlk)
    · cases h2
  · cases h2
end
end Mi
/-! MiMin: min(list) of data that are alike. -/
namespace Mi
open PySem L2
def dLt (ds : List PyData) (i j : Nat) : Bool := PySem.W.dataLt (ds.getD i .none) (ds.getD j .none)
def alikeB (ds : List PyData) : Bool := ds.all fun a => ds.all fun b => PySem.W.alike a b
def isNoneD : PyData → Bool
  | .none => true
  | _ => false
def minDW (ws : List W) (M : Sto) : Option W := match ws with
  | [w] => (vL M w).bind fun xs => if oks 40 xs && alikeB (pys xs) && (pys xs).all (fun d => !(isNoneD d)) && decide (0 < xs.length) then (xs[argBest (dLt (pys xs)) (xs.length - 1)]?).map .d else none
  | _ => none
theorem depth_all {n : Nat} : ∀ {xs : List D}, (∀ x ∈ xs, x.py.depth ≤ n) → PyData.depthAll (pys xs) ≤ n
  | [], _ => by simp [pys, PyData.depthAll]
  | x :: r, h => by
    have ih := depth_all (n := n) (xs := r) fun y hy => h y (List.mem_cons_of_mem _ hy)
    have h0 := h x List.mem_cons_self
    simp only [pys, PyData.depthAll]
    omega
theorem pys_len : ∀ xs : List D, (pys xs).length = xs.length
  | [] => rfl
  | _ :: r => by simp [pys, pys_len r]
theorem alikeB_ok {ds : List PyData} (h : alikeB ds = true) (k : ds.all (fun d => !(isNoneD d)) = true) : PySem.W.AlikeAll ds := by
  unfold alikeB at h
  simp only [List.all_eq_true] at h k
  refine ⟨h, fun x hx e => ?_⟩
  have := k x hx
  rw [e] at this
  cases this
section
variable {X : Cx} {C : Zs} {R : Rc} {lk : Lk} {am : List Addr} {F H : Hp} {M : Sto}
section
variable {prog : Program} {w : World} {A : Around} {E : Value → Shared → Prop} {s : Shared}
open PySem.W in
theorem min_at {l : Addr} {vs : Array Value} {ds : List PyData} {as : List Addr} {Q : Value → Shared → Prop} (hh : A.handled = none) (hl : s.heap.IsList l vs) (hr : ReadsAll s.heap vs.toList ds as) (ha : AlikeAll ds) (h0 : 0 < ds.length) (hu : A.units + 1 + PyData.depthAll ds < cLine)
    (h : ∀ v h' tk, vs[argBest (dLt ds) (ds.length - 1)]? = some v → (∀ b o, s.heap.get? b = some o → h'.get? b = some o) → Q v { s with heap := h', toks := tk }) :
    wpAny (model prog w) A (call (.builtin "min") [.ref l]) Q E s := by
  have hn : vs.size = ds.length := readsAll_len hr
  refine call_min_walkH (iter_listW (A := A.in1) hh hl fun s₂ e W st hfp hw hk => ?_)
  refine ⟨_, _, _, _, _, _, _, s.heap, _, rfl, W, st, hfp, by omega, hw, hk, cmpIn_lt (A := A.in1) hr ha (by show A.units + 1 + _ < _; exact hu), fun v s' hP m => ?_⟩
  obtain ⟨h', tk, rfl, hk'⟩ := moved_old e rfl m
  rw [hn] at hP
  exact h v h' tk hP hk'
end
def rMinD (K : PySem.W.Frag) (vs : List V) (H : Hp) (Q : VK) : Prop := ∃ (l : Addr) (xs : List V) (ds : List PyData), vs = [.ref l] ∧ SqL K H l xs ∧ DpAll K H xs ds ∧ PySem.W.AlikeAll ds ∧ 0 < ds.length ∧ PyData.depthAll ds ≤ 50 ∧ ∀ v, xs[argBest (dLt ds) (ds.length - 1)]? = some v → Q v H
theorem call_minD (hc : X.calm = true) (hu : X.A.units + 64 < cLine) : CallR X (.builtin "min") (rMinD X.K) := by
  intro pins s σ H vs us Q I r q
  obtain ⟨l, xs, ds, rfl, hs, hd, al, h0, dp, q⟩ := q
  obtain ⟨u, rfl, rx⟩ := vals1 r
  cases rx
  obtain ⟨its, rv, pl, hz⟩ := I.list hs
  obtain ⟨as, rs⟩ := Dp.readsAll I ds xs its hd rv
  have hlist : s.heap.IsList l its.toArray := by
    obtain ⟨o, m, e, c, d, q⟩ := pl
    exact ⟨o, e, c, m, q⟩
  refine min_at (I.ok.hd hc) hlist (by simpa using rs) al h0 (by omega) fun v h' tk hv hk => ?_
  have hlen : xs.length = its.length := rv.length
  have hv' : its[argBest (dLt ds) (ds.length - 1)]? = some v := by simpa using hv
  have hlt := (List.getElem?_eq_some_iff.mp hv').1
  have hx : xs[argBest (dLt ds) (ds.length - 1)]? = some xs[argBest (dLt ds) (ds.length - 1)] := List.getElem?_eq_getElem (by omega)
  obtain ⟨u', hu', ru⟩ := rv.get hx
  rw [hv'] at hu'
  cases hu'
  exact ⟨_, H, I.kept (t' := tk) hk, ru, q _ hx⟩
theorem c_minD : CallC R (rMinD R.K) minDW := by
  intro lk am F M H H0 vs ws z Q s r h P
  unfold minDW at h
  split at h
  · rename_i w
    obtain ⟨v, rfl, rw0⟩ := rws1 r
    obtain ⟨xs, h1, h2⟩ := Option.bind_eq_some_iff.mp h
    split at h2
    · rename_i hc
      simp only [Bool.and_eq_true, decide_eq_true_eq] at hc
      obtain ⟨⟨⟨ox, al⟩, nn⟩, h0⟩ := hc
      obtain ⟨y, hy, rfl⟩ := Option.map_eq_some_iff.mp h2
      obtain ⟨a, us, rfl, hq, d⟩ := vL_ok s rw0 h1
      refine ⟨a, us, pys xs, rfl, .of hq, DVs.dp s.ex 40 ox d, alikeB_ok al nn, by rw [pys_len]; exact h0, Nat.le_trans (depth_all fun x hx => (pys_plain ox).2 x hx) (by decide), fun v hv => ?_⟩
      rw [pys_len] at hv
      obtain ⟨u, hu, du⟩ := d.get hy
      rw [hu] at hv
      cases hv
      exact P.val s du
    · cases h2
  · cases h
end
end Mi
/-! MiCel: a list in the store is walked as it stands, and loses an item. -/
namespace Mi
open PySem L2
def forLC (n : Nat) (b : Tg) (gb : GS) : Nat → Nat → En → Sto → Option Out
  | 0, _, _, _ => none
  | f + 1, i, δ, M => match M[n]? with
    | some (.lst xs) => match xs[i]? with
      | some x => (b.bd x δ).bind fun δ1 => (gb δ1 M).bind fun o => match o with
        | .nx δ' M' => forLC n b gb f (i + 1) δ' M'
        | .ct δ' M' => forLC n b gb f (i + 1) δ' M'
        | .bk δ' M' => some (.nx δ' M')
        | .rt w M' => some (.rt w M')
        | .rs x M' => some (.rs x M')
      | none => some (.nx δ M)
    | _ => none
def sForC (fuel : Nat) (ga : G) (b : Tg) (gb : GS) : GS := fun δ M => (ga δ M).bind fun p => match p.1 with
  | .d (.cel n) => forLC n b gb fuel 0 δ p.2
  | _ => none
def sRemC (go ge : G) : GS := fun δ M => (go δ M).bind fun r => match r.1 with
  | .d (.cel n) => match r.2[n]? with
    | some (.lst _) => (ge δ r.2).bind fun p => match p.1, p.2[n]? with
      | .d y, some (.lst xs) => if y.ok 40 && oks 40 xs && decide (xs.length ≤ SZ) then (xs.findIdx? fun z => deq z y).map fun j => .nx δ (p.2.set n (.lst (xs.eraseIdx j))) else none
      | _, _ => none
    | _ => none
  | _ => none
section
variable {X : Cx} {C : Zs} {R : Rc} {Wx : WX} {lk : Lk} {am am0 : List Addr} {F H F0 H0 : Hp} {M : Sto}
theorem cell_lst {n : Nat} {a : Addr} {xs : List D} (s : SR R lk am F M H) (ha : am[n]? = some a) (h : M[n]? = some (.lst xs)) : lk a = none ∧ ∃ vs, H a = some (.lst vs) ∧ DVs R.K am F vs xs := s.cl n a _ ha h
theorem forC_go {ga : G} {b : Tg} {gb : GS} {D : Ends} {σ : St} {fuel : Nat} (h : tS R Wx (sForC fuel ga b gb) D σ H) :
    tFor (fun σ H Q => tG R ga σ H fun x H1 => ∃ a, x = .ref a ∧ (((∃ xs, SqL R.K H1 a xs) ∧ Q (Itl R.K a) H1) ∨ ((∃ xs, SqT R.K H1 a xs) ∧ Q (Itt R.K a) H1))) (tB R b) (tS R Wx gb) D σ H := by
  obtain ⟨lk, am0, F0, H0, am, F, M, δ, o, g, re, sr, h, P⟩ := h
  unfold sForC at h
  simp only [Option.bind_eq_some_iff, Prod.exists] at h
  obtain ⟨w, M1, h1, h2⟩ := h
  split at h2
  · rename_i n
    refine ⟨lk, am, F, M, δ, H0, _, M1, re, sr, h1, fun v amI FI HI gI sI rI fI => ?_⟩
    obtain ⟨a, rfl, ha⟩ := cel_at (show DV R.K amI FI v (.cel n) from rI)
    have hat : ∀ {am1 : List Addr} {F1 : Hp}, Mo amI FI am1 F1 → am1[n]? = some a := fun mo => by
      obtain ⟨nw, e⟩ := mo.ad
      rw [e, List.getElem?_append_left (List.getElem?_eq_some_iff.mp ha).1]
      exact ha
    have h0 : ∃ xs, M1[n]? = some (.lst xs) := by
      cases fuel with
      | zero => cases h2
      | succ f =>
        unfold forLC at h2
        split at h2
        · rename_i xs e
          exact ⟨xs, e⟩
        · cases h2
    obtain ⟨xs0, e0⟩ := h0
    obtain ⟨_, vs0, c0, _⟩ := cell_lst sI ha e0
    refine ⟨a, rfl, .inl ⟨⟨vs0, .of c0⟩, ?_⟩⟩
    refine ⟨fun i m σ H => ∃ am1 F1 M δ, Gr am0 F0 H0 am1 F1 H ∧ Mo amI FI am1 F1 ∧ RE R.K lk am1 F1 H H0 σ δ ∧ SR R lk am1 F1 M H ∧ forLC n b gb m i δ M = some o,
      ⟨fuel, amI, FI, M1, δ, g.trans gI, .refl _ _, re.gr gI, sI, h2⟩, ?_⟩
    rintro i m σ H ⟨am1, F1, M, δ, g1, mo, re, sr, h⟩
    have P1 := P.mo ((Mo.of gI).trans mo)
    cases m with
    | zero => cases h
    | succ f =>
      unfold forLC at h
      split at h
      · rename_i xs e
        obtain ⟨hlk, vs, c1, ds⟩ := cell_lst sr (hat mo) e
        split at h
        · rename_i x hx
          obtain ⟨u, hu, du⟩ := ds.get hx
          obtain ⟨δ1, hb, h⟩ := Option.bind_eq_some_iff.mp h
          obtain ⟨o1, hbo, h⟩ := Option.bind_eq_some_iff.mp h
          refine .inr ⟨⟨vs, u, .of c1, hu⟩, fun σ H => ∃ am1 F1 M δ, Gr am0 F0 H0 am1 F1 H ∧ Mo amI FI am1 F1 ∧ RE R.K lk am1 F1 H H0 σ δ ∧ SR R lk am1 F1 M H ∧ forLC n b gb f (i + 1) δ M = some o, fun σ' H' k => ⟨f, by omega, k⟩, fun v H' y => ?_⟩
          obtain ⟨rfl, hy⟩ := y
          have e2 := hy vs (.of c1)
          rw [hu] at e2
          cases e2
          refine ⟨lk, am1, F1, M, H0, δ, x, δ1, re, sr, du, hb, fun σ' re' _ => ?_⟩
          refine ⟨lk, am0, F0, H0, am1, F1, M, δ1, o1, g1, re', sr, hbo, ?_⟩
          cases o1 with
          | nx δ' M' => exact fun σ2 am2 F2 H2 g2 m2 r2 s2 => ⟨am2, F2, M', δ', g2, mo.trans m2, r2, s2, h⟩
          | ct δ' M' => exact fun σ2 am2 F2 H2 g2 m2 r2 s2 => ⟨am2, F2, M', δ', g2, mo.trans m2, r2, s2, h⟩
          | bk δ' M' => cases h; exact P1
          | rt w M' => cases h; exact P1
          | rs x M' => cases h; exact P1
        · rename_i hx
          cases h
          exact .inl ⟨⟨vs, .of c1, by rw [ds.length]; exact List.getElem?_eq_none_iff.mp hx⟩, P1 _ _ _ _ g1 (.refl _ _) re sr⟩
      · cases h
  · cases h2
theorem s_forC {tg iter : Expr} {body : List Stmt} {ga : G} {b : Tg} {gb : GS} {pos : Pos} (fuel : Nat) (hc : X.calm = true) (hp : PassesOwn (model X.prog X.w) X.A X.env X.xe) (hi : E X C iter ga) (hg : B X C tg b) (hb : SS X C Wx body gb)
    (hs : ∀ x, foldedSetIterable iter X.env x = pure x := by intro _; rfl) : S X C Wx (.For tg iter body [] pos) (sForC fuel ga b gb) := wkS (ps_for hp hc (pi_seq hi) hg hb hs) fun _ _ _ h => forC_go h
theorem s_remC {n : Nat} {eo e : Expr} {go ge : G} {apos cpos pos : Pos} (hr : Room n X.A) (hO : E X C eo go) (he : E X C e ge)
    (hbase : attributeBase eo "remove" X.env (eval eo X.env) = eval eo X.env := by rfl)
    (hfew : ((backTo cpos (starEach [e] X.env)).all (fun x => !x.1) && (backToKw cpos (keywordEach [] X.env)).all (fun x => x.1.isSome) && decide (([e] : List Expr).length + ([] : List Keyword).length + (if ([] : List Keyword).isEmpty then 0 else 1) < 30)) = true := by rfl)
    (hline : (apos.endLine == cpos.line) = true := by rfl) (hst : starEach [e] X.env = [(false, eval e X.env)] := by rfl) (hplain : (backTo cpos (starEach [] X.env)).any (·.1) = false := by rfl)
    (hs : swapsWith (.Call (.Attribute eo "remove" apos) [e] [] cpos) none pos.line X.env = pure false := by rfl) :
    S X C Wx (.Expr (.Call (.Attribute eo "remove" apos) [e] [] cpos) pos) (sRemC go ge) :=
  wkS (ps_expr (pe_bm PySem.F.plainAttrs_list PySem.F.slot_list_remove PySem.F.type_list_remove (mt_remD (hu64 hr)) hO (pa_cons he pa_nil (by rw [hst]; rfl)) hbase hfew hline hst hplain) hs) fun D σ H h => by
  obtain ⟨lk, am0, F0, H0, am, F, M, δ, o, g, re, sr, h, P⟩ := h
  unfold sRemC at h
  simp only [Option.bind_eq_some_iff, Prod.exists] at h
  obtain ⟨w0, M0, h0, h⟩ := h
  split at h
  · rename_i k
    split at h
    · rename_i xs0 hx0
      simp only [Option.bind_eq_some_iff, Prod.exists] at h
      obtain ⟨w, M1, h1, h2⟩ := h
      split at h2
      · rename_i y xs hxs
        split at h2
        · rename_i hl
          simp only [Bool.and_eq_true, decide_eq_true_eq] at hl
          obtain ⟨⟨oy, ox⟩, hsz⟩ := hl
          obtain ⟨j, hj, rfl⟩ := Option.map_eq_some_iff.mp h2
          refine ⟨lk, am, F, M, δ, H0, _, M0, re, sr, h0, fun ov am1 F1 H1 g1 s1 r1 f1 => ?_⟩
          obtain ⟨a, rfl, ha⟩ := cel_at (show DV X.K am1 F1 ov (.cel k) from r1)
          obtain ⟨_, vs0, c0, _⟩ := cell_lst s1 ha hx0
          refine ⟨.inl ⟨rfl, vs0, .of c0⟩, lk, am1, F1, M0, δ, H0, _, M1, re.gr g1, s1, h1, fun v am2 F2 H2 g2 s2 r2 _ => ?_⟩
          have ha2 := g2.cel ha
          obtain ⟨hlk, vs, c2, ds⟩ := cell_lst s2 ha2 hxs
          have hdy : DV X.K am2 F2 v y := r2
          obtain ⟨ly, dy⟩ := Mi.D.py_lay 40 y oy
          have hm := List.mem_of_getElem? ha2
          have gg := g1.trans g2
          refine ⟨a, vs, pys xs, v, y.py, j, rfl, rfl, c2, DVs.dp s2.ex 40 ox ds, DV.dp s2.ex 40 oy hdy, (pys_plain ox).1, PyData.plain_of_canLay0 _ ly, dy, by rw [place_py oy ox]; exact hj, ?_⟩
          exact P _ _ _ _ ((g.trans gg).cell hm) (.of gg) ((re.gr gg).cell hm) (s2.mut ha2 hlk ⟨hlk, vs.eraseIdx j, upd_same, ds.eraseIdx j⟩)
        · cases h2
      · cases h2
    · cases h
  · cases h
end
end Mi
/-! MiPoC: x.pop(e) of a list in the store, as a value. -/
namespace Mi
open PySem L2
def gPopC (go gi : G) : G := fun δ M => (go δ M).bind fun r => match r.1 with
  | .d (.cel n) => match r.2[n]? with
    | some (.lst _) => (gi δ r.2).bind fun p => match p.1, p.2[n]? with
      | .d (.int i), some (.lst xs) => if xs.length ≤ SZ then (seqIndex? i xs.length).bind fun j => (xs[j]?).map fun y => (.d y, p.2.set n (.lst (xs.eraseIdx j))) else none
      | _, _ => none
    | _ => none
  | _ => none
section
variable {X : Cx} {C : Zs} {R : Rc} {Wx : WX} {lk : Lk} {am am0 : List Addr} {F H F0 H0 : Hp} {M : Sto}
theorem e_popC {eo e : Expr} {go ge : G} {apos cpos : Pos} (hO : E X C eo go) (he : E X C e ge)
    (hbase : attributeBase eo "pop" X.env (eval eo X.env) = eval eo X.env := by rfl)
    (hfew : ((backTo cpos (starEach [e] X.env)).all (fun x => !x.1) && (backToKw cpos (keywordEach [] X.env)).all (fun x => x.1.isSome) && decide (([e] : List Expr).length + ([] : List Keyword).length + (if ([] : List Keyword).isEmpty then 0 else 1) < 30)) = true := by rfl)
    (hline : (apos.endLine == cpos.line) = true := by rfl) (hst : starEach [e] X.env = [(false, eval e X.env)] := by rfl) (hplain : (backTo cpos (starEach [] X.env)).any (·.1) = false := by rfl) :
    E X C (.Call (.Attribute eo "pop" apos) [e] [] cpos) (gPopC go ge) :=
  wkE (pe_bm PySem.F.plainAttrs_list PySem.F.slot_list_pop PySem.F.type_list_pop mt_popAt hO (pa_cons he pa_nil (by rw [hst]; rfl)) hbase hfew hline hst hplain) fun σ H Q h => by
  obtain ⟨lk, am, F, M, δ, H0, z, M', re, sr, h, P⟩ := h
  unfold gPopC at h
  simp only [Option.bind_eq_some_iff, Prod.exists] at h
  obtain ⟨w0, M0, h0, h⟩ := h
  split at h
  · rename_i k
    split at h
    · rename_i xs0 hx0
      simp only [Option.bind_eq_some_iff, Prod.exists] at h
      obtain ⟨w, M1, h1, h2⟩ := h
      split at h2
      · rename_i i xs hxs
        split at h2
        · rename_i hl
          simp only [Option.bind_eq_some_iff, Option.map_eq_some_iff, Prod.mk.injEq] at h2
          obtain ⟨j, hj, y, hy, rfl, rfl⟩ := h2
          refine ⟨lk, am, F, M, δ, H0, _, M0, re, sr, h0, fun ov am1 F1 H1 g1 s1 r1 f1 => ?_⟩
          obtain ⟨a, rfl, ha⟩ := cel_at (show DV X.K am1 F1 ov (.cel k) from r1)
          obtain ⟨_, vs0, c0, _⟩ := cell_lst s1 ha hx0
          refine ⟨.inl ⟨rfl, vs0, .of c0⟩, lk, am1, F1, M0, δ, H0, _, M1, re.gr g1, s1, h1, fun v am2 F2 H2 g2 s2 r2 _ => ?_⟩
          have ha2 := g2.cel ha
          obtain ⟨hlk, vs, c2, ds⟩ := cell_lst s2 ha2 hxs
          cases (show DV X.K am2 F2 v (.int i) from r2)
          obtain ⟨u, hu, du⟩ := ds.get hy
          have hlt := seqIndex_lt hj
          have hl' : xs.length ≤ 100000 := hl
          have hm := List.mem_of_getElem? ha2
          refine ⟨a, vs, i, j, u, rfl, rfl, c2, by omega, by omega, by rw [ds.length]; exact hj, hu, ?_⟩
          exact P u am2 F2 _ ((g1.trans g2).cell hm) (s2.mut ha2 hlk ⟨hlk, vs.eraseIdx j, upd_same, ds.eraseIdx j⟩) du True.intro
        · cases h2
      · cases h2
    · cases h
  · cases h
end
end Mi
/-! MiIns: instances of the own class: fields read and stored, methods called, made. -/
namespace Mi
open PySem L2
/-- a field -/
def gFld (f : Str) (go : G) : G := fun δ M => (go δ M).bind fun p => match p.1 with
  | .d (.cel n) => match p.2[n]? with
    | some (.ins fs) => (fs.lookup f).map fun x => (.d x, p.2)
    | _ => none
  | _ => none
def putS (f : Str) (x : D) : List (Str × D) → List (Str × D)
  | [] => [(f, x)]
  | (g, y) :: r => if g = f then (g, x) :: r else (g, y) :: putS f x r
def sFldS (f : Str) (go ge : G) : GS := fun δ M => (ge δ M).bind fun p => (frz p.1).bind fun x => (go δ p.2).bind fun o => match o.1 with
  | .d (.cel n) => match o.2[n]? with
    | some (.ins fs) => if fs.length < 1000 then some (.nx δ (o.2.set n (.ins (putS f x fs)))) else none
    | _ => none
  | _ => none
/-- a method's call -/
def gMeth (m : Str) (f : Fn) (go : G) (ga : GA) : G := fun δ M => (go δ M).bind fun o => match o.1 with
  | .d (.cel n) => match o.2[n]? with
    | some (.ins fs) => if fs.lookup m = none then (ga δ o.2).bind fun p => (frzs p.1).bind fun ds => f (.cel n :: ds) p.2 else none
    | _ => none
  | _ => none
/-- a new instance -/
def gMk (f : Fn) (dd : List D) (ga gk : GA) : G := fun δ M => (ga δ M).bind fun p => (frzs p.1).bind fun ds => (gk δ p.2).bind fun q => (frzs q.1).bind fun ks =>
  match f (.cel q.2.length :: (ds ++ dd ++ ks)) (q.2 ++ [.ins []]) with
  | some (.d .non, M') => some (.d (.cel q.2.length), M')
  | _ => none
section
variable {X : Cx} {C : Zs} {R : Rc} {Wx : WX} {lk : Lk} {am am0 : List Addr} {F H F0 H0 : Hp} {M : Sto}
theorem KVs.look {K : PySem.W.Frag} {f : Str} : ∀ {fv : List (Str × V)} {fs : List (Str × D)}, KVs K am F fv fs → (∀ x, fs.lookup f = some x → ∃ v, fv.lookup f = some v ∧ DV K am F v x) ∧ (fs.lookup f = none → fv.lookup f = none)
  | _, _, .nil => ⟨fun x h => (by cases h), fun _ => rfl⟩
  | _, _, .cons (k := k) d t => by
    have ih := KVs.look (f := f) t
    simp only [List.lookup_cons]
    cases e : (f == k) with
    | true => exact ⟨fun x h => (by cases h; exact ⟨_, rfl, d⟩), fun h => (by cases h)⟩
    | false => exact ih
theorem KVs.len {κ : Type} {K : PySem.W.Frag} : ∀ {fv : List (κ × V)} {fs : List (κ × D)}, KVs K am F fv fs → fv.length = fs.length
  | _, _, .nil => rfl
  | _, _, .cons _ t => by simp [KVs.len t]
theorem KVs.putS {K : PySem.W.Frag} {f : Str} {v : V} {x : D} (d : DV K am F v x) : ∀ {fv : List (Str × V)} {fs : List (Str × D)}, KVs K am F fv fs → KVs K am F (putF f v fv) (Mi.putS f x fs)
  | _, _, .nil => .cons d .nil
  | _, _, .cons (k := k) e t => by
    have ih := KVs.putS d t (f := f)
    show KVs K am F (if k = f then _ else _) (if k = f then _ else _)
    split
    · exact .cons d t
    · exact .cons e ih
theorem cell_ins {n : Nat} {a : Addr} {fs : List (Str × D)} (s : SR R lk am F M H) (ha : am[n]? = some a) (h : M[n]? = some (.ins fs)) : lk a = none ∧ ∃ dx fv, H a = some (.ins R.Z.C dx fv) ∧ KVs R.K am F fv fs := s.cl n a _ ha h
theorem e_fld {e : Expr} {f : Str} {pos : Pos} {ge : G} (c : Cls X.K C.C) (n : NoAttr X.K C.C f) (he : E X C e ge) (hb : attributeBase e f X.env (eval e X.env) = eval e X.env := by rfl) : E X C (.Attribute e f pos) (gFld f ge) := wkE (pe_fld he hb) fun σ H Q h => by
  obtain ⟨lk, am, F, M, δ, H0, w, M', re, sr, h, P⟩ := h
  unfold gFld at h
  simp only [Option.bind_eq_some_iff, Prod.exists] at h
  obtain ⟨w0, M0, h0, h⟩ := h
  split at h
  · rename_i k
    split at h
    · rename_i fs hf
      obtain ⟨x, hx, e⟩ := Option.map_eq_some_iff.mp h
      cases e
      refine ⟨lk, am, F, M, δ, H0, _, _, re, sr, h0, fun v am1 F1 H1 g1 s1 r1 f1 => ?_⟩
      obtain ⟨a, rfl, ha⟩ := cel_at (show DV X.K am1 F1 v (.cel k) from r1)
      obtain ⟨hl, dx, fv, hH, kv⟩ := cell_ins s1 ha hf
      obtain ⟨u, hu, du⟩ := (kv.look (f := f)).1 x hx
      exact ⟨a, _, dx, fv, u, rfl, hH, c, n, hu, (P.gr g1).val s1 du⟩
    · cases h
  · cases h
theorem s_fld {o e : Expr} {f : Str} {pos pos' : Pos} {go ge : G} (c : Cls X.K C.C) (n : NoAttr X.K C.C f) (hO : E X C o go) (he : E X C e ge) (hs : swapsWith e (some (.Attribute o f pos')) pos.line X.env = pure false := by rfl) :
    S X C Wx (.Assign [.Attribute o f pos'] e pos) (sFldS f go ge) := wkS (ps_fld hO he hs) fun D σ H h => by
  obtain ⟨lk, am0, F0, H0, am, F, M, δ, o, g, re, sr, h, P⟩ := h
  unfold sFldS at h
  simp only [Option.bind_eq_some_iff, Prod.exists] at h
  obtain ⟨w, M1, h1, x, h2, wo, M2, h3, h4⟩ := h
  split at h4
  · rename_i k
    split at h4
    · rename_i fs hf
      split at h4
      · rename_i hl
        cases h4
        refine ⟨lk, am, F, M, δ, H0, w, M1, re, sr, h1, fun v am1 F1 H1 g1 s1 r1 f1 => ?_⟩
        obtain ⟨F', g', s', d', _⟩ := (FZ.of (R := rc X C) r1 f1 h2).go g1 s1
        refine ⟨lk, am1, F', M1, δ, H0, _, M2, re.gr g', s', h3, fun ov am2 F2 H2 g2 s2 r2 _ => ?_⟩
        obtain ⟨a, rfl, ha⟩ := cel_at (show DV X.K am2 F2 ov (.cel k) from r2)
        obtain ⟨hlk, dx, fv, hH, kv⟩ := cell_ins s2 ha hf
        have hm := List.mem_of_getElem? ha
        have gg := g'.trans g2
        refine ⟨a, _, dx, fv, rfl, hH, c, n, by rw [kv.len]; exact hl, ?_⟩
        exact P _ _ _ _ ((g.trans gg).cell hm) (.of gg) ((re.gr gg).cell hm) (s2.mut ha hlk ⟨hlk, dx, _, upd_same, kv.putS (g2.dv d')⟩)
      · cases h4
    · cases h4
  · cases h4
/-- a method under its name -/
structure ClM (Pr : Program) (w : World) (K : PySem.W.Frag) (mg : Str → Option Value) (base : Heap) (C : Zs) (k : Nat) (m : Str) (g : Fn) : Prop where
  ex : ∃ (f : Addr) (fd : FuncData) (ps : List Str), FnOk Pr w K mg base CX0 k f fd ps (spF ⟨K, C⟩ g) ∧ Meth K C.C m f ∧ Binds K fd ps []
theorem meth_go {m : Str} {f : Fn} {go : G} {ga : GA} {σ : St} {Q : VK} {E : XK} (h : tG R (gMeth m f go ga) σ H Q) : tMeth R.Z.C m (spF R f) [] E (tG R go) (tA R ga) σ H Q := by
  obtain ⟨lk, am, F, M, δ, H0, w, M', re, sr, h, P⟩ := h
  unfold gMeth at h
  simp only [Option.bind_eq_some_iff, Prod.exists] at h
  obtain ⟨w0, M0, h0, h⟩ := h
  split at h
  · rename_i k
    split at h
    · rename_i fs hf
      split at h
      · rename_i hno
        simp only [Option.bind_eq_some_iff, Prod.exists] at h
        obtain ⟨ws, M1, h1, ds, h2, h3⟩ := h
        refine ⟨lk, am, F, M, δ, H0, _, M0, re, sr, h0, fun v am1 F1 H1 g1 s1 r1 f1 => ?_⟩
        obtain ⟨a, rfl, ha⟩ := cel_at (show DV R.K am1 F1 v (.cel k) from r1)
        obtain ⟨hl, dx, fv, hH, kv⟩ := cell_ins s1 ha hf
        refine ⟨a, dx, fv, rfl, hH, (kv.look (f := m)).2 hno, lk, am1, F1, M0, δ, H0, ws, M1, re.gr g1, s1, h1, fun vs am2 F2 H2 g2 s2 r2 f2 => ?_⟩
        obtain ⟨F', g', s', d', _⟩ := (FZs.of (R := R) r2 f2 h2).go g2 s2
        rw [List.append_nil]
        exact ⟨lk, am2, F', M1, H0, .cel k :: ds, w, M', s', .cons (.cel (g'.cel ha)) d', h3, P.gr (g1.trans g')⟩
      · cases h
    · cases h
  · cases h
theorem e_meth {k j : Nat} {o : Expr} {m : Str} {apos pos : Pos} {e : Expr} {es : List Expr} {go : G} {ga : GA} {g : Fn} (c : Cls X.K C.C) (cm : ClM X.prog X.w X.K X.mg X.base C k m g) (hr : Room j X.A) (hk : k ≤ j) (hO : E X C o go) (ha : A X C (e :: es) ga)
    (hst : starEach (e :: es) X.env = (false, eval e X.env) :: starEach es X.env := by rfl) (hpl : (backTo pos (starEach es X.env)).any (·.1) = false := by rfl) {pl : Sem Bool}
    (ht : eval (.Call (.Attribute o m apos) (e :: es) [] pos) X.env = (do
      let ov ← eval o X.env
      standAt apos.atName
      let (f, first) ← holding [ov] (getMethod ov m pl)
      callWith pos f first (backTo pos (starEach (e :: es) X.env)) (backToKw pos (keywordEach [] X.env))) := by rfl) : E X C (.Call (.Attribute o m apos) (e :: es) [] pos) (gMeth m g go ga) := by
  obtain ⟨f, fd, ps, F, hm, hb⟩ := cm.ex
  exact wkE (pe_meth (pl := pl) hO c hm F (hr.mono hk) hb .nil pass0 ha hst hpl ht) fun σ H Q h => meth_go h
theorem e_meth0 {k j : Nat} {o : Expr} {m : Str} {apos pos : Pos} {go : G} {g : Fn} (c : Cls X.K C.C) (cm : ClM X.prog X.w X.K X.mg X.base C k m g) (hr : Room j X.A) (hk : k ≤ j) (hO : E X C o go) {pl : Sem Bool}
    (ht : eval (.Call (.Attribute o m apos) [] [] pos) X.env = (do
      let ov ← eval o X.env
      standAt apos.atName
      let (f, first) ← holding [ov] (getMethod ov m pl)
      callWith pos f first (backTo pos (starEach [] X.env)) (backToKw pos (keywordEach [] X.env))) := by rfl) : E X C (.Call (.Attribute o m apos) [] [] pos) (gMeth m g go aNil) := by
  obtain ⟨f, fd, ps, F, hm, hb⟩ := cm.ex
  refine wkE (pe_meth0 (pl := pl) hO c hm F (hr.mono hk) hb .nil pass0 ht) fun σ H Q h => ?_
  obtain ⟨lk, am, F, M, δ, H0, w, M', re, sr, h, P⟩ := meth_go (E := fun _ _ _ => False) h
  refine ⟨lk, am, F, M, δ, H0, w, M', re, sr, h, fun v am1 F1 H1 g1 s1 r1 f1 => ?_⟩
  obtain ⟨a, dx, fs, e, h1, h2, lk, am, F, M, δ, H0, ws, M1, re, sr, h3, P2⟩ := P v am1 F1 H1 g1 s1 r1 f1
  cases h3
  exact ⟨a, dx, fs, e, h1, h2, P2 [] am F _ (Gr.refl _ _ _) sr .nil .nil⟩
/-- how a class is made: its __init__ with n values and keywords ks; dd: what lacks -/
structure ClN (Pr : Program) (w : World) (K : PySem.W.Frag) (mg : Str → Option Value) (base : Heap) (C : Zs) (k : Nat) (x : Str) (g : Fn) (n : Nat) (ks : List Str) (dd : List D) : Prop where
  ex : ∃ (f : Addr) (fd : FuncData) (ps : List Str) (gg : List Value → List Value → List Value) (dv : List V), FnOk Pr w K mg base CX0 k f fd ps (spF ⟨K, C⟩ g) ∧ Mk K C.C f ∧ KBn K fd ps (n + 1) ks gg (fun vs zs => vs ++ dv ++ zs) ∧ mg x = some (.ref C.C) ∧ ∀ am F, DVs K am F dv dd
theorem e_mk {k j n : Nat} {x : Str} {p pos : Pos} {e : Expr} {es : List Expr} {kws : List Keyword} {ks : List Str} {ga gk : GA} {g : Fn} {dd : List D} (c : ClN X.prog X.w X.K X.mg X.base C k x g n ks dd) (hr : Room j X.A) (hk : k + 1 ≤ j) (ha : A X C (e :: es) ga) (hkw : PK X kws (tA (rc X C) gk))
    (hn : ∀ δ M r, ga δ M = some r → r.1.length = n) (hm : ∀ δ M r, gk δ M = some r → r.1.length = ks.length) (hg : Gl X x := by rfl)
    (hall : (backToKw pos (keywordEach kws X.env)).all (·.1.isSome) = true := by rfl) (hks : (backToKw pos (keywordEach kws X.env)).filterMap (·.1) = ks := by rfl) (hdb : (x == ("__debug__" : Str)) = false := by decide)
    (he : starEach (e :: es) X.env = (false, eval e X.env) :: starEach es X.env := by rfl) (hpl : ((backTo pos (starEach (e :: es) X.env)).any (·.1) || (backToKw pos (keywordEach kws X.env)).any (·.1.isNone)) = false := by rfl) :
    E X C (.Call (.Name x p) (e :: es) kws pos) (gMk g dd ga gk) := by
  obtain ⟨f, fd, ps, gg, dv, F, M, hb, hmg, hd⟩ := c.ex
  refine wkE (pe_makeK (M := M) F (hr.mono hk) hg hmg hb pass0 ha hkw hall hks hdb he hpl) fun σ H Q h => ?_
  obtain ⟨lk, am, F, M, δ, H0, w, M', re, sr, h, P⟩ := h
  unfold gMk at h
  simp only [Option.bind_eq_some_iff, Prod.exists] at h
  obtain ⟨ws, M1, h1, ds, h2, zs, M2, h3, qs, h4, h⟩ := h
  split at h
  · rename_i M3 h5
    cases h
    refine ⟨lk, am, F, M, δ, H0, ws, M1, re, sr, h1, fun vs am1 F1 H1 g1 s1 r1 f1 => ?_⟩
    obtain ⟨F', g', s', d', _⟩ := (FZs.of (R := rc X C) r1 f1 h2).go g1 s1
    refine ⟨lk, am1, F', M1, δ, H0, zs, M2, re.gr g', s', h3, fun us am2 F2 H2 g2 s2 r2 f2 => ?_⟩
    obtain ⟨F'', g'', s'', d'', _⟩ := (FZs.of (R := rc X C) r2 f2 h4).go g2 s2
    refine ⟨by rw [r1.length]; exact hn _ _ _ h1, by rw [r2.length]; exact hm _ _ _ h3, fun x dx hx hdx ne => ?_⟩
    have gg := g'.trans g''
    have le1 : Le H2 (upd H2 dx (.own x)) := le_new hdx
    have hx1 : (upd H2 dx (.own x)) x = none := by rw [L2.upd_ne (Ne.symm ne)]; exact hx
    have s3 := (s''.grow le1).grow (le_new (o := .ins C.C dx []) hx1)
    have hl : lk x = none := by
      cases e : lk x with
      | none => rfl
      | some u => have := s''.lh x u e; rw [hx] at this; cases this
    have hF := s''.fresh hx
    have s4 := s3.push hF.2 hF.1 (c := .ins []) ⟨hl, dx, [], upd_same, .nil⟩
    have gn : Gr am F H (am2 ++ [x]) F'' (upd (upd H2 dx (.own x)) x (.ins C.C dx [])) := by
      have h1 := (gg.trans (Gr.new (o := .own x) hdx)).trans (Gr.new (o := .ins C.C dx []) hx1)
      exact h1.push (gg.back hx)
    refine ⟨lk, am2 ++ [x], F'', M2 ++ [.ins []], H0, .cel M2.length :: (ds ++ dd ++ qs), _, _, s4, .cons (.cel ?_) ?_, h5, ?_⟩
    · rw [← s2.len]; simp
    · refine DVs.append (DVs.append ?_ (hd _ _)) ?_
      · exact (Gr.push (g''.trans ((Gr.new (o := .own x) hdx).trans (Gr.new (o := .ins C.C dx []) hx1))) (g''.back hx)).dvs d'
      · exact (Gr.push ((Gr.new (am := am2) (F := F'') (o := .own x) hdx).trans (Gr.new (o := .ins C.C dx []) hx1)) hx).dvs d''
    · intro v am4 F4 H4 g4 s5 r5 f5
      cases (show DV X.K am4 F4 v .non from r5)
      refine ⟨rfl, P _ am4 F4 H4 (gn.trans g4) s5 (.cel ?_) True.intro⟩
      refine g4.cel ?_
      rw [← s2.len]
      simp
  · cases h
end
end Mi
/-! MiExc: what may raise: defs, methods, raise, try. -/
namespace Mi
open PySem L2
inductive Res where
  | ok (w : W) (M : Sto) | ex (x : Exn) (M : Sto)
abbrev FnX := List D → Sto → Option Res
abbrev GX := En → Sto → Option Res
def mkFnX (np n : Nat) (body : GS) : FnX := fun ds M => if ds.length = np then match body (startE n ds) M with
    | some (.rt w M') => (retW w).map fun z => .ok z M'
    | some (.nx _ M') => some (.ok (.d .non) M')
    | some (.rs x M') => some (.ex x M')
    | _ => none
  else none
/-- a raising def, where it doesn't raise -/
def noX (f : FnX) : Fn := fun ds M => match f ds M with
  | some (.ok w M') => some (w, M')
  | _ => none
def gxOf (g : G) : GX := fun δ M => (g δ M).map fun p => .ok p.1 p.2
def gxCall (f : FnX) (as : GA) : GX := fun δ M => (as δ M).bind fun p => (frzs p.1).bind fun ds => f ds p.2
def gxMeth (m : Str) (f : FnX) (go : G) (ga : GA) : GX := fun δ M => (go δ M).bind fun o => match o.1 with
  | .d (.cel n) => match o.2[n]? with
    | some (.ins fs) => if fs.lookup m = none then (ga δ o.2).bind fun p => (frzs p.1).bind fun ds => f (.cel n :: ds) p.2 else none
    | _ => none
  | _ => none
def gxIf (c : GT) (a b : GX) : GX := fun δ M => (c δ M).bind fun p => if p.1 = true then a δ p.2 else b δ p.2
def sxDrop (g : GX) : GS := fun δ M => (g δ M).map fun
  | .ok _ M' => .nx δ M'
  | .ex x M' => .rs x M'
def sxAsg (i : Nat) (g : GX) : GS := fun δ M => (g δ M).bind fun
  | .ok w M' => (frz w).map fun y => .nx (δ.set i (some (.d y))) M'
  | .ex x M' => some (.rs x M')
def sxRet (g : GX) : GS := fun δ M => (g δ M).map fun
  | .ok w M' => .rt w M'
  | .ex x M' => .rs x M'
def sRaise (c : Str) : GS := fun _ M => some (.rs ⟨c, none⟩ M)
def sRaise1 (c f : Str) (ge : G) : GS := fun δ M => (ge δ M).bind fun p => (frz p.1).map fun y => .rs ⟨c, some (f, y)⟩ p.2
/-- try: body (one call) except C as n: a = n.f == e -/
def sTryF (mt : Str → Option Bool) (f : Str) (i j : Nat) (g : GX) (op : W → W → Sto → Option W) (ge : G) : GS := fun δ M => (g δ M).bind fun
  | .ok _ M' => some (.nx δ M')
  | .ex x M' => match mt x.cls, x.fs with
    | some true, some (f', y) => if f' = f then (ge (δ.set i none) M').bind fun p => (op (.d y) p.1 p.2).bind fun z => (frz z).map fun u => .nx (((δ.set i none).set j (some (.d u))).set i none) p.2 else none
    | _, _ => none
section
variable {X : Cx} {C : Zs} {R : Rc} {Wx : WX} {lk : Lk} {am am0 : List Addr} {F H F0 H0 : Hp} {M : Sto}
def OkR (R : Rc) (lk : Lk) (am : List Addr) (F H H0 : Hp) (Q : VK) (Ex : XK) : Res → Prop
  | .ok w M' => Pst R lk am F M' H H0 w Q
  | .ex x M' => ∀ cls d am' F' H', Gr am F H am' F' H' → SR R lk am' F' M' H' → ExnOk R am' F' H' x cls d → Ex cls d H'
theorem OkR.gr {am1 : List Addr} {F1 H1 : Hp} {Q : VK} {Ex : XK} {r : Res} (P : OkR R lk am F H H0 Q Ex r) (g : Gr am F H am1 F1 H1) : OkR R lk am1 F1 H1 H0 Q Ex r := by
  cases r with
  | ok w M' => exact Pst.gr P g
  | ex x M' => exact fun cls d am' F' H' g' => P cls d am' F' H' (g.trans g')
def spX (R : Rc) (f : FnX) : Sp := fun vs H Q E => ∃ lk am F M H0 ds r, SR R lk am F M H ∧ DVs R.K am F vs ds ∧ f ds M = some r ∧ OkR R lk am F H H0 Q E r
theorem mkFnX_len {np n : Nat} {g : GS} (ds : List D) (M : Sto) (r : Res) (h : mkFnX np n g ds M = some r) : ds.length = np := by
  unfold mkFnX at h
  split at h
  · assumption
  · cases h
theorem spX_len {f : FnX} {n : Nat} (hf : ∀ ds M r, f ds M = some r → ds.length = n) (vs : List V) (H : Hp) (Q : VK) (E : XK) (h : spX R f vs H Q E) : vs.length = n := by
  obtain ⟨lk, am, F, M, H0, ds, r, sr, d, h, P⟩ := h
  rw [d.length]
  exact hf _ _ _ h
theorem body_goX {N ps : List Str} {g : GS} {vs : List V} {Q : VK} {E : XK} (h : spX R (mkFnX ps.length N.length g) vs H Q E) : tS R (fun cls d _ H => E cls d H) g { nx := fun _ H' => Q .non H', rt := Q } (L2.start N vs) H := by
  obtain ⟨lk, am, F, M, H0, ds, r, sr, d, h, P⟩ := h
  unfold mkFnX at h
  split at h
  · split at h
    · rename_i hl w' M1 e
      obtain ⟨z, hz, e2⟩ := Option.map_eq_some_iff.mp h
      cases e2
      refine ⟨lk, am, F, H, am, F, M, _, _, Gr.refl _ _ _, start_re d, sr, e, fun v am1 F1 H1 g1 m1 s1 r1 f1 => ?_⟩
      obtain ⟨r2, f2⟩ := ret_rw r1 f1 hz
      exact pst_h0 (show Pst R lk am F M1 H H0 z Q from P) g1 s1 r2 f2 (ret_own hz)
    · rename_i hl δ' M1 e
      cases h
      exact ⟨lk, am, F, H, am, F, M, _, _, Gr.refl _ _ _, start_re d, sr, e, fun σ' am1 F1 H1 g1 m1 r1 s1 => P _ _ _ _ g1 s1 .non True.intro⟩
    · rename_i hl x M1 e
      cases h
      exact ⟨lk, am, F, H, am, F, M, _, _, Gr.refl _ _ _, start_re d, sr, e, fun cls d σ' am1 F1 H1 g1 m1 s1 ex => P cls d am1 F1 H1 g1 s1 ex⟩
    · cases h
  · cases h
variable {Pr : Program} {w : World} {K : PySem.W.Frag} {mg : Str → Option Value} {base : Heap}
/-- THE RULE for a def that may raise -/
theorem fn_okX {x qual : Str} {st : Stmt} {f : Addr} {fd : FuncData} {N ps : List Str} {k : Nat} {g : GS} (Fu : Fun K x qual st f fd) (Sc : FnScope N ps (defScope st))
    (hbody : ∀ (cdv : Value) (A : Around) (outer : List Env) (s : Shared) (H : Hp) (E : XK), Room k (A.deeper (PyProof.Rows.envOfC qual (defScope st) s.heap.objs.size f cdv)) → SS (cxOf (L2.CX Pr w) Pr w K mg base N qual (defScope st) f cdv A outer s H E) C (fun cls d _ H => E cls d H) (defBody st) g) :
    FnOk Pr w K mg base (L2.CX Pr w) (k + 1) f fd ps (spX ⟨K, C⟩ (mkFnX ps.length N.length g)) :=
  Fu.okX Sc (spX_len fun ds M r h => mkFnX_len ds M r h) fun cdv A outer s H vs Q E hr h => ⟨_, hbody cdv A outer s H E hr, body_goX h⟩
structure ClX (Pr : Program) (w : World) (K : PySem.W.Frag) (mg : Str → Option Value) (base : Heap) (C : Zs) (k : Nat) (x : Str) (g : FnX) : Prop where
  ex : ∃ (f : Addr) (fd : FuncData) (ps : List Str), FnOk Pr w K mg base (L2.CX Pr w) k f fd ps (spX ⟨K, C⟩ g) ∧ mg x = some (.ref f) ∧ PySem.W.keepIn K (.ref f) = true ∧ Binds K fd ps []
structure ClMX (Pr : Program) (w : World) (K : PySem.W.Frag) (mg : Str → Option Value) (base : Heap) (C : Zs) (k : Nat) (m : Str) (g : FnX) : Prop where
  ex : ∃ (f : Addr) (fd : FuncData) (ps : List Str), FnOk Pr w K mg base (L2.CX Pr w) k f fd ps (spX ⟨K, C⟩ g) ∧ Meth K C.C m f ∧ Binds K fd ps []
/-! ### expressions that may raise -/
def tGX (R : Rc) (Wx : WX) (g : GX) : TE := fun σ H Q => ∃ lk am F M δ H0 r, RE R.K lk am F H H0 σ δ ∧ SR R lk am F M H ∧ g δ M = some r ∧ OkR R lk am F H H0 Q (fun cls d H' => Wx cls d σ H') r
abbrev EX (X : Cx) (C : Zs) (Wx : WX) (e : Expr) (g : GX) : Prop := PE X e (tGX (rc X C) Wx g)
theorem ex_of {e : Expr} {g : G} (h : E X.nox C e g) : EX X C Wx e (gxOf g) := wkE (PE.nox h) fun σ H Q h => by
  obtain ⟨lk, am, F, M, δ, H0, r, re, sr, h, P⟩ := h
  unfold gxOf at h
  obtain ⟨p, h1, rfl⟩ := Option.map_eq_some_iff.mp h
  exact ⟨lk, am, F, M, δ, H0, p.1, p.2, re, sr, h1, P⟩
theorem ex_if {c a b : Expr} {pos : Pos} {gc : GT} {ga gb : GX} (hc : T X.nox C c gc) (ha : EX X C Wx a ga) (hb : EX X C Wx b gb) : EX X C Wx (.IfExp c a b pos) (gxIf gc ga gb) := wkE (pe_ifExp (PT.nox hc) ha hb) fun σ H Q h => by
  obtain ⟨lk, am, F, M, δ, H0, r, re, sr, h, P⟩ := h
  unfold gxIf at h
  obtain ⟨⟨c, M1⟩, h1, h2⟩ := Option.bind_eq_some_iff.mp h
  refine ⟨lk, am, F, M, δ, H0, c, M1, re, sr, h1, fun am1 F1 H1 g1 s1 => ?_⟩
  cases c with
  | true => exact iteT ⟨lk, am1, F1, M1, δ, H0, r, re.gr g1, s1, h2, P.gr g1⟩
  | false => exact iteF ⟨lk, am1, F1, M1, δ, H0, r, re.gr g1, s1, h2, P.gr g1⟩
theorem paNox {es : List Expr} {t : TA} (h : PA X.nox es t) : PA X es t := ⟨fun pos pins s σ H Q I hw =>
  wpAny_mono (h.run pos pins s σ H Q (I.wish _) hw) (fun _ _ ⟨vs, H', I', r, q⟩ => ⟨vs, H', I'.unwish, r, q⟩) fun _ _ z => z.elim⟩
section
variable {CX : CXT} {k : Nat} {f Cc : Addr} {fd : FuncData} {ps : List Str} {sp : Sp} {Es : St → XK} {m : Str} {pos apos : Pos} {e o : Expr} {es : List Expr} {ta : TE} {t : TA}
def tMethX (Cc : Addr) (m : Str) (sp : Sp) (Es : St → XK) (ta : TE) (t : TA) : TE := fun σ H Q => ta σ H fun x H1 => ∃ a dx fs, x = .ref a ∧ H1 a = some (.ins Cc dx fs) ∧ fs.lookup m = none ∧ t σ H1 fun vs H2 => sp (x :: vs) H2 Q (Es σ)
/-- o.m(e, ..), at the slots -/
theorem pe_methX {pl : Sem Bool} (he : PE X o ta) (c : Cls X.K Cc) (hm : Meth X.K Cc m f) (Fk : FnOk X.prog X.w X.K X.mg X.base CX k f fd ps sp) (hr : Room k X.A) (hb : Binds X.K fd ps []) (hx : ∀ σ, PassesAt CX X σ (Es σ)) (ha : PA X (e :: es) t)
    (hst : starEach (e :: es) X.env = (false, eval e X.env) :: starEach es X.env := by rfl) (hpl : (backTo pos (starEach es X.env)).any (·.1) = false := by rfl)
    (ht : eval (.Call (.Attribute o m apos) (e :: es) [] pos) X.env = (do
      let ov ← eval o X.env
      standAt apos.atName
      let (f, first) ← holding [ov] (getMethod ov m pl)
      callWith pos f first (backTo pos (starEach (e :: es) X.env)) (backToKw pos (keywordEach [] X.env))) := by rfl) :
    PE X (.Call (.Attribute o m apos) (e :: es) [] pos) (tMethX Cc m sp Es ta t) :=
  ⟨fun pins s σ H Q I h => PySem.W.methodCall_KW (pl := pl) (thn (he.run pins s σ H _ I h) fun u s1 ⟨x, H1, I1, rx, a, dx, fs, ex, ea, l, q⟩ => by
    subst ex
    obtain rfl : u = Value.ref a := rx
    exact getmeth_ok I1 ea c hm l (PySem.W.callWith_K (first := [.ref a]) (h₀ := X.base) I.ok.mod.kin hm.kp (thn (ha.run pos pins s1 σ H1 _ I1 q) fun us s2 ⟨vs, H2, I2, r, q2⟩ => ⟨I2.kIn, run_fnS (us := .ref a :: us) (vs := .ref a :: vs) Fk hr hb (hx σ) I2 (.cons rfl r) q2⟩) hst hpl)) ht⟩
end
theorem methX_go {m : Str} {f : FnX} {go : G} {ga : GA} {σ : St} {Q : VK} (h : tGX R Wx (gxMeth m f go ga) σ H Q) : tMethX R.Z.C m (spX R f) (WE Wx) (tG R go) (tA R ga) σ H Q := by
  obtain ⟨lk, am, F, M, δ, H0, r, re, sr, h, P⟩ := h
  unfold gxMeth at h
  simp only [Option.bind_eq_some_iff, Prod.exists] at h
  obtain ⟨w0, M0, h0, h⟩ := h
  split at h
  · rename_i k
    split at h
    · rename_i fs hf
      split at h
      · rename_i hno
        simp only [Option.bind_eq_some_iff, Prod.exists] at h
        obtain ⟨ws, M1, h1, ds, h2, h3⟩ := h
        refine ⟨lk, am, F, M, δ, H0, _, M0, re, sr, h0, fun v am1 F1 H1 g1 s1 r1 f1 => ?_⟩
        obtain ⟨a, rfl, ha⟩ := cel_at (show DV R.K am1 F1 v (.cel k) from r1)
        obtain ⟨hl, dx, fv, hH, kv⟩ := cell_ins s1 ha hf
        refine ⟨a, dx, fv, rfl, hH, (kv.look (f := m)).2 hno, lk, am1, F1, M0, δ, H0, ws, M1, re.gr g1, s1, h1, fun vs am2 F2 H2 g2 s2 r2 f2 => ?_⟩
        obtain ⟨F', g', s', d', _⟩ := (FZs.of (R := R) r2 f2 h2).go g2 s2
        exact ⟨lk, am2, F', M1, H0, .cel k :: ds, r, s', .cons (.cel (g'.cel ha)) d', h3, OkR.gr P (g1.trans g')⟩
      · cases h
    · cases h
  · cases h
theorem ex_meth {k j : Nat} {o : Expr} {m : Str} {apos pos : Pos} {e : Expr} {es : List Expr} {go : G} {ga : GA} {g : FnX} (tk : Takes X Wx) (c : Cls X.K C.C) (cm : ClMX X.prog X.w X.K X.mg X.base C k m g) (hr : Room j X.A) (hk : k ≤ j) (hO : E X.nox C o go) (ha : A X.nox C (e :: es) ga)
    (hst : starEach (e :: es) X.env = (false, eval e X.env) :: starEach es X.env := by rfl) (hpl : (backTo pos (starEach es X.env)).any (·.1) = false := by rfl) {pl : Sem Bool}
    (ht : eval (.Call (.Attribute o m apos) (e :: es) [] pos) X.env = (do
      let ov ← eval o X.env
      standAt apos.atName
      let (f, first) ← holding [ov] (getMethod ov m pl)
      callWith pos f first (backTo pos (starEach (e :: es) X.env)) (backToKw pos (keywordEach [] X.env))) := by rfl) : EX X C Wx (.Call (.Attribute o m apos) (e :: es) [] pos) (gxMeth m g go ga) := by
  obtain ⟨f, fd, ps, Fk, hm, hb⟩ := cm.ex
  exact wkE (pe_methX (pl := pl) (PE.nox hO) c hm Fk (hr.mono hk) hb (fun σ => passAt tk σ) (paNox ha) hst hpl ht) fun σ H Q h => methX_go h
theorem ex_cl {k j : Nat} {x : Str} {p pos : Pos} {e : Expr} {es : List Expr} {ga : GA} {g : FnX} (tk : Takes X Wx) (c : ClX X.prog X.w X.K X.mg X.base C k x g) (hr : Room j X.A) (hk : k ≤ j) (ha : A X.nox C (e :: es) ga) (hg : Gl X x := by rfl) (hdb : (x == ("__debug__" : Str)) = false := by decide)
    (he : starEach (e :: es) X.env = (false, eval e X.env) :: starEach es X.env := by rfl) (hpl : (backTo pos (starEach es X.env)).any (·.1) = false := by rfl) : EX X C Wx (.Call (.Name x p) (e :: es) [] pos) (gxCall g ga) := by
  obtain ⟨f, fd, ps, Fk, hm, hk', hb⟩ := c.ex
  refine wkE (pe_callS Fk (hr.mono hk) hg hm hk' hb (fun σ => passAt tk σ) (paNox ha) hdb he hpl) fun σ H Q h => ?_
  obtain ⟨lk, am, F, M, δ, H0, r, re, sr, h, P⟩ := h
  unfold gxCall at h
  simp only [Option.bind_eq_some_iff, Prod.exists] at h
  obtain ⟨ws, M1, h1, ds, h2, h3⟩ := h
  refine ⟨lk, am, F, M, δ, H0, ws, M1, re, sr, h1, fun vs am1 F1 H1 g1 s1 r1 f1 => ?_⟩
  obtain ⟨F', g', s', d', _⟩ := (FZs.of (R := rc X C) r1 f1 h2).go g1 s1
  exact ⟨lk, am1, F', M1, H0, ds, r, s', d', h3, OkR.gr P g'⟩
/-! ### .. where they don't -/
theorem spX_no {f : FnX} {vs : List V} {Q : VK} (h : spF R (noX f) vs H Q E0) : spX R f vs H Q E0 := by
  obtain ⟨lk, am, F, M, H0, ds, w, M', sr, d, h, P⟩ := h
  unfold noX at h
  split at h
  · rename_i w' M1 e
    cases h
    exact ⟨lk, am, F, M, H0, ds, _, sr, d, e, P⟩
  · cases h
theorem e_methX {k j : Nat} {o : Expr} {m : Str} {apos pos : Pos} {e : Expr} {es : List Expr} {go : G} {ga : GA} {g : FnX} (c : Cls X.K C.C) (cm : ClMX X.prog X.w X.K X.mg X.base C k m g) (hr : Room j X.A) (hk : k ≤ j) (hO : E X C o go) (ha : A X C (e :: es) ga)
    (hst : starEach (e :: es) X.env = (false, eval e X.env) :: starEach es X.env := by rfl) (hpl : (backTo pos (starEach es X.env)).any (·.1) = false := by rfl) {pl : Sem Bool}
    (ht : eval (.Call (.Attribute o m apos) (e :: es) [] pos) X.env = (do
      let ov ← eval o X.env
      standAt apos.atName
      let (f, first) ← holding [ov] (getMethod ov m pl)
      callWith pos f first (backTo pos (starEach (e :: es) X.env)) (backToKw pos (keywordEach [] X.env))) := by rfl) : E X C (.Call (.Attribute o m apos) (e :: es) [] pos) (gMeth m (noX g) go ga) := by
  obtain ⟨f, fd, ps, Fk, hm, hb⟩ := cm.ex
  refine wkE (pe_meth (pl := pl) hO c hm Fk (hr.mono hk) hb .nil passL ha hst hpl ht) fun σ H Q h => ?_
  obtain ⟨lk, am, F, M, δ, H0, w, M', re, sr, h, P⟩ := meth_go (E := E0) h
  refine ⟨lk, am, F, M, δ, H0, w, M', re, sr, h, fun v am1 F1 H1 g1 s1 r1 f1 => ?_⟩
  obtain ⟨a, dx, fs, e, h1, h2, lk, am, F, M, δ, H0, ws, M1, re, sr, h3, P2⟩ := P v am1 F1 H1 g1 s1 r1 f1
  exact ⟨a, dx, fs, e, h1, h2, lk, am, F, M, δ, H0, ws, M1, re, sr, h3, fun vs am2 F2 H2 g2 s2 r2 f2 => spX_no (P2 vs am2 F2 H2 g2 s2 r2 f2)⟩
/-! ### statements -/
theorem s_nox {st : Stmt} {g : GS} (h : S X.nox C Wx st g) : S X C Wx st g :=
  ⟨fun pins s σ H D I hw => wpAny_mono (h.run pins s σ H D (I.wish _) hw) (fun _ _ q => q.unwish) fun _ _ z => z.elim⟩
theorem ss_nox {st : List Stmt} {g : GS} (h : SS X.nox C Wx st g) : SS X C Wx st g := PSs.nox h
theorem t_nox {e : Expr} {g : GT} (h : T X.nox C e g) : T X C e g := PT.nox h
theorem sx_drop {e : Expr} {ga : GX} {pos : Pos} (he : EX X C Wx e ga) (hs : swapsWith e none pos.line X.env = pure false := by rfl) : S X C Wx (.Expr e pos) (sxDrop ga) := wkS (ps_expr he hs) fun D σ H h => by
  obtain ⟨lk, am0, F0, H0, am, F, M, δ, o, g, re, sr, h, P⟩ := h
  unfold sxDrop at h
  obtain ⟨r, h1, rfl⟩ := Option.map_eq_some_iff.mp h
  cases r with
  | ok w M1 => exact ⟨lk, am, F, M, δ, H0, _, re, sr, h1, fun v am1 F1 H1 g1 s1 r1 f1 => P _ _ _ _ (g.trans g1) (.of g1) (re.gr g1) s1⟩
  | ex x M1 => exact ⟨lk, am, F, M, δ, H0, _, re, sr, h1, fun cls d am1 F1 H1 g1 s1 ex => P cls d σ am1 F1 H1 (g.trans g1) (.of g1) s1 ex⟩
theorem sx_ret {e : Expr} {ga : GX} {pos : Pos} (he : EX X C Wx e ga) : S X C Wx (.Return (some e) pos) (sxRet ga) := wkS (ps_ret he) fun D σ H h => by
  obtain ⟨lk, am0, F0, H0, am, F, M, δ, o, g, re, sr, h, P⟩ := h
  unfold sxRet at h
  obtain ⟨r, h1, rfl⟩ := Option.map_eq_some_iff.mp h
  cases r with
  | ok w M1 => exact ⟨lk, am, F, M, δ, H0, _, re, sr, h1, fun v am1 F1 H1 g1 s1 r1 f1 => P v _ _ _ (g.trans g1) (.of g1) s1 r1 (f1.back g)⟩
  | ex x M1 => exact ⟨lk, am, F, M, δ, H0, _, re, sr, h1, fun cls d am1 F1 H1 g1 s1 ex => P cls d σ am1 F1 H1 (g.trans g1) (.of g1) s1 ex⟩
theorem sx_asg {i : Nat} {x : Str} {e : Expr} {ga : GX} {pos pos' : Pos} (hN : X.N.Nodup) (he : EX X C Wx e ga) (hi : X.N[i]? = some x := by rfl) (hx : Loc X.env.scope x := by first | exact Or.inl rfl | exact Or.inr rfl) (hs : swapsWith e (some (.Name x pos')) pos.line X.env = pure false := by rfl)
    (hf : X.fn x = true ∨ X.env.scope.names.lookup x = some .local := by first | exact .inl rfl | exact .inr rfl) : S X C Wx (.Assign [.Name x pos'] e pos) (sxAsg i ga) := wkS (ps_set hN hi hx he hs hf) fun D σ H h => by
  obtain ⟨lk, am0, F0, H0, am, F, M, δ, o, g, re, sr, h, P⟩ := h
  unfold sxAsg at h
  obtain ⟨r, h1, h2⟩ := Option.bind_eq_some_iff.mp h
  cases r with
  | ok w M1 =>
    obtain ⟨y, h3, rfl⟩ := Option.map_eq_some_iff.mp h2
    refine ⟨lk, am, F, M, δ, H0, _, re, sr, h1, fun v am1 F1 H1 g1 s1 r1 f1 => ?_⟩
    obtain ⟨F', g', s', d', _⟩ := (FZ.of (R := rc X C) r1 f1 h3).go g1 s1
    exact P _ _ _ _ (g.trans g') (.of g') ((re.gr g').setD d') s'
  | ex x M1 =>
    cases h2
    exact ⟨lk, am, F, M, δ, H0, _, re, sr, h1, fun cls d am1 F1 H1 g1 s1 ex => P cls d σ am1 F1 H1 (g.trans g1) (.of g1) s1 ex⟩
/-! ### raise -/
/-- what the written part says of an exception's class -/
structure ExC (K : PySem.W.Frag) (mg : Str → Option Value) (a : Addr) (x : Str) : Prop where
  g : mg x = some (.ref a)
  q : PySem.W.excIn K a PySem.HandSPX.veTail "ValueError.__new__" = true
  k : PySem.W.keepIn K (.ref a) = true
  b : PySem.W.subIn K (.ref a) (.type "BaseException") = some true
  t : PySem.W.typeIn K (.ref a) = some (.type "type")
theorem s_raise {x m : Str} {j : Nat} {p p2 pos pos2 : Pos} (hc : X.calm = true) (tk : Takes X Wx) (T : ExC X.K X.mg (C.ex x) x) (hg : Gl X x := by rfl) (hdb : (x == ("__debug__" : Str)) = false := by decide) :
    S X C Wx (.Raise (some (.Call (.Name x p) [.Constant (.str m) j p2] [] pos)) none pos2) (sRaise x) :=
  wkS (ps_raise hc tk (pmk_own PySem.F.excBase_ValueError T.q T.g T.k (raises_own T.b T.t) hg hdb)) fun D σ H h => by
    obtain ⟨lk, am0, F0, H0, am, F, M, δ, o, g, re, sr, h, P⟩ := h
    cases h
    exact P _ _ σ am F H g (.refl _ _) sr ⟨rfl, rfl⟩
/-- an own __init__ that says C'.__init__(self, '..') and keeps its one value under f -/
def spInit (K : PySem.W.Frag) (f : Str) : Sp := fun vs H Q _ => ∃ (a Cc : Addr) (v : V), vs = [.ref a, v] ∧ OexC K Cc ∧ PySem.W.findIn K (.ref Cc) f = some none ∧ H a = some (exo a Cc none) ∧
  ∀ dx, H dx = none → dx ≠ a → Q .non (upd (upd H dx (exd dx [(f, v)])) a (exo a Cc (some dx)))
/-- what is known of an own class B, where B.__init__ is the built-in one -/
structure VeB (K : PySem.W.Frag) (mg : Str → Option Value) (B : Str) : Prop where
  ex : ∃ a : Addr, mg B = some (.ref a) ∧ PySem.W.specialIn K (.ref a) "__getattribute__" = some (some (.builtin "type.__getattribute__")) ∧ PySem.W.readsIn K a (.type "type") = true ∧
    PySem.W.findCls K (.ref a) (.type "type") "__init__" = some (.val (.builtin "ValueError.__init__"))
theorem pe_ainit {B : Str} {e : Expr} {es : List Expr} {ta : TA} {p1 p2 pos : Pos} {pl : Sem Bool} (T : VeB X.K X.mg B) (ha : PA X (e :: es) ta) (hg : Gl X B := by rfl) (hdb : (B == ("__debug__" : Str)) = false := by decide)
    (hc : eval (.Call (.Attribute (.Name B p1) "__init__" p2) (e :: es) [] pos) X.env = (do
      let ov ← eval (.Name B p1) X.env
      standAt p2.atName
      let (f, first) ← holding [ov] (getMethod ov "__init__" pl)
      callWith pos f first (backTo pos (starEach (e :: es) X.env)) (backToKw pos (keywordEach [] X.env))) := by rfl)
    (he : starEach (e :: es) X.env = (false, eval e X.env) :: starEach es X.env := by rfl) (hpl : (backTo pos (starEach es X.env)).any (·.1) = false := by rfl) :
    PE X (.Call (.Attribute (.Name B p1) "__init__" p2) (e :: es) [] pos) (tVeI X.K ta) := by
  obtain ⟨a, h1, h2, h3, h4⟩ := T.ex
  refine ⟨fun pins s σ H Q I h => PySem.W.methodCall_KW (ld_glob I hg h1 ?_ hdb) hc⟩
  refine PySem.W.method_cls I.kIn h2 (PySem.W.cls_value I.kIn h3 h4 (by decide +kernel) ?_)
  refine PyProof.Rows.callWith_method1 (thn (ha.run pos pins _ σ H _ (I.tok _) h) fun us s1 ⟨vs, H1, I1, r1, b, Cc, ws, ev, hl, To, ea, q⟩ => ?_) he hpl
  subst ev
  cases r1 with
  | @cons _ u0 _ ur ra rw' =>
    obtain rfl : u0 = Value.ref b := ra
    exact oinit_ok To I1 ea (by rw [← Paired.length rw', sizeLine_eq]; omega) fun s' J => ⟨.non, H1, J, rfl, q⟩
theorem init_ok {x qual B f msg : Str} {st : Stmt} {fa : Addr} {fd : FuncData} {p1 p2 p3 p4 p5 p6 p7 p8 p9 p10 : Pos} {j : Nat} (Fu : Fun K x qual st fa fd) (Sc : FnScope ["self", f] ["self", f] (defScope st)) (T : VeB K mg B)
    (hb : defBody st = [.Expr (.Call (.Attribute (.Name B p1) "__init__" p2) [.Name "self" p3, .Constant (.str msg) j p4] [] p5) p6, .Assign [.Attribute (.Name "self" p7) f p8] (.Name f p9) p10])
    (hall : ∀ (cdv : Value) (A : Around) (outer : List Env) (s : Shared) (H : Hp) (E : XK), PSs (cxOf CX0 Pr w K mg base ["self", f] qual (defScope st) fa cdv A outer s H E).nox
      [.Expr (.Call (.Attribute (.Name B p1) "__init__" p2) [.Name "self" p3, .Constant (.str msg) j p4] [] p5) p6, .Assign [.Attribute (.Name "self" p7) f p8] (.Name f p9) p10]
      (tSeq (tDrop (tVeI K (tCons (tVar 0) (tCons (tC (.str msg)) tNil)))) (tOst K f (tVar 0) (tVar 1)))) : FnOk Pr w K mg base CX0 1 fa fd ["self", f] (spInit K f) := by
  refine Fu.ok Sc (fun vs H Q E h => ?_) fun cdv A outer s H vs Q E hr h => ⟨_, by rw [hb]; exact hall cdv A outer s H E, ?_⟩
  · obtain ⟨a, Cc, v, rfl, _⟩ := h
    rfl
  · obtain ⟨a, Cc, v, rfl, To, hno, ha, q⟩ := h
    exact ⟨_, rfl, a, Cc, [.str msg], rfl, (by decide : 1 ≤ 1000), To, ha, _, rfl, _, rfl, a, Cc, rfl, To, hno, .inl ⟨ha, fun dx hd hne => q dx hd hne⟩⟩
/-- an own class with such an __init__ -/
structure ExI (Pr : Program) (w : World) (K : PySem.W.Frag) (mg : Str → Option Value) (base : Heap) (C : Addr) (x f : Str) : Prop where
  ex : ∃ (fI : Addr) (fd : FuncData), FnOk Pr w K mg base CX0 1 fI fd ["self", f] (spInit K f) ∧ OexC K C ∧ PySem.W.findIn K (.ref C) "__init__" = some (some (.ref fI)) ∧ PySem.W.typeIn K (.ref fI) = some (.type "function") ∧ Binds K fd ["self", f] [] ∧ PySem.W.findIn K (.ref C) f = some none ∧ mg x = some (.ref C)
theorem s_raise1 {x f : Str} {e : Expr} {ge : G} {k : Nat} {p pos pos2 : Pos} (hc : X.calm = true) (tk : Takes X Wx) (T : ExI X.prog X.w X.K X.mg X.base (C.ex x) x f) (hr : Room k X.A) (hk : 2 ≤ k) (he : E X.nox C e ge) (hg : Gl X x := by rfl) (hdb : (x == ("__debug__" : Str)) = false := by decide)
    (hst : starEach (e :: []) X.env = (false, eval e X.env) :: starEach [] X.env := by rfl) (hpl : (backTo pos (starEach [] X.env)).any (·.1) = false := by rfl) :
    S X C Wx (.Raise (some (.Call (.Name x p) [e] [] pos)) none pos2) (sRaise1 x f ge) := by
  obtain ⟨fI, fd, F1, To, iC, tI, hb, hno, hm⟩ := T.ex
  refine wkS (ps_raise hc tk (pmk_oex To iC tI F1 (hr.mono hk) hb .nil pass0 hg hm (pa_cons (PE.nox he) pa_nil hst) hdb hst hpl)) fun D σ H h => ?_
  obtain ⟨lk, am0, F0, H0, am, F, M, δ, o, g, re, sr, h, P⟩ := h
  unfold sRaise1 at h
  simp only [Option.bind_eq_some_iff, Option.map_eq_some_iff, Prod.exists] at h
  obtain ⟨w, M1, h1, y, h2, rfl⟩ := h
  refine ⟨lk, am, F, M, δ, H0, w, M1, re, sr, h1, fun v am1 F1 H1 g1 s1 r1 f1 => ?_⟩
  obtain ⟨F', g', s', d', _⟩ := (FZ.of (R := rc X C) r1 f1 h2).go g1 s1
  refine ⟨(by decide : 1 ≤ 1000), fun a ha => ⟨a, _, v, rfl, To, hno, upd_same, fun dx hdx ne => ⟨rfl, dx, [(f, v)], upd_same, ?_, ?_, ?_⟩⟩⟩
  · rw [L2.upd_ne ne, upd_same]
  · rw [L2.upd_ne ne] at hdx
    exact hdx
  · rw [L2.upd_ne ne] at hdx
    have e : upd (del (upd (upd (upd H1 a (exo a (C.ex x) none)) dx (exd dx [(f, v)])) a (exo a (C.ex x) (some dx))) a) dx (.xd [(f, v)]) = upd H1 dx (.xd [(f, v)]) := by
      funext b
      by_cases h1 : b = dx
      · rw [h1, upd_same, upd_same]
      · rw [L2.upd_ne h1, L2.upd_ne h1]
        by_cases h2 : b = a
        · rw [h2, del_same, ha]
        · rw [del_ne h2, L2.upd_ne h2, L2.upd_ne h1, L2.upd_ne h2]
    rw [e]
    have gn : Gr am F H am1 F' (upd H1 dx (.xd [(f, v)])) := g'.trans (Gr.new hdx)
    exact P _ _ σ am1 F' _ (g.trans gn) (.of gn) (s'.grow (le_new hdx)) ⟨rfl, dx, v, rfl, upd_same, d'⟩
end
end Mi
/-! MiTry: try: one call; except C as n: a = n.f == e. -/
namespace Mi
open PySem L2
def sTry1 (mt : Str → Option Bool) (f : Str) (i j : Nat) (g : GX) (op : W → W → Sto → Option W) (ge : G) : GS := fun δ M => (g δ M).bind fun
  | .ok _ M' => some (.nx δ M')
  | .ex x M' => if mt x.cls = some true ∧ i < δ.length then match x.fs with
    | some (f', y) => if f' = f then (ge (δ.set i none) M').bind fun p => (op (.d y) p.1 p.2).bind fun z => (frz z).map fun u => .nx (((δ.set i none).set j (some (.d u))).set i none) p.2 else none
    | none => none
  else none
section
variable {X : Cx} {C : Zs} {R : Rc} {Wx : WX} {lk : Lk} {am am0 : List Addr} {F H F0 H0 : Hp} {M : Sto}
theorem RE.out {σ : St} {δ : En} (r : RE R.K lk am F H H0 σ δ) {i : Nat} {o : Option V} : RE R.K lk am F H H0 (σ.set i o) (δ.set i none) := by
  have key : ∀ (j : Nat) (w : W), (δ.set i none)[j]? = some (some w) → j ≠ i ∧ δ[j]? = some (some w) := fun j w h => by
    by_cases e : j = i
    · subst e
      rw [List.getElem?_set] at h
      simp at h
    · exact ⟨e, by rwa [List.getElem?_set_ne (Ne.symm e)] at h⟩
  refine ⟨by simp [r.len], fun j w h => ?_, fun j w u h ho hs => ?_, fun j k w u z hjk h1 o1 h2 o2 hs => ?_⟩
  · obtain ⟨e, h⟩ := key j w h
    rw [List.getElem?_set_ne (Ne.symm e)]
    exact r.at_ j w h
  · obtain ⟨e, h⟩ := key j w h
    rw [List.getElem?_set_ne (Ne.symm e)] at hs
    exact r.own j w u h ho hs
  · obtain ⟨e1, h1⟩ := key j w h1
    obtain ⟨e2, h2⟩ := key k u h2
    rw [List.getElem?_set_ne (Ne.symm e1)] at hs
    rw [List.getElem?_set_ne (Ne.symm e2)]
    exact r.dis j k w u z hjk h1 o1 h2 o2 hs
theorem s_try1 {x n y f cx : Str} {i j : Nat} {e2 call : Expr} {o : CmpOp} {ge : G} {gx : GX} {mt : Str → Option Bool} {r : R2} {op : W → W → Sto → Option W} {p1 np pn1 pn2 py cpos spos pos' pos : Pos}
    (hs : X.stack = X.env :: X.outer) (hf : X.env.frame = some X.env.locals) (hN : X.N.Nodup) (hi : X.N[i]? = some n) (hj : X.N[j]? = some y) (hln : X.env.kindOf n = some .local) (hlf : X.env.kindOf y = some .local ∨ X.env.scope.names.lookup y = some .local)
    (hc : Names X x (.ref (C.ex cx))) (hxe : X.xe = fun _ _ => False)
    (hmt : ∀ c b, mt c = some b → PySem.W.exmOne X.K (.ref (C.ex c)) (.ref (C.ex cx)) = some b) (T : ∀ c, mt c = some true → XfC X.K (C.ex c) ∧ PySem.W.findIn X.K (.ref (C.ex c)) f = some none)
    (hbody : ∀ (W : WX) (pn : List (Addr × Obj)) (xe : Value → Shared → Prop), Takes (X.tr pn xe) W → EX (X.tr pn xe) C W call gx)
    (he2 : ∀ (a : Addr) (oe : Obj) (pn : List (Addr × Obj)), E (X.suite a ((a, oe) :: pn)) C e2 ge)
    (ho : ∀ (a : Addr) (oe : Obj) (pn : List (Addr × Obj)), OpR (X.suite a ((a, oe) :: pn)) (compareOp o) r) (hop : OpC (rc X C) r op) (hm : behindInMarks o e2 = false)
    (hsw1 : swapsWith call none p1.line X.env = pure false) (hb : attributeBase (.Name n pn1) f X.env (eval (.Name n pn1) X.env) = eval (.Name n pn1) X.env)
    (hvi : Vis X.env.scope n) (hd : (n == ("__debug__" : Str)) = false) (hcd : (n == ("__classdict__" : Str)) = false) (hly : Loc X.env.scope y)
    (hsw2 : swapsWith (.Compare (.Attribute (.Name n pn1) f pn2) [o] [e2] cpos) (some (.Name y py)) spos.line X.env = pure false) (hfy : X.fn y = true ∨ X.env.scope.names.lookup y = some .local) :
    S X C Wx (.Try [.Expr call p1] [.ExceptHandler (some (.Name x np)) (some n) [.Assign [.Name y py] (.Compare (.Attribute (.Name n pn1) f pn2) [o] [e2] cpos) spos] pos'] [] [] pos) (sTry1 mt f i j gx op ge) := by
  have hb1 := ps_try_as (X := X) (x := x) (n := n) (c := .ref (C.ex cx)) (i := i) (body := [.Expr call p1]) (suite := []) (b₀ := .Assign [.Name y py] (.Compare (.Attribute (.Name n pn1) f pn2) [o] [e2] cpos) spos) (np := np) (pos := pos) (pos' := pos')
    (tb := fun W => tDrop (tGX (rc X C) W gx)) (Wout := fun _ _ _ _ => False) hs hf hN hi hln hc takes0 (fun W pn xe tk _ => pss_one (ps_expr (hbody W pn xe tk) hsw1))
    (ts := fun a cls d => fun D σ H => ∃ c, cls = .ref (C.ex c) ∧ mt c = some true ∧ tAsg (fun σ H Q => tXf a cls d (C.ex c) f (tVar i) σ H fun x H1 => tG (rc X C) ge σ H1 fun y H2 => r x y H2 Q) (gName j) D σ H)
    (fun a oe cls d pn hz hf => ⟨fun pins s σ H D I h => by
      obtain ⟨c, ec, hmc, h⟩ := h
      obtain ⟨T1, T2⟩ := T c hmc
      exact (pss_one (ps_set (i := j) (X := X.suite a ((a, oe) :: pn)) hN hj hly (pe_cmpR (pos := cpos) (ho a oe pn) (pe_xf (n := f) T1 T2 hz hf (pe_var hi hvi hd hcd) hb) (he2 a oe pn) hm) hsw2 hfy)).run pins s σ H D I h⟩)
  refine wkS hb1 fun D σ H h => ?_
  obtain ⟨lk, am0, F0, H0, am, F, M, δ, out, g, re, sr, h, P⟩ := h
  unfold sTry1 at h
  obtain ⟨r0, h1, h2⟩ := Option.bind_eq_some_iff.mp h
  cases r0 with
  | ok w M1 =>
    cases h2
    exact ⟨lk, am, F, M, δ, H0, _, re, sr, h1, fun v am1 F1 H1 g1 s1 r1 f1 => P _ _ _ _ (g.trans g1) (.of g1) (re.gr g1) s1⟩
  | ex xn M1 =>
    refine ⟨lk, am, F, M, δ, H0, _, re, sr, h1, fun cls d am1 F1 H1 g1 s1 ⟨ec, ef⟩ => ?_⟩
    subst ec
    dsimp only at h2
    split at h2
    · rename_i hmi
      split at h2
      · rename_i f' y' hfs
        split at h2
        · rename_i hff
          subst hff
          simp only [Option.bind_eq_some_iff, Option.map_eq_some_iff, Prod.exists] at h2
          obtain ⟨w2, M2, h3, z, h4, u, h5, rfl⟩ := h2
          rw [hfs] at ef
          obtain ⟨dd, v, rfl, hdd, dv⟩ := ef
          refine ⟨true, hmt _ _ hmi.1, fun _ a ha => ?_, fun q => by cases q⟩
          have hil : i < σ.length := by rw [← re.len]; exact hmi.2
          refine ⟨_, rfl, hmi.1, .ref a, by rw [List.getElem?_set_self hil], rfl, rfl, dd, _, v, rfl, hdd, by simp [List.lookup], ?_⟩
          refine ⟨lk, am1, F1, M1, δ.set i none, H0, w2, M2, (re.gr g1).out, s1, h3, fun v2 am2 F2 H2 g2 s2 r2 f2 => ?_⟩
          refine hop lk am2 F2 M2 H2 H0 v v2 (.d y') w2 z _ s2 (g2.dv dv) r2 h4 fun v3 am3 F3 H3 g3 s3 r3 f3 => ?_
          have gg := (g1.trans g2).trans g3
          obtain ⟨F', g', s', d', _⟩ := (FZ.of (R := rc X C) r3 f3 h5).go g3 s3
          have g4 := (g1.trans g2).trans g'
          exact P _ _ _ _ (g.trans g4) (.of g4) ((((re.gr g4).out (i := i) (o := some (.ref a))).setD d').out) s'
        · cases h2
      · cases h2
    · cases h2
end
end Mi
/-! MiLck: dicts of the store: walked under a lock, op=, pop, sorted. -/
namespace Mi
open PySem L2
/-- g runs while the dict told by p is locked -/
def gLock (p : En → Sto → Option Nat) (g : G) : G := fun δ M => (p δ M).bind fun n => match M[n]? with
  | some (.dct false kv) => (g δ (M.set n (.dct true kv))).bind fun q => match q.2[n]? with
    | some (.dct true kv') => if q.1.own = false then some (q.1, q.2.set n (.dct false kv')) else none
    | _ => none
  | _ => none
def lkdK (w : W) (M : Sto) : Option (List (Key × D)) := match w with
  | .d (.cel n) => match M[n]? with
    | some (.dct true kv) => some kv
    | _ => none
  | _ => none
def iValC (ga : G) : GI := fun δ M => (ga δ M).bind fun p => (lkdK p.1 p.2).map fun kv => (valsD kv, p.2)
def iKeyC (ga : G) : GI := fun δ M => (ga δ M).bind fun p => (lkdK p.1 p.2).map fun kv => (keysD kv, p.2)
section
variable {X : Cx} {C : Zs} {R : Rc} {Wx : WX} {lk : Lk} {am am0 : List Addr} {F H F0 H0 : Hp} {M : Sto}
def lkAt (lk : Lk) (a : Addr) (u : Obj × HO) : Lk := fun b => if b = a then some u else lk b
theorem lkAt_same {a : Addr} {u : Obj × HO} : lkAt lk a u a = some u := if_pos rfl
theorem lkAt_ne {a b : Addr} {u : Obj × HO} (h : b ≠ a) : lkAt lk a u b = lk b := if_neg h
theorem am_ne {n m : Nat} {a b : Addr} (nd : am.Nodup) (h1 : am[n]? = some a) (h2 : am[m]? = some b) (h : m ≠ n) : b ≠ a := fun e => by
  subst e
  obtain ⟨l1, e1⟩ := List.getElem?_eq_some_iff.mp h1
  obtain ⟨l2, e2⟩ := List.getElem?_eq_some_iff.mp h2
  exact h ((List.getElem_inj nd).mp (e2.trans e1.symm))
/-- the other cells, where a's object and a's lock alone are others -/
theorem cell_lk {lk' : Lk} {H' : Hp} {a b : Addr} {c : Cell} (h1 : b ≠ a) (h2 : ∀ x, x ≠ a → H' x = H x) (h3 : ∀ x, x ≠ a → lk' x = lk x) (ok : CellOk R.K R.Z.C lk am F H b c) : CellOk R.K R.Z.C lk' am F H' b c := by
  cases c with
  | lst xs => obtain ⟨l, vs, q, d⟩ := ok; exact ⟨by rw [h3 b h1]; exact l, vs, by rw [h2 b h1]; exact q, d⟩
  | dct l kv => obtain ⟨l, vs, q, d⟩ := ok; exact ⟨by rw [h3 b h1]; exact l, vs, by rw [h2 b h1, h3 b h1]; exact q, d⟩
  | dtt kv => obtain ⟨l, vs, q, d⟩ := ok; exact ⟨by rw [h3 b h1]; exact l, vs, by rw [h2 b h1]; exact q, d⟩
  | ins fs => obtain ⟨l, dx, vs, q, d⟩ := ok; exact ⟨by rw [h3 b h1]; exact l, dx, vs, by rw [h2 b h1]; exact q, d⟩
theorem SR.lock {n : Nat} {a : Addr} {od : Obj} {kvs : List (Key × V)} {kv : List (Key × D)} (s : SR R lk am F M H) (ha : am[n]? = some a) (hk : lk a = none) (hd : KVs R.K am F kvs kv) : SR R (lkAt lk a (od, .dK kvs)) am F (M.set n (.dct true kv)) (upd H a (.frz od (.dK kvs))) := by
  have hF : F a = none := s.fr a (List.mem_of_getElem? ha)
  refine ⟨fun b u h => ?_, fun b u h => ?_, fun b u h => ?_, by rw [List.length_set]; exact s.len, s.nd, s.fr, fun m b c e1 e2 => ?_⟩
  · rw [L2.upd_ne (fun z => by rw [z, hF] at h; cases h)]
    exact s.ex b u h
  · rw [lkAt_ne (fun z => by rw [z, hF] at h; cases h)]
    exact s.fz b u h
  · by_cases e : b = a
    · rw [e, lkAt_same] at h
      cases h
      rw [e, upd_same]
    · rw [lkAt_ne e] at h
      rw [L2.upd_ne e]
      exact s.lh b u h
  · rcases set_at e2 with ⟨rfl, _, e⟩ | ⟨hne, e2⟩
    · cases e
      rw [ha] at e1
      cases e1
      exact ⟨by rw [lkAt_same]; rfl, kvs, by rw [lkAt_same, upd_same]; rfl, hd⟩
    · exact cell_lk (am_ne s.nd ha e1 (Ne.symm hne)) (fun x hx => L2.upd_ne hx) (fun x hx => lkAt_ne hx) (s.cl m b c e1 e2)
theorem SR.unlock {n : Nat} {a : Addr} {od : Obj} {kvs : List (Key × V)} {kv : List (Key × D)} (s : SR R (lkAt lk a (od, .dK kvs)) am F M H) (ha : am[n]? = some a) (hk : lk a = none) (hd : KVs R.K am F kvs kv) : SR R lk am F (M.set n (.dct false kv)) (upd H a (.dK kvs)) := by
  have hF : F a = none := s.fr a (List.mem_of_getElem? ha)
  refine ⟨fun b u h => ?_, fun b u h => ?_, fun b u h => ?_, by rw [List.length_set]; exact s.len, s.nd, s.fr, fun m b c e1 e2 => ?_⟩
  · rw [L2.upd_ne (fun z => by rw [z, hF] at h; cases h)]
    exact s.ex b u h
  · have := s.fz b u h
    rwa [lkAt_ne (fun z => by rw [z, hF] at h; cases h)] at this
  · have e : b ≠ a := fun z => by rw [z, hk] at h; cases h
    rw [L2.upd_ne e]
    exact s.lh b u (by rw [lkAt_ne e]; exact h)
  · rcases set_at e2 with ⟨rfl, _, e⟩ | ⟨hne, e2⟩
    · cases e
      rw [ha] at e1
      cases e1
      exact ⟨by rw [hk]; rfl, kvs, by rw [hk, upd_same]; rfl, hd⟩
    · exact cell_lk (lk := lkAt lk a (od, .dK kvs)) (am_ne s.nd ha e1 (Ne.symm hne)) (fun x hx => L2.upd_ne hx) (fun x hx => (lkAt_ne hx).symm) (s.cl m b c e1 e2)
theorem rw_lk {lk' : Lk} {H' : Hp} {a : Addr} (ha : a ∈ am) (h2 : ∀ x, x ≠ a → H' x = H x) (h3 : ∀ x, x ≠ a → lk' x = lk x) {v : V} {w : W} (r : RW R.K lk am F H v w) : RW R.K lk' am F H' v w := by
  have ne : ∀ {b : Addr}, b ∉ am → b ≠ a := fun h z => h (z ▸ ha)
  cases w with
  | d x => exact r
  | ol xs => obtain ⟨b, vs, e, q1, q2, q3, q4, q5⟩ := r; exact ⟨b, vs, e, by rw [h2 b (ne q3)]; exact q1, q2, q3, by rw [h3 b (ne q3)]; exact q4, q5⟩
  | fr xs => obtain ⟨b, vs, e, q1, q2, q3, q4, q5⟩ := r; exact ⟨b, vs, e, by rw [h2 b (ne q3)]; exact q1, q2, q3, by rw [h3 b (ne q3)]; exact q4, q5⟩
  | od l kv => obtain ⟨b, vs, e, q1, q2, q3, q4, q5⟩ := r; exact ⟨b, vs, e, by rw [h2 b (ne q3), h3 b (ne q3)]; exact q1, q2, q3, by rw [h3 b (ne q3)]; exact q4, q5⟩
  | fd kv => obtain ⟨b, vs, e, q1, q2, q3, q4, q5⟩ := r; exact ⟨b, vs, e, by rw [h2 b (ne q3)]; exact q1, q2, q3, by rw [h3 b (ne q3)]; exact q4, q5⟩
theorem re_lk {lk' : Lk} {H' : Hp} {a : Addr} {σ : St} {δ : En} (ha : a ∈ am) (h2 : ∀ x, x ≠ a → H' x = H x) (h3 : ∀ x, x ≠ a → lk' x = lk x) (r : RE R.K lk am F H H0 σ δ) : RE R.K lk' am F H' H0 σ δ :=
  ⟨r.len, fun i w h => let ⟨v, e1, e2, e3⟩ := r.at_ i w h; ⟨v, e1, rw_lk ha h2 h3 e2, e3⟩, r.own, r.dis⟩
theorem Gr.unlock {am1 : List Addr} {F1 H1 : Hp} {a : Addr} {o o1 : HO} {H' : Hp} {u : HO} (ha : a ∈ am) (hH : H a = some o) (e : H' = upd H a u) (g : Gr am F H' am1 F1 H1) : Gr am F H am1 F1 (upd H1 a o1) := by
  subst e
  refine ⟨g.fx, fun b q h => ?_, ?_, fun b q hn h => ?_, fun b q h => ?_⟩
  · by_cases z : b = a
    · exact g.fn b u (by rw [z, upd_same])
    · exact g.fn b q (by rw [L2.upd_ne z]; exact h)
  · obtain ⟨n, e1, e2⟩ := g.ad
    refine ⟨n, e1, fun x hx => ?_⟩
    have := e2 x hx
    by_cases z : x = a
    · rw [z, upd_same] at this; cases this
    · rwa [L2.upd_ne z] at this
  · have z : b ≠ a := fun z => hn (z ▸ ha)
    rw [L2.upd_ne z]
    exact g.kp b q hn (by rw [L2.upd_ne z]; exact h)
  · by_cases z : b = a
    · exact ⟨o1, by rw [z, upd_same]⟩
    · rw [L2.upd_ne z]
      exact g.th b q (by rw [L2.upd_ne z]; exact h)
theorem Fsh.unlock {a : Addr} {o : HO} {u : HO} {v : V} {w : W} (hH : H a = some o) (ho : w.own = false) (f : Fsh (upd H a u) H0 v w) : Fsh H H0 v w := by
  have key : ∀ b, upd H a u b = none → H b = none := fun b h => by
    by_cases z : b = a
    · rw [z, upd_same] at h; cases h
    · rwa [L2.upd_ne z] at h
  cases w with
  | d x => exact f
  | fr xs => obtain ⟨b, e, h⟩ := f; exact ⟨b, e, key b h⟩
  | fd kv => obtain ⟨b, e, h⟩ := f; exact ⟨b, e, key b h⟩
  | ol xs => cases ho
  | od l kv => cases ho
theorem e_lock {e : Expr} {p : En → Sto → Option Nat} {ga : G} (h : E X C e ga) : E X C e (gLock p ga) := wkE (pe_lock h) fun σ H Q h => by
  obtain ⟨lk, am, F, M, δ, H0, w, M', re, sr, h, P⟩ := h
  unfold gLock at h
  obtain ⟨n, h0, h⟩ := Option.bind_eq_some_iff.mp h
  split at h
  · rename_i kv hkv
    simp only [Option.bind_eq_some_iff, Prod.exists] at h
    obtain ⟨w1, M1, h1, h2⟩ := h
    split at h2
    · rename_i kv' hkv'
      split at h2
      · rename_i hown
        cases h2
        have hn : n < am.length := by rw [sr.len]; exact (List.getElem?_eq_some_iff.mp hkv).1
        have ha : am[n]? = some am[n] := List.getElem?_eq_getElem hn
        generalize am[n] = a at ha
        obtain ⟨hl, kvs, hH, hd⟩ := sr.cl n a _ ha hkv
        have hlk : lk a = none := by
          cases q : lk a with
          | none => rfl
          | some u => rw [q] at hl; cases hl
        rw [hlk] at hH
        have hH' : H a = some (.dK kvs) := hH
        have hm := List.mem_of_getElem? ha
        refine ⟨a, _, hH', True.intro, fun od => ?_⟩
        have s2 := sr.lock (od := od) ha hlk hd
        refine ⟨lkAt lk a (od, .dK kvs), am, F, _, δ, H0, w, M1, re_lk hm (fun x hx => L2.upd_ne hx) (fun x hx => lkAt_ne hx) re, s2, h1, fun v am1 F1 H1 g1 s1 r1 f1 => ?_⟩
        have e1 : H1 a = some (.frz od (.dK kvs)) := s1.lh a _ lkAt_same
        refine ⟨e1, ?_⟩
        have ha1 := g1.cel ha
        obtain ⟨_, kvs1, q1, q2⟩ := s1.cl n a _ ha1 hkv'
        rw [lkAt_same] at q1
        have q1' : H1 a = some (.frz od (.dK kvs1)) := q1
        rw [e1] at q1'
        cases q1'
        have hm1 := List.mem_of_getElem? ha1
        exact P v am1 F1 _ (Gr.unlock hm hH' rfl g1) (s1.unlock ha1 hlk q2) (rw_lk hm1 (fun x hx => L2.upd_ne hx) (fun x hx => (lkAt_ne hx).symm) r1) (Fsh.unlock hH' hown f1)
      · cases h2
    · cases h2
  · cases h
theorem jok_valsC {a : Addr} {o : Obj} {kvs : List (Key × V)} {kv : List (Key × D)} (h : lk a = some (o, .dK kvs)) (d : KVs R.K am F kvs kv) : JOk R lk am F (Itd a o kvs) (valsD kv) := fun i am1 F1 M1 H1 he hl s => by
  have e1 := s.lh a _ h
  refine ⟨fun x hx => ?_, fun hi => ?_⟩
  · unfold valsD at hx
    rw [List.getElem?_map] at hx
    obtain ⟨p, hp, rfl⟩ := Option.map_eq_some_iff.mp hx
    obtain ⟨v, hv, dv⟩ := (kvs_ext he hl d).get hp
    refine ⟨⟨e1, (List.getElem?_eq_some_iff.mp hv).1⟩, fun u H' hy => ?_⟩
    obtain ⟨rfl, k, hk⟩ := hy
    rw [hv] at hk
    cases hk
    exact ⟨F1, Gr.refl _ _ _, s, dv⟩
  · unfold valsD at hi
    rw [List.length_map] at hi
    exact ⟨e1, by rw [d.length]; exact Nat.le_of_eq hi⟩
theorem jok_keysC {a : Addr} {o : Obj} {kvs : List (Key × V)} {kv : List (Key × D)} (h : lk a = some (o, .dK kvs)) (d : KVs R.K am F kvs kv) : JOk R lk am F (Itk a o kvs) (keysD kv) := fun i am1 F1 M1 H1 he hl s => by
  have e1 := s.lh a _ h
  refine ⟨fun x hx => ?_, fun hi => ?_⟩
  · unfold keysD at hx
    rw [List.getElem?_map] at hx
    obtain ⟨p, hp, rfl⟩ := Option.map_eq_some_iff.mp hx
    obtain ⟨v, hv, dv⟩ := (kvs_ext he hl d).get hp
    refine ⟨⟨e1, (List.getElem?_eq_some_iff.mp hv).1⟩, fun u H' hy => ?_⟩
    obtain ⟨rfl, k, v', hk, rfl⟩ := hy
    rw [hv] at hk
    cases hk
    exact ⟨F1, Gr.refl _ _ _, s, kV_keyD _⟩
  · unfold keysD at hi
    rw [List.length_map] at hi
    exact ⟨e1, by rw [d.length]; exact Nat.le_of_eq hi⟩
theorem lkdK_ok {w : W} {v : V} {kv : List (Key × D)} (s : SR R lk am F M H) (r : RW R.K lk am F H v w) (h : lkdK w M = some kv) : ∃ a o kvs, v = .ref a ∧ lk a = some (o, .dK kvs) ∧ H a = some (.frz o (.dK kvs)) ∧ KVs R.K am F kvs kv := by
  unfold lkdK at h
  split at h
  · rename_i n
    split at h
    · rename_i kv' hc
      cases h
      obtain ⟨a, rfl, ha⟩ := cel_at (show DV R.K am F v (.cel n) from r)
      obtain ⟨hl, kvs, hH, hd⟩ := s.cl n a _ ha hc
      cases q : lk a with
      | none => rw [q] at hl; cases hl
      | some u =>
        obtain ⟨o, u⟩ := u
        rw [q] at hH
        have e1 := s.lh a _ q
        have e2 : H a = some (.frz o (.dK kvs)) := hH
        rw [e1] at e2
        cases e2
        exact ⟨a, o, kvs, rfl, q, e1, hd⟩
    · cases h
  · cases h
theorem i_valC {tg e : Expr} {ga : G} {apos cpos : Pos} (he : E X C e ga) (hbase : attributeBase e "values" X.env (eval e X.env) = eval e X.env := by rfl) (hline : (apos.endLine == cpos.line) = true := by rfl) : I X C tg (.Call (.Attribute e "values" apos) [] [] cpos) (iValC ga) := wkI (pi_values he hbase hline) fun σ H Q h => by
  obtain ⟨lk, am, F, M, δ, H0, xs, M', re, sr, h, P⟩ := h
  unfold iValC at h
  simp only [Option.bind_eq_some_iff, Option.map_eq_some_iff, Prod.exists, Prod.mk.injEq] at h
  obtain ⟨w, M1, h1, kv, h2, rfl, rfl⟩ := h
  refine ⟨lk, am, F, M, δ, H0, w, M1, re, sr, h1, fun v am1 F1 H1 g1 s1 r1 f1 => ?_⟩
  obtain ⟨a, o, kvs, rfl, q1, q2, q3⟩ := lkdK_ok s1 r1 h2
  exact ⟨_, _, _, rfl, q2, P am1 F1 H1 _ g1 s1 (jok_valsC q1 q3)⟩
theorem i_keyC {tg e : Expr} {ga : G} (he : E X C e ga) : I X C tg e (iKeyC ga) := wkI (pi_it he) fun σ H Q h => by
  obtain ⟨lk, am, F, M, δ, H0, xs, M', re, sr, h, P⟩ := h
  unfold iKeyC at h
  simp only [Option.bind_eq_some_iff, Option.map_eq_some_iff, Prod.exists, Prod.mk.injEq] at h
  obtain ⟨w, M1, h1, kv, h2, rfl, rfl⟩ := h
  refine ⟨lk, am, F, M, δ, H0, w, M1, re, sr, h1, fun v am1 F1 H1 g1 s1 r1 f1 => ?_⟩
  obtain ⟨a, o, kvs, rfl, q1, q2, q3⟩ := lkdK_ok s1 r1 h2
  exact .inr (.inl ⟨_, _, _, rfl, q2, P am1 F1 H1 _ g1 s1 (jok_keysC q1 q3)⟩)
end
end Mi
/-! MiDop: dicts of the store: d[k] += e, d.pop(k), sorted(d); instances made by an __init__ that may raise. -/
namespace Mi
open PySem L2
def keyQ : W → Option Key
  | .d x => keyOf x
  | _ => none
def celN : W → Option Nat
  | .d (.cel n) => some n
  | _ => none
def dctF (M : Sto) (n : Nat) : Option (List (Key × D)) := match M[n]? with
  | some (.dct false kv) => some kv
  | _ => none
def intQ : W → Option Int
  | .d (.int i) => some i
  | _ => none
def intD : D → Option Int
  | .int i => some i
  | _ => none
def lookD {κ : Type} [DecidableEq κ] (kv : List (κ × D)) (k : κ) : Option D := (kv.find? fun p => decide (p.1 = k)).map (·.2)
def dropD {κ : Type} [DecidableEq κ] (kv : List (κ × D)) (k : κ) : List (κ × D) := kv.filter fun p => decide (p.1 ≠ k)
/-- d[k] += e -/
def sAugC (go gi ge : G) : GS := fun δ M => (go δ M).bind fun o => (celN o.1).bind fun n => (gi δ o.2).bind fun q => (keyQ q.1).bind fun k => (dctF q.2 n).bind fun kv => (lookD kv k).bind fun x => (intD x).bind fun i =>
  (ge δ q.2).bind fun p => (intQ p.1).bind fun j => (dctF p.2 n).bind fun kv2 => if kv2.length < SZ then some (.nx δ (p.2.set n (.dct false (putD kv2 k (.int (i + j)))))) else none
/-- d.pop(k) -/
def gDPopC (go gi : G) : G := fun δ M => (go δ M).bind fun o => (celN o.1).bind fun n => (dctF o.2 n).bind fun _ => (gi δ o.2).bind fun q => (keyQ q.1).bind fun k => (dctF q.2 n).bind fun kv => (lookD kv k).map fun x => (.d x, q.2.set n (.dct false (dropD kv k)))
/-- sorted(x), x a dict of the store too -/
def sortedCW (ws : List W) (M : Sto) : Option W := match ws with
  | [w] => match (celN w).bind fun n => (dctF M n).bind keysS with
    | some ks => if ks.length < 64 then some (.fr ((isort strLt ks).map .str)) else none
    | none => sortedDW [w] M
  | ws => sortedDW ws M
section
variable {X : Cx} {C : Zs} {R : Rc} {Wx : WX} {lk : Lk} {am am0 : List Addr} {F H F0 H0 : Hp} {M : Sto}
theorem keyQ_ok {K : PySem.W.Frag} {w : W} {v : V} {k : Key} (r : RW K lk am F H v w) (h : keyQ w = some k) : v = kV k := by
  unfold keyQ at h
  split at h
  · exact key_dv (show DV K am F v _ from r) h
  · cases h
theorem celN_ok {K : PySem.W.Frag} {w : W} {v : V} {n : Nat} (r : RW K lk am F H v w) (h : celN w = some n) : ∃ a, v = .ref a ∧ am[n]? = some a := by
  unfold celN at h
  split at h
  · cases h; exact cel_at (show DV K am F v (.cel n) from r)
  · cases h
theorem dctF_ok {n : Nat} {a : Addr} {kv : List (Key × D)} (s : SR R lk am F M H) (ha : am[n]? = some a) (h : dctF M n = some kv) : lk a = none ∧ ∃ kvs, H a = some (.dK kvs) ∧ KVs R.K am F kvs kv := by
  unfold dctF at h
  split at h
  · rename_i kv' e
    cases h
    obtain ⟨hl, kvs, hH, d⟩ := s.cl n a _ ha e
    cases q : lk a with
    | none => rw [q] at hH; exact ⟨rfl, kvs, hH, d⟩
    | some u => rw [q] at hl; cases hl
  · cases h
theorem intQ_ok {K : PySem.W.Frag} {w : W} {v : V} {i : Int} (r : RW K lk am F H v w) (h : intQ w = some i) : v = .int i := by
  unfold intQ at h
  split at h
  · cases h; cases r; rfl
  · cases h
theorem intD_ok {K : PySem.W.Frag} {x : D} {v : V} {i : Int} (r : DV K am F v x) (h : intD x = some i) : v = .int i := by
  unfold intD at h
  split at h
  · cases h; cases r; rfl
  · cases h
theorem KVs.drop {κ : Type} [DecidableEq κ] {K : PySem.W.Frag} {k : κ} : ∀ {vs : List (κ × V)} {xs : List (κ × D)}, KVs K am F vs xs → KVs K am F (dropK vs k) (dropD xs k)
  | _, _, .nil => .nil
  | _, _, .cons (k := k') h t => by
    have ih := KVs.drop (k := k) t
    unfold dropK dropD at ih ⊢
    simp only [List.filter_cons]
    by_cases e : k' = k
    · simp only [e, ne_eq, not_true_eq_false, decide_false, Bool.false_eq_true, if_false]
      exact ih
    · simp only [ne_eq, e, not_false_eq_true, decide_true, if_true]
      exact .cons h ih
theorem s_augC {k : Nat} {o i e : Expr} {go gi ge : G} {tpos pos : Pos} (hr : Room k X.A) (hO : E X C o go) (hi : E X C i gi) (he : E X C e ge)
    (ha : ∀ ov iv new, augStore i ov iv new = (do holding [new, ov, iv] (setItem ov iv new); release [new, ov, iv] []; pure .next) := by exact fun _ _ _ => rfl) : S X C Wx (.AugAssign (.Subscript o i tpos) .Add e pos) (sAugC go gi ge) :=
  wkS (ps_daug (hu_of hr) hO hi he in_add ha) fun D σ H h => by
    obtain ⟨lk, am0, F0, H0, am, F, M, δ, out, g, re, sr, h, P⟩ := h
    unfold sAugC at h
    simp only [Option.bind_eq_some_iff, Prod.exists] at h
    obtain ⟨wo, M1, h1, n, hn, wi, M2, h2, ky, hk, kv, hkv, x, hx, a1, ha1, we, M3, h3, a2, ha2, kv2, hkv2, h4⟩ := h
    split at h4
    · rename_i hl
      cases h4
      refine ⟨lk, am, F, M, δ, H0, wo, M1, re, sr, h1, fun v am1 F1 H1 g1 s1 r1 f1 => ?_⟩
      obtain ⟨a, rfl, hca⟩ := celN_ok r1 hn
      refine ⟨lk, am1, F1, M1, δ, H0, wi, M2, re.gr g1, s1, h2, fun u am2 F2 H2 g2 s2 r2 f2 => ?_⟩
      have eu := keyQ_ok r2 hk
      subst eu
      have hca2 := g2.cel hca
      obtain ⟨hlk, kvs, hH, dk⟩ := dctF_ok s2 hca2 hkv
      obtain ⟨vx, hvx, dx⟩ := (dk.find (k := ky)).1 x hx
      have evx := intD_ok dx ha1
      subst evx
      refine ⟨a, _, rfl, .inl ⟨kvs, ky, .inl hH, rfl, hvx.symm⟩, lk, am2, F2, M2, δ, H0, we, M3, (re.gr g1).gr g2, s2, h3, fun z am3 F3 H3 g3 s3 r3 f3 => ?_⟩
      have ez := intQ_ok r3 ha2
      subst ez
      have hca3 := g3.cel hca2
      obtain ⟨_, kvs3, hH3, dk3⟩ := dctF_ok s3 hca3 hkv2
      refine ⟨a1, a2, rfl, rfl, _, .inl ⟨kvs3, ky, hH3, rfl, by rw [dk3.len]; exact Nat.lt_trans hl (by decide), rfl⟩, ?_⟩
      have gg := (g1.trans g2).trans g3
      have hm := List.mem_of_getElem? hca3
      exact P _ _ _ _ ((g.trans gg).cell hm) (.of gg) ((re.gr gg).cell hm) (s3.mut hca3 hlk ⟨by rw [hlk]; rfl, _, by rw [hlk, upd_same]; rfl, dk3.put (.int _)⟩)
    · cases h4
theorem e_dpopC {eo e : Expr} {go ge : G} {apos cpos : Pos} (hO : E X C eo go) (he : E X C e ge)
    (hbase : attributeBase eo "pop" X.env (eval eo X.env) = eval eo X.env := by rfl)
    (hfew : ((backTo cpos (starEach [e] X.env)).all (fun x => !x.1) && (backToKw cpos (keywordEach [] X.env)).all (fun x => x.1.isSome) && decide (([e] : List Expr).length + ([] : List Keyword).length + (if ([] : List Keyword).isEmpty then 0 else 1) < 30)) = true := by rfl)
    (hline : (apos.endLine == cpos.line) = true := by rfl) (hst : backTo cpos (starEach [e] X.env) = [(false, eval e X.env)] := by rfl) :
    E X C (.Call (.Attribute eo "pop" apos) [e] [] cpos) (gDPopC go ge) :=
  wkE (pe_dpop1 hO he ⟨hbase, hfew, hline, hst⟩) fun σ H Q h => by
    obtain ⟨lk, am, F, M, δ, H0, w, M', re, sr, h, P⟩ := h
    unfold gDPopC at h
    simp only [Option.bind_eq_some_iff, Option.map_eq_some_iff, Prod.exists, Prod.mk.injEq] at h
    obtain ⟨wo, M1, h1, n, hn, kv0, hkv0, wi, M2, h2, ky, hk, kv, hkv, x, hx, rfl, rfl⟩ := h
    refine ⟨lk, am, F, M, δ, H0, wo, M1, re, sr, h1, fun v am1 F1 H1 g1 s1 r1 f1 => ?_⟩
    obtain ⟨a, rfl, hca⟩ := celN_ok r1 hn
    obtain ⟨_, kvs0, hH0, _⟩ := dctF_ok s1 hca hkv0
    refine ⟨a, rfl, .inl ⟨kvs0, .inl hH0⟩, lk, am1, F1, M1, δ, H0, wi, M2, re.gr g1, s1, h2, fun u am2 F2 H2 g2 s2 r2 f2 => ?_⟩
    have eu := keyQ_ok r2 hk
    subst eu
    have hca2 := g2.cel hca
    obtain ⟨hlk, kvs, hH, dk⟩ := dctF_ok s2 hca2 hkv
    obtain ⟨vx, hvx, dx⟩ := (dk.find (k := ky)).1 x hx
    have hm := List.mem_of_getElem? hca2
    refine ⟨kvs, ky, vx, hH, rfl, hvx, ?_⟩
    exact P vx am2 F2 _ ((g1.trans g2).cell hm) (s2.mut hca2 hlk ⟨by rw [hlk]; rfl, _, by rw [hlk, upd_same]; rfl, dk.drop⟩) dx True.intro
theorem c_sortC : CallC R (rSortMD R.K) sortedCW := by
  intro lk am F M H H0 vs ws z Q s r h P
  unfold sortedCW at h
  split at h
  · rename_i w
    split at h
    · rename_i ks hk
      split at h
      · rename_i hl
        cases h
        obtain ⟨v, rfl, rw0⟩ := rws1 r
        obtain ⟨n, hn, hk⟩ := Option.bind_eq_some_iff.mp hk
        obtain ⟨kv, hkv, hk⟩ := Option.bind_eq_some_iff.mp hk
        obtain ⟨a, rfl, hca⟩ := celN_ok rw0 hn
        obtain ⟨hlk, kvs, hH, dk⟩ := dctF_ok s hca hkv
        refine .inl ⟨a, kvs, ks, rfl, .inl hH, keysS_ok dk hk, hl, fun out p pm ps hp => ?_⟩
        have eq : out = isort strLt ks := sd_uniq (pm.trans (isort_perm _ _).symm) (sortedS_sd _ ps) (isort_sd (strLt_ord _)) fun x _ y _ h3 h4 => strLt_eq h3 h4
        subst eq
        exact P.newL s (strs_dv _) p hp
      · cases h
    · exact c_sortD lk am F M H H0 vs [w] z Q s r h P
  · exact c_sortD lk am F M H H0 vs _ z Q s r h P
/-- as ClN, the __init__ may raise -/
structure ClNX (Pr : Program) (w : World) (K : PySem.W.Frag) (mg : Str → Option Value) (base : Heap) (C : Zs) (k : Nat) (x : Str) (g : FnX) (n : Nat) (ks : List Str) (dd : List D) : Prop where
  ex : ∃ (f : Addr) (fd : FuncData) (ps : List Str) (gg : List Value → List Value → List Value) (dv : List V), FnOk Pr w K mg base (L2.CX Pr w) k f fd ps (spX ⟨K, C⟩ g) ∧ Mk K C.C f ∧ KBn K fd ps (n + 1) ks gg (fun vs zs => vs ++ dv ++ zs) ∧ mg x = some (.ref C.C) ∧ ∀ am F, DVs K am F dv dd
theorem e_mkX {k j n : Nat} {x : Str} {p pos : Pos} {e : Expr} {es : List Expr} {kws : List Keyword} {ks : List Str} {ga gk : GA} {g : FnX} {dd : List D} (c : ClNX X.prog X.w X.K X.mg X.base C k x g n ks dd) (hr : Room j X.A) (hk : k + 1 ≤ j) (ha : A X C (e :: es) ga) (hkw : PK X kws (tA (rc X C) gk))
    (hn : ∀ δ M r, ga δ M = some r → r.1.length = n) (hm : ∀ δ M r, gk δ M = some r → r.1.length = ks.length) (hg : Gl X x := by rfl)
    (hall : (backToKw pos (keywordEach kws X.env)).all (·.1.isSome) = true := by rfl) (hks : (backToKw pos (keywordEach kws X.env)).filterMap (·.1) = ks := by rfl) (hdb : (x == ("__debug__" : Str)) = false := by decide)
    (he : starEach (e :: es) X.env = (false, eval e X.env) :: starEach es X.env := by rfl) (hpl : ((backTo pos (starEach (e :: es) X.env)).any (·.1) || (backToKw pos (keywordEach kws X.env)).any (·.1.isNone)) = false := by rfl) :
    E X C (.Call (.Name x p) (e :: es) kws pos) (gMk (noX g) dd ga gk) := by
  obtain ⟨f, fd, ps, gg, dv, Fk, Mf, hb, hmg, hd⟩ := c.ex
  refine wkE (pe_makeK (M := Mf) Fk (hr.mono hk) hg hmg hb passL ha hkw hall hks hdb he hpl) fun σ H Q h => ?_
  obtain ⟨lk, am, F, M, δ, H0, w, M', re, sr, h, P⟩ := h
  unfold gMk at h
  simp only [Option.bind_eq_some_iff, Prod.exists] at h
  obtain ⟨ws, M1, h1, ds, h2, zs, M2, h3, qs, h4, h⟩ := h
  split at h
  · rename_i M3 h5
    cases h
    refine ⟨lk, am, F, M, δ, H0, ws, M1, re, sr, h1, fun vs am1 F1 H1 g1 s1 r1 f1 => ?_⟩
    obtain ⟨F', g', s', d', _⟩ := (FZs.of (R := rc X C) r1 f1 h2).go g1 s1
    refine ⟨lk, am1, F', M1, δ, H0, zs, M2, re.gr g', s', h3, fun us am2 F2 H2 g2 s2 r2 f2 => ?_⟩
    obtain ⟨F'', g'', s'', d'', _⟩ := (FZs.of (R := rc X C) r2 f2 h4).go g2 s2
    refine ⟨by rw [r1.length]; exact hn _ _ _ h1, by rw [r2.length]; exact hm _ _ _ h3, fun x dx hx hdx ne => spX_no ?_⟩
    have gg := g'.trans g''
    have le1 : Le H2 (upd H2 dx (.own x)) := le_new hdx
    have hx1 : (upd H2 dx (.own x)) x = none := by rw [L2.upd_ne (Ne.symm ne)]; exact hx
    have s3 := (s''.grow le1).grow (le_new (o := .ins C.C dx []) hx1)
    have hl : lk x = none := by
      cases e : lk x with
      | none => rfl
      | some u => have := s''.lh x u e; rw [hx] at this; cases this
    have hF := s''.fresh hx
    have s4 := s3.push hF.2 hF.1 (c := .ins []) ⟨hl, dx, [], upd_same, .nil⟩
    have gn : Gr am F H (am2 ++ [x]) F'' (upd (upd H2 dx (.own x)) x (.ins C.C dx [])) := by
      have h1 := (gg.trans (Gr.new (o := .own x) hdx)).trans (Gr.new (o := .ins C.C dx []) hx1)
      exact h1.push (gg.back hx)
    refine ⟨lk, am2 ++ [x], F'', M2 ++ [.ins []], H0, .cel M2.length :: (ds ++ dd ++ qs), _, _, s4, .cons (.cel ?_) ?_, h5, ?_⟩
    · rw [← s2.len]; simp
    · refine DVs.append (DVs.append ?_ (hd _ _)) ?_
      · exact (Gr.push (g''.trans ((Gr.new (o := .own x) hdx).trans (Gr.new (o := .ins C.C dx []) hx1))) (g''.back hx)).dvs d'
      · exact (Gr.push ((Gr.new (am := am2) (F := F'') (o := .own x) hdx).trans (Gr.new (o := .ins C.C dx []) hx1)) hx).dvs d''
    · intro v am4 F4 H4 g4 s5 r5 f5
      cases (show DV X.K am4 F4 v .non from r5)
      refine ⟨rfl, P _ am4 F4 H4 (gn.trans g4) s5 (.cel ?_) True.intro⟩
      refine g4.cel ?_
      rw [← s2.len]
      simp
  · cases h
end
end Mi
/-! MiCls: what the printed walks of classes say. -/
namespace Mi
open PySem L2
def clsBody : Stmt → List Stmt
  | .ClassDef _ _ _ body _ _ _ _ _ _ _ => body
  | _ => []
abbrev clsAt (st : Stmt) (j : Nat) : Stmt := (clsBody st).getD j (.Pass ⟨0, 0, 0, 0⟩)
/-- the dict in the field f of the instance in slot i -/
def pFld (i : Nat) (f : Str) : En → Sto → Option Nat := fun δ M => match δ[i]? with
  | some (some (.d (.cel k))) => match M[k]? with
    | some (.ins fs) => match fs.lookup f with
      | some (.cel n) => some n
      | _ => none
    | _ => none
  | _ => none
/-- the dict under the key f of the dict in slot i -/
def pKey (i : Nat) (f : Str) : En → Sto → Option Nat := fun δ M => match δ[i]? with
  | some (some (.d (.cel k))) => match M[k]? with
    | some (.dct _ kv) => match lookD kv (Sum.inr f) with
      | some (.cel n) => some n
      | _ => none
    | _ => none
  | _ => none
def mtOne (x : Str) : Str → Option Bool := fun c => if c = x then some true else none
section
variable {X : Cx} {C : Zs} {R : Rc} {Wx : WX}
theorem hu64m {A : Around} {h : Option Value} {k : Nat} (hr : Room k A) : (A.mark h).units + 64 < cLine := by
  have := hu64 hr
  cases h with
  | none => rw [Around.mark_none]; exact this
  | some v => exact this
theorem hu64s {X : Cx} {a : Addr} {pn : List (Addr × Obj)} {k : Nat} (hr : Room k X.A) : (X.suite a pn).A.units + 64 < cLine := hu64m (h := some (.ref a)) hr
theorem mtOne_ok {K : PySem.W.Frag} {x : Str} (h : PySem.W.exmOne K (.ref (C.ex x)) (.ref (C.ex x)) = some true) : ∀ c b, mtOne x c = some b → PySem.W.exmOne K (.ref (C.ex c)) (.ref (C.ex x)) = some b := fun c b e => by
  unfold mtOne at e
  split at e
  · rename_i h1; cases e; rw [h1]; exact h
  · cases e
theorem mtOne_xf {K : PySem.W.Frag} {x f : Str} (h : XfC K (C.ex x) ∧ PySem.W.findIn K (.ref (C.ex x)) f = some none) : ∀ c, mtOne x c = some true → XfC K (C.ex c) ∧ PySem.W.findIn K (.ref (C.ex c)) f = some none := fun c e => by
  unfold mtOne at e
  split at e
  · rename_i h1; rw [h1]; exact h
  · cases e
theorem k_nil : PK X [] (tA R aNil) := ⟨fun pos pins s σ H Q I h => by
  obtain ⟨lk, am, F, M, δ, H0, ws, M', re, sr, h, P⟩ := h
  cases h
  exact pk_nil.run pos pins s σ H Q I (P [] am F H (Gr.refl _ _ _) sr .nil .nil)⟩
theorem k_cons {nm : Option Str} {e : Expr} {kp : Pos} {kws : List Keyword} {ga : G} {gr : GA} (he : E X C e ga) (hr : PK X kws (tA (rc X C) gr)) : PK X (⟨nm, e, kp⟩ :: kws) (tA (rc X C) (aCons ga gr)) := ⟨fun pos pins s σ H Q I h => (pk_cons he hr).run pos pins s σ H Q I (by
  obtain ⟨lk, am, F, M, δ, H0, ws, M', re, sr, h, P⟩ := h
  unfold aCons at h
  simp only [Option.bind_eq_some_iff, Prod.exists, Option.some.injEq, Prod.mk.injEq] at h
  obtain ⟨w, M1, h1, ws, M2, h2, rfl, rfl⟩ := h
  refine ⟨lk, am, F, M, δ, H0, w, M1, re, sr, h1, fun v am1 F1 H1 g1 s1 r1 f1 => ⟨lk, am1, F1, M1, δ, H0, ws, M2, re.gr g1, s1, h2, fun vs am2 F2 H2 g2 s2 r2 f2 => ?_⟩⟩
  exact P (v :: vs) am2 F2 H2 (g1.trans g2) s2 (.cons (r1.gr g2) r2) (.cons f1 (f2.back g1)))⟩
theorem al_nil : ∀ (δ : En) (M : Sto) r, aNil δ M = some r → r.1.length = 0 := fun δ M r h => by cases h; rfl
theorem al_cons {a : G} {g : GA} {n : Nat} (hg : ∀ (δ : En) (M : Sto) r, g δ M = some r → r.1.length = n) : ∀ (δ : En) (M : Sto) r, aCons a g δ M = some r → r.1.length = n + 1 := fun δ M r h => by
  unfold aCons at h
  simp only [Option.bind_eq_some_iff, Prod.exists, Option.some.injEq] at h
  obtain ⟨w, M1, h1, ws, M2, h2, rfl⟩ := h
  rw [List.length_cons, hg _ _ _ h2]
/-- the class is made by its __init__ with one value and a price, or without -/
structure MkK (Pr : Program) (w : World) (K : PySem.W.Frag) (mg : Str → Option Value) (base : Heap) (C : Zs) (k : Nat) (x : Str) (g : FnX) : Prop where
  d : ClNX Pr w K mg base C k x g 1 [] [.int 10]
  k : ClNX Pr w K mg base C k x g 1 ["price"] []
theorem e_methX0 {k j : Nat} {o : Expr} {m : Str} {apos pos : Pos} {go : G} {g : FnX} (c : Cls X.K C.C) (cm : ClMX X.prog X.w X.K X.mg X.base C k m g) (hr : Room j X.A) (hk : k ≤ j) (hO : E X C o go) {pl : Sem Bool}
    (ht : eval (.Call (.Attribute o m apos) [] [] pos) X.env = (do
      let ov ← eval o X.env
      standAt apos.atName
      let (f, first) ← holding [ov] (getMethod ov m pl)
      callWith pos f first (backTo pos (starEach [] X.env)) (backToKw pos (keywordEach [] X.env))) := by rfl) : E X C (.Call (.Attribute o m apos) [] [] pos) (gMeth m (noX g) go aNil) := by
  obtain ⟨f, fd, ps, Fk, hm, hb⟩ := cm.ex
  refine wkE (pe_meth0 (pl := pl) hO c hm Fk (hr.mono hk) hb .nil passL ht) fun σ H Q h => ?_
  obtain ⟨lk, am, F, M, δ, H0, w, M', re, sr, h, P⟩ := meth_go (E := E0) h
  refine ⟨lk, am, F, M, δ, H0, w, M', re, sr, h, fun v am1 F1 H1 g1 s1 r1 f1 => ?_⟩
  obtain ⟨a, dx, fs, e, h1, h2, lk, am, F, M, δ, H0, ws, M1, re, sr, h3, P2⟩ := P v am1 F1 H1 g1 s1 r1 f1
  cases h3
  exact ⟨a, dx, fs, e, h1, h2, spX_no (P2 [] am F _ (Gr.refl _ _ _) sr .nil .nil)⟩
end
end Mi
/-! MiDsp: dicts written out. -/
namespace Mi
open PySem L2
abbrev GP := En → Sto → Option (List (Key × D) × Sto)
def dOnly : W → Option D
  | .d x => some x
  | _ => none
def pNil : GP := fun _ M => some ([], M)
def pCons (gk gv : G) (r : GP) : GP := fun δ M => (gk δ M).bind fun a => (keyQ a.1).bind fun k => (gv δ a.2).bind fun b => (dOnly b.1).bind fun y => (r δ b.2).map fun q => ((k, y) :: q.1, q.2)
def gDisp (r : GP) : G := fun δ M => (r δ M).bind fun q => if q.1.length ≤ 15 then some (.fd (mergeD [] q.1), q.2) else none
section
variable {X : Cx} {C : Zs} {R : Rc} {Wx : WX} {lk : Lk} {am am0 : List Addr} {F H F0 H0 : Hp} {M : Sto}
def tP (R : Rc) (g : GP) (σ : St) (H : Hp) (Q : List (V × V) → Hp → Prop) : Prop := ∃ lk am F M δ H0 kv M', RE R.K lk am F H H0 σ δ ∧ SR R lk am F M H ∧ g δ M = some (kv, M') ∧
  ∀ (vs : List (Key × V)) am' F' H', Gr am F H am' F' H' → SR R lk am' F' M' H' → KVs R.K am' F' vs kv → Q (vs.map fun q => (kV q.1, q.2)) H'
/-- written pairs -/
structure PD (X : Cx) (C : Zs) (pos : Pos) (keys : List (Option Expr)) (values : List Expr) (g : GP) : Prop where
  ex : ∃ trs, PPs X pos keys values trs ∧ ∀ σ H Q, tP (rc X C) g σ H Q → tPairs trs σ H Q
theorem pd_nil {pos : Pos} : PD X C pos [] [] pNil := ⟨[], pps_nil, fun σ H Q h => by
  obtain ⟨lk, am, F, M, δ, H0, kv, M', re, sr, h, P⟩ := h
  cases h
  exact P [] am F H (Gr.refl _ _ _) sr .nil⟩
theorem pd_cons {pos : Pos} {k v : Expr} {ks : List (Option Expr)} {vs : List Expr} {gk gv : G} {r : GP} (hk : E X C k gk) (hv : E X C v gv) (hr : PD X C pos ks vs r) : PD X C pos (some k :: ks) (v :: vs) (pCons gk gv r) := by
  obtain ⟨trs, h1, h2⟩ := hr.ex
  refine ⟨_, pps_cons hk hv h1, fun σ H Q h => ?_⟩
  obtain ⟨lk, am, F, M, δ, H0, kv, M', re, sr, h, P⟩ := h
  unfold pCons at h
  simp only [Option.bind_eq_some_iff, Option.map_eq_some_iff, Prod.exists, Prod.mk.injEq] at h
  obtain ⟨wk, M1, e1, ky, e2, wv, M2, e3, y, e4, kv2, M3, e5, rfl, rfl⟩ := h
  refine ⟨lk, am, F, M, δ, H0, wk, M1, re, sr, e1, fun u am1 F1 H1 g1 s1 r1 f1 => ?_⟩
  have eu := keyQ_ok r1 e2
  subst eu
  refine ⟨lk, am1, F1, M1, δ, H0, wv, M2, re.gr g1, s1, e3, fun z am2 F2 H2 g2 s2 r2 f2 => ?_⟩
  have dz : DV X.K am2 F2 z y := by
    unfold dOnly at e4
    split at e4
    · cases e4; exact r2
    · cases e4
  refine h2 σ H2 _ ⟨lk, am2, F2, M2, δ, H0, kv2, _, (re.gr g1).gr g2, s2, e5, fun vs am3 F3 H3 g3 s3 kvs => ?_⟩
  exact P ((ky, z) :: vs) am3 F3 H3 ((g1.trans g2).trans g3) s3 (.cons (g3.dv dz) kvs)
theorem e_disp {pos : Pos} {keys : List (Option Expr)} {values : List Expr} {g : GP} (h : PD X C pos keys values g) (hall : keys.all (·.isSome) = true := by rfl) (hl : keys.length = values.length := by rfl) (h0 : keys ≠ [] := by exact fun z => nomatch z)
    (h15 : keys.length ≤ 15 := by decide) : E X C (.Dict keys values pos) (gDisp g) := by
  obtain ⟨trs, h1, h2⟩ := h.ex
  refine wkE (pe_disp h1 hall hl h0 h15) fun σ H Q h p hp => ?_
  obtain ⟨lk, am, F, M, δ, H0, w, M', re, sr, h, P⟩ := h
  unfold gDisp at h
  simp only [Option.bind_eq_some_iff, Prod.exists] at h
  obtain ⟨kv, M1, e1, e2⟩ := h
  split at e2
  · rename_i hl
    cases e2
    have g0 : Gr am F H am F (upd H p (.dK [])) := Gr.new hp
    refine h2 σ _ _ ⟨lk, am, F, M, δ, H0, kv, _, re.gr g0, sr.grow (le_new hp), e1, fun vs am2 F2 H2 g2 s2 kvs => ?_⟩
    have hF := sr.fresh hp
    have hlk : lk p = none := by
      cases e : lk p with
      | none => rfl
      | some u => have := sr.lh p u e; rw [hp] at this; cases this
    have hn2 : p ∉ am2 := g2.nam upd_same hF.2
    have hF2 : F2 p = none := by rw [g2.fn p _ upd_same]; exact hF.1
    refine ⟨g2.kp p _ hF.2 upd_same, vs, rfl, by rw [kvs.len]; exact hl, ?_⟩
    have s3 := s2.out (o := .dK (mergeK [] vs)) hn2 hF2 hlk
    exact P _ am2 F2 _ ((g0.trans g2).out hp) s3 ⟨p, _, rfl, upd_same, hF2, hn2, hlk, KVs.merge kvs .nil⟩ ⟨p, rfl, hp⟩
  · cases e2
end
end Mi
/-! MiLoc: a def that is handed plain data and gives plain data: its own store. -/
namespace Mi
open PySem L2
def W.plain : W → Bool
  | .d x => x.ok 60
  | .fr xs => oks 60 xs
  | _ => false
/-- f over an empty store; what it lays there is let go -/
def locF (f : Fn) : Fn := fun ds M => if oks 60 ds = true then match f ds [] with
    | some (w, _) => if w.plain = true then some (w, M) else none
    | none => none
  else none
section
variable {R : Rc} {lk : Lk} {am am2 : List Addr} {F H F0 H0 : Hp} {M : Sto} {K : PySem.W.Frag}
mutual
theorem DV.any_am : ∀ {n : Nat} {v : V} {x : D}, x.ok n = true → DV K am F v x → DV K am2 F v x
  | _, _, _, _, .non => .non
  | _, _, _, _, .bl b => .bl b
  | _, _, _, _, .int i => .int i
  | _, _, _, _, .str s => .str s
  | 0, _, _, h, .tup _ _ => by simp [D.ok] at h
  | 0, _, _, h, .tpl _ _ => by simp [D.ok] at h
  | 0, _, _, h, .lst _ _ => by simp [D.ok] at h
  | n + 1, _, _, h, .tup q d => .tup q (DVs.any_am (n := n) (by simpa [D.ok] using h) d)
  | n + 1, _, _, h, .tpl q d => .tpl q (DVs.any_am (n := n) (by simpa [D.ok] using h) d)
  | n + 1, _, _, h, .lst q d => .lst q (DVs.any_am (n := n) (by simpa [D.ok] using h) d)
  | n, _, _, h, .cel _ => by simp [D.ok] at h
  | n, _, _, h, .rol _ => by simp [D.ok] at h
  | n, _, _, h, .dic _ _ => by simp [D.ok] at h
theorem DVs.any_am : ∀ {n : Nat} {vs : List V} {xs : List D}, oks n xs = true → DVs K am F vs xs → DVs K am2 F vs xs
  | _, _, _, _, .nil => .nil
  | n, _, x :: r, h, .cons d t => by
    have h' : x.ok n = true ∧ oks n r = true := by simpa [oks] using h
    exact .cons (DV.any_am (n := n) h'.1 d) (DVs.any_am (n := n) h'.2 t)
end
theorem loc_sp {f : Fn} {vs : List V} {Q : VK} {E : XK} (h : spF R (locF f) vs H Q E) : spF R f vs H Q E := by
  obtain ⟨lk, am, F, M, H0, ds, w, M', sr, d, h, P⟩ := h
  unfold locF at h
  split at h
  · rename_i hok
    split at h
    · rename_i w' M1 h1
      split at h
      · rename_i hpl
        cases h
        have there : ∀ a ∈ am, ∃ o, H a = some o := fun a ha => by
          obtain ⟨n, hn, e⟩ := List.getElem_of_mem ha
          have e1 : am[n]? = some a := by rw [List.getElem?_eq_getElem hn, e]
          have hn2 : n < M.length := by rw [← sr.len]; exact hn
          exact (sr.cl n a M[n] e1 (List.getElem?_eq_getElem hn2)).there
        refine ⟨lk, [], F, [], H0, ds, w, M1, ⟨sr.ex, sr.fz, sr.lh, rfl, List.nodup_nil, fun _ q => (by simp at q), fun _ _ _ q => (by simp at q)⟩, d.any_am (n := 60) hok, h1, fun v am' F' H' g s r f => ?_⟩
        have kp : ∀ a o, H a = some o → H' a = some o := fun a o e => g.kp a o (by simp) e
        refine P v am F' H' ⟨g.fx, g.fn, ⟨[], by simp, by simp⟩, fun a o _ e => kp a o e, g.th⟩ ⟨s.ex, s.fz, s.lh, sr.len, sr.nd, fun a ha => ?_, fun n a c e1 e2 => ?_⟩ ?_ f
        · obtain ⟨o, e⟩ := there a ha
          rw [g.fn a o e]
          exact sr.fr a ha
        · have q := (sr.cl n a c e1 e2).mono (new := []) (F' := F') (H' := H') g.fx (fun o e => kp a o e)
          rwa [List.append_nil] at q
        · cases w with
          | d x => exact DV.any_am (n := 60) hpl r
          | fr xs =>
            obtain ⟨a, us, e, h1, h2, h3, h4, h5⟩ := r
            obtain ⟨b, e2, h6⟩ := f
            rw [e] at e2
            cases e2
            exact ⟨a, us, e, h1, h2, fun ha => (by obtain ⟨o, e⟩ := there a ha; rw [h6] at e; cases e), h4, h5.any_am (n := 60) hpl⟩
          | ol xs => cases hpl
          | od l kv => cases hpl
          | fd kv => cases hpl
      · cases h
    · cases h
  · cases h
theorem fnLoc {Pr : Program} {w : World} {mg : Str → Option Value} {base : Heap} {CX : CXT} {k : Nat} {f : Addr} {fd : FuncData} {ps : List Str} {g : Fn} (Fk : FnOk Pr w K mg base CX k f fd ps (spF R g)) : FnOk Pr w K mg base CX k f fd ps (spF R (locF g)) :=
  ⟨fun vs H Q E h => Fk.len vs H Q E (loc_sp h), fun A outer s H args us vs Q E hr I hb r h => Fk.run A outer s H args us vs Q E hr I hb r (loc_sp h)⟩
end
end Mi
/-! MiSrt: sorted(a tuple of texts). -/
namespace Mi
open PySem L2 PyProof.Rows SrtO
def ltT (v u : Value) : Bool := strLt (txtV v) (txtV u)
theorem swoT : Swo ltT := ⟨fun _ _ h => strLt_asy h, fun _ _ _ h k => strLt_le h k⟩
def AllTx (vs : List Value) : Prop := ∀ v ∈ vs, ∃ x t, v = Value.str x t
theorem allTx_strs : ∀ {vs : List Value}, AllTx vs → StrsAre vs (vs.map txtV)
  | [], _ => .nil
  | v :: vs, h => by
    obtain ⟨x, t, rfl⟩ := h v List.mem_cons_self
    exact .cons x t (allTx_strs fun u hu => h u (List.mem_cons_of_mem _ hu))
section
variable {prog : Program} {w : World} {A : Around} {s : Shared}
theorem tx_sortable {a : Addr} {vs : List Value} (h2 : 2 ≤ vs.length) (h : AllTx vs) : SortableO prog w A s a vs ltT := by
  intro g keep
  refine ⟨oneType', fun Q E hq => ?_, fun p q hm hm' => ?_⟩
  · match vs, h2, h with
    | v1 :: v2 :: vs, _, h =>
      rw [keyKind_strs (allTx_strs h)]
      exact wpAny_pure hq
  · obtain ⟨x, t, e1⟩ := h _ hm
    obtain ⟨y, u, e2⟩ := h _ hm'
    show wpAny (model prog w) A (keyLt' oneType' p.1 q.1) (fun r s' => s' = _ ∧ r = ltT p.1 q.1) (fun _ _ => False) _
    rw [e1, e2, keyLt'_oneType]
    exact oneLt_str ⟨rfl, rfl⟩
end
def rSortT (K : PySem.W.Frag) (xs : List V) (H : Hp) (Q : VK) : Prop := ∃ (a : Addr) (L : List Str), xs = [.ref a] ∧ SqT K H a (L.map V.str) ∧
  ∀ (L' : List Str) (p : Addr), L'.Perm L → Sd strLt L' → H p = none → Q (.ref p) (upd H p (.lst (L'.map V.str)))
theorem vals_strs : ∀ {L : List Str} {us : List Value}, Vals (L.map V.str) us → AllTx us ∧ us.map txtV = L
  | [], _, .nil => ⟨fun _ h => absurd h (by simp), rfl⟩
  | x :: L, _, .cons r t => by
    obtain ⟨k, rfl⟩ := r
    obtain ⟨h1, h2⟩ := vals_strs t
    refine ⟨fun v hv => ?_, ?_⟩
    · rcases List.mem_cons.mp hv with rfl | hv
      · exact ⟨x, k, rfl⟩
      · exact h1 v hv
    · rw [List.map_cons, h2]; rfl
theorem strs_vals : ∀ {us : List Value}, AllTx us → Vals ((us.map txtV).map V.str) us
  | [], _ => .nil
  | v :: us, h => by
    obtain ⟨x, k, rfl⟩ := h v List.mem_cons_self
    exact .cons ⟨k, rfl⟩ (strs_vals fun u hu => h u (List.mem_cons_of_mem _ hu))
section
variable {X : Cx}
theorem call_sortT : CallR X (.builtin "sorted") (rSortT X.K) := by
  intro pins s σ H xs us Q I r h
  obtain ⟨a, L, rfl, hq, q⟩ := h
  obtain ⟨u, rfl, rx⟩ := vals1 r
  cases rx
  obtain ⟨its, rv, pl, hz⟩ := I.tuple hq
  obtain ⟨at1, e1⟩ := vals_strs rv
  have hln : its.length = L.length := by rw [← e1, List.length_map]
  have hsz : its.length ≤ sizeLine := by rw [hln]; simpa using hz
  refine sorted_tup swoT pl hsz (fun h2 g b _ _ => tx_sortable h2 at1) fun out h1 h2 => ?_
  have ato : AllTx out := fun v hv => at1 v (h2.perm.mem_iff.mp hv)
  obtain ⟨c, hc⟩ := sortedAll_at s.heap its out.toArray
  have hlo : (out.map txtV).length = L.length := by rw [List.length_map, h2.perm.length_eq, hln]
  refine ⟨.ref (s.heap.objs.size + 1), _, I.laid (t' := s.toks) (o := .lst ((out.map txtV).map V.str)) (fun b o e => sortedAll_old e) (Nat.le_succ _) ⟨by rw [List.length_map, hlo]; simpa using hz, _, c, strs_vals ato, hc⟩, rfl, q (out.map txtV) _ ?_ ?_ (I.hok.fresh (Nat.le_succ _))⟩
  · rw [← e1]
    exact h2.perm.map _
  · exact List.pairwise_map.mpr h1
def rSortMT (K : PySem.W.Frag) (xs : List V) (H : Hp) (Q : VK) : Prop := rSortT K xs H Q ∨ rSortMD K xs H Q
theorem call_sortMT (hc : X.calm = true) : CallR X (.builtin "sorted") (rSortMT X.K) := fun pins s σ H xs us Q I r h => h.elim (fun q => call_sortT pins s σ H xs us Q I r q) fun q => call_sortMD hc pins s σ H xs us Q I r q
end
/-- sorted(x), x a tuple of texts too -/
def sortedTW (ws : List W) (M : Sto) : Option W := match ws with
  | [w] => match (vT w).bind dStrs with
    | some ss => if ss = [] then sortedCW [w] M else some (.fr ((isort strLt ss).map .str))
    | none => sortedCW [w] M
  | ws => sortedCW ws M
section
variable {R : Rc} {lk : Lk} {am : List Addr} {F H H0 : Hp} {M : Sto}
theorem c_sortT : CallC R (rSortMT R.K) sortedTW := by
  intro lk am F M H H0 vs ws z Q s r h P
  unfold sortedTW at h
  split at h
  · rename_i w
    split at h
    · rename_i ss hk
      split at h
      · exact .inr (c_sortC lk am F M H H0 vs [w] z Q s r h P)
      · cases h
        obtain ⟨v, rfl, rw0⟩ := rws1 r
        obtain ⟨xs, hn, hk⟩ := Option.bind_eq_some_iff.mp hk
        obtain ⟨a, vs, e1, h1, _, h2⟩ := vT_ok s rw0 hn
        have e2 := h2.dStrs hk
        subst e2
        refine .inl ⟨a, ss, by rw [e1], h1, fun L' p pm pw hp => ?_⟩
        have eq : L' = isort strLt ss := sd_uniq (pm.trans (isort_perm _ _).symm) pw (isort_sd (strLt_ord _)) fun x _ y _ h3 h4 => strLt_eq h3 h4
        subst eq
        exact P.newL s (strs_dv _) p hp
    · exact .inr (c_sortC lk am F M H H0 vs [w] z Q s r h P)
  · exact .inr (c_sortC lk am F M H H0 vs _ z Q s r h P)
end
end Mi
/-! PLib: weakest preconditions of mirrors. -/
namespace Mi
open PySem L2
def wpG (g : G) (δ : En) (M : Sto) (Q : W → Sto → Prop) : Prop := ∃ w M', g δ M = some (w, M') ∧ Q w M'
def wpA (g : GA) (δ : En) (M : Sto) (Q : List W → Sto → Prop) : Prop := ∃ w M', g δ M = some (w, M') ∧ Q w M'
def wpT (g : GT) (δ : En) (M : Sto) (Q : Bool → Sto → Prop) : Prop := ∃ w M', g δ M = some (w, M') ∧ Q w M'
def wpO (g : GO) (δ : En) (M : Sto) (Q : Option Int → Sto → Prop) : Prop := ∃ w M', g δ M = some (w, M') ∧ Q w M'
def wpI (g : GI) (δ : En) (M : Sto) (Q : List D → Sto → Prop) : Prop := ∃ w M', g δ M = some (w, M') ∧ Q w M'
def wpF (f : Fn) (ds : List D) (M : Sto) (Q : W → Sto → Prop) : Prop := ∃ w M', f ds M = some (w, M') ∧ Q w M'
def wpS (s : GS) (δ : En) (M : Sto) (Q : Out → Prop) : Prop := ∃ o, s δ M = some o ∧ Q o
def wpL (bd : Tg) (body : GS) (xs : List D) (δ : En) (M : Sto) (Q : Out → Prop) : Prop := ∃ o, forL bd body xs δ M = some o ∧ Q o
def wpW (c : GT) (body : GS) (n : Nat) (δ : En) (M : Sto) (Q : Out → Prop) : Prop := ∃ o, whileL c body n δ M = some o ∧ Q o
def wpC (bd : Tg) (t : GT) (e : G) (δ : En) (xs : List D) (M : Sto) (Q : List D → Sto → Prop) : Prop := ∃ ys M', compL bd t e δ xs M = some (ys, M') ∧ Q ys M'
def wpO1 {α : Type} (o : Option α) (Q : α → Prop) : Prop := ∃ z, o = some z ∧ Q z
theorem ex_two {α β : Type} {a : α} {b : β} {P : α → β → Prop} : (∃ x y, some (a, b) = some (x, y) ∧ P x y) ↔ P a b := by
  constructor
  · rintro ⟨x, y, h, p⟩
    cases h
    exact p
  · exact fun p => ⟨a, b, rfl, p⟩
theorem wpO1_some {α : Type} {x : α} {Q : α → Prop} : wpO1 (some x) Q ↔ Q x := by simp [wpO1]
theorem wpO1_none {α : Type} {Q : α → Prop} : wpO1 (none : Option α) Q ↔ False := by simp [wpO1]
theorem wpO1_ite {α : Type} {c : Prop} {_ : Decidable c} {x y : Option α} {Q : α → Prop} : wpO1 (if c then x else y) Q ↔ if c then wpO1 x Q else wpO1 y Q := by split <;> rfl
theorem wpO1_map {α β : Type} {o : Option α} {f : α → β} {Q : β → Prop} : wpO1 (o.map f) Q ↔ wpO1 o fun x => Q (f x) := by cases o <;> simp [wpO1]
theorem wpO1_bind {α β : Type} {o : Option α} {f : α → Option β} {Q : β → Prop} : wpO1 (o.bind f) Q ↔ wpO1 o fun x => wpO1 (f x) Q := by cases o <;> simp [wpO1]
theorem ite_pn {c : Prop} {_ : Decidable c} {p : Prop} : (if c then p else False) ↔ c ∧ p := by split <;> simp_all
section
variable {δ : En} {M : Sto} {Q : W → Sto → Prop} {a b c e : G} {as : GA} {i : Nat} {QA : List W → Sto → Prop} {QT : Bool → Sto → Prop} {QO : Option Int → Sto → Prop} {QI : List D → Sto → Prop} {QS : Out → Prop} {ta tb : GT} {gi : GI} {sa sb : GS}
theorem wg_var : wpG (gVar i) δ M Q ↔ wpO1 δ[i]? fun o => wpO1 o fun w => Q w M := by
  unfold wpG gVar wpO1
  cases h : δ[i]? with
  | none => simp
  | some o => cases o with
    | none => simp
    | some w => exact ex_two.trans ⟨fun q => ⟨_, rfl, _, rfl, q⟩, fun ⟨_, e, _, e2, q⟩ => by cases e; cases e2; exact q⟩
theorem wg_c {x : D} : wpG (gC x) δ M Q ↔ Q (.d x) M := ex_two
theorem wg_bin {op : W → W → Sto → Option W} : wpG (gBin op a b) δ M Q ↔ wpG a δ M fun x M1 => wpG b δ M1 fun y M2 => wpO1 (op x y M2) fun z => Q z M2 := by
  unfold wpG gBin wpO1
  constructor
  · rintro ⟨w, M', h, q⟩
    simp only [Option.bind_eq_some_iff, Option.map_eq_some_iff, Prod.exists, Prod.mk.injEq] at h
    obtain ⟨x, M1, h1, y, M2, h2, z, h3, rfl, rfl⟩ := h
    exact ⟨x, M1, h1, y, M2, h2, z, h3, q⟩
  · rintro ⟨x, M1, h1, y, M2, h2, z, h3, q⟩
    exact ⟨z, M2, by simp [h1, h2, h3], q⟩
theorem wg_un {op : W → Sto → Option W} : wpG (gUn op a) δ M Q ↔ wpG a δ M fun x M1 => wpO1 (op x M1) fun z => Q z M1 := by
  unfold wpG gUn wpO1
  constructor
  · rintro ⟨w, M', h, q⟩
    simp only [Option.bind_eq_some_iff, Option.map_eq_some_iff, Prod.exists, Prod.mk.injEq] at h
    obtain ⟨x, M1, h1, z, h3, rfl, rfl⟩ := h
    exact ⟨x, M1, h1, z, h3, q⟩
  · rintro ⟨x, M1, h1, z, h3, q⟩
    exact ⟨z, M1, by simp [h1, h3], q⟩
theorem wa_nil : wpA aNil δ M QA ↔ QA [] M := ex_two
theorem wa_cons : wpA (aCons a as) δ M QA ↔ wpG a δ M fun x M1 => wpA as δ M1 fun r M2 => QA (x :: r) M2 := by
  unfold wpG wpA aCons
  constructor
  · rintro ⟨w, M', h, q⟩
    simp only [Option.bind_eq_some_iff, Prod.exists, Option.some.injEq, Prod.mk.injEq] at h
    obtain ⟨x, M1, h1, y, M2, h2, rfl, rfl⟩ := h
    exact ⟨x, M1, h1, y, M2, h2, q⟩
  · rintro ⟨x, M1, h1, y, M2, h2, q⟩
    exact ⟨_, M2, by simp [h1, h2], q⟩
theorem wg_blt {op : List W → Sto → Option W} : wpG (gBlt op as) δ M Q ↔ wpA as δ M fun x M1 => wpO1 (op x M1) fun z => Q z M1 := by
  unfold wpG wpA gBlt wpO1
  constructor
  · rintro ⟨w, M', h, q⟩
    simp only [Option.bind_eq_some_iff, Option.map_eq_some_iff, Prod.exists, Prod.mk.injEq] at h
    obtain ⟨x, M1, h1, z, h3, rfl, rfl⟩ := h
    exact ⟨x, M1, h1, z, h3, q⟩
  · rintro ⟨x, M1, h1, z, h3, q⟩
    exact ⟨z, M1, by simp [h1, h3], q⟩
theorem wg_tup : wpG (gTup as) δ M Q ↔ wpA as δ M fun x M1 => wpO1 (opTup x M1) fun z => Q z M1 := wg_blt
theorem wg_tupP : wpG (gTupP as) δ M Q ↔ wpA as δ M fun x M1 => wpO1 (opTupP x M1) fun z => Q z M1 := wg_blt
theorem wg_lst : wpG (gLst as) δ M Q ↔ wpA as δ M fun x M1 => wpO1 (opLst x M1) fun z => Q z M1 := wg_blt
theorem wg_call {f : Fn} : wpG (gCall f as) δ M Q ↔ wpA as δ M fun x M1 => wpO1 (frzs x) fun ds => wpF f ds M1 Q := by
  unfold wpG wpA gCall wpO1 wpF
  constructor
  · rintro ⟨w, M', h, q⟩
    simp only [Option.bind_eq_some_iff, Prod.exists] at h
    obtain ⟨x, M1, h1, z, h3, h4⟩ := h
    exact ⟨x, M1, h1, z, h3, w, M', h4, q⟩
  · rintro ⟨x, M1, h1, z, h3, w, M', h4, q⟩
    exact ⟨w, M', by simp [h1, h3, h4], q⟩
theorem wg_mt {ty : W → Sto → Bool} {op : W → List W → Sto → Option W} : wpG (gMtT ty op a as) δ M Q ↔ wpG a δ M fun x M1 => ty x M1 = true ∧ wpA as δ M1 fun r M2 => wpO1 (op x r M2) fun z => Q z M2 := by
  unfold wpG wpA gMtT wpO1
  constructor
  · rintro ⟨w, M', h, q⟩
    simp only [Option.bind_eq_some_iff, Prod.exists] at h
    obtain ⟨x, M1, h1, h2⟩ := h
    split at h2
    · rename_i ht
      simp only [Option.bind_eq_some_iff, Option.map_eq_some_iff, Prod.exists, Prod.mk.injEq] at h2
      obtain ⟨y, M2, h3, z, h4, rfl, rfl⟩ := h2
      exact ⟨x, M1, h1, ht, y, M2, h3, z, h4, q⟩
    · cases h2
  · rintro ⟨x, M1, h1, ht, y, M2, h3, z, h4, q⟩
    exact ⟨z, M2, by simp [h1, ht, h3, h4], q⟩
/-- what a test is made of -/
def isB (w : W) : Option Bool := match w with
  | .d (.bl b) => some b
  | _ => none
theorem wt_v : wpT (tV a) δ M QT ↔ wpG a δ M fun w M1 => wpO1 (isB w) fun b => QT b M1 := by
  unfold wpT wpG tV wpO1
  constructor
  · rintro ⟨w, M', h, q⟩
    split at h
    · rename_i b M1 e
      cases h
      exact ⟨_, _, e, _, rfl, q⟩
    · cases h
  · rintro ⟨w, M', h, b, hb, q⟩
    unfold isB at hb
    split at hb
    · cases hb
      exact ⟨_, _, by simp [h], q⟩
    · cases hb
theorem wt_and : wpT (tAnd ta tb) δ M QT ↔ wpT ta δ M fun x M1 => if x = true then wpT tb δ M1 QT else QT false M1 := by
  unfold wpT tAnd
  constructor
  · rintro ⟨w, M', h, q⟩
    simp only [Option.bind_eq_some_iff, Prod.exists] at h
    obtain ⟨x, M1, h1, h2⟩ := h
    refine ⟨x, M1, h1, ?_⟩
    cases x
    · cases h2; exact q
    · exact ⟨_, _, h2, q⟩
  · rintro ⟨x, M1, h1, h2⟩
    cases x
    · exact ⟨_, _, by simp [h1], h2⟩
    · obtain ⟨w, M', h3, q⟩ := h2; exact ⟨w, M', by simp [h1, h3], q⟩
theorem wt_or : wpT (tOr ta tb) δ M QT ↔ wpT ta δ M fun x M1 => if x = true then QT true M1 else wpT tb δ M1 QT := by
  unfold wpT tOr
  constructor
  · rintro ⟨w, M', h, q⟩
    simp only [Option.bind_eq_some_iff, Prod.exists] at h
    obtain ⟨x, M1, h1, h2⟩ := h
    refine ⟨x, M1, h1, ?_⟩
    cases x
    · exact ⟨_, _, h2, q⟩
    · cases h2; exact q
  · rintro ⟨x, M1, h1, h2⟩
    cases x
    · obtain ⟨w, M', h3, q⟩ := h2; exact ⟨w, M', by simp [h1, h3], q⟩
    · exact ⟨_, _, by simp [h1], h2⟩
theorem wt_not : wpT (tNot ta) δ M QT ↔ wpT ta δ M fun x M1 => QT (!x) M1 := by
  unfold wpT tNot
  constructor
  · rintro ⟨w, M', h, q⟩
    simp only [Option.map_eq_some_iff, Prod.exists, Prod.mk.injEq] at h
    obtain ⟨x, M1, h1, rfl, rfl⟩ := h
    exact ⟨x, _, h1, q⟩
  · rintro ⟨x, M1, h1, q⟩
    exact ⟨_, M1, by simp [h1], q⟩
theorem wt_yes : wpT Mi.tYes δ M QT ↔ QT true M := ex_two
theorem wg_if : wpG (gIf ta a b) δ M Q ↔ wpT ta δ M fun x M1 => if x = true then wpG a δ M1 Q else wpG b δ M1 Q := by
  unfold wpG wpT gIf
  constructor
  · rintro ⟨w, M', h, q⟩
    simp only [Option.bind_eq_some_iff, Prod.exists] at h
    obtain ⟨x, M1, h1, h2⟩ := h
    refine ⟨x, M1, h1, ?_⟩
    cases x <;> simp at h2 ⊢ <;> exact ⟨_, _, h2, q⟩
  · rintro ⟨x, M1, h1, h2⟩
    cases x <;> simp at h2 <;> obtain ⟨w, M', h3, q⟩ := h2 <;> exact ⟨w, M', by simp [h1, h3], q⟩
theorem wg_and : wpG (gAnd a b) δ M Q ↔ wpT (tV a) δ M fun x M1 => if x = true then wpG b δ M1 Q else Q (.d (.bl false)) M1 := by
  unfold wpG wpT gAnd
  constructor
  · rintro ⟨w, M', h, q⟩
    simp only [Option.bind_eq_some_iff, Prod.exists] at h
    obtain ⟨x, M1, h1, h2⟩ := h
    refine ⟨x, M1, h1, ?_⟩
    cases x
    · simp at h2 ⊢; obtain ⟨rfl, rfl⟩ := h2; exact q
    · simp at h2 ⊢; exact ⟨_, _, h2, q⟩
  · rintro ⟨x, M1, h1, h2⟩
    cases x
    · simp at h2; exact ⟨_, _, by simp [h1], h2⟩
    · simp at h2; obtain ⟨w, M', h3, q⟩ := h2; exact ⟨w, M', by simp [h1, h3], q⟩
theorem wg_or : wpG (gOr a b) δ M Q ↔ wpT (tV a) δ M fun x M1 => if x = true then Q (.d (.bl true)) M1 else wpG b δ M1 Q := by
  unfold wpG wpT gOr
  constructor
  · rintro ⟨w, M', h, q⟩
    simp only [Option.bind_eq_some_iff, Prod.exists] at h
    obtain ⟨x, M1, h1, h2⟩ := h
    refine ⟨x, M1, h1, ?_⟩
    cases x
    · simp at h2 ⊢; exact ⟨_, _, h2, q⟩
    · simp at h2 ⊢; obtain ⟨rfl, rfl⟩ := h2; exact q
  · rintro ⟨x, M1, h1, h2⟩
    cases x
    · simp at h2; obtain ⟨w, M', h3, q⟩ := h2; exact ⟨w, M', by simp [h1, h3], q⟩
    · simp at h2; exact ⟨_, _, by simp [h1], h2⟩
theorem wg_not : wpG (gNot a) δ M Q ↔ wpT (tV a) δ M fun x M1 => Q (.d (.bl (!x))) M1 := by
  unfold wpG wpT gNot
  constructor
  · rintro ⟨w, M', h, q⟩
    simp only [Option.map_eq_some_iff, Prod.exists, Prod.mk.injEq] at h
    obtain ⟨x, M1, h1, rfl, rfl⟩ := h
    exact ⟨x, _, h1, q⟩
  · rintro ⟨x, M1, h1, q⟩
    exact ⟨_, M1, by simp [h1], q⟩
theorem wg_chain {op op' : W → W → Sto → Option W} : wpG (gChain op op' a b c) δ M Q ↔ wpG a δ M fun x M1 => wpG b δ M1 fun y M2 => wpO1 (op x y M2) fun z => wpO1 (isB z) fun t => if t = true then wpG c δ M2 fun u M3 => wpO1 (op' y u M3) fun z => Q z M3 else Q (.d (.bl false)) M2 := by
  unfold wpG gChain wpO1
  constructor
  · rintro ⟨w, M', h, q⟩
    simp only [Option.bind_eq_some_iff, Prod.exists] at h
    obtain ⟨x, M1, h1, y, M2, h2, h3⟩ := h
    refine ⟨x, M1, h1, y, M2, h2, ?_⟩
    split at h3
    · rename_i e
      simp only [Option.bind_eq_some_iff, Option.map_eq_some_iff, Prod.exists, Prod.mk.injEq] at h3
      obtain ⟨u, M3, h4, z, h5, rfl, rfl⟩ := h3
      exact ⟨_, e, true, rfl, by simp; exact ⟨u, _, h4, z, h5, q⟩⟩
    · rename_i e
      cases h3
      exact ⟨_, e, false, rfl, by simpa using q⟩
    · cases h3
  · rintro ⟨x, M1, h1, y, M2, h2, z, h3, t, h4, h5⟩
    unfold isB at h4
    split at h4
    · cases h4
      cases t
      · simp at h5; exact ⟨_, _, by simp [h1, h2, h3], h5⟩
      · simp at h5
        obtain ⟨u, M3, h6, w, h7, q⟩ := h5
        exact ⟨w, M3, by simp [h1, h2, h3, h6, h7], q⟩
    · cases h4
theorem wo_none : wpO oNone δ M QO ↔ QO none M := ex_two
def isI (w : W) : Option Int := match w with
  | .d (.int b) => some b
  | _ => none
theorem wo_some : wpO (oSome a) δ M QO ↔ wpG a δ M fun w M1 => wpO1 (isI w) fun b => QO (some b) M1 := by
  unfold wpO wpG oSome wpO1
  constructor
  · rintro ⟨w, M', h, q⟩
    split at h
    · rename_i b M1 e
      cases h
      exact ⟨_, _, e, _, rfl, q⟩
    · cases h
  · rintro ⟨w, M', h, b, hb, q⟩
    unfold isI at hb
    split at hb
    · cases hb
      exact ⟨_, _, by simp [h], q⟩
    · cases hb
theorem wg_sl {l h : GO} : wpG (gSl a l h) δ M Q ↔ wpG a δ M fun x M1 => wpO l δ M1 fun p M2 => wpO h δ M2 fun q M3 => wpO1 (slW x p q M3) fun z => Q z M3 := by
  unfold wpG wpO gSl wpO1
  constructor
  · rintro ⟨w, M', h, q⟩
    simp only [Option.bind_eq_some_iff, Option.map_eq_some_iff, Prod.exists, Prod.mk.injEq] at h
    obtain ⟨x, M1, h1, y, M2, h2, u, M3, h3, z, h4, rfl, rfl⟩ := h
    exact ⟨x, M1, h1, y, M2, h2, u, M3, h3, z, h4, q⟩
  · rintro ⟨x, M1, h1, y, M2, h2, u, M3, h3, z, h4, q⟩
    exact ⟨z, M3, by simp [h1, h2, h3, h4], q⟩
theorem wg_slP {l h : GO} : wpG (gSlP a l h) δ M Q ↔ wpG a δ M fun x M1 => wpO l δ M1 fun p M2 => wpO h δ M2 fun q M3 => wpO1 (slPW x p q M3) fun z => Q z M3 := by
  unfold wpG wpO gSlP wpO1
  constructor
  · rintro ⟨w, M', h, q⟩
    simp only [Option.bind_eq_some_iff, Option.map_eq_some_iff, Prod.exists, Prod.mk.injEq] at h
    obtain ⟨x, M1, h1, y, M2, h2, u, M3, h3, z, h4, rfl, rfl⟩ := h
    exact ⟨x, M1, h1, y, M2, h2, u, M3, h3, z, h4, q⟩
  · rintro ⟨x, M1, h1, y, M2, h2, u, M3, h3, z, h4, q⟩
    exact ⟨z, M3, by simp [h1, h2, h3, h4], q⟩
def celO (w : W) (M : Sto) : Option (W × Sto) := match w with
  | .fr xs => some (.d (.cel M.length), M ++ [.lst xs])
  | .fd kv => some (.d (.cel M.length), M ++ [.dct false kv])
  | _ => none
theorem wg_cel : wpG (gCel a) δ M Q ↔ wpG a δ M fun x M1 => wpO1 (celO x M1) fun p => Q p.1 p.2 := by
  unfold wpG gCel wpO1
  constructor
  · rintro ⟨w, M', h, q⟩
    split at h
    · rename_i e; cases h; exact ⟨_, _, e, _, rfl, q⟩
    · rename_i e; cases h; exact ⟨_, _, e, _, rfl, q⟩
    · cases h
  · rintro ⟨x, M1, h1, p, h2, q⟩
    unfold celO at h2
    split at h2
    · cases h2; exact ⟨_, _, by simp [h1], q⟩
    · cases h2; exact ⟨_, _, by simp [h1], q⟩
    · cases h2
/-! ### what is walked -/
theorem wi_seq : wpI (iSeq a) δ M QI ↔ wpG a δ M fun x M1 => wpO1 (seqD x) fun xs => QI xs M1 := by
  unfold wpI wpG iSeq wpO1
  constructor
  · rintro ⟨w, M', h, q⟩
    simp only [Option.bind_eq_some_iff, Option.map_eq_some_iff, Prod.exists, Prod.mk.injEq] at h
    obtain ⟨x, M1, h1, z, h3, rfl, rfl⟩ := h
    exact ⟨x, M1, h1, z, h3, q⟩
  · rintro ⟨x, M1, h1, z, h3, q⟩
    exact ⟨z, M1, by simp [h1, h3], q⟩
theorem wi_ran1 : wpI (iRan1 a) δ M QI ↔ wpG a δ M fun x M1 => wpO1 (intOf x) fun j => QI (rangeD 0 j.toNat) M1 := by
  unfold wpI wpG iRan1 wpO1
  constructor
  · rintro ⟨w, M', h, q⟩
    simp only [Option.bind_eq_some_iff, Option.map_eq_some_iff, Prod.exists, Prod.mk.injEq] at h
    obtain ⟨x, M1, h1, z, h3, rfl, rfl⟩ := h
    exact ⟨x, M1, h1, z, h3, q⟩
  · rintro ⟨x, M1, h1, z, h3, q⟩
    exact ⟨_, M1, by simp [h1, h3], q⟩
theorem wi_ran2 : wpI (iRan2 a b) δ M QI ↔ wpG a δ M fun x M1 => wpG b δ M1 fun y M2 => wpO1 (intOf x) fun i => wpO1 (intOf y) fun j => QI (rangeD i (j - i).toNat) M2 := by
  unfold wpI wpG iRan2 wpO1
  constructor
  · rintro ⟨w, M', h, q⟩
    simp only [Option.bind_eq_some_iff, Option.map_eq_some_iff, Prod.exists, Prod.mk.injEq] at h
    obtain ⟨x, M1, h1, y, M2, h2, z, h3, u, h4, rfl, rfl⟩ := h
    exact ⟨x, M1, h1, y, M2, h2, z, h3, u, h4, q⟩
  · rintro ⟨x, M1, h1, y, M2, h2, z, h3, u, h4, q⟩
    exact ⟨_, M2, by simp [h1, h2, h3, h4], q⟩
theorem wi_enum : wpI (iEnum a) δ M QI ↔ wpI (iSeq a) δ M fun xs M1 => QI (enumD 0 xs) M1 := by
  unfold wpI iEnum
  constructor
  · rintro ⟨w, M', h, q⟩
    simp only [Option.map_eq_some_iff, Prod.exists, Prod.mk.injEq] at h
    obtain ⟨x, M1, h1, rfl, rfl⟩ := h
    exact ⟨x, _, h1, q⟩
  · rintro ⟨x, M1, h1, q⟩
    exact ⟨_, M1, by simp [h1], q⟩
theorem wi_zip : wpI (iZip a b) δ M QI ↔ wpI (iSeq a) δ M fun xs M1 => wpI (iSeq b) δ M1 fun ys M2 => QI (zipD xs ys) M2 := by
  unfold wpI iZip
  constructor
  · rintro ⟨w, M', h, q⟩
    simp only [Option.bind_eq_some_iff, Option.map_eq_some_iff, Prod.exists, Prod.mk.injEq] at h
    obtain ⟨x, M1, h1, y, M2, h2, rfl, rfl⟩ := h
    exact ⟨x, M1, h1, y, _, h2, q⟩
  · rintro ⟨x, M1, h1, y, M2, h2, q⟩
    exact ⟨_, M2, by simp [h1, h2], q⟩
theorem wg_comp {bd : Tg} {own : List Nat} : wpG (gComp gi bd ta e own) δ M Q ↔ wpI gi δ M fun xs M1 => wpC bd ta e (wipeE δ own) xs M1 fun ys M2 => (ys.length ≤ SZ ∧ xs.length ≤ SZ) ∧ Q (.fr ys) M2 := by
  unfold wpG wpI wpC gComp
  constructor
  · rintro ⟨w, M', h, q⟩
    simp only [Option.bind_eq_some_iff, Prod.exists] at h
    obtain ⟨x, M1, h1, y, M2, h2, h3⟩ := h
    split at h3
    · rename_i hs
      cases h3
      exact ⟨x, M1, h1, y, _, h2, hs, q⟩
    · cases h3
  · rintro ⟨x, M1, h1, y, M2, h2, hs, q⟩
    refine ⟨_, M2, ?_, q⟩
    simp only [h1, h2, Option.bind_some]
    rw [if_pos hs]

/-! ### statements -/
def seqQ (b : GS) (Q : Out → Prop) : Out → Prop
  | .nx δ M => wpS b δ M Q
  | o => Q o
theorem seqQ_nx : seqQ sb QS (.nx δ M) ↔ wpS sb δ M QS := Iff.rfl
theorem seqQ_rt {w : W} : seqQ sb QS (.rt w M) ↔ QS (.rt w M) := Iff.rfl
theorem seqQ_bk : seqQ sb QS (.bk δ M) ↔ QS (.bk δ M) := Iff.rfl
theorem seqQ_ct : seqQ sb QS (.ct δ M) ↔ QS (.ct δ M) := Iff.rfl
theorem seqQ_rs {x : Exn} : seqQ sb QS (.rs x M) ↔ QS (.rs x M) := Iff.rfl
theorem ws_next : wpS sNext δ M QS ↔ QS (.nx δ M) := by simp [wpS, sNext]
theorem ws_seq : wpS (sSeq sa sb) δ M QS ↔ wpS sa δ M (seqQ sb QS) := by
  unfold wpS sSeq
  constructor
  · rintro ⟨o, h, q⟩
    obtain ⟨o1, h1, h2⟩ := Option.bind_eq_some_iff.mp h
    refine ⟨o1, h1, ?_⟩
    cases o1 with
    | nx δ' M' => exact ⟨o, h2, q⟩
    | _ => cases h2; exact q
  · rintro ⟨o1, h1, h2⟩
    cases o1 with
    | nx δ' M' => obtain ⟨o, h3, q⟩ := h2; exact ⟨o, by simp [h1, h3], q⟩
    | _ => exact ⟨_, by simp [h1], h2⟩
theorem ws_asg : wpS (sAsg i a) δ M QS ↔ wpG a δ M fun w M1 => wpO1 (frz w) fun x => QS (.nx (δ.set i (some (.d x))) M1) := by
  unfold wpS wpG sAsg wpO1
  constructor
  · rintro ⟨w, h, q⟩
    simp only [Option.bind_eq_some_iff, Option.map_eq_some_iff, Prod.exists] at h
    obtain ⟨x, M1, h1, z, h3, rfl⟩ := h
    exact ⟨x, M1, h1, z, h3, q⟩
  · rintro ⟨x, M1, h1, z, h3, q⟩
    exact ⟨_, by simp [h1, h3], q⟩
def ownO (w : W) : Option W := match w with
  | .fr xs => some (.ol xs)
  | .fd kv => some (.od false kv)
  | _ => none
theorem ws_own : wpS (sOwn i a) δ M QS ↔ wpG a δ M fun w M1 => wpO1 (ownO w) fun x => QS (.nx (δ.set i (some x)) M1) := by
  unfold wpS wpG sOwn wpO1
  constructor
  · rintro ⟨w, h, q⟩
    split at h
    · rename_i e; cases h; exact ⟨_, _, e, _, rfl, q⟩
    · rename_i e; cases h; exact ⟨_, _, e, _, rfl, q⟩
    · cases h
  · rintro ⟨x, M1, h1, p, h2, q⟩
    unfold ownO at h2
    split at h2
    · cases h2; exact ⟨_, by simp [h1], q⟩
    · cases h2; exact ⟨_, by simp [h1], q⟩
    · cases h2
theorem ws_ret : wpS (sRet a) δ M QS ↔ wpG a δ M fun w M1 => QS (.rt w M1) := by
  unfold wpS wpG sRet
  constructor
  · rintro ⟨w, h, q⟩
    simp only [Option.map_eq_some_iff, Prod.exists] at h
    obtain ⟨x, M1, h1, rfl⟩ := h
    exact ⟨x, M1, h1, q⟩
  · rintro ⟨x, M1, h1, q⟩
    exact ⟨_, by simp [h1], q⟩
theorem ws_retN : wpS sRetN δ M QS ↔ QS (.rt (.d .non) M) := by simp [wpS, sRetN]
theorem ws_brk : wpS sBrk δ M QS ↔ QS (.bk δ M) := by simp [wpS, sBrk]
theorem ws_cnt : wpS sCnt δ M QS ↔ QS (.ct δ M) := by simp [wpS, sCnt]
theorem ws_if : wpS (sIf ta sa sb) δ M QS ↔ wpT ta δ M fun x M1 => if x = true then wpS sa δ M1 QS else wpS sb δ M1 QS := by
  unfold wpS wpT sIf
  constructor
  · rintro ⟨w, h, q⟩
    simp only [Option.bind_eq_some_iff, Prod.exists] at h
    obtain ⟨x, M1, h1, h2⟩ := h
    refine ⟨x, M1, h1, ?_⟩
    cases x <;> simp at h2 ⊢ <;> exact ⟨_, h2, q⟩
  · rintro ⟨x, M1, h1, h2⟩
    cases x <;> simp at h2 <;> obtain ⟨w, h3, q⟩ := h2 <;> exact ⟨w, by simp [h1, h3], q⟩
theorem ws_drop : wpS (sDrop a) δ M QS ↔ wpG a δ M fun w M1 => QS (.nx δ M1) := by
  unfold wpS wpG sDrop
  constructor
  · rintro ⟨w, h, q⟩
    simp only [Option.map_eq_some_iff, Prod.exists] at h
    obtain ⟨x, M1, h1, rfl⟩ := h
    exact ⟨x, M1, h1, q⟩
  · rintro ⟨x, M1, h1, q⟩
    exact ⟨_, by simp [h1], q⟩
theorem ws_unp {is : List Nat} : wpS (sUnp is a) δ M QS ↔ wpG a δ M fun w M1 => wpO1 (vT w) fun xs => wpO1 (setAll δ is xs) fun δ' => QS (.nx δ' M1) := by
  unfold wpS wpG sUnp wpO1
  constructor
  · rintro ⟨w, h, q⟩
    simp only [Option.bind_eq_some_iff, Option.map_eq_some_iff, Prod.exists] at h
    obtain ⟨x, M1, h1, z, h3, y, h4, rfl⟩ := h
    exact ⟨x, M1, h1, z, h3, y, h4, q⟩
  · rintro ⟨x, M1, h1, z, h3, y, h4, q⟩
    exact ⟨_, by simp [h1, h3, h4], q⟩
theorem ws_par {is : List Nat} : wpS (sPar is as) δ M QS ↔ wpA as δ M fun ws M1 => wpO1 (frzs ws) fun xs => wpO1 (setAll δ is xs) fun δ' => QS (.nx δ' M1) := by
  unfold wpS wpA sPar wpO1
  constructor
  · rintro ⟨w, h, q⟩
    simp only [Option.bind_eq_some_iff, Option.map_eq_some_iff, Prod.exists] at h
    obtain ⟨x, M1, h1, z, h3, y, h4, rfl⟩ := h
    exact ⟨x, M1, h1, z, h3, y, h4, q⟩
  · rintro ⟨x, M1, h1, z, h3, y, h4, q⟩
    exact ⟨_, by simp [h1, h3, h4], q⟩
def appO (o : Option (Option W)) (x : D) : Option W := match o with
  | some (some (.ol xs)) => if xs.length < SZ then some (.ol (xs ++ [x])) else none
  | _ => none
theorem ws_app : wpS (sApp i a) δ M QS ↔ wpG a δ M fun w M1 => wpO1 (frz w) fun x => wpO1 (appO δ[i]? x) fun y => QS (.nx (δ.set i (some y)) M1) := by
  unfold wpS wpG sApp wpO1
  constructor
  · rintro ⟨w, h, q⟩
    simp only [Option.bind_eq_some_iff, Prod.exists] at h
    obtain ⟨x, M1, h1, z, h3, h4⟩ := h
    split at h4
    · rename_i e
      split at h4
      · rename_i hl
        cases h4
        exact ⟨x, _, h1, z, h3, _, by simp [appO, e, hl], q⟩
      · cases h4
    · cases h4
  · rintro ⟨x, M1, h1, z, h3, y, h4, q⟩
    unfold appO at h4
    split at h4
    · rename_i e
      split at h4
      · rename_i hl
        cases h4
        exact ⟨_, by simp [h1, h3, e, hl], q⟩
      · cases h4
    · cases h4
theorem ws_for {bd : Tg} : wpS (sFor gi bd sa) δ M QS ↔ wpI gi δ M fun xs M1 => wpL bd sa xs δ M1 QS := by
  unfold wpS wpI wpL sFor
  constructor
  · rintro ⟨o, h, q⟩
    simp only [Option.bind_eq_some_iff, Prod.exists] at h
    obtain ⟨x, M1, h1, h2⟩ := h
    exact ⟨x, M1, h1, o, h2, q⟩
  · rintro ⟨x, M1, h1, o, h2, q⟩
    exact ⟨o, by simp [h1, h2], q⟩
theorem ws_while {fu : En → Nat} : wpS (sWhile fu ta sa) δ M QS ↔ wpW ta sa (fu δ) δ M QS := Iff.rfl
def setO (o : Option (Option W)) (ix : W) (x : D) : Option W := match o with
  | some (some w) => setW w ix x
  | _ => none
theorem ws_setO {gi ge : G} : wpS (sSetO i gi ge) δ M QS ↔ wpG ge δ M fun w M1 => wpO1 (frz w) fun x => wpG gi δ M1 fun y M2 => wpO1 (setO δ[i]? y x) fun z => QS (.nx (δ.set i (some z)) M2) := by
  unfold wpS wpG sSetO wpO1
  constructor
  · rintro ⟨w, h, q⟩
    simp only [Option.bind_eq_some_iff, Prod.exists] at h
    obtain ⟨x, M1, h1, z, h3, h4⟩ := h
    split at h4
    · rename_i e
      simp only [Option.bind_eq_some_iff, Option.map_eq_some_iff, Prod.exists] at h4
      obtain ⟨y, M2, h5, w', h6, rfl⟩ := h4
      exact ⟨x, _, h1, z, h3, y, M2, h5, w', by simp [setO, e, h6], q⟩
    · cases h4
  · rintro ⟨x, M1, h1, z, h3, y, M2, h5, w', h6, q⟩
    unfold setO at h6
    split at h6
    · rename_i e
      exact ⟨_, by simp [h1, h3, e, h5, h6], q⟩
    · cases h6
def cellO (w : W) (M : Sto) (ix : W) (x : D) : Option Sto := match w with
  | .d (.cel n) => match M[n]? with
    | some c => (setCl c ix x).map fun c' => M.set n c'
    | none => none
  | _ => none
theorem ws_setC {go gi ge : G} : wpS (sSetC go gi ge) δ M QS ↔ wpG ge δ M fun w M1 => wpO1 (frz w) fun x => wpG go δ M1 fun o M2 => wpG gi δ M2 fun y M3 => wpO1 (cellO o M3 y x) fun M' => QS (.nx δ M') := by
  unfold wpS wpG sSetC wpO1
  constructor
  · rintro ⟨w, h, q⟩
    simp only [Option.bind_eq_some_iff, Prod.exists] at h
    obtain ⟨x, M1, h1, z, h3, y, M2, h4, h5⟩ := h
    split at h5
    · rename_i n
      simp only [Option.bind_eq_some_iff, Prod.exists] at h5
      obtain ⟨u, M3, h6, h7⟩ := h5
      split at h7
      · rename_i c hc
        obtain ⟨c', h8, rfl⟩ := Option.map_eq_some_iff.mp h7
        exact ⟨x, _, h1, z, h3, _, M2, h4, u, M3, h6, _, by simp [cellO, hc, h8], q⟩
      · cases h7
    · cases h5
  · rintro ⟨x, M1, h1, z, h3, y, M2, h4, u, M3, h6, M', h7, q⟩
    unfold cellO at h7
    split at h7
    · split at h7
      · rename_i c hc
        obtain ⟨c', h8, rfl⟩ := Option.map_eq_some_iff.mp h7
        exact ⟨_, by simp [h1, h3, h4, h6, hc, h8], q⟩
      · cases h7
    · cases h7
theorem ws_augN {op : IOp} : wpS (sAugN i op a) δ M QS ↔ wpO1 δ[i]? fun o => wpO1 o fun w => wpO1 (isI w) fun x => wpG a δ M fun r M1 => wpO1 (isI r) fun y => wpO1 (op x y) fun z => QS (.nx (δ.set i (some (.d (.int z)))) M1) := by
  unfold wpS wpG sAugN wpO1
  constructor
  · rintro ⟨w, h, q⟩
    split at h
    · rename_i x e
      simp only [Option.bind_eq_some_iff, Prod.exists] at h
      obtain ⟨r, M1, h1, h2⟩ := h
      split at h2
      · obtain ⟨z, h3, rfl⟩ := Option.map_eq_some_iff.mp h2
        exact ⟨_, e, _, rfl, x, rfl, _, M1, h1, _, rfl, z, h3, q⟩
      · cases h2
    · cases h
  · rintro ⟨o, e, w, rfl, x, h0, r, M1, h1, y, h2, z, h3, q⟩
    unfold isI at h0 h2
    split at h0
    · cases h0
      split at h2
      · cases h2
        exact ⟨_, by simp [e, h1, h3], q⟩
      · cases h2
    · cases h0
def isID (d : D) : Option Int := match d with
  | .int b => some b
  | _ => none
theorem ws_augO {op : IOp} {gi ge : G} : wpS (sAugO i op gi ge) δ M QS ↔ wpO1 δ[i]? fun o => wpO1 o fun w => wpG gi δ M fun ix M1 => wpO1 (getC w ix) fun d => wpO1 (isID d) fun x => wpG ge δ M1 fun r M2 => wpO1 (isI r) fun y => wpO1 (op x y) fun z => wpO1 (setW w ix (.int z)) fun w' => QS (.nx (δ.set i (some w')) M2) := by
  unfold wpS wpG sAugO wpO1
  constructor
  · rintro ⟨w, h, q⟩
    split at h
    · rename_i x e
      simp only [Option.bind_eq_some_iff, Prod.exists] at h
      obtain ⟨r, M1, h1, h2⟩ := h
      split at h2
      · rename_i a' hg
        simp only [Option.bind_eq_some_iff, Prod.exists] at h2
        obtain ⟨t, M2, h3, h4⟩ := h2
        split at h4
        · simp only [Option.bind_eq_some_iff, Option.map_eq_some_iff] at h4
          obtain ⟨z, h5, w', h6, rfl⟩ := h4
          exact ⟨_, e, _, rfl, r, M1, h1, _, hg, _, rfl, _, M2, h3, _, rfl, z, h5, w', h6, q⟩
        · cases h4
      · cases h2
    · cases h
  · rintro ⟨o, e, w, rfl, ix, M1, h1, d, hg, x, h0, r, M2, h2, y, h3, z, h4, w', h5, q⟩
    unfold isID at h0
    unfold isI at h3
    split at h0
    · cases h0
      split at h3
      · cases h3
        refine ⟨Out.nx (δ.set i (some w')) M2, ?_, q⟩
        simp only [e, h1, hg, h2, h4, h5, Option.bind_some, Option.map_some]
      · cases h3
    · cases h0
/-! ### defs -/
def retQ (Q : W → Sto → Prop) : Out → Prop
  | .rt w M => wpO1 (retW w) fun z => Q z M
  | .nx _ M => Q (.d .non) M
  | _ => False
theorem retQ_rt {w : W} : retQ Q (.rt w M) ↔ wpO1 (retW w) fun z => Q z M := Iff.rfl
theorem retQ_nx : retQ Q (.nx δ M) ↔ Q (.d .non) M := Iff.rfl
theorem wf_mk {np n : Nat} {ds : List D} : wpF (mkFn np n sa) ds M Q ↔ ds.length = np ∧ wpS sa (startE n ds) M (retQ Q) := by
  unfold wpF mkFn wpS
  constructor
  · rintro ⟨w, M', h, q⟩
    split at h
    · rename_i hl
      refine ⟨hl, ?_⟩
      split at h
      · rename_i e
        obtain ⟨z, hz, e2⟩ := Option.map_eq_some_iff.mp h
        cases e2
        exact ⟨_, e, ⟨_, hz, q⟩⟩
      · rename_i e
        cases h
        exact ⟨_, e, q⟩
      · cases h
    · cases h
  · rintro ⟨hl, o, h, q⟩
    rw [if_pos hl]
    cases o with
    | rt w M' => obtain ⟨z, hz, q⟩ := q; exact ⟨z, M', by simp [h, hz], q⟩
    | nx δ' M' => exact ⟨_, M', by simp [h], q⟩
    | _ => exact q.elim
theorem wpF_mono {f : Fn} {ds : List D} {Q' : W → Sto → Prop} (h : wpF f ds M Q) (i : ∀ w M', Q w M' → Q' w M') : wpF f ds M Q' := let ⟨w, M', e, q⟩ := h; ⟨w, M', e, i w M' q⟩
/-! ### loops -/
def loopQ (bd : Tg) (body : GS) (r : List D) (Q : Out → Prop) : Out → Prop
  | .nx δ M => wpL bd body r δ M Q
  | .ct δ M => wpL bd body r δ M Q
  | .bk δ M => Q (.nx δ M)
  | .rt w M => Q (.rt w M)
  | .rs x M => Q (.rs x M)
theorem wl_nil {bd : Tg} : wpL bd sa [] δ M QS ↔ QS (.nx δ M) := by simp [wpL, forL]
theorem wl_cons {bd : Tg} {x : D} {r : List D} : wpL bd sa (x :: r) δ M QS ↔ wpO1 (bd.bd x δ) fun δ1 => wpS sa δ1 M (loopQ bd sa r QS) := by
  unfold wpL wpS wpO1
  constructor
  · rintro ⟨o, h, q⟩
    unfold forL at h
    obtain ⟨δ1, h1, h⟩ := Option.bind_eq_some_iff.mp h
    obtain ⟨o1, h2, h⟩ := Option.bind_eq_some_iff.mp h
    refine ⟨δ1, h1, o1, h2, ?_⟩
    cases o1 with
    | nx δ' M' => exact ⟨o, h, q⟩
    | ct δ' M' => exact ⟨o, h, q⟩
    | bk δ' M' => cases h; exact q
    | rt w M' => cases h; exact q
    | rs x M' => cases h; exact q
  · rintro ⟨δ1, h1, o1, h2, h⟩
    cases o1 with
    | nx δ' M' => obtain ⟨o, h3, q⟩ := h; exact ⟨o, by unfold forL; simp [h1, h2, h3], q⟩
    | ct δ' M' => obtain ⟨o, h3, q⟩ := h; exact ⟨o, by unfold forL; simp [h1, h2, h3], q⟩
    | bk δ' M' => exact ⟨_, by unfold forL; simp [h1, h2], h⟩
    | rt w M' => exact ⟨_, by unfold forL; simp [h1, h2], h⟩
    | rs x M' => exact ⟨_, by unfold forL; simp [h1, h2], h⟩
/-- a loop by an invariant: P tells of what is still to come -/
theorem wl_inv {bd : Tg} (P : List D → En → Sto → Prop) (QS : Out → Prop) (step : ∀ x r δ M, P (x :: r) δ M → wpO1 (bd.bd x δ) fun δ1 => wpS sa δ1 M fun o => match o with
      | .nx δ' M' => P r δ' M'
      | .ct δ' M' => P r δ' M'
      | .bk δ' M' => QS (.nx δ' M')
      | .rt w M' => QS (.rt w M')
      | .rs x M' => QS (.rs x M')) (fin : ∀ δ M, P [] δ M → QS (.nx δ M)) : ∀ {xs : List D} {δ : En} {M : Sto}, P xs δ M → wpL bd sa xs δ M QS
  | [], δ, M, h => wl_nil.mpr (fin δ M h)
  | x :: r, δ, M, h => by
    rw [wl_cons]
    obtain ⟨δ1, h1, o, h2, q⟩ := step x r δ M h
    refine ⟨δ1, h1, o, h2, ?_⟩
    cases o with
    | nx δ' M' => exact wl_inv P QS step fin q
    | ct δ' M' => exact wl_inv P QS step fin q
    | bk δ' M' => exact q
    | rt w M' => exact q
    | rs x M' => exact q
theorem wc_nil {bd : Tg} : wpC bd ta e δ [] M QI ↔ QI [] M := by unfold wpC compL; exact ex_two
theorem wc_cons {bd : Tg} {x : D} {r : List D} : wpC bd ta e δ (x :: r) M QI ↔ wpO1 (bd.bd x δ) fun δ1 => wpT ta δ1 M fun t M1 => if t = true then wpG e δ1 M1 fun w M2 => wpO1 (frz w) fun y => wpC bd ta e δ r M2 fun zs M3 => QI (y :: zs) M3 else wpC bd ta e δ r M1 QI := by
  unfold wpC wpT wpG wpO1
  constructor
  · rintro ⟨o, M', h, q⟩
    unfold compL at h
    simp only [Option.bind_eq_some_iff, Prod.exists] at h
    obtain ⟨δ1, h1, t, M1, h2, h⟩ := h
    refine ⟨δ1, h1, t, M1, h2, ?_⟩
    cases t
    · simp at h ⊢; exact ⟨_, _, h, q⟩
    · simp at h ⊢
      simp only [Option.bind_eq_some_iff, Prod.exists, Option.some.injEq, Prod.mk.injEq] at h
      obtain ⟨w, M2, h3, y, h4, zs, M3, h5, rfl, rfl⟩ := h
      exact ⟨w, M2, h3, y, h4, zs, _, h5, q⟩
  · rintro ⟨δ1, h1, t, M1, h2, h⟩
    cases t
    · simp at h
      obtain ⟨zs, M3, h3, q⟩ := h
      exact ⟨zs, M3, by unfold compL; simp [h1, h2, h3], q⟩
    · simp at h
      obtain ⟨w, M2, h3, y, h4, zs, M3, h5, q⟩ := h
      exact ⟨_, M3, by unfold compL; simp [h1, h2, h3, h4, h5], q⟩
theorem ww_step {n : Nat} : wpW ta sa (n + 1) δ M QS ↔ wpT ta δ M fun t M1 => if t = true then wpS sa δ M1 fun o => match o with
      | .nx δ' M' => wpW ta sa n δ' M' QS
      | .ct δ' M' => wpW ta sa n δ' M' QS
      | .bk δ' M' => QS (.nx δ' M')
      | .rt w M' => QS (.rt w M')
      | .rs x M' => QS (.rs x M')
    else QS (.nx δ M1) := by
  unfold wpW wpT wpS
  constructor
  · rintro ⟨o, h, q⟩
    unfold whileL at h
    simp only [Option.bind_eq_some_iff, Prod.exists] at h
    obtain ⟨t, M1, h1, h⟩ := h
    refine ⟨t, M1, h1, ?_⟩
    cases t
    · simp at h ⊢; cases h; exact q
    · simp at h ⊢
      obtain ⟨o1, h2, h⟩ := Option.bind_eq_some_iff.mp h
      refine ⟨o1, h2, ?_⟩
      cases o1 with
      | nx δ' M' => exact ⟨o, h, q⟩
      | ct δ' M' => exact ⟨o, h, q⟩
      | bk δ' M' => cases h; exact q
      | rt w M' => cases h; exact q
      | rs x M' => cases h; exact q
  · rintro ⟨t, M1, h1, h⟩
    cases t
    · simp at h; exact ⟨_, by unfold whileL; simp [h1], h⟩
    · simp at h
      obtain ⟨o1, h2, h⟩ := h
      cases o1 with
      | nx δ' M' => obtain ⟨o, h3, q⟩ := h; exact ⟨o, by unfold whileL; simp [h1, h2, h3], q⟩
      | ct δ' M' => obtain ⟨o, h3, q⟩ := h; exact ⟨o, by unfold whileL; simp [h1, h2, h3], q⟩
      | bk δ' M' => exact ⟨_, by unfold whileL; simp [h1, h2], h⟩
      | rt w M' => exact ⟨_, by unfold whileL; simp [h1, h2], h⟩
      | rs x M' => exact ⟨_, by unfold whileL; simp [h1, h2], h⟩
end
end Mi
/-! PTac: computing with mirrors. -/
namespace Mi
open PySem L2
section
variable {M : Sto} {i j : Int} {x : D} {xs ys : List D} {s t : Str} {b c : Bool} {w : W} {n : Nat} {kv : List (Key × D)}
theorem frz_d : frz (.d x) = some x := rfl
theorem frz_fr : frz (.fr xs) = some (.lst xs) := rfl
theorem frzs_nil : frzs [] = some [] := rfl
theorem frzs_cons {r : List W} : frzs (w :: r) = (frz w).bind fun x => (frzs r).bind fun xs => some (x :: xs) := rfl
theorem isB_b : isB (.d (.bl b)) = some b := rfl
theorem isI_i : isI (.d (.int i)) = some i := rfl
theorem isID_i : isID (.int i) = some i := rfl
theorem retW_d : retW (.d x) = some (.d x) := rfl
theorem retW_ol : retW (.ol xs) = some (.fr xs) := rfl
theorem retW_fr : retW (.fr xs) = some (.fr xs) := rfl
theorem retW_fd : retW (.fd kv) = some (.fd kv) := rfl
theorem retW_od : retW (.od false kv) = some (.fd kv) := rfl
theorem ownO_fr : ownO (.fr xs) = some (.ol xs) := rfl
theorem ownO_fd : ownO (.fd kv) = some (.od false kv) := rfl
theorem celO_fr : celO (.fr xs) M = some (.d (.cel M.length), M ++ [.lst xs]) := rfl
theorem celO_fd : celO (.fd kv) M = some (.d (.cel M.length), M ++ [.dct false kv]) := rfl
theorem seqD_tup : seqD (.d (.tup xs)) = some xs := rfl
theorem seqD_tpl : seqD (.d (.tpl xs)) = some xs := rfl
theorem seqD_lst : seqD (.d (.lst xs)) = some xs := rfl
theorem seqD_fr : seqD (.fr xs) = some xs := rfl
theorem vT_tup : vT (.d (.tup xs)) = some xs := rfl
theorem vT_tpl : vT (.d (.tpl xs)) = some xs := rfl
theorem bd_nm {δ : En} : Tg.bd (.nm n) x δ = some (δ.set n (some (.d x))) := rfl
theorem bd_tp {is : List Nat} {δ : En} : Tg.bd (.tp is) (.tup xs) δ = setAll δ is xs := rfl
theorem setAll_nil {δ : En} : setAll δ [] [] = some δ := rfl
theorem setAll_cons {is : List Nat} {δ : En} : setAll δ (n :: is) (x :: xs) = setAll (δ.set n (some (.d x))) is xs := rfl
theorem intOf_i : intOf (.d (.int j)) = if -100000 ≤ j ∧ j ≤ 100000 then some j else none := rfl
theorem addW_i : addW (.d (.int i)) (.d (.int j)) M = some (.d (.int (i + j))) := rfl
theorem addW_s : addW (.d (.str s)) (.d (.str t)) M = if s.length + t.length ≤ SZ then some (.d (.str (s ++ t))) else none := rfl
theorem subW_i : subW (.d (.int i)) (.d (.int j)) M = some (.d (.int (i - j))) := rfl
theorem mulW_i : mulW (.d (.int i)) (.d (.int j)) M = if i.natAbs < BIG ∧ j.natAbs < BIG then some (.d (.int (i * j))) else none := rfl
theorem mulW_t : mulW (.d (.tup xs)) (.d (.int j)) M = if xs ≠ [] ∧ 2 ≤ j ∧ j ≤ 1000 ∧ xs.length ≤ 1000 then some (.d (.tup (List.replicate j.toNat xs).flatten)) else none := rfl
theorem fdvW_i : fdvW (.d (.int i)) (.d (.int j)) M = if 0 < j ∧ j.natAbs < BIG then some (.d (.int (i / j))) else none := rfl
theorem modW_i : modW (.d (.int i)) (.d (.int j)) M = if 0 < j then some (.d (.int (i % j))) else none := rfl
theorem powW_i : powW (.d (.int i)) (.d (.int j)) M = if 0 ≤ j ∧ j ≤ 1000 ∧ 0 ≤ i ∧ i ≤ 10 then some (.d (.int (i ^ j.toNat))) else none := rfl
theorem negW_i : negW (.d (.int i)) M = some (.d (.int (-i))) := rfl
theorem leW_i : leW (.d (.int i)) (.d (.int j)) M = some (.d (.bl (decide (i ≤ j)))) := rfl
theorem gtW_i : gtW (.d (.int i)) (.d (.int j)) M = some (.d (.bl (decide (j < i)))) := rfl
theorem geW_i : geW (.d (.int i)) (.d (.int j)) M = some (.d (.bl (decide (j ≤ i)))) := rfl
theorem ltQ_i : ltQ (.d (.int i)) (.d (.int j)) M = some (.d (.bl (decide (i < j)))) := rfl
theorem ltQ_s : ltQ (.d (.str s)) (.d (.str t)) M = some (.d (.bl (strLt s t))) := rfl
theorem eqW_i : eqW (.d (.int i)) (.d (.int j)) M = some (.d (.bl (i == j))) := rfl
theorem eqW_s : eqW (.d (.str s)) (.d (.str t)) M = some (.d (.bl (s == t))) := rfl
theorem eqW_b : eqW (.d (.bl b)) (.d (.bl c)) M = some (.d (.bl (b == c))) := rfl
theorem neW_i : neW (.d (.int i)) (.d (.int j)) M = some (.d (.bl (!(i == j)))) := rfl
theorem neW_s : neW (.d (.str s)) (.d (.str t)) M = some (.d (.bl (!(s == t)))) := rfl
theorem neW_b : neW (.d (.bl b)) (.d (.bl c)) M = some (.d (.bl (!(b == c)))) := rfl
theorem absW_i : absW [.d (.int i)] M = some (.d (.int (if i < 0 then -i else i))) := rfl
theorem minW_i : minW [.d (.int i), .d (.int j)] M = some (.d (.int (if j < i then j else i))) := rfl
theorem maxW_i : maxW [.d (.int i), .d (.int j)] M = some (.d (.int (if j > i then j else i))) := rfl
theorem lenW_tup : lenW [.d (.tup xs)] M = some (.d (.int (xs.length : Int))) := rfl
theorem lenW_tpl : lenW [.d (.tpl xs)] M = some (.d (.int (xs.length : Int))) := rfl
theorem lenW_lst : lenW [.d (.lst xs)] M = some (.d (.int (xs.length : Int))) := rfl
theorem lenW_fr : lenW [.fr xs] M = some (.d (.int (xs.length : Int))) := rfl
theorem lenW_ol : lenW [.ol xs] M = some (.d (.int (xs.length : Int))) := rfl
theorem lenW_rol {ns : List Int} : lenW [.d (.rol ns)] M = some (.d (.int (ns.length : Int))) := rfl
theorem lenW_od : lenW [.od b kv] M = some (.d (.int (kv.length : Int))) := rfl
theorem sumW_fr : sumW [.fr xs] M = (dInts xs).map fun ns => .d (.int ns.sum) := rfl
theorem sumW_ol : sumW [.ol xs] M = (dInts xs).map fun ns => .d (.int ns.sum) := rfl
theorem sumW_lst : sumW [.d (.lst xs)] M = (dInts xs).map fun ns => .d (.int ns.sum) := rfl
theorem maxW_lst : maxW [.d (.lst xs)] M = (dInts xs).bind fun ns => if ns = [] then none else some (.d (.int (maxI ns))) := rfl
theorem allW_fr : allW [.fr xs] M = (dBools xs).map fun ns => .d (.bl (ns.all id)) := rfl
theorem anyW_fr : anyW [.fr xs] M = (dBools xs).map fun ns => .d (.bl (ns.any id)) := rfl
theorem listW_tup : listW [.d (.tup xs)] M = some (.fr xs) := rfl
theorem listW_tpl : listW [.d (.tpl xs)] M = some (.fr xs) := rfl
theorem listW_lst : listW [.d (.lst xs)] M = some (.fr xs) := rfl
theorem tuplePW_fr : tuplePW [.fr xs] M = some (.d (.tpl xs)) := rfl
theorem tuplePW_ol : tuplePW [.ol xs] M = some (.d (.tpl xs)) := rfl
theorem tuplePW_lst : tuplePW [.d (.lst xs)] M = some (.d (.tpl xs)) := rfl
theorem tuplePW_tpl : tuplePW [.d (.tpl xs)] M = some (.d (.tpl xs)) := rfl
theorem intW_i : intW [.d (.int i)] M = some (.d (.int i)) := rfl
theorem intW_b : intW [.d (.bl b)] M = some (.d (.int (if b then 1 else 0))) := rfl
theorem ixW_tup : ixW (.d (.tup xs)) (.d (.int i)) M = (atI xs i).map .d := rfl
theorem ixW_tpl : ixW (.d (.tpl xs)) (.d (.int i)) M = (atI xs i).map .d := rfl
theorem ixW_lst : ixW (.d (.lst xs)) (.d (.int i)) M = (atI xs i).map .d := rfl
theorem ixW_fr : ixW (.fr xs) (.d (.int i)) M = (atI xs i).map .d := rfl
theorem ixW_ol : ixW (.ol xs) (.d (.int i)) M = (atI xs i).map .d := rfl
theorem ixW_rol {ns : List Int} : ixW (.d (.rol ns)) (.d (.int i)) M = (atI ns i).map fun (n : Int) => .d (.int n) := rfl
theorem ixW_od : ixW (.od b kv) (.d (.str s)) M = ((kv.find? fun p => decide (p.1 = Sum.inr s)).map (·.2)).map .d := rfl
theorem ixW_cel (h : M[n]? = some (.lst xs)) : ixW (.d (.cel n)) (.d (.int i)) M = (atI xs i).map .d := by
  simp [ixW, vS, vT, vL, h]
theorem cellO_lst (h : M[n]? = some (.lst xs)) : cellO (.d (.cel n)) M (.d (.int i)) x = (ixN xs.length i).map fun j => M.set n (.lst (xs.set j x)) := by
  simp [cellO, h, setCl]
  cases ixN xs.length i <;> rfl
theorem slPW_tpl {l h : Option Int} : slPW (.d (.tpl xs)) l h M = some (.d (.tpl (cutD xs l h))) := rfl
theorem slW_tup {l h : Option Int} : slW (.d (.tup xs)) l h M = some (.d (.tup (cutD xs l h))) := rfl
theorem slW_tpl {l h : Option Int} : slW (.d (.tpl xs)) l h M = some (.d (.tup (cutD xs l h))) := rfl
theorem slW_fr {l h : Option Int} : slW (.fr xs) l h M = some (.fr (cutD xs l h)) := rfl
theorem slW_lst {l h : Option Int} : slW (.d (.lst xs)) l h M = some (.fr (cutD xs l h)) := rfl
theorem slW_ol {l h : Option Int} : slW (.ol xs) l h M = some (.fr (cutD xs l h)) := rfl
theorem atI_0 {α : Type} {a : α} {r : List α} : atI (a :: r) 0 = some a := by
  have h : ixN (a :: r).length 0 = some 0 := by
    unfold ixN
    rw [if_pos (Int.le_refl 0), if_pos (by simp only [List.length_cons]; omega)]
    rfl
  unfold atI
  rw [h]
  rfl
theorem atI_1 {α : Type} {a b : α} {r : List α} : atI (a :: b :: r) 1 = some b := by
  have h : ixN (a :: b :: r).length 1 = some 1 := by
    unfold ixN
    rw [if_pos (by decide), if_pos (by simp only [List.length_cons]; omega)]
    rfl
  unfold atI
  rw [h]
  rfl
theorem atI_nat {α : Type} {l : List α} {k : Nat} (h : k < l.length) : atI l (k : Int) = some l[k] := by
  have h' : ixN l.length (k : Int) = some k := by
    unfold ixN
    rw [if_pos (by omega), if_pos (by omega)]
    simp
  unfold atI
  rw [h']
  simp [h]
theorem ixN_nat' {k : Nat} {l : Nat} (h : k < l) : ixN l (k : Int) = some k := by
  unfold ixN
  rw [if_pos (by omega), if_pos (by omega)]
  simp
theorem ixN_20 : ixN 2 0 = some 0 := rfl
theorem ixN_21 : ixN 2 1 = some 1 := rfl
theorem iAdd_i : iAdd i j = some (i + j) := rfl
theorem iMul_i : iMul i j = if i.natAbs < BIG ∧ j.natAbs < BIG then some (i * j) else none := rfl
theorem opTup_i {ws : List W} : opTup ws M = if ws.length ≤ SZ then (frzs ws).map fun xs => .d (.tup xs) else none := rfl
theorem opTupP_i {ws : List W} : opTupP ws M = if ws.length ≤ SZ then (frzs ws).map fun xs => .d (.tpl xs) else none := rfl
theorem opLst_i {ws : List W} : opLst ws M = if ws.length ≤ SZ then (frzs ws).map fun xs => .fr xs else none := rfl
theorem appO_ol : appO (some (some (.ol xs))) x = if xs.length < SZ then some (.ol (xs ++ [x])) else none := rfl
theorem setO_w {u : W} : setO (some (some w)) u x = setW w u x := rfl
theorem startE_nil : startE n [] = List.replicate n none := by simp [startE]
theorem startE_cons {r : List D} : startE (n + 1) (x :: r) = some (.d x) :: startE n r := by
  simp [startE]
theorem wipeE_nil {δ : En} : wipeE δ [] = δ := rfl
theorem wipeE_cons {δ : En} {v : Nat} {vs : List Nat} : wipeE δ (v :: vs) = (wipeE δ vs).set v none := rfl
theorem sz_lit {k : Nat} : (k ≤ SZ) = (k ≤ 100000) := rfl
theorem sz_lt' {k : Nat} : (k < SZ) = (k < 100000) := rfl
theorem fuelW_i {δ : En} : fuelW δ n = match δ[n]? with
  | some (some (.d (.int j))) => j.toNat
  | _ => 0 := rfl
end
theorem getC_ol {xs : List D} {i : Int} : getC (.ol xs) (.d (.int i)) = if 0 ≤ i then xs[i.toNat]? else none := rfl
theorem setW_ol {xs : List D} {i : Int} {x : D} : setW (.ol xs) (.d (.int i)) x = (ixN xs.length i).map fun j => .ol (xs.set j x) := rfl
theorem lt_BIG {n : Nat} (h : n < 1000000000000000000000000000000000000000000000000000000000000) : n < BIG := Nat.lt_trans h (Nat.lt_of_lt_of_le (by decide : _ < 2 ^ 200) (Nat.pow_le_pow_right (by decide) (by decide)))
/-- the law's bag of numbers -/
def BagAt (M : Sto) (n : Nat) : Prop := ∃ a b : Int, M[n]? = some (.lst [.int a, .int b]) ∧ 0 ≤ a ∧ 0 ≤ b ∧ b < 2147483647
theorem cel_set {M : Sto} {n : Nat} {c c' : Cell} (h : M[n]? = some c) : (M.set n c')[n]? = some c' := by
  rw [List.getElem?_set_self (List.getElem?_eq_some_iff.mp h).1]
/-- only the cell n changes -/
def OnlyAt (n : Nat) (M M' : Sto) : Prop := M'.length = M.length ∧ ∀ m, m ≠ n → M'[m]? = M[m]?
theorem OnlyAt.refl {n : Nat} {M : Sto} : OnlyAt n M M := ⟨rfl, fun _ _ => rfl⟩
theorem OnlyAt.trans {n : Nat} {M M1 M2 : Sto} (a : OnlyAt n M M1) (b : OnlyAt n M1 M2) : OnlyAt n M M2 := ⟨b.1.trans a.1, fun m h => (b.2 m h).trans (a.2 m h)⟩
theorem OnlyAt.set {n : Nat} {M : Sto} {c : Cell} : OnlyAt n M (M.set n c) := ⟨by simp, fun m h => by rw [List.getElem?_set_ne (Ne.symm h)]⟩
/-- what stays but for the bag's cell -/
def Bg (n : Nat) (M M' : Sto) : Prop := BagAt M' n ∧ OnlyAt n M M'
theorem Bg.trans {n : Nat} {M M1 M2 : Sto} (a : Bg n M M1) (b : Bg n M1 M2) : Bg n M M2 := ⟨b.1, a.2.trans b.2⟩
theorem Bg.refl {n : Nat} {M : Sto} (h : BagAt M n) : Bg n M M := ⟨h, .refl⟩
/-- the rules by which a mirror is computed -/
def wpAll := And.intro (And.intro (And.intro (And.intro (And.intro (And.intro (And.intro (@startE_cons) (@startE_nil)) (And.intro (@wg_var) (And.intro (@wg_c) (@wg_bin)))) (And.intro (And.intro (@wg_un) (@wa_nil)) (And.intro (@wa_cons) (And.intro (@wg_blt) (@wg_tup))))) (And.intro (And.intro (And.intro (@wg_tupP) (@wg_lst)) (And.intro (@wg_call) (And.intro (@wg_mt) (@wt_v)))) (And.intro (And.intro (@wt_and) (@wt_or)) (And.intro (@wt_not) (And.intro (@wt_yes) (@wg_if)))))) (And.intro (And.intro (And.intro (And.intro (@wg_and) (@wg_or)) (And.intro (@wg_not) (And.intro (@wg_chain) (@wo_none)))) (And.intro (And.intro (@wo_some) (@wg_sl)) (And.intro (@wg_slP) (And.intro (@wg_cel) (@wi_seq))))) (And.intro (And.intro (And.intro (@wi_ran1) (@wi_ran2)) (And.intro (@wi_enum) (And.intro (@wi_zip) (@wg_comp)))) (And.intro (And.intro (@ws_next) (And.intro (@ws_seq) (@ws_asg))) (And.intro (@ws_own) (And.intro (@ws_ret) (@ws_retN))))))) (And.intro (And.intro (And.intro (And.intro (And.intro (@ws_brk) (@ws_cnt)) (And.intro (@ws_if) (And.intro (@ws_drop) (@ws_unp)))) (And.intro (And.intro (@ws_par) (@ws_app)) (And.intro (@ws_for) (And.intro (@ws_while) (@ws_setO))))) (And.intro (And.intro (And.intro (@ws_setC) (@ws_augN)) (And.intro (@ws_augO) (And.intro (@seqQ_nx) (@seqQ_rt)))) (And.intro (And.intro (@seqQ_bk) (And.intro (@seqQ_ct) (@seqQ_rs))) (And.intro (@retQ_rt) (And.intro (@retQ_nx) (@wpO1_some)))))) (And.intro (And.intro (And.intro (And.intro (@wpO1_none) (@wpO1_ite)) (And.intro (@wpO1_map) (And.intro (@wpO1_bind) (@frz_d)))) (And.intro (And.intro (@frz_fr) (@frzs_nil)) (And.intro (@frzs_cons) (And.intro (@isB_b) (@isI_i))))) (And.intro (And.intro (And.intro (@isID_i) (@retW_d)) (And.intro (@retW_ol) (And.intro (@retW_fr) (@retW_fd)))) (And.intro (And.intro (@retW_od) (And.intro (@ownO_fr) (@ownO_fd))) (And.intro (@celO_fr) (And.intro (@celO_fd) (@seqD_tup)))))))) (And.intro (And.intro (And.intro (And.intro (And.intro (And.intro (@seqD_tpl) (@seqD_lst)) (And.intro (@seqD_fr) (And.intro (@vT_tup) (@vT_tpl)))) (And.intro (And.intro (@bd_nm) (@bd_tp)) (And.intro (@setAll_nil) (And.intro (@setAll_cons) (@intOf_i))))) (And.intro (And.intro (And.intro (@addW_i) (@addW_s)) (And.intro (@subW_i) (And.intro (@mulW_i) (@mulW_t)))) (And.intro (And.intro (@fdvW_i) (@modW_i)) (And.intro (@powW_i) (And.intro (@negW_i) (@leW_i)))))) (And.intro (And.intro (And.intro (And.intro (@gtW_i) (@geW_i)) (And.intro (@ltQ_i) (And.intro (@ltQ_s) (@eqW_i)))) (And.intro (And.intro (@eqW_s) (@eqW_b)) (And.intro (@neW_i) (And.intro (@neW_s) (@neW_b))))) (And.intro (And.intro (And.intro (@absW_i) (@minW_i)) (And.intro (@maxW_i) (And.intro (@lenW_tup) (@lenW_tpl)))) (And.intro (And.intro (@lenW_lst) (And.intro (@lenW_fr) (@lenW_ol))) (And.intro (@lenW_rol) (And.intro (@lenW_od) (@sumW_fr))))))) (And.intro (And.intro (And.intro (And.intro (And.intro (@sumW_ol) (@sumW_lst)) (And.intro (@maxW_lst) (And.intro (@allW_fr) (@anyW_fr)))) (And.intro (And.intro (@listW_tup) (@listW_tpl)) (And.intro (@listW_lst) (And.intro (@tuplePW_fr) (@tuplePW_ol))))) (And.intro (And.intro (And.intro (@tuplePW_lst) (@tuplePW_tpl)) (And.intro (@intW_i) (And.intro (@intW_b) (@ixW_tup)))) (And.intro (And.intro (@ixW_tpl) (And.intro (@ixW_lst) (@ixW_fr))) (And.intro (@ixW_ol) (And.intro (@ixW_rol) (@slPW_tpl)))))) (And.intro (And.intro (And.intro (And.intro (@slW_tup) (@slW_tpl)) (And.intro (@slW_fr) (And.intro (@slW_lst) (@slW_ol)))) (And.intro (And.intro (@atI_0) (@atI_1)) (And.intro (@ixN_20) (And.intro (@ixN_21) (@iAdd_i))))) (And.intro (And.intro (And.intro (@iMul_i) (@opTup_i)) (And.intro (@opTupP_i) (And.intro (@opLst_i) (@appO_ol)))) (And.intro (And.intro (@setO_w) (And.intro (@sz_lit) (@sz_lt'))) (And.intro (And.intro (@wipeE_nil) (@wipeE_cons)) (And.intro (@ite_pn) (@fuelW_i))))))))
end Mi
/-! PMore: more rules for computing with mirrors: dicts, walks of any kind, in. -/
namespace Mi
open PySem L2
section
variable {δ : En} {M : Sto} {Q : W → Sto → Prop} {a b c e ek ev : G} {as : GA} {QI : List D → Sto → Prop} {ta : GT} {gi : GI}
def fdO : W → Option (List (Key × D))
  | .fd kv => some kv
  | _ => none
theorem wg_dic : wpG (gDic a) δ M Q ↔ wpG a δ M fun x M1 => wpO1 (fdO x) fun kv => Q (.d (.dic kv)) M1 := by
  unfold wpG gDic wpO1
  constructor
  · rintro ⟨w, M', h, q⟩
    split at h
    · rename_i e; cases h; exact ⟨_, _, e, _, rfl, q⟩
    · cases h
  · rintro ⟨x, M1, h1, p, h2, q⟩
    unfold fdO at h2
    split at h2
    · cases h2; exact ⟨_, _, by simp [h1], q⟩
    · cases h2
theorem wi_it : wpI (iIt a) δ M QI ↔ wpG a δ M fun x M1 => wpO1 (itD x) fun xs => QI xs M1 := by
  unfold wpI wpG iIt wpO1
  constructor
  · rintro ⟨w, M', h, q⟩
    simp only [Option.bind_eq_some_iff, Option.map_eq_some_iff, Prod.exists, Prod.mk.injEq] at h
    obtain ⟨x, M1, h1, z, h3, rfl, rfl⟩ := h
    exact ⟨x, M1, h1, z, h3, q⟩
  · rintro ⟨x, M1, h1, z, h3, q⟩
    exact ⟨z, M1, by simp [h1, h3], q⟩
theorem wi_val : wpI (iVal a) δ M QI ↔ wpG a δ M fun x M1 => wpO1 (dicK x) fun kv => QI (valsD kv) M1 := by
  unfold wpI wpG iVal wpO1
  constructor
  · rintro ⟨w, M', h, q⟩
    simp only [Option.bind_eq_some_iff, Option.map_eq_some_iff, Prod.exists, Prod.mk.injEq] at h
    obtain ⟨x, M1, h1, z, h3, rfl, rfl⟩ := h
    exact ⟨x, M1, h1, z, h3, q⟩
  · rintro ⟨x, M1, h1, z, h3, q⟩
    exact ⟨_, M1, by simp [h1, h3], q⟩
theorem wi_itm : wpI (iItm a) δ M QI ↔ wpG a δ M fun x M1 => wpO1 (dicK x) fun kv => QI (itemsD kv) M1 := by
  unfold wpI wpG iItm wpO1
  constructor
  · rintro ⟨w, M', h, q⟩
    simp only [Option.bind_eq_some_iff, Option.map_eq_some_iff, Prod.exists, Prod.mk.injEq] at h
    obtain ⟨x, M1, h1, z, h3, rfl, rfl⟩ := h
    exact ⟨x, M1, h1, z, h3, q⟩
  · rintro ⟨x, M1, h1, z, h3, q⟩
    exact ⟨_, M1, by simp [h1, h3], q⟩
theorem wg_newD : wpG gNewD δ M Q ↔ Q (.fd []) M := ex_two
def wpDC (bd : Tg) (t : GT) (ek ev : G) (δ : En) (xs : List D) (M : Sto) (acc : List (Key × D)) (Q : List (Key × D) → Sto → Prop) : Prop := ∃ ys M', dcompL bd t ek ev δ xs M acc = some (ys, M') ∧ Q ys M'
theorem wg_dcomp {bd : Tg} {own : List Nat} : wpG (gDComp gi bd ta ek ev own) δ M Q ↔ wpI gi δ M fun xs M1 => wpDC bd ta ek ev (wipeE δ own) xs M1 [] fun ys M2 => Q (.fd ys) M2 := by
  unfold wpG wpI wpDC gDComp
  constructor
  · rintro ⟨w, M', h, q⟩
    simp only [Option.bind_eq_some_iff, Option.map_eq_some_iff, Prod.exists, Prod.mk.injEq] at h
    obtain ⟨x, M1, h1, y, M2, h2, rfl, rfl⟩ := h
    exact ⟨x, M1, h1, y, _, h2, q⟩
  · rintro ⟨x, M1, h1, y, M2, h2, q⟩
    exact ⟨_, M2, by simp only [h1, h2, Option.bind_some, Option.map_some], q⟩
theorem wdc_nil {bd : Tg} {acc : List (Key × D)} {QK : List (Key × D) → Sto → Prop} : wpDC bd ta ek ev δ [] M acc QK ↔ QK acc M := by unfold wpDC dcompL; exact ex_two
theorem wdc_cons {bd : Tg} {x : D} {r : List D} {acc : List (Key × D)} {QK : List (Key × D) → Sto → Prop} : wpDC bd ta ek ev δ (x :: r) M acc QK ↔ wpO1 (bd.bd x δ) fun δ1 => wpT ta δ1 M fun t M1 => if t = true then wpG ek δ1 M1 fun w M2 => wpO1 (keyW w) fun k => wpG ev δ1 M2 fun u M3 => wpO1 (frz u) fun y => acc.length < SZ ∧ wpDC bd ta ek ev δ r M3 (putD acc k y) QK else wpDC bd ta ek ev δ r M1 acc QK := by
  unfold wpDC wpT wpG wpO1
  constructor
  · rintro ⟨o, M', h, q⟩
    unfold dcompL at h
    simp only [Option.bind_eq_some_iff, Prod.exists] at h
    obtain ⟨δ1, h1, t, M1, h2, h⟩ := h
    refine ⟨δ1, h1, t, M1, h2, ?_⟩
    cases t
    · simp at h ⊢; exact ⟨_, _, h, q⟩
    · simp only [if_true] at h ⊢
      simp only [Option.bind_eq_some_iff, Prod.exists] at h
      obtain ⟨w, M2, h3, k, hk, u, M3, h4, y, hy, h5⟩ := h
      split at h5
      · rename_i hs
        exact ⟨w, M2, h3, k, hk, u, M3, h4, y, hy, hs, o, M', h5, q⟩
      · cases h5
  · rintro ⟨δ1, h1, t, M1, h2, h⟩
    cases t
    · simp at h
      obtain ⟨zs, M3, h3, q⟩ := h
      exact ⟨zs, M3, by unfold dcompL; simp [h1, h2, h3], q⟩
    · simp only [if_true] at h
      obtain ⟨w, M2, h3, k, hk, u, M3, h4, y, hy, hs, zs, M4, h5, q⟩ := h
      exact ⟨_, M4, by unfold dcompL; simp only [h1, h2, h3, hk, h4, hy, h5, Option.bind_some, if_true]; rw [if_pos hs], q⟩
end
section
variable {M : Sto} {i j : Int} {x : D} {xs ys : List D} {s t : Str} {b c : Bool} {w : W} {n : Nat} {kv : List (Key × D)}
theorem fdO_fd : fdO (.fd kv) = some kv := rfl
theorem itD_dic : itD (.d (.dic kv)) = some (keysD kv) := rfl
theorem itD_str : itD (.d (.str s)) = some (letters s) := rfl
theorem itD_tup : itD (.d (.tup xs)) = some xs := rfl
theorem itD_tpl : itD (.d (.tpl xs)) = some xs := rfl
theorem itD_lst : itD (.d (.lst xs)) = some xs := rfl
theorem itD_fr : itD (.fr xs) = some xs := rfl
theorem dicK_dic : dicK (.d (.dic kv)) = some kv := rfl
theorem keyW_s : keyW (.d (.str s)) = some (.inr s) := rfl
theorem keyW_i : keyW (.d (.int i)) = some (.inl i) := rfl
theorem keyOf_s : keyOf (.str s) = some (.inr s) := rfl
theorem keyOf_i : keyOf (.int i) = some (.inl i) := rfl
theorem ixW_dic : ixW (.d (.dic kv)) (.d (.str s)) M = ((kv.find? fun p => decide (p.1 = Sum.inr s)).map (·.2)).map .d := rfl
theorem lenW_dic : lenW [.d (.dic kv)] M = some (.d (.int (kv.length : Int))) := rfl
theorem dictAW_dic : dictAW [.d (.dic kv)] M = some (.fd kv) := rfl
theorem dictAW_tpl : dictAW [.d (.tpl xs)] M = dictPW [.d (.tpl xs)] M := rfl
theorem dictAW_fr : dictAW [.fr xs] M = dictPW [.fr xs] M := rfl
theorem dictPW_tpl : dictPW [.d (.tpl xs)] M = if xs.length ≤ SZ then (pairsK xs).map fun kv => .fd (mergeD [] kv) else none := rfl
theorem dictPW_fr : dictPW [.fr xs] M = (pairsK xs).map fun kv => .fd (mergeD [] kv) := rfl
theorem litemsW_dic : litemsW (.d (.dic kv)) M = some (.fr (itemsD kv)) := rfl
theorem inW_dic : inW (.d (.str s)) (.d (.dic kv)) M = some (.d (.bl (kv.any fun p => decide (p.1 = Sum.inr s)))) := rfl
theorem inW_str : inW (.d (.str s)) (.d (.str t)) M = some (.d (.bl (!(Builtin.Str.occurrences t s 0 t.length 1).isEmpty))) := rfl
theorem setW_od {y : D} : setW (.od false kv) (.d (.str s)) y = if kv.length < SZ then some (.od false (putD kv (.inr s) y)) else none := rfl
theorem any_deq : ∀ ss : List Str, ((ss.map D.str).any fun y => deq y (.str s)) = ss.any fun y => y == s
  | [] => rfl
  | z :: r => by
    rw [List.map_cons, List.any_cons, List.any_cons, any_deq r]
    congr 1
theorem flat_strs (ss : List Str) : (ss.map D.str).all D.flat = true := by
  rw [List.all_eq_true]
  intro x hx
  obtain ⟨y, _, rfl⟩ := List.mem_map.mp hx
  rfl
theorem inW_strs {w : W} {ss : List Str} (h : vS M w = some (ss.map .str)) (h2 : ∀ z, w ≠ .d (.str z)) : inW (.d (.str s)) w M = some (.d (.bl (ss.any fun y => y == s))) := by
  have key : inW (.d (.str s)) w M = match vS M w with
      | some ys => if (D.str s).flat && ys.all D.flat then some (.d (.bl (ys.any fun y => deq y (.str s)))) else if (D.str s).ok 60 && oks 59 ys then some (.d (.bl (ys.any fun y => deq y (.str s)))) else none
      | none => (vK M w).bind fun kv => (keyOf (D.str s)).map fun k => .d (.bl (kv.any fun p => decide (p.1 = k))) := by
    cases w with
    | d x => cases x with
      | str z => exact absurd rfl (h2 z)
      | _ => rfl
    | _ => rfl
  rw [key, h]
  dsimp only
  rw [flat_strs, any_deq]
  rfl
theorem inW_tpl {ss : List Str} : inW (.d (.str s)) (.d (.tpl (ss.map .str))) M = some (.d (.bl (ss.any fun y => y == s))) := inW_strs rfl (by intro z h; cases h)
theorem inW_tup {ss : List Str} : inW (.d (.str s)) (.d (.tup (ss.map .str))) M = some (.d (.bl (ss.any fun y => y == s))) := inW_strs rfl (by intro z h; cases h)
theorem inW_lst {ss : List Str} : inW (.d (.str s)) (.d (.lst (ss.map .str))) M = some (.d (.bl (ss.any fun y => y == s))) := inW_strs rfl (by intro z h; cases h)
theorem inW_fr {ss : List Str} : inW (.d (.str s)) (.fr (ss.map .str)) M = some (.d (.bl (ss.any fun y => y == s))) := inW_strs rfl (by intro z h; cases h)
theorem tyL_lst : tyL (.d (.lst xs)) M = true := rfl
theorem tyL_fr : tyL (.fr xs) M = true := rfl
theorem tyL_ol : tyL (.ol xs) M = true := rfl
theorem isN_i : isNonW (.d (.int i)) (.d .non) M = some (.d (.bl false)) := rfl
theorem isN_n : isNonW (.d .non) (.d .non) M = some (.d (.bl true)) := rfl
theorem isN_t : isNonW (.d (.tup xs)) (.d .non) M = some (.d (.bl false)) := rfl
theorem isN_p : isNonW (.d (.tpl xs)) (.d .non) M = some (.d (.bl false)) := rfl
theorem isN_s : isNonW (.d (.str s)) (.d .non) M = some (.d (.bl false)) := rfl
theorem isNN_n : isNotW (.d .non) (.d .non) M = some (.d (.bl false)) := rfl
theorem isNN_t : isNotW (.d (.tup xs)) (.d .non) M = some (.d (.bl true)) := rfl
theorem isNN_p : isNotW (.d (.tpl xs)) (.d .non) M = some (.d (.bl true)) := rfl
theorem isNN_s : isNotW (.d (.str s)) (.d .non) M = some (.d (.bl true)) := rfl
end
def wpMore := And.intro (And.intro (And.intro (@wg_dic) (And.intro (@wi_it) (@wi_val))) (And.intro (@wi_itm) (And.intro (@wg_newD) (@wg_dcomp)))) (And.intro (And.intro (And.intro (@fdO_fd) (And.intro (@itD_dic) (@itD_str))) (And.intro (@itD_tup) (And.intro (@itD_tpl) (And.intro (@itD_lst) (@itD_fr)))))
  (And.intro (And.intro (@dicK_dic) (And.intro (@keyW_s) (And.intro (@keyW_i) (And.intro (@keyOf_s) (@keyOf_i))))) (And.intro (And.intro (@lenW_dic) (And.intro (@lenW_dic) (And.intro (@dictAW_dic) (And.intro (@dictAW_tpl) (And.intro (@dictAW_fr) (And.intro (@litemsW_dic) (@setW_od)))))))
  (And.intro (And.intro (@tyL_lst) (And.intro (@tyL_lst) (And.intro (@tyL_fr) (@tyL_ol)))) (And.intro (And.intro (@isN_i) (And.intro (@isN_n) (And.intro (@isN_t) (And.intro (@isN_p) (@isN_s))))) (And.intro (@isNN_n) (And.intro (@isNN_t) (And.intro (@isNN_p) (@isNN_s))))))))) 
section
variable {M : Sto} {i : Int} {xs : List D} {s : Str} {b : Bool} {kv : List (Key × D)} {p : Kd → Option Bool}
theorem isi_non : isiW p (.d .non) M = (p .non).map fun r => .d (.bl r) := rfl
theorem isi_bl : isiW p (.d (.bl b)) M = (p .bl).map fun r => .d (.bl r) := rfl
theorem isi_int : isiW p (.d (.int i)) M = (p .int).map fun r => .d (.bl r) := rfl
theorem isi_str : isiW p (.d (.str s)) M = (p .str).map fun r => .d (.bl r) := rfl
theorem isi_tup : isiW p (.d (.tup xs)) M = (p .tup).map fun r => .d (.bl r) := rfl
theorem isi_tpl : isiW p (.d (.tpl xs)) M = (p .tup).map fun r => .d (.bl r) := rfl
theorem isi_lst : isiW p (.d (.lst xs)) M = (p .lst).map fun r => .d (.bl r) := rfl
theorem isi_fr : isiW p (.fr xs) M = (p .lst).map fun r => .d (.bl r) := rfl
theorem isi_ol : isiW p (.ol xs) M = (p .lst).map fun r => .d (.bl r) := rfl
theorem kT1 : isTup .non = some false := rfl
theorem kT2 : isTup .bl = some false := rfl
theorem kT3 : isTup .int = some false := rfl
theorem kT4 : isTup .str = some false := rfl
theorem kT5 : isTup .tup = some true := rfl
theorem kT6 : isTup .lst = some false := rfl
theorem kI1 : isInt .non = some false := rfl
theorem kI2 : isInt .bl = some true := rfl
theorem kI3 : isInt .int = some true := rfl
theorem kI4 : isInt .str = some false := rfl
theorem kI5 : isInt .tup = some false := rfl
theorem kI6 : isInt .lst = some false := rfl
theorem kB1 : isBool .non = some false := rfl
theorem kB2 : isBool .bl = some true := rfl
theorem kB3 : isBool .int = some false := rfl
theorem kB4 : isBool .str = some false := rfl
theorem kB5 : isBool .tup = some false := rfl
theorem kB6 : isBool .lst = some false := rfl
theorem kS1 : isStr .non = some false := rfl
theorem kS2 : isStr .bl = some false := rfl
theorem kS3 : isStr .int = some false := rfl
theorem kS4 : isStr .str = some true := rfl
theorem kS5 : isStr .tup = some false := rfl
theorem kS6 : isStr .lst = some false := rfl
theorem kL1 : isTupLst .non = some false := rfl
theorem kL2 : isTupLst .bl = some false := rfl
theorem kL3 : isTupLst .int = some false := rfl
theorem kL4 : isTupLst .str = some false := rfl
theorem kL5 : isTupLst .tup = some true := rfl
theorem kL6 : isTupLst .lst = some true := rfl
theorem addB_i {j : Int} : addB (.d (.int i)) (.d (.int j)) M = some (.d (.int (i + j))) := rfl
theorem addB_b {j : Int} : addB (.d (.bl b)) (.d (.int j)) M = some (.d (.int (b2 b + j))) := rfl
theorem addB_s {t : Str} : addB (.d (.str s)) (.d (.str t)) M = if s.length + t.length ≤ SZ then some (.d (.str (s ++ t))) else none := rfl
theorem addB_ff {ys : List D} : addB (.fr xs) (.fr ys) M = if xs.length + ys.length ≤ SZ then some (.fr (xs ++ ys)) else none := rfl
theorem subB_i {j : Int} : subB (.d (.int i)) (.d (.int j)) M = some (.d (.int (i - j))) := rfl
theorem subB_b {j : Int} : subB (.d (.bl b)) (.d (.int j)) M = some (.d (.int (b2 b - j))) := rfl
theorem negB_i : negB (.d (.int i)) M = some (.d (.int (-i))) := rfl
theorem negB_b : negB (.d (.bl b)) M = some (.d (.int (-b2 b))) := rfl
theorem strB_i : strB [.d (.int i)] M = if i.natAbs < 2 ^ 1900 then some (.d (.str (toString i))) else none := rfl
theorem strB_b : strB [.d (.bl b)] M = some (.d (.str (if b then "True" else "False"))) := rfl
theorem upperW_s : upperW (.d (.str s)) [] M = if s.length ≤ SZ then some (.d (.str (Txt.upper s))) else none := rfl
theorem slW_s {l h : Option Int} : slW (.d (.str s)) l h M = if s.length ≤ SZ then some (.d (.str (cutS s l h))) else none := rfl
theorem tyS_s : tyS (.d (.str s)) M = true := rfl
theorem revW_tup : revW (.d (.tup xs)) M = some (.d (.tpl xs.reverse)) := rfl
theorem revW_tpl : revW (.d (.tpl xs)) M = some (.d (.tpl xs.reverse)) := rfl
theorem lenW_s : lenW [.d (.str s)] M = (if s.length ≤ SZ then some s.length else none).map fun (n : Nat) => .d (.int (n : Int)) := rfl
theorem listW_ol : listW [.ol xs] M = some (.fr xs) := rfl
theorem listW_fr : listW [.fr xs] M = some (.fr xs) := rfl
theorem addW_ff {ys : List D} : addW (.fr xs) (.fr ys) M = if xs.length + ys.length ≤ SZ then some (.fr (xs ++ ys)) else none := rfl
theorem addW_lf {ys : List D} : addW (.d (.lst xs)) (.fr ys) M = if xs.length + ys.length ≤ SZ then some (.fr (xs ++ ys)) else none := rfl
theorem addW_of {ys : List D} : addW (.ol xs) (.fr ys) M = if xs.length + ys.length ≤ SZ then some (.fr (xs ++ ys)) else none := rfl
theorem addW_tt' {ys : List D} : addW (.d (.tup xs)) (.d (.tup ys)) M = if xs.length + ys.length ≤ SZ then some (.d (.tup (xs ++ ys))) else none := rfl
theorem addW_pt' {ys : List D} : addW (.d (.tpl xs)) (.d (.tup ys)) M = if xs.length + ys.length ≤ SZ then some (.d (.tup (xs ++ ys))) else none := rfl
theorem addW_tp' {ys : List D} : addW (.d (.tup xs)) (.d (.tpl ys)) M = if xs.length + ys.length ≤ SZ then some (.d (.tup (xs ++ ys))) else none := rfl
theorem addW_pp' {ys : List D} : addW (.d (.tpl xs)) (.d (.tpl ys)) M = if xs.length + ys.length ≤ SZ then some (.d (.tup (xs ++ ys))) else none := rfl
end
theorem bd_tpp {n : Nat} {is : List Nat} {δ : En} {xs : List D} : Tg.bd (.tp is) (.tpl xs) δ = setAll δ is xs := rfl
theorem ws_unpA {is : List Nat} {a : G} {δ : En} {M : Sto} {QS : Out → Prop} : wpS (sUnpA is a) δ M QS ↔ wpG a δ M fun w M1 => wpO1 (vS M1 w) fun xs => wpO1 (setAll δ is xs) fun δ' => QS (.nx δ' M1) := by
  unfold wpS wpG sUnpA wpO1
  constructor
  · rintro ⟨w, h, q⟩
    simp only [Option.bind_eq_some_iff, Option.map_eq_some_iff, Prod.exists] at h
    obtain ⟨x, M1, h1, z, h3, y, h4, rfl⟩ := h
    exact ⟨x, M1, h1, z, h3, y, h4, q⟩
  · rintro ⟨x, M1, h1, z, h3, y, h4, q⟩
    exact ⟨_, by simp [h1, h3, h4], q⟩
theorem vS_fr {xs : List D} {M : Sto} : vS M (.fr xs) = some xs := rfl
theorem vS_tup {xs : List D} {M : Sto} : vS M (.d (.tup xs)) = some xs := rfl
theorem vS_tpl {xs : List D} {M : Sto} : vS M (.d (.tpl xs)) = some xs := rfl
def wpKd := And.intro (And.intro (And.intro (@bd_tpp) (And.intro (@ws_unpA) (And.intro (@vS_fr) (And.intro (@vS_tup) (@vS_tpl))))) (And.intro (And.intro (@isi_non) (And.intro (@isi_bl) (@isi_int))) (And.intro (And.intro (@isi_str) (@isi_tup)) (And.intro (And.intro (@isi_tpl) (@isi_lst)) (And.intro (@isi_fr) (@isi_ol))))))
  (And.intro (And.intro (And.intro kT1 (And.intro kT2 kT3)) (And.intro kT4 (And.intro kT5 kT6))) (And.intro (And.intro (And.intro kI1 (And.intro kI2 kI3)) (And.intro kI4 (And.intro kI5 kI6))) (And.intro (And.intro (And.intro kB1 (And.intro kB2 kB3)) (And.intro kB4 (And.intro kB5 kB6)))
  (And.intro (And.intro (And.intro kS1 (And.intro kS2 kS3)) (And.intro kS4 (And.intro kS5 kS6))) (And.intro (And.intro (And.intro kL1 (And.intro kL2 kL3)) (And.intro kL4 (And.intro kL5 kL6))) (And.intro (And.intro (And.intro (@addB_i) (And.intro (@addB_b) (And.intro (@addB_s) (And.intro (@addB_ff) (And.intro (@subB_i) (And.intro (@subB_b) (And.intro (@negB_i) (And.intro (@negB_b) (And.intro (@strB_i) (And.intro (@strB_b) (And.intro (@upperW_s) (And.intro (@slW_s) (And.intro (@tyS_s) (And.intro (@revW_tup) (And.intro (@revW_tpl) (And.intro (@listW_ol) (@lenW_s))))))))))))))))) (And.intro (@listW_ol) (@listW_fr))) (And.intro (@addW_ff) (And.intro (@addW_lf) (@addW_of)))))))))
/-! into a def's body -/
end Mi
/-! PDat: data of the laws: marks, hands, answers. -/
namespace Mi
open PySem L2
theorem cutD_take {xs : List D} {k : Int} (h : 0 ≤ k) : cutD xs none (some k) = xs.take k.toNat := by
  obtain ⟨j, rfl⟩ := Int.eq_ofNat_of_zero_le h
  unfold cutD
  rw [HT.sIx_none, HT.sIx_nat, List.drop_zero, Nat.sub_zero, Int.toNat_natCast]
  by_cases hj : j ≤ xs.length
  · rw [Nat.min_eq_left hj]
  · rw [Nat.min_eq_right (by omega), List.take_of_length_le (Nat.le_refl _), List.take_of_length_le (by omega)]
theorem cutD_drop {xs : List D} {k : Int} (h : 0 ≤ k) : cutD xs (some k) none = xs.drop k.toNat := by
  obtain ⟨j, rfl⟩ := Int.eq_ofNat_of_zero_le h
  unfold cutD
  rw [HT.sIx_none, HT.sIx_nat, Int.toNat_natCast]
  by_cases hj : j ≤ xs.length
  · rw [Nat.min_eq_left hj, List.take_of_length_le (by simp)]
  · rw [Nat.min_eq_right (by omega), List.drop_of_length_le (Nat.le_refl _), List.drop_of_length_le (by omega)]; simp
abbrev Hand := Str × Nat × Nat
def handD (h : Hand) : D := .tup [.str h.1, .tup [.int (h.2.1 : Nat), .int (h.2.2 : Nat)]]
def ansD (a : Str × Str) : D := .tup [.str a.1, .str a.2]
def marks5 : List Str := ["ax", "bo", "cy", "da", "ed"]
def names8 : List Str := ["ann", "bea", "cal", "dot", "eve", "fin", "gil", "hob"]
/-- hands as drawn -/
structure HandsOk (hs : List Hand) : Prop where
  len : hs.length ≤ 8
  nd : (hs.map (·.1)).Nodup
  ok : ∀ h ∈ hs, 0 < h.2.1 ∧ h.2.1 < h.2.2 ∧ h.2.2 ≤ 10000
structure MarksOk (ms : List Str) : Prop where
  two : 2 ≤ ms.length
  five : ms.length ≤ 5
  nd : ms.Nodup
/-- answers of hands, with marks -/
structure AnsOk (ms : List Str) (hs : List Hand) (as : List (Str × Str)) : Prop where
  sub : (as.map (·.1)).Sublist (hs.map (·.1))
  mks : ∀ a ∈ as, a.2 ∈ ms
theorem AnsOk.nil {ms : List Str} {hs : List Hand} : AnsOk ms hs [] := ⟨List.nil_sublist _, by simp⟩
theorem low_lt {t b : Nat} (h0 : 0 < t) (h : t < b) : 0 < t / Nat.gcd t b ∧ t / Nat.gcd t b < b / Nat.gcd t b ∧ b / Nat.gcd t b ≤ b := by
  have g0 : 0 < Nat.gcd t b := Nat.gcd_pos_of_pos_left _ h0
  obtain ⟨x, hx⟩ := Nat.gcd_dvd_left t b
  obtain ⟨y, hy⟩ := Nat.gcd_dvd_right t b
  generalize Nat.gcd t b = g at g0 hx hy
  subst hx hy
  rw [Nat.mul_div_cancel_left _ g0, Nat.mul_div_cancel_left _ g0]
  have h1 : x < y := Nat.lt_of_mul_lt_mul_left h
  refine ⟨Nat.pos_of_ne_zero fun e => by rw [e] at h0; simp at h0, h1, Nat.le_mul_of_pos_left _ g0⟩
section
variable {bd : Tg} {ta : GT} {e : G} {δ : En} {M : Sto} {QI : List D → Sto → Prop}
/-- a comprehension that changes nothing -/
theorem wc_filt (p : D → Bool) (f : D → D) : ∀ {xs : List D} {QI : List D → Sto → Prop}, (∀ x ∈ xs, wpO1 (bd.bd x δ) fun δ1 => wpT ta δ1 M fun b M' => b = p x ∧ M = M' ∧ (b = true → wpG e δ1 M fun w M' => frz w = some (f x) ∧ M = M')) → QI ((xs.filter p).map f) M → wpC bd ta e δ xs M QI
  | [], QI, _, q => wc_nil.mpr q
  | x :: r, QI, h, q => by
    rw [wc_cons]
    obtain ⟨δ1, h1, b, M', h2, hb, rfl, h3⟩ := h x List.mem_cons_self
    have hr := fun y hy => h y (List.mem_cons_of_mem _ hy)
    refine ⟨δ1, h1, b, _, h2, ?_⟩
    cases b with
    | false =>
      rw [if_neg Bool.false_ne_true]
      exact wc_filt p f hr (by rwa [List.filter_cons_of_neg (by rw [← hb]; exact Bool.false_ne_true)] at q)
    | true =>
      rw [if_pos rfl]
      obtain ⟨w, M2, h4, h5, rfl⟩ := h3 rfl
      rw [List.filter_cons_of_pos (by rw [← hb]), List.map_cons] at q
      exact ⟨w, _, h4, f x, h5, wc_filt p f (QI := fun zs M3 => QI (f x :: zs) M3) hr q⟩
theorem wc_pure (f : D → D) {xs : List D} (h : ∀ x ∈ xs, wpO1 (bd.bd x δ) fun δ1 => wpG e δ1 M fun w M' => frz w = some (f x) ∧ M = M') (q : QI (xs.map f) M) : wpC bd Mi.tYes e δ xs M QI :=
  wc_filt (fun _ => true) f (fun x hx => let ⟨δ1, h1, h2⟩ := h x hx; ⟨δ1, h1, wt_yes.mpr ⟨rfl, rfl, fun _ => h2⟩⟩) (by rw [List.filter_eq_self.mpr fun _ _ => rfl]; exact q)
end

section
variable {α : Type} {bd : Tg} {ta : GT} {e : G} {δ : En} {M : Sto} {sa : GS}
/-- a comprehension that changes nothing, over things told by g -/
theorem wc_on (g : α → D) (p : α → Bool) (f : α → D) : ∀ {as : List α} {QI : List D → Sto → Prop}, (∀ a ∈ as, wpO1 (bd.bd (g a) δ) fun δ1 => wpT ta δ1 M fun b M' => b = p a ∧ M = M' ∧ (b = true → wpG e δ1 M fun w M' => frz w = some (f a) ∧ M = M')) → QI ((as.filter p).map f) M → wpC bd ta e δ (as.map g) M QI
  | [], QI, _, q => wc_nil.mpr q
  | x :: r, QI, h, q => by
    rw [List.map_cons, wc_cons]
    obtain ⟨δ1, h1, b, M', h2, hb, rfl, h3⟩ := h x List.mem_cons_self
    have hr := fun y hy => h y (List.mem_cons_of_mem _ hy)
    refine ⟨δ1, h1, b, _, h2, ?_⟩
    cases b with
    | false =>
      rw [if_neg Bool.false_ne_true]
      exact wc_on g p f hr (by rwa [List.filter_cons_of_neg (by rw [← hb]; exact Bool.false_ne_true)] at q)
    | true =>
      rw [if_pos rfl]
      obtain ⟨w, M2, h4, h5, rfl⟩ := h3 rfl
      rw [List.filter_cons_of_pos (by rw [← hb]), List.map_cons] at q
      exact ⟨w, _, h4, f x, h5, wc_on g p f (QI := fun zs M3 => QI (f x :: zs) M3) hr q⟩
/-- .. without a test -/
theorem wc_map (g : α → D) (f : α → D) {as : List α} {QI : List D → Sto → Prop} (h : ∀ a ∈ as, wpO1 (bd.bd (g a) δ) fun δ1 => wpG e δ1 M fun w M' => frz w = some (f a) ∧ M = M') (q : QI (as.map f) M) : wpC bd Mi.tYes e δ (as.map g) M QI :=
  wc_on g (fun _ => true) f (fun x hx => let ⟨δ1, h1, h2⟩ := h x hx; ⟨δ1, h1, wt_yes.mpr ⟨rfl, rfl, fun _ => h2⟩⟩) (by rw [List.filter_eq_self.mpr fun _ _ => rfl]; exact q)
/-- a comprehension whose turns change the store -/
theorem wc_st (g : α → D) (P : List α → List α → List D → Sto → Prop) (step : ∀ pre a post zs M, P pre (a :: post) zs M → wpO1 (bd.bd (g a) δ) fun δ1 => wpT ta δ1 M fun b M1 => if b = true then wpG e δ1 M1 fun w M2 => wpO1 (frz w) fun y => P (pre ++ [a]) post (zs ++ [y]) M2 else P (pre ++ [a]) post zs M1) :
    ∀ {post : List α} {pre : List α} {zs : List D} {M : Sto} {QI : List D → Sto → Prop}, P pre post zs M → (∀ pre zs' M', P pre [] (zs ++ zs') M' → QI zs' M') → wpC bd ta e δ (post.map g) M QI
  | [], pre, zs, M, QI, h, q => wc_nil.mpr (q pre [] M (by rwa [List.append_nil]))
  | a :: post, pre, zs, M, QI, h, q => by
    rw [List.map_cons, wc_cons]
    obtain ⟨δ1, h1, b, M1, h2, h3⟩ := step pre a post zs M h
    refine ⟨δ1, h1, b, M1, h2, ?_⟩
    cases b with
    | true =>
      rw [if_pos rfl] at h3 ⊢
      obtain ⟨w, M2, h4, y, h5, h6⟩ := h3
      exact ⟨w, M2, h4, y, h5, wc_st g P step h6 fun pre' zs' M' hp => q pre' (y :: zs') M' (by rwa [List.append_assoc] at hp)⟩
    | false =>
      rw [if_neg Bool.false_ne_true] at h3 ⊢
      exact wc_st g P step h3 q
/-- a loop by an invariant over things told by g: what is done, what is still to come -/
theorem wl_on (g : α → D) (P : List α → List α → En → Sto → Prop) {QS : Out → Prop} (step : ∀ pre a post δ M, P pre (a :: post) δ M → wpO1 (bd.bd (g a) δ) fun δ1 => wpS sa δ1 M fun o => match o with
      | .nx δ' M' => P (pre ++ [a]) post δ' M'
      | .ct δ' M' => P (pre ++ [a]) post δ' M'
      | .bk δ' M' => QS (.nx δ' M')
      | .rt w M' => QS (.rt w M')
      | .rs x M' => QS (.rs x M')) (fin : ∀ pre δ M, P pre [] δ M → QS (.nx δ M)) : ∀ {post pre : List α} {δ : En} {M : Sto}, P pre post δ M → wpL bd sa (post.map g) δ M QS
  | [], pre, δ, M, h => wl_nil.mpr (fin pre δ M h)
  | x :: r, pre, δ, M, h => by
    rw [List.map_cons, wl_cons]
    obtain ⟨δ1, h1, o, h2, q⟩ := step pre x r δ M h
    refine ⟨δ1, h1, o, h2, ?_⟩
    cases o with
    | nx δ' M' => exact wl_on g P step fin q
    | ct δ' M' => exact wl_on g P step fin q
    | bk δ' M' => exact q
    | rt w M' => exact q
    | rs x M' => exact q
end
/-! ### dict(pairs) of unlike keys -/
theorem any_key {κ : Type} [DecidableEq κ] {kv : List (κ × D)} {k : κ} (h : k ∉ kv.map (·.1)) : (kv.any fun p => decide (p.1 = k)) = false := by
  rw [List.any_eq_false]
  intro p hp e
  exact h (List.mem_map.mpr ⟨p, hp, by simpa using e⟩)
theorem mergeD_nd : ∀ (kv acc : List (Key × D)), ((acc ++ kv).map (·.1)).Nodup → mergeD acc kv = acc ++ kv
  | [], acc, _ => by simp [mergeD]
  | p :: r, acc, h => by
    have hp : p.1 ∉ acc.map (·.1) := fun hm => by
      rw [List.map_append, List.nodup_append] at h
      exact h.2.2 _ hm _ (by simp) rfl
    have e : putD acc p.1 p.2 = acc ++ [p] := by
      unfold putD
      rw [if_neg (by rw [any_key hp]; exact Bool.false_ne_true)]
    show mergeD (putD acc p.1 p.2) r = acc ++ p :: r
    rw [e, mergeD_nd r (acc ++ [p]) (by simpa using h)]
    simp
def kvOf (hs : List Hand) : List (Key × D) := hs.map fun h => (Sum.inr h.1, .tup [.int (h.2.1 : Nat), .int (h.2.2 : Nat)])
theorem pairsK_hands : ∀ hs : List Hand, pairsK (hs.map handD) = some (kvOf hs)
  | [] => rfl
  | h :: r => by
    show (pairK (handD h)).bind (fun q => (pairsK (r.map handD)).map fun l => q :: l) = _
    rw [pairsK_hands r]
    rfl
theorem dict_hands {hs : List Hand} {M : Sto} (nd : (hs.map (·.1)).Nodup) (hl : hs.length ≤ 1000) : dictPW [.d (.tpl (hs.map handD))] M = some (.fd (kvOf hs)) := by
  have e : mergeD [] (kvOf hs) = kvOf hs := by
    refine (mergeD_nd (kvOf hs) [] ?_).trans (List.nil_append _)
    have e2 : (kvOf hs).map (·.1) = (hs.map (·.1)).map (Sum.inr : Str → Key) := by
      unfold kvOf; rw [List.map_map, List.map_map]; rfl
    rw [List.nil_append, e2, List.Nodup, List.pairwise_map]
    exact nd.imp fun h e => h (Sum.inr.inj e)
  show (if (hs.map handD).length ≤ SZ then (pairsK (hs.map handD)).map fun kv => W.fd (mergeD [] kv) else none) = _
  rw [if_pos (by rw [List.length_map]; exact Nat.le_trans hl (by decide)), pairsK_hands, Option.map_some, e]
/-- a hand's sureness -/
def sureOf (hs : List Hand) (n : Str) : Nat × Nat := match hs.find? fun h => decide (h.1 = n) with
  | some h => h.2
  | none => (1, 2)
theorem find_kv (n : Str) : ∀ hs : List Hand, ((kvOf hs).find? fun p => decide (p.1 = Sum.inr n)).map (·.2) = (hs.find? fun h => decide (h.1 = n)).map fun h => D.tup [.int (h.2.1 : Nat), .int (h.2.2 : Nat)]
  | [] => rfl
  | h :: r => by
    have ih := find_kv n r
    unfold kvOf at ih ⊢
    simp only [List.map_cons, List.find?_cons]
    by_cases e : h.1 = n
    · simp [e]
    · simp only [Sum.inr.injEq, e, decide_false]
      exact ih
theorem ix_hands {hs : List Hand} {n : Str} {M : Sto} {b : Bool} (hn : n ∈ hs.map (·.1)) : ixW (.od b (kvOf hs)) (.d (.str n)) M = some (.d (.tup [.int ((sureOf hs n).1 : Nat), .int ((sureOf hs n).2 : Nat)])) := by
  rw [ixW_od, find_kv]
  unfold sureOf
  cases h : hs.find? fun h => decide (h.1 = n) with
  | some h => rfl
  | none =>
    rw [List.find?_eq_none] at h
    obtain ⟨x, hx, e⟩ := List.mem_map.mp hn
    exact absurd (by simpa using e) (h x hx)
theorem sure_ok {hs : List Hand} {n : Str} (ok : HandsOk hs) : 0 < (sureOf hs n).1 ∧ (sureOf hs n).1 < (sureOf hs n).2 ∧ (sureOf hs n).2 ≤ 10000 := by
  unfold sureOf
  cases h : hs.find? fun h => decide (h.1 = n) with
  | some x => exact ok.ok x (List.mem_of_find?_eq_some h)
  | none => exact ⟨by decide, by decide, by decide⟩
/-- a mark's weight by one answer, by all -/
def wgt (l : Nat) (hs : List Hand) (a : Str × Str) (m : Str) : Nat := if m = a.2 then (sureOf hs a.1).1 * (l - 1) else (sureOf hs a.1).2 - (sureOf hs a.1).1
def wOf (l : Nat) (hs : List Hand) (as : List (Str × Str)) (m : Str) : Nat := as.foldl (fun w a => w * wgt l hs a m) 1
theorem wgt_ok {l : Nat} {hs : List Hand} {a : Str × Str} {m : Str} (h : HandsOk hs) (h2 : 2 ≤ l) (h5 : l ≤ 5) : 0 < wgt l hs a m ∧ wgt l hs a m ≤ 40000 := by
  obtain ⟨h1, h3, h4⟩ := sure_ok (n := a.1) h
  unfold wgt
  split
  · refine ⟨Nat.mul_pos h1 (by omega), ?_⟩
    have := Nat.mul_le_mul (show (sureOf hs a.1).1 ≤ 10000 by omega) (show l - 1 ≤ 4 by omega)
    omega
  · omega
theorem wOf_snoc {l : Nat} {hs : List Hand} {as : List (Str × Str)} {a : Str × Str} {m : Str} : wOf l hs (as ++ [a]) m = wOf l hs as m * wgt l hs a m := by
  unfold wOf
  rw [List.foldl_append]
  rfl
theorem foldl_bd (f : Str × Str → Nat) (hf : ∀ a, 0 < f a ∧ f a ≤ 40000) : ∀ (as : List (Str × Str)) (w : Nat), 0 < w → 0 < as.foldl (fun w a => w * f a) w ∧ as.foldl (fun w a => w * f a) w ≤ w * 40000 ^ as.length
  | [], w, h => by simp [h]
  | a :: r, w, h => by
    have h1 := hf a
    have ih := foldl_bd f hf r (w * f a) (Nat.mul_pos h h1.1)
    refine ⟨ih.1, Nat.le_trans ih.2 ?_⟩
    rw [List.length_cons, Nat.pow_succ, Nat.mul_assoc, Nat.mul_comm (40000 ^ r.length)]
    exact Nat.mul_le_mul_left _ (Nat.mul_le_mul_right _ h1.2)
theorem wOf_ok {l : Nat} {hs : List Hand} {as : List (Str × Str)} {m : Str} (h : HandsOk hs) (h2 : 2 ≤ l) (h5 : l ≤ 5) (h8 : as.length ≤ 8) : 0 < wOf l hs as m ∧ wOf l hs as m ≤ 40000 ^ 8 := by
  have q := foldl_bd (fun a => wgt l hs a m) (fun a => wgt_ok h h2 h5) as 1 (by decide)
  refine ⟨q.1, Nat.le_trans q.2 ?_⟩
  rw [Nat.one_mul]
  exact Nat.pow_le_pow_right (by decide) h8
/-! ### equality -/
mutual
theorem deq_ok : ∀ (n : Nat) (x : D), x.ok n = true → deq x x = true
  | n, .non, _ => by unfold deq; rfl
  | n, .bl b, _ => by unfold deq; simp
  | n, .int i, _ => by unfold deq; simp
  | n, .str s, _ => by unfold deq; simp
  | 0, .tup _, h => by simp [D.ok] at h
  | 0, .tpl _, h => by simp [D.ok] at h
  | 0, .lst _, h => by simp [D.ok] at h
  | n + 1, .tup xs, h => by unfold deq; exact deqs_ok n xs (by simpa [D.ok] using h)
  | n + 1, .tpl xs, h => by unfold deq; exact deqs_ok n xs (by simpa [D.ok] using h)
  | n + 1, .lst xs, h => by unfold deq; exact deqs_ok n xs (by simpa [D.ok] using h)
  | n, .cel _, h => by simp [D.ok] at h
  | n, .rol _, h => by simp [D.ok] at h
  | n, .dic _, h => by simp [D.ok] at h
theorem deqs_ok : ∀ (n : Nat) (xs : List D), oks n xs = true → deqs xs xs = true
  | n, [], _ => by unfold deqs; rfl
  | n, x :: r, h => by
    have h' : x.ok n = true ∧ oks n r = true := by simpa [oks] using h
    unfold deqs
    rw [deq_ok n x h'.1, deqs_ok n r h'.2]
    rfl
end
theorem neW_tpl {xs : List D} {M : Sto} (h : oks 59 xs = true) : neW (.d (.tpl xs)) (.d (.tpl xs)) M = some (.d (.bl false)) := by
  show ((if (D.tpl xs).ok 60 && (D.tpl xs).ok 60 then some (deq (.tpl xs) (.tpl xs)) else none).map fun r => W.d (.bl !r)) = _
  have e : (D.tpl xs).ok 60 = true := by unfold D.ok; exact h
  rw [e, Bool.and_self, if_pos rfl, deq_ok 60 _ e]
  rfl
theorem neW_tup {xs : List D} {M : Sto} (h : oks 59 xs = true) : neW (.d (.tup xs)) (.d (.tup xs)) M = some (.d (.bl false)) := by
  show ((if (D.tup xs).ok 60 && (D.tup xs).ok 60 then some (deq (.tup xs) (.tup xs)) else none).map fun r => W.d (.bl !r)) = _
  have e : (D.tup xs).ok 60 = true := by unfold D.ok; exact h
  rw [e, Bool.and_self, if_pos rfl, deq_ok 60 _ e]
  rfl
theorem neW_plt {xs : List D} {M : Sto} (h : oks 59 xs = true) : neW (.d (.tpl xs)) (.d (.tup xs)) M = some (.d (.bl false)) := by
  show ((if (D.tpl xs).ok 60 && (D.tup xs).ok 60 then some (deq (.tpl xs) (.tup xs)) else none).map fun r => W.d (.bl !r)) = _
  have e : (D.tpl xs).ok 60 = true := by unfold D.ok; exact h
  have e2 : (D.tup xs).ok 60 = true := by unfold D.ok; exact h
  have e3 : deq (.tpl xs) (.tup xs) = true := by unfold deq; exact deqs_ok 59 xs h
  rw [e, e2, Bool.and_self, if_pos rfl, e3]
  rfl
theorem oks_rep {x : D} {n : Nat} (h : x.ok n = true) : ∀ k, oks n (List.replicate k x) = true
  | 0 => rfl
  | k + 1 => by
    rw [List.replicate_succ]
    show (x.ok n && oks n (List.replicate k x)) = true
    rw [h, oks_rep h k]
    rfl
theorem ran_mem {n : Nat} {x : D} (h : x ∈ rangeD 0 n) : ∃ j : Nat, j < n ∧ x = .int (j : Int) := by
  unfold rangeD at h
  obtain ⟨j, hj, rfl⟩ := List.mem_map.mp h
  exact ⟨j, List.mem_range.mp hj, by simp⟩
end Mi
/-! PSrt: what is sorted already stays; big products. -/
namespace Mi
open PySem L2
theorem sd_names {m : Bool} {xs : List D} (ok : okSP xs = true) (h : (xs.map pname).Pairwise fun a b => strLt a b = true) : Sd (ltDP m) xs := by
  have kk : ∀ x ∈ xs, ∃ y, pkeyD x = some (pname x, y) := fun x hx => by
    obtain ⟨⟨a, y⟩, h⟩ := Option.isSome_iff_exists.mp (List.all_eq_true.mp ok x hx)
    refine ⟨y, ?_⟩
    unfold pname
    rw [h]
  refine List.Pairwise.imp_of_mem (fun {x y} hx hy hlt => ?_) (List.pairwise_map.mp h)
  obtain ⟨u, e1⟩ := kk x hx
  obtain ⟨v, e2⟩ := kk y hy
  unfold ltDP
  rw [e1, e2]
  dsimp only
  rw [if_neg (fun e => by rw [e, strLt_irr] at hlt; cases hlt)]
  exact strLt_asy hlt
theorem names_nodup {l : List Str} (h : l.Pairwise fun a b => strLt a b = true) : l.Nodup := h.imp fun h e => by rw [e, strLt_irr] at h; cases h
/-- sorted(pairs) of rising names -/
theorem sortedW_id {w : W} {M : Sto} {xs : List D} (hv : vS M w = some xs) (ok : okSP xs = true) (h : (xs.map pname).Pairwise fun a b => strLt a b = true) : sortedW [w] M = some (.fr xs) := by
  unfold sortedW
  simp only [hv, Option.bind_some]
  rw [if_pos ok]
  split
  · rw [isort_id (sd_names ok h)]
  · rw [if_pos (names_nodup h), isort_id (sd_names ok h)]
theorem addW_pt {xs ys : List D} {M : Sto} : addW (.d (.tpl xs)) (.d (.tup ys)) M = if xs.length + ys.length ≤ SZ then some (.d (.tup (xs ++ ys))) else none := rfl
theorem addW_pp {xs ys : List D} {M : Sto} : addW (.d (.tpl xs)) (.d (.tpl ys)) M = if xs.length + ys.length ≤ SZ then some (.d (.tup (xs ++ ys))) else none := rfl
theorem addW_tt {xs ys : List D} {M : Sto} : addW (.d (.tup xs)) (.d (.tup ys)) M = if xs.length + ys.length ≤ SZ then some (.d (.tup (xs ++ ys))) else none := rfl
theorem pname_hand {h : Hand} : pname (handD h) = h.1 := rfl
theorem pname_ans {a : Str × Str} : pname (ansD a) = a.1 := rfl
theorem okSP_hands (hs : List Hand) : okSP (hs.map handD) = true := by
  unfold okSP
  rw [List.all_eq_true]
  intro x hx
  obtain ⟨h, _, rfl⟩ := List.mem_map.mp hx
  rfl
theorem okSP_ans (as : List (Str × Str)) : okSP (as.map ansD) = true := by
  unfold okSP
  rw [List.all_eq_true]
  intro x hx
  obtain ⟨h, _, rfl⟩ := List.mem_map.mp hx
  rfl
theorem names8_rise : names8.Pairwise fun a b => strLt a b = true := by decide
theorem lt_BIGp {n : Nat} (k : Nat) (h : n ≤ 2 ^ k) (hk : k < 4000) : n < BIG := Nat.lt_of_le_of_lt h (Nat.pow_lt_pow_right (by decide) hk)
theorem eqW_tpl {xs : List D} {M : Sto} (h : oks 59 xs = true) : eqW (.d (.tpl xs)) (.d (.tpl xs)) M = some (.d (.bl true)) := by
  show ((if (D.tpl xs).ok 60 && (D.tpl xs).ok 60 then some (deq (.tpl xs) (.tpl xs)) else none).map fun r => W.d (.bl r)) = _
  have e : (D.tpl xs).ok 60 = true := by unfold D.ok; exact h
  rw [e, Bool.and_self, if_pos rfl, deq_ok 60 _ e]
  rfl
/-- marks called otherwise: weights stay -/
theorem wOf_map {l : Nat} {hs : List Hand} (f : Str → Str) (hf : ∀ x y, f x = f y → x = y) (as : List (Str × Str)) (m : Str) : wOf l hs (as.map fun a => (a.1, f a.2)) (f m) = wOf l hs as m := by
  unfold wOf
  rw [List.foldl_map]
  congr 1
  funext w a
  unfold wgt
  by_cases e : m = a.2
  · rw [if_pos e, if_pos (by rw [e])]
  · rw [if_neg e, if_neg (fun q => e (hf _ _ q))]
theorem dStrs_map : ∀ ss : List Str, dStrs (ss.map .str) = some ss
  | [] => rfl
  | s :: r => by
    show (dStrs (r.map .str)).map (fun l => s :: l) = _
    rw [dStrs_map r]
    rfl
end Mi
/-! PAny: things of any kind, within bounds. -/
namespace Mi
open PySem L2
mutual
/-- lists and tuples of at most l things, texts of at most t ASCII signs, numbers within b, at most so deep -/
def fit (l t b : Nat) : Nat → D → Bool
  | _, .non => true
  | _, .bl _ => true
  | _, .int i => decide (i.natAbs ≤ b)
  | _, .str s => decide (s.length ≤ t) && s.cps.all (· < 128)
  | 0, .tup _ => false
  | 0, .tpl _ => false
  | 0, .lst _ => false
  | n + 1, .tup xs => decide (xs.length ≤ l) && fits l t b n xs
  | n + 1, .tpl xs => decide (xs.length ≤ l) && fits l t b n xs
  | n + 1, .lst xs => decide (xs.length ≤ l) && fits l t b n xs
  | _, .cel _ => false
  | _, .rol _ => false
  | _, .dic _ => false
def fits (l t b : Nat) : Nat → List D → Bool
  | _, [] => true
  | n, x :: r => fit l t b n x && fits l t b n r
end
section
variable {l t b l' t' b' : Nat}
theorem fits_iff : ∀ {n : Nat} {xs : List D}, fits l t b n xs = true ↔ ∀ x ∈ xs, fit l t b n x = true
  | n, [] => by simp [fits]
  | n, x :: r => by
    unfold fits
    rw [Bool.and_eq_true, fits_iff (xs := r)]
    simp
mutual
theorem fit_mono (hl : l ≤ l') (ht : t ≤ t') (hb : b ≤ b') : ∀ {n m : Nat} {x : D}, n ≤ m → fit l t b n x = true → fit l' t' b' m x = true
  | n, m, .non, _, _ => by unfold fit; rfl
  | n, m, .bl _, _, _ => by unfold fit; rfl
  | n, m, .int i, _, h => by
    unfold fit at h ⊢
    simp only [decide_eq_true_eq] at h ⊢
    omega
  | n, m, .str s, _, h => by
    unfold fit at h ⊢
    simp only [Bool.and_eq_true, decide_eq_true_eq] at h ⊢
    exact ⟨by omega, h.2⟩
  | 0, m, .tup _, _, h => by unfold fit at h; cases h
  | 0, m, .tpl _, _, h => by unfold fit at h; cases h
  | 0, m, .lst _, _, h => by unfold fit at h; cases h
  | n + 1, 0, .tup _, h, _ => by omega
  | n + 1, 0, .tpl _, h, _ => by omega
  | n + 1, 0, .lst _, h, _ => by omega
  | n + 1, m + 1, .tup xs, k, h => by
    unfold fit at h ⊢
    simp only [Bool.and_eq_true, decide_eq_true_eq] at h ⊢
    exact ⟨by omega, fits_mono hl ht hb (by omega) h.2⟩
  | n + 1, m + 1, .tpl xs, k, h => by
    unfold fit at h ⊢
    simp only [Bool.and_eq_true, decide_eq_true_eq] at h ⊢
    exact ⟨by omega, fits_mono hl ht hb (by omega) h.2⟩
  | n + 1, m + 1, .lst xs, k, h => by
    unfold fit at h ⊢
    simp only [Bool.and_eq_true, decide_eq_true_eq] at h ⊢
    exact ⟨by omega, fits_mono hl ht hb (by omega) h.2⟩
  | n, m, .cel _, _, h => by unfold fit at h; cases h
  | n, m, .rol _, _, h => by unfold fit at h; cases h
  | n, m, .dic _, _, h => by unfold fit at h; cases h
theorem fits_mono (hl : l ≤ l') (ht : t ≤ t') (hb : b ≤ b') : ∀ {n m : Nat} {xs : List D}, n ≤ m → fits l t b n xs = true → fits l' t' b' m xs = true
  | n, m, [], _, _ => by unfold fits; rfl
  | n, m, x :: r, k, h => by
    unfold fits at h ⊢
    simp only [Bool.and_eq_true] at h ⊢
    exact ⟨fit_mono hl ht hb k h.1, fits_mono hl ht hb k h.2⟩
end
theorem asc_ok {s : Str} (h : s.cps.all (· < 128) = true) : s.cps.all (· < 0x110000) = true := by
  rw [Array.all_eq_true] at h ⊢
  intro i hi
  have := h i hi
  simp only [decide_eq_true_eq] at this ⊢
  omega
mutual
theorem fit_ok : ∀ {n : Nat} {x : D}, fit l t b n x = true → x.ok n = true
  | n, .non, _ => by unfold D.ok; rfl
  | n, .bl _, _ => by unfold D.ok; rfl
  | n, .int i, _ => by unfold D.ok; rfl
  | n, .str s, h => by
    unfold fit at h
    unfold D.ok
    simp only [Bool.and_eq_true, decide_eq_true_eq] at h
    exact asc_ok h.2
  | 0, .tup _, h => by unfold fit at h; cases h
  | 0, .tpl _, h => by unfold fit at h; cases h
  | 0, .lst _, h => by unfold fit at h; cases h
  | n + 1, .tup xs, h => by
    unfold fit at h
    unfold D.ok
    simp only [Bool.and_eq_true, decide_eq_true_eq] at h
    exact fits_ok h.2
  | n + 1, .tpl xs, h => by
    unfold fit at h
    unfold D.ok
    simp only [Bool.and_eq_true, decide_eq_true_eq] at h
    exact fits_ok h.2
  | n + 1, .lst xs, h => by
    unfold fit at h
    unfold D.ok
    simp only [Bool.and_eq_true, decide_eq_true_eq] at h
    exact fits_ok h.2
  | n, .cel _, h => by unfold fit at h; cases h
  | n, .rol _, h => by unfold fit at h; cases h
  | n, .dic _, h => by unfold fit at h; cases h
theorem fits_ok : ∀ {n : Nat} {xs : List D}, fits l t b n xs = true → oks n xs = true
  | n, [], _ => by unfold oks; rfl
  | n, x :: r, h => by
    unfold fits at h
    unfold oks
    simp only [Bool.and_eq_true] at h ⊢
    exact ⟨fit_ok h.1, fits_ok h.2⟩
end
end
theorem ok_mono : ∀ {m n : Nat} {x : D}, n ≤ m → x.ok n = true → x.ok m = true
  | 0, n, x, h, k => by
    have : n = 0 := by omega
    subst this; exact k
  | m + 1, n, x, h, k => by
    by_cases e : n = m + 1
    · subst e; exact k
    · exact ok_up (ok_mono (by omega) k)
theorem oks_mono : ∀ {m n : Nat} {xs : List D}, n ≤ m → oks n xs = true → oks m xs = true
  | 0, n, x, h, k => by
    have : n = 0 := by omega
    subst this; exact k
  | m + 1, n, x, h, k => by
    by_cases e : n = m + 1
    · subst e; exact k
    · exact oks_up (oks_mono (by omega) k)
/-! ### texts -/
theorem up_ascii : ∀ c : Fin 128, (Unicode.upperOf c).all (· < 128) = true := by decide +kernel
theorem asc_upper {s : Str} (h : s.cps.all (· < 128) = true) : (Txt.upper s).cps.all (· < 128) = true := by
  show (placed s fun _ c => Unicode.upperOf c).all (· < 128) = true
  unfold placed
  rw [← Array.all_toList, Array.toList_flatten, List.all_eq_true]
  intro c hc
  rw [List.mem_flatten] at hc
  obtain ⟨l, hl, hc⟩ := hc
  rw [List.mem_map] at hl
  obtain ⟨a, ha, rfl⟩ := hl
  rw [Array.toList_mapIdx, List.mem_mapIdx] at ha
  obtain ⟨i, hi, rfl⟩ := ha
  rw [Array.length_toList] at hi
  have q := (Array.all_eq_true.mp h) i hi
  simp only [decide_eq_true_eq] at q
  have z := up_ascii ⟨s.cps[i], q⟩
  rw [List.all_eq_true] at z
  exact z c (by simpa using hc)
theorem up_one : ∀ c : Fin 128, (Unicode.upperOf c).length = 1 := by decide +kernel
theorem len_upper_asc {s : Str} (h : s.cps.all (· < 128) = true) : (Txt.upper s).length = s.length := by
  show (placed s fun _ c => Unicode.upperOf c).size = s.cps.size
  unfold placed
  rw [Array.size_flatten]
  have e : (s.cps.mapIdx fun i c => (Unicode.upperOf c).toArray).map Array.size = Array.replicate s.cps.size 1 := by
    apply Array.ext
    · simp
    · intro i h1 h2
      have hi : i < s.cps.size := by simpa using h1
      have q := (Array.all_eq_true.mp h) i hi
      simp only [decide_eq_true_eq] at q
      have z := up_one ⟨s.cps[i], q⟩
      simpa using z
  rw [e]
  simp
theorem asc_append {x y : Str} (h : x.cps.all (· < 128) = true) (k : y.cps.all (· < 128) = true) : (x ++ y).cps.all (· < 128) = true := by
  show (x.cps ++ y.cps).all (· < 128) = true
  rw [Array.all_append, h, k]
  rfl
theorem str_append_len (x y : Str) : (x ++ y).length = x.length + y.length := by
  show (x.cps ++ y.cps).size = _
  rw [Array.size_append]
  rfl
end Mi
/-! what the functions of K14 compute -/
namespace K14
open Mi PySem
/- is_whole: 0 thing -/
def b_is_whole : GS := (sRet (gAnd (gUn (isiW isInt) (gVar 0)) (gNot (gUn (isiW isBool) (gVar 0)))))
def g_is_whole : Fn := mkFn 1 1 b_is_whole
/- is_within: 0 thing, 1 least, 2 most -/
def b_is_within : GS := (sRet (gAnd (gCall g_is_whole (aCons (gVar 0) aNil)) (gChain leW leW (gVar 1) (gVar 0) (gVar 2))))
def g_is_within : Fn := mkFn 3 3 b_is_within
/- is_name: 0 thing, 1 sign -/
def b_is_name : GS := (sRet (gAnd (gUn (isiW isStr) (gVar 0)) (gAnd (gChain leW leW (gC (.int 1)) (gBlt lenW (aCons (gVar 0) aNil)) (gC (.int 8))) (gBlt allW (aCons (gComp (iIt (gVar 0)) (.nm 1) Mi.tYes (gBin inW (gVar 1) (gC (.str "abcdefghijklmnopqrstuvwxyz"))) [1]) aNil)))))
def g_is_name : Fn := mkFn 1 2 b_is_name
/- are_rising: 0 some, 1 one, 2 other -/
def b_are_rising : GS := (sRet (gBlt allW (aCons (gComp (iZip (gVar 0) (gSl (gVar 0) (oSome (gC (.int 1))) oNone)) (.tp [1, 2]) Mi.tYes (gBin ltQ (gVar 1) (gVar 2)) [1, 2]) aNil)))
def g_are_rising : Fn := mkFn 1 3 b_are_rising
/- lowest: 0 top, 1 bottom, 2 one, 3 other -/
def b_lowest : GS := (sSeq (sPar [2, 3] (aCons (gVar 0) (aCons (gVar 1) aNil)))
  (sSeq (sWhile (fun δ => fuelW δ 3 + 1) (tV (gBin gtW (gVar 3) (gC (.int 0)))) (sPar [2, 3] (aCons (gVar 3) (aCons (gBin modW (gVar 2) (gVar 3)) aNil))))
  (sRet (gTup (aCons (gBin fdvW (gVar 0) (gVar 2)) (aCons (gBin fdvW (gVar 1) (gVar 2)) aNil))))))
def g_lowest : Fn := mkFn 2 4 b_lowest
/- are_marks: 0 thing, 1 one -/
def b_are_marks : GS := (sSeq (sIf (tOr (tNot (tV (gUn (isiW isTup) (gVar 0)))) (tNot (tV (gChain leW leW (gC (.int 2)) (gBlt lenW (aCons (gVar 0) aNil)) (gC (.int 5)))))) (sRet (gC (.bl false))) sNext)
  (sRet (gAnd (gBlt allW (aCons (gComp (iIt (gVar 0)) (.nm 1) Mi.tYes (gCall g_is_name (aCons (gVar 1) aNil)) [1]) aNil)) (gCall g_are_rising (aCons (gVar 0) aNil)))))
def g_are_marks : Fn := mkFn 1 2 b_are_marks
/- sure_by: 0 right, 1 seen -/
def b_sure_by : GS := (sRet (gCall g_lowest (aCons (gBin addW (gVar 0) (gC (.int 1))) (aCons (gBin addW (gVar 1) (gC (.int 2))) aNil))))
def g_sure_by : Fn := mkFn 2 2 b_sure_by
/- weights: 0 marks, 1 hands, 2 answers, 3 sure, 4 found, 5 mark, 6 name, 7 told, 8 top, 9 bottom, 10 at -/
def b_weights : GS := (sSeq (sOwn 3 (gBlt dictAW (aCons (gVar 1) aNil)))
  (sSeq (sOwn 4 (gComp (iIt (gVar 0)) (.nm 5) Mi.tYes (gC (.int 1)) [5]))
  (sSeq (sFor (iIt (gVar 2)) (.tp [6, 7]) (sSeq (sUnp [8, 9] (gBin ixW (gVar 3) (gVar 6)))
  (sFor (iEnum (gVar 0)) (.tp [10, 5]) (sAugO 4 iMul (gVar 10) (gIf (tV (gBin eqW (gVar 5) (gVar 7))) (gBin mulW (gVar 8) (gBin subW (gBlt lenW (aCons (gVar 0) aNil)) (gC (.int 1)))) (gBin subW (gVar 9) (gVar 8)))))))
  (sRet (gVar 4)))))
def g_weights : Fn := mkFn 3 11 b_weights
/- shares: 0 marks, 1 hands, 2 answers, 3 some, 4 one -/
def b_shares : GS := (sSeq (sAsg 3 (gCall g_weights (aCons (gVar 0) (aCons (gVar 1) (aCons (gVar 2) aNil)))))
  (sRet (gBlt tuplePW (aCons (gComp (iIt (gVar 3)) (.nm 4) Mi.tYes (gCall g_lowest (aCons (gVar 4) (aCons (gBlt sumW (aCons (gVar 3) aNil)) aNil))) [4]) aNil))))
def g_shares : Fn := mkFn 3 5 b_shares
/- first_mark: 0 marks, 1 hands, 2 answers, 3 some -/
def b_first_mark : GS := (sSeq (sAsg 3 (gCall g_weights (aCons (gVar 0) (aCons (gVar 1) (aCons (gVar 2) aNil)))))
  (sRet (gBin ixW (gVar 0) (gMtT tyL indexW (gVar 3) (aCons (gBlt maxW (aCons (gVar 3) aNil)) aNil)))))
def g_first_mark : Fn := mkFn 3 4 b_first_mark
/- is_turn: 0 marks, 1 hands, 2 answers, 3 left, 4 thing, 5 pair, 6 names, 7 one, 8 other -/
def b_is_turn : GS := (sSeq (sIf (tNot (tV (gUn (isiW isTup) (gVar 4)))) (sRet (gC (.bl false))) sNext)
  (sSeq (sFor (iIt (gVar 4)) (.nm 5) (sSeq (sIf (tOr (tNot (tV (gUn (isiW isTup) (gVar 5)))) (tOr (tV (gBin neW (gBlt lenW (aCons (gVar 5) aNil)) (gC (.int 2)))) (tOr (tNot (tV (gCall g_is_name (aCons (gBin ixW (gVar 5) (gC (.int 0))) aNil)))) (tV (gBin notInW (gBin ixW (gVar 5) (gC (.int 0))) (gVar 3)))))) (sRet (gC (.bl false))) sNext)
  (sIf (tOr (tNot (tV (gUn (isiW isStr) (gBin ixW (gVar 5) (gC (.int 1)))))) (tV (gBin notInW (gBin ixW (gVar 5) (gC (.int 1))) (gVar 0)))) (sRet (gC (.bl false))) sNext)))
  (sSeq (sAsg 6 (gComp (iIt (gVar 4)) (.nm 5) Mi.tYes (gBin ixW (gVar 5) (gC (.int 0))) [5]))
  (sSeq (sIf (tNot (tV (gBlt allW (aCons (gComp (iZip (gVar 6) (gSl (gVar 6) (oSome (gC (.int 1))) oNone)) (.tp [7, 8]) Mi.tYes (gBin ltQ (gVar 7) (gVar 8)) [7, 8]) aNil)))) (sRet (gC (.bl false))) sNext)
  (sRet (gBin neW (gCall g_first_mark (aCons (gVar 0) (aCons (gVar 1) (aCons (gBin addW (gVar 2) (gVar 4)) aNil)))) (gCall g_first_mark (aCons (gVar 0) (aCons (gVar 1) (aCons (gVar 2) aNil))))))))))
def g_is_turn : Fn := mkFn 5 9 b_is_turn
/- pulls: 0 marks, 1 hands, 2 left, 3 sure, 4 found, 5 name, 6 top, 7 bottom, 8 own, 9 other -/
def b_pulls : GS := (sSeq (sOwn 3 (gBlt dictAW (aCons (gVar 1) aNil)))
  (sSeq (sOwn 4 (gLst aNil))
  (sSeq (sFor (iIt (gVar 2)) (.nm 5) (sSeq (sUnp [6, 7] (gBin ixW (gVar 3) (gVar 5)))
  (sSeq (sPar [8, 9] (aCons (gBin mulW (gVar 6) (gBin subW (gBlt lenW (aCons (gVar 0) aNil)) (gC (.int 1)))) (aCons (gBin subW (gVar 7) (gVar 6)) aNil)))
  (sApp 4 (gTup (aCons (gBlt maxW (aCons (gVar 8) (aCons (gVar 9) aNil))) (aCons (gBlt minW (aCons (gVar 8) (aCons (gVar 9) aNil))) aNil)))))))
  (sRet (gVar 4)))))
def g_pulls : Fn := mkFn 3 10 b_pulls
/- can_with: 0 marks, 1 hands, 2 answers, 3 pairs, 4 left, 5 many, 6 first, 7 some, 8 best, 9 chosen, 10 turn, 11 top, 12 one, 13 at, 14 mine, 15 firsts, 16 bottom -/
def b_can_with : GS := (sSeq (sAsg 6 (gMtT tyP indexPW (gVar 0) (aCons (gCall g_first_mark (aCons (gVar 0) (aCons (gVar 1) (aCons (gVar 2) aNil)))) aNil)))
  (sSeq (sAsg 7 (gCall g_weights (aCons (gVar 0) (aCons (gVar 1) (aCons (gBin addW (gVar 2) (gVar 3)) aNil)))))
  (sSeq (sAsg 8 (gCel (gCall g_pulls (aCons (gVar 0) (aCons (gVar 1) (aCons (gVar 4) aNil))))))
  (sSeq (sOwn 9 (gLst aNil))
  (sSeq (sFor (iRan1 (gBlt minW (aCons (gVar 5) (aCons (gBlt lenW (aCons (gVar 8) aNil)) aNil)))) (.nm 10) (sSeq (sAsg 11 (gBin ixW (gVar 8) (gC (.int 0))))
  (sSeq (sForC 100 (gVar 8) (.nm 12) (sIf (tV (gBin gtW (gBin mulW (gBin ixW (gVar 12) (gC (.int 0))) (gBin ixW (gVar 11) (gC (.int 1)))) (gBin mulW (gBin ixW (gVar 11) (gC (.int 0))) (gBin ixW (gVar 12) (gC (.int 1)))))) (sAsg 11 (gVar 12)) sNext))
  (sSeq (sRemC (gVar 8) (gVar 11))
  (sApp 9 (gVar 11))))))
  (sSeq (sFor (iEnum (gVar 7)) (.tp [13, 12]) (sSeq (sPar [14, 15] (aCons (gVar 12) (aCons (gBin ixW (gVar 7) (gVar 6)) aNil)))
  (sSeq (sFrz 9 (sFor (iIt (gVar 9)) (.tp [11, 16]) (sPar [14, 15] (aCons (gBin mulW (gVar 14) (gVar 11)) (aCons (gBin mulW (gVar 15) (gVar 16)) aNil)))))
  (sIf (tAnd (tV (gBin neW (gVar 13) (gVar 6))) (tOr (tV (gBin gtW (gVar 14) (gVar 15))) (tAnd (tV (gBin eqW (gVar 14) (gVar 15))) (tV (gBin ltQ (gVar 13) (gVar 6)))))) (sRet (gC (.bl true))) sNext))))
  (sRet (gC (.bl false)))))))))
def g_can_with : Fn := mkFn 6 17 b_can_with
/- fewest_turn: 0 marks, 1 hands, 2 answers, 3 left, 4 many, 5 pairs, 6 at, 7 name, 8 more, 9 good, 10 mark -/
def b_fewest_turn : GS := (sSeq (sAsg 4 (gC (.int 0)))
  (sSeq (sWhile (fun δ => 40) (tAnd (tV (gBin leW (gVar 4) (gBlt lenW (aCons (gVar 3) aNil)))) (tNot (tV (gCall g_can_with (aCons (gVar 0) (aCons (gVar 1) (aCons (gVar 2) (aCons (gTup aNil) (aCons (gVar 3) (aCons (gVar 4) aNil)))))))))) (sAugN 4 iAdd (gC (.int 1))))
  (sSeq (sIf (tV (gBin gtW (gVar 4) (gBlt lenW (aCons (gVar 3) aNil)))) (sRet (gC .non)) sNext)
  (sSeq (sAsg 5 (gTup aNil))
  (sSeq (sFor (iEnum (gVar 3)) (.tp [6, 7]) (sSeq (sAsg 8 (gBin subW (gBin subW (gVar 4) (gBlt lenW (aCons (gVar 5) aNil))) (gC (.int 1))))
  (sSeq (sAsg 9 (gComp (iIt (gVar 0)) (.nm 10) (tV (gCall g_can_with (aCons (gVar 0) (aCons (gVar 1) (aCons (gVar 2) (aCons (gBin addW (gVar 5) (gTup (aCons (gTup (aCons (gVar 7) (aCons (gVar 10) aNil))) aNil))) (aCons (gSl (gVar 3) (oSome (gBin addW (gVar 6) (gC (.int 1)))) oNone) (aCons (gVar 8) aNil)))))))) (gVar 10) [10]))
  (sIf (tAnd (tV (gBin geW (gVar 8) (gC (.int 0)))) (tV (gBin neW (gVar 9) (gLst aNil)))) (sAsg 5 (gBin addW (gVar 5) (gTup (aCons (gTup (aCons (gVar 7) (aCons (gBin ixW (gVar 9) (gC (.int 0))) aNil))) aNil)))) sNext))))
  (sRet (gVar 5)))))))
def g_fewest_turn : Fn := mkFn 4 11 b_fewest_turn
/- settled: 0 marks, 1 hands, 2 answers, 3 left, 4 bound, 5 first, 6 top, 7 bottom -/
def b_settled : GS := (sSeq (sAsg 5 (gCall g_first_mark (aCons (gVar 0) (aCons (gVar 1) (aCons (gVar 2) aNil)))))
  (sSeq (sUnp [6, 7] (gBin ixW (gCall g_shares (aCons (gVar 0) (aCons (gVar 1) (aCons (gVar 2) aNil)))) (gMtT tyP indexPW (gVar 0) (aCons (gVar 5) aNil))))
  (sSeq (sIf (tOr (tV (gBin ltQ (gBin mulW (gVar 6) (gBin ixW (gVar 4) (gC (.int 1)))) (gBin mulW (gBin ixW (gVar 4) (gC (.int 0))) (gVar 7)))) (tV (gCall g_can_with (aCons (gVar 0) (aCons (gVar 1) (aCons (gVar 2) (aCons (gTup aNil) (aCons (gVar 3) (aCons (gBlt lenW (aCons (gVar 3) aNil)) aNil))))))))) (sRet (gC .non)) sNext)
  (sRet (gVar 5)))))
def g_settled : Fn := mkFn 5 8 b_settled
/- agreement: 0 one, 1 other, 2 both, 3 thing, 4 many, 5 like, 6 chance, 7 mark, 8 ones, 9 others, 10 top, 11 bottom -/
def b_agreement : GS := (sSeq (sAsg 2 (gComp (iIt (gVar 0)) (.nm 3) (tV (gBin inW (gVar 3) (gVar 1))) (gVar 3) [3]))
  (sSeq (sAsg 4 (gBlt lenW (aCons (gVar 2) aNil)))
  (sSeq (sIf (tV (gBin eqW (gVar 4) (gC (.int 0)))) (sRet (gC .non)) sNext)
  (sSeq (sAsg 5 (gBlt lenW (aCons (gComp (iIt (gVar 2)) (.nm 3) (tV (gBin eqW (gBin ixW (gVar 0) (gVar 3)) (gBin ixW (gVar 1) (gVar 3)))) (gVar 3) [3]) aNil)))
  (sSeq (sAsg 6 (gC (.int 0)))
  (sSeq (sFor (iIt (gDic (gDComp (iIt (gVar 2)) (.nm 3) Mi.tYes (gBin ixW (gVar 0) (gVar 3)) (gC (.bl true)) [3]))) (.nm 7) (sSeq (sAsg 8 (gBlt lenW (aCons (gComp (iIt (gVar 2)) (.nm 3) (tV (gBin eqW (gBin ixW (gVar 0) (gVar 3)) (gVar 7))) (gVar 3) [3]) aNil)))
  (sSeq (sAsg 9 (gBlt lenW (aCons (gComp (iIt (gVar 2)) (.nm 3) (tV (gBin eqW (gBin ixW (gVar 1) (gVar 3)) (gVar 7))) (gVar 3) [3]) aNil)))
  (sAugN 6 iAdd (gBin mulW (gVar 8) (gVar 9))))))
  (sSeq (sPar [10, 11] (aCons (gBin subW (gBin mulW (gVar 5) (gVar 4)) (gVar 6)) (aCons (gBin subW (gBin mulW (gVar 4) (gVar 4)) (gVar 6)) aNil)))
  (sSeq (sIf (tV (gBin eqW (gVar 11) (gC (.int 0)))) (sRet (gC .non)) sNext)
  (sSeq (sIf (tV (gBin eqW (gVar 10) (gC (.int 0)))) (sRet (gTup (aCons (gC (.int 0)) (aCons (gTup (aCons (gC (.int 0)) (aCons (gC (.int 1)) aNil))) aNil)))) sNext)
  (sRet (gIf (tV (gBin gtW (gVar 10) (gC (.int 0)))) (gTup (aCons (gC (.int 1)) (aCons (gCall g_lowest (aCons (gVar 10) (aCons (gVar 11) aNil))) aNil))) (gTup (aCons (gBin subW (gC (.int 0)) (gC (.int 1))) (aCons (gCall g_lowest (aCons (gBin subW (gC (.int 0)) (gVar 10)) (aCons (gVar 11) aNil))) aNil))))))))))))))
def g_agreement : Fn := mkFn 2 12 b_agreement
/- lots: 0 some, 1 many, 2 found, 3 at, 4 one, 5 lot -/
def b_lots (self : Fn) : GS := (sSeq (sIf (tV (gBin eqW (gVar 1) (gC (.int 0)))) (sRet (gLst (aCons (gTup aNil) aNil))) sNext)
  (sSeq (sAsg 2 (gLst aNil))
  (sSeq (sFor (iEnum (gVar 0)) (.tp [3, 4]) (sAsg 2 (gBin addW (gVar 2) (gComp (iIt (gCall self (aCons (gSl (gVar 0) (oSome (gBin addW (gVar 3) (gC (.int 1)))) oNone) (aCons (gBin subW (gVar 1) (gC (.int 1))) aNil)))) (.nm 5) Mi.tYes (gBin addW (gTup (aCons (gVar 4) aNil)) (gVar 5)) [5]))))
  (sRet (gVar 2)))))
def g_lots : Nat → Fn
  | 0 => mkFn 2 6 sVoid
  | n + 1 => mkFn 2 6 (b_lots (g_lots n))
/- reach: 0 most, 1 bars, 2 lot, 3 one, 4 hand, 5 number -/
def b_reach : GS := (sRet (gBlt sumW (aCons (gComp (iIt (gVar 0)) (.tp [4, 5]) Mi.tYes (gBlt minW (aCons (gVar 5) (aCons (gBlt lenW (aCons (gComp (iIt (gVar 2)) (.nm 3) (tV (gBin notInW (gTup (aCons (gVar 4) (aCons (gVar 3) aNil))) (gVar 1))) (gVar 3) [3]) aNil)) aNil))) [4, 5]) aNil)))
def g_reach : Fn := mkFn 3 6 b_reach
/- lack: 0 things, 1 most, 2 bars, 3 many, 4 size, 5 lot -/
def b_lack : GS := (sSeq (sFor (iRan2 (gC (.int 1)) (gBin addW (gBlt lenW (aCons (gVar 0) aNil)) (gC (.int 1)))) (.nm 4) (sFor (iIt (gCall (g_lots 10) (aCons (gVar 0) (aCons (gVar 4) aNil)))) (.nm 5) (sIf (tV (gBin ltQ (gCall g_reach (aCons (gVar 1) (aCons (gVar 2) (aCons (gVar 5) aNil)))) (gBin mulW (gVar 3) (gVar 4)))) (sRet (gVar 5)) sNext)))
  (sRet (gC .non)))
def g_lack : Fn := mkFn 4 6 b_lack
/- is_lack: 0 things, 1 most, 2 bars, 3 many, 4 thing, 5 one -/
def b_is_lack : GS := (sSeq (sIf (tOr (tNot (tV (gUn (isiW isTup) (gVar 4)))) (tNot (tV (gBlt allW (aCons (gComp (iIt (gVar 4)) (.nm 5) Mi.tYes (gAnd (gCall g_is_name (aCons (gVar 5) aNil)) (gBin inW (gVar 5) (gVar 0))) [5]) aNil))))) (sRet (gC (.bl false))) sNext)
  (sRet (gAnd (gCall g_are_rising (aCons (gVar 4) aNil)) (gBin ltQ (gCall g_reach (aCons (gVar 1) (aCons (gVar 2) (aCons (gVar 4) aNil)))) (gBin mulW (gVar 3) (gBlt lenW (aCons (gVar 4) aNil)))))))
def g_is_lack : Fn := mkFn 5 6 b_is_lack
/- dealing: 0 things, 1 most, 2 bars, 3 many, 4 found, 5 left, 6 at, 7 one, 8 free, 9 hand, 10 number, 11 lot, 12 rest -/
def b_dealing : GS := (sSeq (sIf (tV (gBin isNotW (gCall g_lack (aCons (gVar 0) (aCons (gVar 1) (aCons (gVar 2) (aCons (gVar 3) aNil))))) (gC .non))) (sRet (gC .non)) sNext)
  (sSeq (sAsg 4 (gTup aNil))
  (sSeq (sAsg 5 (gVar 1))
  (sSeq (sFor (iEnum (gVar 0)) (.tp [6, 7]) (sSeq (sAsg 8 (gComp (iIt (gVar 5)) (.tp [9, 10]) (tAnd (tV (gBin gtW (gVar 10) (gC (.int 0)))) (tV (gBin notInW (gTup (aCons (gVar 9) (aCons (gVar 7) aNil))) (gVar 2)))) (gVar 9) [9, 10]))
  (sFor (iIt (gCall (g_lots 10) (aCons (gVar 8) (aCons (gVar 3) aNil)))) (.nm 11) (sSeq (sAsg 12 (gBlt tuplePW (aCons (gComp (iIt (gVar 5)) (.tp [9, 10]) Mi.tYes (gTup (aCons (gVar 9) (aCons (gBin subW (gVar 10) (gBlt intW (aCons (gBin inW (gVar 9) (gVar 11)) aNil))) aNil))) [9, 10]) aNil)))
  (sIf (tV (gBin isNonW (gCall g_lack (aCons (gSl (gVar 0) (oSome (gBin addW (gVar 6) (gC (.int 1)))) oNone) (aCons (gVar 12) (aCons (gVar 2) (aCons (gVar 3) aNil))))) (gC .non))) (sSeq (sAsg 4 (gBin addW (gVar 4) (gBlt tuplePW (aCons (gComp (iIt (gVar 11)) (.nm 9) Mi.tYes (gTup (aCons (gVar 7) (aCons (gVar 9) aNil))) [9]) aNil))))
  (sSeq (sAsg 5 (gVar 12))
  sBrk)) sNext)))))
  (sRet (gVar 4))))))
def g_dealing : Fn := mkFn 4 13 b_dealing
/- is_bound: 0 thing, 1 part -/
def b_is_bound : GS := (sSeq (sIf (tOr (tNot (tV (gUn (isiW isTup) (gVar 0)))) (tOr (tV (gBin neW (gBlt lenW (aCons (gVar 0) aNil)) (gC (.int 2)))) (tNot (tV (gBlt allW (aCons (gComp (iIt (gVar 0)) (.nm 1) Mi.tYes (gCall g_is_within (aCons (gVar 1) (aCons (gC (.int 1)) (aCons (gBin powW (gC (.int 10)) (gC (.int 40))) aNil)))) [1]) aNil)))))) (sRet (gC (.bl false))) sNext)
  (sRet (gAnd (gBin leW (gBin ixW (gVar 0) (gC (.int 0))) (gBin ixW (gVar 0) (gC (.int 1)))) (gBin eqW (gCall g_lowest (aCons (gBin ixW (gVar 0) (gC (.int 0))) (aCons (gBin ixW (gVar 0) (gC (.int 1))) aNil))) (gVar 0)))))
def g_is_bound : Fn := mkFn 1 2 b_is_bound
/- Works.__init__: 0 self, 1 marks, 2 price -/
def b_Works___init__ : GS := (sSeq (sIf (tNot (tV (gCall g_are_marks (aCons (gVar 1) aNil)))) (sRaise "NoMarks") sNext)
  (sSeq (sIf (tNot (tV (gCall g_is_within (aCons (gVar 2) (aCons (gC (.int 0)) (aCons (gC (.int 1000)) aNil)))))) (sRaise "NoPrice") sNext)
  (sSeq (sFldS "marks" (gVar 0) (gVar 1))
  (sSeq (sFldS "cents" (gVar 0) (gVar 2))
  (sSeq (sFldS "crew" (gVar 0) (gCel gNewD))
  (sSeq (sFldS "money" (gVar 0) (gCel gNewD))
  (sSeq (sFldS "waiting" (gVar 0) (gTup aNil))
  (sSeq (sFldS "bars" (gVar 0) (gTup aNil))
  (sSeq (sFldS "out" (gVar 0) (gCel gNewD))
  (sSeq (sFldS "known" (gVar 0) (gCel gNewD))
  (sSeq (sFldS "ended" (gVar 0) (gLst aNil))
  (sFldS "busy" (gVar 0) (gC (.bl false))))))))))))))
def g_Works___init__ : FnX := mkFnX 3 3 b_Works___init__
/- Works.join: 0 self, 1 name, 2 number -/
def b_Works_join : GS := (sSeq (sIf (tNot (tV (gCall g_is_name (aCons (gVar 1) aNil)))) (sRaise "NoName") sNext)
  (sSeq (sIf (tV (gBin inW (gVar 1) (gFld "crew" (gVar 0)))) (sRaise "Taken") sNext)
  (sSeq (sIf (tNot (tV (gCall g_is_within (aCons (gVar 2) (aCons (gC (.int 0)) (aCons (gC (.int 8)) aNil)))))) (sRaise "NoNumber") sNext)
  (sSeq (sIf (tV (gBin geW (gBlt lenW (aCons (gFld "crew" (gVar 0)) aNil)) (gC (.int 6)))) (sRaise "Full") sNext)
  (sSeq (sSetC (gFld "crew" (gVar 0)) (gVar 1) (gTup (aCons (gVar 2) (aCons (gC (.int 0)) (aCons (gC (.int 0)) aNil)))))
  (sSetC (gFld "money" (gVar 0)) (gVar 1) (gC (.int 0))))))))
def g_Works_join : FnX := mkFnX 3 3 b_Works_join
/- Works.need_hand: 0 self, 1 name -/
def b_Works_need_hand : GS := (sIf (tOr (tNot (tV (gCall g_is_name (aCons (gVar 1) aNil)))) (tV (gBin notInW (gVar 1) (gFld "crew" (gVar 0))))) (sRaise1 "NoHand" "name" (gVar 1)) sNext)
def g_Works_need_hand : FnX := mkFnX 2 2 b_Works_need_hand
/- Works.need_mark: 0 self, 1 mark -/
def b_Works_need_mark : GS := (sIf (tOr (tNot (tV (gCall g_is_name (aCons (gVar 1) aNil)))) (tV (gBin notInW (gVar 1) (gFld "marks" (gVar 0))))) (sRaise "NoMark") sNext)
def g_Works_need_mark : FnX := mkFnX 2 2 b_Works_need_mark
/- Works.count: 0 self, 1 name, 2 good, 3 number, 4 right, 5 seen -/
def b_Works_count : GS := (sSeq (sUnp [3, 4, 5] (gBin ixW (gFld "crew" (gVar 0)) (gVar 1)))
  (sSetC (gFld "crew" (gVar 0)) (gVar 1) (gTup (aCons (gVar 3) (aCons (gBin addW (gVar 4) (gBlt intW (aCons (gVar 2) aNil))) (aCons (gBin addW (gVar 5) (gC (.int 1))) aNil))))))
def g_Works_count : Fn := mkFn 3 6 b_Works_count
/- Works.put: 0 self, 1 thing, 2 row -/
def b_Works_put : GS := (sSeq (sIf (tNot (tV (gCall g_is_name (aCons (gVar 1) aNil)))) (sRaise "NoName") sNext)
  (sSeq (sIf (tOr (tV (gBin inW (gVar 1) (gFld "waiting" (gVar 0)))) (tOr (tV (gBin inW (gVar 1) (gFld "out" (gVar 0)))) (tV (gBin inW (gVar 1) (gComp (iIt (gFld "ended" (gVar 0))) (.nm 2) Mi.tYes (gBin ixW (gVar 2) (gC (.int 0))) [2]))))) (sRaise "Taken") sNext)
  (sSeq (sIf (tV (gBin geW (gBlt lenW (aCons (gFld "waiting" (gVar 0)) aNil)) (gC (.int 8)))) (sRaise "Full") sNext)
  (sFldS "waiting" (gVar 0) (gBlt tuplePW (aCons (gBlt sortedTW (aCons (gBin addW (gFld "waiting" (gVar 0)) (gTup (aCons (gVar 1) aNil))) aNil)) aNil))))))
def g_Works_put : FnX := mkFnX 2 3 b_Works_put
/- Works.under_way: 0 self, 1 name, 2 answers, 3 left -/
def b_Works_under_way : GS := (sRet (gBlt lenW (aCons (gLock (pFld 0 "out") (gComp (iValC (gFld "out" (gVar 0))) (.tp [2, 3]) (tV (gBin inW (gVar 1) (gVar 3))) (gC (.int 1)) [2, 3])) aNil)))
def g_Works_under_way : Fn := mkFn 2 4 b_Works_under_way
/- Works.deal: 0 self, 1 many, 2 most, 3 name, 4 found, 5 thing, 6 one, 7 hand -/
def b_Works_deal : GS := (sSeq (sIf (tNot (tV (gCall g_is_within (aCons (gVar 1) (aCons (gC (.int 1)) (aCons (gC (.int 4)) aNil)))))) (sRaise "NoNumber") sNext)
  (sSeq (sAsg 2 (gBlt tuplePW (aCons (gComp (iIt (gBlt sortedTW (aCons (gFld "crew" (gVar 0)) aNil))) (.nm 3) Mi.tYes (gTup (aCons (gVar 3) (aCons (gBin subW (gBin ixW (gBin ixW (gFld "crew" (gVar 0)) (gVar 3)) (gC (.int 0))) (gMeth "under_way" g_Works_under_way (gVar 0) (aCons (gVar 3) aNil))) aNil))) [3]) aNil)))
  (sSeq (sAsg 4 (gCall g_dealing (aCons (gFld "waiting" (gVar 0)) (aCons (gVar 2) (aCons (gFld "bars" (gVar 0)) (aCons (gVar 1) aNil))))))
  (sSeq (sIf (tV (gBin isNonW (gVar 4) (gC .non))) (sRaise1 "Lacks" "things" (gCall g_lack (aCons (gFld "waiting" (gVar 0)) (aCons (gVar 2) (aCons (gFld "bars" (gVar 0)) (aCons (gVar 1) aNil)))))) sNext)
  (sSeq (sFor (iIt (gFld "waiting" (gVar 0))) (.nm 5) (sSetC (gFld "out" (gVar 0)) (gVar 5) (gTup (aCons (gTup aNil) (aCons (gBlt tuplePW (aCons (gComp (iIt (gVar 4)) (.tp [6, 7]) (tV (gBin eqW (gVar 6) (gVar 5))) (gVar 7) [6, 7]) aNil)) aNil)))))
  (sSeq (sFldS "waiting" (gVar 0) (gTup aNil))
  (sSeq (sFldS "bars" (gVar 0) (gTup aNil))
  (sRet (gVar 4)))))))))
def g_Works_deal : FnX := mkFnX 2 8 b_Works_deal
/- Works.answer: 0 self, 1 name, 2 thing, 3 mark, 4 answers, 5 left, 6 one -/
def b_Works_answer : GS := (sSeq (sxDrop (gxMeth "need_hand" g_Works_need_hand (gVar 0) (aCons (gVar 1) aNil)))
  (sSeq (sIf (tOr (tNot (tV (gCall g_is_name (aCons (gVar 2) aNil)))) (tOr (tV (gBin notInW (gVar 2) (gFld "out" (gVar 0)))) (tV (gBin notInW (gVar 1) (gBin ixW (gBin ixW (gFld "out" (gVar 0)) (gVar 2)) (gC (.int 1))))))) (sRaise1 "NoThing" "name" (gVar 2)) sNext)
  (sSeq (sxDrop (gxMeth "need_mark" g_Works_need_mark (gVar 0) (aCons (gVar 3) aNil)))
  (sSeq (sUnp [4, 5] (gBin ixW (gFld "out" (gVar 0)) (gVar 2)))
  (sSeq (sAsg 5 (gBlt tuplePW (aCons (gComp (iIt (gVar 5)) (.nm 6) (tV (gBin neW (gVar 6) (gVar 1))) (gVar 6) [6]) aNil)))
  (sSeq (sSetC (gFld "out" (gVar 0)) (gVar 2) (gTup (aCons (gBlt tuplePW (aCons (gBlt sortedTW (aCons (gBin addW (gVar 4) (gTup (aCons (gTup (aCons (gVar 1) (aCons (gVar 3) aNil))) aNil))) aNil)) aNil)) (aCons (gVar 5) aNil))))
  (sSeq (sIf (tV (gBin inW (gVar 2) (gFld "known" (gVar 0)))) (sDrop (gMeth "count" g_Works_count (gVar 0) (aCons (gVar 1) (aCons (gBin eqW (gVar 3) (gBin ixW (gFld "known" (gVar 0)) (gVar 2))) aNil)))) sNext)
  (sRet (gBin eqW (gVar 5) (gTup aNil))))))))))
def g_Works_answer : FnX := mkFnX 4 7 b_Works_answer
/- Works.judge: 0 self, 1 thing, 2 mark, 3 name, 4 told -/
def b_Works_judge : GS := (sSeq (sIf (tOr (tNot (tV (gCall g_is_name (aCons (gVar 1) aNil)))) (tV (gBin notInW (gVar 1) (gFld "out" (gVar 0))))) (sRaise1 "NoThing" "name" (gVar 1)) sNext)
  (sSeq (sIf (tV (gBin inW (gVar 1) (gFld "known" (gVar 0)))) (sRaise "Judged") sNext)
  (sSeq (sxDrop (gxMeth "need_mark" g_Works_need_mark (gVar 0) (aCons (gVar 2) aNil)))
  (sSeq (sSetC (gFld "known" (gVar 0)) (gVar 1) (gVar 2))
  (sFor (iIt (gBin ixW (gBin ixW (gFld "out" (gVar 0)) (gVar 1)) (gC (.int 0)))) (.tp [3, 4]) (sDrop (gMeth "count" g_Works_count (gVar 0) (aCons (gVar 3) (aCons (gBin eqW (gVar 4) (gVar 2)) aNil)))))))))
def g_Works_judge : FnX := mkFnX 3 5 b_Works_judge
/- Works.sure_hands: 0 self, 1 name -/
def b_Works_sure_hands : GS := (sRet (gBlt tuplePW (aCons (gComp (iIt (gBlt sortedTW (aCons (gFld "crew" (gVar 0)) aNil))) (.nm 1) Mi.tYes (gTup (aCons (gVar 1) (aCons (gCall g_sure_by (aCons (gBin ixW (gBin ixW (gFld "crew" (gVar 0)) (gVar 1)) (gC (.int 1))) (aCons (gBin ixW (gBin ixW (gFld "crew" (gVar 0)) (gVar 1)) (gC (.int 2))) aNil))) aNil))) [1]) aNil)))
def g_Works_sure_hands : Fn := mkFn 1 2 b_Works_sure_hands
/- Works.end_of: 0 self, 1 thing, 2 bound, 3 answers, 4 left, 5 hands, 6 mark -/
def b_Works_end_of : GS := (sSeq (sIf (tV (gBin inW (gVar 1) (gFld "known" (gVar 0)))) (sRet (gTup (aCons (gBin ixW (gFld "known" (gVar 0)) (gVar 1)) (aCons (gTup (aCons (gC (.int 1)) (aCons (gC (.int 1)) aNil))) aNil)))) sNext)
  (sSeq (sUnp [3, 4] (gBin ixW (gFld "out" (gVar 0)) (gVar 1)))
  (sSeq (sAsg 5 (gMeth "sure_hands" g_Works_sure_hands (gVar 0) aNil))
  (sSeq (sAsg 6 (gCall g_settled (aCons (gFld "marks" (gVar 0)) (aCons (gVar 5) (aCons (gVar 3) (aCons (gVar 4) (aCons (gVar 2) aNil)))))))
  (sSeq (sIf (tV (gBin isNonW (gVar 6) (gC .non))) (sRet (gC .non)) sNext)
  (sRet (gTup (aCons (gVar 6) (aCons (gBin ixW (gCall g_shares (aCons (gFld "marks" (gVar 0)) (aCons (gVar 5) (aCons (gVar 3) aNil)))) (gMtT tyP indexPW (gFld "marks" (gVar 0)) (aCons (gVar 6) aNil))) aNil)))))))))
def g_Works_end_of : Fn := mkFn 3 7 b_Works_end_of
/- Works.let_go: 0 self, 1 bound, 2 found, 3 thing, 4 end, 5 mark, 6 share, 7 name, 8 told -/
def b_Works_let_go : GS := (sSeq (sIf (tNot (tV (gCall g_is_bound (aCons (gVar 1) aNil)))) (sRaise "NoBound") sNext)
  (sSeq (sFldS "busy" (gVar 0) (gC (.bl true)))
  (sSeq (sOwn 2 (gLst aNil))
  (sSeq (sFor (iIt (gBlt sortedTW (aCons (gFld "out" (gVar 0)) aNil))) (.nm 3) (sSeq (sAsg 4 (gMeth "end_of" g_Works_end_of (gVar 0) (aCons (gVar 3) (aCons (gVar 1) aNil))))
  (sIf (tV (gBin isNotW (gVar 4) (gC .non))) (sApp 2 (gBin addW (gTup (aCons (gVar 3) aNil)) (gVar 4))) sNext)))
  (sSeq (sFrz 2 (sFor (iIt (gVar 2)) (.tp [3, 5, 6]) (sSeq (sFor (iIt (gBin ixW (gBin ixW (gFld "out" (gVar 0)) (gVar 3)) (gC (.int 0)))) (.tp [7, 8]) (sAugC (gFld "money" (gVar 0)) (gVar 7) (gBin mulW (gFld "cents" (gVar 0)) (gBlt intW (aCons (gBin eqW (gVar 8) (gVar 5)) aNil)))))
  (sDrop (gDPopC (gFld "out" (gVar 0)) (gVar 3))))))
  (sSeq (sFldS "ended" (gVar 0) (gBin addW (gFld "ended" (gVar 0)) (gVar 2)))
  (sSeq (sFldS "busy" (gVar 0) (gC (.bl false)))
  (sRet (gBlt listW (aCons (gVar 2) aNil))))))))))
def g_Works_let_go : FnX := mkFnX 2 9 b_Works_let_go
/- Works.hands: 0 self, 1 found, 2 name, 3 number, 4 right, 5 seen -/
def b_Works_hands : GS := (sSeq (sOwn 1 (gLst aNil))
  (sSeq (sFor (iIt (gBlt sortedTW (aCons (gFld "crew" (gVar 0)) aNil))) (.nm 2) (sSeq (sUnp [3, 4, 5] (gBin ixW (gFld "crew" (gVar 0)) (gVar 2)))
  (sApp 1 (gTup (aCons (gVar 2) (aCons (gVar 3) (aCons (gMeth "under_way" g_Works_under_way (gVar 0) (aCons (gVar 2) aNil)) (aCons (gVar 4) (aCons (gVar 5) aNil)))))))))
  (sRet (gVar 1))))
def g_Works_hands : Fn := mkFn 1 6 b_Works_hands
/- Works.dealt: 0 self, 1 thing -/
def b_Works_dealt : GS := (sRet (gComp (iIt (gBlt sortedTW (aCons (gFld "out" (gVar 0)) aNil))) (.nm 1) Mi.tYes (gBin addW (gTup (aCons (gVar 1) aNil)) (gBin ixW (gFld "out" (gVar 0)) (gVar 1))) [1]))
def g_Works_dealt : Fn := mkFn 1 2 b_Works_dealt
/- Works.sure: 0 self, 1 name -/
def b_Works_sure : GS := (sSeq (sxDrop (gxMeth "need_hand" g_Works_need_hand (gVar 0) (aCons (gVar 1) aNil)))
  (sRet (gCall g_sure_by (aCons (gBin ixW (gBin ixW (gFld "crew" (gVar 0)) (gVar 1)) (gC (.int 1))) (aCons (gBin ixW (gBin ixW (gFld "crew" (gVar 0)) (gVar 1)) (gC (.int 2))) aNil)))))
def g_Works_sure : FnX := mkFnX 2 2 b_Works_sure
/- Works.paid: 0 self, 1 name -/
def b_Works_paid : GS := (sSeq (sxDrop (gxMeth "need_hand" g_Works_need_hand (gVar 0) (aCons (gVar 1) aNil)))
  (sRet (gBin ixW (gFld "money" (gVar 0)) (gVar 1))))
def g_Works_paid : FnX := mkFnX 2 2 b_Works_paid
/- _law_bag: 0 script, 1 k, 2 cell -/
def b__law_bag : GS := (sSeq (sAsg 2 (gC (.int 0)))
  (sSeq (sIf (tV (gBin ltQ (gVar 1) (gBlt lenW (aCons (gVar 0) aNil)))) (sAsg 2 (gBlt absW (aCons (gBin ixW (gVar 0) (gVar 1)) aNil))) sNext)
  (sSeq (sIf (tV (gBin ltQ (gVar 2) (gBin powW (gC (.int 10)) (gC (.int 18))))) (sRet (gLst (aCons (gC (.int 0)) (aCons (gBin addW (gC (.int 1)) (gBin modW (gBin addW (gBin mulW (gVar 2) (gC (.int 7919))) (gBin mulW (gC (.int 104729)) (gVar 1))) (gC (.int 2147483646)))) aNil)))) sNext)
  (sRet (gLst (aCons (gVar 2) (aCons (gBin addW (gC (.int 1)) (gBin modW (gBin addW (gVar 2) (gVar 1)) (gC (.int 2147483646)))) aNil)))))))
def g__law_bag : Fn := mkFn 2 3 b__law_bag
/- _law_take: 0 bag, 1 many, 2 found -/
def b__law_take : GS := (sSeq (sIf (tV (gBin gtW (gBin ixW (gVar 0) (gC (.int 0))) (gC (.int 0)))) (sSeq (sAsg 2 (gBin modW (gBin ixW (gVar 0) (gC (.int 0))) (gVar 1)))
  (sSeq (sSetC (gVar 0) (gC (.int 0)) (gBin fdvW (gBin ixW (gVar 0) (gC (.int 0))) (gVar 1)))
  (sRet (gVar 2)))) sNext)
  (sSeq (sSetC (gVar 0) (gC (.int 1)) (gBin modW (gBin mulW (gBin ixW (gVar 0) (gC (.int 1))) (gC (.int 48271))) (gC (.int 2147483647))))
  (sRet (gBin modW (gBin fdvW (gBin modW (gBin mulW (gBin ixW (gVar 0) (gC (.int 1))) (gBin ixW (gVar 0) (gC (.int 1)))) (gC (.int 2147483629))) (gC (.int 64))) (gVar 1)))))
def g__law_take : Fn := mkFn 2 3 b__law_take
/- _law_of: 0 bag, 1 some -/
def b__law_of : GS := (sRet (gBin ixW (gVar 1) (gCall g__law_take (aCons (gVar 0) (aCons (gBlt lenW (aCons (gVar 1) aNil)) aNil)))))
def g__law_of : Fn := mkFn 2 2 b__law_of
/- _law_shares_so: 0 ax, 1 bo, 2 names, 3 ann, 4 bea, 5 cal, 6 dot, 7 marks, 8 hands, 9 answers, 10 found -/
def b__law_shares_so : GS := (sSeq (sUnp [3, 4, 5, 6] (gVar 2))
  (sSeq (sPar [7, 8] (aCons (gTupP (aCons (gVar 0) (aCons (gVar 1) aNil))) (aCons (gTupP (aCons (gTup (aCons (gVar 3) (aCons (gTup (aCons (gC (.int 3)) (aCons (gC (.int 4)) aNil))) aNil))) (aCons (gTup (aCons (gVar 4) (aCons (gTup (aCons (gC (.int 3)) (aCons (gC (.int 4)) aNil))) aNil))) (aCons (gTup (aCons (gVar 5) (aCons (gTup (aCons (gC (.int 9)) (aCons (gC (.int 10)) aNil))) aNil))) aNil)))) aNil)))
  (sSeq (sAsg 9 (gTup (aCons (gTup (aCons (gVar 3) (aCons (gVar 0) aNil))) (aCons (gTup (aCons (gVar 4) (aCons (gVar 0) aNil))) (aCons (gTup (aCons (gVar 5) (aCons (gVar 1) aNil))) aNil)))))
  (sSeq (sOwn 10 (gLst (aCons (gBin eqW (gCall g_shares (aCons (gVar 7) (aCons (gVar 8) (aCons (gVar 9) aNil)))) (gTup (aCons (gTup (aCons (gC (.int 1)) (aCons (gC (.int 2)) aNil))) (aCons (gTup (aCons (gC (.int 1)) (aCons (gC (.int 2)) aNil))) aNil)))) (aCons (gBin eqW (gCall g_first_mark (aCons (gVar 7) (aCons (gVar 8) (aCons (gVar 9) aNil)))) (gVar 0)) aNil))))
  (sSeq (sApp 10 (gAnd (gBin eqW (gCall g_shares (aCons (gVar 7) (aCons (gVar 8) (aCons (gSl (gVar 9) (oSome (gC (.int 1))) oNone) aNil)))) (gTup (aCons (gTup (aCons (gC (.int 1)) (aCons (gC (.int 4)) aNil))) (aCons (gTup (aCons (gC (.int 3)) (aCons (gC (.int 4)) aNil))) aNil)))) (gBin eqW (gCall g_sure_by (aCons (gC (.int 2)) (aCons (gC (.int 2)) aNil))) (gTup (aCons (gC (.int 3)) (aCons (gC (.int 4)) aNil))))))
  (sSeq (sApp 10 (gBin isNonW (gCall g_fewest_turn (aCons (gVar 7) (aCons (gVar 8) (aCons (gSl (gVar 9) oNone (oSome (gC (.int 1)))) (aCons (gTup (aCons (gVar 4) aNil)) aNil))))) (gC .non)))
  (sSeq (sApp 10 (gBin eqW (gCall g_settled (aCons (gVar 7) (aCons (gVar 8) (aCons (gSl (gVar 9) oNone (oSome (gC (.int 1)))) (aCons (gTup (aCons (gVar 4) aNil)) (aCons (gTup (aCons (gC (.int 3)) (aCons (gC (.int 4)) aNil))) aNil)))))) (gVar 0)))
  (sSeq (sApp 10 (gBin isNonW (gCall g_settled (aCons (gVar 7) (aCons (gVar 8) (aCons (gSl (gVar 9) oNone (oSome (gC (.int 1)))) (aCons (gTup (aCons (gVar 4) aNil)) (aCons (gTup (aCons (gC (.int 4)) (aCons (gC (.int 5)) aNil))) aNil)))))) (gC .non)))
  (sSeq (sApp 10 (gBin eqW (gCall g_fewest_turn (aCons (gVar 7) (aCons (gVar 8) (aCons (gSl (gVar 9) oNone (oSome (gC (.int 1)))) (aCons (gTup (aCons (gVar 4) (aCons (gVar 5) aNil))) aNil))))) (gTup (aCons (gTup (aCons (gVar 5) (aCons (gVar 1) aNil))) aNil))))
  (sSeq (sApp 10 (gBin isNonW (gCall g_settled (aCons (gVar 7) (aCons (gVar 8) (aCons (gSl (gVar 9) oNone (oSome (gC (.int 1)))) (aCons (gTup (aCons (gVar 5) aNil)) (aCons (gTup (aCons (gC (.int 1)) (aCons (gC (.int 2)) aNil))) aNil)))))) (gC .non)))
  (sSeq (sApp 10 (gCall g_is_turn (aCons (gVar 7) (aCons (gVar 8) (aCons (gSl (gVar 9) oNone (oSome (gC (.int 1)))) (aCons (gTup (aCons (gVar 4) (aCons (gVar 5) aNil))) (aCons (gTup (aCons (gTup (aCons (gVar 4) (aCons (gVar 1) aNil))) (aCons (gTup (aCons (gVar 5) (aCons (gVar 1) aNil))) aNil))) aNil)))))))
  (sSeq (sApp 10 (gNot (gCall g_is_turn (aCons (gVar 7) (aCons (gVar 8) (aCons (gSl (gVar 9) oNone (oSome (gC (.int 1)))) (aCons (gTup (aCons (gVar 4) (aCons (gVar 5) aNil))) (aCons (gTup (aCons (gTup (aCons (gVar 4) (aCons (gVar 1) aNil))) aNil)) aNil))))))))
  (sSeq (sAsg 8 (gTupP (aCons (gTup (aCons (gVar 3) (aCons (gTup (aCons (gC (.int 3)) (aCons (gC (.int 4)) aNil))) aNil))) (aCons (gTup (aCons (gVar 6) (aCons (gTup (aCons (gC (.int 1)) (aCons (gC (.int 10)) aNil))) aNil))) aNil))))
  (sSeq (sApp 10 (gBin eqW (gCall g_fewest_turn (aCons (gVar 7) (aCons (gVar 8) (aCons (gTup (aCons (gTup (aCons (gVar 3) (aCons (gVar 0) aNil))) aNil)) (aCons (gTup (aCons (gVar 6) aNil)) aNil))))) (gTup (aCons (gTup (aCons (gVar 6) (aCons (gVar 0) aNil))) aNil))))
  (sRet (gBin addW (gVar 10) (gLst (aCons (gBin eqW (gCall g_fewest_turn (aCons (gVar 7) (aCons (gVar 8) (aCons (gTup (aCons (gTup (aCons (gVar 3) (aCons (gVar 1) aNil))) aNil)) (aCons (gTup (aCons (gVar 6) aNil)) aNil))))) (gTup (aCons (gTup (aCons (gVar 6) (aCons (gVar 1) aNil))) aNil))) aNil))))))))))))))))))
def g__law_shares_so : Fn := mkFn 3 11 b__law_shares_so
/- _law_agreed_so: 0 ax, 1 bo, 2 one, 3 found -/
def b__law_agreed_so : GS := (sSeq (sAsg 2 (gDic (gDisp (pCons (gC (.str "a")) (gVar 0) (pCons (gC (.str "b")) (gVar 0) (pCons (gC (.str "c")) (gVar 1) (pCons (gC (.str "d")) (gVar 1) (pCons (gC (.str "e")) (gVar 0) pNil))))))))
  (sSeq (sOwn 3 (gLst (aCons (gBin eqW (gCall g_agreement (aCons (gVar 2) (aCons (gDic (gDisp (pCons (gC (.str "a")) (gVar 0) (pCons (gC (.str "b")) (gVar 1) (pCons (gC (.str "c")) (gVar 1) (pCons (gC (.str "d")) (gVar 1) pNil)))))) aNil))) (gTup (aCons (gC (.int 1)) (aCons (gTup (aCons (gC (.int 1)) (aCons (gC (.int 2)) aNil))) aNil)))) aNil)))
  (sSeq (sApp 3 (gBin eqW (gCall g_agreement (aCons (gDic (gDisp (pCons (gC (.str "a")) (gVar 0) (pCons (gC (.str "b")) (gVar 1) pNil)))) (aCons (gDic (gDisp (pCons (gC (.str "a")) (gVar 1) (pCons (gC (.str "b")) (gVar 0) pNil)))) aNil))) (gTup (aCons (gUn negW (gC (.int 1))) (aCons (gTup (aCons (gC (.int 1)) (aCons (gC (.int 1)) aNil))) aNil)))))
  (sSeq (sApp 3 (gBin eqW (gCall g_agreement (aCons (gVar 2) (aCons (gDic (gDisp (pCons (gC (.str "a")) (gVar 0) (pCons (gC (.str "b")) (gVar 1) (pCons (gC (.str "c")) (gVar 0) (pCons (gC (.str "d")) (gVar 1) pNil)))))) aNil))) (gTup (aCons (gC (.int 0)) (aCons (gTup (aCons (gC (.int 0)) (aCons (gC (.int 1)) aNil))) aNil)))))
  (sRet (gBin addW (gVar 3) (gLst (aCons (gBin isNonW (gCall g_agreement (aCons (gVar 2) (aCons (gDic (gDisp (pCons (gC (.str "a")) (gVar 0) (pCons (gC (.str "b")) (gVar 0) (pCons (gC (.str "e")) (gVar 0) pNil))))) aNil))) (gC .non)) (aCons (gBin isNonW (gCall g_agreement (aCons (gVar 2) (aCons (gDic (gDisp (pCons (gC (.str "z")) (gVar 0) pNil))) aNil))) (gC .non)) aNil)))))))))
def g__law_agreed_so : Fn := mkFn 2 4 b__law_agreed_so
/- _law_dealt_so: 0 names, 1 ann, 2 bea, 3 cal, 4 dot, 5 things, 6 most, 7 due, 8 found, 9 bars -/
def b__law_dealt_so : GS := (sSeq (sUnp [1, 2, 3, 4] (gVar 0))
  (sSeq (sPar [5, 6] (aCons (gTup (aCons (gC (.str "ode")) (aCons (gC (.str "pie")) (aCons (gC (.str "rug")) aNil)))) (aCons (gTup (aCons (gTup (aCons (gVar 1) (aCons (gC (.int 2)) aNil))) (aCons (gTup (aCons (gVar 2) (aCons (gC (.int 2)) aNil))) (aCons (gTup (aCons (gVar 3) (aCons (gC (.int 2)) aNil))) aNil)))) aNil)))
  (sSeq (sAsg 7 (gTup (aCons (gTup (aCons (gC (.str "ode")) (aCons (gVar 1) aNil))) (aCons (gTup (aCons (gC (.str "ode")) (aCons (gVar 2) aNil))) (aCons (gTup (aCons (gC (.str "pie")) (aCons (gVar 1) aNil))) (aCons (gTup (aCons (gC (.str "pie")) (aCons (gVar 3) aNil))) (aCons (gTup (aCons (gC (.str "rug")) (aCons (gVar 2) aNil))) (aCons (gTup (aCons (gC (.str "rug")) (aCons (gVar 3) aNil))) aNil))))))))
  (sSeq (sOwn 8 (gLst (aCons (gBin eqW (gCall g_dealing (aCons (gVar 5) (aCons (gVar 6) (aCons (gTup aNil) (aCons (gC (.int 2)) aNil))))) (gVar 7)) (aCons (gBin isNonW (gCall g_lack (aCons (gVar 5) (aCons (gVar 6) (aCons (gTup aNil) (aCons (gC (.int 2)) aNil))))) (gC .non)) aNil))))
  (sSeq (sAsg 7 (gTup (aCons (gTup (aCons (gC (.str "ode")) (aCons (gVar 1) aNil))) (aCons (gTup (aCons (gC (.str "ode")) (aCons (gVar 3) aNil))) (aCons (gTup (aCons (gC (.str "pie")) (aCons (gVar 2) aNil))) (aCons (gTup (aCons (gC (.str "pie")) (aCons (gVar 3) aNil))) (aCons (gTup (aCons (gC (.str "rug")) (aCons (gVar 1) aNil))) (aCons (gTup (aCons (gC (.str "rug")) (aCons (gVar 2) aNil))) aNil))))))))
  (sSeq (sApp 8 (gBin eqW (gCall g_dealing (aCons (gVar 5) (aCons (gVar 6) (aCons (gTup (aCons (gTup (aCons (gVar 3) (aCons (gC (.str "rug")) aNil))) aNil)) (aCons (gC (.int 2)) aNil))))) (gVar 7)))
  (sSeq (sAsg 9 (gTup (aCons (gTup (aCons (gVar 2) (aCons (gC (.str "rug")) aNil))) (aCons (gTup (aCons (gVar 3) (aCons (gC (.str "rug")) aNil))) aNil))))
  (sSeq (sApp 8 (gAnd (gBin isNonW (gCall g_dealing (aCons (gVar 5) (aCons (gVar 6) (aCons (gVar 9) (aCons (gC (.int 2)) aNil))))) (gC .non)) (gBin eqW (gCall g_lack (aCons (gVar 5) (aCons (gVar 6) (aCons (gVar 9) (aCons (gC (.int 2)) aNil))))) (gTup (aCons (gC (.str "rug")) aNil)))))
  (sSeq (sApp 8 (gAnd (gBin eqW (gCall g_lack (aCons (gVar 5) (aCons (gVar 6) (aCons (gTup aNil) (aCons (gC (.int 3)) aNil))))) (gTup (aCons (gC (.str "ode")) (aCons (gC (.str "pie")) (aCons (gC (.str "rug")) aNil))))) (gBin eqW (gCall g_lack (aCons (gVar 5) (aCons (gSl (gVar 6) oNone (oSome (gC (.int 1)))) (aCons (gTup aNil) (aCons (gC (.int 2)) aNil))))) (gTup (aCons (gC (.str "ode")) aNil)))))
  (sRet (gBin addW (gVar 8) (gLst (aCons (gCall g_is_lack (aCons (gVar 5) (aCons (gVar 6) (aCons (gTup aNil) (aCons (gC (.int 3)) (aCons (gVar 5) aNil)))))) (aCons (gNot (gCall g_is_lack (aCons (gVar 5) (aCons (gVar 6) (aCons (gTup aNil) (aCons (gC (.int 3)) (aCons (gSl (gVar 5) oNone (oSome (gC (.int 2)))) aNil))))))) aNil))))))))))))))
def g__law_dealt_so : Fn := mkFn 1 10 b__law_dealt_so
/- _law_works_so: 0 ax, 1 bo, 2 names, 3 ann, 4 bea, 5 cal, 6 dot, 7 works, 8 name, 9 found, 10 good, 11 e -/
def b__law_works_so : GS := (sSeq (sUnp [3, 4, 5, 6] (gVar 2))
  (sSeq (sAsg 7 (gMk (noX g_Works___init__) [] (aCons (gTupP (aCons (gVar 0) (aCons (gVar 1) aNil))) aNil) (aCons (gC (.int 7)) aNil)))
  (sSeq (sFor (iIt (gLst (aCons (gVar 3) (aCons (gVar 4) aNil)))) (.nm 8) (sDrop (gMeth "join" (noX g_Works_join) (gVar 7) (aCons (gVar 8) (aCons (gC (.int 1)) aNil)))))
  (sSeq (sDrop (gMeth "put" (noX g_Works_put) (gVar 7) (aCons (gC (.str "ode")) aNil)))
  (sSeq (sOwn 9 (gLst (aCons (gBin eqW (gMeth "deal" (noX g_Works_deal) (gVar 7) (aCons (gC (.int 2)) aNil)) (gTup (aCons (gTup (aCons (gC (.str "ode")) (aCons (gVar 3) aNil))) (aCons (gTup (aCons (gC (.str "ode")) (aCons (gVar 4) aNil))) aNil)))) (aCons (gBin isNonW (gMeth "answer" (noX g_Works_answer) (gVar 7) (aCons (gVar 3) (aCons (gC (.str "ode")) (aCons (gVar 0) aNil)))) (gC (.bl false))) aNil))))
  (sSeq (sDrop (gMeth "put" (noX g_Works_put) (gVar 7) (aCons (gC (.str "pie")) aNil)))
  (sSeq (sAsg 10 (gC (.bl false)))
  (sSeq (sTry1 (mtOne "Lacks") "things" 11 10 (gxMeth "deal" g_Works_deal (gVar 7) (aCons (gC (.int 2)) aNil)) eqW (gTup (aCons (gC (.str "pie")) aNil)))
  (sSeq (sApp 9 (gAnd (gVar 10) (gAnd (gBin eqW (gMeth "let_go" (noX g_Works_let_go) (gVar 7) (aCons (gTup (aCons (gC (.int 2)) (aCons (gC (.int 3)) aNil))) aNil)) (gLst aNil)) (gBin eqW (gMeth "let_go" (noX g_Works_let_go) (gVar 7) (aCons (gTup (aCons (gC (.int 1)) (aCons (gC (.int 2)) aNil))) aNil)) (gLst (aCons (gTup (aCons (gC (.str "ode")) (aCons (gVar 0) (aCons (gTup (aCons (gC (.int 1)) (aCons (gC (.int 2)) aNil))) aNil)))) aNil))))))
  (sSeq (sApp 9 (gAnd (gBin eqW (gMeth "paid" (noX g_Works_paid) (gVar 7) (aCons (gVar 3) aNil)) (gC (.int 7))) (gAnd (gBin eqW (gMeth "paid" (noX g_Works_paid) (gVar 7) (aCons (gVar 4) aNil)) (gC (.int 0))) (gBin eqW (gMeth "deal" (noX g_Works_deal) (gVar 7) (aCons (gC (.int 2)) aNil)) (gTup (aCons (gTup (aCons (gC (.str "pie")) (aCons (gVar 3) aNil))) (aCons (gTup (aCons (gC (.str "pie")) (aCons (gVar 4) aNil))) aNil)))))))
  (sSeq (sDrop (gMeth "judge" (noX g_Works_judge) (gVar 7) (aCons (gC (.str "pie")) (aCons (gVar 1) aNil))))
  (sSeq (sApp 9 (gAnd (gBin isNonW (gMeth "answer" (noX g_Works_answer) (gVar 7) (aCons (gVar 4) (aCons (gC (.str "pie")) (aCons (gVar 1) aNil)))) (gC (.bl false))) (gAnd (gBin eqW (gMeth "sure" (noX g_Works_sure) (gVar 7) (aCons (gVar 4) aNil)) (gTup (aCons (gC (.int 2)) (aCons (gC (.int 3)) aNil)))) (gBin eqW (gMeth "sure" (noX g_Works_sure) (gVar 7) (aCons (gVar 3) aNil)) (gTup (aCons (gC (.int 1)) (aCons (gC (.int 2)) aNil)))))))
  (sSeq (sApp 9 (gAnd (gBin eqW (gMeth "let_go" (noX g_Works_let_go) (gVar 7) (aCons (gTup (aCons (gC (.int 1)) (aCons (gC (.int 1)) aNil))) aNil)) (gLst (aCons (gTup (aCons (gC (.str "pie")) (aCons (gVar 1) (aCons (gTup (aCons (gC (.int 1)) (aCons (gC (.int 1)) aNil))) aNil)))) aNil))) (gBin eqW (gMeth "paid" (noX g_Works_paid) (gVar 7) (aCons (gVar 4) aNil)) (gC (.int 7)))))
  (sRet (gBin addW (gVar 9) (gLst (aCons (gBin eqW (gMeth "hands" g_Works_hands (gVar 7) aNil) (gLst (aCons (gTup (aCons (gVar 3) (aCons (gC (.int 1)) (aCons (gC (.int 0)) (aCons (gC (.int 0)) (aCons (gC (.int 0)) aNil)))))) (aCons (gTup (aCons (gVar 4) (aCons (gC (.int 1)) (aCons (gC (.int 0)) (aCons (gC (.int 1)) (aCons (gC (.int 1)) aNil)))))) aNil)))) (aCons (gBin eqW (gMeth "dealt" g_Works_dealt (gVar 7) aNil) (gLst aNil)) aNil))))))))))))))))))
def g__law_works_so : Fn := mkFn 3 12 b__law_works_so
/- law: 0 script, 1 k, 2 bag, 3 ax, 4 bo, 5 names -/
def b_law : GS := (sSeq (sFor (iRan1 (gBin addW (gC (.int 1)) (gBlt minW (aCons (gBlt lenW (aCons (gVar 0) aNil)) (aCons (gC (.int 10)) aNil))))) (.nm 1) (sSeq (sAsg 2 (gCel (gCall g__law_bag (aCons (gVar 0) (aCons (gVar 1) aNil)))))
  (sSeq (sUnp [3, 4] (gCall g__law_of (aCons (gVar 2) (aCons (gLst (aCons (gTup (aCons (gC (.str "ax")) (aCons (gC (.str "bo")) aNil))) (aCons (gTup (aCons (gC (.str "no")) (aCons (gC (.str "yes")) aNil))) (aCons (gTup (aCons (gC (.str "a")) (aCons (gC (.str "aa")) aNil))) aNil)))) aNil))))
  (sSeq (sAsg 5 (gCall g__law_of (aCons (gVar 2) (aCons (gLst (aCons (gTup (aCons (gC (.str "ann")) (aCons (gC (.str "bea")) (aCons (gC (.str "cal")) (aCons (gC (.str "dot")) aNil))))) (aCons (gTup (aCons (gC (.str "h")) (aCons (gC (.str "i")) (aCons (gC (.str "j")) (aCons (gC (.str "k")) aNil))))) (aCons (gTup (aCons (gC (.str "x")) (aCons (gC (.str "xx")) (aCons (gC (.str "xy")) (aCons (gC (.str "z")) aNil))))) aNil)))) aNil))))
  (sSeq (sIf (tOr (tV (gBin inW (gC (.bl false)) (gCall (locF g__law_shares_so) (aCons (gVar 3) (aCons (gVar 4) (aCons (gVar 5) aNil)))))) (tV (gBin inW (gC (.bl false)) (gCall (locF g__law_agreed_so) (aCons (gVar 3) (aCons (gVar 4) aNil)))))) (sRet (gC (.bl false))) sNext)
  (sIf (tOr (tV (gBin inW (gC (.bl false)) (gCall (locF g__law_dealt_so) (aCons (gVar 5) aNil)))) (tV (gBin inW (gC (.bl false)) (gCall (locF g__law_works_so) (aCons (gVar 3) (aCons (gVar 4) (aCons (gVar 5) aNil))))))) (sRet (gC (.bl false))) sNext))))))
  (sRet (gC (.bl true))))
def g_law : Fn := mkFn 1 6 b_law
end K14
namespace K14
open PySem L2 Mi
def isT : D → Bool
  | .bl true => true
  | _ => false
def allT (r : Option (W × Sto)) : Bool := match r with
  | some (.fr xs, _) => xs.all isT && oks 60 xs
  | _ => false
def mk3 (i : Fin 3) : List D := match i with
  | 0 => [.str "ax", .str "bo"]
  | 1 => [.str "no", .str "yes"]
  | 2 => [.str "a", .str "aa"]
def nm3 (i : Fin 3) : List D := match i with
  | 0 => [.str "ann", .str "bea", .str "cal", .str "dot"]
  | 1 => [.str "h", .str "i", .str "j", .str "k"]
  | 2 => [.str "x", .str "xx", .str "xy", .str "z"]
theorem ag1 : ∀ i, allT (g__law_agreed_so (mk3 i) []) = true := by decide +kernel
theorem de1 : ∀ j, allT (g__law_dealt_so [.tup (nm3 j)] []) = true := by decide +kernel
theorem sh1 : ∀ i j, allT (g__law_shares_so (mk3 i ++ [.tup (nm3 j)]) []) = true := by decide +kernel
theorem wo1 : ∀ i j, allT (g__law_works_so (mk3 i ++ [.tup (nm3 j)]) []) = true := by decide +kernel
end K14
namespace K14
open PySem L2 Mi
/-! ### the bag -/
theorem take_spec {M : Sto} {n : Nat} {k : Int} {Q : W → Sto → Prop} (h : BagAt M n) (hk : 0 < k) (hb : k < 1000000000) (q : ∀ (r : Int) (M' : Sto), 0 ≤ r → r < k → Bg n M M' → Q (.d (.int r)) M') : wpF g__law_take [.cel n, .int k] M Q := by
  obtain ⟨a, b, h, ha, hb0, hb1⟩ := h
  unfold g__law_take
  rw [wf_mk]
  refine ⟨rfl, ?_⟩
  unfold b__law_take
  try simp only [wpAll, wpMore, wpKd, List.replicate_succ, List.replicate_zero, List.getElem?_cons_zero, List.getElem?_cons_succ, List.getElem?_nil, List.set_cons_zero, List.set_cons_succ, Option.bind_some, Option.map_some, Option.bind_none, Option.map_none, List.length_cons, List.length_nil, List.length_map, if_true, if_false, reduceIte, Bool.false_eq_true, Bool.not_true, Bool.not_false, true_and, and_true, implies_true, Nat.zero_add, Nat.reduceAdd, Nat.reduceLeDiff, reduceCtorEq, decide_eq_true_eq]
  simp only [ixW_cel h]
  try simp only [wpAll, wpMore, wpKd, List.replicate_succ, List.replicate_zero, List.getElem?_cons_zero, List.getElem?_cons_succ, List.getElem?_nil, List.set_cons_zero, List.set_cons_succ, Option.bind_some, Option.map_some, Option.bind_none, Option.map_none, List.length_cons, List.length_nil, List.length_map, if_true, if_false, reduceIte, Bool.false_eq_true, Bool.not_true, Bool.not_false, true_and, and_true, implies_true, Nat.zero_add, Nat.reduceAdd, Nat.reduceLeDiff, reduceCtorEq, decide_eq_true_eq]
  simp only [cellO_lst h]
  try simp only [wpAll, wpMore, wpKd, List.replicate_succ, List.replicate_zero, List.getElem?_cons_zero, List.getElem?_cons_succ, List.getElem?_nil, List.set_cons_zero, List.set_cons_succ, Option.bind_some, Option.map_some, Option.bind_none, Option.map_none, List.length_cons, List.length_nil, List.length_map, if_true, if_false, reduceIte, Bool.false_eq_true, Bool.not_true, Bool.not_false, true_and, and_true, implies_true, Nat.zero_add, Nat.reduceAdd, Nat.reduceLeDiff, reduceCtorEq, decide_eq_true_eq]
  simp only [ixW_cel (cel_set h)]
  try simp only [wpAll, wpMore, wpKd, List.replicate_succ, List.replicate_zero, List.getElem?_cons_zero, List.getElem?_cons_succ, List.getElem?_nil, List.set_cons_zero, List.set_cons_succ, Option.bind_some, Option.map_some, Option.bind_none, Option.map_none, List.length_cons, List.length_nil, List.length_map, if_true, if_false, reduceIte, Bool.false_eq_true, Bool.not_true, Bool.not_false, true_and, and_true, implies_true, Nat.zero_add, Nat.reduceAdd, Nat.reduceLeDiff, reduceCtorEq, decide_eq_true_eq]
  have h1 : (b * 48271 % 2147483647) < 2147483647 := Int.emod_lt_of_pos _ (by decide)
  have h2 : 0 ≤ (b * 48271 % 2147483647) := Int.emod_nonneg _ (by decide)
  generalize b * 48271 % 2147483647 = c at h1 h2
  split
  · refine ⟨hk, ⟨hk, lt_BIG (by omega)⟩, q _ _ (Int.emod_nonneg _ (by omega)) (Int.emod_lt_of_pos _ hk) ⟨⟨_, _, cel_set h, Int.ediv_nonneg ha (by omega), hb0, hb1⟩, .set⟩⟩
  · refine ⟨⟨lt_BIG (by omega), lt_BIG (by decide)⟩, by decide, ⟨lt_BIG (by omega), lt_BIG (by omega)⟩, by decide, ⟨by decide, lt_BIG (by decide)⟩, hk, q _ _ (Int.emod_nonneg _ (by omega)) (Int.emod_lt_of_pos _ hk) ⟨⟨_, _, cel_set h, ha, h2, h1⟩, .set⟩⟩
theorem bag_spec {M : Sto} {ns : List Int} {k : Int} {Q : W → Sto → Prop} (hk : 0 ≤ k) (hk2 : k < 100000) (q : ∀ a b : Int, 0 ≤ a → 0 ≤ b → b < 2147483647 → Q (.fr [.int a, .int b]) M) : wpF g__law_bag [.rol ns, .int k] M Q := by
  have key : ∀ a c : Int, 0 ≤ a → Q (.fr [.int a, .int (1 + c % 2147483646)]) M := fun a c ha => by
    have h1 := Int.emod_lt_of_pos c (show (0 : Int) < 2147483646 by decide)
    have h2 := Int.emod_nonneg c (show (2147483646 : Int) ≠ 0 by decide)
    exact q _ _ ha (by omega) (by omega)
  have big : ∀ v : Int, 0 ≤ v → v < 10 ^ 18 → v.natAbs < BIG := fun v h1 h2 => lt_BIG (by omega)
  unfold g__law_bag
  rw [wf_mk]
  refine ⟨rfl, ?_⟩
  unfold b__law_bag
  try simp only [wpAll, wpMore, wpKd, List.replicate_succ, List.replicate_zero, List.getElem?_cons_zero, List.getElem?_cons_succ, List.getElem?_nil, List.set_cons_zero, List.set_cons_succ, Option.bind_some, Option.map_some, Option.bind_none, Option.map_none, List.length_cons, List.length_nil, List.length_map, if_true, if_false, reduceIte, Bool.false_eq_true, Bool.not_true, Bool.not_false, true_and, and_true, implies_true, Nat.zero_add, Nat.reduceAdd, Nat.reduceLeDiff, reduceCtorEq, decide_eq_true_eq]
  split
  · rename_i hl
    obtain ⟨j, rfl⟩ := Int.eq_ofNat_of_zero_le hk
    rw [atI_nat (show j < ns.length by omega)]
    try simp only [wpAll, wpMore, wpKd, List.replicate_succ, List.replicate_zero, List.getElem?_cons_zero, List.getElem?_cons_succ, List.getElem?_nil, List.set_cons_zero, List.set_cons_succ, Option.bind_some, Option.map_some, Option.bind_none, Option.map_none, List.length_cons, List.length_nil, List.length_map, if_true, if_false, reduceIte, Bool.false_eq_true, Bool.not_true, Bool.not_false, true_and, and_true, implies_true, Nat.zero_add, Nat.reduceAdd, Nat.reduceLeDiff, reduceCtorEq, decide_eq_true_eq]
    generalize hv : (if ns[j] < 0 then -ns[j] else ns[j]) = v
    have h0 : 0 ≤ v := by rw [← hv]; split <;> omega
    refine ⟨by decide, ?_⟩
    split
    · rename_i h2
      exact ⟨⟨big v h0 (by simpa using h2), lt_BIG (by decide)⟩, ⟨lt_BIG (by decide), lt_BIG (by omega)⟩, by decide, key _ _ (by decide)⟩
    · exact ⟨by decide, key _ _ h0⟩
  · refine ⟨by decide, ?_⟩
    split
    · exact ⟨⟨lt_BIG (by decide), lt_BIG (by decide)⟩, ⟨lt_BIG (by decide), lt_BIG (by omega)⟩, by decide, key _ _ (by decide)⟩
    · exact ⟨by decide, key _ _ (by decide)⟩
/-! ### the law -/
theorem isT_eq {x : D} (h : isT x = true) : x = .bl true := by
  unfold isT at h
  split at h
  · rfl
  · cases h
theorem loc_spec {f : Fn} {ds : List D} {M : Sto} {Q : W → Sto → Prop} (h : allT (f ds []) = true) (hk : oks 60 ds = true) (q : ∀ n, Q (.fr (List.replicate n (.bl true))) M) : wpF (locF f) ds M Q := by
  unfold allT at h
  split at h
  · rename_i xs M1 e
    rw [Bool.and_eq_true] at h
    have e2 : xs = List.replicate xs.length (.bl true) := List.eq_replicate_iff.mpr ⟨rfl, fun x hx => isT_eq (List.all_eq_true.mp h.1 x hx)⟩
    refine ⟨.fr xs, M, ?_, by rw [e2]; exact q _⟩
    unfold locF
    rw [if_pos hk, e]
    show (if (W.fr xs).plain = true then some (W.fr xs, M) else none) = _
    exact if_pos (show (W.fr xs).plain = true from h.2)
  · cases h
theorem in_rep {n : Nat} {M : Sto} : inW (.d (.bl false)) (.fr (List.replicate n (.bl true))) M = some (.d (.bl false)) := by
  have e : inW (.d (.bl false)) (.fr (List.replicate n (.bl true))) M = (if D.flat (.bl false) && (List.replicate n (D.bl true)).all D.flat then some (.d (.bl ((List.replicate n (D.bl true)).any fun y => deq y (.bl false)))) else if D.ok 60 (.bl false) && oks 59 (List.replicate n (.bl true)) then some (.d (.bl ((List.replicate n (D.bl true)).any fun y => deq y (.bl false)))) else none) := rfl
  have h1 : (List.replicate n (D.bl true)).all D.flat = true := by
    rw [List.all_eq_true]
    intro x hx
    rw [List.eq_of_mem_replicate hx]
    rfl
  have h2 : ((List.replicate n (D.bl true)).any fun y => deq y (.bl false)) = false := by
    rw [List.any_eq_false]
    intro x hx
    rw [List.eq_of_mem_replicate hx]
    unfold deq
    simp
  rw [e, h1, h2]
  rfl
theorem of_lst {M : Sto} {n : Nat} {xs : List D} {Q : W → Sto → Prop} (h : BagAt M n) (h0 : xs ≠ []) (hl : xs.length ≤ 1000) (q : ∀ x ∈ xs, ∀ M', Bg n M M' → Q (.d x) M') : wpF g__law_of [.cel n, .lst xs] M Q := by
  have hp : 0 < xs.length := List.length_pos_iff.mpr h0
  unfold g__law_of
  rw [wf_mk]
  refine ⟨rfl, ?_⟩
  unfold b__law_of
  try simp only [wpAll, wpMore, wpKd, List.replicate_succ, List.replicate_zero, List.getElem?_cons_zero, List.getElem?_cons_succ, List.getElem?_nil, List.set_cons_zero, List.set_cons_succ, Option.bind_some, Option.map_some, Option.bind_none, Option.map_none, List.length_cons, List.length_nil, List.length_map, if_true, if_false, reduceIte, Bool.false_eq_true, Bool.not_true, Bool.not_false, true_and, and_true, implies_true, Nat.zero_add, Nat.reduceAdd, Nat.reduceLeDiff, reduceCtorEq, decide_eq_true_eq]
  refine take_spec h (by omega) (by omega) fun r M' h1 h2 hb => ?_
  obtain ⟨k, rfl⟩ := Int.eq_ofNat_of_zero_le h1
  try simp only [wpAll, wpMore, wpKd, List.replicate_succ, List.replicate_zero, List.getElem?_cons_zero, List.getElem?_cons_succ, List.getElem?_nil, List.set_cons_zero, List.set_cons_succ, Option.bind_some, Option.map_some, Option.bind_none, Option.map_none, List.length_cons, List.length_nil, List.length_map, if_true, if_false, reduceIte, Bool.false_eq_true, Bool.not_true, Bool.not_false, true_and, and_true, implies_true, Nat.zero_add, Nat.reduceAdd, Nat.reduceLeDiff, reduceCtorEq, decide_eq_true_eq]
  rw [atI_nat (show k < xs.length by omega)]
  try simp only [wpAll, wpMore, wpKd, List.replicate_succ, List.replicate_zero, List.getElem?_cons_zero, List.getElem?_cons_succ, List.getElem?_nil, List.set_cons_zero, List.set_cons_succ, Option.bind_some, Option.map_some, Option.bind_none, Option.map_none, List.length_cons, List.length_nil, List.length_map, if_true, if_false, reduceIte, Bool.false_eq_true, Bool.not_true, Bool.not_false, true_and, and_true, implies_true, Nat.zero_add, Nat.reduceAdd, Nat.reduceLeDiff, reduceCtorEq, decide_eq_true_eq]
  exact q _ (List.getElem_mem _) _ hb
theorem mk_ok : ∀ i j, oks 60 (mk3 i ++ [.tup (nm3 j)]) = true ∧ oks 60 (mk3 i) = true ∧ oks 60 [D.tup (nm3 j)] = true := by decide +kernel
theorem mk_len : ∀ i, ∃ a b, mk3 i = [.str a, .str b] := fun i => match i with
  | 0 => ⟨_, _, rfl⟩
  | 1 => ⟨_, _, rfl⟩
  | 2 => ⟨_, _, rfl⟩
theorem law_true (ns : List Int) (hl : ns.length ≤ 63) (hb : ∀ z ∈ ns, Builtin.Int.intBits z ≤ 1048576) : ∃ M', g_law [.rol ns] [] = some (.d (.bl true), M') := by
  suffices h : wpF g_law [.rol ns] [] fun w _ => w = .d (.bl true) by
    obtain ⟨w, M', h1, rfl⟩ := h
    exact ⟨M', h1⟩
  unfold g_law
  rw [wf_mk]
  refine ⟨rfl, ?_⟩
  unfold b_law
  try simp only [wpAll, wpMore, wpKd, List.replicate_succ, List.replicate_zero, List.getElem?_cons_zero, List.getElem?_cons_succ, List.getElem?_nil, List.set_cons_zero, List.set_cons_succ, Option.bind_some, Option.map_some, Option.bind_none, Option.map_none, List.length_cons, List.length_nil, List.length_map, if_true, if_false, reduceIte, Bool.false_eq_true, Bool.not_true, Bool.not_false, true_and, and_true, implies_true, Nat.zero_add, Nat.reduceAdd, Nat.reduceLeDiff, reduceCtorEq, decide_eq_true_eq]
  refine ⟨by split <;> omega, ?_⟩
  refine wl_inv (fun r δ M' => (∀ x ∈ r, ∃ j : Nat, j < 64 ∧ x = .int (j : Int)) ∧ ∃ x1 x2 x3 x4 x5 : Option W, δ = [some (.d (.rol ns)), x1, x2, x3, x4, x5]) _ ?_ ?_ ⟨fun x hx => ?_, _, _, _, _, _, rfl⟩
  · rintro x r δ M' ⟨hr, x1, x2, x3, x4, x5, rfl⟩
    obtain ⟨k, hk, rfl⟩ := hr x List.mem_cons_self
    have hr' : ∀ y ∈ r, ∃ j : Nat, j < 64 ∧ y = .int (j : Int) := fun y hy => hr y (List.mem_cons_of_mem _ hy)
    try simp (config := { maxSteps := 3000000 }) only [wpAll, wpMore, wpKd, List.replicate_succ, List.replicate_zero, List.getElem?_cons_zero, List.getElem?_cons_succ, List.getElem?_nil, List.set_cons_zero, List.set_cons_succ, Option.bind_some, Option.map_some, Option.bind_none, Option.map_none, List.length_cons, List.length_nil, List.length_map, if_true, if_false, reduceIte, Bool.false_eq_true, Bool.not_true, Bool.not_false, true_and, and_true, implies_true, Nat.zero_add, Nat.reduceAdd, Nat.reduceLeDiff, reduceCtorEq, decide_eq_true_eq]
    refine bag_spec (by omega) (by omega) fun a b h1 h2 h3 => ?_
    try simp (config := { maxSteps := 3000000 }) only [wpAll, wpMore, wpKd, List.replicate_succ, List.replicate_zero, List.getElem?_cons_zero, List.getElem?_cons_succ, List.getElem?_nil, List.set_cons_zero, List.set_cons_succ, Option.bind_some, Option.map_some, Option.bind_none, Option.map_none, List.length_cons, List.length_nil, List.length_map, if_true, if_false, reduceIte, Bool.false_eq_true, Bool.not_true, Bool.not_false, true_and, and_true, implies_true, Nat.zero_add, Nat.reduceAdd, Nat.reduceLeDiff, reduceCtorEq, decide_eq_true_eq]
    have hbag : BagAt (M' ++ [.lst [.int a, .int b]]) M'.length := ⟨a, b, by simp, h1, h2, h3⟩
    generalize M' ++ [.lst [.int a, .int b]] = M1 at hbag
    generalize M'.length = n at hbag
    refine of_lst hbag (by simp) (by simp) fun x hx M2 hb2 => ?_
    have hx' : ∃ i, x = .tup (mk3 i) := by
      rcases List.mem_cons.mp hx with rfl | hx
      · exact ⟨0, rfl⟩
      rcases List.mem_cons.mp hx with rfl | hx
      · exact ⟨1, rfl⟩
      rw [List.mem_singleton.mp hx]
      exact ⟨2, rfl⟩
    obtain ⟨i, rfl⟩ := hx'
    obtain ⟨ax, bo, ei⟩ := mk_len i
    rw [ei]
    try simp (config := { maxSteps := 3000000 }) only [wpAll, wpMore, wpKd, List.replicate_succ, List.replicate_zero, List.getElem?_cons_zero, List.getElem?_cons_succ, List.getElem?_nil, List.set_cons_zero, List.set_cons_succ, Option.bind_some, Option.map_some, Option.bind_none, Option.map_none, List.length_cons, List.length_nil, List.length_map, if_true, if_false, reduceIte, Bool.false_eq_true, Bool.not_true, Bool.not_false, true_and, and_true, implies_true, Nat.zero_add, Nat.reduceAdd, Nat.reduceLeDiff, reduceCtorEq, decide_eq_true_eq]
    refine of_lst hb2.1 (by simp) (by simp) fun y hy M3 hb3 => ?_
    have hy' : ∃ j, y = .tup (nm3 j) := by
      rcases List.mem_cons.mp hy with rfl | hy
      · exact ⟨0, rfl⟩
      rcases List.mem_cons.mp hy with rfl | hy
      · exact ⟨1, rfl⟩
      rw [List.mem_singleton.mp hy]
      exact ⟨2, rfl⟩
    obtain ⟨j, rfl⟩ := hy'
    have ok := mk_ok i j
    have s1 := sh1 i j
    have s2 := ag1 i
    have s3 := de1 j
    have s4 := wo1 i j
    rw [ei] at s1 s2 s4 ok
    try simp (config := { maxSteps := 3000000 }) only [wpAll, wpMore, wpKd, List.replicate_succ, List.replicate_zero, List.getElem?_cons_zero, List.getElem?_cons_succ, List.getElem?_nil, List.set_cons_zero, List.set_cons_succ, Option.bind_some, Option.map_some, Option.bind_none, Option.map_none, List.length_cons, List.length_nil, List.length_map, if_true, if_false, reduceIte, Bool.false_eq_true, Bool.not_true, Bool.not_false, true_and, and_true, implies_true, Nat.zero_add, Nat.reduceAdd, Nat.reduceLeDiff, reduceCtorEq, decide_eq_true_eq]
    refine loc_spec s1 ok.1 fun n1 => ?_
    rw [in_rep]
    try simp (config := { maxSteps := 3000000 }) only [wpAll, wpMore, wpKd, List.replicate_succ, List.replicate_zero, List.getElem?_cons_zero, List.getElem?_cons_succ, List.getElem?_nil, List.set_cons_zero, List.set_cons_succ, Option.bind_some, Option.map_some, Option.bind_none, Option.map_none, List.length_cons, List.length_nil, List.length_map, if_true, if_false, reduceIte, Bool.false_eq_true, Bool.not_true, Bool.not_false, true_and, and_true, implies_true, Nat.zero_add, Nat.reduceAdd, Nat.reduceLeDiff, reduceCtorEq, decide_eq_true_eq]
    refine loc_spec s2 ok.2.1 fun n2 => ?_
    rw [in_rep]
    try simp (config := { maxSteps := 3000000 }) only [wpAll, wpMore, wpKd, List.replicate_succ, List.replicate_zero, List.getElem?_cons_zero, List.getElem?_cons_succ, List.getElem?_nil, List.set_cons_zero, List.set_cons_succ, Option.bind_some, Option.map_some, Option.bind_none, Option.map_none, List.length_cons, List.length_nil, List.length_map, if_true, if_false, reduceIte, Bool.false_eq_true, Bool.not_true, Bool.not_false, true_and, and_true, implies_true, Nat.zero_add, Nat.reduceAdd, Nat.reduceLeDiff, reduceCtorEq, decide_eq_true_eq]
    refine loc_spec s3 ok.2.2 fun n3 => ?_
    rw [in_rep]
    try simp (config := { maxSteps := 3000000 }) only [wpAll, wpMore, wpKd, List.replicate_succ, List.replicate_zero, List.getElem?_cons_zero, List.getElem?_cons_succ, List.getElem?_nil, List.set_cons_zero, List.set_cons_succ, Option.bind_some, Option.map_some, Option.bind_none, Option.map_none, List.length_cons, List.length_nil, List.length_map, if_true, if_false, reduceIte, Bool.false_eq_true, Bool.not_true, Bool.not_false, true_and, and_true, implies_true, Nat.zero_add, Nat.reduceAdd, Nat.reduceLeDiff, reduceCtorEq, decide_eq_true_eq]
    refine loc_spec s4 ok.1 fun n4 => ?_
    rw [in_rep]
    try simp (config := { maxSteps := 3000000 }) only [wpAll, wpMore, wpKd, List.replicate_succ, List.replicate_zero, List.getElem?_cons_zero, List.getElem?_cons_succ, List.getElem?_nil, List.set_cons_zero, List.set_cons_succ, Option.bind_some, Option.map_some, Option.bind_none, Option.map_none, List.length_cons, List.length_nil, List.length_map, if_true, if_false, reduceIte, Bool.false_eq_true, Bool.not_true, Bool.not_false, true_and, and_true, implies_true, Nat.zero_add, Nat.reduceAdd, Nat.reduceLeDiff, reduceCtorEq, decide_eq_true_eq]
    exact ⟨hr', _, _, _, _, _, rfl⟩
  · rintro δ M' ⟨hr, x1, x2, x3, x4, x5, rfl⟩
    try simp (config := { maxSteps := 3000000 }) only [wpAll, wpMore, wpKd, List.replicate_succ, List.replicate_zero, List.getElem?_cons_zero, List.getElem?_cons_succ, List.getElem?_nil, List.set_cons_zero, List.set_cons_succ, Option.bind_some, Option.map_some, Option.bind_none, Option.map_none, List.length_cons, List.length_nil, List.length_map, if_true, if_false, reduceIte, Bool.false_eq_true, Bool.not_true, Bool.not_false, true_and, and_true, implies_true, Nat.zero_add, Nat.reduceAdd, Nat.reduceLeDiff, reduceCtorEq, decide_eq_true_eq]
  · obtain ⟨j, hj, rfl⟩ := ran_mem hx
    refine ⟨j, ?_, rfl⟩
    split at hj <;> omega
end K14
/-! the walk of K14 -/
namespace K14
open Mi PySem L2
abbrev top (i : Nat) : Stmt := PySem.Challenge.pw_marksure_k14_written_cases.main.body.getD i (.Pass ⟨0, 0, 0, 0⟩)
structure Txt (mg : Str → Option Value) : Prop where
  b_abs : mg "abs" = none
  b_all : mg "all" = none
  b_bool : mg "bool" = none
  b_dict : mg "dict" = none
  b_enumerate : mg "enumerate" = none
  b_int : mg "int" = none
  b_isinstance : mg "isinstance" = none
  b_len : mg "len" = none
  b_list : mg "list" = none
  b_max : mg "max" = none
  b_min : mg "min" = none
  b_range : mg "range" = none
  b_sorted : mg "sorted" = none
  b_str : mg "str" = none
  b_sum : mg "sum" = none
  b_tuple : mg "tuple" = none
  b_zip : mg "zip" = none
  c_LETTERS : ∃ t, mg "LETTERS" = some (.str "abcdefghijklmnopqrstuvwxyz" t)
  c_MOST_EACH : ∃ t, mg "MOST_EACH" = some (.int 4 t)
  c_MOST_HANDS : ∃ t, mg "MOST_HANDS" = some (.int 6 t)
  c_MOST_MARKS : ∃ t, mg "MOST_MARKS" = some (.int 5 t)
  c_MOST_NUMBER : ∃ t, mg "MOST_NUMBER" = some (.int 8 t)
  c_MOST_OPEN : ∃ t, mg "MOST_OPEN" = some (.int 8 t)
  c_MOST_PRICE : ∃ t, mg "MOST_PRICE" = some (.int 1000 t)
structure TxC (Pr : Program) (w : World) (K : PySem.W.Frag) (mg : Str → Option Value) (base : Heap) (C : Zs) : Prop where
  cls : Cls K C.C
  n_bars : NoAttr K C.C "bars"
  n_busy : NoAttr K C.C "busy"
  n_cents : NoAttr K C.C "cents"
  n_crew : NoAttr K C.C "crew"
  n_ended : NoAttr K C.C "ended"
  n_known : NoAttr K C.C "known"
  n_marks : NoAttr K C.C "marks"
  n_money : NoAttr K C.C "money"
  n_out : NoAttr K C.C "out"
  n_waiting : NoAttr K C.C "waiting"
  x_NoMarks : ExC K mg (C.ex "NoMarks") "NoMarks"
  x_NoPrice : ExC K mg (C.ex "NoPrice") "NoPrice"
  x_NoName : ExC K mg (C.ex "NoName") "NoName"
  x_NoNumber : ExC K mg (C.ex "NoNumber") "NoNumber"
  x_NoMark : ExC K mg (C.ex "NoMark") "NoMark"
  x_NoBound : ExC K mg (C.ex "NoBound") "NoBound"
  x_Taken : ExC K mg (C.ex "Taken") "Taken"
  i_NoHand : ExI Pr w K mg base (C.ex "NoHand") "NoHand" "name"
  i_NoThing : ExI Pr w K mg base (C.ex "NoThing") "NoThing" "name"
  x_Full : ExC K mg (C.ex "Full") "Full"
  x_Judged : ExC K mg (C.ex "Judged") "Judged"
  i_Lacks : ExI Pr w K mg base (C.ex "Lacks") "Lacks" "things"
  g_Lacks : mg "Lacks" = some (.ref (C.ex "Lacks"))
  m_Lacks : PySem.W.exmOne K (.ref (C.ex "Lacks")) (.ref (C.ex "Lacks")) = some true
  f_Lacks : XfC K (C.ex "Lacks") ∧ PySem.W.findIn K (.ref (C.ex "Lacks")) "things" = some none
abbrev st_NoHand : Stmt := clsAt (top 39) 0
theorem sc_NoHand : FnScope ["self", "name"] ["self", "name"] (defScope st_NoHand) := ⟨rfl, rfl, rfl, by decide +kernel, rfl, by decide +kernel, by decide +kernel⟩
theorem ok_NoHand {Pr : Program} {w : World} {K : PySem.W.Frag} {mg : Str → Option Value} {base : Heap} (V : VeB K mg "AskedError") {f : Addr} {fd : FuncData} (Fu : Fun K "__init__" "NoHand.__init__" st_NoHand f fd) : FnOk Pr w K mg base CX0 1 f fd ["self", "name"] (spInit K "name") :=
  init_ok Fu sc_NoHand V rfl fun cdv A outer s H E => pss_cons (ps_expr (pe_ainit V (pa_cons (pv 0) (pa_cons pe_str pa_nil)))) (pss_one (ps_ost (pv 0) (pv 1)))
abbrev st_NoThing : Stmt := clsAt (top 40) 0
theorem sc_NoThing : FnScope ["self", "name"] ["self", "name"] (defScope st_NoThing) := ⟨rfl, rfl, rfl, by decide +kernel, rfl, by decide +kernel, by decide +kernel⟩
theorem ok_NoThing {Pr : Program} {w : World} {K : PySem.W.Frag} {mg : Str → Option Value} {base : Heap} (V : VeB K mg "AskedError") {f : Addr} {fd : FuncData} (Fu : Fun K "__init__" "NoThing.__init__" st_NoThing f fd) : FnOk Pr w K mg base CX0 1 f fd ["self", "name"] (spInit K "name") :=
  init_ok Fu sc_NoThing V rfl fun cdv A outer s H E => pss_cons (ps_expr (pe_ainit V (pa_cons (pv 0) (pa_cons pe_str pa_nil)))) (pss_one (ps_ost (pv 0) (pv 1)))
abbrev st_Lacks : Stmt := clsAt (top 43) 0
theorem sc_Lacks : FnScope ["self", "things"] ["self", "things"] (defScope st_Lacks) := ⟨rfl, rfl, rfl, by decide +kernel, rfl, by decide +kernel, by decide +kernel⟩
theorem ok_Lacks {Pr : Program} {w : World} {K : PySem.W.Frag} {mg : Str → Option Value} {base : Heap} (V : VeB K mg "AskedError") {f : Addr} {fd : FuncData} (Fu : Fun K "__init__" "Lacks.__init__" st_Lacks f fd) : FnOk Pr w K mg base CX0 1 f fd ["self", "things"] (spInit K "things") :=
  init_ok Fu sc_Lacks V rfl fun cdv A outer s H E => pss_cons (ps_expr (pe_ainit V (pa_cons (pv 0) (pa_cons pe_str pa_nil)))) (pss_one (ps_ost (pv 0) (pv 1)))
section
variable {Pr : Program} {w : World} {K : PySem.W.Frag} {mg : Str → Option Value} {base : Heap} {C : Zs}
abbrev st_is_whole : Stmt := top 4
abbrev n_is_whole : List Str := ["thing"]
theorem sc_is_whole : FnScope n_is_whole ["thing"] (defScope st_is_whole) := ⟨rfl, rfl, rfl, by decide +kernel, rfl, by decide +kernel, by decide +kernel⟩
theorem ok_is_whole (T : Txt mg) (TC : TxC Pr w K mg base C) {f : Addr} {fd : FuncData} (Fu : Fun K "is_whole" "is_whole" st_is_whole f fd) : FnOk Pr w K mg base CX0 1 f fd ["thing"] (spF ⟨K, C⟩ g_is_whole) :=
  fn_ok (N := n_is_whole) Fu sc_is_whole fun cdv A outer s H E hr =>
    (ss_one (s_ret (e_and (e_isi (e_var (i := 0)) T.b_isinstance T.b_int (by decide +kernel) kd_int) (e_one (e_not (e_isi (e_var (i := 0)) T.b_isinstance T.b_bool (by decide +kernel) kd_bool))))))

abbrev st_is_within : Stmt := top 5
abbrev n_is_within : List Str := ["thing", "least", "most"]
theorem sc_is_within : FnScope n_is_within ["thing", "least", "most"] (defScope st_is_within) := ⟨rfl, rfl, rfl, by decide +kernel, rfl, by decide +kernel, by decide +kernel⟩
theorem ok_is_within (T : Txt mg) (TC : TxC Pr w K mg base C) (c_is_whole : Cl Pr w K mg base C 1 "is_whole" g_is_whole) {f : Addr} {fd : FuncData} (Fu : Fun K "is_within" "is_within" st_is_within f fd) : FnOk Pr w K mg base CX0 2 f fd ["thing", "least", "most"] (spF ⟨K, C⟩ g_is_within) :=
  fn_ok (N := n_is_within) Fu sc_is_within fun cdv A outer s H E hr =>
    (ss_one (s_ret (e_and (e_cl c_is_whole hr (by decide) (a_cons (e_var (i := 0)) a_nil)) (e_one (e_chain op_le c_le op_le c_le (e_var (i := 1)) (e_var (i := 0)) (e_var (i := 2)))))))

abbrev st_is_name : Stmt := top 6
abbrev n_is_name : List Str := ["thing", "sign"]
theorem sc_is_name : FnScope n_is_name ["thing"] (defScope st_is_name) := ⟨rfl, rfl, rfl, by decide +kernel, rfl, by decide +kernel, by decide +kernel⟩
theorem ok_is_name (T : Txt mg) (TC : TxC Pr w K mg base C) {f : Addr} {fd : FuncData} (Fu : Fun K "is_name" "is_name" st_is_name f fd) : FnOk Pr w K mg base CX0 1 f fd ["thing"] (spF ⟨K, C⟩ g_is_name) :=
  fn_ok (N := n_is_name) Fu sc_is_name fun cdv A outer s H E hr =>
    (ss_one (s_ret (e_and (e_isi (e_var (i := 0)) T.b_isinstance T.b_str (by decide +kernel) kd_str) (e_and (e_chain op_le c_le op_le c_le e_int (e_blt call_lenM c_len T.b_len (by decide +kernel) (a_cons (e_var (i := 0)) a_nil)) e_int) (e_one (e_blt (cr_all rfl) c_all T.b_all (by decide +kernel) (a_cons (e_comp (own := [("sign", 1)]) rfl sc_is_name.nd (i_it (e_var (i := 0))) (N' := n_is_name) (sc' := defScope st_is_name) rfl rfl (by decide +kernel) (fun _ _ _ _ _ => (b_name (i := 1) sc_is_name.nd)) (fun _ _ _ _ _ => tt_yes) (fun _ _ _ _ _ => (e_cmp (op_inM (hu65 hr)) c_in (e_var (i := 1)) (e_gs (i := "abcdefghijklmnopqrstuvwxyz") T.c_LETTERS) (by with_unfolding_all rfl))) (by decide)) a_nil)))))))

abbrev st_are_rising : Stmt := top 7
abbrev n_are_rising : List Str := ["some", "one", "other"]
theorem sc_are_rising : FnScope n_are_rising ["some"] (defScope st_are_rising) := ⟨rfl, rfl, rfl, by decide +kernel, rfl, by decide +kernel, by decide +kernel⟩
theorem ok_are_rising (T : Txt mg) (TC : TxC Pr w K mg base C) {f : Addr} {fd : FuncData} (Fu : Fun K "are_rising" "are_rising" st_are_rising f fd) : FnOk Pr w K mg base CX0 1 f fd ["some"] (spF ⟨K, C⟩ g_are_rising) :=
  fn_ok (N := n_are_rising) Fu sc_are_rising fun cdv A outer s H E hr =>
    (ss_one (s_ret (e_blt (cr_all rfl) c_all T.b_all (by decide +kernel) (a_cons (e_comp (own := [("one", 1), ("other", 2)]) rfl sc_are_rising.nd (i_zip T.b_zip (e_var (i := 0)) (e_sl (e_var (i := 0)) (o_some e_int) o_none)) (N' := n_are_rising) (sc' := defScope st_are_rising) rfl rfl (by decide +kernel) (fun _ _ _ _ _ => (b_tup rfl (nt_cons (i := 1) sc_are_rising.nd (nt_cons (i := 2) sc_are_rising.nd nt_nil)))) (fun _ _ _ _ _ => tt_yes) (fun _ _ _ _ _ => (e_cmp op_ltQ c_ltQ (e_var (i := 1)) (e_var (i := 2)) (nomark _))) (by decide)) a_nil))))

abbrev st_lowest : Stmt := top 8
abbrev n_lowest : List Str := ["top", "bottom", "one", "other"]
theorem sc_lowest : FnScope n_lowest ["top", "bottom"] (defScope st_lowest) := ⟨rfl, rfl, rfl, by decide +kernel, rfl, by decide +kernel, by decide +kernel⟩
theorem ok_lowest (T : Txt mg) (TC : TxC Pr w K mg base C) {f : Addr} {fd : FuncData} (Fu : Fun K "lowest" "lowest" st_lowest f fd) : FnOk Pr w K mg base CX0 1 f fd ["top", "bottom"] (spF ⟨K, C⟩ g_lowest) :=
  fn_ok (N := n_lowest) Fu sc_lowest fun cdv A outer s H E hr =>
    (ss_cons (s_par (i := 2) (j := 3) rfl sc_lowest.nd (a_cons (e_var (i := 0)) (a_cons (e_var (i := 1)) a_nil)))
    (ss_cons (s_while (fun δ => fuelW δ 3 + 1) PassesOwn.never (t_cmp op_gt c_gt (e_var (i := 3)) e_int (nomark _)) (ss_one (s_par (i := 2) (j := 3) rfl sc_lowest.nd (a_cons (e_var (i := 3)) (a_cons (e_bin op_mod c_mod (e_var (i := 2)) (e_var (i := 3))) a_nil)))))
    (ss_one (s_ret (e_tup (a_cons (e_bin op_fdvM c_fdv (e_var (i := 0)) (e_var (i := 2))) (a_cons (e_bin op_fdvM c_fdv (e_var (i := 1)) (e_var (i := 2))) a_nil)))))))

abbrev st_are_marks : Stmt := top 9
abbrev n_are_marks : List Str := ["thing", "one"]
theorem sc_are_marks : FnScope n_are_marks ["thing"] (defScope st_are_marks) := ⟨rfl, rfl, rfl, by decide +kernel, rfl, by decide +kernel, by decide +kernel⟩
theorem ok_are_marks (T : Txt mg) (TC : TxC Pr w K mg base C) (c_are_rising : Cl Pr w K mg base C 1 "are_rising" g_are_rising) (c_is_name : Cl Pr w K mg base C 1 "is_name" g_is_name) {f : Addr} {fd : FuncData} (Fu : Fun K "are_marks" "are_marks" st_are_marks f fd) : FnOk Pr w K mg base CX0 2 f fd ["thing"] (spF ⟨K, C⟩ g_are_marks) :=
  fn_ok (N := n_are_marks) Fu sc_are_marks fun cdv A outer s H E hr =>
    (ss_cons (s_if (tw_t (tw_or (t_not (t_val (e_isi (e_var (i := 0)) T.b_isinstance T.b_tuple (by decide +kernel) kd_tuple))) (tw_or1 (t_not (t_chain op_le c_le op_le c_le e_int (e_blt call_lenM c_len T.b_len (by decide +kernel) (a_cons (e_var (i := 0)) a_nil)) (e_gi (i := 5) T.c_MOST_MARKS)))))) (ss_one (s_ret e_bl)) ss_nil)
    (ss_one (s_ret (e_and (e_blt (cr_all rfl) c_all T.b_all (by decide +kernel) (a_cons (e_comp (own := [("one", 1)]) rfl sc_are_marks.nd (i_it (e_var (i := 0))) (N' := n_are_marks) (sc' := defScope st_are_marks) rfl rfl (by decide +kernel) (fun _ _ _ _ _ => (b_name (i := 1) sc_are_marks.nd)) (fun _ _ _ _ _ => tt_yes) (fun _ _ _ _ _ => (e_cl c_is_name hr (by decide) (a_cons (e_var (i := 1)) a_nil))) (by decide)) a_nil)) (e_one (e_cl c_are_rising hr (by decide) (a_cons (e_var (i := 0)) a_nil)))))))

abbrev st_sure_by : Stmt := top 10
abbrev n_sure_by : List Str := ["right", "seen"]
theorem sc_sure_by : FnScope n_sure_by ["right", "seen"] (defScope st_sure_by) := ⟨rfl, rfl, rfl, by decide +kernel, rfl, by decide +kernel, by decide +kernel⟩
theorem ok_sure_by (T : Txt mg) (TC : TxC Pr w K mg base C) (c_lowest : Cl Pr w K mg base C 1 "lowest" g_lowest) {f : Addr} {fd : FuncData} (Fu : Fun K "sure_by" "sure_by" st_sure_by f fd) : FnOk Pr w K mg base CX0 2 f fd ["right", "seen"] (spF ⟨K, C⟩ g_sure_by) :=
  fn_ok (N := n_sure_by) Fu sc_sure_by fun cdv A outer s H E hr =>
    (ss_one (s_ret (e_cl c_lowest hr (by decide) (a_cons (e_bin op_addM c_add (e_var (i := 0)) e_int) (a_cons (e_bin op_addM c_add (e_var (i := 1)) e_int) a_nil)))))

abbrev st_weights : Stmt := top 11
abbrev n_weights : List Str := ["marks", "hands", "answers", "sure", "found", "mark", "name", "told", "top", "bottom", "at"]
theorem sc_weights : FnScope n_weights ["marks", "hands", "answers"] (defScope st_weights) := ⟨rfl, rfl, rfl, by decide +kernel, rfl, by decide +kernel, by decide +kernel⟩
theorem ok_weights (T : Txt mg) (TC : TxC Pr w K mg base C) {f : Addr} {fd : FuncData} (Fu : Fun K "weights" "weights" st_weights f fd) : FnOk Pr w K mg base CX0 1 f fd ["marks", "hands", "answers"] (spF ⟨K, C⟩ g_weights) :=
  fn_ok (N := n_weights) Fu sc_weights fun cdv A outer s H E hr =>
    (ss_cons (s_own (i := 3) sc_weights.nd (e_bty (call_dictA rfl) c_dictA T.b_dict (by decide +kernel) (a_cons (e_var (i := 1)) a_nil)))
    (ss_cons (s_ownLc (own := [("mark", 5)]) (j := 4) rfl sc_weights.nd (i_it (e_var (i := 0))) (N' := n_weights) (sc' := defScope st_weights) rfl rfl (by decide +kernel) (fun _ _ _ _ _ => (b_name (i := 5) sc_weights.nd)) (fun _ _ _ _ _ => tt_yes) (fun _ _ _ _ _ => e_int) (by decide))
    (ss_cons (s_for rfl PassesOwn.never (i_it (e_var (i := 2))) (b_tup rfl (nt_cons (i := 6) sc_weights.nd (nt_cons (i := 7) sc_weights.nd nt_nil))) (ss_cons (s_unp rfl (nt_cons (i := 8) sc_weights.nd (nt_cons (i := 9) sc_weights.nd nt_nil)) (e_ix hr (e_var (i := 3)) (e_var (i := 6))))
    (ss_one (s_for rfl PassesOwn.never (i_enum T.b_enumerate (e_var (i := 0))) (b_tup rfl (nt_cons (i := 10) sc_weights.nd (nt_cons (i := 5) sc_weights.nd nt_nil))) (ss_one (s_augO (i := 4) hr ipM (e_var (i := 10)) (e_if (t_cmp (op_eqM (hu64 hr)) c_eq (e_var (i := 5)) (e_var (i := 7)) (nomark _)) (e_bin op_mulM c_mul (e_var (i := 8)) (e_bin op_subM c_sub (e_blt call_lenM c_len T.b_len (by decide +kernel) (a_cons (e_var (i := 0)) a_nil)) e_int)) (e_bin op_subM c_sub (e_var (i := 9)) (e_var (i := 8))))))))))
    (ss_one (s_ret (e_var (i := 4)))))))

abbrev st_shares : Stmt := top 12
abbrev n_shares : List Str := ["marks", "hands", "answers", "some", "one"]
theorem sc_shares : FnScope n_shares ["marks", "hands", "answers"] (defScope st_shares) := ⟨rfl, rfl, rfl, by decide +kernel, rfl, by decide +kernel, by decide +kernel⟩
theorem ok_shares (T : Txt mg) (TC : TxC Pr w K mg base C) (c_weights : Cl Pr w K mg base C 1 "weights" g_weights) (c_lowest : Cl Pr w K mg base C 1 "lowest" g_lowest) {f : Addr} {fd : FuncData} (Fu : Fun K "shares" "shares" st_shares f fd) : FnOk Pr w K mg base CX0 2 f fd ["marks", "hands", "answers"] (spF ⟨K, C⟩ g_shares) :=
  fn_ok (N := n_shares) Fu sc_shares fun cdv A outer s H E hr =>
    (ss_cons (s_asg (i := 3) sc_shares.nd (e_cl c_weights hr (by decide) (a_cons (e_var (i := 0)) (a_cons (e_var (i := 1)) (a_cons (e_var (i := 2)) a_nil)))))
    (ss_one (s_ret (e_bty call_tupP c_tupP T.b_tuple (by decide +kernel) (a_cons (e_comp (own := [("one", 4)]) rfl sc_shares.nd (i_it (e_var (i := 3))) (N' := n_shares) (sc' := defScope st_shares) rfl rfl (by decide +kernel) (fun _ _ _ _ _ => (b_name (i := 4) sc_shares.nd)) (fun _ _ _ _ _ => tt_yes) (fun _ _ _ _ _ => (e_cl c_lowest hr (by decide) (a_cons (e_var (i := 4)) (a_cons (e_blt (cr_sum rfl) c_sum T.b_sum (by decide +kernel) (a_cons (e_var (i := 3)) a_nil)) a_nil)))) (by decide)) a_nil)))))

abbrev st_first_mark : Stmt := top 13
abbrev n_first_mark : List Str := ["marks", "hands", "answers", "some"]
theorem sc_first_mark : FnScope n_first_mark ["marks", "hands", "answers"] (defScope st_first_mark) := ⟨rfl, rfl, rfl, by decide +kernel, rfl, by decide +kernel, by decide +kernel⟩
theorem ok_first_mark (T : Txt mg) (TC : TxC Pr w K mg base C) (c_weights : Cl Pr w K mg base C 1 "weights" g_weights) {f : Addr} {fd : FuncData} (Fu : Fun K "first_mark" "first_mark" st_first_mark f fd) : FnOk Pr w K mg base CX0 2 f fd ["marks", "hands", "answers"] (spF ⟨K, C⟩ g_first_mark) :=
  fn_ok (N := n_first_mark) Fu sc_first_mark fun cdv A outer s H E hr =>
    (ss_cons (s_asg (i := 3) sc_first_mark.nd (e_cl c_weights hr (by decide) (a_cons (e_var (i := 0)) (a_cons (e_var (i := 1)) (a_cons (e_var (i := 2)) a_nil)))))
    (ss_one (s_ret (e_ix hr (e_var (i := 0)) (e_mt PySem.F.plainAttrs_list PySem.F.slot_list_index PySem.F.type_list_index mt_index ty_list c_indexL (e_var (i := 3)) (a_cons (e_blt (call_maxM rfl) c_max T.b_max (by decide +kernel) (a_cons (e_var (i := 3)) a_nil)) a_nil))))))

abbrev st_is_turn : Stmt := top 15
abbrev n_is_turn : List Str := ["marks", "hands", "answers", "left", "thing", "pair", "names", "one", "other"]
theorem sc_is_turn : FnScope n_is_turn ["marks", "hands", "answers", "left", "thing"] (defScope st_is_turn) := ⟨rfl, rfl, rfl, by decide +kernel, rfl, by decide +kernel, by decide +kernel⟩
theorem ok_is_turn (T : Txt mg) (TC : TxC Pr w K mg base C) (c_first_mark : Cl Pr w K mg base C 2 "first_mark" g_first_mark) (c_is_name : Cl Pr w K mg base C 1 "is_name" g_is_name) {f : Addr} {fd : FuncData} (Fu : Fun K "is_turn" "is_turn" st_is_turn f fd) : FnOk Pr w K mg base CX0 3 f fd ["marks", "hands", "answers", "left", "thing"] (spF ⟨K, C⟩ g_is_turn) :=
  fn_ok (N := n_is_turn) Fu sc_is_turn fun cdv A outer s H E hr =>
    (ss_cons (s_if (t_not (t_val (e_isi (e_var (i := 4)) T.b_isinstance T.b_tuple (by decide +kernel) kd_tuple))) (ss_one (s_ret e_bl)) ss_nil)
    (ss_cons (s_for rfl PassesOwn.never (i_it (e_var (i := 4))) (b_name (i := 5) sc_is_turn.nd) (ss_cons (s_if (tw_t (tw_or (t_not (t_val (e_isi (e_var (i := 5)) T.b_isinstance T.b_tuple (by decide +kernel) kd_tuple))) (tw_or (t_cmp (op_neM (hu64 hr)) c_ne (e_blt call_lenM c_len T.b_len (by decide +kernel) (a_cons (e_var (i := 5)) a_nil)) e_int (nomark _)) (tw_or (t_not (t_val (e_cl c_is_name hr (by decide) (a_cons (e_ix hr (e_var (i := 5)) e_int) a_nil)))) (tw_or1 (t_cmp (op_ninM (hu65 hr)) c_nin (e_ix hr (e_var (i := 5)) e_int) (e_var (i := 3)) (by with_unfolding_all rfl))))))) (ss_one (s_ret e_bl)) ss_nil)
    (ss_one (s_if (tw_t (tw_or (t_not (t_val (e_isi (e_ix hr (e_var (i := 5)) e_int) T.b_isinstance T.b_str (by decide +kernel) kd_str))) (tw_or1 (t_cmp (op_ninM (hu65 hr)) c_nin (e_ix hr (e_var (i := 5)) e_int) (e_var (i := 0)) (by with_unfolding_all rfl))))) (ss_one (s_ret e_bl)) ss_nil))))
    (ss_cons (s_asgLc (own := [("pair", 5)]) (j := 6) rfl sc_is_turn.nd (i_it (e_var (i := 4))) (N' := n_is_turn) (sc' := defScope st_is_turn) rfl rfl (by decide +kernel) (fun _ _ _ _ _ => (b_name (i := 5) sc_is_turn.nd)) (fun _ _ _ _ _ => tt_yes) (fun _ _ _ _ _ => (e_ix hr (e_var (i := 5)) e_int)) (by decide))
    (ss_cons (s_if (t_not (t_val (e_blt (cr_all rfl) c_all T.b_all (by decide +kernel) (a_cons (e_comp (own := [("one", 7), ("other", 8)]) rfl sc_is_turn.nd (i_zip T.b_zip (e_var (i := 6)) (e_sl (e_var (i := 6)) (o_some e_int) o_none)) (N' := n_is_turn) (sc' := defScope st_is_turn) rfl rfl (by decide +kernel) (fun _ _ _ _ _ => (b_tup rfl (nt_cons (i := 7) sc_is_turn.nd (nt_cons (i := 8) sc_is_turn.nd nt_nil)))) (fun _ _ _ _ _ => tt_yes) (fun _ _ _ _ _ => (e_cmp op_ltQ c_ltQ (e_var (i := 7)) (e_var (i := 8)) (nomark _))) (by decide)) a_nil)))) (ss_one (s_ret e_bl)) ss_nil)
    (ss_one (s_ret (e_cmp (op_neM (hu64 hr)) c_ne (e_cl c_first_mark hr (by decide) (a_cons (e_var (i := 0)) (a_cons (e_var (i := 1)) (a_cons (e_bin op_addM c_add (e_var (i := 2)) (e_var (i := 4))) a_nil)))) (e_cl c_first_mark hr (by decide) (a_cons (e_var (i := 0)) (a_cons (e_var (i := 1)) (a_cons (e_var (i := 2)) a_nil)))) (nomark _))))))))

abbrev st_pulls : Stmt := top 16
abbrev n_pulls : List Str := ["marks", "hands", "left", "sure", "found", "name", "top", "bottom", "own", "other"]
theorem sc_pulls : FnScope n_pulls ["marks", "hands", "left"] (defScope st_pulls) := ⟨rfl, rfl, rfl, by decide +kernel, rfl, by decide +kernel, by decide +kernel⟩
theorem ok_pulls (T : Txt mg) (TC : TxC Pr w K mg base C) {f : Addr} {fd : FuncData} (Fu : Fun K "pulls" "pulls" st_pulls f fd) : FnOk Pr w K mg base CX0 1 f fd ["marks", "hands", "left"] (spF ⟨K, C⟩ g_pulls) :=
  fn_ok (N := n_pulls) Fu sc_pulls fun cdv A outer s H E hr =>
    (ss_cons (s_own (i := 3) sc_pulls.nd (e_bty (call_dictA rfl) c_dictA T.b_dict (by decide +kernel) (a_cons (e_var (i := 1)) a_nil)))
    (ss_cons (s_own (i := 4) sc_pulls.nd (e_lst a_nil))
    (ss_cons (s_for rfl PassesOwn.never (i_it (e_var (i := 2))) (b_name (i := 5) sc_pulls.nd) (ss_cons (s_unp rfl (nt_cons (i := 6) sc_pulls.nd (nt_cons (i := 7) sc_pulls.nd nt_nil)) (e_ix hr (e_var (i := 3)) (e_var (i := 5))))
    (ss_cons (s_par (i := 8) (j := 9) rfl sc_pulls.nd (a_cons (e_bin op_mulM c_mul (e_var (i := 6)) (e_bin op_subM c_sub (e_blt call_lenM c_len T.b_len (by decide +kernel) (a_cons (e_var (i := 0)) a_nil)) e_int)) (a_cons (e_bin op_subM c_sub (e_var (i := 7)) (e_var (i := 6))) a_nil)))
    (ss_one (s_app (i := 4) (e_tup (a_cons (e_blt (call_maxM rfl) c_max T.b_max (by decide +kernel) (a_cons (e_var (i := 8)) (a_cons (e_var (i := 9)) a_nil))) (a_cons (e_blt (call_min2 rfl) c_min T.b_min (by decide +kernel) (a_cons (e_var (i := 8)) (a_cons (e_var (i := 9)) a_nil))) a_nil))))))))
    (ss_one (s_ret (e_var (i := 4)))))))

abbrev st_can_with : Stmt := top 17
abbrev n_can_with : List Str := ["marks", "hands", "answers", "pairs", "left", "many", "first", "some", "best", "chosen", "turn", "top", "one", "at", "mine", "firsts", "bottom"]
theorem sc_can_with : FnScope n_can_with ["marks", "hands", "answers", "pairs", "left", "many"] (defScope st_can_with) := ⟨rfl, rfl, rfl, by decide +kernel, rfl, by decide +kernel, by decide +kernel⟩
theorem ok_can_with (T : Txt mg) (TC : TxC Pr w K mg base C) (c_weights : Cl Pr w K mg base C 1 "weights" g_weights) (c_pulls : Cl Pr w K mg base C 1 "pulls" g_pulls) (c_first_mark : Cl Pr w K mg base C 2 "first_mark" g_first_mark) {f : Addr} {fd : FuncData} (Fu : Fun K "can_with" "can_with" st_can_with f fd) : FnOk Pr w K mg base CX0 3 f fd ["marks", "hands", "answers", "pairs", "left", "many"] (spF ⟨K, C⟩ g_can_with) :=
  fn_ok (N := n_can_with) Fu sc_can_with fun cdv A outer s H E hr =>
    (ss_cons (s_asg (i := 6) sc_can_with.nd (e_tindex (e_var (i := 0)) (e_cl c_first_mark hr (by decide) (a_cons (e_var (i := 0)) (a_cons (e_var (i := 1)) (a_cons (e_var (i := 2)) a_nil))))))
    (ss_cons (s_asg (i := 7) sc_can_with.nd (e_cl c_weights hr (by decide) (a_cons (e_var (i := 0)) (a_cons (e_var (i := 1)) (a_cons (e_bin op_addM c_add (e_var (i := 2)) (e_var (i := 3))) a_nil)))))
    (ss_cons (s_asg (i := 8) sc_can_with.nd (e_cel (e_cl c_pulls hr (by decide) (a_cons (e_var (i := 0)) (a_cons (e_var (i := 1)) (a_cons (e_var (i := 4)) a_nil))))))
    (ss_cons (s_own (i := 9) sc_can_with.nd (e_lst a_nil))
    (ss_cons (s_for rfl PassesOwn.never (i_range1 T.b_range (e_blt (call_min2 rfl) c_min T.b_min (by decide +kernel) (a_cons (e_var (i := 5)) (a_cons (e_blt call_lenM c_len T.b_len (by decide +kernel) (a_cons (e_var (i := 8)) a_nil)) a_nil)))) (b_name (i := 10) sc_can_with.nd) (ss_cons (s_asg (i := 11) sc_can_with.nd (e_ix hr (e_var (i := 8)) e_int))
    (ss_cons (s_forC 100 rfl PassesOwn.never (e_var (i := 8)) (b_name (i := 12) sc_can_with.nd) (ss_one (s_if (t_cmp op_gt c_gt (e_bin op_mulM c_mul (e_ix hr (e_var (i := 12)) e_int) (e_ix hr (e_var (i := 11)) e_int)) (e_bin op_mulM c_mul (e_ix hr (e_var (i := 11)) e_int) (e_ix hr (e_var (i := 12)) e_int)) (nomark _)) (ss_one (s_asg (i := 11) sc_can_with.nd (e_var (i := 12)))) ss_nil)))
    (ss_cons (s_remC hr (e_var (i := 8)) (e_var (i := 11)))
    (ss_one (s_app (i := 9) (e_var (i := 11))))))))
    (ss_cons (s_for rfl PassesOwn.never (i_enum T.b_enumerate (e_var (i := 7))) (b_tup rfl (nt_cons (i := 13) sc_can_with.nd (nt_cons (i := 12) sc_can_with.nd nt_nil))) (ss_cons (s_par (i := 14) (j := 15) rfl sc_can_with.nd (a_cons (e_var (i := 12)) (a_cons (e_ix hr (e_var (i := 7)) (e_var (i := 6))) a_nil)))
    (ss_cons (s_frz 9 (s_for rfl PassesOwn.never (i_it (e_var (i := 9))) (b_tup rfl (nt_cons (i := 11) sc_can_with.nd (nt_cons (i := 16) sc_can_with.nd nt_nil))) (ss_one (s_par (i := 14) (j := 15) rfl sc_can_with.nd (a_cons (e_bin op_mulM c_mul (e_var (i := 14)) (e_var (i := 11))) (a_cons (e_bin op_mulM c_mul (e_var (i := 15)) (e_var (i := 16))) a_nil))))))
    (ss_one (s_if (tw_t (tw_and (t_cmp (op_neM (hu64 hr)) c_ne (e_var (i := 13)) (e_var (i := 6)) (nomark _)) (tw_and1 (tw_t (tw_or (t_cmp op_gt c_gt (e_var (i := 14)) (e_var (i := 15)) (nomark _)) (tw_or1 (tw_t (tw_and (t_cmp (op_eqM (hu64 hr)) c_eq (e_var (i := 14)) (e_var (i := 15)) (nomark _)) (tw_and1 (t_cmp op_ltQ c_ltQ (e_var (i := 13)) (e_var (i := 6)) (nomark _))))))))))) (ss_one (s_ret e_bl)) ss_nil)))))
    (ss_one (s_ret e_bl))))))))

abbrev st_fewest_turn : Stmt := top 18
abbrev n_fewest_turn : List Str := ["marks", "hands", "answers", "left", "many", "pairs", "at", "name", "more", "good", "mark"]
theorem sc_fewest_turn : FnScope n_fewest_turn ["marks", "hands", "answers", "left"] (defScope st_fewest_turn) := ⟨rfl, rfl, rfl, by decide +kernel, rfl, by decide +kernel, by decide +kernel⟩
theorem ok_fewest_turn (T : Txt mg) (TC : TxC Pr w K mg base C) (c_can_with : Cl Pr w K mg base C 3 "can_with" g_can_with) {f : Addr} {fd : FuncData} (Fu : Fun K "fewest_turn" "fewest_turn" st_fewest_turn f fd) : FnOk Pr w K mg base CX0 4 f fd ["marks", "hands", "answers", "left"] (spF ⟨K, C⟩ g_fewest_turn) :=
  fn_ok (N := n_fewest_turn) Fu sc_fewest_turn fun cdv A outer s H E hr =>
    (ss_cons (s_asg (i := 4) sc_fewest_turn.nd e_int)
    (ss_cons (s_while (fun δ => 40) PassesOwn.never (tw_t (tw_and (t_cmp op_le c_le (e_var (i := 4)) (e_blt call_lenM c_len T.b_len (by decide +kernel) (a_cons (e_var (i := 3)) a_nil)) (nomark _)) (tw_and1 (t_not (t_val (e_cl c_can_with hr (by decide) (a_cons (e_var (i := 0)) (a_cons (e_var (i := 1)) (a_cons (e_var (i := 2)) (a_cons (e_tup a_nil) (a_cons (e_var (i := 3)) (a_cons (e_var (i := 4)) a_nil)))))))))))) (ss_one (s_augN (i := 4) sc_fewest_turn.nd ipA e_int)))
    (ss_cons (s_if (t_cmp op_gt c_gt (e_var (i := 4)) (e_blt call_lenM c_len T.b_len (by decide +kernel) (a_cons (e_var (i := 3)) a_nil)) (nomark _)) (ss_one (s_ret e_non)) ss_nil)
    (ss_cons (s_asg (i := 5) sc_fewest_turn.nd (e_tup a_nil))
    (ss_cons (s_for rfl PassesOwn.never (i_enum T.b_enumerate (e_var (i := 3))) (b_tup rfl (nt_cons (i := 6) sc_fewest_turn.nd (nt_cons (i := 7) sc_fewest_turn.nd nt_nil))) (ss_cons (s_asg (i := 8) sc_fewest_turn.nd (e_bin op_subM c_sub (e_bin op_subM c_sub (e_var (i := 4)) (e_blt call_lenM c_len T.b_len (by decide +kernel) (a_cons (e_var (i := 5)) a_nil))) e_int))
    (ss_cons (s_asgLc (own := [("mark", 10)]) (j := 9) rfl sc_fewest_turn.nd (i_it (e_var (i := 0))) (N' := n_fewest_turn) (sc' := defScope st_fewest_turn) rfl rfl (by decide +kernel) (fun _ _ _ _ _ => (b_name (i := 10) sc_fewest_turn.nd)) (fun _ _ _ _ _ => (tt_one (t_val (e_cl c_can_with hr (by decide) (a_cons (e_var (i := 0)) (a_cons (e_var (i := 1)) (a_cons (e_var (i := 2)) (a_cons (e_bin op_addM c_add (e_var (i := 5)) (e_tup (a_cons (e_tup (a_cons (e_var (i := 7)) (a_cons (e_var (i := 10)) a_nil))) a_nil))) (a_cons (e_sl (e_var (i := 3)) (o_some (e_bin op_addM c_add (e_var (i := 6)) e_int)) o_none) (a_cons (e_var (i := 8)) a_nil)))))))))) (fun _ _ _ _ _ => (e_var (i := 10))) (by decide))
    (ss_one (s_if (tw_t (tw_and (t_cmp op_ge c_ge (e_var (i := 8)) e_int (nomark _)) (tw_and1 (t_cmp (op_neM (hu64 hr)) c_ne (e_var (i := 9)) (e_lst a_nil) (nomark _))))) (ss_one (s_asg (i := 5) sc_fewest_turn.nd (e_bin op_addM c_add (e_var (i := 5)) (e_tup (a_cons (e_tup (a_cons (e_var (i := 7)) (a_cons (e_ix hr (e_var (i := 9)) e_int) a_nil))) a_nil))))) ss_nil)))))
    (ss_one (s_ret (e_var (i := 5)))))))))

abbrev st_settled : Stmt := top 19
abbrev n_settled : List Str := ["marks", "hands", "answers", "left", "bound", "first", "top", "bottom"]
theorem sc_settled : FnScope n_settled ["marks", "hands", "answers", "left", "bound"] (defScope st_settled) := ⟨rfl, rfl, rfl, by decide +kernel, rfl, by decide +kernel, by decide +kernel⟩
theorem ok_settled (T : Txt mg) (TC : TxC Pr w K mg base C) (c_first_mark : Cl Pr w K mg base C 2 "first_mark" g_first_mark) (c_shares : Cl Pr w K mg base C 2 "shares" g_shares) (c_can_with : Cl Pr w K mg base C 3 "can_with" g_can_with) {f : Addr} {fd : FuncData} (Fu : Fun K "settled" "settled" st_settled f fd) : FnOk Pr w K mg base CX0 4 f fd ["marks", "hands", "answers", "left", "bound"] (spF ⟨K, C⟩ g_settled) :=
  fn_ok (N := n_settled) Fu sc_settled fun cdv A outer s H E hr =>
    (ss_cons (s_asg (i := 5) sc_settled.nd (e_cl c_first_mark hr (by decide) (a_cons (e_var (i := 0)) (a_cons (e_var (i := 1)) (a_cons (e_var (i := 2)) a_nil)))))
    (ss_cons (s_unp rfl (nt_cons (i := 6) sc_settled.nd (nt_cons (i := 7) sc_settled.nd nt_nil)) (e_ix hr (e_cl c_shares hr (by decide) (a_cons (e_var (i := 0)) (a_cons (e_var (i := 1)) (a_cons (e_var (i := 2)) a_nil)))) (e_tindex (e_var (i := 0)) (e_var (i := 5)))))
    (ss_cons (s_if (tw_t (tw_or (t_cmp op_ltQ c_ltQ (e_bin op_mulM c_mul (e_var (i := 6)) (e_ix hr (e_var (i := 4)) e_int)) (e_bin op_mulM c_mul (e_ix hr (e_var (i := 4)) e_int) (e_var (i := 7))) (nomark _)) (tw_or1 (t_val (e_cl c_can_with hr (by decide) (a_cons (e_var (i := 0)) (a_cons (e_var (i := 1)) (a_cons (e_var (i := 2)) (a_cons (e_tup a_nil) (a_cons (e_var (i := 3)) (a_cons (e_blt call_lenM c_len T.b_len (by decide +kernel) (a_cons (e_var (i := 3)) a_nil)) a_nil))))))))))) (ss_one (s_ret e_non)) ss_nil)
    (ss_one (s_ret (e_var (i := 5)))))))

abbrev st_agreement : Stmt := top 21
abbrev n_agreement : List Str := ["one", "other", "both", "thing", "many", "like", "chance", "mark", "ones", "others", "top", "bottom"]
theorem sc_agreement : FnScope n_agreement ["one", "other"] (defScope st_agreement) := ⟨rfl, rfl, rfl, by decide +kernel, rfl, by decide +kernel, by decide +kernel⟩
theorem ok_agreement (T : Txt mg) (TC : TxC Pr w K mg base C) (c_lowest : Cl Pr w K mg base C 1 "lowest" g_lowest) {f : Addr} {fd : FuncData} (Fu : Fun K "agreement" "agreement" st_agreement f fd) : FnOk Pr w K mg base CX0 2 f fd ["one", "other"] (spF ⟨K, C⟩ g_agreement) :=
  fn_ok (N := n_agreement) Fu sc_agreement fun cdv A outer s H E hr =>
    (ss_cons (s_asgLc (own := [("thing", 3)]) (j := 2) rfl sc_agreement.nd (i_it (e_var (i := 0))) (N' := n_agreement) (sc' := defScope st_agreement) rfl rfl (by decide +kernel) (fun _ _ _ _ _ => (b_name (i := 3) sc_agreement.nd)) (fun _ _ _ _ _ => (tt_one (t_cmp (op_inM (hu65 hr)) c_in (e_var (i := 3)) (e_var (i := 1)) (by with_unfolding_all rfl)))) (fun _ _ _ _ _ => (e_var (i := 3))) (by decide))
    (ss_cons (s_asg (i := 4) sc_agreement.nd (e_blt call_lenM c_len T.b_len (by decide +kernel) (a_cons (e_var (i := 2)) a_nil)))
    (ss_cons (s_if (t_cmp (op_eqM (hu64 hr)) c_eq (e_var (i := 4)) e_int (nomark _)) (ss_one (s_ret e_non)) ss_nil)
    (ss_cons (s_asg (i := 5) sc_agreement.nd (e_blt call_lenM c_len T.b_len (by decide +kernel) (a_cons (e_comp (own := [("thing", 3)]) rfl sc_agreement.nd (i_it (e_var (i := 2))) (N' := n_agreement) (sc' := defScope st_agreement) rfl rfl (by decide +kernel) (fun _ _ _ _ _ => (b_name (i := 3) sc_agreement.nd)) (fun _ _ _ _ _ => (tt_one (t_cmp (op_eqM (hu64 hr)) c_eq (e_ix hr (e_var (i := 0)) (e_var (i := 3))) (e_ix hr (e_var (i := 1)) (e_var (i := 3))) (nomark _)))) (fun _ _ _ _ _ => (e_var (i := 3))) (by decide)) a_nil)))
    (ss_cons (s_asg (i := 6) sc_agreement.nd e_int)
    (ss_cons (s_for rfl PassesOwn.never (i_it (e_dic (e_dcomp (own := [("thing", 3)]) rfl sc_agreement.nd (i_it (e_var (i := 2))) (N' := n_agreement) (sc' := defScope st_agreement) rfl rfl (by decide +kernel) (fun _ _ _ _ _ => (b_name (i := 3) sc_agreement.nd)) (fun _ _ _ _ _ => tt_yes) (fun _ _ _ _ _ => (e_ix hr (e_var (i := 0)) (e_var (i := 3)))) (fun _ _ _ _ _ => e_bl) (by decide)))) (b_name (i := 7) sc_agreement.nd) (ss_cons (s_asg (i := 8) sc_agreement.nd (e_blt call_lenM c_len T.b_len (by decide +kernel) (a_cons (e_comp (own := [("thing", 3)]) rfl sc_agreement.nd (i_it (e_var (i := 2))) (N' := n_agreement) (sc' := defScope st_agreement) rfl rfl (by decide +kernel) (fun _ _ _ _ _ => (b_name (i := 3) sc_agreement.nd)) (fun _ _ _ _ _ => (tt_one (t_cmp (op_eqM (hu64 hr)) c_eq (e_ix hr (e_var (i := 0)) (e_var (i := 3))) (e_var (i := 7)) (nomark _)))) (fun _ _ _ _ _ => (e_var (i := 3))) (by decide)) a_nil)))
    (ss_cons (s_asg (i := 9) sc_agreement.nd (e_blt call_lenM c_len T.b_len (by decide +kernel) (a_cons (e_comp (own := [("thing", 3)]) rfl sc_agreement.nd (i_it (e_var (i := 2))) (N' := n_agreement) (sc' := defScope st_agreement) rfl rfl (by decide +kernel) (fun _ _ _ _ _ => (b_name (i := 3) sc_agreement.nd)) (fun _ _ _ _ _ => (tt_one (t_cmp (op_eqM (hu64 hr)) c_eq (e_ix hr (e_var (i := 1)) (e_var (i := 3))) (e_var (i := 7)) (nomark _)))) (fun _ _ _ _ _ => (e_var (i := 3))) (by decide)) a_nil)))
    (ss_one (s_augN (i := 6) sc_agreement.nd ipA (e_bin op_mulM c_mul (e_var (i := 8)) (e_var (i := 9))))))))
    (ss_cons (s_par (i := 10) (j := 11) rfl sc_agreement.nd (a_cons (e_bin op_subM c_sub (e_bin op_mulM c_mul (e_var (i := 5)) (e_var (i := 4))) (e_var (i := 6))) (a_cons (e_bin op_subM c_sub (e_bin op_mulM c_mul (e_var (i := 4)) (e_var (i := 4))) (e_var (i := 6))) a_nil)))
    (ss_cons (s_if (t_cmp (op_eqM (hu64 hr)) c_eq (e_var (i := 11)) e_int (nomark _)) (ss_one (s_ret e_non)) ss_nil)
    (ss_cons (s_if (t_cmp (op_eqM (hu64 hr)) c_eq (e_var (i := 10)) e_int (nomark _)) (ss_one (s_ret (e_tup (a_cons e_int (a_cons (e_tup (a_cons e_int (a_cons e_int a_nil))) a_nil))))) ss_nil)
    (ss_one (s_ret (e_if (t_cmp op_gt c_gt (e_var (i := 10)) e_int (nomark _)) (e_tup (a_cons e_int (a_cons (e_cl c_lowest hr (by decide) (a_cons (e_var (i := 10)) (a_cons (e_var (i := 11)) a_nil))) a_nil))) (e_tup (a_cons (e_bin op_subM c_sub e_int e_int) (a_cons (e_cl c_lowest hr (by decide) (a_cons (e_bin op_subM c_sub e_int (e_var (i := 10))) (a_cons (e_var (i := 11)) a_nil))) a_nil)))))))))))))))

abbrev st_lots : Stmt := top 23
abbrev n_lots : List Str := ["some", "many", "found", "at", "one", "lot"]
theorem sc_lots : FnScope n_lots ["some", "many"] (defScope st_lots) := ⟨rfl, rfl, rfl, by decide +kernel, rfl, by decide +kernel, by decide +kernel⟩
theorem ok_lots (T : Txt mg) (TC : TxC Pr w K mg base C) {f : Addr} {fd : FuncData} (Fu : Fun K "lots" "lots" st_lots f fd) (self : ∀ (k : Nat) (g : Fn), FnOk Pr w K mg base CX0 k f fd ["some", "many"] (spF ⟨K, C⟩ g) → Cl Pr w K mg base C k "lots" g) : ∀ n : Nat, FnOk Pr w K mg base CX0 (1 + n) f fd ["some", "many"] (spF ⟨K, C⟩ (g_lots n))
  | 0 => fn_ok (N := n_lots) Fu sc_lots fun cdv A outer s H E hr => ss_void
  | n + 1 => by
    have c_lots := self _ _ (ok_lots T TC Fu self n)
    exact fn_ok (N := n_lots) Fu sc_lots fun cdv A outer s H E hr =>
      (ss_cons (s_if (t_cmp (op_eqM (hu64 hr)) c_eq (e_var (i := 1)) e_int (nomark _)) (ss_one (s_ret (e_lst (a_cons (e_tup a_nil) a_nil)))) ss_nil)
    (ss_cons (s_asg (i := 2) sc_lots.nd (e_lst a_nil))
    (ss_cons (s_for rfl PassesOwn.never (i_enum T.b_enumerate (e_var (i := 0))) (b_tup rfl (nt_cons (i := 3) sc_lots.nd (nt_cons (i := 4) sc_lots.nd nt_nil))) (ss_one (s_asg (i := 2) sc_lots.nd (e_bin op_addM c_add (e_var (i := 2)) (e_comp (own := [("lot", 5)]) rfl sc_lots.nd (i_it (e_cl c_lots hr (Nat.le_refl _) (a_cons (e_sl (e_var (i := 0)) (o_some (e_bin op_addM c_add (e_var (i := 3)) e_int)) o_none) (a_cons (e_bin op_subM c_sub (e_var (i := 1)) e_int) a_nil)))) (N' := n_lots) (sc' := defScope st_lots) rfl rfl (by decide +kernel) (fun _ _ _ _ _ => (b_name (i := 5) sc_lots.nd)) (fun _ _ _ _ _ => tt_yes) (fun _ _ _ _ _ => (e_bin op_addM c_add (e_tup (a_cons (e_var (i := 4)) a_nil)) (e_var (i := 5)))) (by decide))))))
    (ss_one (s_ret (e_var (i := 2)))))))

abbrev st_reach : Stmt := top 24
abbrev n_reach : List Str := ["most", "bars", "lot", "one", "hand", "number"]
theorem sc_reach : FnScope n_reach ["most", "bars", "lot"] (defScope st_reach) := ⟨rfl, rfl, rfl, by decide +kernel, rfl, by decide +kernel, by decide +kernel⟩
theorem ok_reach (T : Txt mg) (TC : TxC Pr w K mg base C) {f : Addr} {fd : FuncData} (Fu : Fun K "reach" "reach" st_reach f fd) : FnOk Pr w K mg base CX0 1 f fd ["most", "bars", "lot"] (spF ⟨K, C⟩ g_reach) :=
  fn_ok (N := n_reach) Fu sc_reach fun cdv A outer s H E hr =>
    (ss_one (s_ret (e_blt (cr_sum rfl) c_sum T.b_sum (by decide +kernel) (a_cons (e_comp (own := [("hand", 4), ("number", 5)]) rfl sc_reach.nd (i_it (e_var (i := 0))) (N' := n_reach) (sc' := defScope st_reach) rfl rfl (by decide +kernel) (fun _ _ _ _ _ => (b_tup rfl (nt_cons (i := 4) sc_reach.nd (nt_cons (i := 5) sc_reach.nd nt_nil)))) (fun _ _ _ _ _ => tt_yes) (fun _ _ _ _ _ => (e_blt (call_min2 rfl) c_min T.b_min (by decide +kernel) (a_cons (e_var (i := 5)) (a_cons (e_blt call_lenM c_len T.b_len (by decide +kernel) (a_cons (e_comp (own := [("one", 3)]) rfl sc_reach.nd (i_it (e_var (i := 2))) (N' := n_reach) (sc' := relS {kind := PySem.ScopeKind.function, names := [ (PySem.Str.ofString ".0", PySem.NameKind.local), (PySem.Str.ofString "hand", PySem.NameKind.cell), (PySem.Str.ofString "number", PySem.NameKind.local), (PySem.Str.ofString "min", PySem.NameKind.globalImplicit), (PySem.Str.ofString "len", PySem.NameKind.globalImplicit), (PySem.Str.ofString "bars", PySem.NameKind.free), (PySem.Str.ofString "lot", PySem.NameKind.free)], isGenerator := false, isCoroutine := false, more := []} (defScope st_reach)) rfl rfl (by decide +kernel) (fun _ _ _ _ _ => (b_name (i := 3) sc_reach.nd)) (fun _ _ _ _ _ => (tt_one (t_cmp (op_ninM (hu65 hr)) c_nin (e_tup (a_cons (e_var (i := 4)) (a_cons (e_var (i := 3)) a_nil))) (e_var (i := 1)) (by with_unfolding_all rfl)))) (fun _ _ _ _ _ => (e_var (i := 3))) (by decide)) a_nil)) a_nil)))) (by decide)) a_nil))))

abbrev st_lack : Stmt := top 25
abbrev n_lack : List Str := ["things", "most", "bars", "many", "size", "lot"]
theorem sc_lack : FnScope n_lack ["things", "most", "bars", "many"] (defScope st_lack) := ⟨rfl, rfl, rfl, by decide +kernel, rfl, by decide +kernel, by decide +kernel⟩
theorem ok_lack (T : Txt mg) (TC : TxC Pr w K mg base C) (c_lots : Cl Pr w K mg base C 11 "lots" (g_lots 10)) (c_reach : Cl Pr w K mg base C 1 "reach" g_reach) {f : Addr} {fd : FuncData} (Fu : Fun K "lack" "lack" st_lack f fd) : FnOk Pr w K mg base CX0 12 f fd ["things", "most", "bars", "many"] (spF ⟨K, C⟩ g_lack) :=
  fn_ok (N := n_lack) Fu sc_lack fun cdv A outer s H E hr =>
    (ss_cons (s_for rfl PassesOwn.never (i_range2 T.b_range e_int (e_bin op_addM c_add (e_blt call_lenM c_len T.b_len (by decide +kernel) (a_cons (e_var (i := 0)) a_nil)) e_int)) (b_name (i := 4) sc_lack.nd) (ss_one (s_for rfl PassesOwn.never (i_it (e_cl c_lots hr (by decide) (a_cons (e_var (i := 0)) (a_cons (e_var (i := 4)) a_nil)))) (b_name (i := 5) sc_lack.nd) (ss_one (s_if (t_cmp op_ltQ c_ltQ (e_cl c_reach hr (by decide) (a_cons (e_var (i := 1)) (a_cons (e_var (i := 2)) (a_cons (e_var (i := 5)) a_nil)))) (e_bin op_mulM c_mul (e_var (i := 3)) (e_var (i := 4))) (nomark _)) (ss_one (s_ret (e_var (i := 5)))) ss_nil)))))
    (ss_one (s_ret e_non)))

abbrev st_is_lack : Stmt := top 26
abbrev n_is_lack : List Str := ["things", "most", "bars", "many", "thing", "one"]
theorem sc_is_lack : FnScope n_is_lack ["things", "most", "bars", "many", "thing"] (defScope st_is_lack) := ⟨rfl, rfl, rfl, by decide +kernel, rfl, by decide +kernel, by decide +kernel⟩
theorem ok_is_lack (T : Txt mg) (TC : TxC Pr w K mg base C) (c_are_rising : Cl Pr w K mg base C 1 "are_rising" g_are_rising) (c_reach : Cl Pr w K mg base C 1 "reach" g_reach) (c_is_name : Cl Pr w K mg base C 1 "is_name" g_is_name) {f : Addr} {fd : FuncData} (Fu : Fun K "is_lack" "is_lack" st_is_lack f fd) : FnOk Pr w K mg base CX0 2 f fd ["things", "most", "bars", "many", "thing"] (spF ⟨K, C⟩ g_is_lack) :=
  fn_ok (N := n_is_lack) Fu sc_is_lack fun cdv A outer s H E hr =>
    (ss_cons (s_if (tw_t (tw_or (t_not (t_val (e_isi (e_var (i := 4)) T.b_isinstance T.b_tuple (by decide +kernel) kd_tuple))) (tw_or1 (t_not (t_val (e_blt (cr_all rfl) c_all T.b_all (by decide +kernel) (a_cons (e_comp (own := [("one", 5)]) rfl sc_is_lack.nd (i_it (e_var (i := 4))) (N' := n_is_lack) (sc' := defScope st_is_lack) rfl rfl (by decide +kernel) (fun _ _ _ _ _ => (b_name (i := 5) sc_is_lack.nd)) (fun _ _ _ _ _ => tt_yes) (fun _ _ _ _ _ => (e_and (e_cl c_is_name hr (by decide) (a_cons (e_var (i := 5)) a_nil)) (e_one (e_cmp (op_inM (hu65 hr)) c_in (e_var (i := 5)) (e_var (i := 0)) (by with_unfolding_all rfl))))) (by decide)) a_nil))))))) (ss_one (s_ret e_bl)) ss_nil)
    (ss_one (s_ret (e_and (e_cl c_are_rising hr (by decide) (a_cons (e_var (i := 4)) a_nil)) (e_one (e_cmp op_ltQ c_ltQ (e_cl c_reach hr (by decide) (a_cons (e_var (i := 1)) (a_cons (e_var (i := 2)) (a_cons (e_var (i := 4)) a_nil)))) (e_bin op_mulM c_mul (e_var (i := 3)) (e_blt call_lenM c_len T.b_len (by decide +kernel) (a_cons (e_var (i := 4)) a_nil))) (nomark _)))))))

abbrev st_dealing : Stmt := top 27
abbrev n_dealing : List Str := ["things", "most", "bars", "many", "found", "left", "at", "one", "free", "hand", "number", "lot", "rest"]
theorem sc_dealing : FnScope n_dealing ["things", "most", "bars", "many"] (defScope st_dealing) := ⟨rfl, rfl, rfl, by decide +kernel, rfl, by decide +kernel, by decide +kernel⟩
theorem ok_dealing (T : Txt mg) (TC : TxC Pr w K mg base C) (c_lack : Cl Pr w K mg base C 12 "lack" g_lack) (c_lots : Cl Pr w K mg base C 11 "lots" (g_lots 10)) {f : Addr} {fd : FuncData} (Fu : Fun K "dealing" "dealing" st_dealing f fd) : FnOk Pr w K mg base CX0 13 f fd ["things", "most", "bars", "many"] (spF ⟨K, C⟩ g_dealing) :=
  fn_ok (N := n_dealing) Fu sc_dealing fun cdv A outer s H E hr =>
    (ss_cons (s_if (t_cmp op_isnM c_isn (e_cl c_lack hr (by decide) (a_cons (e_var (i := 0)) (a_cons (e_var (i := 1)) (a_cons (e_var (i := 2)) (a_cons (e_var (i := 3)) a_nil))))) e_non (nomark _)) (ss_one (s_ret e_non)) ss_nil)
    (ss_cons (s_asg (i := 4) sc_dealing.nd (e_tup a_nil))
    (ss_cons (s_asg (i := 5) sc_dealing.nd (e_var (i := 1)))
    (ss_cons (s_for rfl PassesOwn.never (i_enum T.b_enumerate (e_var (i := 0))) (b_tup rfl (nt_cons (i := 6) sc_dealing.nd (nt_cons (i := 7) sc_dealing.nd nt_nil))) (ss_cons (s_asgLc (own := [("hand", 9), ("number", 10)]) (j := 8) rfl sc_dealing.nd (i_it (e_var (i := 5))) (N' := n_dealing) (sc' := defScope st_dealing) rfl rfl (by decide +kernel) (fun _ _ _ _ _ => (b_tup rfl (nt_cons (i := 9) sc_dealing.nd (nt_cons (i := 10) sc_dealing.nd nt_nil)))) (fun _ _ _ _ _ => (tt_one (tw_t (tw_and (t_cmp op_gt c_gt (e_var (i := 10)) e_int (nomark _)) (tw_and1 (t_cmp (op_ninM (hu65 hr)) c_nin (e_tup (a_cons (e_var (i := 9)) (a_cons (e_var (i := 7)) a_nil))) (e_var (i := 2)) (by with_unfolding_all rfl))))))) (fun _ _ _ _ _ => (e_var (i := 9))) (by decide))
    (ss_one (s_for rfl PassesOwn.never (i_it (e_cl c_lots hr (by decide) (a_cons (e_var (i := 8)) (a_cons (e_var (i := 3)) a_nil)))) (b_name (i := 11) sc_dealing.nd) (ss_cons (s_asg (i := 12) sc_dealing.nd (e_bty call_tupP c_tupP T.b_tuple (by decide +kernel) (a_cons (e_comp (own := [("hand", 9), ("number", 10)]) rfl sc_dealing.nd (i_it (e_var (i := 5))) (N' := n_dealing) (sc' := defScope st_dealing) rfl rfl (by decide +kernel) (fun _ _ _ _ _ => (b_tup rfl (nt_cons (i := 9) sc_dealing.nd (nt_cons (i := 10) sc_dealing.nd nt_nil)))) (fun _ _ _ _ _ => tt_yes) (fun _ _ _ _ _ => (e_tup (a_cons (e_var (i := 9)) (a_cons (e_bin op_subM c_sub (e_var (i := 10)) (e_bty call_int1 c_int T.b_int (by decide +kernel) (a_cons (e_cmp (op_inM (hu65 hr)) c_in (e_var (i := 9)) (e_var (i := 11)) (by with_unfolding_all rfl)) a_nil))) a_nil)))) (by decide)) a_nil)))
    (ss_one (s_if (t_cmp op_isM c_is (e_cl c_lack hr (by decide) (a_cons (e_sl (e_var (i := 0)) (o_some (e_bin op_addM c_add (e_var (i := 6)) e_int)) o_none) (a_cons (e_var (i := 12)) (a_cons (e_var (i := 2)) (a_cons (e_var (i := 3)) a_nil))))) e_non (nomark _)) (ss_cons (s_asg (i := 4) sc_dealing.nd (e_bin op_addM c_add (e_var (i := 4)) (e_bty call_tupP c_tupP T.b_tuple (by decide +kernel) (a_cons (e_comp (own := [("hand", 9)]) rfl sc_dealing.nd (i_it (e_var (i := 11))) (N' := n_dealing) (sc' := defScope st_dealing) rfl rfl (by decide +kernel) (fun _ _ _ _ _ => (b_name (i := 9) sc_dealing.nd)) (fun _ _ _ _ _ => tt_yes) (fun _ _ _ _ _ => (e_tup (a_cons (e_var (i := 7)) (a_cons (e_var (i := 9)) a_nil)))) (by decide)) a_nil))))
    (ss_cons (s_asg (i := 5) sc_dealing.nd (e_var (i := 12)))
    (ss_one s_brk))) ss_nil)))))))
    (ss_one (s_ret (e_var (i := 4))))))))

abbrev st_is_bound : Stmt := top 50
abbrev n_is_bound : List Str := ["thing", "part"]
theorem sc_is_bound : FnScope n_is_bound ["thing"] (defScope st_is_bound) := ⟨rfl, rfl, rfl, by decide +kernel, rfl, by decide +kernel, by decide +kernel⟩
theorem ok_is_bound (T : Txt mg) (TC : TxC Pr w K mg base C) (c_lowest : Cl Pr w K mg base C 1 "lowest" g_lowest) (c_is_within : Cl Pr w K mg base C 2 "is_within" g_is_within) {f : Addr} {fd : FuncData} (Fu : Fun K "is_bound" "is_bound" st_is_bound f fd) : FnOk Pr w K mg base CX0 3 f fd ["thing"] (spF ⟨K, C⟩ g_is_bound) :=
  fn_ok (N := n_is_bound) Fu sc_is_bound fun cdv A outer s H E hr =>
    (ss_cons (s_if (tw_t (tw_or (t_not (t_val (e_isi (e_var (i := 0)) T.b_isinstance T.b_tuple (by decide +kernel) kd_tuple))) (tw_or (t_cmp (op_neM (hu64 hr)) c_ne (e_blt call_lenM c_len T.b_len (by decide +kernel) (a_cons (e_var (i := 0)) a_nil)) e_int (nomark _)) (tw_or1 (t_not (t_val (e_blt (cr_all rfl) c_all T.b_all (by decide +kernel) (a_cons (e_comp (own := [("part", 1)]) rfl sc_is_bound.nd (i_it (e_var (i := 0))) (N' := n_is_bound) (sc' := defScope st_is_bound) rfl rfl (by decide +kernel) (fun _ _ _ _ _ => (b_name (i := 1) sc_is_bound.nd)) (fun _ _ _ _ _ => tt_yes) (fun _ _ _ _ _ => (e_cl c_is_within hr (by decide) (a_cons (e_var (i := 1)) (a_cons e_int (a_cons (e_bin op_pow c_pow e_int e_int) a_nil))))) (by decide)) a_nil)))))))) (ss_one (s_ret e_bl)) ss_nil)
    (ss_one (s_ret (e_and (e_cmp op_le c_le (e_ix hr (e_var (i := 0)) e_int) (e_ix hr (e_var (i := 0)) e_int) (nomark _)) (e_one (e_cmp (op_eqM (hu64 hr)) c_eq (e_cl c_lowest hr (by decide) (a_cons (e_ix hr (e_var (i := 0)) e_int) (a_cons (e_ix hr (e_var (i := 0)) e_int) a_nil))) (e_var (i := 0)) (nomark _)))))))

abbrev st_Works___init__ : Stmt := clsAt (top 51) 0
abbrev n_Works___init__ : List Str := ["self", "marks", "price"]
theorem sc_Works___init__ : FnScope n_Works___init__ ["self", "marks", "price"] (defScope st_Works___init__) := ⟨rfl, rfl, rfl, by decide +kernel, rfl, by decide +kernel, by decide +kernel⟩
theorem ok_Works___init__ (T : Txt mg) (TC : TxC Pr w K mg base C) (c_are_marks : Cl Pr w K mg base C 2 "are_marks" g_are_marks) (c_is_within : Cl Pr w K mg base C 2 "is_within" g_is_within) {f : Addr} {fd : FuncData} (Fu : Fun K "__init__" "Works.__init__" st_Works___init__ f fd) : FnOk Pr w K mg base (L2.CX Pr w) 4 f fd ["self", "marks", "price"] (spX ⟨K, C⟩ g_Works___init__) :=
  fn_okX (N := n_Works___init__) Fu sc_Works___init__ fun cdv A outer s H E hr =>
    (ss_cons (s_if (t_nox (t_not (t_val (e_cl c_are_marks hr (by decide) (a_cons (e_var (i := 1)) a_nil))))) (ss_one (s_raise rfl (takes_of rfl rfl rfl rfl) TC.x_NoMarks)) ss_nil)
    (ss_cons (s_if (t_nox (t_not (t_val (e_cl c_is_within hr (by decide) (a_cons (e_var (i := 2)) (a_cons e_int (a_cons (e_gi (i := 1000) T.c_MOST_PRICE) a_nil))))))) (ss_one (s_raise rfl (takes_of rfl rfl rfl rfl) TC.x_NoPrice)) ss_nil)
    (ss_cons (s_nox (s_fld TC.cls TC.n_marks (e_var (i := 0)) (e_var (i := 1))))
    (ss_cons (s_nox (s_fld TC.cls TC.n_cents (e_var (i := 0)) (e_var (i := 2))))
    (ss_cons (s_nox (s_fld TC.cls TC.n_crew (e_var (i := 0)) (e_cel e_newD)))
    (ss_cons (s_nox (s_fld TC.cls TC.n_money (e_var (i := 0)) (e_cel e_newD)))
    (ss_cons (s_nox (s_fld TC.cls TC.n_waiting (e_var (i := 0)) (e_tup a_nil)))
    (ss_cons (s_nox (s_fld TC.cls TC.n_bars (e_var (i := 0)) (e_tup a_nil)))
    (ss_cons (s_nox (s_fld TC.cls TC.n_out (e_var (i := 0)) (e_cel e_newD)))
    (ss_cons (s_nox (s_fld TC.cls TC.n_known (e_var (i := 0)) (e_cel e_newD)))
    (ss_cons (s_nox (s_fld TC.cls TC.n_ended (e_var (i := 0)) (e_lst a_nil)))
    (ss_one (s_nox (s_fld TC.cls TC.n_busy (e_var (i := 0)) e_bl))))))))))))))

abbrev st_Works_join : Stmt := clsAt (top 51) 1
abbrev n_Works_join : List Str := ["self", "name", "number"]
theorem sc_Works_join : FnScope n_Works_join ["self", "name", "number"] (defScope st_Works_join) := ⟨rfl, rfl, rfl, by decide +kernel, rfl, by decide +kernel, by decide +kernel⟩
theorem ok_Works_join (T : Txt mg) (TC : TxC Pr w K mg base C) (c_is_name : Cl Pr w K mg base C 1 "is_name" g_is_name) (c_is_within : Cl Pr w K mg base C 2 "is_within" g_is_within) {f : Addr} {fd : FuncData} (Fu : Fun K "join" "Works.join" st_Works_join f fd) : FnOk Pr w K mg base (L2.CX Pr w) 4 f fd ["self", "name", "number"] (spX ⟨K, C⟩ g_Works_join) :=
  fn_okX (N := n_Works_join) Fu sc_Works_join fun cdv A outer s H E hr =>
    (ss_cons (s_if (t_nox (t_not (t_val (e_cl c_is_name hr (by decide) (a_cons (e_var (i := 1)) a_nil))))) (ss_one (s_raise rfl (takes_of rfl rfl rfl rfl) TC.x_NoName)) ss_nil)
    (ss_cons (s_if (t_nox (t_cmp (op_inM (hu65 hr)) c_in (e_var (i := 1)) (e_fld TC.cls TC.n_crew (e_var (i := 0))) (by with_unfolding_all rfl))) (ss_one (s_raise rfl (takes_of rfl rfl rfl rfl) TC.x_Taken)) ss_nil)
    (ss_cons (s_if (t_nox (t_not (t_val (e_cl c_is_within hr (by decide) (a_cons (e_var (i := 2)) (a_cons e_int (a_cons (e_gi (i := 8) T.c_MOST_NUMBER) a_nil))))))) (ss_one (s_raise rfl (takes_of rfl rfl rfl rfl) TC.x_NoNumber)) ss_nil)
    (ss_cons (s_if (t_nox (t_cmp op_ge c_ge (e_blt call_lenM c_len T.b_len (by decide +kernel) (a_cons (e_fld TC.cls TC.n_crew (e_var (i := 0))) a_nil)) (e_gi (i := 6) T.c_MOST_HANDS) (nomark _))) (ss_one (s_raise rfl (takes_of rfl rfl rfl rfl) TC.x_Full)) ss_nil)
    (ss_cons (s_nox (s_setC hr (e_fld TC.cls TC.n_crew (e_var (i := 0))) (e_var (i := 1)) (e_tup (a_cons (e_var (i := 2)) (a_cons e_int (a_cons e_int a_nil))))))
    (ss_one (s_nox (s_setC hr (e_fld TC.cls TC.n_money (e_var (i := 0))) (e_var (i := 1)) e_int))))))))

abbrev st_Works_need_hand : Stmt := clsAt (top 51) 2
abbrev n_Works_need_hand : List Str := ["self", "name"]
theorem sc_Works_need_hand : FnScope n_Works_need_hand ["self", "name"] (defScope st_Works_need_hand) := ⟨rfl, rfl, rfl, by decide +kernel, rfl, by decide +kernel, by decide +kernel⟩
theorem ok_Works_need_hand (T : Txt mg) (TC : TxC Pr w K mg base C) (c_is_name : Cl Pr w K mg base C 1 "is_name" g_is_name) {f : Addr} {fd : FuncData} (Fu : Fun K "need_hand" "Works.need_hand" st_Works_need_hand f fd) : FnOk Pr w K mg base (L2.CX Pr w) 4 f fd ["self", "name"] (spX ⟨K, C⟩ g_Works_need_hand) :=
  fn_okX (N := n_Works_need_hand) Fu sc_Works_need_hand fun cdv A outer s H E hr =>
    (ss_one (s_if (t_nox (tw_t (tw_or (t_not (t_val (e_cl c_is_name hr (by decide) (a_cons (e_var (i := 1)) a_nil)))) (tw_or1 (t_cmp (op_ninM (hu65 hr)) c_nin (e_var (i := 1)) (e_fld TC.cls TC.n_crew (e_var (i := 0))) (by with_unfolding_all rfl)))))) (ss_one (s_raise1 rfl (takes_of rfl rfl rfl rfl) TC.i_NoHand hr (by decide) (e_var (i := 1)))) ss_nil))

abbrev st_Works_need_mark : Stmt := clsAt (top 51) 3
abbrev n_Works_need_mark : List Str := ["self", "mark"]
theorem sc_Works_need_mark : FnScope n_Works_need_mark ["self", "mark"] (defScope st_Works_need_mark) := ⟨rfl, rfl, rfl, by decide +kernel, rfl, by decide +kernel, by decide +kernel⟩
theorem ok_Works_need_mark (T : Txt mg) (TC : TxC Pr w K mg base C) (c_is_name : Cl Pr w K mg base C 1 "is_name" g_is_name) {f : Addr} {fd : FuncData} (Fu : Fun K "need_mark" "Works.need_mark" st_Works_need_mark f fd) : FnOk Pr w K mg base (L2.CX Pr w) 4 f fd ["self", "mark"] (spX ⟨K, C⟩ g_Works_need_mark) :=
  fn_okX (N := n_Works_need_mark) Fu sc_Works_need_mark fun cdv A outer s H E hr =>
    (ss_one (s_if (t_nox (tw_t (tw_or (t_not (t_val (e_cl c_is_name hr (by decide) (a_cons (e_var (i := 1)) a_nil)))) (tw_or1 (t_cmp (op_ninM (hu65 hr)) c_nin (e_var (i := 1)) (e_fld TC.cls TC.n_marks (e_var (i := 0))) (by with_unfolding_all rfl)))))) (ss_one (s_raise rfl (takes_of rfl rfl rfl rfl) TC.x_NoMark)) ss_nil))

abbrev st_Works_count : Stmt := clsAt (top 51) 4
abbrev n_Works_count : List Str := ["self", "name", "good", "number", "right", "seen"]
theorem sc_Works_count : FnScope n_Works_count ["self", "name", "good"] (defScope st_Works_count) := ⟨rfl, rfl, rfl, by decide +kernel, rfl, by decide +kernel, by decide +kernel⟩
theorem ok_Works_count (T : Txt mg) (TC : TxC Pr w K mg base C) {f : Addr} {fd : FuncData} (Fu : Fun K "count" "Works.count" st_Works_count f fd) : FnOk Pr w K mg base CX0 1 f fd ["self", "name", "good"] (spF ⟨K, C⟩ g_Works_count) :=
  fn_ok (N := n_Works_count) Fu sc_Works_count fun cdv A outer s H E hr =>
    (ss_cons (s_unp rfl (nt_cons (i := 3) sc_Works_count.nd (nt_cons (i := 4) sc_Works_count.nd (nt_cons (i := 5) sc_Works_count.nd nt_nil))) (e_ix hr (e_fld TC.cls TC.n_crew (e_var (i := 0))) (e_var (i := 1))))
    (ss_one (s_setC hr (e_fld TC.cls TC.n_crew (e_var (i := 0))) (e_var (i := 1)) (e_tup (a_cons (e_var (i := 3)) (a_cons (e_bin op_addM c_add (e_var (i := 4)) (e_bty call_int1 c_int T.b_int (by decide +kernel) (a_cons (e_var (i := 2)) a_nil))) (a_cons (e_bin op_addM c_add (e_var (i := 5)) e_int) a_nil)))))))

abbrev st_Works_put : Stmt := clsAt (top 51) 6
abbrev n_Works_put : List Str := ["self", "thing", "row"]
theorem sc_Works_put : FnScope n_Works_put ["self", "thing"] (defScope st_Works_put) := ⟨rfl, rfl, rfl, by decide +kernel, rfl, by decide +kernel, by decide +kernel⟩
theorem ok_Works_put (T : Txt mg) (TC : TxC Pr w K mg base C) (c_is_name : Cl Pr w K mg base C 1 "is_name" g_is_name) {f : Addr} {fd : FuncData} (Fu : Fun K "put" "Works.put" st_Works_put f fd) : FnOk Pr w K mg base (L2.CX Pr w) 4 f fd ["self", "thing"] (spX ⟨K, C⟩ g_Works_put) :=
  fn_okX (N := n_Works_put) Fu sc_Works_put fun cdv A outer s H E hr =>
    (ss_cons (s_if (t_nox (t_not (t_val (e_cl c_is_name hr (by decide) (a_cons (e_var (i := 1)) a_nil))))) (ss_one (s_raise rfl (takes_of rfl rfl rfl rfl) TC.x_NoName)) ss_nil)
    (ss_cons (s_if (t_nox (tw_t (tw_or (t_cmp (op_inM (hu65 hr)) c_in (e_var (i := 1)) (e_fld TC.cls TC.n_waiting (e_var (i := 0))) (by with_unfolding_all rfl)) (tw_or (t_cmp (op_inM (hu65 hr)) c_in (e_var (i := 1)) (e_fld TC.cls TC.n_out (e_var (i := 0))) (by with_unfolding_all rfl)) (tw_or1 (t_cmp (op_inM (hu65 hr)) c_in (e_var (i := 1)) (e_comp (own := [("row", 2)]) rfl sc_Works_put.nd (i_it (e_fld TC.cls TC.n_ended (e_var (i := 0)))) (N' := n_Works_put) (sc' := defScope st_Works_put) rfl rfl (by decide +kernel) (fun _ _ _ _ _ => (b_name (i := 2) sc_Works_put.nd)) (fun _ _ _ _ _ => tt_yes) (fun _ _ _ _ _ => (e_ix hr (e_var (i := 2)) e_int)) (by decide)) (by with_unfolding_all rfl))))))) (ss_one (s_raise rfl (takes_of rfl rfl rfl rfl) TC.x_Taken)) ss_nil)
    (ss_cons (s_if (t_nox (t_cmp op_ge c_ge (e_blt call_lenM c_len T.b_len (by decide +kernel) (a_cons (e_fld TC.cls TC.n_waiting (e_var (i := 0))) a_nil)) (e_gi (i := 8) T.c_MOST_OPEN) (nomark _))) (ss_one (s_raise rfl (takes_of rfl rfl rfl rfl) TC.x_Full)) ss_nil)
    (ss_one (s_nox (s_fld TC.cls TC.n_waiting (e_var (i := 0)) (e_bty call_tupP c_tupP T.b_tuple (by decide +kernel) (a_cons (e_blt (call_sortMT (by rfl)) c_sortT T.b_sorted (by decide +kernel) (a_cons (e_bin op_addM c_add (e_fld TC.cls TC.n_waiting (e_var (i := 0))) (e_tup (a_cons (e_var (i := 1)) a_nil))) a_nil)) a_nil))))))))

abbrev st_Works_under_way : Stmt := clsAt (top 51) 8
abbrev n_Works_under_way : List Str := ["self", "name", "answers", "left"]
theorem sc_Works_under_way : FnScope n_Works_under_way ["self", "name"] (defScope st_Works_under_way) := ⟨rfl, rfl, rfl, by decide +kernel, rfl, by decide +kernel, by decide +kernel⟩
theorem ok_Works_under_way (T : Txt mg) (TC : TxC Pr w K mg base C) {f : Addr} {fd : FuncData} (Fu : Fun K "under_way" "Works.under_way" st_Works_under_way f fd) : FnOk Pr w K mg base CX0 1 f fd ["self", "name"] (spF ⟨K, C⟩ g_Works_under_way) :=
  fn_ok (N := n_Works_under_way) Fu sc_Works_under_way fun cdv A outer s H E hr =>
    (ss_one (s_ret (e_blt call_lenM c_len T.b_len (by decide +kernel) (a_cons (e_lock (p := (pFld 0 "out")) (e_comp (own := [("answers", 2), ("left", 3)]) rfl sc_Works_under_way.nd (i_valC (e_fld TC.cls TC.n_out (e_var (i := 0)))) (N' := n_Works_under_way) (sc' := defScope st_Works_under_way) rfl rfl (by decide +kernel) (fun _ _ _ _ _ => (b_tup rfl (nt_cons (i := 2) sc_Works_under_way.nd (nt_cons (i := 3) sc_Works_under_way.nd nt_nil)))) (fun _ _ _ _ _ => (tt_one (t_cmp (op_inM (hu65 hr)) c_in (e_var (i := 1)) (e_var (i := 3)) (by with_unfolding_all rfl)))) (fun _ _ _ _ _ => e_int) (by decide))) a_nil))))

abbrev st_Works_deal : Stmt := clsAt (top 51) 9
abbrev n_Works_deal : List Str := ["self", "many", "most", "name", "found", "thing", "one", "hand"]
theorem sc_Works_deal : FnScope n_Works_deal ["self", "many"] (defScope st_Works_deal) := ⟨rfl, rfl, rfl, by decide +kernel, rfl, by decide +kernel, by decide +kernel⟩
theorem ok_Works_deal (T : Txt mg) (TC : TxC Pr w K mg base C) (c_dealing : Cl Pr w K mg base C 13 "dealing" g_dealing) (c_is_within : Cl Pr w K mg base C 2 "is_within" g_is_within) (c_lack : Cl Pr w K mg base C 12 "lack" g_lack) (c_Works_under_way : ClM Pr w K mg base C 1 "under_way" g_Works_under_way) {f : Addr} {fd : FuncData} (Fu : Fun K "deal" "Works.deal" st_Works_deal f fd) : FnOk Pr w K mg base (L2.CX Pr w) 14 f fd ["self", "many"] (spX ⟨K, C⟩ g_Works_deal) :=
  fn_okX (N := n_Works_deal) Fu sc_Works_deal fun cdv A outer s H E hr =>
    (ss_cons (s_if (t_nox (t_not (t_val (e_cl c_is_within hr (by decide) (a_cons (e_var (i := 1)) (a_cons e_int (a_cons (e_gi (i := 4) T.c_MOST_EACH) a_nil))))))) (ss_one (s_raise rfl (takes_of rfl rfl rfl rfl) TC.x_NoNumber)) ss_nil)
    (ss_cons (s_nox (s_asg (i := 2) sc_Works_deal.nd (e_bty call_tupP c_tupP T.b_tuple (by decide +kernel) (a_cons (e_comp (own := [("name", 3)]) rfl sc_Works_deal.nd (i_it (e_blt (call_sortMT (by rfl)) c_sortT T.b_sorted (by decide +kernel) (a_cons (e_fld TC.cls TC.n_crew (e_var (i := 0))) a_nil))) (N' := n_Works_deal) (sc' := defScope st_Works_deal) rfl rfl (by decide +kernel) (fun _ _ _ _ _ => (b_name (i := 3) sc_Works_deal.nd)) (fun _ _ _ _ _ => tt_yes) (fun _ _ _ _ _ => (e_tup (a_cons (e_var (i := 3)) (a_cons (e_bin op_subM c_sub (e_ix hr (e_ix hr (e_fld TC.cls TC.n_crew (e_var (i := 0))) (e_var (i := 3))) e_int) (e_meth TC.cls c_Works_under_way hr (by decide) (e_var (i := 0)) (a_cons (e_var (i := 3)) a_nil))) a_nil)))) (by decide)) a_nil))))
    (ss_cons (s_nox (s_asg (i := 4) sc_Works_deal.nd (e_cl c_dealing hr (by decide) (a_cons (e_fld TC.cls TC.n_waiting (e_var (i := 0))) (a_cons (e_var (i := 2)) (a_cons (e_fld TC.cls TC.n_bars (e_var (i := 0))) (a_cons (e_var (i := 1)) a_nil)))))))
    (ss_cons (s_if (t_nox (t_cmp op_isM c_is (e_var (i := 4)) e_non (nomark _))) (ss_one (s_raise1 rfl (takes_of rfl rfl rfl rfl) TC.i_Lacks hr (by decide) (e_cl c_lack hr (by decide) (a_cons (e_fld TC.cls TC.n_waiting (e_var (i := 0))) (a_cons (e_var (i := 2)) (a_cons (e_fld TC.cls TC.n_bars (e_var (i := 0))) (a_cons (e_var (i := 1)) a_nil))))))) ss_nil)
    (ss_cons (s_nox (s_for rfl PassesOwn.never (i_it (e_fld TC.cls TC.n_waiting (e_var (i := 0)))) (b_name (i := 5) sc_Works_deal.nd) (ss_one (s_nox (s_setC hr (e_fld TC.cls TC.n_out (e_var (i := 0))) (e_var (i := 5)) (e_tup (a_cons (e_tup a_nil) (a_cons (e_bty call_tupP c_tupP T.b_tuple (by decide +kernel) (a_cons (e_comp (own := [("one", 6), ("hand", 7)]) rfl sc_Works_deal.nd (i_it (e_var (i := 4))) (N' := n_Works_deal) (sc' := defScope st_Works_deal) rfl rfl (by decide +kernel) (fun _ _ _ _ _ => (b_tup rfl (nt_cons (i := 6) sc_Works_deal.nd (nt_cons (i := 7) sc_Works_deal.nd nt_nil)))) (fun _ _ _ _ _ => (tt_one (t_cmp (op_eqM (hu64 hr)) c_eq (e_var (i := 6)) (e_var (i := 5)) (nomark _)))) (fun _ _ _ _ _ => (e_var (i := 7))) (by decide)) a_nil)) a_nil))))))))
    (ss_cons (s_nox (s_fld TC.cls TC.n_waiting (e_var (i := 0)) (e_tup a_nil)))
    (ss_cons (s_nox (s_fld TC.cls TC.n_bars (e_var (i := 0)) (e_tup a_nil)))
    (ss_one (s_nox (s_ret (e_var (i := 4))))))))))))

abbrev st_Works_answer : Stmt := clsAt (top 51) 10
abbrev n_Works_answer : List Str := ["self", "name", "thing", "mark", "answers", "left", "one"]
theorem sc_Works_answer : FnScope n_Works_answer ["self", "name", "thing", "mark"] (defScope st_Works_answer) := ⟨rfl, rfl, rfl, by decide +kernel, rfl, by decide +kernel, by decide +kernel⟩
theorem ok_Works_answer (T : Txt mg) (TC : TxC Pr w K mg base C) (c_Works_need_hand : ClMX Pr w K mg base C 4 "need_hand" g_Works_need_hand) (c_Works_need_mark : ClMX Pr w K mg base C 4 "need_mark" g_Works_need_mark) (c_Works_count : ClM Pr w K mg base C 1 "count" g_Works_count) (c_is_name : Cl Pr w K mg base C 1 "is_name" g_is_name) {f : Addr} {fd : FuncData} (Fu : Fun K "answer" "Works.answer" st_Works_answer f fd) : FnOk Pr w K mg base (L2.CX Pr w) 5 f fd ["self", "name", "thing", "mark"] (spX ⟨K, C⟩ g_Works_answer) :=
  fn_okX (N := n_Works_answer) Fu sc_Works_answer fun cdv A outer s H E hr =>
    (ss_cons (sx_drop (ex_meth (takes_of rfl rfl rfl rfl) TC.cls c_Works_need_hand hr (by decide) (e_var (i := 0)) (a_cons (e_var (i := 1)) a_nil)))
    (ss_cons (s_if (t_nox (tw_t (tw_or (t_not (t_val (e_cl c_is_name hr (by decide) (a_cons (e_var (i := 2)) a_nil)))) (tw_or (t_cmp (op_ninM (hu65 hr)) c_nin (e_var (i := 2)) (e_fld TC.cls TC.n_out (e_var (i := 0))) (by with_unfolding_all rfl)) (tw_or1 (t_cmp (op_ninM (hu65 hr)) c_nin (e_var (i := 1)) (e_ix hr (e_ix hr (e_fld TC.cls TC.n_out (e_var (i := 0))) (e_var (i := 2))) e_int) (by with_unfolding_all rfl))))))) (ss_one (s_raise1 rfl (takes_of rfl rfl rfl rfl) TC.i_NoThing hr (by decide) (e_var (i := 2)))) ss_nil)
    (ss_cons (sx_drop (ex_meth (takes_of rfl rfl rfl rfl) TC.cls c_Works_need_mark hr (by decide) (e_var (i := 0)) (a_cons (e_var (i := 3)) a_nil)))
    (ss_cons (s_nox (s_unp rfl (nt_cons (i := 4) sc_Works_answer.nd (nt_cons (i := 5) sc_Works_answer.nd nt_nil)) (e_ix hr (e_fld TC.cls TC.n_out (e_var (i := 0))) (e_var (i := 2)))))
    (ss_cons (s_nox (s_asg (i := 5) sc_Works_answer.nd (e_bty call_tupP c_tupP T.b_tuple (by decide +kernel) (a_cons (e_comp (own := [("one", 6)]) rfl sc_Works_answer.nd (i_it (e_var (i := 5))) (N' := n_Works_answer) (sc' := defScope st_Works_answer) rfl rfl (by decide +kernel) (fun _ _ _ _ _ => (b_name (i := 6) sc_Works_answer.nd)) (fun _ _ _ _ _ => (tt_one (t_cmp (op_neM (hu64 hr)) c_ne (e_var (i := 6)) (e_var (i := 1)) (nomark _)))) (fun _ _ _ _ _ => (e_var (i := 6))) (by decide)) a_nil))))
    (ss_cons (s_nox (s_setC hr (e_fld TC.cls TC.n_out (e_var (i := 0))) (e_var (i := 2)) (e_tup (a_cons (e_bty call_tupP c_tupP T.b_tuple (by decide +kernel) (a_cons (e_blt (call_sortMT (by rfl)) c_sortT T.b_sorted (by decide +kernel) (a_cons (e_bin op_addM c_add (e_var (i := 4)) (e_tup (a_cons (e_tup (a_cons (e_var (i := 1)) (a_cons (e_var (i := 3)) a_nil))) a_nil))) a_nil)) a_nil)) (a_cons (e_var (i := 5)) a_nil)))))
    (ss_cons (s_nox (s_if (t_cmp (op_inM (hu65 hr)) c_in (e_var (i := 2)) (e_fld TC.cls TC.n_known (e_var (i := 0))) (by with_unfolding_all rfl)) (ss_one (s_nox (s_drop (e_meth TC.cls c_Works_count hr (by decide) (e_var (i := 0)) (a_cons (e_var (i := 1)) (a_cons (e_cmp (op_eqM (hu64 hr)) c_eq (e_var (i := 3)) (e_ix hr (e_fld TC.cls TC.n_known (e_var (i := 0))) (e_var (i := 2))) (nomark _)) a_nil)))))) ss_nil))
    (ss_one (s_nox (s_ret (e_cmp (op_eqM (hu64 hr)) c_eq (e_var (i := 5)) (e_tup a_nil) (nomark _))))))))))))

abbrev st_Works_judge : Stmt := clsAt (top 51) 11
abbrev n_Works_judge : List Str := ["self", "thing", "mark", "name", "told"]
theorem sc_Works_judge : FnScope n_Works_judge ["self", "thing", "mark"] (defScope st_Works_judge) := ⟨rfl, rfl, rfl, by decide +kernel, rfl, by decide +kernel, by decide +kernel⟩
theorem ok_Works_judge (T : Txt mg) (TC : TxC Pr w K mg base C) (c_Works_need_mark : ClMX Pr w K mg base C 4 "need_mark" g_Works_need_mark) (c_Works_count : ClM Pr w K mg base C 1 "count" g_Works_count) (c_is_name : Cl Pr w K mg base C 1 "is_name" g_is_name) {f : Addr} {fd : FuncData} (Fu : Fun K "judge" "Works.judge" st_Works_judge f fd) : FnOk Pr w K mg base (L2.CX Pr w) 5 f fd ["self", "thing", "mark"] (spX ⟨K, C⟩ g_Works_judge) :=
  fn_okX (N := n_Works_judge) Fu sc_Works_judge fun cdv A outer s H E hr =>
    (ss_cons (s_if (t_nox (tw_t (tw_or (t_not (t_val (e_cl c_is_name hr (by decide) (a_cons (e_var (i := 1)) a_nil)))) (tw_or1 (t_cmp (op_ninM (hu65 hr)) c_nin (e_var (i := 1)) (e_fld TC.cls TC.n_out (e_var (i := 0))) (by with_unfolding_all rfl)))))) (ss_one (s_raise1 rfl (takes_of rfl rfl rfl rfl) TC.i_NoThing hr (by decide) (e_var (i := 1)))) ss_nil)
    (ss_cons (s_if (t_nox (t_cmp (op_inM (hu65 hr)) c_in (e_var (i := 1)) (e_fld TC.cls TC.n_known (e_var (i := 0))) (by with_unfolding_all rfl))) (ss_one (s_raise rfl (takes_of rfl rfl rfl rfl) TC.x_Judged)) ss_nil)
    (ss_cons (sx_drop (ex_meth (takes_of rfl rfl rfl rfl) TC.cls c_Works_need_mark hr (by decide) (e_var (i := 0)) (a_cons (e_var (i := 2)) a_nil)))
    (ss_cons (s_nox (s_setC hr (e_fld TC.cls TC.n_known (e_var (i := 0))) (e_var (i := 1)) (e_var (i := 2))))
    (ss_one (s_nox (s_for rfl PassesOwn.never (i_it (e_ix hr (e_ix hr (e_fld TC.cls TC.n_out (e_var (i := 0))) (e_var (i := 1))) e_int)) (b_tup rfl (nt_cons (i := 3) sc_Works_judge.nd (nt_cons (i := 4) sc_Works_judge.nd nt_nil))) (ss_one (s_nox (s_drop (e_meth TC.cls c_Works_count hr (by decide) (e_var (i := 0)) (a_cons (e_var (i := 3)) (a_cons (e_cmp (op_eqM (hu64 hr)) c_eq (e_var (i := 4)) (e_var (i := 2)) (nomark _)) a_nil)))))))))))))

abbrev st_Works_sure_hands : Stmt := clsAt (top 51) 12
abbrev n_Works_sure_hands : List Str := ["self", "name"]
theorem sc_Works_sure_hands : FnScope n_Works_sure_hands ["self"] (defScope st_Works_sure_hands) := ⟨rfl, rfl, rfl, by decide +kernel, rfl, by decide +kernel, by decide +kernel⟩
theorem ok_Works_sure_hands (T : Txt mg) (TC : TxC Pr w K mg base C) (c_sure_by : Cl Pr w K mg base C 2 "sure_by" g_sure_by) {f : Addr} {fd : FuncData} (Fu : Fun K "sure_hands" "Works.sure_hands" st_Works_sure_hands f fd) : FnOk Pr w K mg base CX0 3 f fd ["self"] (spF ⟨K, C⟩ g_Works_sure_hands) :=
  fn_ok (N := n_Works_sure_hands) Fu sc_Works_sure_hands fun cdv A outer s H E hr =>
    (ss_one (s_ret (e_bty call_tupP c_tupP T.b_tuple (by decide +kernel) (a_cons (e_comp (own := [("name", 1)]) rfl sc_Works_sure_hands.nd (i_it (e_blt (call_sortMT (by rfl)) c_sortT T.b_sorted (by decide +kernel) (a_cons (e_fld TC.cls TC.n_crew (e_var (i := 0))) a_nil))) (N' := n_Works_sure_hands) (sc' := defScope st_Works_sure_hands) rfl rfl (by decide +kernel) (fun _ _ _ _ _ => (b_name (i := 1) sc_Works_sure_hands.nd)) (fun _ _ _ _ _ => tt_yes) (fun _ _ _ _ _ => (e_tup (a_cons (e_var (i := 1)) (a_cons (e_cl c_sure_by hr (by decide) (a_cons (e_ix hr (e_ix hr (e_fld TC.cls TC.n_crew (e_var (i := 0))) (e_var (i := 1))) e_int) (a_cons (e_ix hr (e_ix hr (e_fld TC.cls TC.n_crew (e_var (i := 0))) (e_var (i := 1))) e_int) a_nil))) a_nil)))) (by decide)) a_nil))))

abbrev st_Works_end_of : Stmt := clsAt (top 51) 13
abbrev n_Works_end_of : List Str := ["self", "thing", "bound", "answers", "left", "hands", "mark"]
theorem sc_Works_end_of : FnScope n_Works_end_of ["self", "thing", "bound"] (defScope st_Works_end_of) := ⟨rfl, rfl, rfl, by decide +kernel, rfl, by decide +kernel, by decide +kernel⟩
theorem ok_Works_end_of (T : Txt mg) (TC : TxC Pr w K mg base C) (c_Works_sure_hands : ClM Pr w K mg base C 3 "sure_hands" g_Works_sure_hands) (c_settled : Cl Pr w K mg base C 4 "settled" g_settled) (c_shares : Cl Pr w K mg base C 2 "shares" g_shares) {f : Addr} {fd : FuncData} (Fu : Fun K "end_of" "Works.end_of" st_Works_end_of f fd) : FnOk Pr w K mg base CX0 5 f fd ["self", "thing", "bound"] (spF ⟨K, C⟩ g_Works_end_of) :=
  fn_ok (N := n_Works_end_of) Fu sc_Works_end_of fun cdv A outer s H E hr =>
    (ss_cons (s_if (t_cmp (op_inM (hu65 hr)) c_in (e_var (i := 1)) (e_fld TC.cls TC.n_known (e_var (i := 0))) (by with_unfolding_all rfl)) (ss_one (s_ret (e_tup (a_cons (e_ix hr (e_fld TC.cls TC.n_known (e_var (i := 0))) (e_var (i := 1))) (a_cons (e_tup (a_cons e_int (a_cons e_int a_nil))) a_nil))))) ss_nil)
    (ss_cons (s_unp rfl (nt_cons (i := 3) sc_Works_end_of.nd (nt_cons (i := 4) sc_Works_end_of.nd nt_nil)) (e_ix hr (e_fld TC.cls TC.n_out (e_var (i := 0))) (e_var (i := 1))))
    (ss_cons (s_asg (i := 5) sc_Works_end_of.nd (e_meth0 TC.cls c_Works_sure_hands hr (by decide) (e_var (i := 0))))
    (ss_cons (s_asg (i := 6) sc_Works_end_of.nd (e_cl c_settled hr (by decide) (a_cons (e_fld TC.cls TC.n_marks (e_var (i := 0))) (a_cons (e_var (i := 5)) (a_cons (e_var (i := 3)) (a_cons (e_var (i := 4)) (a_cons (e_var (i := 2)) a_nil)))))))
    (ss_cons (s_if (t_cmp op_isM c_is (e_var (i := 6)) e_non (nomark _)) (ss_one (s_ret e_non)) ss_nil)
    (ss_one (s_ret (e_tup (a_cons (e_var (i := 6)) (a_cons (e_ix hr (e_cl c_shares hr (by decide) (a_cons (e_fld TC.cls TC.n_marks (e_var (i := 0))) (a_cons (e_var (i := 5)) (a_cons (e_var (i := 3)) a_nil)))) (e_tindex (e_fld TC.cls TC.n_marks (e_var (i := 0))) (e_var (i := 6)))) a_nil))))))))))

abbrev st_Works_let_go : Stmt := clsAt (top 51) 14
abbrev n_Works_let_go : List Str := ["self", "bound", "found", "thing", "end", "mark", "share", "name", "told"]
theorem sc_Works_let_go : FnScope n_Works_let_go ["self", "bound"] (defScope st_Works_let_go) := ⟨rfl, rfl, rfl, by decide +kernel, rfl, by decide +kernel, by decide +kernel⟩
theorem ok_Works_let_go (T : Txt mg) (TC : TxC Pr w K mg base C) (c_is_bound : Cl Pr w K mg base C 3 "is_bound" g_is_bound) (c_Works_end_of : ClM Pr w K mg base C 5 "end_of" g_Works_end_of) {f : Addr} {fd : FuncData} (Fu : Fun K "let_go" "Works.let_go" st_Works_let_go f fd) : FnOk Pr w K mg base (L2.CX Pr w) 6 f fd ["self", "bound"] (spX ⟨K, C⟩ g_Works_let_go) :=
  fn_okX (N := n_Works_let_go) Fu sc_Works_let_go fun cdv A outer s H E hr =>
    (ss_cons (s_if (t_nox (t_not (t_val (e_cl c_is_bound hr (by decide) (a_cons (e_var (i := 1)) a_nil))))) (ss_one (s_raise rfl (takes_of rfl rfl rfl rfl) TC.x_NoBound)) ss_nil)
    (ss_cons (s_nox (s_fld TC.cls TC.n_busy (e_var (i := 0)) e_bl))
    (ss_cons (s_nox (s_own (i := 2) sc_Works_let_go.nd (e_lst a_nil)))
    (ss_cons (s_nox (s_for rfl PassesOwn.never (i_it (e_blt (call_sortMT (by rfl)) c_sortT T.b_sorted (by decide +kernel) (a_cons (e_fld TC.cls TC.n_out (e_var (i := 0))) a_nil))) (b_name (i := 3) sc_Works_let_go.nd) (ss_cons (s_nox (s_asg (i := 4) sc_Works_let_go.nd (e_meth TC.cls c_Works_end_of hr (by decide) (e_var (i := 0)) (a_cons (e_var (i := 3)) (a_cons (e_var (i := 1)) a_nil)))))
    (ss_one (s_nox (s_if (t_cmp op_isnM c_isn (e_var (i := 4)) e_non (nomark _)) (ss_one (s_nox (s_app (i := 2) (e_bin op_addM c_add (e_tup (a_cons (e_var (i := 3)) a_nil)) (e_var (i := 4)))))) ss_nil))))))
    (ss_cons (s_nox (s_frz 2 (s_for rfl PassesOwn.never (i_it (e_var (i := 2))) (b_tup rfl (nt_cons (i := 3) sc_Works_let_go.nd (nt_cons (i := 5) sc_Works_let_go.nd (nt_cons (i := 6) sc_Works_let_go.nd nt_nil)))) (ss_cons (s_nox (s_for rfl PassesOwn.never (i_it (e_ix hr (e_ix hr (e_fld TC.cls TC.n_out (e_var (i := 0))) (e_var (i := 3))) e_int)) (b_tup rfl (nt_cons (i := 7) sc_Works_let_go.nd (nt_cons (i := 8) sc_Works_let_go.nd nt_nil))) (ss_one (s_nox (s_augC hr (e_fld TC.cls TC.n_money (e_var (i := 0))) (e_var (i := 7)) (e_bin op_mulM c_mul (e_fld TC.cls TC.n_cents (e_var (i := 0))) (e_bty call_int1 c_int T.b_int (by decide +kernel) (a_cons (e_cmp (op_eqM (hu64 hr)) c_eq (e_var (i := 8)) (e_var (i := 5)) (nomark _)) a_nil))))))))
    (ss_one (s_nox (s_drop (e_dpopC (e_fld TC.cls TC.n_out (e_var (i := 0))) (e_var (i := 3))))))))))
    (ss_cons (s_nox (s_fld TC.cls TC.n_ended (e_var (i := 0)) (e_bin op_addM c_add (e_fld TC.cls TC.n_ended (e_var (i := 0))) (e_var (i := 2)))))
    (ss_cons (s_nox (s_fld TC.cls TC.n_busy (e_var (i := 0)) e_bl))
    (ss_one (s_nox (s_ret (e_bty call_list_of c_list T.b_list (by decide +kernel) (a_cons (e_var (i := 2)) a_nil))))))))))))

abbrev st_Works_hands : Stmt := clsAt (top 51) 15
abbrev n_Works_hands : List Str := ["self", "found", "name", "number", "right", "seen"]
theorem sc_Works_hands : FnScope n_Works_hands ["self"] (defScope st_Works_hands) := ⟨rfl, rfl, rfl, by decide +kernel, rfl, by decide +kernel, by decide +kernel⟩
theorem ok_Works_hands (T : Txt mg) (TC : TxC Pr w K mg base C) (c_Works_under_way : ClM Pr w K mg base C 1 "under_way" g_Works_under_way) {f : Addr} {fd : FuncData} (Fu : Fun K "hands" "Works.hands" st_Works_hands f fd) : FnOk Pr w K mg base CX0 2 f fd ["self"] (spF ⟨K, C⟩ g_Works_hands) :=
  fn_ok (N := n_Works_hands) Fu sc_Works_hands fun cdv A outer s H E hr =>
    (ss_cons (s_own (i := 1) sc_Works_hands.nd (e_lst a_nil))
    (ss_cons (s_for rfl PassesOwn.never (i_it (e_blt (call_sortMT (by rfl)) c_sortT T.b_sorted (by decide +kernel) (a_cons (e_fld TC.cls TC.n_crew (e_var (i := 0))) a_nil))) (b_name (i := 2) sc_Works_hands.nd) (ss_cons (s_unp rfl (nt_cons (i := 3) sc_Works_hands.nd (nt_cons (i := 4) sc_Works_hands.nd (nt_cons (i := 5) sc_Works_hands.nd nt_nil))) (e_ix hr (e_fld TC.cls TC.n_crew (e_var (i := 0))) (e_var (i := 2))))
    (ss_one (s_app (i := 1) (e_tup (a_cons (e_var (i := 2)) (a_cons (e_var (i := 3)) (a_cons (e_meth TC.cls c_Works_under_way hr (by decide) (e_var (i := 0)) (a_cons (e_var (i := 2)) a_nil)) (a_cons (e_var (i := 4)) (a_cons (e_var (i := 5)) a_nil))))))))))
    (ss_one (s_ret (e_var (i := 1))))))

abbrev st_Works_dealt : Stmt := clsAt (top 51) 17
abbrev n_Works_dealt : List Str := ["self", "thing"]
theorem sc_Works_dealt : FnScope n_Works_dealt ["self"] (defScope st_Works_dealt) := ⟨rfl, rfl, rfl, by decide +kernel, rfl, by decide +kernel, by decide +kernel⟩
theorem ok_Works_dealt (T : Txt mg) (TC : TxC Pr w K mg base C) {f : Addr} {fd : FuncData} (Fu : Fun K "dealt" "Works.dealt" st_Works_dealt f fd) : FnOk Pr w K mg base CX0 1 f fd ["self"] (spF ⟨K, C⟩ g_Works_dealt) :=
  fn_ok (N := n_Works_dealt) Fu sc_Works_dealt fun cdv A outer s H E hr =>
    (ss_one (s_ret (e_comp (own := [("thing", 1)]) rfl sc_Works_dealt.nd (i_it (e_blt (call_sortMT (by rfl)) c_sortT T.b_sorted (by decide +kernel) (a_cons (e_fld TC.cls TC.n_out (e_var (i := 0))) a_nil))) (N' := n_Works_dealt) (sc' := defScope st_Works_dealt) rfl rfl (by decide +kernel) (fun _ _ _ _ _ => (b_name (i := 1) sc_Works_dealt.nd)) (fun _ _ _ _ _ => tt_yes) (fun _ _ _ _ _ => (e_bin op_addM c_add (e_tup (a_cons (e_var (i := 1)) a_nil)) (e_ix hr (e_fld TC.cls TC.n_out (e_var (i := 0))) (e_var (i := 1))))) (by decide))))

abbrev st_Works_sure : Stmt := clsAt (top 51) 19
abbrev n_Works_sure : List Str := ["self", "name"]
theorem sc_Works_sure : FnScope n_Works_sure ["self", "name"] (defScope st_Works_sure) := ⟨rfl, rfl, rfl, by decide +kernel, rfl, by decide +kernel, by decide +kernel⟩
theorem ok_Works_sure (T : Txt mg) (TC : TxC Pr w K mg base C) (c_Works_need_hand : ClMX Pr w K mg base C 4 "need_hand" g_Works_need_hand) (c_sure_by : Cl Pr w K mg base C 2 "sure_by" g_sure_by) {f : Addr} {fd : FuncData} (Fu : Fun K "sure" "Works.sure" st_Works_sure f fd) : FnOk Pr w K mg base (L2.CX Pr w) 5 f fd ["self", "name"] (spX ⟨K, C⟩ g_Works_sure) :=
  fn_okX (N := n_Works_sure) Fu sc_Works_sure fun cdv A outer s H E hr =>
    (ss_cons (sx_drop (ex_meth (takes_of rfl rfl rfl rfl) TC.cls c_Works_need_hand hr (by decide) (e_var (i := 0)) (a_cons (e_var (i := 1)) a_nil)))
    (ss_one (s_nox (s_ret (e_cl c_sure_by hr (by decide) (a_cons (e_ix hr (e_ix hr (e_fld TC.cls TC.n_crew (e_var (i := 0))) (e_var (i := 1))) e_int) (a_cons (e_ix hr (e_ix hr (e_fld TC.cls TC.n_crew (e_var (i := 0))) (e_var (i := 1))) e_int) a_nil)))))))

abbrev st_Works_paid : Stmt := clsAt (top 51) 20
abbrev n_Works_paid : List Str := ["self", "name"]
theorem sc_Works_paid : FnScope n_Works_paid ["self", "name"] (defScope st_Works_paid) := ⟨rfl, rfl, rfl, by decide +kernel, rfl, by decide +kernel, by decide +kernel⟩
theorem ok_Works_paid (T : Txt mg) (TC : TxC Pr w K mg base C) (c_Works_need_hand : ClMX Pr w K mg base C 4 "need_hand" g_Works_need_hand) {f : Addr} {fd : FuncData} (Fu : Fun K "paid" "Works.paid" st_Works_paid f fd) : FnOk Pr w K mg base (L2.CX Pr w) 5 f fd ["self", "name"] (spX ⟨K, C⟩ g_Works_paid) :=
  fn_okX (N := n_Works_paid) Fu sc_Works_paid fun cdv A outer s H E hr =>
    (ss_cons (sx_drop (ex_meth (takes_of rfl rfl rfl rfl) TC.cls c_Works_need_hand hr (by decide) (e_var (i := 0)) (a_cons (e_var (i := 1)) a_nil)))
    (ss_one (s_nox (s_ret (e_ix hr (e_fld TC.cls TC.n_money (e_var (i := 0))) (e_var (i := 1)))))))

abbrev st__law_bag : Stmt := top 53
abbrev n__law_bag : List Str := ["script", "k", "cell"]
theorem sc__law_bag : FnScope n__law_bag ["script", "k"] (defScope st__law_bag) := ⟨rfl, rfl, rfl, by decide +kernel, rfl, by decide +kernel, by decide +kernel⟩
theorem ok__law_bag (T : Txt mg) (TC : TxC Pr w K mg base C) {f : Addr} {fd : FuncData} (Fu : Fun K "_law_bag" "_law_bag" st__law_bag f fd) : FnOk Pr w K mg base CX0 1 f fd ["script", "k"] (spF ⟨K, C⟩ g__law_bag) :=
  fn_ok (N := n__law_bag) Fu sc__law_bag fun cdv A outer s H E hr =>
    (ss_cons (s_asg (i := 2) sc__law_bag.nd e_int)
    (ss_cons (s_if (t_cmp op_ltQ c_ltQ (e_var (i := 1)) (e_blt call_lenM c_len T.b_len (by decide +kernel) (a_cons (e_var (i := 0)) a_nil)) (nomark _)) (ss_one (s_asg (i := 2) sc__law_bag.nd (e_blt call_abs c_abs T.b_abs (by decide +kernel) (a_cons (e_ix hr (e_var (i := 0)) (e_var (i := 1))) a_nil)))) ss_nil)
    (ss_cons (s_if (t_cmp op_ltQ c_ltQ (e_var (i := 2)) (e_bin op_pow c_pow e_int e_int) (nomark _)) (ss_one (s_ret (e_lst (a_cons e_int (a_cons (e_bin op_addM c_add e_int (e_bin op_mod c_mod (e_bin op_addM c_add (e_bin op_mulM c_mul (e_var (i := 2)) e_int) (e_bin op_mulM c_mul e_int (e_var (i := 1)))) e_int)) a_nil))))) ss_nil)
    (ss_one (s_ret (e_lst (a_cons (e_var (i := 2)) (a_cons (e_bin op_addM c_add e_int (e_bin op_mod c_mod (e_bin op_addM c_add (e_var (i := 2)) (e_var (i := 1))) e_int)) a_nil))))))))

abbrev st__law_take : Stmt := top 54
abbrev n__law_take : List Str := ["bag", "many", "found"]
theorem sc__law_take : FnScope n__law_take ["bag", "many"] (defScope st__law_take) := ⟨rfl, rfl, rfl, by decide +kernel, rfl, by decide +kernel, by decide +kernel⟩
theorem ok__law_take (T : Txt mg) (TC : TxC Pr w K mg base C) {f : Addr} {fd : FuncData} (Fu : Fun K "_law_take" "_law_take" st__law_take f fd) : FnOk Pr w K mg base CX0 1 f fd ["bag", "many"] (spF ⟨K, C⟩ g__law_take) :=
  fn_ok (N := n__law_take) Fu sc__law_take fun cdv A outer s H E hr =>
    (ss_cons (s_if (t_cmp op_gt c_gt (e_ix hr (e_var (i := 0)) e_int) e_int (nomark _)) (ss_cons (s_asg (i := 2) sc__law_take.nd (e_bin op_mod c_mod (e_ix hr (e_var (i := 0)) e_int) (e_var (i := 1))))
    (ss_cons (s_setC hr (e_var (i := 0)) e_int (e_bin op_fdvM c_fdv (e_ix hr (e_var (i := 0)) e_int) (e_var (i := 1))))
    (ss_one (s_ret (e_var (i := 2)))))) ss_nil)
    (ss_cons (s_setC hr (e_var (i := 0)) e_int (e_bin op_mod c_mod (e_bin op_mulM c_mul (e_ix hr (e_var (i := 0)) e_int) e_int) e_int))
    (ss_one (s_ret (e_bin op_mod c_mod (e_bin op_fdvM c_fdv (e_bin op_mod c_mod (e_bin op_mulM c_mul (e_ix hr (e_var (i := 0)) e_int) (e_ix hr (e_var (i := 0)) e_int)) e_int) e_int) (e_var (i := 1)))))))

abbrev st__law_of : Stmt := top 55
abbrev n__law_of : List Str := ["bag", "some"]
theorem sc__law_of : FnScope n__law_of ["bag", "some"] (defScope st__law_of) := ⟨rfl, rfl, rfl, by decide +kernel, rfl, by decide +kernel, by decide +kernel⟩
theorem ok__law_of (T : Txt mg) (TC : TxC Pr w K mg base C) (c__law_take : Cl Pr w K mg base C 1 "_law_take" g__law_take) {f : Addr} {fd : FuncData} (Fu : Fun K "_law_of" "_law_of" st__law_of f fd) : FnOk Pr w K mg base CX0 2 f fd ["bag", "some"] (spF ⟨K, C⟩ g__law_of) :=
  fn_ok (N := n__law_of) Fu sc__law_of fun cdv A outer s H E hr =>
    (ss_one (s_ret (e_ix hr (e_var (i := 1)) (e_cl c__law_take hr (by decide) (a_cons (e_var (i := 0)) (a_cons (e_blt call_lenM c_len T.b_len (by decide +kernel) (a_cons (e_var (i := 1)) a_nil)) a_nil))))))

abbrev st__law_shares_so : Stmt := top 58
abbrev n__law_shares_so : List Str := ["ax", "bo", "names", "ann", "bea", "cal", "dot", "marks", "hands", "answers", "found"]
theorem sc__law_shares_so : FnScope n__law_shares_so ["ax", "bo", "names"] (defScope st__law_shares_so) := ⟨rfl, rfl, rfl, by decide +kernel, rfl, by decide +kernel, by decide +kernel⟩
theorem ok__law_shares_so (T : Txt mg) (TC : TxC Pr w K mg base C) (c_is_turn : Cl Pr w K mg base C 3 "is_turn" g_is_turn) (c_shares : Cl Pr w K mg base C 2 "shares" g_shares) (c_first_mark : Cl Pr w K mg base C 2 "first_mark" g_first_mark) (c_fewest_turn : Cl Pr w K mg base C 4 "fewest_turn" g_fewest_turn) (c_settled : Cl Pr w K mg base C 4 "settled" g_settled) (c_sure_by : Cl Pr w K mg base C 2 "sure_by" g_sure_by) {f : Addr} {fd : FuncData} (Fu : Fun K "_law_shares_so" "_law_shares_so" st__law_shares_so f fd) : FnOk Pr w K mg base CX0 5 f fd ["ax", "bo", "names"] (spF ⟨K, C⟩ g__law_shares_so) :=
  fn_ok (N := n__law_shares_so) Fu sc__law_shares_so fun cdv A outer s H E hr =>
    (ss_cons (s_unp rfl (nt_cons (i := 3) sc__law_shares_so.nd (nt_cons (i := 4) sc__law_shares_so.nd (nt_cons (i := 5) sc__law_shares_so.nd (nt_cons (i := 6) sc__law_shares_so.nd nt_nil)))) (e_var (i := 2)))
    (ss_cons (s_par (i := 7) (j := 8) rfl sc__law_shares_so.nd (a_cons (e_tupP (a_cons (e_var (i := 0)) (a_cons (e_var (i := 1)) a_nil))) (a_cons (e_tupP (a_cons (e_tup (a_cons (e_var (i := 3)) (a_cons (e_tup (a_cons e_int (a_cons e_int a_nil))) a_nil))) (a_cons (e_tup (a_cons (e_var (i := 4)) (a_cons (e_tup (a_cons e_int (a_cons e_int a_nil))) a_nil))) (a_cons (e_tup (a_cons (e_var (i := 5)) (a_cons (e_tup (a_cons e_int (a_cons e_int a_nil))) a_nil))) a_nil)))) a_nil)))
    (ss_cons (s_asg (i := 9) sc__law_shares_so.nd (e_tup (a_cons (e_tup (a_cons (e_var (i := 3)) (a_cons (e_var (i := 0)) a_nil))) (a_cons (e_tup (a_cons (e_var (i := 4)) (a_cons (e_var (i := 0)) a_nil))) (a_cons (e_tup (a_cons (e_var (i := 5)) (a_cons (e_var (i := 1)) a_nil))) a_nil)))))
    (ss_cons (s_own (i := 10) sc__law_shares_so.nd (e_lst (a_cons (e_cmp (op_eqM (hu64 hr)) c_eq (e_cl c_shares hr (by decide) (a_cons (e_var (i := 7)) (a_cons (e_var (i := 8)) (a_cons (e_var (i := 9)) a_nil)))) (e_tup (a_cons (e_tup (a_cons e_int (a_cons e_int a_nil))) (a_cons (e_tup (a_cons e_int (a_cons e_int a_nil))) a_nil))) (nomark _)) (a_cons (e_cmp (op_eqM (hu64 hr)) c_eq (e_cl c_first_mark hr (by decide) (a_cons (e_var (i := 7)) (a_cons (e_var (i := 8)) (a_cons (e_var (i := 9)) a_nil)))) (e_var (i := 0)) (nomark _)) a_nil))))
    (ss_cons (s_app (i := 10) (e_and (e_cmp (op_eqM (hu64 hr)) c_eq (e_cl c_shares hr (by decide) (a_cons (e_var (i := 7)) (a_cons (e_var (i := 8)) (a_cons (e_sl (e_var (i := 9)) (o_some e_int) o_none) a_nil)))) (e_tup (a_cons (e_tup (a_cons e_int (a_cons e_int a_nil))) (a_cons (e_tup (a_cons e_int (a_cons e_int a_nil))) a_nil))) (nomark _)) (e_one (e_cmp (op_eqM (hu64 hr)) c_eq (e_cl c_sure_by hr (by decide) (a_cons e_int (a_cons e_int a_nil))) (e_tup (a_cons e_int (a_cons e_int a_nil))) (nomark _)))))
    (ss_cons (s_app (i := 10) (e_cmp op_isM c_is (e_cl c_fewest_turn hr (by decide) (a_cons (e_var (i := 7)) (a_cons (e_var (i := 8)) (a_cons (e_sl (e_var (i := 9)) o_none (o_some e_int)) (a_cons (e_tup (a_cons (e_var (i := 4)) a_nil)) a_nil))))) e_non (nomark _)))
    (ss_cons (s_app (i := 10) (e_cmp (op_eqM (hu64 hr)) c_eq (e_cl c_settled hr (by decide) (a_cons (e_var (i := 7)) (a_cons (e_var (i := 8)) (a_cons (e_sl (e_var (i := 9)) o_none (o_some e_int)) (a_cons (e_tup (a_cons (e_var (i := 4)) a_nil)) (a_cons (e_tup (a_cons e_int (a_cons e_int a_nil))) a_nil)))))) (e_var (i := 0)) (nomark _)))
    (ss_cons (s_app (i := 10) (e_cmp op_isM c_is (e_cl c_settled hr (by decide) (a_cons (e_var (i := 7)) (a_cons (e_var (i := 8)) (a_cons (e_sl (e_var (i := 9)) o_none (o_some e_int)) (a_cons (e_tup (a_cons (e_var (i := 4)) a_nil)) (a_cons (e_tup (a_cons e_int (a_cons e_int a_nil))) a_nil)))))) e_non (nomark _)))
    (ss_cons (s_app (i := 10) (e_cmp (op_eqM (hu64 hr)) c_eq (e_cl c_fewest_turn hr (by decide) (a_cons (e_var (i := 7)) (a_cons (e_var (i := 8)) (a_cons (e_sl (e_var (i := 9)) o_none (o_some e_int)) (a_cons (e_tup (a_cons (e_var (i := 4)) (a_cons (e_var (i := 5)) a_nil))) a_nil))))) (e_tup (a_cons (e_tup (a_cons (e_var (i := 5)) (a_cons (e_var (i := 1)) a_nil))) a_nil)) (nomark _)))
    (ss_cons (s_app (i := 10) (e_cmp op_isM c_is (e_cl c_settled hr (by decide) (a_cons (e_var (i := 7)) (a_cons (e_var (i := 8)) (a_cons (e_sl (e_var (i := 9)) o_none (o_some e_int)) (a_cons (e_tup (a_cons (e_var (i := 5)) a_nil)) (a_cons (e_tup (a_cons e_int (a_cons e_int a_nil))) a_nil)))))) e_non (nomark _)))
    (ss_cons (s_app (i := 10) (e_cl c_is_turn hr (by decide) (a_cons (e_var (i := 7)) (a_cons (e_var (i := 8)) (a_cons (e_sl (e_var (i := 9)) o_none (o_some e_int)) (a_cons (e_tup (a_cons (e_var (i := 4)) (a_cons (e_var (i := 5)) a_nil))) (a_cons (e_tup (a_cons (e_tup (a_cons (e_var (i := 4)) (a_cons (e_var (i := 1)) a_nil))) (a_cons (e_tup (a_cons (e_var (i := 5)) (a_cons (e_var (i := 1)) a_nil))) a_nil))) a_nil)))))))
    (ss_cons (s_app (i := 10) (e_not (e_cl c_is_turn hr (by decide) (a_cons (e_var (i := 7)) (a_cons (e_var (i := 8)) (a_cons (e_sl (e_var (i := 9)) o_none (o_some e_int)) (a_cons (e_tup (a_cons (e_var (i := 4)) (a_cons (e_var (i := 5)) a_nil))) (a_cons (e_tup (a_cons (e_tup (a_cons (e_var (i := 4)) (a_cons (e_var (i := 1)) a_nil))) a_nil)) a_nil))))))))
    (ss_cons (s_asg (i := 8) sc__law_shares_so.nd (e_tupP (a_cons (e_tup (a_cons (e_var (i := 3)) (a_cons (e_tup (a_cons e_int (a_cons e_int a_nil))) a_nil))) (a_cons (e_tup (a_cons (e_var (i := 6)) (a_cons (e_tup (a_cons e_int (a_cons e_int a_nil))) a_nil))) a_nil))))
    (ss_cons (s_app (i := 10) (e_cmp (op_eqM (hu64 hr)) c_eq (e_cl c_fewest_turn hr (by decide) (a_cons (e_var (i := 7)) (a_cons (e_var (i := 8)) (a_cons (e_tup (a_cons (e_tup (a_cons (e_var (i := 3)) (a_cons (e_var (i := 0)) a_nil))) a_nil)) (a_cons (e_tup (a_cons (e_var (i := 6)) a_nil)) a_nil))))) (e_tup (a_cons (e_tup (a_cons (e_var (i := 6)) (a_cons (e_var (i := 0)) a_nil))) a_nil)) (nomark _)))
    (ss_one (s_ret (e_bin op_addM c_add (e_var (i := 10)) (e_lst (a_cons (e_cmp (op_eqM (hu64 hr)) c_eq (e_cl c_fewest_turn hr (by decide) (a_cons (e_var (i := 7)) (a_cons (e_var (i := 8)) (a_cons (e_tup (a_cons (e_tup (a_cons (e_var (i := 3)) (a_cons (e_var (i := 1)) a_nil))) a_nil)) (a_cons (e_tup (a_cons (e_var (i := 6)) a_nil)) a_nil))))) (e_tup (a_cons (e_tup (a_cons (e_var (i := 6)) (a_cons (e_var (i := 1)) a_nil))) a_nil)) (nomark _)) a_nil)))))))))))))))))))

abbrev st__law_agreed_so : Stmt := top 59
abbrev n__law_agreed_so : List Str := ["ax", "bo", "one", "found"]
theorem sc__law_agreed_so : FnScope n__law_agreed_so ["ax", "bo"] (defScope st__law_agreed_so) := ⟨rfl, rfl, rfl, by decide +kernel, rfl, by decide +kernel, by decide +kernel⟩
theorem ok__law_agreed_so (T : Txt mg) (TC : TxC Pr w K mg base C) (c_agreement : Cl Pr w K mg base C 2 "agreement" g_agreement) {f : Addr} {fd : FuncData} (Fu : Fun K "_law_agreed_so" "_law_agreed_so" st__law_agreed_so f fd) : FnOk Pr w K mg base CX0 3 f fd ["ax", "bo"] (spF ⟨K, C⟩ g__law_agreed_so) :=
  fn_ok (N := n__law_agreed_so) Fu sc__law_agreed_so fun cdv A outer s H E hr =>
    (ss_cons (s_asg (i := 2) sc__law_agreed_so.nd (e_dic (e_disp (pd_cons e_str (e_var (i := 0)) (pd_cons e_str (e_var (i := 0)) (pd_cons e_str (e_var (i := 1)) (pd_cons e_str (e_var (i := 1)) (pd_cons e_str (e_var (i := 0)) pd_nil))))))))
    (ss_cons (s_own (i := 3) sc__law_agreed_so.nd (e_lst (a_cons (e_cmp (op_eqM (hu64 hr)) c_eq (e_cl c_agreement hr (by decide) (a_cons (e_var (i := 2)) (a_cons (e_dic (e_disp (pd_cons e_str (e_var (i := 0)) (pd_cons e_str (e_var (i := 1)) (pd_cons e_str (e_var (i := 1)) (pd_cons e_str (e_var (i := 1)) pd_nil)))))) a_nil))) (e_tup (a_cons e_int (a_cons (e_tup (a_cons e_int (a_cons e_int a_nil))) a_nil))) (nomark _)) a_nil)))
    (ss_cons (s_app (i := 3) (e_cmp (op_eqM (hu64 hr)) c_eq (e_cl c_agreement hr (by decide) (a_cons (e_dic (e_disp (pd_cons e_str (e_var (i := 0)) (pd_cons e_str (e_var (i := 1)) pd_nil)))) (a_cons (e_dic (e_disp (pd_cons e_str (e_var (i := 1)) (pd_cons e_str (e_var (i := 0)) pd_nil)))) a_nil))) (e_tup (a_cons (e_neg e_int) (a_cons (e_tup (a_cons e_int (a_cons e_int a_nil))) a_nil))) (nomark _)))
    (ss_cons (s_app (i := 3) (e_cmp (op_eqM (hu64 hr)) c_eq (e_cl c_agreement hr (by decide) (a_cons (e_var (i := 2)) (a_cons (e_dic (e_disp (pd_cons e_str (e_var (i := 0)) (pd_cons e_str (e_var (i := 1)) (pd_cons e_str (e_var (i := 0)) (pd_cons e_str (e_var (i := 1)) pd_nil)))))) a_nil))) (e_tup (a_cons e_int (a_cons (e_tup (a_cons e_int (a_cons e_int a_nil))) a_nil))) (nomark _)))
    (ss_one (s_ret (e_bin op_addM c_add (e_var (i := 3)) (e_lst (a_cons (e_cmp op_isM c_is (e_cl c_agreement hr (by decide) (a_cons (e_var (i := 2)) (a_cons (e_dic (e_disp (pd_cons e_str (e_var (i := 0)) (pd_cons e_str (e_var (i := 0)) (pd_cons e_str (e_var (i := 0)) pd_nil))))) a_nil))) e_non (nomark _)) (a_cons (e_cmp op_isM c_is (e_cl c_agreement hr (by decide) (a_cons (e_var (i := 2)) (a_cons (e_dic (e_disp (pd_cons e_str (e_var (i := 0)) pd_nil))) a_nil))) e_non (nomark _)) a_nil))))))))))

abbrev st__law_dealt_so : Stmt := top 60
abbrev n__law_dealt_so : List Str := ["names", "ann", "bea", "cal", "dot", "things", "most", "due", "found", "bars"]
theorem sc__law_dealt_so : FnScope n__law_dealt_so ["names"] (defScope st__law_dealt_so) := ⟨rfl, rfl, rfl, by decide +kernel, rfl, by decide +kernel, by decide +kernel⟩
theorem ok__law_dealt_so (T : Txt mg) (TC : TxC Pr w K mg base C) (c_dealing : Cl Pr w K mg base C 13 "dealing" g_dealing) (c_lack : Cl Pr w K mg base C 12 "lack" g_lack) (c_is_lack : Cl Pr w K mg base C 2 "is_lack" g_is_lack) {f : Addr} {fd : FuncData} (Fu : Fun K "_law_dealt_so" "_law_dealt_so" st__law_dealt_so f fd) : FnOk Pr w K mg base CX0 14 f fd ["names"] (spF ⟨K, C⟩ g__law_dealt_so) :=
  fn_ok (N := n__law_dealt_so) Fu sc__law_dealt_so fun cdv A outer s H E hr =>
    (ss_cons (s_unp rfl (nt_cons (i := 1) sc__law_dealt_so.nd (nt_cons (i := 2) sc__law_dealt_so.nd (nt_cons (i := 3) sc__law_dealt_so.nd (nt_cons (i := 4) sc__law_dealt_so.nd nt_nil)))) (e_var (i := 0)))
    (ss_cons (s_par (i := 5) (j := 6) rfl sc__law_dealt_so.nd (a_cons (e_tup (a_cons e_str (a_cons e_str (a_cons e_str a_nil)))) (a_cons (e_tup (a_cons (e_tup (a_cons (e_var (i := 1)) (a_cons e_int a_nil))) (a_cons (e_tup (a_cons (e_var (i := 2)) (a_cons e_int a_nil))) (a_cons (e_tup (a_cons (e_var (i := 3)) (a_cons e_int a_nil))) a_nil)))) a_nil)))
    (ss_cons (s_asg (i := 7) sc__law_dealt_so.nd (e_tup (a_cons (e_tup (a_cons e_str (a_cons (e_var (i := 1)) a_nil))) (a_cons (e_tup (a_cons e_str (a_cons (e_var (i := 2)) a_nil))) (a_cons (e_tup (a_cons e_str (a_cons (e_var (i := 1)) a_nil))) (a_cons (e_tup (a_cons e_str (a_cons (e_var (i := 3)) a_nil))) (a_cons (e_tup (a_cons e_str (a_cons (e_var (i := 2)) a_nil))) (a_cons (e_tup (a_cons e_str (a_cons (e_var (i := 3)) a_nil))) a_nil))))))))
    (ss_cons (s_own (i := 8) sc__law_dealt_so.nd (e_lst (a_cons (e_cmp (op_eqM (hu64 hr)) c_eq (e_cl c_dealing hr (by decide) (a_cons (e_var (i := 5)) (a_cons (e_var (i := 6)) (a_cons (e_tup a_nil) (a_cons e_int a_nil))))) (e_var (i := 7)) (nomark _)) (a_cons (e_cmp op_isM c_is (e_cl c_lack hr (by decide) (a_cons (e_var (i := 5)) (a_cons (e_var (i := 6)) (a_cons (e_tup a_nil) (a_cons e_int a_nil))))) e_non (nomark _)) a_nil))))
    (ss_cons (s_asg (i := 7) sc__law_dealt_so.nd (e_tup (a_cons (e_tup (a_cons e_str (a_cons (e_var (i := 1)) a_nil))) (a_cons (e_tup (a_cons e_str (a_cons (e_var (i := 3)) a_nil))) (a_cons (e_tup (a_cons e_str (a_cons (e_var (i := 2)) a_nil))) (a_cons (e_tup (a_cons e_str (a_cons (e_var (i := 3)) a_nil))) (a_cons (e_tup (a_cons e_str (a_cons (e_var (i := 1)) a_nil))) (a_cons (e_tup (a_cons e_str (a_cons (e_var (i := 2)) a_nil))) a_nil))))))))
    (ss_cons (s_app (i := 8) (e_cmp (op_eqM (hu64 hr)) c_eq (e_cl c_dealing hr (by decide) (a_cons (e_var (i := 5)) (a_cons (e_var (i := 6)) (a_cons (e_tup (a_cons (e_tup (a_cons (e_var (i := 3)) (a_cons e_str a_nil))) a_nil)) (a_cons e_int a_nil))))) (e_var (i := 7)) (nomark _)))
    (ss_cons (s_asg (i := 9) sc__law_dealt_so.nd (e_tup (a_cons (e_tup (a_cons (e_var (i := 2)) (a_cons e_str a_nil))) (a_cons (e_tup (a_cons (e_var (i := 3)) (a_cons e_str a_nil))) a_nil))))
    (ss_cons (s_app (i := 8) (e_and (e_cmp op_isM c_is (e_cl c_dealing hr (by decide) (a_cons (e_var (i := 5)) (a_cons (e_var (i := 6)) (a_cons (e_var (i := 9)) (a_cons e_int a_nil))))) e_non (nomark _)) (e_one (e_cmp (op_eqM (hu64 hr)) c_eq (e_cl c_lack hr (by decide) (a_cons (e_var (i := 5)) (a_cons (e_var (i := 6)) (a_cons (e_var (i := 9)) (a_cons e_int a_nil))))) (e_tup (a_cons e_str a_nil)) (nomark _)))))
    (ss_cons (s_app (i := 8) (e_and (e_cmp (op_eqM (hu64 hr)) c_eq (e_cl c_lack hr (by decide) (a_cons (e_var (i := 5)) (a_cons (e_var (i := 6)) (a_cons (e_tup a_nil) (a_cons e_int a_nil))))) (e_tup (a_cons e_str (a_cons e_str (a_cons e_str a_nil)))) (nomark _)) (e_one (e_cmp (op_eqM (hu64 hr)) c_eq (e_cl c_lack hr (by decide) (a_cons (e_var (i := 5)) (a_cons (e_sl (e_var (i := 6)) o_none (o_some e_int)) (a_cons (e_tup a_nil) (a_cons e_int a_nil))))) (e_tup (a_cons e_str a_nil)) (nomark _)))))
    (ss_one (s_ret (e_bin op_addM c_add (e_var (i := 8)) (e_lst (a_cons (e_cl c_is_lack hr (by decide) (a_cons (e_var (i := 5)) (a_cons (e_var (i := 6)) (a_cons (e_tup a_nil) (a_cons e_int (a_cons (e_var (i := 5)) a_nil)))))) (a_cons (e_not (e_cl c_is_lack hr (by decide) (a_cons (e_var (i := 5)) (a_cons (e_var (i := 6)) (a_cons (e_tup a_nil) (a_cons e_int (a_cons (e_sl (e_var (i := 5)) o_none (o_some e_int)) a_nil))))))) a_nil)))))))))))))))

abbrev st__law_works_so : Stmt := top 61
abbrev n__law_works_so : List Str := ["ax", "bo", "names", "ann", "bea", "cal", "dot", "works", "name", "found", "good", "e"]
theorem sc__law_works_so : FnScope n__law_works_so ["ax", "bo", "names"] (defScope st__law_works_so) := ⟨rfl, rfl, rfl, by decide +kernel, rfl, by decide +kernel, by decide +kernel⟩
theorem ok__law_works_so (T : Txt mg) (TC : TxC Pr w K mg base C) (c_Works___init__ : MkK Pr w K mg base C 4 "Works" g_Works___init__) (c_Works_put : ClMX Pr w K mg base C 4 "put" g_Works_put) (c_Works_judge : ClMX Pr w K mg base C 5 "judge" g_Works_judge) (c_Works_join : ClMX Pr w K mg base C 4 "join" g_Works_join) (c_Works_deal : ClMX Pr w K mg base C 14 "deal" g_Works_deal) (c_Works_answer : ClMX Pr w K mg base C 5 "answer" g_Works_answer) (c_Works_let_go : ClMX Pr w K mg base C 6 "let_go" g_Works_let_go) (c_Works_paid : ClMX Pr w K mg base C 5 "paid" g_Works_paid) (c_Works_sure : ClMX Pr w K mg base C 5 "sure" g_Works_sure) (c_Works_hands : ClM Pr w K mg base C 2 "hands" g_Works_hands) (c_Works_dealt : ClM Pr w K mg base C 1 "dealt" g_Works_dealt) {f : Addr} {fd : FuncData} (Fu : Fun K "_law_works_so" "_law_works_so" st__law_works_so f fd) : FnOk Pr w K mg base CX0 16 f fd ["ax", "bo", "names"] (spF ⟨K, C⟩ g__law_works_so) :=
  fn_ok (N := n__law_works_so) Fu sc__law_works_so fun cdv A outer s H E hr =>
    (ss_cons (s_unp rfl (nt_cons (i := 3) sc__law_works_so.nd (nt_cons (i := 4) sc__law_works_so.nd (nt_cons (i := 5) sc__law_works_so.nd (nt_cons (i := 6) sc__law_works_so.nd nt_nil)))) (e_var (i := 2)))
    (ss_cons (s_asg (i := 7) sc__law_works_so.nd (e_mkX c_Works___init__.k hr (by decide) (a_cons (e_tupP (a_cons (e_var (i := 0)) (a_cons (e_var (i := 1)) a_nil))) a_nil) (k_cons e_int k_nil) (al_cons al_nil) (al_cons al_nil)))
    (ss_cons (s_for rfl PassesOwn.never (i_it (e_lst (a_cons (e_var (i := 3)) (a_cons (e_var (i := 4)) a_nil)))) (b_name (i := 8) sc__law_works_so.nd) (ss_one (s_drop (e_methX TC.cls c_Works_join hr (by decide) (e_var (i := 7)) (a_cons (e_var (i := 8)) (a_cons e_int a_nil))))))
    (ss_cons (s_drop (e_methX TC.cls c_Works_put hr (by decide) (e_var (i := 7)) (a_cons e_str a_nil)))
    (ss_cons (s_own (i := 9) sc__law_works_so.nd (e_lst (a_cons (e_cmp (op_eqM (hu64 hr)) c_eq (e_methX TC.cls c_Works_deal hr (by decide) (e_var (i := 7)) (a_cons e_int a_nil)) (e_tup (a_cons (e_tup (a_cons e_str (a_cons (e_var (i := 3)) a_nil))) (a_cons (e_tup (a_cons e_str (a_cons (e_var (i := 4)) a_nil))) a_nil))) (nomark _)) (a_cons (e_cmp op_isM c_is (e_methX TC.cls c_Works_answer hr (by decide) (e_var (i := 7)) (a_cons (e_var (i := 3)) (a_cons e_str (a_cons (e_var (i := 0)) a_nil)))) e_bl (nomark _)) a_nil))))
    (ss_cons (s_drop (e_methX TC.cls c_Works_put hr (by decide) (e_var (i := 7)) (a_cons e_str a_nil)))
    (ss_cons (s_asg (i := 10) sc__law_works_so.nd e_bl)
    (ss_cons (s_try1 (cx := "Lacks") rfl rfl sc__law_works_so.nd rfl rfl rfl (.inl rfl) ⟨rfl, by decide, .inl TC.g_Lacks⟩ rfl (mtOne_ok TC.m_Lacks) (mtOne_xf TC.f_Lacks) (fun W pn xe tk => (ex_meth tk TC.cls c_Works_deal hr (by decide) (e_var (i := 7)) (a_cons e_int a_nil))) (fun _ _ _ => (e_tup (a_cons e_str a_nil))) (fun _ _ _ => (op_eqM (hu64s hr))) c_eq (nomark _) rfl rfl (by first | exact Or.inl rfl | exact Or.inr (Or.inl rfl) | exact Or.inr (Or.inr rfl)) (by decide) (by decide) (by first | exact Or.inl rfl | exact Or.inr rfl) rfl (by first | exact .inl rfl | exact .inr rfl))
    (ss_cons (s_app (i := 9) (e_and (e_var (i := 10)) (e_and (e_cmp (op_eqM (hu64 hr)) c_eq (e_methX TC.cls c_Works_let_go hr (by decide) (e_var (i := 7)) (a_cons (e_tup (a_cons e_int (a_cons e_int a_nil))) a_nil)) (e_lst a_nil) (nomark _)) (e_one (e_cmp (op_eqM (hu64 hr)) c_eq (e_methX TC.cls c_Works_let_go hr (by decide) (e_var (i := 7)) (a_cons (e_tup (a_cons e_int (a_cons e_int a_nil))) a_nil)) (e_lst (a_cons (e_tup (a_cons e_str (a_cons (e_var (i := 0)) (a_cons (e_tup (a_cons e_int (a_cons e_int a_nil))) a_nil)))) a_nil)) (nomark _))))))
    (ss_cons (s_app (i := 9) (e_and (e_cmp (op_eqM (hu64 hr)) c_eq (e_methX TC.cls c_Works_paid hr (by decide) (e_var (i := 7)) (a_cons (e_var (i := 3)) a_nil)) e_int (nomark _)) (e_and (e_cmp (op_eqM (hu64 hr)) c_eq (e_methX TC.cls c_Works_paid hr (by decide) (e_var (i := 7)) (a_cons (e_var (i := 4)) a_nil)) e_int (nomark _)) (e_one (e_cmp (op_eqM (hu64 hr)) c_eq (e_methX TC.cls c_Works_deal hr (by decide) (e_var (i := 7)) (a_cons e_int a_nil)) (e_tup (a_cons (e_tup (a_cons e_str (a_cons (e_var (i := 3)) a_nil))) (a_cons (e_tup (a_cons e_str (a_cons (e_var (i := 4)) a_nil))) a_nil))) (nomark _))))))
    (ss_cons (s_drop (e_methX TC.cls c_Works_judge hr (by decide) (e_var (i := 7)) (a_cons e_str (a_cons (e_var (i := 1)) a_nil))))
    (ss_cons (s_app (i := 9) (e_and (e_cmp op_isM c_is (e_methX TC.cls c_Works_answer hr (by decide) (e_var (i := 7)) (a_cons (e_var (i := 4)) (a_cons e_str (a_cons (e_var (i := 1)) a_nil)))) e_bl (nomark _)) (e_and (e_cmp (op_eqM (hu64 hr)) c_eq (e_methX TC.cls c_Works_sure hr (by decide) (e_var (i := 7)) (a_cons (e_var (i := 4)) a_nil)) (e_tup (a_cons e_int (a_cons e_int a_nil))) (nomark _)) (e_one (e_cmp (op_eqM (hu64 hr)) c_eq (e_methX TC.cls c_Works_sure hr (by decide) (e_var (i := 7)) (a_cons (e_var (i := 3)) a_nil)) (e_tup (a_cons e_int (a_cons e_int a_nil))) (nomark _))))))
    (ss_cons (s_app (i := 9) (e_and (e_cmp (op_eqM (hu64 hr)) c_eq (e_methX TC.cls c_Works_let_go hr (by decide) (e_var (i := 7)) (a_cons (e_tup (a_cons e_int (a_cons e_int a_nil))) a_nil)) (e_lst (a_cons (e_tup (a_cons e_str (a_cons (e_var (i := 1)) (a_cons (e_tup (a_cons e_int (a_cons e_int a_nil))) a_nil)))) a_nil)) (nomark _)) (e_one (e_cmp (op_eqM (hu64 hr)) c_eq (e_methX TC.cls c_Works_paid hr (by decide) (e_var (i := 7)) (a_cons (e_var (i := 4)) a_nil)) e_int (nomark _)))))
    (ss_one (s_ret (e_bin op_addM c_add (e_var (i := 9)) (e_lst (a_cons (e_cmp (op_eqM (hu64 hr)) c_eq (e_meth0 TC.cls c_Works_hands hr (by decide) (e_var (i := 7))) (e_lst (a_cons (e_tup (a_cons (e_var (i := 3)) (a_cons e_int (a_cons e_int (a_cons e_int (a_cons e_int a_nil)))))) (a_cons (e_tup (a_cons (e_var (i := 4)) (a_cons e_int (a_cons e_int (a_cons e_int (a_cons e_int a_nil)))))) a_nil))) (nomark _)) (a_cons (e_cmp (op_eqM (hu64 hr)) c_eq (e_meth0 TC.cls c_Works_dealt hr (by decide) (e_var (i := 7))) (e_lst a_nil) (nomark _)) a_nil)))))))))))))))))))

abbrev st_law : Stmt := top 62
abbrev n_law : List Str := ["script", "k", "bag", "ax", "bo", "names"]
theorem sc_law : FnScope n_law ["script"] (defScope st_law) := ⟨rfl, rfl, rfl, by decide +kernel, rfl, by decide +kernel, by decide +kernel⟩
theorem ok_law (T : Txt mg) (TC : TxC Pr w K mg base C) (c__law_bag : Cl Pr w K mg base C 1 "_law_bag" g__law_bag) (c__law_of : Cl Pr w K mg base C 2 "_law_of" g__law_of) (c__law_shares_so : Cl Pr w K mg base C 5 "_law_shares_so" (locF g__law_shares_so)) (c__law_agreed_so : Cl Pr w K mg base C 3 "_law_agreed_so" (locF g__law_agreed_so)) (c__law_dealt_so : Cl Pr w K mg base C 14 "_law_dealt_so" (locF g__law_dealt_so)) (c__law_works_so : Cl Pr w K mg base C 16 "_law_works_so" (locF g__law_works_so)) {f : Addr} {fd : FuncData} (Fu : Fun K "law" "law" st_law f fd) : FnOk Pr w K mg base CX0 17 f fd ["script"] (spF ⟨K, C⟩ g_law) :=
  fn_ok (N := n_law) Fu sc_law fun cdv A outer s H E hr =>
    (ss_cons (s_for rfl PassesOwn.never (i_range1 T.b_range (e_bin op_addM c_add e_int (e_blt (call_min2 rfl) c_min T.b_min (by decide +kernel) (a_cons (e_blt call_lenM c_len T.b_len (by decide +kernel) (a_cons (e_var (i := 0)) a_nil)) (a_cons e_int a_nil))))) (b_name (i := 1) sc_law.nd) (ss_cons (s_asg (i := 2) sc_law.nd (e_cel (e_cl c__law_bag hr (by decide) (a_cons (e_var (i := 0)) (a_cons (e_var (i := 1)) a_nil)))))
    (ss_cons (s_unp rfl (nt_cons (i := 3) sc_law.nd (nt_cons (i := 4) sc_law.nd nt_nil)) (e_cl c__law_of hr (by decide) (a_cons (e_var (i := 2)) (a_cons (e_lst (a_cons (e_tup (a_cons e_str (a_cons e_str a_nil))) (a_cons (e_tup (a_cons e_str (a_cons e_str a_nil))) (a_cons (e_tup (a_cons e_str (a_cons e_str a_nil))) a_nil)))) a_nil))))
    (ss_cons (s_asg (i := 5) sc_law.nd (e_cl c__law_of hr (by decide) (a_cons (e_var (i := 2)) (a_cons (e_lst (a_cons (e_tup (a_cons e_str (a_cons e_str (a_cons e_str (a_cons e_str a_nil))))) (a_cons (e_tup (a_cons e_str (a_cons e_str (a_cons e_str (a_cons e_str a_nil))))) (a_cons (e_tup (a_cons e_str (a_cons e_str (a_cons e_str (a_cons e_str a_nil))))) a_nil)))) a_nil))))
    (ss_cons (s_if (tw_t (tw_or (t_cmp (op_inM (hu65 hr)) c_in e_bl (e_cl c__law_shares_so hr (by decide) (a_cons (e_var (i := 3)) (a_cons (e_var (i := 4)) (a_cons (e_var (i := 5)) a_nil)))) (by with_unfolding_all rfl)) (tw_or1 (t_cmp (op_inM (hu65 hr)) c_in e_bl (e_cl c__law_agreed_so hr (by decide) (a_cons (e_var (i := 3)) (a_cons (e_var (i := 4)) a_nil))) (by with_unfolding_all rfl))))) (ss_one (s_ret e_bl)) ss_nil)
    (ss_one (s_if (tw_t (tw_or (t_cmp (op_inM (hu65 hr)) c_in e_bl (e_cl c__law_dealt_so hr (by decide) (a_cons (e_var (i := 5)) a_nil)) (by with_unfolding_all rfl)) (tw_or1 (t_cmp (op_inM (hu65 hr)) c_in e_bl (e_cl c__law_works_so hr (by decide) (a_cons (e_var (i := 3)) (a_cons (e_var (i := 4)) (a_cons (e_var (i := 5)) a_nil)))) (by with_unfolding_all rfl))))) (ss_one (s_ret e_bl)) ss_nil)))))))
    (ss_one (s_ret e_bl)))
end
end K14
namespace K14
open Mi PySem L2
def adr (K : PySem.W.Frag) (x : Str) : Addr := match PySem.W.nsIn K mainGlobals x with
  | some (some (.ref a)) => a
  | _ => 0
theorem adr_eq {K : PySem.W.Frag} {x : Str} {a : Addr} (h : PySem.W.nsIn K mainGlobals x = some (some (.ref a))) : adr K x = a := by
  unfold adr
  rw [h]
def Zk (K : PySem.W.Frag) : Zs := ⟨adr K "Works", adr K⟩
theorem exm_me {K : PySem.W.Frag} {S : Addr} (h1 : PySem.W.subIn K (.ref S) (.type "BaseException") = some true) (h2 : PySem.W.isClsIn K S = true) (h3 : PySem.W.typeIn K (.ref S) = some (.type "type")) (h4 : PySem.W.subIn K (.ref S) (.ref S) = some true) :
    PySem.W.exmOne K (.ref S) (.ref S) = some true := by
  have h5 : (PySem.W.clsIn K S).isSome = true := h2
  unfold PySem.W.exmOne PySem.W.kitCls
  simp only [h1, h3, h4, h5, beq_self_eq_true, Bool.and_self, if_true]
theorem lawSp {K : PySem.W.Frag} {C : Zs} (H : Hp) (a : Addr) (ns : List Int) (hl : ns.length ≤ 63) (hb : ∀ z ∈ ns, Builtin.Int.intBits z ≤ 1048576) (hS : SqL K H a (ns.map V.int)) : spF ⟨K, C⟩ g_law [.ref a] H (fun v _ => v = .bl true) fun _ _ _ => False := by
  obtain ⟨M', h⟩ := law_true ns hl hb
  refine ⟨fun _ => none, [], H, [], H, [.rol ns], _, M', ⟨Le.refl _, fun _ _ _ => rfl, fun _ _ q => (nomatch q), rfl, List.nodup_nil, fun _ q => (by simp at q), fun _ _ _ q => (by simp at q)⟩, .cons (.rol hS) .nil, h, fun v am' F' H' g s r f => ?_⟩
  cases r
  rfl
section
variable {K : PySem.W.Frag} {f DD : Addr} {oc doc pm cd ct : Value} {od an : Option Addr} {sl : Array (Option Value)} {t : Tok}
theorem init_D (l : K.lookup f = some ⟨oc, od, .func (PySem.W.fnOf "__init__" "Works.__init__" (defArgs st_Works___init__) (defBody st_Works___init__) (defScope st_Works___init__) .none (.ref DD) doc pm an cd ct), sl⟩) (c : PySem.W.codeIn K cd "Works.__init__" = true) (k : PySem.W.keepIn K (.ref f) = true)
    (q : PySem.W.nsIn K DD "price" = some (some (.int 10 t))) : FunD K "__init__" "Works.__init__" (defArgs st_Works___init__) (defBody st_Works___init__) (defScope st_Works___init__) [] [("price", .int 10)] f (PySem.W.fnOf "__init__" "Works.__init__" (defArgs st_Works___init__) (defBody st_Works___init__) (defScope st_Works___init__) .none (.ref DD) doc pm an cd ct) :=
  ⟨⟨oc, od, .none, .ref DD, doc, pm, an, cd, ct, sl, rfl, l, c, .inl ⟨rfl, rfl⟩, .inr ⟨DD, rfl, fun p hp => by
    rw [List.mem_singleton.mp hp]
    exact ⟨_, q, t, rfl⟩⟩⟩, k⟩
theorem init_d {fd : FuncData} (F : FunD K "__init__" "Works.__init__" (defArgs st_Works___init__) (defBody st_Works___init__) (defScope st_Works___init__) [] [("price", .int 10)] f fd) :
    ∃ g : List Value → List Value → List Value, KBn K fd ["self", "marks", "price"] 2 [] g (fun vs zs => vs ++ [.int 10] ++ zs) := by
  obtain ⟨mv, h⟩ := F.kbinds0 (ps := ["self", "marks", "price"]) 2 [] [("price", V.int 10)] (fun a b c => a ++ b ++ c) (by simp) (fun q hq => hq) (fun r1 r2 r3 => (r1.append r2).append r3) fun D doc pm an cdv ct us mv ws l1 l2 l3 => match us, mv, ws, l1, l2, l3 with
    | [a, b], [m], [], _, _, _ => ⟨_, _, _, _, _, _, rfl, rfl, rfl⟩
  exact ⟨_, h⟩
theorem init_k {fd : FuncData} (F : FunD K "__init__" "Works.__init__" (defArgs st_Works___init__) (defBody st_Works___init__) (defScope st_Works___init__) [] [("price", .int 10)] f fd) :
    ∃ g : List Value → List Value → List Value, KBn K fd ["self", "marks", "price"] 2 ["price"] g (fun vs zs => vs ++ [] ++ zs) := by
  obtain ⟨mv, h⟩ := F.kbinds0 (ps := ["self", "marks", "price"]) 2 ["price"] [] (fun a b c => a ++ b ++ c) (by simp) (fun q hq => by cases hq) (fun r1 r2 r3 => (r1.append r2).append r3) fun D doc pm an cdv ct us mv ws l1 l2 l3 => match us, mv, ws, l1, l2, l3 with
    | [a, b], [], [z], _, _, _ => rfl
  exact ⟨_, h⟩
end
set_option maxHeartbeats 2000000 in
theorem all_mk {l : PySem.W.OpenLaw} {w : World} {K : PySem.W.Frag} {h : Heap} {mg : Str → Option Value} {fa AC DD f0 f1 f2 f3 f4 f5 f6 f7 f8 f9 f10 f11 f12 f13 f14 f15 f16 f17 f18 f19 f20 f21 f22 f23 f24 f25 f26 f27 f28 f29 f30 f31 f32 f33 f34 f35 f36 f37 f38 f39 f40 f41 f42 f43 f44 f45 f46 B_AskedError X_NoMarks X_NoPrice X_NoName X_NoNumber X_NoMark X_NoBound X_Taken X_NoHand XI_NoHand X_NoThing XI_NoThing X_Full X_Judged X_Lacks XI_Lacks : Addr} {tPr t_LETTERS t_MOST_EACH t_MOST_HANDS t_MOST_MARKS t_MOST_NUMBER t_MOST_OPEN t_MOST_PRICE : Tok} (X : K.In h) (G : h.Ns mainGlobals mg) (hfa : mg "law" = some (.ref fa))
    {od0 an0 od1 an1 od2 an2 od3 an3 od4 an4 od5 an5 od6 an6 od7 an7 od8 an8 od9 an9 od10 an10 od11 an11 od12 an12 od13 an13 od14 an14 od15 an15 od16 an16 od17 an17 od18 an18 od19 an19 od20 an20 od21 an21 od22 an22 od23 an23 od24 an24 od25 an25 od26 an26 od27 an27 od28 an28 od29 an29 od30 an30 od31 an31 od32 an32 od33 an33 od34 an34 od35 an35 od36 an36 od37 an37 od38 an38 od39 an39 od40 an40 od41 an41 od42 an42 od43 an43 od44 an44 od45 an45 od46 an46 xod_NoHand xan_NoHand xod_NoThing xan_NoThing xod_Lacks xan_Lacks : Option Addr} {sl0 sl1 sl2 sl3 sl4 sl5 sl6 sl7 sl8 sl9 sl10 sl11 sl12 sl13 sl14 sl15 sl16 sl17 sl18 sl19 sl20 sl21 sl22 sl23 sl24 sl25 sl26 sl27 sl28 sl29 sl30 sl31 sl32 sl33 sl34 sl35 sl36 sl37 sl38 sl39 sl40 sl41 sl42 sl43 sl44 sl45 sl46 xsl_NoHand xsl_NoThing xsl_Lacks : Array (Option Value)} {oc0 dc0 pm0 cd0 ct0 kV0 oc1 dc1 pm1 cd1 ct1 kV1 oc2 dc2 pm2 cd2 ct2 kV2 oc3 dc3 pm3 cd3 ct3 kV3 oc4 dc4 pm4 cd4 ct4 kV4 oc5 dc5 pm5 cd5 ct5 kV5 oc6 dc6 pm6 cd6 ct6 kV6 oc7 dc7 pm7 cd7 ct7 kV7 oc8 dc8 pm8 cd8 ct8 kV8 oc9 dc9 pm9 cd9 ct9 kV9 oc10 dc10 pm10 cd10 ct10 kV10 oc11 dc11 pm11 cd11 ct11 kV11 oc12 dc12 pm12 cd12 ct12 kV12 oc13 dc13 pm13 cd13 ct13 kV13 oc14 dc14 pm14 cd14 ct14 kV14 oc15 dc15 pm15 cd15 ct15 kV15 oc16 dc16 pm16 cd16 ct16 kV16 oc17 dc17 pm17 cd17 ct17 kV17 oc18 dc18 pm18 cd18 ct18 kV18 oc19 dc19 pm19 cd19 ct19 kV19 oc20 dc20 pm20 cd20 ct20 kV20 oc21 dc21 pm21 cd21 ct21 kV21 oc22 dc22 pm22 cd22 ct22 oc23 dc23 pm23 cd23 ct23 kV23 oc24 dc24 pm24 cd24 ct24 kV24 oc25 dc25 pm25 cd25 ct25 kV25 oc26 dc26 pm26 cd26 ct26 kV26 oc27 dc27 pm27 cd27 ct27 kV27 oc28 dc28 pm28 cd28 ct28 kV28 oc29 dc29 pm29 cd29 ct29 kV29 oc30 dc30 pm30 cd30 ct30 kV30 oc31 dc31 pm31 cd31 ct31 kV31 oc32 dc32 pm32 cd32 ct32 kV32 oc33 dc33 pm33 cd33 ct33 kV33 oc34 dc34 pm34 cd34 ct34 kV34 oc35 dc35 pm35 cd35 ct35 kV35 oc36 dc36 pm36 cd36 ct36 kV36 oc37 dc37 pm37 cd37 ct37 kV37 oc38 dc38 pm38 cd38 ct38 kV38 oc39 dc39 pm39 cd39 ct39 kV39 oc40 dc40 pm40 cd40 ct40 kV40 oc41 dc41 pm41 cd41 ct41 kV41 oc42 dc42 pm42 cd42 ct42 kV42 oc43 dc43 pm43 cd43 ct43 kV43 oc44 dc44 pm44 cd44 ct44 kV44 oc45 dc45 pm45 cd45 ct45 kV45 oc46 dc46 pm46 cd46 ct46 kV46 xoc_NoHand xkV_NoHand xdc_NoHand xpm_NoHand xcd_NoHand xct_NoHand xoc_NoThing xkV_NoThing xdc_NoThing xpm_NoThing xcd_NoThing xct_NoThing xoc_Lacks xkV_Lacks xdc_Lacks xpm_Lacks xcd_Lacks xct_Lacks : Value}
    {nm_NoHand qn_NoHand : Str} {N_NoHand : Addr} {bs_NoHand bm_NoHand : List Value} {sn_NoHand : List Str} {sub_NoHand : List Value} {ab_NoHand : Bool} {col_NoHand : Option Bool} {dd_NoHand : Option Addr} {m0_NoHand m1_NoHand m2_NoHand m3_NoHand m5_NoHand : Option Value}
    {nm_NoThing qn_NoThing : Str} {N_NoThing : Addr} {bs_NoThing bm_NoThing : List Value} {sn_NoThing : List Str} {sub_NoThing : List Value} {ab_NoThing : Bool} {col_NoThing : Option Bool} {dd_NoThing : Option Addr} {m0_NoThing m1_NoThing m2_NoThing m3_NoThing m5_NoThing : Option Value}
    {nm_Lacks qn_Lacks : Str} {N_Lacks : Addr} {bs_Lacks bm_Lacks : List Value} {sn_Lacks : List Str} {sub_Lacks : List Value} {ab_Lacks : Bool} {col_Lacks : Option Bool} {dd_Lacks : Option Addr} {m0_Lacks m1_Lacks m2_Lacks m3_Lacks m5_Lacks : Option Value}
    (aC : PySem.W.nsIn K mainGlobals "Works" = some (some (.ref AC)))
    (pgC : PySem.W.plainGet K AC Str.empty = true)
    (hdC : PySem.W.hasDictIn K AC = true)
    (poC : PySem.W.plainOver K AC = true)
    (saC : PySem.W.findIn K (.ref AC) "__setattr__" = some (some (.builtin "object.__setattr__")))
    (mkC : PySem.W.makesIn K AC = true)
    (kcC : PySem.W.keepIn K (.ref AC) = true)
    (nf_bars : PySem.W.findIn K (.ref AC) "bars" = some none)
    (nf_busy : PySem.W.findIn K (.ref AC) "busy" = some none)
    (nf_cents : PySem.W.findIn K (.ref AC) "cents" = some none)
    (nf_crew : PySem.W.findIn K (.ref AC) "crew" = some none)
    (nf_ended : PySem.W.findIn K (.ref AC) "ended" = some none)
    (nf_known : PySem.W.findIn K (.ref AC) "known" = some none)
    (nf_marks : PySem.W.findIn K (.ref AC) "marks" = some none)
    (nf_money : PySem.W.findIn K (.ref AC) "money" = some none)
    (nf_out : PySem.W.findIn K (.ref AC) "out" = some none)
    (nf_waiting : PySem.W.findIn K (.ref AC) "waiting" = some none)
    (a0 : PySem.W.nsIn K mainGlobals "is_whole" = some (some (.ref f0)))
    (l0 : K.lookup f0 = some ⟨oc0, od0, .func (PySem.W.fnOf "is_whole" "is_whole" (defArgs st_is_whole) (defBody st_is_whole) (defScope st_is_whole) .none kV0 dc0 pm0 an0 cd0 ct0), sl0⟩)
    (c0 : PySem.W.codeIn K cd0 "is_whole" = true)
    (k0 : PySem.W.keepIn K (.ref f0) = true)
    (a1 : PySem.W.nsIn K mainGlobals "is_within" = some (some (.ref f1)))
    (l1 : K.lookup f1 = some ⟨oc1, od1, .func (PySem.W.fnOf "is_within" "is_within" (defArgs st_is_within) (defBody st_is_within) (defScope st_is_within) .none kV1 dc1 pm1 an1 cd1 ct1), sl1⟩)
    (c1 : PySem.W.codeIn K cd1 "is_within" = true)
    (k1 : PySem.W.keepIn K (.ref f1) = true)
    (a2 : PySem.W.nsIn K mainGlobals "is_name" = some (some (.ref f2)))
    (l2 : K.lookup f2 = some ⟨oc2, od2, .func (PySem.W.fnOf "is_name" "is_name" (defArgs st_is_name) (defBody st_is_name) (defScope st_is_name) .none kV2 dc2 pm2 an2 cd2 ct2), sl2⟩)
    (c2 : PySem.W.codeIn K cd2 "is_name" = true)
    (k2 : PySem.W.keepIn K (.ref f2) = true)
    (a3 : PySem.W.nsIn K mainGlobals "are_rising" = some (some (.ref f3)))
    (l3 : K.lookup f3 = some ⟨oc3, od3, .func (PySem.W.fnOf "are_rising" "are_rising" (defArgs st_are_rising) (defBody st_are_rising) (defScope st_are_rising) .none kV3 dc3 pm3 an3 cd3 ct3), sl3⟩)
    (c3 : PySem.W.codeIn K cd3 "are_rising" = true)
    (k3 : PySem.W.keepIn K (.ref f3) = true)
    (a4 : PySem.W.nsIn K mainGlobals "lowest" = some (some (.ref f4)))
    (l4 : K.lookup f4 = some ⟨oc4, od4, .func (PySem.W.fnOf "lowest" "lowest" (defArgs st_lowest) (defBody st_lowest) (defScope st_lowest) .none kV4 dc4 pm4 an4 cd4 ct4), sl4⟩)
    (c4 : PySem.W.codeIn K cd4 "lowest" = true)
    (k4 : PySem.W.keepIn K (.ref f4) = true)
    (a5 : PySem.W.nsIn K mainGlobals "are_marks" = some (some (.ref f5)))
    (l5 : K.lookup f5 = some ⟨oc5, od5, .func (PySem.W.fnOf "are_marks" "are_marks" (defArgs st_are_marks) (defBody st_are_marks) (defScope st_are_marks) .none kV5 dc5 pm5 an5 cd5 ct5), sl5⟩)
    (c5 : PySem.W.codeIn K cd5 "are_marks" = true)
    (k5 : PySem.W.keepIn K (.ref f5) = true)
    (a6 : PySem.W.nsIn K mainGlobals "sure_by" = some (some (.ref f6)))
    (l6 : K.lookup f6 = some ⟨oc6, od6, .func (PySem.W.fnOf "sure_by" "sure_by" (defArgs st_sure_by) (defBody st_sure_by) (defScope st_sure_by) .none kV6 dc6 pm6 an6 cd6 ct6), sl6⟩)
    (c6 : PySem.W.codeIn K cd6 "sure_by" = true)
    (k6 : PySem.W.keepIn K (.ref f6) = true)
    (a7 : PySem.W.nsIn K mainGlobals "weights" = some (some (.ref f7)))
    (l7 : K.lookup f7 = some ⟨oc7, od7, .func (PySem.W.fnOf "weights" "weights" (defArgs st_weights) (defBody st_weights) (defScope st_weights) .none kV7 dc7 pm7 an7 cd7 ct7), sl7⟩)
    (c7 : PySem.W.codeIn K cd7 "weights" = true)
    (k7 : PySem.W.keepIn K (.ref f7) = true)
    (a8 : PySem.W.nsIn K mainGlobals "shares" = some (some (.ref f8)))
    (l8 : K.lookup f8 = some ⟨oc8, od8, .func (PySem.W.fnOf "shares" "shares" (defArgs st_shares) (defBody st_shares) (defScope st_shares) .none kV8 dc8 pm8 an8 cd8 ct8), sl8⟩)
    (c8 : PySem.W.codeIn K cd8 "shares" = true)
    (k8 : PySem.W.keepIn K (.ref f8) = true)
    (a9 : PySem.W.nsIn K mainGlobals "first_mark" = some (some (.ref f9)))
    (l9 : K.lookup f9 = some ⟨oc9, od9, .func (PySem.W.fnOf "first_mark" "first_mark" (defArgs st_first_mark) (defBody st_first_mark) (defScope st_first_mark) .none kV9 dc9 pm9 an9 cd9 ct9), sl9⟩)
    (c9 : PySem.W.codeIn K cd9 "first_mark" = true)
    (k9 : PySem.W.keepIn K (.ref f9) = true)
    (a10 : PySem.W.nsIn K mainGlobals "is_turn" = some (some (.ref f10)))
    (l10 : K.lookup f10 = some ⟨oc10, od10, .func (PySem.W.fnOf "is_turn" "is_turn" (defArgs st_is_turn) (defBody st_is_turn) (defScope st_is_turn) .none kV10 dc10 pm10 an10 cd10 ct10), sl10⟩)
    (c10 : PySem.W.codeIn K cd10 "is_turn" = true)
    (k10 : PySem.W.keepIn K (.ref f10) = true)
    (a11 : PySem.W.nsIn K mainGlobals "pulls" = some (some (.ref f11)))
    (l11 : K.lookup f11 = some ⟨oc11, od11, .func (PySem.W.fnOf "pulls" "pulls" (defArgs st_pulls) (defBody st_pulls) (defScope st_pulls) .none kV11 dc11 pm11 an11 cd11 ct11), sl11⟩)
    (c11 : PySem.W.codeIn K cd11 "pulls" = true)
    (k11 : PySem.W.keepIn K (.ref f11) = true)
    (a12 : PySem.W.nsIn K mainGlobals "can_with" = some (some (.ref f12)))
    (l12 : K.lookup f12 = some ⟨oc12, od12, .func (PySem.W.fnOf "can_with" "can_with" (defArgs st_can_with) (defBody st_can_with) (defScope st_can_with) .none kV12 dc12 pm12 an12 cd12 ct12), sl12⟩)
    (c12 : PySem.W.codeIn K cd12 "can_with" = true)
    (k12 : PySem.W.keepIn K (.ref f12) = true)
    (a13 : PySem.W.nsIn K mainGlobals "fewest_turn" = some (some (.ref f13)))
    (l13 : K.lookup f13 = some ⟨oc13, od13, .func (PySem.W.fnOf "fewest_turn" "fewest_turn" (defArgs st_fewest_turn) (defBody st_fewest_turn) (defScope st_fewest_turn) .none kV13 dc13 pm13 an13 cd13 ct13), sl13⟩)
    (c13 : PySem.W.codeIn K cd13 "fewest_turn" = true)
    (k13 : PySem.W.keepIn K (.ref f13) = true)
    (a14 : PySem.W.nsIn K mainGlobals "settled" = some (some (.ref f14)))
    (l14 : K.lookup f14 = some ⟨oc14, od14, .func (PySem.W.fnOf "settled" "settled" (defArgs st_settled) (defBody st_settled) (defScope st_settled) .none kV14 dc14 pm14 an14 cd14 ct14), sl14⟩)
    (c14 : PySem.W.codeIn K cd14 "settled" = true)
    (k14 : PySem.W.keepIn K (.ref f14) = true)
    (a15 : PySem.W.nsIn K mainGlobals "agreement" = some (some (.ref f15)))
    (l15 : K.lookup f15 = some ⟨oc15, od15, .func (PySem.W.fnOf "agreement" "agreement" (defArgs st_agreement) (defBody st_agreement) (defScope st_agreement) .none kV15 dc15 pm15 an15 cd15 ct15), sl15⟩)
    (c15 : PySem.W.codeIn K cd15 "agreement" = true)
    (k15 : PySem.W.keepIn K (.ref f15) = true)
    (a16 : PySem.W.nsIn K mainGlobals "lots" = some (some (.ref f16)))
    (l16 : K.lookup f16 = some ⟨oc16, od16, .func (PySem.W.fnOf "lots" "lots" (defArgs st_lots) (defBody st_lots) (defScope st_lots) .none kV16 dc16 pm16 an16 cd16 ct16), sl16⟩)
    (c16 : PySem.W.codeIn K cd16 "lots" = true)
    (k16 : PySem.W.keepIn K (.ref f16) = true)
    (a17 : PySem.W.nsIn K mainGlobals "reach" = some (some (.ref f17)))
    (l17 : K.lookup f17 = some ⟨oc17, od17, .func (PySem.W.fnOf "reach" "reach" (defArgs st_reach) (defBody st_reach) (defScope st_reach) .none kV17 dc17 pm17 an17 cd17 ct17), sl17⟩)
    (c17 : PySem.W.codeIn K cd17 "reach" = true)
    (k17 : PySem.W.keepIn K (.ref f17) = true)
    (a18 : PySem.W.nsIn K mainGlobals "lack" = some (some (.ref f18)))
    (l18 : K.lookup f18 = some ⟨oc18, od18, .func (PySem.W.fnOf "lack" "lack" (defArgs st_lack) (defBody st_lack) (defScope st_lack) .none kV18 dc18 pm18 an18 cd18 ct18), sl18⟩)
    (c18 : PySem.W.codeIn K cd18 "lack" = true)
    (k18 : PySem.W.keepIn K (.ref f18) = true)
    (a19 : PySem.W.nsIn K mainGlobals "is_lack" = some (some (.ref f19)))
    (l19 : K.lookup f19 = some ⟨oc19, od19, .func (PySem.W.fnOf "is_lack" "is_lack" (defArgs st_is_lack) (defBody st_is_lack) (defScope st_is_lack) .none kV19 dc19 pm19 an19 cd19 ct19), sl19⟩)
    (c19 : PySem.W.codeIn K cd19 "is_lack" = true)
    (k19 : PySem.W.keepIn K (.ref f19) = true)
    (a20 : PySem.W.nsIn K mainGlobals "dealing" = some (some (.ref f20)))
    (l20 : K.lookup f20 = some ⟨oc20, od20, .func (PySem.W.fnOf "dealing" "dealing" (defArgs st_dealing) (defBody st_dealing) (defScope st_dealing) .none kV20 dc20 pm20 an20 cd20 ct20), sl20⟩)
    (c20 : PySem.W.codeIn K cd20 "dealing" = true)
    (k20 : PySem.W.keepIn K (.ref f20) = true)
    (a21 : PySem.W.nsIn K mainGlobals "is_bound" = some (some (.ref f21)))
    (l21 : K.lookup f21 = some ⟨oc21, od21, .func (PySem.W.fnOf "is_bound" "is_bound" (defArgs st_is_bound) (defBody st_is_bound) (defScope st_is_bound) .none kV21 dc21 pm21 an21 cd21 ct21), sl21⟩)
    (c21 : PySem.W.codeIn K cd21 "is_bound" = true)
    (k21 : PySem.W.keepIn K (.ref f21) = true)
    (a22 : PySem.W.findIn K (.ref AC) "__init__" = some (some (.ref f22)))
    (i22 : PySem.W.isFn K (.ref f22) = true)
    (l22 : K.lookup f22 = some ⟨oc22, od22, .func (PySem.W.fnOf "__init__" "Works.__init__" (defArgs st_Works___init__) (defBody st_Works___init__) (defScope st_Works___init__) .none (.ref DD) dc22 pm22 an22 cd22 ct22), sl22⟩)
    (c22 : PySem.W.codeIn K cd22 "Works.__init__" = true)
    (k22 : PySem.W.keepIn K (.ref f22) = true)
    (a23 : PySem.W.findIn K (.ref AC) "join" = some (some (.ref f23)))
    (i23 : PySem.W.isFn K (.ref f23) = true)
    (l23 : K.lookup f23 = some ⟨oc23, od23, .func (PySem.W.fnOf "join" "Works.join" (defArgs st_Works_join) (defBody st_Works_join) (defScope st_Works_join) .none kV23 dc23 pm23 an23 cd23 ct23), sl23⟩)
    (c23 : PySem.W.codeIn K cd23 "Works.join" = true)
    (k23 : PySem.W.keepIn K (.ref f23) = true)
    (a24 : PySem.W.findIn K (.ref AC) "need_hand" = some (some (.ref f24)))
    (i24 : PySem.W.isFn K (.ref f24) = true)
    (l24 : K.lookup f24 = some ⟨oc24, od24, .func (PySem.W.fnOf "need_hand" "Works.need_hand" (defArgs st_Works_need_hand) (defBody st_Works_need_hand) (defScope st_Works_need_hand) .none kV24 dc24 pm24 an24 cd24 ct24), sl24⟩)
    (c24 : PySem.W.codeIn K cd24 "Works.need_hand" = true)
    (k24 : PySem.W.keepIn K (.ref f24) = true)
    (a25 : PySem.W.findIn K (.ref AC) "need_mark" = some (some (.ref f25)))
    (i25 : PySem.W.isFn K (.ref f25) = true)
    (l25 : K.lookup f25 = some ⟨oc25, od25, .func (PySem.W.fnOf "need_mark" "Works.need_mark" (defArgs st_Works_need_mark) (defBody st_Works_need_mark) (defScope st_Works_need_mark) .none kV25 dc25 pm25 an25 cd25 ct25), sl25⟩)
    (c25 : PySem.W.codeIn K cd25 "Works.need_mark" = true)
    (k25 : PySem.W.keepIn K (.ref f25) = true)
    (a26 : PySem.W.findIn K (.ref AC) "count" = some (some (.ref f26)))
    (i26 : PySem.W.isFn K (.ref f26) = true)
    (l26 : K.lookup f26 = some ⟨oc26, od26, .func (PySem.W.fnOf "count" "Works.count" (defArgs st_Works_count) (defBody st_Works_count) (defScope st_Works_count) .none kV26 dc26 pm26 an26 cd26 ct26), sl26⟩)
    (c26 : PySem.W.codeIn K cd26 "Works.count" = true)
    (k26 : PySem.W.keepIn K (.ref f26) = true)
    (a27 : PySem.W.findIn K (.ref AC) "put" = some (some (.ref f27)))
    (i27 : PySem.W.isFn K (.ref f27) = true)
    (l27 : K.lookup f27 = some ⟨oc27, od27, .func (PySem.W.fnOf "put" "Works.put" (defArgs st_Works_put) (defBody st_Works_put) (defScope st_Works_put) .none kV27 dc27 pm27 an27 cd27 ct27), sl27⟩)
    (c27 : PySem.W.codeIn K cd27 "Works.put" = true)
    (k27 : PySem.W.keepIn K (.ref f27) = true)
    (a28 : PySem.W.findIn K (.ref AC) "under_way" = some (some (.ref f28)))
    (i28 : PySem.W.isFn K (.ref f28) = true)
    (l28 : K.lookup f28 = some ⟨oc28, od28, .func (PySem.W.fnOf "under_way" "Works.under_way" (defArgs st_Works_under_way) (defBody st_Works_under_way) (defScope st_Works_under_way) .none kV28 dc28 pm28 an28 cd28 ct28), sl28⟩)
    (c28 : PySem.W.codeIn K cd28 "Works.under_way" = true)
    (k28 : PySem.W.keepIn K (.ref f28) = true)
    (a29 : PySem.W.findIn K (.ref AC) "deal" = some (some (.ref f29)))
    (i29 : PySem.W.isFn K (.ref f29) = true)
    (l29 : K.lookup f29 = some ⟨oc29, od29, .func (PySem.W.fnOf "deal" "Works.deal" (defArgs st_Works_deal) (defBody st_Works_deal) (defScope st_Works_deal) .none kV29 dc29 pm29 an29 cd29 ct29), sl29⟩)
    (c29 : PySem.W.codeIn K cd29 "Works.deal" = true)
    (k29 : PySem.W.keepIn K (.ref f29) = true)
    (a30 : PySem.W.findIn K (.ref AC) "answer" = some (some (.ref f30)))
    (i30 : PySem.W.isFn K (.ref f30) = true)
    (l30 : K.lookup f30 = some ⟨oc30, od30, .func (PySem.W.fnOf "answer" "Works.answer" (defArgs st_Works_answer) (defBody st_Works_answer) (defScope st_Works_answer) .none kV30 dc30 pm30 an30 cd30 ct30), sl30⟩)
    (c30 : PySem.W.codeIn K cd30 "Works.answer" = true)
    (k30 : PySem.W.keepIn K (.ref f30) = true)
    (a31 : PySem.W.findIn K (.ref AC) "judge" = some (some (.ref f31)))
    (i31 : PySem.W.isFn K (.ref f31) = true)
    (l31 : K.lookup f31 = some ⟨oc31, od31, .func (PySem.W.fnOf "judge" "Works.judge" (defArgs st_Works_judge) (defBody st_Works_judge) (defScope st_Works_judge) .none kV31 dc31 pm31 an31 cd31 ct31), sl31⟩)
    (c31 : PySem.W.codeIn K cd31 "Works.judge" = true)
    (k31 : PySem.W.keepIn K (.ref f31) = true)
    (a32 : PySem.W.findIn K (.ref AC) "sure_hands" = some (some (.ref f32)))
    (i32 : PySem.W.isFn K (.ref f32) = true)
    (l32 : K.lookup f32 = some ⟨oc32, od32, .func (PySem.W.fnOf "sure_hands" "Works.sure_hands" (defArgs st_Works_sure_hands) (defBody st_Works_sure_hands) (defScope st_Works_sure_hands) .none kV32 dc32 pm32 an32 cd32 ct32), sl32⟩)
    (c32 : PySem.W.codeIn K cd32 "Works.sure_hands" = true)
    (k32 : PySem.W.keepIn K (.ref f32) = true)
    (a33 : PySem.W.findIn K (.ref AC) "end_of" = some (some (.ref f33)))
    (i33 : PySem.W.isFn K (.ref f33) = true)
    (l33 : K.lookup f33 = some ⟨oc33, od33, .func (PySem.W.fnOf "end_of" "Works.end_of" (defArgs st_Works_end_of) (defBody st_Works_end_of) (defScope st_Works_end_of) .none kV33 dc33 pm33 an33 cd33 ct33), sl33⟩)
    (c33 : PySem.W.codeIn K cd33 "Works.end_of" = true)
    (k33 : PySem.W.keepIn K (.ref f33) = true)
    (a34 : PySem.W.findIn K (.ref AC) "let_go" = some (some (.ref f34)))
    (i34 : PySem.W.isFn K (.ref f34) = true)
    (l34 : K.lookup f34 = some ⟨oc34, od34, .func (PySem.W.fnOf "let_go" "Works.let_go" (defArgs st_Works_let_go) (defBody st_Works_let_go) (defScope st_Works_let_go) .none kV34 dc34 pm34 an34 cd34 ct34), sl34⟩)
    (c34 : PySem.W.codeIn K cd34 "Works.let_go" = true)
    (k34 : PySem.W.keepIn K (.ref f34) = true)
    (a35 : PySem.W.findIn K (.ref AC) "hands" = some (some (.ref f35)))
    (i35 : PySem.W.isFn K (.ref f35) = true)
    (l35 : K.lookup f35 = some ⟨oc35, od35, .func (PySem.W.fnOf "hands" "Works.hands" (defArgs st_Works_hands) (defBody st_Works_hands) (defScope st_Works_hands) .none kV35 dc35 pm35 an35 cd35 ct35), sl35⟩)
    (c35 : PySem.W.codeIn K cd35 "Works.hands" = true)
    (k35 : PySem.W.keepIn K (.ref f35) = true)
    (a36 : PySem.W.findIn K (.ref AC) "dealt" = some (some (.ref f36)))
    (i36 : PySem.W.isFn K (.ref f36) = true)
    (l36 : K.lookup f36 = some ⟨oc36, od36, .func (PySem.W.fnOf "dealt" "Works.dealt" (defArgs st_Works_dealt) (defBody st_Works_dealt) (defScope st_Works_dealt) .none kV36 dc36 pm36 an36 cd36 ct36), sl36⟩)
    (c36 : PySem.W.codeIn K cd36 "Works.dealt" = true)
    (k36 : PySem.W.keepIn K (.ref f36) = true)
    (a37 : PySem.W.findIn K (.ref AC) "sure" = some (some (.ref f37)))
    (i37 : PySem.W.isFn K (.ref f37) = true)
    (l37 : K.lookup f37 = some ⟨oc37, od37, .func (PySem.W.fnOf "sure" "Works.sure" (defArgs st_Works_sure) (defBody st_Works_sure) (defScope st_Works_sure) .none kV37 dc37 pm37 an37 cd37 ct37), sl37⟩)
    (c37 : PySem.W.codeIn K cd37 "Works.sure" = true)
    (k37 : PySem.W.keepIn K (.ref f37) = true)
    (a38 : PySem.W.findIn K (.ref AC) "paid" = some (some (.ref f38)))
    (i38 : PySem.W.isFn K (.ref f38) = true)
    (l38 : K.lookup f38 = some ⟨oc38, od38, .func (PySem.W.fnOf "paid" "Works.paid" (defArgs st_Works_paid) (defBody st_Works_paid) (defScope st_Works_paid) .none kV38 dc38 pm38 an38 cd38 ct38), sl38⟩)
    (c38 : PySem.W.codeIn K cd38 "Works.paid" = true)
    (k38 : PySem.W.keepIn K (.ref f38) = true)
    (a39 : PySem.W.nsIn K mainGlobals "_law_bag" = some (some (.ref f39)))
    (l39 : K.lookup f39 = some ⟨oc39, od39, .func (PySem.W.fnOf "_law_bag" "_law_bag" (defArgs st__law_bag) (defBody st__law_bag) (defScope st__law_bag) .none kV39 dc39 pm39 an39 cd39 ct39), sl39⟩)
    (c39 : PySem.W.codeIn K cd39 "_law_bag" = true)
    (k39 : PySem.W.keepIn K (.ref f39) = true)
    (a40 : PySem.W.nsIn K mainGlobals "_law_take" = some (some (.ref f40)))
    (l40 : K.lookup f40 = some ⟨oc40, od40, .func (PySem.W.fnOf "_law_take" "_law_take" (defArgs st__law_take) (defBody st__law_take) (defScope st__law_take) .none kV40 dc40 pm40 an40 cd40 ct40), sl40⟩)
    (c40 : PySem.W.codeIn K cd40 "_law_take" = true)
    (k40 : PySem.W.keepIn K (.ref f40) = true)
    (a41 : PySem.W.nsIn K mainGlobals "_law_of" = some (some (.ref f41)))
    (l41 : K.lookup f41 = some ⟨oc41, od41, .func (PySem.W.fnOf "_law_of" "_law_of" (defArgs st__law_of) (defBody st__law_of) (defScope st__law_of) .none kV41 dc41 pm41 an41 cd41 ct41), sl41⟩)
    (c41 : PySem.W.codeIn K cd41 "_law_of" = true)
    (k41 : PySem.W.keepIn K (.ref f41) = true)
    (a42 : PySem.W.nsIn K mainGlobals "_law_shares_so" = some (some (.ref f42)))
    (l42 : K.lookup f42 = some ⟨oc42, od42, .func (PySem.W.fnOf "_law_shares_so" "_law_shares_so" (defArgs st__law_shares_so) (defBody st__law_shares_so) (defScope st__law_shares_so) .none kV42 dc42 pm42 an42 cd42 ct42), sl42⟩)
    (c42 : PySem.W.codeIn K cd42 "_law_shares_so" = true)
    (k42 : PySem.W.keepIn K (.ref f42) = true)
    (a43 : PySem.W.nsIn K mainGlobals "_law_agreed_so" = some (some (.ref f43)))
    (l43 : K.lookup f43 = some ⟨oc43, od43, .func (PySem.W.fnOf "_law_agreed_so" "_law_agreed_so" (defArgs st__law_agreed_so) (defBody st__law_agreed_so) (defScope st__law_agreed_so) .none kV43 dc43 pm43 an43 cd43 ct43), sl43⟩)
    (c43 : PySem.W.codeIn K cd43 "_law_agreed_so" = true)
    (k43 : PySem.W.keepIn K (.ref f43) = true)
    (a44 : PySem.W.nsIn K mainGlobals "_law_dealt_so" = some (some (.ref f44)))
    (l44 : K.lookup f44 = some ⟨oc44, od44, .func (PySem.W.fnOf "_law_dealt_so" "_law_dealt_so" (defArgs st__law_dealt_so) (defBody st__law_dealt_so) (defScope st__law_dealt_so) .none kV44 dc44 pm44 an44 cd44 ct44), sl44⟩)
    (c44 : PySem.W.codeIn K cd44 "_law_dealt_so" = true)
    (k44 : PySem.W.keepIn K (.ref f44) = true)
    (a45 : PySem.W.nsIn K mainGlobals "_law_works_so" = some (some (.ref f45)))
    (l45 : K.lookup f45 = some ⟨oc45, od45, .func (PySem.W.fnOf "_law_works_so" "_law_works_so" (defArgs st__law_works_so) (defBody st__law_works_so) (defScope st__law_works_so) .none kV45 dc45 pm45 an45 cd45 ct45), sl45⟩)
    (c45 : PySem.W.codeIn K cd45 "_law_works_so" = true)
    (k45 : PySem.W.keepIn K (.ref f45) = true)
    (a46 : PySem.W.nsIn K mainGlobals "law" = some (some (.ref f46)))
    (l46 : K.lookup f46 = some ⟨oc46, od46, .func (PySem.W.fnOf "law" "law" (defArgs st_law) (defBody st_law) (defScope st_law) .none kV46 dc46 pm46 an46 cd46 ct46), sl46⟩)
    (c46 : PySem.W.codeIn K cd46 "law" = true)
    (k46 : PySem.W.keepIn K (.ref f46) = true)
    (qPr : PySem.W.nsIn K DD "price" = some (some (.int 10 tPr)))
    (ba_AskedError : PySem.W.nsIn K mainGlobals "AskedError" = some (some (.ref B_AskedError)))
    (bs_AskedError : PySem.W.specialIn K (.ref B_AskedError) "__getattribute__" = some (some (.builtin "type.__getattribute__")))
    (br_AskedError : PySem.W.readsIn K B_AskedError (.type "type") = true)
    (bf_AskedError : PySem.W.findCls K (.ref B_AskedError) (.type "type") "__init__" = some (.val (.builtin "ValueError.__init__")))
    (xa_NoMarks : PySem.W.nsIn K mainGlobals "NoMarks" = some (some (.ref X_NoMarks)))
    (xq_NoMarks : PySem.W.excIn K X_NoMarks PySem.HandSPX.veTail "ValueError.__new__" = true)
    (xK_NoMarks : PySem.W.keepIn K (.ref X_NoMarks) = true)
    (xB_NoMarks : PySem.W.subIn K (.ref X_NoMarks) (.type "BaseException") = some true)
    (xT_NoMarks : PySem.W.typeIn K (.ref X_NoMarks) = some (.type "type"))
    (xa_NoPrice : PySem.W.nsIn K mainGlobals "NoPrice" = some (some (.ref X_NoPrice)))
    (xq_NoPrice : PySem.W.excIn K X_NoPrice PySem.HandSPX.veTail "ValueError.__new__" = true)
    (xK_NoPrice : PySem.W.keepIn K (.ref X_NoPrice) = true)
    (xB_NoPrice : PySem.W.subIn K (.ref X_NoPrice) (.type "BaseException") = some true)
    (xT_NoPrice : PySem.W.typeIn K (.ref X_NoPrice) = some (.type "type"))
    (xa_NoName : PySem.W.nsIn K mainGlobals "NoName" = some (some (.ref X_NoName)))
    (xq_NoName : PySem.W.excIn K X_NoName PySem.HandSPX.veTail "ValueError.__new__" = true)
    (xK_NoName : PySem.W.keepIn K (.ref X_NoName) = true)
    (xB_NoName : PySem.W.subIn K (.ref X_NoName) (.type "BaseException") = some true)
    (xT_NoName : PySem.W.typeIn K (.ref X_NoName) = some (.type "type"))
    (xa_NoNumber : PySem.W.nsIn K mainGlobals "NoNumber" = some (some (.ref X_NoNumber)))
    (xq_NoNumber : PySem.W.excIn K X_NoNumber PySem.HandSPX.veTail "ValueError.__new__" = true)
    (xK_NoNumber : PySem.W.keepIn K (.ref X_NoNumber) = true)
    (xB_NoNumber : PySem.W.subIn K (.ref X_NoNumber) (.type "BaseException") = some true)
    (xT_NoNumber : PySem.W.typeIn K (.ref X_NoNumber) = some (.type "type"))
    (xa_NoMark : PySem.W.nsIn K mainGlobals "NoMark" = some (some (.ref X_NoMark)))
    (xq_NoMark : PySem.W.excIn K X_NoMark PySem.HandSPX.veTail "ValueError.__new__" = true)
    (xK_NoMark : PySem.W.keepIn K (.ref X_NoMark) = true)
    (xB_NoMark : PySem.W.subIn K (.ref X_NoMark) (.type "BaseException") = some true)
    (xT_NoMark : PySem.W.typeIn K (.ref X_NoMark) = some (.type "type"))
    (xa_NoBound : PySem.W.nsIn K mainGlobals "NoBound" = some (some (.ref X_NoBound)))
    (xq_NoBound : PySem.W.excIn K X_NoBound PySem.HandSPX.veTail "ValueError.__new__" = true)
    (xK_NoBound : PySem.W.keepIn K (.ref X_NoBound) = true)
    (xB_NoBound : PySem.W.subIn K (.ref X_NoBound) (.type "BaseException") = some true)
    (xT_NoBound : PySem.W.typeIn K (.ref X_NoBound) = some (.type "type"))
    (xa_Taken : PySem.W.nsIn K mainGlobals "Taken" = some (some (.ref X_Taken)))
    (xq_Taken : PySem.W.excIn K X_Taken PySem.HandSPX.veTail "ValueError.__new__" = true)
    (xK_Taken : PySem.W.keepIn K (.ref X_Taken) = true)
    (xB_Taken : PySem.W.subIn K (.ref X_Taken) (.type "BaseException") = some true)
    (xT_Taken : PySem.W.typeIn K (.ref X_Taken) = some (.type "type"))
    (xa_NoHand : PySem.W.nsIn K mainGlobals "NoHand" = some (some (.ref X_NoHand)))
    (xL_NoHand : K.lookup X_NoHand = some (excClassObj nm_NoHand qn_NoHand X_NoHand N_NoHand bs_NoHand bm_NoHand true sn_NoHand sub_NoHand ab_NoHand col_NoHand dd_NoHand m0_NoHand m1_NoHand m2_NoHand m3_NoHand m5_NoHand "ValueError.__new__"))
    (xr_NoHand : PySem.HandSPX.refsVE bm_NoHand = true)
    (xs_NoHand : PySem.W.findIn K (.ref X_NoHand) "__setattr__" = some (some (.builtin "object.__setattr__")))
    (xi_NoHand : PySem.W.findIn K (.ref X_NoHand) "__init__" = some (some (.ref XI_NoHand)))
    (xy_NoHand : PySem.W.typeIn K (.ref XI_NoHand) = some (.type "function"))
    (xl_NoHand : K.lookup XI_NoHand = some ⟨xoc_NoHand, xod_NoHand, .func (PySem.W.fnOf "__init__" "NoHand.__init__" (defArgs st_NoHand) (defBody st_NoHand) (defScope st_NoHand) .none xkV_NoHand xdc_NoHand xpm_NoHand xan_NoHand xcd_NoHand xct_NoHand), xsl_NoHand⟩)
    (xc_NoHand : PySem.W.codeIn K xcd_NoHand "NoHand.__init__" = true)
    (xk_NoHand : PySem.W.keepIn K (.ref XI_NoHand) = true)
    (xn_NoHand : PySem.W.findIn K (.ref X_NoHand) "name" = some none)
    (xK_NoHand : PySem.W.keepIn K (.ref X_NoHand) = true)
    (xB_NoHand : PySem.W.subIn K (.ref X_NoHand) (.type "BaseException") = some true)
    (xT_NoHand : PySem.W.typeIn K (.ref X_NoHand) = some (.type "type"))
    (xa_NoThing : PySem.W.nsIn K mainGlobals "NoThing" = some (some (.ref X_NoThing)))
    (xL_NoThing : K.lookup X_NoThing = some (excClassObj nm_NoThing qn_NoThing X_NoThing N_NoThing bs_NoThing bm_NoThing true sn_NoThing sub_NoThing ab_NoThing col_NoThing dd_NoThing m0_NoThing m1_NoThing m2_NoThing m3_NoThing m5_NoThing "ValueError.__new__"))
    (xr_NoThing : PySem.HandSPX.refsVE bm_NoThing = true)
    (xs_NoThing : PySem.W.findIn K (.ref X_NoThing) "__setattr__" = some (some (.builtin "object.__setattr__")))
    (xi_NoThing : PySem.W.findIn K (.ref X_NoThing) "__init__" = some (some (.ref XI_NoThing)))
    (xy_NoThing : PySem.W.typeIn K (.ref XI_NoThing) = some (.type "function"))
    (xl_NoThing : K.lookup XI_NoThing = some ⟨xoc_NoThing, xod_NoThing, .func (PySem.W.fnOf "__init__" "NoThing.__init__" (defArgs st_NoThing) (defBody st_NoThing) (defScope st_NoThing) .none xkV_NoThing xdc_NoThing xpm_NoThing xan_NoThing xcd_NoThing xct_NoThing), xsl_NoThing⟩)
    (xc_NoThing : PySem.W.codeIn K xcd_NoThing "NoThing.__init__" = true)
    (xk_NoThing : PySem.W.keepIn K (.ref XI_NoThing) = true)
    (xn_NoThing : PySem.W.findIn K (.ref X_NoThing) "name" = some none)
    (xK_NoThing : PySem.W.keepIn K (.ref X_NoThing) = true)
    (xB_NoThing : PySem.W.subIn K (.ref X_NoThing) (.type "BaseException") = some true)
    (xT_NoThing : PySem.W.typeIn K (.ref X_NoThing) = some (.type "type"))
    (xa_Full : PySem.W.nsIn K mainGlobals "Full" = some (some (.ref X_Full)))
    (xq_Full : PySem.W.excIn K X_Full PySem.HandSPX.veTail "ValueError.__new__" = true)
    (xK_Full : PySem.W.keepIn K (.ref X_Full) = true)
    (xB_Full : PySem.W.subIn K (.ref X_Full) (.type "BaseException") = some true)
    (xT_Full : PySem.W.typeIn K (.ref X_Full) = some (.type "type"))
    (xa_Judged : PySem.W.nsIn K mainGlobals "Judged" = some (some (.ref X_Judged)))
    (xq_Judged : PySem.W.excIn K X_Judged PySem.HandSPX.veTail "ValueError.__new__" = true)
    (xK_Judged : PySem.W.keepIn K (.ref X_Judged) = true)
    (xB_Judged : PySem.W.subIn K (.ref X_Judged) (.type "BaseException") = some true)
    (xT_Judged : PySem.W.typeIn K (.ref X_Judged) = some (.type "type"))
    (xa_Lacks : PySem.W.nsIn K mainGlobals "Lacks" = some (some (.ref X_Lacks)))
    (xL_Lacks : K.lookup X_Lacks = some (excClassObj nm_Lacks qn_Lacks X_Lacks N_Lacks bs_Lacks bm_Lacks true sn_Lacks sub_Lacks ab_Lacks col_Lacks dd_Lacks m0_Lacks m1_Lacks m2_Lacks m3_Lacks m5_Lacks "ValueError.__new__"))
    (xr_Lacks : PySem.HandSPX.refsVE bm_Lacks = true)
    (xs_Lacks : PySem.W.findIn K (.ref X_Lacks) "__setattr__" = some (some (.builtin "object.__setattr__")))
    (xi_Lacks : PySem.W.findIn K (.ref X_Lacks) "__init__" = some (some (.ref XI_Lacks)))
    (xy_Lacks : PySem.W.typeIn K (.ref XI_Lacks) = some (.type "function"))
    (xl_Lacks : K.lookup XI_Lacks = some ⟨xoc_Lacks, xod_Lacks, .func (PySem.W.fnOf "__init__" "Lacks.__init__" (defArgs st_Lacks) (defBody st_Lacks) (defScope st_Lacks) .none xkV_Lacks xdc_Lacks xpm_Lacks xan_Lacks xcd_Lacks xct_Lacks), xsl_Lacks⟩)
    (xc_Lacks : PySem.W.codeIn K xcd_Lacks "Lacks.__init__" = true)
    (xk_Lacks : PySem.W.keepIn K (.ref XI_Lacks) = true)
    (xn_Lacks : PySem.W.findIn K (.ref X_Lacks) "things" = some none)
    (xK_Lacks : PySem.W.keepIn K (.ref X_Lacks) = true)
    (xB_Lacks : PySem.W.subIn K (.ref X_Lacks) (.type "BaseException") = some true)
    (xT_Lacks : PySem.W.typeIn K (.ref X_Lacks) = some (.type "type"))
    (yc_Lacks : PySem.W.isClsIn K X_Lacks = true)
    (ys_Lacks : PySem.W.subIn K (.ref X_Lacks) (.ref X_Lacks) = some true)
    (yg_Lacks : PySem.W.findIn K (.ref X_Lacks) "__getattribute__" = some (some (.builtin "BaseException.__getattribute__")))
    (yh_Lacks : PySem.W.findIn K (.ref X_Lacks) "__getattr__" = some none)
    (yd_Lacks : PySem.W.hasDictIn K X_Lacks = true)
    (z_abs : PySem.W.nsIn K mainGlobals "abs" = some none)
    (z_all : PySem.W.nsIn K mainGlobals "all" = some none)
    (z_bool : PySem.W.nsIn K mainGlobals "bool" = some none)
    (z_dict : PySem.W.nsIn K mainGlobals "dict" = some none)
    (z_enumerate : PySem.W.nsIn K mainGlobals "enumerate" = some none)
    (z_int : PySem.W.nsIn K mainGlobals "int" = some none)
    (z_isinstance : PySem.W.nsIn K mainGlobals "isinstance" = some none)
    (z_len : PySem.W.nsIn K mainGlobals "len" = some none)
    (z_list : PySem.W.nsIn K mainGlobals "list" = some none)
    (z_max : PySem.W.nsIn K mainGlobals "max" = some none)
    (z_min : PySem.W.nsIn K mainGlobals "min" = some none)
    (z_range : PySem.W.nsIn K mainGlobals "range" = some none)
    (z_sorted : PySem.W.nsIn K mainGlobals "sorted" = some none)
    (z_str : PySem.W.nsIn K mainGlobals "str" = some none)
    (z_sum : PySem.W.nsIn K mainGlobals "sum" = some none)
    (z_tuple : PySem.W.nsIn K mainGlobals "tuple" = some none)
    (z_zip : PySem.W.nsIn K mainGlobals "zip" = some none)
    (y_LETTERS : PySem.W.nsIn K mainGlobals "LETTERS" = some (some (.str "abcdefghijklmnopqrstuvwxyz" t_LETTERS)))
    (y_MOST_EACH : PySem.W.nsIn K mainGlobals "MOST_EACH" = some (some (.int 4 t_MOST_EACH)))
    (y_MOST_HANDS : PySem.W.nsIn K mainGlobals "MOST_HANDS" = some (some (.int 6 t_MOST_HANDS)))
    (y_MOST_MARKS : PySem.W.nsIn K mainGlobals "MOST_MARKS" = some (some (.int 5 t_MOST_MARKS)))
    (y_MOST_NUMBER : PySem.W.nsIn K mainGlobals "MOST_NUMBER" = some (some (.int 8 t_MOST_NUMBER)))
    (y_MOST_OPEN : PySem.W.nsIn K mainGlobals "MOST_OPEN" = some (some (.int 8 t_MOST_OPEN)))
    (y_MOST_PRICE : PySem.W.nsIn K mainGlobals "MOST_PRICE" = some (some (.int 1000 t_MOST_PRICE))) :
    ∃ fd : FuncData, (∀ (s : Shared) (v : Value), BindsTo s fd ⟨[v], []⟩ [("script", v)]) ∧ ∀ base : Heap, K.In base → base.Ns mainGlobals mg → FnOk l.prog w K mg base CX0 17 fa fd ["script"] (spF ⟨K, Zk K⟩ g_law) := by
  have e := hfa.symm.trans (PySem.W.mg_of X G a46)
  cases e
  have T : Txt mg := ⟨PySem.W.mg_none_of X G z_abs, PySem.W.mg_none_of X G z_all, PySem.W.mg_none_of X G z_bool, PySem.W.mg_none_of X G z_dict, PySem.W.mg_none_of X G z_enumerate, PySem.W.mg_none_of X G z_int, PySem.W.mg_none_of X G z_isinstance, PySem.W.mg_none_of X G z_len, PySem.W.mg_none_of X G z_list, PySem.W.mg_none_of X G z_max, PySem.W.mg_none_of X G z_min, PySem.W.mg_none_of X G z_range, PySem.W.mg_none_of X G z_sorted, PySem.W.mg_none_of X G z_str, PySem.W.mg_none_of X G z_sum, PySem.W.mg_none_of X G z_tuple, PySem.W.mg_none_of X G z_zip, ⟨_, PySem.W.mg_of X G y_LETTERS⟩, ⟨_, PySem.W.mg_of X G y_MOST_EACH⟩, ⟨_, PySem.W.mg_of X G y_MOST_HANDS⟩, ⟨_, PySem.W.mg_of X G y_MOST_MARKS⟩, ⟨_, PySem.W.mg_of X G y_MOST_NUMBER⟩, ⟨_, PySem.W.mg_of X G y_MOST_OPEN⟩, ⟨_, PySem.W.mg_of X G y_MOST_PRICE⟩⟩
  refine ⟨PySem.W.fnOf "law" "law" (defArgs st_law) (defBody st_law) (defScope st_law) .none kV46 dc46 pm46 an46 cd46 ct46, fun s v => .of_eq rfl, fun base _ _ => ?_⟩
  have eAC : (Zk K).C = AC := adr_eq aC
  subst eAC
  have eX_NoMarks : (Zk K).ex "NoMarks" = X_NoMarks := adr_eq xa_NoMarks
  subst eX_NoMarks
  have eX_NoPrice : (Zk K).ex "NoPrice" = X_NoPrice := adr_eq xa_NoPrice
  subst eX_NoPrice
  have eX_NoName : (Zk K).ex "NoName" = X_NoName := adr_eq xa_NoName
  subst eX_NoName
  have eX_NoNumber : (Zk K).ex "NoNumber" = X_NoNumber := adr_eq xa_NoNumber
  subst eX_NoNumber
  have eX_NoMark : (Zk K).ex "NoMark" = X_NoMark := adr_eq xa_NoMark
  subst eX_NoMark
  have eX_NoBound : (Zk K).ex "NoBound" = X_NoBound := adr_eq xa_NoBound
  subst eX_NoBound
  have eX_Taken : (Zk K).ex "Taken" = X_Taken := adr_eq xa_Taken
  subst eX_Taken
  have eX_NoHand : (Zk K).ex "NoHand" = X_NoHand := adr_eq xa_NoHand
  subst eX_NoHand
  have eX_NoThing : (Zk K).ex "NoThing" = X_NoThing := adr_eq xa_NoThing
  subst eX_NoThing
  have eX_Full : (Zk K).ex "Full" = X_Full := adr_eq xa_Full
  subst eX_Full
  have eX_Judged : (Zk K).ex "Judged" = X_Judged := adr_eq xa_Judged
  subst eX_Judged
  have eX_Lacks : (Zk K).ex "Lacks" = X_Lacks := adr_eq xa_Lacks
  subst eX_Lacks
  have V_AskedError : VeB K mg "AskedError" := ⟨B_AskedError, PySem.W.mg_of X G ba_AskedError, bs_AskedError, br_AskedError, bf_AskedError⟩
  have x_NoMarks : ExC K mg ((Zk K).ex "NoMarks") "NoMarks" := ⟨PySem.W.mg_of X G xa_NoMarks, xq_NoMarks, xK_NoMarks, xB_NoMarks, xT_NoMarks⟩
  have x_NoPrice : ExC K mg ((Zk K).ex "NoPrice") "NoPrice" := ⟨PySem.W.mg_of X G xa_NoPrice, xq_NoPrice, xK_NoPrice, xB_NoPrice, xT_NoPrice⟩
  have x_NoName : ExC K mg ((Zk K).ex "NoName") "NoName" := ⟨PySem.W.mg_of X G xa_NoName, xq_NoName, xK_NoName, xB_NoName, xT_NoName⟩
  have x_NoNumber : ExC K mg ((Zk K).ex "NoNumber") "NoNumber" := ⟨PySem.W.mg_of X G xa_NoNumber, xq_NoNumber, xK_NoNumber, xB_NoNumber, xT_NoNumber⟩
  have x_NoMark : ExC K mg ((Zk K).ex "NoMark") "NoMark" := ⟨PySem.W.mg_of X G xa_NoMark, xq_NoMark, xK_NoMark, xB_NoMark, xT_NoMark⟩
  have x_NoBound : ExC K mg ((Zk K).ex "NoBound") "NoBound" := ⟨PySem.W.mg_of X G xa_NoBound, xq_NoBound, xK_NoBound, xB_NoBound, xT_NoBound⟩
  have x_Taken : ExC K mg ((Zk K).ex "Taken") "Taken" := ⟨PySem.W.mg_of X G xa_Taken, xq_Taken, xK_Taken, xB_Taken, xT_Taken⟩
  have x_NoHand : ExI l.prog w K mg base ((Zk K).ex "NoHand") "NoHand" "name" := ⟨XI_NoHand, _, ok_NoHand V_AskedError (fun_mk (st := st_NoHand) xl_NoHand xc_NoHand xk_NoHand), ⟨⟨nm_NoHand, qn_NoHand, N_NoHand, bs_NoHand, bm_NoHand, sn_NoHand, sub_NoHand, ab_NoHand, col_NoHand, dd_NoHand, m0_NoHand, m1_NoHand, m2_NoHand, m3_NoHand, m5_NoHand, xL_NoHand, xr_NoHand⟩, xs_NoHand, xB_NoHand, xT_NoHand, xK_NoHand⟩, xi_NoHand, xy_NoHand, Fun.binds (ps := ["self", "name"]) (fun_mk (st := st_NoHand) xl_NoHand xc_NoHand xk_NoHand) fun _ _ _ _ _ _ us hl => match us, hl with | [_, _], _ => rfl, xn_NoHand, PySem.W.mg_of X G xa_NoHand⟩
  have x_NoThing : ExI l.prog w K mg base ((Zk K).ex "NoThing") "NoThing" "name" := ⟨XI_NoThing, _, ok_NoThing V_AskedError (fun_mk (st := st_NoThing) xl_NoThing xc_NoThing xk_NoThing), ⟨⟨nm_NoThing, qn_NoThing, N_NoThing, bs_NoThing, bm_NoThing, sn_NoThing, sub_NoThing, ab_NoThing, col_NoThing, dd_NoThing, m0_NoThing, m1_NoThing, m2_NoThing, m3_NoThing, m5_NoThing, xL_NoThing, xr_NoThing⟩, xs_NoThing, xB_NoThing, xT_NoThing, xK_NoThing⟩, xi_NoThing, xy_NoThing, Fun.binds (ps := ["self", "name"]) (fun_mk (st := st_NoThing) xl_NoThing xc_NoThing xk_NoThing) fun _ _ _ _ _ _ us hl => match us, hl with | [_, _], _ => rfl, xn_NoThing, PySem.W.mg_of X G xa_NoThing⟩
  have x_Full : ExC K mg ((Zk K).ex "Full") "Full" := ⟨PySem.W.mg_of X G xa_Full, xq_Full, xK_Full, xB_Full, xT_Full⟩
  have x_Judged : ExC K mg ((Zk K).ex "Judged") "Judged" := ⟨PySem.W.mg_of X G xa_Judged, xq_Judged, xK_Judged, xB_Judged, xT_Judged⟩
  have x_Lacks : ExI l.prog w K mg base ((Zk K).ex "Lacks") "Lacks" "things" := ⟨XI_Lacks, _, ok_Lacks V_AskedError (fun_mk (st := st_Lacks) xl_Lacks xc_Lacks xk_Lacks), ⟨⟨nm_Lacks, qn_Lacks, N_Lacks, bs_Lacks, bm_Lacks, sn_Lacks, sub_Lacks, ab_Lacks, col_Lacks, dd_Lacks, m0_Lacks, m1_Lacks, m2_Lacks, m3_Lacks, m5_Lacks, xL_Lacks, xr_Lacks⟩, xs_Lacks, xB_Lacks, xT_Lacks, xK_Lacks⟩, xi_Lacks, xy_Lacks, Fun.binds (ps := ["self", "things"]) (fun_mk (st := st_Lacks) xl_Lacks xc_Lacks xk_Lacks) fun _ _ _ _ _ _ us hl => match us, hl with | [_, _], _ => rfl, xn_Lacks, PySem.W.mg_of X G xa_Lacks⟩
  have cC : Cls K (Zk K).C := ⟨pgC, hdC, poC, saC⟩
  have TC : TxC l.prog w K mg base (Zk K) := { cls := cC, n_bars := nf_bars, n_busy := nf_busy, n_cents := nf_cents, n_crew := nf_crew, n_ended := nf_ended, n_known := nf_known, n_marks := nf_marks, n_money := nf_money, n_out := nf_out, n_waiting := nf_waiting, x_NoMarks := x_NoMarks, x_NoPrice := x_NoPrice, x_NoName := x_NoName, x_NoNumber := x_NoNumber, x_NoMark := x_NoMark, x_NoBound := x_NoBound, x_Taken := x_Taken, i_NoHand := x_NoHand, i_NoThing := x_NoThing, x_Full := x_Full, x_Judged := x_Judged, i_Lacks := x_Lacks, g_Lacks := PySem.W.mg_of X G xa_Lacks, m_Lacks := exm_me xB_Lacks yc_Lacks xT_Lacks ys_Lacks, f_Lacks := ⟨⟨yg_Lacks, yh_Lacks, xB_Lacks, yd_Lacks⟩, xn_Lacks⟩ }
  have k_is_whole : Cl l.prog w K mg base (Zk K) 1 "is_whole" g_is_whole := ⟨f0, _, ["thing"], ok_is_whole (Pr := l.prog) (w := w) (K := K) (mg := mg) (base := base) (C := Zk K) T TC  (fun_mk (st := st_is_whole) l0 c0 k0), PySem.W.mg_of X G a0, k0, Fun.binds (ps := ["thing"]) (fun_mk (st := st_is_whole) l0 c0 k0) fun _ _ _ _ _ _ us hl => match us, hl with | [_], _ => rfl⟩
  have k_is_within : Cl l.prog w K mg base (Zk K) 2 "is_within" g_is_within := ⟨f1, _, ["thing", "least", "most"], ok_is_within (Pr := l.prog) (w := w) (K := K) (mg := mg) (base := base) (C := Zk K) T TC k_is_whole (fun_mk (st := st_is_within) l1 c1 k1), PySem.W.mg_of X G a1, k1, Fun.binds (ps := ["thing", "least", "most"]) (fun_mk (st := st_is_within) l1 c1 k1) fun _ _ _ _ _ _ us hl => match us, hl with | [_, _, _], _ => rfl⟩
  have k_is_name : Cl l.prog w K mg base (Zk K) 1 "is_name" g_is_name := ⟨f2, _, ["thing"], ok_is_name (Pr := l.prog) (w := w) (K := K) (mg := mg) (base := base) (C := Zk K) T TC  (fun_mk (st := st_is_name) l2 c2 k2), PySem.W.mg_of X G a2, k2, Fun.binds (ps := ["thing"]) (fun_mk (st := st_is_name) l2 c2 k2) fun _ _ _ _ _ _ us hl => match us, hl with | [_], _ => rfl⟩
  have k_are_rising : Cl l.prog w K mg base (Zk K) 1 "are_rising" g_are_rising := ⟨f3, _, ["some"], ok_are_rising (Pr := l.prog) (w := w) (K := K) (mg := mg) (base := base) (C := Zk K) T TC  (fun_mk (st := st_are_rising) l3 c3 k3), PySem.W.mg_of X G a3, k3, Fun.binds (ps := ["some"]) (fun_mk (st := st_are_rising) l3 c3 k3) fun _ _ _ _ _ _ us hl => match us, hl with | [_], _ => rfl⟩
  have k_lowest : Cl l.prog w K mg base (Zk K) 1 "lowest" g_lowest := ⟨f4, _, ["top", "bottom"], ok_lowest (Pr := l.prog) (w := w) (K := K) (mg := mg) (base := base) (C := Zk K) T TC  (fun_mk (st := st_lowest) l4 c4 k4), PySem.W.mg_of X G a4, k4, Fun.binds (ps := ["top", "bottom"]) (fun_mk (st := st_lowest) l4 c4 k4) fun _ _ _ _ _ _ us hl => match us, hl with | [_, _], _ => rfl⟩
  have k_are_marks : Cl l.prog w K mg base (Zk K) 2 "are_marks" g_are_marks := ⟨f5, _, ["thing"], ok_are_marks (Pr := l.prog) (w := w) (K := K) (mg := mg) (base := base) (C := Zk K) T TC k_are_rising k_is_name (fun_mk (st := st_are_marks) l5 c5 k5), PySem.W.mg_of X G a5, k5, Fun.binds (ps := ["thing"]) (fun_mk (st := st_are_marks) l5 c5 k5) fun _ _ _ _ _ _ us hl => match us, hl with | [_], _ => rfl⟩
  have k_sure_by : Cl l.prog w K mg base (Zk K) 2 "sure_by" g_sure_by := ⟨f6, _, ["right", "seen"], ok_sure_by (Pr := l.prog) (w := w) (K := K) (mg := mg) (base := base) (C := Zk K) T TC k_lowest (fun_mk (st := st_sure_by) l6 c6 k6), PySem.W.mg_of X G a6, k6, Fun.binds (ps := ["right", "seen"]) (fun_mk (st := st_sure_by) l6 c6 k6) fun _ _ _ _ _ _ us hl => match us, hl with | [_, _], _ => rfl⟩
  have k_weights : Cl l.prog w K mg base (Zk K) 1 "weights" g_weights := ⟨f7, _, ["marks", "hands", "answers"], ok_weights (Pr := l.prog) (w := w) (K := K) (mg := mg) (base := base) (C := Zk K) T TC  (fun_mk (st := st_weights) l7 c7 k7), PySem.W.mg_of X G a7, k7, Fun.binds (ps := ["marks", "hands", "answers"]) (fun_mk (st := st_weights) l7 c7 k7) fun _ _ _ _ _ _ us hl => match us, hl with | [_, _, _], _ => rfl⟩
  have k_shares : Cl l.prog w K mg base (Zk K) 2 "shares" g_shares := ⟨f8, _, ["marks", "hands", "answers"], ok_shares (Pr := l.prog) (w := w) (K := K) (mg := mg) (base := base) (C := Zk K) T TC k_weights k_lowest (fun_mk (st := st_shares) l8 c8 k8), PySem.W.mg_of X G a8, k8, Fun.binds (ps := ["marks", "hands", "answers"]) (fun_mk (st := st_shares) l8 c8 k8) fun _ _ _ _ _ _ us hl => match us, hl with | [_, _, _], _ => rfl⟩
  have k_first_mark : Cl l.prog w K mg base (Zk K) 2 "first_mark" g_first_mark := ⟨f9, _, ["marks", "hands", "answers"], ok_first_mark (Pr := l.prog) (w := w) (K := K) (mg := mg) (base := base) (C := Zk K) T TC k_weights (fun_mk (st := st_first_mark) l9 c9 k9), PySem.W.mg_of X G a9, k9, Fun.binds (ps := ["marks", "hands", "answers"]) (fun_mk (st := st_first_mark) l9 c9 k9) fun _ _ _ _ _ _ us hl => match us, hl with | [_, _, _], _ => rfl⟩
  have k_is_turn : Cl l.prog w K mg base (Zk K) 3 "is_turn" g_is_turn := ⟨f10, _, ["marks", "hands", "answers", "left", "thing"], ok_is_turn (Pr := l.prog) (w := w) (K := K) (mg := mg) (base := base) (C := Zk K) T TC k_first_mark k_is_name (fun_mk (st := st_is_turn) l10 c10 k10), PySem.W.mg_of X G a10, k10, Fun.binds (ps := ["marks", "hands", "answers", "left", "thing"]) (fun_mk (st := st_is_turn) l10 c10 k10) fun _ _ _ _ _ _ us hl => match us, hl with | [_, _, _, _, _], _ => rfl⟩
  have k_pulls : Cl l.prog w K mg base (Zk K) 1 "pulls" g_pulls := ⟨f11, _, ["marks", "hands", "left"], ok_pulls (Pr := l.prog) (w := w) (K := K) (mg := mg) (base := base) (C := Zk K) T TC  (fun_mk (st := st_pulls) l11 c11 k11), PySem.W.mg_of X G a11, k11, Fun.binds (ps := ["marks", "hands", "left"]) (fun_mk (st := st_pulls) l11 c11 k11) fun _ _ _ _ _ _ us hl => match us, hl with | [_, _, _], _ => rfl⟩
  have k_can_with : Cl l.prog w K mg base (Zk K) 3 "can_with" g_can_with := ⟨f12, _, ["marks", "hands", "answers", "pairs", "left", "many"], ok_can_with (Pr := l.prog) (w := w) (K := K) (mg := mg) (base := base) (C := Zk K) T TC k_weights k_pulls k_first_mark (fun_mk (st := st_can_with) l12 c12 k12), PySem.W.mg_of X G a12, k12, Fun.binds (ps := ["marks", "hands", "answers", "pairs", "left", "many"]) (fun_mk (st := st_can_with) l12 c12 k12) fun _ _ _ _ _ _ us hl => match us, hl with | [_, _, _, _, _, _], _ => rfl⟩
  have k_fewest_turn : Cl l.prog w K mg base (Zk K) 4 "fewest_turn" g_fewest_turn := ⟨f13, _, ["marks", "hands", "answers", "left"], ok_fewest_turn (Pr := l.prog) (w := w) (K := K) (mg := mg) (base := base) (C := Zk K) T TC k_can_with (fun_mk (st := st_fewest_turn) l13 c13 k13), PySem.W.mg_of X G a13, k13, Fun.binds (ps := ["marks", "hands", "answers", "left"]) (fun_mk (st := st_fewest_turn) l13 c13 k13) fun _ _ _ _ _ _ us hl => match us, hl with | [_, _, _, _], _ => rfl⟩
  have k_settled : Cl l.prog w K mg base (Zk K) 4 "settled" g_settled := ⟨f14, _, ["marks", "hands", "answers", "left", "bound"], ok_settled (Pr := l.prog) (w := w) (K := K) (mg := mg) (base := base) (C := Zk K) T TC k_first_mark k_shares k_can_with (fun_mk (st := st_settled) l14 c14 k14), PySem.W.mg_of X G a14, k14, Fun.binds (ps := ["marks", "hands", "answers", "left", "bound"]) (fun_mk (st := st_settled) l14 c14 k14) fun _ _ _ _ _ _ us hl => match us, hl with | [_, _, _, _, _], _ => rfl⟩
  have k_agreement : Cl l.prog w K mg base (Zk K) 2 "agreement" g_agreement := ⟨f15, _, ["one", "other"], ok_agreement (Pr := l.prog) (w := w) (K := K) (mg := mg) (base := base) (C := Zk K) T TC k_lowest (fun_mk (st := st_agreement) l15 c15 k15), PySem.W.mg_of X G a15, k15, Fun.binds (ps := ["one", "other"]) (fun_mk (st := st_agreement) l15 c15 k15) fun _ _ _ _ _ _ us hl => match us, hl with | [_, _], _ => rfl⟩
  have k_lots : Cl l.prog w K mg base (Zk K) 11 "lots" (g_lots 10) := by
    have self : ∀ (k : Nat) (g : Fn), FnOk l.prog w K mg base CX0 k f16 _ ["some", "many"] (spF ⟨K, Zk K⟩ g) → Cl l.prog w K mg base (Zk K) k "lots" g := fun k g F => ⟨f16, _, ["some", "many"], F, PySem.W.mg_of X G a16, k16, Fun.binds (ps := ["some", "many"]) (fun_mk (st := st_lots) l16 c16 k16) fun _ _ _ _ _ _ us hl => match us, hl with | [_, _], _ => rfl⟩
    exact self _ _ (ok_lots (Pr := l.prog) (w := w) (K := K) (mg := mg) (base := base) (C := Zk K) T TC  (fun_mk (st := st_lots) l16 c16 k16) self 10)
  have k_reach : Cl l.prog w K mg base (Zk K) 1 "reach" g_reach := ⟨f17, _, ["most", "bars", "lot"], ok_reach (Pr := l.prog) (w := w) (K := K) (mg := mg) (base := base) (C := Zk K) T TC  (fun_mk (st := st_reach) l17 c17 k17), PySem.W.mg_of X G a17, k17, Fun.binds (ps := ["most", "bars", "lot"]) (fun_mk (st := st_reach) l17 c17 k17) fun _ _ _ _ _ _ us hl => match us, hl with | [_, _, _], _ => rfl⟩
  have k_lack : Cl l.prog w K mg base (Zk K) 12 "lack" g_lack := ⟨f18, _, ["things", "most", "bars", "many"], ok_lack (Pr := l.prog) (w := w) (K := K) (mg := mg) (base := base) (C := Zk K) T TC k_lots k_reach (fun_mk (st := st_lack) l18 c18 k18), PySem.W.mg_of X G a18, k18, Fun.binds (ps := ["things", "most", "bars", "many"]) (fun_mk (st := st_lack) l18 c18 k18) fun _ _ _ _ _ _ us hl => match us, hl with | [_, _, _, _], _ => rfl⟩
  have k_is_lack : Cl l.prog w K mg base (Zk K) 2 "is_lack" g_is_lack := ⟨f19, _, ["things", "most", "bars", "many", "thing"], ok_is_lack (Pr := l.prog) (w := w) (K := K) (mg := mg) (base := base) (C := Zk K) T TC k_are_rising k_reach k_is_name (fun_mk (st := st_is_lack) l19 c19 k19), PySem.W.mg_of X G a19, k19, Fun.binds (ps := ["things", "most", "bars", "many", "thing"]) (fun_mk (st := st_is_lack) l19 c19 k19) fun _ _ _ _ _ _ us hl => match us, hl with | [_, _, _, _, _], _ => rfl⟩
  have k_dealing : Cl l.prog w K mg base (Zk K) 13 "dealing" g_dealing := ⟨f20, _, ["things", "most", "bars", "many"], ok_dealing (Pr := l.prog) (w := w) (K := K) (mg := mg) (base := base) (C := Zk K) T TC k_lack k_lots (fun_mk (st := st_dealing) l20 c20 k20), PySem.W.mg_of X G a20, k20, Fun.binds (ps := ["things", "most", "bars", "many"]) (fun_mk (st := st_dealing) l20 c20 k20) fun _ _ _ _ _ _ us hl => match us, hl with | [_, _, _, _], _ => rfl⟩
  have k_is_bound : Cl l.prog w K mg base (Zk K) 3 "is_bound" g_is_bound := ⟨f21, _, ["thing"], ok_is_bound (Pr := l.prog) (w := w) (K := K) (mg := mg) (base := base) (C := Zk K) T TC k_lowest k_is_within (fun_mk (st := st_is_bound) l21 c21 k21), PySem.W.mg_of X G a21, k21, Fun.binds (ps := ["thing"]) (fun_mk (st := st_is_bound) l21 c21 k21) fun _ _ _ _ _ _ us hl => match us, hl with | [_], _ => rfl⟩
  obtain ⟨gD, kbD⟩ := init_d (init_D l22 c22 k22 qPr)
  obtain ⟨gK, kbK⟩ := init_k (init_D l22 c22 k22 qPr)
  have k_Works___init__ : MkK l.prog w K mg base (Zk K) 4 "Works" g_Works___init__ := ⟨⟨f22, _, ["self", "marks", "price"], gD, [.int 10], ok_Works___init__ (Pr := l.prog) (w := w) (K := K) (mg := mg) (base := base) (C := Zk K) T TC k_are_marks k_is_within (fun_mk (st := st_Works___init__) l22 c22 k22), ⟨mkC, a22, i22, kcC⟩, kbD, PySem.W.mg_of X G aC, fun _ _ => .cons (.int 10) .nil⟩, ⟨f22, _, ["self", "marks", "price"], gK, [], ok_Works___init__ (Pr := l.prog) (w := w) (K := K) (mg := mg) (base := base) (C := Zk K) T TC k_are_marks k_is_within (fun_mk (st := st_Works___init__) l22 c22 k22), ⟨mkC, a22, i22, kcC⟩, kbK, PySem.W.mg_of X G aC, fun _ _ => .nil⟩⟩
  have k_Works_join : ClMX l.prog w K mg base (Zk K) 4 "join" g_Works_join := ⟨f23, _, ["self", "name", "number"], ok_Works_join (Pr := l.prog) (w := w) (K := K) (mg := mg) (base := base) (C := Zk K) T TC k_is_name k_is_within (fun_mk (st := st_Works_join) l23 c23 k23), ⟨a23, i23, k23⟩, Fun.binds (ps := ["self", "name", "number"]) (fun_mk (st := st_Works_join) l23 c23 k23) fun _ _ _ _ _ _ us hl => match us, hl with | [_, _, _], _ => rfl⟩
  have k_Works_need_hand : ClMX l.prog w K mg base (Zk K) 4 "need_hand" g_Works_need_hand := ⟨f24, _, ["self", "name"], ok_Works_need_hand (Pr := l.prog) (w := w) (K := K) (mg := mg) (base := base) (C := Zk K) T TC k_is_name (fun_mk (st := st_Works_need_hand) l24 c24 k24), ⟨a24, i24, k24⟩, Fun.binds (ps := ["self", "name"]) (fun_mk (st := st_Works_need_hand) l24 c24 k24) fun _ _ _ _ _ _ us hl => match us, hl with | [_, _], _ => rfl⟩
  have k_Works_need_mark : ClMX l.prog w K mg base (Zk K) 4 "need_mark" g_Works_need_mark := ⟨f25, _, ["self", "mark"], ok_Works_need_mark (Pr := l.prog) (w := w) (K := K) (mg := mg) (base := base) (C := Zk K) T TC k_is_name (fun_mk (st := st_Works_need_mark) l25 c25 k25), ⟨a25, i25, k25⟩, Fun.binds (ps := ["self", "mark"]) (fun_mk (st := st_Works_need_mark) l25 c25 k25) fun _ _ _ _ _ _ us hl => match us, hl with | [_, _], _ => rfl⟩
  have k_Works_count : ClM l.prog w K mg base (Zk K) 1 "count" g_Works_count := ⟨f26, _, ["self", "name", "good"], ok_Works_count (Pr := l.prog) (w := w) (K := K) (mg := mg) (base := base) (C := Zk K) T TC  (fun_mk (st := st_Works_count) l26 c26 k26), ⟨a26, i26, k26⟩, Fun.binds (ps := ["self", "name", "good"]) (fun_mk (st := st_Works_count) l26 c26 k26) fun _ _ _ _ _ _ us hl => match us, hl with | [_, _, _], _ => rfl⟩
  have k_Works_put : ClMX l.prog w K mg base (Zk K) 4 "put" g_Works_put := ⟨f27, _, ["self", "thing"], ok_Works_put (Pr := l.prog) (w := w) (K := K) (mg := mg) (base := base) (C := Zk K) T TC k_is_name (fun_mk (st := st_Works_put) l27 c27 k27), ⟨a27, i27, k27⟩, Fun.binds (ps := ["self", "thing"]) (fun_mk (st := st_Works_put) l27 c27 k27) fun _ _ _ _ _ _ us hl => match us, hl with | [_, _], _ => rfl⟩
  have k_Works_under_way : ClM l.prog w K mg base (Zk K) 1 "under_way" g_Works_under_way := ⟨f28, _, ["self", "name"], ok_Works_under_way (Pr := l.prog) (w := w) (K := K) (mg := mg) (base := base) (C := Zk K) T TC  (fun_mk (st := st_Works_under_way) l28 c28 k28), ⟨a28, i28, k28⟩, Fun.binds (ps := ["self", "name"]) (fun_mk (st := st_Works_under_way) l28 c28 k28) fun _ _ _ _ _ _ us hl => match us, hl with | [_, _], _ => rfl⟩
  have k_Works_deal : ClMX l.prog w K mg base (Zk K) 14 "deal" g_Works_deal := ⟨f29, _, ["self", "many"], ok_Works_deal (Pr := l.prog) (w := w) (K := K) (mg := mg) (base := base) (C := Zk K) T TC k_dealing k_is_within k_lack k_Works_under_way (fun_mk (st := st_Works_deal) l29 c29 k29), ⟨a29, i29, k29⟩, Fun.binds (ps := ["self", "many"]) (fun_mk (st := st_Works_deal) l29 c29 k29) fun _ _ _ _ _ _ us hl => match us, hl with | [_, _], _ => rfl⟩
  have k_Works_answer : ClMX l.prog w K mg base (Zk K) 5 "answer" g_Works_answer := ⟨f30, _, ["self", "name", "thing", "mark"], ok_Works_answer (Pr := l.prog) (w := w) (K := K) (mg := mg) (base := base) (C := Zk K) T TC k_Works_need_hand k_Works_need_mark k_Works_count k_is_name (fun_mk (st := st_Works_answer) l30 c30 k30), ⟨a30, i30, k30⟩, Fun.binds (ps := ["self", "name", "thing", "mark"]) (fun_mk (st := st_Works_answer) l30 c30 k30) fun _ _ _ _ _ _ us hl => match us, hl with | [_, _, _, _], _ => rfl⟩
  have k_Works_judge : ClMX l.prog w K mg base (Zk K) 5 "judge" g_Works_judge := ⟨f31, _, ["self", "thing", "mark"], ok_Works_judge (Pr := l.prog) (w := w) (K := K) (mg := mg) (base := base) (C := Zk K) T TC k_Works_need_mark k_Works_count k_is_name (fun_mk (st := st_Works_judge) l31 c31 k31), ⟨a31, i31, k31⟩, Fun.binds (ps := ["self", "thing", "mark"]) (fun_mk (st := st_Works_judge) l31 c31 k31) fun _ _ _ _ _ _ us hl => match us, hl with | [_, _, _], _ => rfl⟩
  have k_Works_sure_hands : ClM l.prog w K mg base (Zk K) 3 "sure_hands" g_Works_sure_hands := ⟨f32, _, ["self"], ok_Works_sure_hands (Pr := l.prog) (w := w) (K := K) (mg := mg) (base := base) (C := Zk K) T TC k_sure_by (fun_mk (st := st_Works_sure_hands) l32 c32 k32), ⟨a32, i32, k32⟩, Fun.binds (ps := ["self"]) (fun_mk (st := st_Works_sure_hands) l32 c32 k32) fun _ _ _ _ _ _ us hl => match us, hl with | [_], _ => rfl⟩
  have k_Works_end_of : ClM l.prog w K mg base (Zk K) 5 "end_of" g_Works_end_of := ⟨f33, _, ["self", "thing", "bound"], ok_Works_end_of (Pr := l.prog) (w := w) (K := K) (mg := mg) (base := base) (C := Zk K) T TC k_Works_sure_hands k_settled k_shares (fun_mk (st := st_Works_end_of) l33 c33 k33), ⟨a33, i33, k33⟩, Fun.binds (ps := ["self", "thing", "bound"]) (fun_mk (st := st_Works_end_of) l33 c33 k33) fun _ _ _ _ _ _ us hl => match us, hl with | [_, _, _], _ => rfl⟩
  have k_Works_let_go : ClMX l.prog w K mg base (Zk K) 6 "let_go" g_Works_let_go := ⟨f34, _, ["self", "bound"], ok_Works_let_go (Pr := l.prog) (w := w) (K := K) (mg := mg) (base := base) (C := Zk K) T TC k_is_bound k_Works_end_of (fun_mk (st := st_Works_let_go) l34 c34 k34), ⟨a34, i34, k34⟩, Fun.binds (ps := ["self", "bound"]) (fun_mk (st := st_Works_let_go) l34 c34 k34) fun _ _ _ _ _ _ us hl => match us, hl with | [_, _], _ => rfl⟩
  have k_Works_hands : ClM l.prog w K mg base (Zk K) 2 "hands" g_Works_hands := ⟨f35, _, ["self"], ok_Works_hands (Pr := l.prog) (w := w) (K := K) (mg := mg) (base := base) (C := Zk K) T TC k_Works_under_way (fun_mk (st := st_Works_hands) l35 c35 k35), ⟨a35, i35, k35⟩, Fun.binds (ps := ["self"]) (fun_mk (st := st_Works_hands) l35 c35 k35) fun _ _ _ _ _ _ us hl => match us, hl with | [_], _ => rfl⟩
  have k_Works_dealt : ClM l.prog w K mg base (Zk K) 1 "dealt" g_Works_dealt := ⟨f36, _, ["self"], ok_Works_dealt (Pr := l.prog) (w := w) (K := K) (mg := mg) (base := base) (C := Zk K) T TC  (fun_mk (st := st_Works_dealt) l36 c36 k36), ⟨a36, i36, k36⟩, Fun.binds (ps := ["self"]) (fun_mk (st := st_Works_dealt) l36 c36 k36) fun _ _ _ _ _ _ us hl => match us, hl with | [_], _ => rfl⟩
  have k_Works_sure : ClMX l.prog w K mg base (Zk K) 5 "sure" g_Works_sure := ⟨f37, _, ["self", "name"], ok_Works_sure (Pr := l.prog) (w := w) (K := K) (mg := mg) (base := base) (C := Zk K) T TC k_Works_need_hand k_sure_by (fun_mk (st := st_Works_sure) l37 c37 k37), ⟨a37, i37, k37⟩, Fun.binds (ps := ["self", "name"]) (fun_mk (st := st_Works_sure) l37 c37 k37) fun _ _ _ _ _ _ us hl => match us, hl with | [_, _], _ => rfl⟩
  have k_Works_paid : ClMX l.prog w K mg base (Zk K) 5 "paid" g_Works_paid := ⟨f38, _, ["self", "name"], ok_Works_paid (Pr := l.prog) (w := w) (K := K) (mg := mg) (base := base) (C := Zk K) T TC k_Works_need_hand (fun_mk (st := st_Works_paid) l38 c38 k38), ⟨a38, i38, k38⟩, Fun.binds (ps := ["self", "name"]) (fun_mk (st := st_Works_paid) l38 c38 k38) fun _ _ _ _ _ _ us hl => match us, hl with | [_, _], _ => rfl⟩
  have k__law_bag : Cl l.prog w K mg base (Zk K) 1 "_law_bag" g__law_bag := ⟨f39, _, ["script", "k"], ok__law_bag (Pr := l.prog) (w := w) (K := K) (mg := mg) (base := base) (C := Zk K) T TC  (fun_mk (st := st__law_bag) l39 c39 k39), PySem.W.mg_of X G a39, k39, Fun.binds (ps := ["script", "k"]) (fun_mk (st := st__law_bag) l39 c39 k39) fun _ _ _ _ _ _ us hl => match us, hl with | [_, _], _ => rfl⟩
  have k__law_take : Cl l.prog w K mg base (Zk K) 1 "_law_take" g__law_take := ⟨f40, _, ["bag", "many"], ok__law_take (Pr := l.prog) (w := w) (K := K) (mg := mg) (base := base) (C := Zk K) T TC  (fun_mk (st := st__law_take) l40 c40 k40), PySem.W.mg_of X G a40, k40, Fun.binds (ps := ["bag", "many"]) (fun_mk (st := st__law_take) l40 c40 k40) fun _ _ _ _ _ _ us hl => match us, hl with | [_, _], _ => rfl⟩
  have k__law_of : Cl l.prog w K mg base (Zk K) 2 "_law_of" g__law_of := ⟨f41, _, ["bag", "some"], ok__law_of (Pr := l.prog) (w := w) (K := K) (mg := mg) (base := base) (C := Zk K) T TC k__law_take (fun_mk (st := st__law_of) l41 c41 k41), PySem.W.mg_of X G a41, k41, Fun.binds (ps := ["bag", "some"]) (fun_mk (st := st__law_of) l41 c41 k41) fun _ _ _ _ _ _ us hl => match us, hl with | [_, _], _ => rfl⟩
  have k__law_shares_so : Cl l.prog w K mg base (Zk K) 5 "_law_shares_so" (locF g__law_shares_so) := ⟨f42, _, ["ax", "bo", "names"], fnLoc (ok__law_shares_so (Pr := l.prog) (w := w) (K := K) (mg := mg) (base := base) (C := Zk K) T TC k_is_turn k_shares k_first_mark k_fewest_turn k_settled k_sure_by (fun_mk (st := st__law_shares_so) l42 c42 k42)), PySem.W.mg_of X G a42, k42, Fun.binds (ps := ["ax", "bo", "names"]) (fun_mk (st := st__law_shares_so) l42 c42 k42) fun _ _ _ _ _ _ us hl => match us, hl with | [_, _, _], _ => rfl⟩
  have k__law_agreed_so : Cl l.prog w K mg base (Zk K) 3 "_law_agreed_so" (locF g__law_agreed_so) := ⟨f43, _, ["ax", "bo"], fnLoc (ok__law_agreed_so (Pr := l.prog) (w := w) (K := K) (mg := mg) (base := base) (C := Zk K) T TC k_agreement (fun_mk (st := st__law_agreed_so) l43 c43 k43)), PySem.W.mg_of X G a43, k43, Fun.binds (ps := ["ax", "bo"]) (fun_mk (st := st__law_agreed_so) l43 c43 k43) fun _ _ _ _ _ _ us hl => match us, hl with | [_, _], _ => rfl⟩
  have k__law_dealt_so : Cl l.prog w K mg base (Zk K) 14 "_law_dealt_so" (locF g__law_dealt_so) := ⟨f44, _, ["names"], fnLoc (ok__law_dealt_so (Pr := l.prog) (w := w) (K := K) (mg := mg) (base := base) (C := Zk K) T TC k_dealing k_lack k_is_lack (fun_mk (st := st__law_dealt_so) l44 c44 k44)), PySem.W.mg_of X G a44, k44, Fun.binds (ps := ["names"]) (fun_mk (st := st__law_dealt_so) l44 c44 k44) fun _ _ _ _ _ _ us hl => match us, hl with | [_], _ => rfl⟩
  have k__law_works_so : Cl l.prog w K mg base (Zk K) 16 "_law_works_so" (locF g__law_works_so) := ⟨f45, _, ["ax", "bo", "names"], fnLoc (ok__law_works_so (Pr := l.prog) (w := w) (K := K) (mg := mg) (base := base) (C := Zk K) T TC k_Works___init__ k_Works_put k_Works_judge k_Works_join k_Works_deal k_Works_answer k_Works_let_go k_Works_paid k_Works_sure k_Works_hands k_Works_dealt (fun_mk (st := st__law_works_so) l45 c45 k45)), PySem.W.mg_of X G a45, k45, Fun.binds (ps := ["ax", "bo", "names"]) (fun_mk (st := st__law_works_so) l45 c45 k45) fun _ _ _ _ _ _ us hl => match us, hl with | [_, _, _], _ => rfl⟩
  exact ok_law (Pr := l.prog) (w := w) (K := K) (mg := mg) (base := base) (C := Zk K) T TC k__law_bag k__law_of k__law_shares_so k__law_agreed_so k__law_dealt_so k__law_works_so (fun_mk (st := st_law) l46 c46 k46)
theorem walk {l : PySem.W.OpenLaw} {q : Program} {loose : List Str} {XP : (Str → Option Value) → Heap → Prop} {YP : World → Heap → Prop} {d : DefRec} {K : Params → PySem.W.Frag} (hn : l.most = some 63) (hdf : d.params.defaults = [])
    (hY : ∀ (w : World) (h : Heap), YP w h → (K w.params).In h)
    (F : ∀ (w : World) (mg : Str → Option Value) (fa : Addr) (h : Heap), (K w.params).In h → h.Ns mainGlobals mg → mg d.name = some (.ref fa) →
      ∃ fd : FuncData, (∀ (s : Shared) (u : Value), BindsTo s fd ⟨[u], []⟩ [("script", u)]) ∧ ∀ base : Heap, (K w.params).In base → base.Ns mainGlobals mg → FnOk l.prog w (K w.params) mg base CX0 17 fa fd ["script"] (spF ⟨K w.params, Zk (K w.params)⟩ g_law)) :
    PySem.W.WalkO q loose XP YP l.row.toRowW d [] (fun f vs => PySem.call f vs) :=
  L2.walk_ofB (n := 63) (k := 17) (x := "script") (CX := fun _ => CX0) (sp := fun w => spF ⟨K w.params, Zk (K w.params)⟩ g_law) hn (by decide) hdf ⟨rfl, by decide, by decide⟩ hY F (fun _ H a ns hl hb _ hS => lawSp H a ns hl hb hS) fun _ _ _ _ _ z => z
end K14

open PySem PySem.W PyProof.Rows in
set_option maxRecDepth 100000 in
set_option maxHeartbeats 0 in
theorem PySem.Challenge.cw_marksure_k14_written_cases_holds : PySem.Challenge.rw_marksure_k14_written_cases.Holds := by
  w_on; o_law; k_head; (case hw => w_witness2)
  k_fill
  refine K14.walk (l := PySem.Challenge.rw_marksure_k14_written_cases) rfl rfl (fun w h Y => PySem.W.kIn_of Y) ?F
  case F =>
    intro w mg fa h KX G hmg
    refine' K14.all_mk KX G hmg ?aC ?pgC ?hdC ?poC ?saC ?mkC ?kcC ?nf_bars ?nf_busy ?nf_cents ?nf_crew ?nf_ended ?nf_known ?nf_marks ?nf_money ?nf_out ?nf_waiting ?a0 ?l0 ?c0 ?k0 ?a1 ?l1 ?c1 ?k1 ?a2 ?l2 ?c2 ?k2 ?a3 ?l3 ?c3 ?k3 ?a4 ?l4 ?c4 ?k4 ?a5 ?l5 ?c5 ?k5 ?a6 ?l6 ?c6 ?k6 ?a7 ?l7 ?c7 ?k7 ?a8 ?l8 ?c8 ?k8 ?a9 ?l9 ?c9 ?k9 ?a10 ?l10 ?c10 ?k10 ?a11 ?l11 ?c11 ?k11 ?a12 ?l12 ?c12 ?k12 ?a13 ?l13 ?c13 ?k13 ?a14 ?l14 ?c14 ?k14 ?a15 ?l15 ?c15 ?k15 ?a16 ?l16 ?c16 ?k16 ?a17 ?l17 ?c17 ?k17 ?a18 ?l18 ?c18 ?k18 ?a19 ?l19 ?c19 ?k19 ?a20 ?l20 ?c20 ?k20 ?a21 ?l21 ?c21 ?k21 ?a22 ?i22 ?l22 ?c22 ?k22 ?a23 ?i23 ?l23 ?c23 ?k23 ?a24 ?i24 ?l24 ?c24 ?k24 ?a25 ?i25 ?l25 ?c25 ?k25 ?a26 ?i26 ?l26 ?c26 ?k26 ?a27 ?i27 ?l27 ?c27 ?k27 ?a28 ?i28 ?l28 ?c28 ?k28 ?a29 ?i29 ?l29 ?c29 ?k29 ?a30 ?i30 ?l30 ?c30 ?k30 ?a31 ?i31 ?l31 ?c31 ?k31 ?a32 ?i32 ?l32 ?c32 ?k32 ?a33 ?i33 ?l33 ?c33 ?k33 ?a34 ?i34 ?l34 ?c34 ?k34 ?a35 ?i35 ?l35 ?c35 ?k35 ?a36 ?i36 ?l36 ?c36 ?k36 ?a37 ?i37 ?l37 ?c37 ?k37 ?a38 ?i38 ?l38 ?c38 ?k38 ?a39 ?l39 ?c39 ?k39 ?a40 ?l40 ?c40 ?k40 ?a41 ?l41 ?c41 ?k41 ?a42 ?l42 ?c42 ?k42 ?a43 ?l43 ?c43 ?k43 ?a44 ?l44 ?c44 ?k44 ?a45 ?l45 ?c45 ?k45 ?a46 ?l46 ?c46 ?k46 ?qPr ?ba_AskedError ?bs_AskedError ?br_AskedError ?bf_AskedError ?xa_NoMarks ?xq_NoMarks ?xK_NoMarks ?xB_NoMarks ?xT_NoMarks ?xa_NoPrice ?xq_NoPrice ?xK_NoPrice ?xB_NoPrice ?xT_NoPrice ?xa_NoName ?xq_NoName ?xK_NoName ?xB_NoName ?xT_NoName ?xa_NoNumber ?xq_NoNumber ?xK_NoNumber ?xB_NoNumber ?xT_NoNumber ?xa_NoMark ?xq_NoMark ?xK_NoMark ?xB_NoMark ?xT_NoMark ?xa_NoBound ?xq_NoBound ?xK_NoBound ?xB_NoBound ?xT_NoBound ?xa_Taken ?xq_Taken ?xK_Taken ?xB_Taken ?xT_Taken ?xa_NoHand ?xL_NoHand ?xr_NoHand ?xs_NoHand ?xi_NoHand ?xy_NoHand ?xl_NoHand ?xc_NoHand ?xk_NoHand ?xn_NoHand ?xK_NoHand ?xB_NoHand ?xT_NoHand ?xa_NoThing ?xL_NoThing ?xr_NoThing ?xs_NoThing ?xi_NoThing ?xy_NoThing ?xl_NoThing ?xc_NoThing ?xk_NoThing ?xn_NoThing ?xK_NoThing ?xB_NoThing ?xT_NoThing ?xa_Full ?xq_Full ?xK_Full ?xB_Full ?xT_Full ?xa_Judged ?xq_Judged ?xK_Judged ?xB_Judged ?xT_Judged ?xa_Lacks ?xL_Lacks ?xr_Lacks ?xs_Lacks ?xi_Lacks ?xy_Lacks ?xl_Lacks ?xc_Lacks ?xk_Lacks ?xn_Lacks ?xK_Lacks ?xB_Lacks ?xT_Lacks ?yc_Lacks ?ys_Lacks ?yg_Lacks ?yh_Lacks ?yd_Lacks ?z_abs ?z_all ?z_bool ?z_dict ?z_enumerate ?z_int ?z_isinstance ?z_len ?z_list ?z_max ?z_min ?z_range ?z_sorted ?z_str ?z_sum ?z_tuple ?z_zip ?y_LETTERS ?y_MOST_EACH ?y_MOST_HANDS ?y_MOST_MARKS ?y_MOST_NUMBER ?y_MOST_OPEN ?y_MOST_PRICE
    (case aC => k_is)
    (case pgC => k_is)
    (case hdC => k_is)
    (case poC => k_is)
    (case saC => k_is)
    (case mkC => k_is)
    (case kcC => k_is)
    (case nf_bars => k_is)
    (case nf_busy => k_is)
    (case nf_cents => k_is)
    (case nf_crew => k_is)
    (case nf_ended => k_is)
    (case nf_known => k_is)
    (case nf_marks => k_is)
    (case nf_money => k_is)
    (case nf_out => k_is)
    (case nf_waiting => k_is)
    (case a0 => k_is)
    (case l0 => k_is)
    (case c0 => k_is)
    (case k0 => k_is)
    (case a1 => k_is)
    (case l1 => k_is)
    (case c1 => k_is)
    (case k1 => k_is)
    (case a2 => k_is)
    (case l2 => k_is)
    (case c2 => k_is)
    (case k2 => k_is)
    (case a3 => k_is)
    (case l3 => k_is)
    (case c3 => k_is)
    (case k3 => k_is)
    (case a4 => k_is)
    (case l4 => k_is)
    (case c4 => k_is)
    (case k4 => k_is)
    (case a5 => k_is)
    (case l5 => k_is)
    (case c5 => k_is)
    (case k5 => k_is)
    (case a6 => k_is)
    (case l6 => k_is)
    (case c6 => k_is)
    (case k6 => k_is)
    (case a7 => k_is)
    (case l7 => k_is)
    (case c7 => k_is)
    (case k7 => k_is)
    (case a8 => k_is)
    (case l8 => k_is)
    (case c8 => k_is)
    (case k8 => k_is)
    (case a9 => k_is)
    (case l9 => k_is)
    (case c9 => k_is)
    (case k9 => k_is)
    (case a10 => k_is)
    (case l10 => k_is)
    (case c10 => k_is)
    (case k10 => k_is)
    (case a11 => k_is)
    (case l11 => k_is)
    (case c11 => k_is)
    (case k11 => k_is)
    (case a12 => k_is)
    (case l12 => k_is)
    (case c12 => k_is)
    (case k12 => k_is)
    (case a13 => k_is)
    (case l13 => k_is)
    (case c13 => k_is)
    (case k13 => k_is)
    (case a14 => k_is)
    (case l14 => k_is)
    (case c14 => k_is)
    (case k14 => k_is)
    (case a15 => k_is)
    (case l15 => k_is)
    (case c15 => k_is)
    (case k15 => k_is)
    (case a16 => k_is)
    (case l16 => k_is)
    (case c16 => k_is)
    (case k16 => k_is)
    (case a17 => k_is)
    (case l17 => k_is)
    (case c17 => k_is)
    (case k17 => k_is)
    (case a18 => k_is)
    (case l18 => k_is)
    (case c18 => k_is)
    (case k18 => k_is)
    (case a19 => k_is)
    (case l19 => k_is)
    (case c19 => k_is)
    (case k19 => k_is)
    (case a20 => k_is)
    (case l20 => k_is)
    (case c20 => k_is)
    (case k20 => k_is)
    (case a21 => k_is)
    (case l21 => k_is)
    (case c21 => k_is)
    (case k21 => k_is)
    (case a22 => k_is)
    (case i22 => k_is)
    (case l22 => k_is)
    (case c22 => k_is)
    (case k22 => k_is)
    (case a23 => k_is)
    (case i23 => k_is)
    (case l23 => k_is)
    (case c23 => k_is)
    (case k23 => k_is)
    (case a24 => k_is)
    (case i24 => k_is)
    (case l24 => k_is)
    (case c24 => k_is)
    (case k24 => k_is)
    (case a25 => k_is)
    (case i25 => k_is)
    (case l25 => k_is)
    (case c25 => k_is)
    (case k25 => k_is)
    (case a26 => k_is)
    (case i26 => k_is)
    (case l26 => k_is)
    (case c26 => k_is)
    (case k26 => k_is)
    (case a27 => k_is)
    (case i27 => k_is)
    (case l27 => k_is)
    (case c27 => k_is)
    (case k27 => k_is)
    (case a28 => k_is)
    (case i28 => k_is)
    (case l28 => k_is)
    (case c28 => k_is)
    (case k28 => k_is)
    (case a29 => k_is)
    (case i29 => k_is)
    (case l29 => k_is)
    (case c29 => k_is)
    (case k29 => k_is)
    (case a30 => k_is)
    (case i30 => k_is)
    (case l30 => k_is)
    (case c30 => k_is)
    (case k30 => k_is)
    (case a31 => k_is)
    (case i31 => k_is)
    (case l31 => k_is)
    (case c31 => k_is)
    (case k31 => k_is)
    (case a32 => k_is)
    (case i32 => k_is)
    (case l32 => k_is)
    (case c32 => k_is)
    (case k32 => k_is)
    (case a33 => k_is)
    (case i33 => k_is)
    (case l33 => k_is)
    (case c33 => k_is)
    (case k33 => k_is)
    (case a34 => k_is)
    (case i34 => k_is)
    (case l34 => k_is)
    (case c34 => k_is)
    (case k34 => k_is)
    (case a35 => k_is)
    (case i35 => k_is)
    (case l35 => k_is)
    (case c35 => k_is)
    (case k35 => k_is)
    (case a36 => k_is)
    (case i36 => k_is)
    (case l36 => k_is)
    (case c36 => k_is)
    (case k36 => k_is)
    (case a37 => k_is)
    (case i37 => k_is)
    (case l37 => k_is)
    (case c37 => k_is)
    (case k37 => k_is)
    (case a38 => k_is)
    (case i38 => k_is)
    (case l38 => k_is)
    (case c38 => k_is)
    (case k38 => k_is)
    (case a39 => k_is)
    (case l39 => k_is)
    (case c39 => k_is)
    (case k39 => k_is)
    (case a40 => k_is)
    (case l40 => k_is)
    (case c40 => k_is)
    (case k40 => k_is)
    (case a41 => k_is)
    (case l41 => k_is)
    (case c41 => k_is)
    (case k41 => k_is)
    (case a42 => k_is)
    (case l42 => k_is)
    (case c42 => k_is)
    (case k42 => k_is)
    (case a43 => k_is)
    (case l43 => k_is)
    (case c43 => k_is)
    (case k43 => k_is)
    (case a44 => k_is)
    (case l44 => k_is)
    (case c44 => k_is)
    (case k44 => k_is)
    (case a45 => k_is)
    (case l45 => k_is)
    (case c45 => k_is)
    (case k45 => k_is)
    (case a46 => k_is)
    (case l46 => k_is)
    (case c46 => k_is)
    (case k46 => k_is)
    (case qPr => k_is)
    (case ba_AskedError => k_is)
    (case bs_AskedError => k_is)
    (case br_AskedError => k_is)
    (case bf_AskedError => k_is)
    (case xa_NoMarks => k_is)
    (case xq_NoMarks => k_exc)
    (case xK_NoMarks => k_is)
    (case xB_NoMarks => k_is)
    (case xT_NoMarks => k_is)
    (case xa_NoPrice => k_is)
    (case xq_NoPrice => k_exc)
    (case xK_NoPrice => k_is)
    (case xB_NoPrice => k_is)
    (case xT_NoPrice => k_is)
    (case xa_NoName => k_is)
    (case xq_NoName => k_exc)
    (case xK_NoName => k_is)
    (case xB_NoName => k_is)
    (case xT_NoName => k_is)
    (case xa_NoNumber => k_is)
    (case xq_NoNumber => k_exc)
    (case xK_NoNumber => k_is)
    (case xB_NoNumber => k_is)
    (case xT_NoNumber => k_is)
    (case xa_NoMark => k_is)
    (case xq_NoMark => k_exc)
    (case xK_NoMark => k_is)
    (case xB_NoMark => k_is)
    (case xT_NoMark => k_is)
    (case xa_NoBound => k_is)
    (case xq_NoBound => k_exc)
    (case xK_NoBound => k_is)
    (case xB_NoBound => k_is)
    (case xT_NoBound => k_is)
    (case xa_Taken => k_is)
    (case xq_Taken => k_exc)
    (case xK_Taken => k_is)
    (case xB_Taken => k_is)
    (case xT_Taken => k_is)
    (case xa_NoHand => k_is)
    (case xL_NoHand => k_is)
    (case xr_NoHand => first | k_is | rfl | decide +kernel)
    (case xs_NoHand => k_is)
    (case xi_NoHand => k_is)
    (case xy_NoHand => k_is)
    (case xl_NoHand => k_is)
    (case xc_NoHand => k_is)
    (case xk_NoHand => k_is)
    (case xn_NoHand => k_is)
    (case xK_NoHand => k_is)
    (case xB_NoHand => k_is)
    (case xT_NoHand => k_is)
    (case xa_NoThing => k_is)
    (case xL_NoThing => k_is)
    (case xr_NoThing => first | k_is | rfl | decide +kernel)
    (case xs_NoThing => k_is)
    (case xi_NoThing => k_is)
    (case xy_NoThing => k_is)
    (case xl_NoThing => k_is)
    (case xc_NoThing => k_is)
    (case xk_NoThing => k_is)
    (case xn_NoThing => k_is)
    (case xK_NoThing => k_is)
    (case xB_NoThing => k_is)
    (case xT_NoThing => k_is)
    (case xa_Full => k_is)
    (case xq_Full => k_exc)
    (case xK_Full => k_is)
    (case xB_Full => k_is)
    (case xT_Full => k_is)
    (case xa_Judged => k_is)
    (case xq_Judged => k_exc)
    (case xK_Judged => k_is)
    (case xB_Judged => k_is)
    (case xT_Judged => k_is)
    (case xa_Lacks => k_is)
    (case xL_Lacks => k_is)
    (case xr_Lacks => first | k_is | rfl | decide +kernel)
    (case xs_Lacks => k_is)
    (case xi_Lacks => k_is)
    (case xy_Lacks => k_is)
    (case xl_Lacks => k_is)
    (case xc_Lacks => k_is)
    (case xk_Lacks => k_is)
    (case xn_Lacks => k_is)
    (case xK_Lacks => k_is)
    (case xB_Lacks => k_is)
    (case xT_Lacks => k_is)
    (case yc_Lacks => k_is)
    (case ys_Lacks => first | k_is | rfl | decide +kernel)
    (case yg_Lacks => k_is)
    (case yh_Lacks => k_is)
    (case yd_Lacks => k_is)
    (case z_abs => k_is)
    (case z_all => k_is)
    (case z_bool => k_is)
    (case z_dict => k_is)
    (case z_enumerate => k_is)
    (case z_int => k_is)
    (case z_isinstance => k_is)
    (case z_len => k_is)
    (case z_list => k_is)
    (case z_max => k_is)
    (case z_min => k_is)
    (case z_range => k_is)
    (case z_sorted => k_is)
    (case z_str => k_is)
    (case z_sum => k_is)
    (case z_tuple => k_is)
    (case z_zip => k_is)
    (case y_LETTERS => k_is)
    (case y_MOST_EACH => k_is)
    (case y_MOST_HANDS => k_is)
    (case y_MOST_MARKS => k_is)
    (case y_MOST_NUMBER => k_is)
    (case y_MOST_OPEN => k_is)
    (case y_MOST_PRICE => k_is)
#print axioms PySem.Challenge.cw_marksure_k14_written_cases_holds
