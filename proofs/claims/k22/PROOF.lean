import PyProof.Rows.All
import Wide.All
import OpenK.AllK
import Wide.FinOn
import PySem.Challenge.RW_readerholds_k22_lengths_read_back
import HandS.ForMost
import HandS.Deep
import PyProof.FString3
import PyProof.Rows.StrIntSpec
import HandS.TupAny
import HandS.TupMul
import HandS.IsInst
import HandS.Defaults
import HandS.FStr
import HandS.Remove
import HandS.Flow
import HandS.More
import HandS.Star
import HandS.SetFor
import HandS.Strs
import HandS.SortInts
import HandS.TupSets
import HandS.RaiseMore
import HandS.Dict
import HandS.TryMany
import PyProof.RulesMatch
import HandS.ExcIs
import HandS.Ends
import HandS.Words
import HandS.HeadHook3
import HandS.MakeKwOnly
import PyProof.ExcBaseAll.ValueError
set_option Elab.async false
set_option linter.all false
set_option autoImplicit false
set_option maxRecDepth 100000
set_option maxHeartbeats 1000000
/-! Rh0: values as trees, an executable evaluator for the subset of Python that the program and its laws use. -/
namespace Rh
open PySem L2

/-- values: tuples are plain trees; only lists, dicts, instances have an address; gl: a def or a class of the module; ty: a built-in type -/
inductive W where
  | non | bl (b : Bool) | int (i : Int) | str (x : Str) | tup (xs : List W) | ref (a : Nat) | gl (x : Str) | ty (n : String)
inductive O where
  | bad | lst (xs : List W) | frz (xs : List W) | dic (kvs : List (Key × W)) | ins (c : Str) (fs : List (Str × W))
structure HS where
  sz : Nat
  get : Nat → O
def HS.set (h : HS) (a : Nat) (o : O) : HS := ⟨h.sz, fun b => if b = a then o else h.get b⟩
def HS.push (h : HS) (o : O) : HS := ⟨h.sz + 1, fun b => if b = h.sz then o else h.get b⟩
structure Exn where
  cls : Str
  fs : List (Str × W)
inductive R (α : Type) where
  | ok (a : α) (h : HS) | exc (x : Exn) (h : HS) | stuck
def R.bind {α β : Type} (r : R α) (f : α → HS → R β) : R β := match r with
  | .ok a h => f a h
  | .exc x h => .exc x h
  | .stuck => .stuck
abbrev Fr := List (Option W)
abbrev EM := Fr → HS → R W
abbrev BM := Fr → HS → R Bool
abbrev AM := Fr → HS → R (List W)
inductive RS where
  | nx (σ : Fr) (h : HS) | rt (w : W) (h : HS) | bk (σ : Fr) (h : HS) | ct (σ : Fr) (h : HS) | exc (x : Exn) (σ : Fr) (h : HS) | stuck
abbrev SM := Fr → HS → RS
def RS.bind (r : RS) (f : SM) : RS := match r with
  | .nx σ h => f σ h
  | r => r
def R.toS {α : Type} (r : R α) (σ : Fr) (f : α → HS → RS) : RS := match r with
  | .ok a h => f a h
  | .exc x h => .exc x σ h
  | .stuck => .stuck
def getS : Fr → Nat → Option W
  | [], _ => none
  | x :: _, 0 => x
  | _ :: r, n + 1 => getS r n
def setS : Fr → Nat → Option W → Fr
  | [], _, _ => []
  | _ :: r, 0, w => w :: r
  | x :: r, n + 1, w => x :: setS r n w
def wipeW (σ : Fr) : List Nat → Fr
  | [] => σ
  | v :: vs => setS (wipeW σ vs) v none
def LIM : Nat := 16777216

/-! ### operations by values -/
def optR {α : Type} (o : Option α) (h : HS) : R α := match o with
  | some a => .ok a h
  | none => .stuck
def guardR {α : Type} (b : Bool) (r : R α) : R α := match b with
  | true => r
  | false => .stuck
def newL (xs : List W) (h : HS) : R W := .ok (.ref h.sz) (h.push (.lst xs))
def addO (o p : O) (h : HS) : R W := match o, p with
  | .lst xs, .lst ys => guardR (decide (xs.length + ys.length ≤ LIM)) (newL (xs ++ ys) h)
  | _, _ => .stuck
def addW (x y : W) (h : HS) : R W := match x, y with
  | .int i, .int j => .ok (.int (i + j)) h
  | .str a, .str b => guardR (decide (a.length + b.length ≤ LIM)) (.ok (.str (a ++ b)) h)
  | .tup xs, .tup ys => guardR (decide (xs.length + ys.length ≤ LIM)) (.ok (.tup (xs ++ ys)) h)
  | .ref a, .ref b => addO (h.get a) (h.get b) h
  | _, _ => .stuck
def subW (x y : W) (h : HS) : R W := match x, y with
  | .int i, .int j => .ok (.int (i - j)) h
  | _, _ => .stuck
/-- the size of an int, asked so that the kernel is stuck at a variable -/
def iLt (i : Int) (B : Nat) : Bool := Nat.blt i.natAbs B
theorem iLt_iff {i : Int} {B : Nat} : iLt i B = true ↔ i.natAbs < B := by
  unfold iLt
  rw [Nat.blt_eq]
def smallB (i : Int) : Bool := iLt i (2 ^ 64)
def repO (o : O) (k : Int) (h : HS) : R W := match o with
  | .lst xs => guardR (iLt k (2 ^ 62) && decide (xs.length * k.toNat ≤ LIM)) (newL (List.replicate k.toNat xs).flatten h)
  | _ => .stuck
def mulW (x y : W) (h : HS) : R W := match x, y with
  | .int i, .int j => guardR (smallB i || smallB j) (.ok (.int (i * j)) h)
  | .tup xs, .int k => guardR (!xs.isEmpty && decide (2 ≤ k ∧ k ≤ 1000 ∧ xs.length ≤ 1000)) (.ok (.tup (List.replicate k.toNat xs).flatten) h)
  | .ref a, .int k => repO (h.get a) k h
  | _, _ => .stuck
def modW (x y : W) (h : HS) : R W := match x, y with
  | .int i, .int j => guardR (decide (0 < j)) (.ok (.int (i % j)) h)
  | _, _ => .stuck
def fdivW (x y : W) (h : HS) : R W := match x, y with
  | .int i, .int j => guardR (decide (0 < j) && iLt j 1073741824) (.ok (.int (i / j)) h)
  | _, _ => .stuck
def powW (x y : W) (h : HS) : R W := match x, y with
  | .int i, .int j => guardR (decide (0 ≤ j) && ((iLt j 1000001 && iLt i (2 ^ 64)) || (iLt j 9 && iLt i (2 ^ 256)))) (.ok (.int (i ^ j.toNat)) h)
  | _, _ => .stuck
def shrW (x y : W) (h : HS) : R W := match x, y with
  | .int i, .int j => guardR (decide (0 ≤ j)) (.ok (.int (i / 2 ^ j.toNat)) h)
  | _, _ => .stuck
def binW (op : Operator) : W → W → HS → R W := match op with
  | .Add => addW
  | .Sub => subW
  | .Mult => mulW
  | .Mod => modW
  | .FloorDiv => fdivW
  | .Pow => powW
  | .RShift => shrW
  | _ => fun _ _ _ => .stuck
def negW (x : W) (h : HS) : R W := match x with
  | .int i => .ok (.int (-i)) h
  | _ => .stuck
def truO (o : O) : Option Bool := match o with
  | .lst xs => some (!xs.isEmpty)
  | .frz xs => some (!xs.isEmpty)
  | .dic kvs => some (!kvs.isEmpty)
  | _ => none
def truW (x : W) (h : HS) : Option Bool := match x with
  | .non => some false
  | .bl b => some b
  | .int i => some (i != 0)
  | .str y => if y.length ≤ LIM then some ((y.length : Int) != 0) else none
  | .tup xs => some (!xs.isEmpty)
  | .ref a => truO (h.get a)
  | _ => none
def truR (x : W) (h : HS) : R Bool := optR (truW x h) h

mutual
/-- == of two values without addresses -/
def eqP : W → W → Bool
  | .non, .non => true
  | .bl a, .bl b => a == b
  | .bl a, .int j => (if a then 1 else 0) == j
  | .int i, .bl b => i == (if b then 1 else 0)
  | .int i, .int j => i == j
  | .str x, .str y => x == y
  | .tup xs, .tup ys => eqPs xs ys
  | _, _ => false
def eqPs : List W → List W → Bool
  | [], [] => true
  | x :: xs, y :: ys => eqP x y && eqPs xs ys
  | _, _ => false
end
mutual
/-- no address within, and how deep -/
def okP : Nat → W → Bool
  | _, .non => true
  | _, .bl _ => true
  | _, .int _ => true
  | _, .str x => PyData.strOk x
  | n + 1, .tup xs => okPs n xs
  | _, _ => false
def okPs : Nat → List W → Bool
  | _, [] => true
  | n, x :: xs => okP n x && okPs n xs
end
/-- a value as == reads it: a list's items, or the value itself -/
inductive Fl where
  | pl (w : W) | li (ws : List W)
def flO (o : O) : Option (List W) := match o with
  | .lst xs => some xs
  | .frz xs => some xs
  | _ => none
def flW (x : W) (h : HS) : Option Fl := match x with
  | .ref a => (flO (h.get a)).bind fun ws => if okPs 16 ws then some (.li ws) else none
  | w => if okP 16 w then some (.pl w) else none
def eqF : Fl → Fl → Bool
  | .pl a, .pl b => eqP a b
  | .li a, .li b => eqPs a b
  | _, _ => false
/-- lists in lists: the whole value as == reads it -/
def dpAll (f : W → Option PyData) : List W → Option (List PyData)
  | [] => some []
  | x :: xs => (f x).bind fun d => (dpAll f xs).bind fun ds => some (d :: ds)
def dpW (h : HS) : Nat → W → Option PyData
  | 0 => fun _ => none
  | n + 1 => fun w => match w with
    | .non => some .none
    | .bl b => some (.bool b)
    | .int i => some (.int i)
    | .str x => some (.str x)
    | .tup xs => (dpAll (dpW h n) xs).map .tuple
    | .ref a => (flO (h.get a)).bind fun ws => (dpAll (dpW h n) ws).map .list
    | _ => none
def eqD (x y : W) (h : HS) : Option Bool := (dpW h 17 x).bind fun d => (dpW h 17 y).bind fun e => if (PySem.SeqAt.shaped d && PySem.SeqAt.shaped e) = true then some (PyData.eqv d e) else none
def eqW (x y : W) (h : HS) : Option Bool := match flW x h with
  | some a => (match flW y h with
    | some b => some (eqF a b)
    | none => eqD x y h)
  | none => eqD x y h
def ltW (f : Int → Int → Bool) (x y : W) : Option Bool := match x, y with
  | .int i, .int j => some (f i j)
  | _, _ => none
def ltSW (x y : W) : Option Bool := match x, y with
  | .int i, .int j => some (decide (i < j))
  | .str a, .str b => some (decide (a.cps.toList < b.cps.toList))
  | _, _ => none
def isNon (x : W) : Bool := match x with
  | .non => true
  | _ => false
def isW (x y : W) : Option Bool := match y with
  | .non => some (isNon x)
  | _ => none
def flatB (x : W) : Bool := match x with
  | .non => true
  | .bl _ => true
  | .int _ => true
  | .str _ => true
  | _ => false
def inP (x : W) (xs : List W) : Bool := xs.any fun y => eqP y x
def keyW (x : W) : Option Key := match x with
  | .int i => some (.inl i)
  | .str s => some (.inr s)
  | _ => none
/-- dict displays of the module: asked by keys alone -/
abbrev Dcts := List (Str × List (Key × W))
def inO (x : W) (o : O) : Option Bool := match o with
  | .lst xs => if flatB x && xs.all flatB then some (inP x xs) else none
  | .frz xs => if flatB x && xs.all flatB then some (inP x xs) else none
  | _ => none
def inW (D : Dcts) (x y : W) (h : HS) : Option Bool := match y with
  | .tup xs => if flatB x && xs.all flatB then some (inP x xs) else none
  | .ref a => inO x (h.get a)
  | .gl n => (D.lookup n).bind fun kvs => match x with
    | .str s => some ((kvs.map (·.1)).contains (.inr s))
    | _ => none
  | _ => none
def cmpW (D : Dcts) (op : CmpOp) (x y : W) (h : HS) : Option Bool := match op with
  | .Eq => eqW x y h
  | .NotEq => (eqW x y h).map (!·)
  | .Lt => ltSW x y
  | .LtE => ltW (fun i j => decide (i ≤ j)) x y
  | .Gt => ltW (fun i j => decide (j < i)) x y
  | .GtE => ltW (fun i j => decide (j ≤ i)) x y
  | .Is => isW x y
  | .IsNot => (isW x y).map (!·)
  | .In => inW D x y h
  | .NotIn => (inW D x y h).map (!·)
def cmpR (D : Dcts) (op : CmpOp) (x y : W) (h : HS) : R Bool := optR (cmpW D op x y h) h

/-! ### subscripts -/
def ixO (o : O) (i : Int) (h : HS) : R W := match o with
  | .lst xs => optR (atI xs i) h
  | .frz xs => optR (atI xs i) h
  | _ => .stuck
def ixW (D : Dcts) (x y : W) (h : HS) : R W := match x, y with
  | .tup xs, .int i => optR (atI xs i) h
  | .ref a, .int i => ixO (h.get a) i h
  | .gl n, .str s => optR ((D.lookup n).bind fun kvs => kvs.lookup (.inr s)) h
  | .str z, .int i => guardR (decide (z.length ≤ LIM)) (optR ((atI z.cps.toList i).map fun c => W.str ⟨#[c]⟩) h)
  | _, _ => .stuck
def cutW (xs : List W) (lo hi : Option Int) : List W := (xs.drop (HT.sIx xs.length 0 lo)).take (HT.sIx xs.length xs.length hi - HT.sIx xs.length 0 lo)
def slO (o : O) (lo hi : Option Int) (h : HS) : R W := match o with
  | .lst xs => newL (cutW xs lo hi) h
  | .frz xs => newL (cutW xs lo hi) h
  | _ => .stuck
def slW (x : W) (lo hi : Option Int) (h : HS) : R W := match x with
  | .tup xs => .ok (.tup (cutW xs lo hi)) h
  | .ref a => slO (h.get a) lo hi h
  | .str z => guardR (decide (z.length ≤ LIM)) (.ok (.str (cutS z lo hi)) h)
  | _ => .stuck
def intOf (x : W) (h : HS) : R (Option Int) := match x with
  | .int i => .ok (some i) h
  | _ => .stuck
def putO (o : O) (a : Nat) (i : Int) (w : W) (h : HS) : R Unit := match o with
  | .lst xs => match ixN xs.length i with
    | some j => .ok () (h.set a (.lst (xs.set j w)))
    | none => .stuck
  | _ => .stuck
def putW (x y w : W) (h : HS) : R Unit := match x, y with
  | .ref a, .int i => putO (h.get a) a i w h
  | _, _ => .stuck

/-! ### builtins -/
def lenO (o : O) (h : HS) : R W := match o with
  | .lst xs => .ok (.int xs.length) h
  | .frz xs => .ok (.int xs.length) h
  | _ => .stuck
def lenW (x : W) (h : HS) : R W := match x with
  | .str y => guardR (decide (y.length ≤ LIM)) (.ok (.int y.length) h)
  | .tup xs => .ok (.int xs.length) h
  | .ref a => lenO (h.get a) h
  | _ => .stuck
def absW (x : W) (h : HS) : R W := match x with
  | .int i => .ok (.int (if i < 0 then -i else i)) h
  | _ => .stuck
def intW (x : W) (h : HS) : R W := match x with
  | .int i => .ok (.int i) h
  | .bl b => .ok (.int (if b then 1 else 0)) h
  | _ => .stuck
def listO (o : O) (h : HS) : R W := match o with
  | .lst xs => newL xs h
  | .frz xs => newL xs h
  | _ => .stuck
def listW (x : W) (h : HS) : R W := match x with
  | .tup xs => newL xs h
  | .ref a => listO (h.get a) h
  | _ => .stuck
def tupO (o : O) (h : HS) : R W := match o with
  | .lst xs => .ok (.tup xs) h
  | .frz xs => .ok (.tup xs) h
  | _ => .stuck
def tupW (x : W) (h : HS) : R W := match x with
  | .tup xs => .ok (.tup xs) h
  | .ref a => tupO (h.get a) h
  | _ => .stuck
def intsOf : List W → Option (List Int)
  | [] => some []
  | .int i :: r => (intsOf r).map (i :: ·)
  | _ => none
def maxL : Int → List Int → Int
  | m, [] => m
  | m, x :: r => maxL (if m < x then x else m) r
def minL : Int → List Int → Int
  | m, [] => m
  | m, x :: r => minL (if x < m then x else m) r
def foldI (f : Int → List Int → Int) (xs : List W) (h : HS) : R W := match intsOf xs with
  | some (i :: r) => .ok (.int (f i r)) h
  | _ => .stuck
def foldO (f : Int → List Int → Int) (o : O) (h : HS) : R W := match o with
  | .lst xs => foldI f xs h
  | .frz xs => foldI f xs h
  | _ => .stuck
def extW (f : Int → List Int → Int) (ws : List W) (h : HS) : R W := match ws with
  | [.int i, .int j] => .ok (.int (f i [j])) h
  | [.ref a] => foldO f (h.get a) h
  | _ => .stuck
/-- the built-in type of a value -/
def tyO (o : O) : Option String := match o with
  | .lst _ => some "list"
  | .frz _ => some "list"
  | .dic _ => some "dict"
  | _ => none
def tyW (x : W) (h : HS) : Option String := match x with
  | .non => some "NoneType"
  | .bl _ => some "bool"
  | .int _ => some "int"
  | .str _ => some "str"
  | .tup _ => some "tuple"
  | .ref a => tyO (h.get a)
  | _ => none
def isT (a b : String) : Bool := a == b || (a == "bool" && b == "int")
def knownT (b : String) : Bool := ["int", "bool", "str", "tuple", "list", "dict"].contains b
def tysOf : List W → Option (List String)
  | [] => some []
  | .ty n :: r => if knownT n then (tysOf r).map (n :: ·) else none
  | _ => none
def isiW (x c : W) (h : HS) : R W := match c with
  | .ty n => if knownT n then optR ((tyW x h).map fun t => W.bl (isT t n)) h else .stuck
  | .tup cs => optR ((tysOf cs).bind fun ns => (tyW x h).map fun t => W.bl (ns.any (isT t))) h
  | _ => .stuck
def fmtW (x : W) : Option Str := match x with
  | .str y => if y.length ≤ LIM then some y else none
  | .int i => if i.natAbs.log2 < 1920 then some (toString i : String) else none
  | _ => none
/-- ints sorted -/
def insI (x : Int) : List Int → List Int
  | [] => [x]
  | y :: r => if x ≤ y then x :: y :: r else y :: insI x r
def sortI : List Int → List Int
  | [] => []
  | x :: r => insI x (sortI r)
/-- pairs of small numbers sorted -/
def prW (p : Int × Int) : W := .tup [.int p.1, .int p.2]
def prsOf : List W → Option (List (Int × Int))
  | [] => some []
  | .tup [.int a, .int b] :: r => if decide (0 ≤ a) && iLt a 1000000 && (decide (0 ≤ b) && iLt b 1000000) then (prsOf r).map ((a, b) :: ·) else none
  | _ => none
def prC (p : Int × Int) : Int := p.1 * 1000000 + p.2
def insP (x : Int × Int) : List (Int × Int) → List (Int × Int)
  | [] => [x]
  | y :: r => if prC x ≤ prC y then x :: y :: r else y :: insP x r
def sortP : List (Int × Int) → List (Int × Int)
  | [] => []
  | x :: r => insP x (sortP r)
def srtL (ws : List W) (h : HS) : R W := match intsOf ws with
  | some ns => newL ((sortI ns).map W.int) h
  | none => match prsOf ws with
    | some ps => guardR (decide (ws.length < 64)) (newL ((sortP ps).map prW) h)
    | none => .stuck
def srtO (o : O) (h : HS) : R W := match o with
  | .lst xs => srtL xs h
  | .frz xs => srtL xs h
  | _ => .stuck
def srtW (x : W) (h : HS) : R W := match x with
  | .ref a => srtO (h.get a) h
  | _ => .stuck
def strW (x : W) (h : HS) : R W := match x with
  | .int i => guardR (Nat.blt i.natAbs.log2 1920) (.ok (.str (toString i : String)) h)
  | .str y => .ok (.str y) h
  | _ => .stuck
/-- ten binary digits, as the format gives them -/
def fsB : PySem.Builtin.Float.FormatSpec := { fill := 48, align := 61, width := some 10, type := some 98 }
def fbody (n : Nat) : Str := PyProof.Rows.intField' fsB false [] ((Nat.toDigits 2 n).map Char.toNat) [] 4
def fmtBW (x : W) (h : HS) : R W := match x with
  | .int i => guardR (decide (0 ≤ i) && decide ((fbody i.natAbs).length ≤ LIM)) (.ok (.str (fbody i.natAbs)) h)
  | _ => .stuck
def bi1 (f : W → HS → R W) (ws : List W) (h : HS) : R W := match ws with
  | [x] => f x h
  | _ => .stuck
def bi2 (f : W → W → HS → R W) (ws : List W) (h : HS) : R W := match ws with
  | [x, y] => f x y h
  | _ => .stuck
/-- the built-in functions and types that are called -/
inductive Bi where
  | len | abs | int | list | tuple | isinstance | max | min | sorted | str
def biW (n : Bi) (ws : List W) (h : HS) : R W := match n with
  | .len => bi1 lenW ws h
  | .abs => bi1 absW ws h
  | .int => bi1 intW ws h
  | .list => bi1 listW ws h
  | .tuple => bi1 tupW ws h
  | .isinstance => bi2 isiW ws h
  | .max => extW maxL ws h
  | .min => extW minL ws h
  | .sorted => bi1 srtW ws h
  | .str => bi1 strW ws h

/-! ### methods of lists -/
def findI (f : W → Bool) : List W → Nat → Option Nat
  | [], _ => none
  | x :: r, n => if f x then some n else findI f r (n + 1)
def appO (o : O) (a : Nat) (w : W) (h : HS) : R W := match o with
  | .lst xs => guardR (decide (xs.length < LIM)) (.ok .non (h.set a (.lst (xs ++ [w]))))
  | _ => .stuck
def popO (o : O) (a : Nat) (h : HS) : R W := match o with
  | .lst xs => match xs[xs.length - 1]? with
    | some w => .ok w (h.set a (.lst xs.dropLast))
    | none => .stuck
  | _ => .stuck
def popAtO (o : O) (a : Nat) (i : Int) (h : HS) : R W := match o with
  | .lst xs => match ixN xs.length i with
    | some j => (match xs[j]? with
      | some w => .ok w (h.set a (.lst (xs.eraseIdx j)))
      | none => .stuck)
    | none => .stuck
  | _ => .stuck
def extO (o p : O) (a : Nat) (h : HS) : R W := match o, p with
  | .lst xs, .lst ys => guardR (decide (xs.length + ys.length ≤ LIM)) (.ok .non (h.set a (.lst (xs ++ ys))))
  | _, _ => .stuck
def extT (o : O) (a : Nat) (ys : List W) (h : HS) : R W := match o with
  | .lst xs => guardR (decide (xs.length + ys.length ≤ LIM)) (.ok .non (h.set a (.lst (xs ++ ys))))
  | _ => .stuck
def remO (o : O) (a : Nat) (k : Int) (h : HS) : R W := match o with
  | .lst xs => match intsOf xs with
    | some ns => if ns.contains k then .ok .non (h.set a (.lst ((ns.erase k).map W.int))) else .stuck
    | none => .stuck
  | _ => .stuck
def idxL (xs : List W) (y : W) (h : HS) : R W := guardR (flatB y && xs.all flatB) (match findI (fun x => eqP x y) xs 0 with
  | some j => .ok (.int j) h
  | none => .stuck)
def idxO (o : O) (y : W) (h : HS) : R W := match o with
  | .lst xs => idxL xs y h
  | .frz xs => idxL xs y h
  | _ => .stuck
def revO (o : O) (a : Nat) (h : HS) : R W := match o with
  | .lst xs => .ok .non (h.set a (.lst xs.reverse))
  | _ => .stuck
def insO (o : O) (a : Nat) (i : Int) (w : W) (h : HS) : R W := match o with
  | .lst xs => guardR (decide (xs.length < LIM) && (decide (0 ≤ i) && iLt i (2 ^ 62))) (.ok .non (h.set a (.lst (xs.take i.toNat ++ [w] ++ xs.drop i.toNat))))
  | _ => .stuck
/-- the methods of built-in types that are called -/
inductive Mt where
  | append | pop | extend | remove | index | reverse | insert | startswith
/-- methods of strings alone -/
def strM (m : Mt) : Bool := match m with
  | .startswith => true
  | _ => false
def mtL (m : Mt) (a : Nat) (ws : List W) (h : HS) : R W := match m with
  | .append => match ws with
    | [w] => appO (h.get a) a w h
    | _ => .stuck
  | .pop => match ws with
    | [] => popO (h.get a) a h
    | [.int i] => popAtO (h.get a) a i h
    | _ => .stuck
  | .extend => match ws with
    | [.ref b] => extO (h.get a) (h.get b) a h
    | [.tup ys] => extT (h.get a) a ys h
    | _ => .stuck
  | .remove => match ws with
    | [.int k] => remO (h.get a) a k h
    | _ => .stuck
  | .index => match ws with
    | [y] => idxO (h.get a) y h
    | _ => .stuck
  | .reverse => match ws with
    | [] => revO (h.get a) a h
    | _ => .stuck
  | .insert => match ws with
    | [.int i, w] => insO (h.get a) a i w h
    | _ => .stuck
  | .startswith => .stuck
def mtT (m : Mt) (xs : List W) (ws : List W) (h : HS) : R W := match m with
  | .index => match ws with
    | [y] => idxL xs y h
    | _ => .stuck
  | _ => .stuck
def mtS (m : Mt) (x : Str) (ws : List W) (h : HS) : R W := match m with
  | .startswith => match ws with
    | [.str y] => .ok (.bl (PySem.Txt.startswith x y)) h
    | _ => .stuck
  | _ => .stuck
def mtW (m : Mt) (x : W) (ws : List W) (h : HS) : R W := match x with
  | .ref a => mtL m a ws h
  | .tup xs => mtT m xs ws h
  | .str x => mtS m x ws h
  | _ => .stuck
def isLst (o : O) : Bool := match o with
  | .lst _ => true
  | .frz _ => true
  | _ => false
/-- the receiver, when the method is looked up -/
def mtRec (m : Mt) (x : W) (h : HS) : Bool := match x with
  | .ref a => isLst (h.get a) && !strM m
  | .str _ => strM m
  | .tup _ => (match m with
    | .index => true
    | _ => false)
  | _ => false
end Rh
/-! Rh1: how the trees stand for the model's values, and the operations by values. -/
namespace Rh
open PySem PySem.Spec PyProof.Rows L2

/-- a tuple's object, as the machine makes it -/
def ExT (o : Obj) : Prop := o.cls = .type "tuple" ∧ o.dict = none ∧ o.slots = #[]
/-- a tuple whose object is known -/
def Tu (K : PySem.W.Frag) (H : Hp) (a : Addr) (vs : List V) : Prop :=
  (∃ o, H a = some (.frz o (.tup vs)) ∧ ExT o) ∨ ∃ (o : Obj) (its : Array Value) (n : Nat), K.lookup a = some o ∧ ExT o ∧ o.data = .seq its n ∧ its.size ≤ sizeLine ∧ Vals vs its.toList
theorem Tu.sq {K : PySem.W.Frag} {H : Hp} {a : Addr} {vs : List V} (t : Tu K H a vs) : SqT K H a vs := by
  rcases t with ⟨o, q, _⟩ | ⟨o, its, n, q, x, d, z, r⟩
  · exact .inl (.inr ⟨o, q⟩)
  · exact .inr ⟨o, its, n, q, x.1, d, z, r⟩
section
variable (K : PySem.W.Frag) (mg : Str → Option Value)
mutual
def RelW (loc : List Addr) (H : Hp) : W → V → Prop
  | .non, v => v = .non
  | .bl b, v => v = .bl b
  | .int i, v => v = .int i
  | .str x, v => v = .str x
  | .tup xs, v => ∃ a vs, v = .ref a ∧ Tu K H a vs ∧ RelWs loc H xs vs
  | .ref n, v => ∃ a, v = .ref a ∧ loc[n]? = some a
  | .gl x, v => ∃ a, v = .ref a ∧ mg x = some (.ref a)
  | .ty n, v => v = .ty n
def RelWs (loc : List Addr) (H : Hp) : List W → List V → Prop
  | [], vs => vs = []
  | x :: xs, vs => ∃ v r, vs = v :: r ∧ RelW loc H x v ∧ RelWs loc H xs r
end
def RelKv (loc : List Addr) (H : Hp) : List (Key × W) → List (Key × V) → Prop
  | [], vs => vs = []
  | (k, x) :: xs, vs => ∃ v r, vs = (k, v) :: r ∧ RelW K mg loc H x v ∧ RelKv loc H xs r
def RelFs (loc : List Addr) (H : Hp) : List (Str × W) → List (Str × V) → Prop
  | [], vs => vs = []
  | (k, x) :: xs, vs => ∃ v r, vs = (k, v) :: r ∧ RelW K mg loc H x v ∧ RelFs loc H xs r
def ObjW (loc : List Addr) (H : Hp) : O → Addr → Prop
  | .bad, a => ∃ o, H a = some o
  | .lst ws, a => ∃ vs, H a = some (.lst vs) ∧ RelWs K mg loc H ws vs
  | .frz ws, a => ∃ o vs, H a = some (.frz o (.lst vs)) ∧ RelWs K mg loc H ws vs
  | .dic kvs, a => ∃ vs, H a = some (.dK vs) ∧ RelKv K mg loc H kvs vs
  | .ins c fs, a => ∃ C dx vs, mg c = some (.ref C) ∧ H a = some (.ins C dx vs) ∧ RelFs K mg loc H fs vs
structure Rel (loc : List Addr) (h : HS) (H : Hp) : Prop where
  len : loc.length = h.sz
  nd : loc.Nodup
  obj : ∀ n a, loc[n]? = some a → ObjW K mg loc H (h.get n) a
structure Ext (loc : List Addr) (H : Hp) (loc' : List Addr) (H' : Hp) : Prop where
  pre : ∃ more, loc' = loc ++ more
  tup : ∀ b vs, Tu K H b vs → Tu K H' b vs
  fr : ∀ b o, b ∉ loc → H b = some o → H' b = some o
  new : ∀ b, b ∈ loc' → b ∈ loc ∨ H b = none
def RelX (loc : List Addr) (H : Hp) (x : Exn) (cls : Value) (d : Option Addr) : Prop :=
  ∃ C, mg x.cls = some (.ref C) ∧ cls = .ref C ∧ ((x.fs = [] ∧ d = none) ∨ (x.fs ≠ [] ∧ ∃ dx vs, d = some dx ∧ H dx = some (.xd vs) ∧ RelFs K mg loc H x.fs vs))
end

section
variable {K : PySem.W.Frag} {mg : Str → Option Value} {loc loc' loc2 : List Addr} {H H' H2 : Hp} {h h' : HS}
theorem Ext.refl : Ext K loc H loc H := ⟨⟨[], by simp⟩, fun _ _ x => x, fun _ _ _ x => x, fun _ x => .inl x⟩
theorem Ext.out (a : Ext K loc H loc' H') {c : Addr} {o : HO} (n : c ∉ loc) (e : H c = some o) : c ∉ loc' := fun m => by
  rcases a.new c m with z | z
  · exact n z
  · rw [e] at z; cases z
theorem Ext.trans (a : Ext K loc H loc' H') (b : Ext K loc' H' loc2 H2) : Ext K loc H loc2 H2 := by
  obtain ⟨m1, e1⟩ := a.pre
  obtain ⟨m2, e2⟩ := b.pre
  refine ⟨⟨m1 ++ m2, by rw [e2, e1, List.append_assoc]⟩, fun c vs x => b.tup c vs (a.tup c vs x), fun c o n x => b.fr c o (a.out n x) (a.fr c o n x), fun c m => ?_⟩
  rcases b.new c m with z | z
  · exact a.new c z
  · cases q : H c with
    | none => exact .inr rfl
    | some o =>
      by_cases n : c ∈ loc
      · exact .inl n
      · rw [a.fr c o n q] at z; cases z
theorem Ext.get (a : Ext K loc H loc' H') {n : Nat} {x : Addr} (e : loc[n]? = some x) : loc'[n]? = some x := by
  obtain ⟨m, rfl⟩ := a.pre
  rw [List.getElem?_append_left (List.getElem?_eq_some_iff.mp e).1]
  exact e
mutual
theorem RelW.ext (a : Ext K loc H loc' H') : ∀ (w : W) (v : V), RelW K mg loc H w v → RelW K mg loc' H' w v
  | .non, _, r => by unfold RelW at r ⊢; exact r
  | .bl _, _, r => by unfold RelW at r ⊢; exact r
  | .int _, _, r => by unfold RelW at r ⊢; exact r
  | .str _, _, r => by unfold RelW at r ⊢; exact r
  | .ty _, _, r => by unfold RelW at r ⊢; exact r
  | .gl _, _, r => by unfold RelW at r ⊢; exact r
  | .ref n, _, r => by
    unfold RelW at r ⊢
    obtain ⟨x, e, q⟩ := r
    exact ⟨x, e, a.get q⟩
  | .tup xs, _, r => by
    unfold RelW at r ⊢
    obtain ⟨x, vs, e, q, r⟩ := r
    exact ⟨x, vs, e, a.tup _ _ q, RelWs.ext a xs vs r⟩
theorem RelWs.ext (a : Ext K loc H loc' H') : ∀ (ws : List W) (vs : List V), RelWs K mg loc H ws vs → RelWs K mg loc' H' ws vs
  | [], _, r => by unfold RelWs at r ⊢; exact r
  | w :: ws, _, r => by
    unfold RelWs at r ⊢
    obtain ⟨v, s, e, r1, r2⟩ := r
    exact ⟨v, s, e, RelW.ext a w v r1, RelWs.ext a ws s r2⟩
end
theorem RelKv.ext (a : Ext K loc H loc' H') : ∀ (ws : List (Key × W)) (vs : List (Key × V)), RelKv K mg loc H ws vs → RelKv K mg loc' H' ws vs
  | [], _, r => r
  | (k, w) :: ws, _, r => by
    obtain ⟨v, s, e, r1, r2⟩ := r
    exact ⟨v, s, e, RelW.ext a w v r1, RelKv.ext a ws s r2⟩
theorem RelFs.ext (a : Ext K loc H loc' H') : ∀ (ws : List (Str × W)) (vs : List (Str × V)), RelFs K mg loc H ws vs → RelFs K mg loc' H' ws vs
  | [], _, r => r
  | (k, w) :: ws, _, r => by
    obtain ⟨v, s, e, r1, r2⟩ := r
    exact ⟨v, s, e, RelW.ext a w v r1, RelFs.ext a ws s r2⟩
theorem ObjW.there {o : O} {a : Addr} (r : ObjW K mg loc H o a) : ∃ u, H a = some u := by
  cases o with
  | bad => exact r
  | lst ws => obtain ⟨vs, e, _⟩ := r; exact ⟨_, e⟩
  | frz ws => obtain ⟨_, vs, e, _⟩ := r; exact ⟨_, e⟩
  | dic kvs => obtain ⟨vs, e, _⟩ := r; exact ⟨_, e⟩
  | ins c fs => obtain ⟨_, _, vs, _, e, _⟩ := r; exact ⟨_, e⟩
theorem ObjW.ext (a : Ext K loc H loc' H') {o : O} {x : Addr} (r : ObjW K mg loc H o x) (e : H' x = H x) : ObjW K mg loc' H' o x := by
  cases o with
  | bad => obtain ⟨u, q⟩ := r; exact ⟨u, e.trans q⟩
  | lst ws => obtain ⟨vs, q, r⟩ := r; exact ⟨vs, e.trans q, RelWs.ext a _ _ r⟩
  | frz ws => obtain ⟨o, vs, q, r⟩ := r; exact ⟨o, vs, e.trans q, RelWs.ext a _ _ r⟩
  | dic kvs => obtain ⟨vs, q, r⟩ := r; exact ⟨vs, e.trans q, RelKv.ext a _ _ r⟩
  | ins c fs => obtain ⟨C, dx, vs, m, q, r⟩ := r; exact ⟨C, dx, vs, m, e.trans q, RelFs.ext a _ _ r⟩
theorem Rel.there (r : Rel K mg loc h H) {n : Nat} {a : Addr} (e : loc[n]? = some a) : ∃ u, H a = some u := (r.obj n a e).there
theorem Rel.mem (r : Rel K mg loc h H) {a : Addr} (m : a ∈ loc) : ∃ u, H a = some u := by
  obtain ⟨n, hn, e⟩ := List.getElem_of_mem m
  exact r.there (n := n) (List.getElem?_eq_some_iff.mpr ⟨hn, e⟩)
theorem Rel.fresh (r : Rel K mg loc h H) {p : Addr} (hp : H p = none) : p ∉ loc := fun m => by
  obtain ⟨u, e⟩ := r.mem m
  rw [hp] at e; cases e
theorem SqT_new {p : Addr} {o : HO} (hp : H p = none) {b : Addr} {vs : List V} (q : Tu K H b vs) : Tu K (upd H p o) b vs := by
  rcases q with ⟨u, q, x⟩ | q
  · exact .inl ⟨u, by rw [upd_ne (ne_of_none q hp)]; exact q, x⟩
  · exact .inr q
theorem Ext.newO {p : Addr} {o : HO} (hp : H p = none) : Ext K loc H (loc ++ [p]) (upd H p o) :=
  ⟨⟨[p], rfl⟩, fun _ _ q => SqT_new hp q, fun b u _ q => by rw [upd_ne (ne_of_none q hp)]; exact q, fun b m => by
    rcases List.mem_append.mp m with z | z
    · exact .inl z
    · have e : b = p := by simpa using z
      exact .inr (e ▸ hp)⟩
theorem Ext.newT {p : Addr} {o : HO} (hp : H p = none) : Ext K loc H loc (upd H p o) :=
  ⟨⟨[], by simp⟩, fun _ _ q => SqT_new hp q, fun b u _ q => by rw [upd_ne (ne_of_none q hp)]; exact q, fun _ x => .inl x⟩
/-- a new thing that has no number -/
theorem Rel.newT (r : Rel K mg loc h H) {p : Addr} {o : HO} (hp : H p = none) : Rel K mg loc h (upd H p o) :=
  ⟨r.len, r.nd, fun n a e => by
    obtain ⟨u, q⟩ := r.there e
    exact (r.obj n a e).ext (Ext.newT hp) (upd_ne (ne_of_none q hp))⟩
/-- a new numbered thing -/
theorem Rel.push (r : Rel K mg loc h H) {p : Addr} {o : HO} {u : O} (hp : H p = none) (q : ObjW K mg (loc ++ [p]) (upd H p o) u p) : Rel K mg (loc ++ [p]) (h.push u) (upd H p o) := by
  refine ⟨by simp [HS.push, r.len], ?_, fun n a e => ?_⟩
  · rw [List.nodup_append]
    exact ⟨r.nd, by simp, fun a ha b hb => by
      have e : b = p := by simpa using hb
      subst e
      intro z; subst z
      exact r.fresh hp ha⟩
  · by_cases hn : n < loc.length
    · rw [List.getElem?_append_left hn] at e
      obtain ⟨v, z⟩ := r.there e
      have en : (h.push u).get n = h.get n := by
        unfold HS.push
        show (if n = h.sz then u else h.get n) = _
        rw [if_neg (by rw [← r.len]; omega)]
      rw [en]
      exact (r.obj n a e).ext (Ext.newO hp) (upd_ne (ne_of_none z hp))
    · rw [List.getElem?_append_right (by omega)] at e
      have e0 : n - loc.length = 0 := by
        cases q : n - loc.length with
        | zero => rfl
        | succ m => rw [q] at e; simp at e
      rw [e0] at e
      have ea : p = a := by simpa using e
      subst ea
      have en : (h.push u).get n = u := by
        unfold HS.push
        show (if n = h.sz then u else h.get n) = _
        rw [if_pos (by rw [← r.len]; omega)]
      rw [en]
      exact q
/-- what may be written and is no tuple -/
theorem SqT_mut {a : Addr} {o : HO} (mu : Mut (H a)) {b : Addr} {vs : List V} (q : Tu K H b vs) : Tu K (upd H a o) b vs := by
  rcases q with ⟨u, q, x⟩ | q
  · have : b ≠ a := fun z => by subst z; rw [q] at mu; exact mu
    exact .inl ⟨u, by rw [upd_ne this]; exact q, x⟩
  · exact .inr q
theorem Ext.set {a : Addr} {o : HO} (m : a ∈ loc) (mu : Mut (H a)) : Ext K loc H loc (upd H a o) :=
  ⟨⟨[], by simp⟩, fun _ _ q => SqT_mut mu q, fun b u n q => by
    have : b ≠ a := fun z => n (z ▸ m)
    rw [upd_ne this]; exact q, fun _ x => .inl x⟩
theorem loc_inj (nd : loc.Nodup) {n m : Nat} {a : Addr} (e : loc[n]? = some a) (e' : loc[m]? = some a) : n = m := by
  obtain ⟨h1, e1⟩ := List.getElem?_eq_some_iff.mp e
  obtain ⟨h2, e2⟩ := List.getElem?_eq_some_iff.mp e'
  exact (List.getElem_inj nd).mp (e1.trans e2.symm)
theorem Rel.set (r : Rel K mg loc h H) {n : Nat} {a : Addr} {o : HO} {u : O} (e : loc[n]? = some a) (mu : Mut (H a)) (q : ObjW K mg loc (upd H a o) u a) : Rel K mg loc (h.set n u) (upd H a o) := by
  have m : a ∈ loc := List.mem_of_getElem? e
  refine ⟨r.len, r.nd, fun k b ek => ?_⟩
  by_cases hk : k = n
  · subst hk
    rw [e] at ek
    cases ek
    have en : (h.set k u).get k = u := by show (if k = k then u else _) = _; rw [if_pos rfl]
    rw [en]
    exact q
  · have en : (h.set n u).get k = h.get k := by show (if k = n then u else _) = _; rw [if_neg hk]
    rw [en]
    exact (r.obj k b ek).ext (Ext.set m mu) (upd_ne fun z => hk (loc_inj r.nd (z ▸ ek) e))

/-! ### rows -/
theorem RelWs.length : ∀ {ws : List W} {vs : List V}, RelWs K mg loc H ws vs → vs.length = ws.length
  | [], _, r => by unfold RelWs at r; subst r; rfl
  | w :: ws, _, r => by
    unfold RelWs at r
    obtain ⟨v, s, rfl, _, r2⟩ := r
    simp [RelWs.length r2]
theorem RelWs.nil : RelWs K mg loc H [] [] := by unfold RelWs; rfl
theorem RelWs.cons {w : W} {ws : List W} {v : V} {vs : List V} (a : RelW K mg loc H w v) (b : RelWs K mg loc H ws vs) : RelWs K mg loc H (w :: ws) (v :: vs) := by
  unfold RelWs; exact ⟨v, vs, rfl, a, b⟩
theorem RelWs.uncons {w : W} {ws : List W} {vs : List V} (a : RelWs K mg loc H (w :: ws) vs) : ∃ v r, vs = v :: r ∧ RelW K mg loc H w v ∧ RelWs K mg loc H ws r := by
  unfold RelWs at a; exact a
theorem RelWs.unnil {vs : List V} (a : RelWs K mg loc H [] vs) : vs = [] := by unfold RelWs at a; exact a
theorem RelWs.append : ∀ {ws xs : List W} {vs us : List V}, RelWs K mg loc H ws vs → RelWs K mg loc H xs us → RelWs K mg loc H (ws ++ xs) (vs ++ us)
  | [], _, _, _, a, b => by rw [a.unnil]; exact b
  | w :: ws, xs, _, us, a, b => by
    obtain ⟨v, r, rfl, a1, a2⟩ := a.uncons
    exact .cons a1 (a2.append b)
theorem RelWs.get : ∀ {ws : List W} {vs : List V} {i : Nat} {w : W}, RelWs K mg loc H ws vs → ws[i]? = some w → ∃ v, vs[i]? = some v ∧ RelW K mg loc H w v
  | [], _, i, w, _, e => by simp at e
  | x :: ws, _, 0, w, a, e => by
    obtain ⟨v, r, rfl, a1, a2⟩ := a.uncons
    have e' : x = w := by simpa using e
    subst e'
    exact ⟨v, rfl, a1⟩
  | x :: ws, _, i + 1, w, a, e => by
    obtain ⟨v, r, rfl, a1, a2⟩ := a.uncons
    obtain ⟨u, e1, r1⟩ := a2.get (i := i) (by simpa using e)
    exact ⟨u, by simpa using e1, r1⟩
theorem RelWs.take (n : Nat) : ∀ {ws : List W} {vs : List V}, RelWs K mg loc H ws vs → RelWs K mg loc H (ws.take n) (vs.take n)
  | [], _, a => by rw [a.unnil]; simp; exact .nil
  | w :: ws, _, a => by
    obtain ⟨v, r, rfl, a1, a2⟩ := a.uncons
    cases n with
    | zero => simp; exact .nil
    | succ n => simp; exact .cons a1 (a2.take n)
theorem RelWs.drop (n : Nat) : ∀ {ws : List W} {vs : List V}, RelWs K mg loc H ws vs → RelWs K mg loc H (ws.drop n) (vs.drop n)
  | [], _, a => by rw [a.unnil]; simp; exact .nil
  | w :: ws, _, a => by
    obtain ⟨v, r, rfl, a1, a2⟩ := a.uncons
    cases n with
    | zero => simp; exact .cons a1 a2
    | succ n => simp; exact a2.drop n
theorem RelWs.set {w : W} {v : V} (x : RelW K mg loc H w v) : ∀ {ws : List W} {vs : List V} (i : Nat), RelWs K mg loc H ws vs → RelWs K mg loc H (ws.set i w) (vs.set i v)
  | [], _, _, a => by rw [a.unnil]; exact .nil
  | y :: ws, _, i, a => by
    obtain ⟨u, r, rfl, a1, a2⟩ := a.uncons
    cases i with
    | zero => exact .cons x a2
    | succ i => exact .cons a1 (a2.set x i)
theorem RelWs.erase : ∀ {ws : List W} {vs : List V} (i : Nat), RelWs K mg loc H ws vs → RelWs K mg loc H (ws.eraseIdx i) (vs.eraseIdx i)
  | [], _, _, a => by rw [a.unnil]; simp; exact .nil
  | y :: ws, _, i, a => by
    obtain ⟨u, r, rfl, a1, a2⟩ := a.uncons
    cases i with
    | zero => simp; exact a2
    | succ i => simp; exact .cons a1 (a2.erase i)
theorem RelWs.dropLast : ∀ {ws : List W} {vs : List V}, RelWs K mg loc H ws vs → RelWs K mg loc H ws.dropLast vs.dropLast
  | [], _, a => by rw [a.unnil]; exact .nil
  | [y], _, a => by
    obtain ⟨u, r, rfl, a1, a2⟩ := a.uncons
    rw [a2.unnil]; exact .nil
  | y :: z :: ws, _, a => by
    obtain ⟨u, r, rfl, a1, a2⟩ := a.uncons
    obtain ⟨u2, r2, rfl, a3, a4⟩ := a2.uncons
    exact .cons a1 (RelWs.dropLast (ws := z :: ws) (vs := u2 :: r2) (.cons a3 a4))
theorem RelWs.reverse : ∀ {ws : List W} {vs : List V}, RelWs K mg loc H ws vs → RelWs K mg loc H ws.reverse vs.reverse
  | [], _, a => by rw [a.unnil]; exact .nil
  | y :: ws, _, a => by
    obtain ⟨u, r, rfl, a1, a2⟩ := a.uncons
    simp only [List.reverse_cons]
    exact a2.reverse.append (.cons a1 .nil)
theorem RelWs.rep {ws : List W} {vs : List V} (a : RelWs K mg loc H ws vs) : ∀ k : Nat, RelWs K mg loc H (List.replicate k ws).flatten (List.replicate k vs).flatten
  | 0 => by simp; exact .nil
  | k + 1 => by
    simp only [List.replicate_succ, List.flatten_cons]
    exact a.append (a.rep k)
theorem RelWs.atI {ws : List W} {vs : List V} {i : Int} {w : W} (a : RelWs K mg loc H ws vs) (e : atI ws i = some w) : ∃ v, L2.atI vs i = some v ∧ RelW K mg loc H w v := by
  unfold L2.atI at e ⊢
  rw [a.length]
  cases q : ixN ws.length i with
  | none => rw [q] at e; cases e
  | some j =>
    rw [q] at e
    exact a.get e
theorem RelWs.cut {ws : List W} {vs : List V} (a : RelWs K mg loc H ws vs) (lo hi : Option Int) : RelWs K mg loc H (cutW ws lo hi) (cutV vs lo hi) := by
  unfold cutW cutV
  rw [a.length]
  exact (a.drop _).take _
theorem RelWs.ints : ∀ {ns : List Int} {vs : List V}, RelWs K mg loc H (ns.map W.int) vs → vs = ns.map V.int
  | [], _, a => by rw [List.map_nil] at a; rw [a.unnil]; rfl
  | n :: ns, _, a => by
    rw [List.map_cons] at a
    obtain ⟨u, r, rfl, a1, a2⟩ := a.uncons
    unfold RelW at a1
    rw [a1, a2.ints, List.map_cons]
theorem relWs_ints : ∀ (ns : List Int), RelWs K mg loc H (ns.map W.int) (ns.map V.int)
  | [] => .nil
  | n :: ns => .cons (by unfold RelW; rfl) (relWs_ints ns)
theorem intsOf_map : ∀ {ws : List W} {ns : List Int}, intsOf ws = some ns → ws = ns.map W.int
  | [], ns, e => by unfold intsOf at e; cases e; rfl
  | .int i :: r, ns, e => by
    unfold intsOf at e
    cases q : intsOf r with
    | none => rw [q] at e; cases e
    | some ms =>
      rw [q] at e
      cases e
      rw [intsOf_map q]; rfl
  | .non :: r, ns, e => by unfold intsOf at e; cases e
  | .bl _ :: r, ns, e => by unfold intsOf at e; cases e
  | .str _ :: r, ns, e => by unfold intsOf at e; cases e
  | .tup _ :: r, ns, e => by unfold intsOf at e; cases e
  | .ref _ :: r, ns, e => by unfold intsOf at e; cases e
  | .gl _ :: r, ns, e => by unfold intsOf at e; cases e
  | .ty _ :: r, ns, e => by unfold intsOf at e; cases e

/-! ### what is wanted behind a run -/
def PostE {α β : Type} (K : PySem.W.Frag) (mg : Str → Option Value) (RW : List Addr → Hp → α → β → Prop) (loc : List Addr) (H : Hp) (r : R α) (Q : β → Hp → Prop) (Z : XK) : Prop := match r with
  | .ok w h' => ∀ v loc' H', Ext K loc H loc' H' → Rel K mg loc' h' H' → RW loc' H' w v → Q v H'
  | .exc x h' => ∀ cls d loc' H', Ext K loc H loc' H' → Rel K mg loc' h' H' → RelX K mg loc' H' x cls d → Z cls d H'
  | .stuck => False
end
abbrev PostW (K : PySem.W.Frag) (mg : Str → Option Value) := PostE K mg (RelW K mg)
abbrev noX : XK := fun _ _ _ => False
/-- a two-place operation, by trees -/
def OpW (X : Cx) (F : Value → Value → Sem Value) (f : W → W → HS → R W) : Prop :=
  OpR X F fun x y H Q => ∃ loc h wx wy, Rel X.K X.mg loc h H ∧ RelW X.K X.mg loc H wx x ∧ RelW X.K X.mg loc H wy y ∧ ∃ Z, PostW X.K X.mg loc H (f wx wy h) Q Z
def UnW (X : Cx) (F : Value → Sem Value) (f : W → HS → R W) : Prop :=
  UnR X F fun x H Q => ∃ loc h wx, Rel X.K X.mg loc h H ∧ RelW X.K X.mg loc H wx x ∧ ∃ Z, PostW X.K X.mg loc H (f wx h) Q Z
def CallW (X : Cx) (F : Value) (f : List W → HS → R W) : Prop :=
  CallR X F fun xs H Q => ∃ loc h ws, Rel X.K X.mg loc h H ∧ RelWs X.K X.mg loc H ws xs ∧ ∃ Z, PostW X.K X.mg loc H (f ws h) Q Z
end Rh
/-! RhT: tuples made, their objects known. -/
namespace Rh
open PySem PySem.Spec PyProof.Rows L2
section
variable {X : Cx} {pins : List (Addr × Obj)} {σ : L2.St} {H : Hp} {s : Shared}
theorem ext_new {its : List Value} : ExT { cls := .type "tuple", data := .seq its.toArray } := ⟨rfl, rfl, rfl⟩
/-- a tuple is laid -/
theorem tup_laid {xs : List V} {its : List Value} {Q : VK} (I : Inv X pins σ H s) (r : Vals xs its) (z : xs.length ≤ sizeLine)
    (q : ∀ p o, H p = none → ExT o → Q (.ref p) (upd H p (.frz o (.tup xs)))) : EP X pins σ Q (.ref s.heap.objs.size) { s with heap := s.heap.push { cls := .type "tuple", data := .seq its.toArray } } := by
  have hf : H s.heap.objs.size = none := I.hok.fresh (Nat.le_refl _)
  have J := I.laid (a := s.heap.objs.size) (o := .frz { cls := .type "tuple", data := .seq its.toArray } (.tup xs)) (t' := s.toks) (h' := s.heap.push { cls := .type "tuple", data := .seq its.toArray })
    (fun b u e => Heap.get?_push_of_some _ e) (Nat.le_refl _) ⟨Heap.get?_push_size _ rfl, z, its, r, ⟨_, Heap.get?_push_size _ rfl, rfl, _, rfl⟩⟩
  exact ⟨.ref s.heap.objs.size, _, J, rfl, q _ _ hf ext_new⟩
def tTupX (t : TA) : TE := fun σ H Q => t σ H fun xs H1 => xs.length ≤ sizeLine ∧ ∀ p o, H1 p = none → ExT o → Q (.ref p) (upd H1 p (.frz o (.tup xs)))
theorem pe_tupX {es : List Expr} {t : TA} {pos : Pos} {k : Nat} (h : PA X es t) : PE X (.Tuple es k pos) (tTupX t) :=
  ⟨fun pins s σ H Q I hq => wpAny_Tuple_spliced (thn (h.run pos pins s σ H _ I hq) fun us s1 ⟨xs, H1, I1, r, z, q⟩ => ⟨by rw [← r.length]; exact z, tup_laid I1 r z q⟩)⟩
def rCatX (K : PySem.W.Frag) : R2 := fun x y H Q => ∃ a b xs ys, x = .ref a ∧ y = .ref b ∧ SqT K H a xs ∧ SqT K H b ys ∧ xs.length + ys.length ≤ sizeLine ∧
  (xs = [] → Q (.ref b) H) ∧ (xs ≠ [] → ys = [] → Q (.ref a) H) ∧ (xs ≠ [] → ys ≠ [] → ∀ p o, H p = none → ExT o → Q (.ref p) (upd H p (.frz o (.tup (xs ++ ys)))))
theorem op_catX : OpR X (binaryOp .Add) (rCatX X.K) := by
  intro pins s σ H x y v u Q I rx ry hh
  obtain ⟨a, b, xs, ys, rfl, rfl, ha, hb, hz, q0, q1, q2⟩ := hh
  cases rx
  cases ry
  obtain ⟨is, r1, p1, _⟩ := I.tuple ha
  obtain ⟨js, r2, p2, _⟩ := I.tuple hb
  by_cases hx : xs = []
  · subst hx
    cases r1
    exact cat_tup0 p1 p2 ⟨.ref b, H, I, rfl, q0 rfl⟩
  · refine HT.cat_tup p1 p2 (fun z => hx (r1.nil_iff.mp z)) (fun z => ⟨.ref a, H, I, rfl, q1 hx (r2.nil_iff.mp z)⟩) (fun z => ?_) (by rw [← r1.length, ← r2.length]; exact hz)
    exact tup_laid I (r1.append r2) (by rw [List.length_append]; exact hz) (q2 hx fun w => z (r2.nil_iff.mpr w))
def rSlX (K : PySem.W.Frag) : V → Option Int → Option Int → Hp → VK → Prop := fun x lo hi H Q => ∃ a xs, x = .ref a ∧ SqT K H a xs ∧
  (HT.sIx xs.length 0 lo = 0 ∧ HT.sIx xs.length xs.length hi = xs.length → Q (.ref a) H) ∧ (¬ (HT.sIx xs.length 0 lo = 0 ∧ HT.sIx xs.length xs.length hi = xs.length) → ∀ p o, H p = none → ExT o → Q (.ref p) (upd H p (.frz o (.tup (cutV xs lo hi)))))
theorem sl_tupX : SlR X (rSlX X.K) := by
  intro pins s σ H x v vl vu lo hi sl Q I rx hs pl pu hh
  obtain ⟨a, xs, rfl, hx, q1, q2⟩ := hh
  cases rx
  obtain ⟨is, r, ht, hz⟩ := I.tuple hx
  have hlen : is.toArray.size = xs.length := by rw [List.size_toArray]; exact r.length.symm
  refine ⟨"tuple", _, PyProof.Rows.slot_tuple_getitem.lookup, ht.typeIs, ?_⟩
  by_cases hw : HT.sIx xs.length 0 lo = 0 ∧ HT.sIx xs.length xs.length hi = xs.length
  · exact getItem_tuple_whole ht hs pl pu (by rw [hlen]; exact hw) ⟨.ref a, H, I, rfl, q1 hw⟩
  · refine HT.getItem_tuple_cut ht hs pl pu (by rw [hlen]; exact hw) ?_ (by rw [hlen]; exact hz)
    rw [hlen]
    exact tup_laid I ((r.drop (HT.sIx xs.length 0 lo)).take (HT.sIx xs.length xs.length hi - HT.sIx xs.length 0 lo)) (Nat.le_trans (cutV_length xs lo hi) hz) (q2 hw)
theorem call_tupX : CallR X (.type "tuple") (fun xs H Q => ∃ p ys, xs = [.ref p] ∧ ((SqL X.K H p ys ∧ ∀ l o, H l = none → ExT o → Q (.ref l) (upd H l (.frz o (.tup ys)))) ∨ (SqT X.K H p ys ∧ Q (.ref p) H))) := by
  intro pins s σ H xs us Q I r hh
  obtain ⟨p, ys, rfl, hh⟩ := hh
  obtain ⟨u, rfl, rx⟩ := vals1 r
  cases rx
  rcases hh with ⟨hq, q⟩ | ⟨hq, q⟩
  · obtain ⟨is, r', pl, hz⟩ := I.list hq
    have hlen := r'.length
    refine call_tuple_list pl.isList (fun h' kp => ?_) (by simp only [List.size_toArray] <;> omega)
    exact tup_laid (I.kept (t' := s.toks) kp) r' hz q
  · obtain ⟨is, r', pl, hz⟩ := I.tuple hq
    exact call_tuple_same pl ⟨.ref p, H, I, rfl, q⟩
def rRepX (K : PySem.W.Frag) : R2 := fun x y H Q => ∃ l k xs, x = .ref l ∧ y = .int k ∧ SqT K H l xs ∧ xs ≠ [] ∧ 2 ≤ k ∧ k ≤ 1000 ∧ xs.length ≤ 1000 ∧ ∀ p o, H p = none → ExT o → Q (.ref p) (upd H p (.frz o (.tup (List.replicate k.toNat xs).flatten)))
theorem op_repX : OpR X (binaryOp .Mult) (rRepX X.K) := by
  intro pins s σ H x y v u Q I rx ry hh
  obtain ⟨l, k, xs, rfl, rfl, hT, hne, h1, h2, hz, q⟩ := hh
  cases rx
  obtain ⟨t, rfl⟩ := ry
  obtain ⟨is, r, ⟨⟨cls, dd, data, sl⟩, ho, hc, n, hd⟩, hs⟩ := I.tuple hT
  simp only at hc hd
  subst hc hd
  have hle : is.length = xs.length := r.length.symm
  have hi : is.toArray.isEmpty = false := by
    cases is with
    | nil => exact absurd (List.eq_nil_of_length_eq_zero hle.symm) hne
    | cons a b => rfl
  have hsz0 : is.toArray.size = xs.length := by rw [List.size_toArray, hle]
  have hm : ((is.toArray.size : Nat) : Int) * k ≤ 1000000 := by
    rw [hsz0]
    have a1 : ((xs.length : Nat) : Int) * k ≤ 1000 * k := Int.mul_le_mul_of_nonneg_right (by omega) (by omega)
    omega
  have kn : k.toNat * xs.length ≤ 1000 * 1000 := Nat.mul_le_mul (by omega) hz
  have flen : (List.replicate k.toNat is).flatten.length ≤ sizeLine := by
    rw [PyProof.Rows.lm_len_rep_flat, hle, sizeLine_eq]
    omega
  have c0 : (decide (k < -(2 ^ 63)) || decide (k ≥ 2 ^ 63)) = false := by rw [decide_eq_false (by omega), decide_eq_false (by omega)] <;> rfl
  have c1 : (is.toArray.isEmpty || k == 1) = false := by rw [hi, Bool.false_or]; exact beq_eq_false_iff_ne.mpr (by omega)
  have c2 : (decide (k ≤ 0) || is.toArray.isEmpty) = false := by rw [hi, Bool.or_false]; exact decide_eq_false (by omega)
  have c4 : Builtin.Tuple.tupleTooMany (((is.toArray.size : Nat) : Int) * k) = false := by
    unfold Builtin.Tuple.tupleTooMany
    rw [sizeLine_eq]
    exact decide_eq_false (by omega)
  refine wpAny_binaryOp_repeat_ref (T := "tuple") (U := "int") (by decide) ⟨_, ho, rfl⟩ (fun s' => typeIs_int s' k t) noFill_tuple_mul F.fills_int_mul F.slot_int_rmul repeat_tuple F.slot_int_index.lookup
    (call_meets F.slot_int_rmul (typeIs_int s k t) F.entry_int_rmul (F.args_int_rmul_2 _ _) (int_rmul_tuple k t l is.toArray n dd sl)
      ⟨ho, rfl, ⟨_, ho, rfl⟩, call_meets F.slot_tuple_mul ⟨_, ho, rfl⟩ F.entry_tuple_mul (F.args_tuple_mul_2 _ _) (tuple_mulW l is.toArray n dd sl k t c0 c1 c2 (by omega) c4 (by rw [size_rep, List.size_toArray]; exact flen)) ⟨ho, ?_⟩⟩)
  rw [size_rep]
  exact tup_laid I (r.rep k.toNat) (by rw [PyProof.Rows.lm_len_rep_flat, sizeLine_eq]; omega) q
end
end Rh
/-! Rh2: the operations by values. -/
namespace Rh
open PySem PySem.Spec PyProof.Rows L2

theorem lim_eq : LIM = sizeLine := by rw [sizeLine_eq]; rfl
section
variable {K : PySem.W.Frag} {mg : Str → Option Value} {loc : List Addr} {H : Hp} {h : HS} {Q : VK} {Z : XK}
theorem post_guard {α β : Type} {RW : List Addr → Hp → α → β → Prop} {b : Bool} {r : R α} {Q : β → Hp → Prop} (p : PostE K mg RW loc H (guardR b r) Q Z) : b = true ∧ PostE K mg RW loc H r Q Z := by
  cases b with
  | true => exact ⟨rfl, p⟩
  | false => exact (show False from p).elim
theorem post_opt {α β : Type} {RW : List Addr → Hp → α → β → Prop} {o : Option α} {Q : β → Hp → Prop} (p : PostE K mg RW loc H (optR o h) Q Z) : ∃ a, o = some a ∧ PostE K mg RW loc H (.ok a h) Q Z := by
  cases o with
  | some a => exact ⟨a, rfl, p⟩
  | none => exact (show False from p).elim
theorem post_ok {α β : Type} {RW : List Addr → Hp → α → β → Prop} {a : α} {v : β} {Q : β → Hp → Prop} (p : PostE K mg RW loc H (.ok a h) Q Z) (r : Rel K mg loc h H) (q : RW loc H a v) : Q v H := p v loc H Ext.refl r q
theorem post_int {i : Int} (p : PostW K mg loc H (.ok (.int i) h) Q Z) (r : Rel K mg loc h H) : Q (.int i) H := post_ok p r (by unfold RelW; rfl)
theorem post_bl {i : Bool} (p : PostW K mg loc H (.ok (.bl i) h) Q Z) (r : Rel K mg loc h H) : Q (.bl i) H := post_ok p r (by unfold RelW; rfl)
theorem post_str {i : Str} (p : PostW K mg loc H (.ok (.str i) h) Q Z) (r : Rel K mg loc h H) : Q (.str i) H := post_ok p r (by unfold RelW; rfl)
theorem post_non (p : PostW K mg loc H (.ok .non h) Q Z) (r : Rel K mg loc h H) : Q .non H := post_ok p r (by unfold RelW; rfl)
theorem post_newL {ws : List W} {vs : List V} (p : PostW K mg loc H (newL ws h) Q Z) (r : Rel K mg loc h H) (q : RelWs K mg loc H ws vs) {a : Addr} (ha : H a = none) : Q (.ref a) (upd H a (.lst vs)) := by
  refine p (.ref a) (loc ++ [a]) _ (Ext.newO ha) (r.push ha ⟨vs, upd_same, RelWs.ext (Ext.newO ha) _ _ q⟩) ?_
  unfold RelW
  exact ⟨a, rfl, by rw [← r.len]; simp⟩
theorem post_newT {ws : List W} {vs : List V} (p : PostW K mg loc H (.ok (.tup ws) h) Q Z) (r : Rel K mg loc h H) (q : RelWs K mg loc H ws vs) {a : Addr} {o : Obj} (ha : H a = none) (ho : ExT o) : Q (.ref a) (upd H a (.frz o (.tup vs))) := by
  refine p (.ref a) loc _ (Ext.newT ha) (r.newT ha) ?_
  unfold RelW
  exact ⟨a, vs, rfl, .inl ⟨o, upd_same, ho⟩, RelWs.ext (Ext.newT ha) _ _ q⟩
theorem post_tup {ws : List W} {vs : List V} {a : Addr} (p : PostW K mg loc H (.ok (.tup ws) h) Q Z) (r : Rel K mg loc h H) (s : Tu K H a vs) (q : RelWs K mg loc H ws vs) : Q (.ref a) H :=
  post_ok p r (by unfold RelW; exact ⟨a, vs, rfl, s, q⟩)
theorem relW_int {i : Int} : RelW K mg loc H (.int i) (.int i) := by unfold RelW; rfl
theorem relW_bl {i : Bool} : RelW K mg loc H (.bl i) (.bl i) := by unfold RelW; rfl
theorem relW_str {i : Str} : RelW K mg loc H (.str i) (.str i) := by unfold RelW; rfl
theorem relW_non : RelW K mg loc H .non .non := by unfold RelW; rfl
theorem un_int {i : Int} {v : V} (r : RelW K mg loc H (.int i) v) : v = .int i := by unfold RelW at r; exact r
theorem un_bl {i : Bool} {v : V} (r : RelW K mg loc H (.bl i) v) : v = .bl i := by unfold RelW at r; exact r
theorem un_str {i : Str} {v : V} (r : RelW K mg loc H (.str i) v) : v = .str i := by unfold RelW at r; exact r
theorem un_non {v : V} (r : RelW K mg loc H .non v) : v = .non := by unfold RelW at r; exact r
theorem un_ty {n : String} {v : V} (r : RelW K mg loc H (.ty n) v) : v = .ty n := by unfold RelW at r; exact r
theorem un_tup {ws : List W} {v : V} (r : RelW K mg loc H (.tup ws) v) : ∃ a vs, v = .ref a ∧ Tu K H a vs ∧ RelWs K mg loc H ws vs := by unfold RelW at r; exact r
theorem un_ref {n : Nat} {v : V} (r : RelW K mg loc H (.ref n) v) : ∃ a, v = .ref a ∧ loc[n]? = some a := by unfold RelW at r; exact r
theorem un_gl {x : Str} {v : V} (r : RelW K mg loc H (.gl x) v) : ∃ a, v = .ref a ∧ mg x = some (.ref a) := by unfold RelW at r; exact r
theorem obj_lst (r : Rel K mg loc h H) {n : Nat} {a : Addr} {ws : List W} (e : loc[n]? = some a) (g : h.get n = .lst ws) : ∃ vs, H a = some (.lst vs) ∧ RelWs K mg loc H ws vs := by
  have := r.obj n a e
  rw [g] at this
  exact this
theorem obj_frz (r : Rel K mg loc h H) {n : Nat} {a : Addr} {ws : List W} (e : loc[n]? = some a) (g : h.get n = .frz ws) : ∃ o vs, H a = some (.frz o (.lst vs)) ∧ RelWs K mg loc H ws vs := by
  have := r.obj n a e
  rw [g] at this
  exact this
theorem obj_sql (r : Rel K mg loc h H) {n : Nat} {a : Addr} {ws : List W} (e : loc[n]? = some a) (g : h.get n = .lst ws ∨ h.get n = .frz ws) : ∃ vs, SqL K H a vs ∧ RelWs K mg loc H ws vs := by
  rcases g with g | g
  · obtain ⟨vs, q, r⟩ := obj_lst r e g
    exact ⟨vs, .inl (.inl q), r⟩
  · obtain ⟨o, vs, q, r⟩ := obj_frz r e g
    exact ⟨vs, .inl (.inr ⟨o, q⟩), r⟩
theorem post_set {n : Nat} {a : Addr} {ws : List W} {vs vs' : List V} {w : W} {v : V} (r : Rel K mg loc h H) (e : loc[n]? = some a) (hl : H a = some (.lst vs)) (q : RelWs K mg loc H ws vs')
    (p : PostW K mg loc H (.ok w (h.set n (.lst ws))) Q Z) (x : RelW K mg loc H w v) : Q v (upd H a (.lst vs')) := by
  have mu : Mut (H a) := by rw [hl]; trivial
  have ex := Ext.set (K := K) (o := .lst vs') (List.mem_of_getElem? e) mu
  exact p v loc _ ex (r.set e mu ⟨vs', upd_same, RelWs.ext ex _ _ q⟩) (RelW.ext ex _ _ x)
end

section
variable {X : Cx}
theorem ow_add : OpW X (binaryOp .Add) addW := by
  intro pins s σ H x y v u Q I rx ry hh
  obtain ⟨loc, h, wx, wy, rel, r1, r2, Z, p⟩ := hh
  cases wx <;> cases wy <;> first | exact (show False from p).elim | skip
  case int.int i j =>
    rw [un_int r1] at rx; rw [un_int r2] at ry
    exact op_add pins s σ H _ _ v u Q I rx ry ⟨i, j, rfl, rfl, post_int p rel⟩
  case str.str a b =>
    rw [un_str r1] at rx; rw [un_str r2] at ry
    obtain ⟨g, p⟩ := post_guard p
    exact op_add_str pins s σ H _ _ v u Q I rx ry ⟨a, b, rfl, rfl, lim_eq ▸ of_decide_eq_true g, post_str p rel⟩
  case tup.tup xs ys =>
    obtain ⟨a, vs, rfl, s1, q1⟩ := un_tup r1
    obtain ⟨b, us, rfl, s2, q2⟩ := un_tup r2
    obtain ⟨g, p⟩ := post_guard p
    have g' := of_decide_eq_true g
    rw [lim_eq, ← q1.length, ← q2.length] at g'
    refine op_catX pins s σ H _ _ v u Q I rx ry ⟨a, b, vs, us, rfl, rfl, s1.sq, s2.sq, g', fun e => ?_, fun _ e => ?_, fun _ _ c o hc ho => ?_⟩
    · subst e
      have e : xs = [] := List.length_eq_zero_iff.mp (by rw [← q1.length]; rfl)
      subst e
      exact post_tup p rel s2 (by simpa using q2)
    · subst e
      have e : ys = [] := List.length_eq_zero_iff.mp (by rw [← q2.length]; rfl)
      subst e
      exact post_tup p rel s1 (by simpa using q1)
    · exact post_newT p rel (q1.append q2) hc ho
  case ref.ref a b =>
    obtain ⟨a', rfl, e1⟩ := un_ref r1
    obtain ⟨b', rfl, e2⟩ := un_ref r2
    have p : PostW X.K X.mg loc H (addO (h.get a) (h.get b) h) Q Z := p
    generalize g1 : h.get a = o1 at p
    generalize g2 : h.get b = o2 at p
    cases o1 <;> cases o2 <;> first | exact (show False from p).elim | skip
    rename_i xs ys
    obtain ⟨vs, h1, q1⟩ := obj_lst rel e1 g1
    obtain ⟨us, h2, q2⟩ := obj_lst rel e2 g2
    obtain ⟨g, p⟩ := post_guard p
    have g' := of_decide_eq_true g
    rw [lim_eq, ← q1.length, ← q2.length] at g'
    exact op_cat pins s σ H _ _ v u Q I rx ry ⟨a', b', vs, us, rfl, rfl, h1, h2, g', fun c hc => post_newL p rel (q1.append q2) hc⟩
theorem ow_sub : OpW X (binaryOp .Sub) subW := by
  intro pins s σ H x y v u Q I rx ry hh
  obtain ⟨loc, h, wx, wy, rel, r1, r2, Z, p⟩ := hh
  cases wx <;> cases wy <;> first | exact (show False from p).elim | skip
  case int.int i j =>
    rw [un_int r1] at rx; rw [un_int r2] at ry
    exact op_sub pins s σ H _ _ v u Q I rx ry ⟨i, j, rfl, rfl, post_int p rel⟩
theorem ow_mul : OpW X (binaryOp .Mult) mulW := by
  intro pins s σ H x y v u Q I rx ry hh
  obtain ⟨loc, h, wx, wy, rel, r1, r2, Z, p⟩ := hh
  cases wx <;> cases wy <;> first | exact (show False from p).elim | skip
  case int.int i j =>
    rw [un_int r1] at rx; rw [un_int r2] at ry
    obtain ⟨g, p⟩ := post_guard p
    refine op_mul pins s σ H _ _ v u Q I rx ry ⟨i, j, rfl, rfl, ?_, post_int p rel⟩
    rw [Bool.or_eq_true] at g
    rcases g with g | g
    · exact .inl (by have := iLt_iff.mp g; omega)
    · exact .inr (by have := iLt_iff.mp g; omega)
  case tup.int xs k =>
    obtain ⟨a, vs, rfl, s1, q1⟩ := un_tup r1
    rw [un_int r2] at ry
    obtain ⟨g, p⟩ := post_guard p
    rw [Bool.and_eq_true] at g
    obtain ⟨g1, g2⟩ := g
    obtain ⟨g2, g3, g4⟩ := of_decide_eq_true g2
    refine op_repX pins s σ H _ _ v u Q I rx ry ⟨a, k, vs, rfl, rfl, s1.sq, fun e => ?_, g2, g3, by rw [q1.length]; exact g4, fun c o hc ho => post_newT p rel (q1.rep _) hc ho⟩
    subst e
    have e : xs = [] := List.length_eq_zero_iff.mp (by rw [← q1.length]; rfl)
    subst e
    cases g1
  case ref.int a k =>
    obtain ⟨a', rfl, e1⟩ := un_ref r1
    rw [un_int r2] at ry
    have p : PostW X.K X.mg loc H (repO (h.get a) k h) Q Z := p
    generalize g1 : h.get a = o1 at p
    cases o1 <;> first | exact (show False from p).elim | skip
    rename_i xs
    obtain ⟨vs, h1, q1⟩ := obj_lst rel e1 g1
    obtain ⟨g, p⟩ := post_guard p
    rw [Bool.and_eq_true] at g
    have g1 := iLt_iff.mp g.1
    have g3 := of_decide_eq_true g.2
    rw [lim_eq, ← q1.length] at g3
    exact op_rep pins s σ H _ _ v u Q I rx ry ⟨a', k, vs, rfl, rfl, h1, by omega, by omega, g3, fun c hc => post_newL p rel (q1.rep _) hc⟩
theorem ow_mod : OpW X (binaryOp .Mod) modW := by
  intro pins s σ H x y v u Q I rx ry hh
  obtain ⟨loc, h, wx, wy, rel, r1, r2, Z, p⟩ := hh
  cases wx <;> cases wy <;> first | exact (show False from p).elim | skip
  case int.int i j =>
    rw [un_int r1] at rx; rw [un_int r2] at ry
    obtain ⟨g, p⟩ := post_guard p
    exact op_mod pins s σ H _ _ v u Q I rx ry ⟨i, j, rfl, rfl, of_decide_eq_true g, post_int p rel⟩
theorem ow_fdiv : OpW X (binaryOp .FloorDiv) fdivW := by
  intro pins s σ H x y v u Q I rx ry hh
  obtain ⟨loc, h, wx, wy, rel, r1, r2, Z, p⟩ := hh
  cases wx <;> cases wy <;> first | exact (show False from p).elim | skip
  case int.int i j =>
    rw [un_int r1] at rx; rw [un_int r2] at ry
    obtain ⟨g, p⟩ := post_guard p
    exact op_fdiv pins s σ H _ _ v u Q I rx ry ⟨i, j, rfl, rfl, (show 0 < j ∧ j < 1073741824 from by rw [Bool.and_eq_true] at g; have g1 := of_decide_eq_true g.1; have g2 := iLt_iff.mp g.2; omega), post_int p rel⟩
theorem ow_neg : UnW X (unaryOp .USub) negW := by
  intro pins s σ H x v Q I rx hh
  obtain ⟨loc, h, wx, rel, r1, Z, p⟩ := hh
  cases wx <;> first | exact (show False from p).elim | skip
  case int i =>
    rw [un_int r1] at rx
    exact un_neg pins s σ H _ v Q I rx ⟨i, rfl, post_int p rel⟩
theorem op_powB : OpR X (binaryOp .Pow) (rI (fun i j => 0 ≤ j ∧ ((j ≤ 1000000 ∧ i.natAbs < 2 ^ 64) ∨ (j ≤ 8 ∧ i.natAbs < 2 ^ 256))) fun i j => .int (i ^ j.toNat)) := opI fun i j _ _ _ _ _ hc q => by
  obtain ⟨h0, h1 | ⟨h1, h2⟩⟩ := hc
  · exact pow_int_small h0 h1.1 h1.2 q
  · refine pow_int h0 ?_ q
    have hb : Builtin.Int.intBits i ≤ 256 := intBits_le h2
    have h3 : (Builtin.Int.intBits i : Int) * j ≤ 256 * j := Int.mul_le_mul_of_nonneg_right (by omega) h0
    omega
theorem ow_pow : OpW X (binaryOp .Pow) powW := by
  intro pins s σ H x y v u Q I rx ry hh
  obtain ⟨loc, h, wx, wy, rel, r1, r2, Z, p⟩ := hh
  cases wx <;> cases wy <;> first | exact (show False from p).elim | skip
  case int.int i j =>
    rw [un_int r1] at rx; rw [un_int r2] at ry
    obtain ⟨g, p⟩ := post_guard p
    rw [Bool.and_eq_true, Bool.or_eq_true, Bool.and_eq_true, Bool.and_eq_true] at g
    obtain ⟨g0, g1⟩ := g
    have g0 := of_decide_eq_true g0
    refine op_powB pins s σ H _ _ v u Q I rx ry ⟨i, j, rfl, rfl, ⟨g0, ?_⟩, post_int p rel⟩
    rcases g1 with ⟨a, b⟩ | ⟨a, b⟩
    · exact .inl ⟨by have := iLt_iff.mp a; omega, iLt_iff.mp b⟩
    · exact .inr ⟨by have := iLt_iff.mp a; omega, iLt_iff.mp b⟩
theorem ow_shr : OpW X (binaryOp .RShift) shrW := by
  intro pins s σ H x y v u Q I rx ry hh
  obtain ⟨loc, h, wx, wy, rel, r1, r2, Z, p⟩ := hh
  cases wx <;> cases wy <;> first | exact (show False from p).elim | skip
  case int.int i j =>
    rw [un_int r1] at rx; rw [un_int r2] at ry
    obtain ⟨g, p⟩ := post_guard p
    exact op_shr pins s σ H _ _ v u Q I rx ry ⟨i, j, rfl, rfl, of_decide_eq_true g, post_int p rel⟩
theorem ow_none (op : Operator) : OpW X (binaryOp op) (fun _ _ _ => .stuck) := by
  intro pins s σ H x y v u Q I rx ry hh
  obtain ⟨loc, h, wx, wy, rel, r1, r2, Z, p⟩ := hh
  exact (show False from p).elim
theorem ow_bin (op : Operator) : OpW X (binaryOp op) (binW op) := by
  cases op <;> first | exact ow_add | exact ow_sub | exact ow_mul | exact ow_mod | exact ow_fdiv | exact ow_pow | exact ow_shr | exact ow_none _
end

/-! ### equality -/
mutual
def toD : W → PyData
  | .non => .none
  | .bl b => .bool b
  | .int i => .int i
  | .str x => .str x
  | .tup xs => .tuple (toDs xs)
  | _ => .none
def toDs : List W → List PyData
  | [] => []
  | x :: xs => toD x :: toDs xs
end
mutual
theorem okP_lay : ∀ (n : Nat) (w : W), okP n w = true → (toD w).canLay0 = true ∧ (toD w).depth ≤ n
  | n, .non, _ => by simp [toD, PyData.canLay0, PyData.depth]
  | n, .bl _, _ => by simp [toD, PyData.canLay0, PyData.depth]
  | n, .int _, _ => by simp [toD, PyData.canLay0, PyData.depth]
  | n, .str x, h => by
    simp only [okP] at h
    simp [toD, PyData.canLay0, PyData.depth, h]
  | 0, .tup xs, h => by simp [okP] at h
  | n + 1, .tup xs, h => by
    simp only [okP] at h
    obtain ⟨a, b⟩ := okPs_lay n xs h
    simp only [toD, PyData.canLay0, PyData.depth]
    exact ⟨a, by omega⟩
  | _, .ref _, h => by simp [okP] at h
  | _, .gl _, h => by simp [okP] at h
  | _, .ty _, h => by simp [okP] at h
theorem okPs_lay : ∀ (n : Nat) (ws : List W), okPs n ws = true → PyData.canLayAll0 (toDs ws) = true ∧ PyData.depthAll (toDs ws) ≤ n
  | n, [], _ => by simp [toDs, PyData.canLayAll0, PyData.depthAll]
  | n, w :: ws, h => by
    simp only [okPs, Bool.and_eq_true] at h
    obtain ⟨a, b⟩ := okP_lay n w h.1
    obtain ⟨c, d⟩ := okPs_lay n ws h.2
    simp only [toDs, PyData.canLayAll0, PyData.depthAll, Bool.and_eq_true]
    exact ⟨⟨a, c⟩, by omega⟩
end
theorem okP_shaped {w : W} (h : okP 16 w = true) : SeqAt.shaped (toD w) = true := by
  obtain ⟨a, b⟩ := okP_lay 16 w h
  exact Bool.and_eq_true_iff.mpr ⟨a, decide_eq_true (by omega)⟩
theorem okPs_shaped {ws : List W} (h : okPs 16 ws = true) : SeqAt.shaped (.list (toDs ws)) = true := by
  obtain ⟨a, b⟩ := okPs_lay 16 ws h
  exact Bool.and_eq_true_iff.mpr ⟨by simp only [PyData.canLay0]; exact a, decide_eq_true (by simp only [PyData.depth]; omega)⟩
section
variable {K : PySem.W.Frag} {mg : Str → Option Value} {loc : List Addr} {H : Hp} {h : HS}
mutual
theorem okP_dp : ∀ (n : Nat) (w : W) (v : V), okP n w = true → RelW K mg loc H w v → Dp K H v (toD w)
  | n, .non, v, _, r => by rw [un_non r, toD]; exact .non
  | n, .bl _, v, _, r => by rw [un_bl r, toD]; exact .bl _
  | n, .int _, v, _, r => by rw [un_int r, toD]; exact .int _
  | n, .str x, v, h, r => by rw [un_str r, toD]; exact .str _
  | 0, .tup xs, v, h, r => by simp [okP] at h
  | n + 1, .tup xs, v, h, r => by
    simp only [okP] at h
    obtain ⟨a, vs, rfl, s, q⟩ := un_tup r
    rw [toD]
    exact .tup s.sq (okPs_dp n xs vs h q)
  | _, .ref _, _, h, _ => by simp [okP] at h
  | _, .gl _, _, h, _ => by simp [okP] at h
  | _, .ty _, _, h, _ => by simp [okP] at h
theorem okPs_dp : ∀ (n : Nat) (ws : List W) (vs : List V), okPs n ws = true → RelWs K mg loc H ws vs → DpAll K H vs (toDs ws)
  | n, [], vs, _, r => by rw [r.unnil, toDs]; exact .nil
  | n, w :: ws, vs, h, r => by
    simp only [okPs, Bool.and_eq_true] at h
    obtain ⟨v, r', rfl, a, b⟩ := r.uncons
    rw [toDs]
    exact .cons (okP_dp n w v h.1 a) (okPs_dp n ws r' h.2 b)
end
end
mutual
theorem eqv_P : ∀ (n m : Nat) (x y : W), okP n x = true → okP m y = true → PyData.eqv (toD x) (toD y) = eqP x y
  | n, m, .non, y, h1, h2 => by cases y <;> simp_all [okP, toD, eqP, PyData.eqv]
  | n, m, .bl _, y, h1, h2 => by cases y <;> simp_all [okP, toD, eqP, PyData.eqv]
  | n, m, .int _, y, h1, h2 => by cases y <;> simp_all [okP, toD, eqP, PyData.eqv]
  | n, m, .str _, y, h1, h2 => by cases y <;> simp_all [okP, toD, eqP, PyData.eqv]
  | 0, m, .tup xs, y, h1, h2 => by simp [okP] at h1
  | n + 1, 0, .tup xs, y, h1, h2 => by cases y <;> simp_all [okP, toD, eqP, PyData.eqv]
  | n + 1, m + 1, .tup xs, y, h1, h2 => by
    cases y <;> first
      | (rename_i ys
         simp only [okP] at h1 h2
         simp only [toD, eqP, PyData.eqv]
         exact eqv_Ps n m xs ys h1 h2)
      | simp_all [okP, toD, eqP, PyData.eqv]
  | _, _, .ref _, _, h1, _ => by simp [okP] at h1
  | _, _, .gl _, _, h1, _ => by simp [okP] at h1
  | _, _, .ty _, _, h1, _ => by simp [okP] at h1
theorem eqv_Ps : ∀ (n m : Nat) (xs ys : List W), okPs n xs = true → okPs m ys = true → PyData.eqvAll (toDs xs) (toDs ys) = eqPs xs ys
  | n, m, [], ys, h1, h2 => by cases ys <;> simp [toDs, eqPs, PyData.eqvAll]
  | n, m, x :: xs, [], h1, h2 => by simp [toDs, eqPs, PyData.eqvAll]
  | n, m, x :: xs, y :: ys, h1, h2 => by
    simp only [okPs, Bool.and_eq_true] at h1 h2
    simp only [toDs, eqPs, PyData.eqvAll]
    rw [eqv_P n m x y h1.1 h2.1, eqv_Ps n m xs ys h1.2 h2.2]
end
def flD : Fl → PyData
  | .pl w => toD w
  | .li ws => .list (toDs ws)
section
variable {K : PySem.W.Frag} {mg : Str → Option Value} {loc : List Addr} {H : Hp} {h : HS}
theorem flO_some {o : O} {ws : List W} (e : flO o = some ws) : o = .lst ws ∨ o = .frz ws := by
  cases o <;> first | (cases e; exact .inl rfl) | (cases e; exact .inr rfl) | cases e
theorem flW_dp (rel : Rel K mg loc h H) {x : W} {v : V} {f : Fl} (r : RelW K mg loc H x v) (e : flW x h = some f) : Dp K H v (flD f) ∧ SeqAt.shaped (flD f) = true := by
  have pl : ∀ {w : W}, w = x → (if okP 16 w then some (Fl.pl w) else none) = some f → Dp K H v (flD f) ∧ SeqAt.shaped (flD f) = true := by
    intro w hw e'
    subst hw
    by_cases q : okP 16 w = true
    · rw [if_pos q] at e'
      cases e'
      exact ⟨okP_dp 16 w v q r, okP_shaped q⟩
    · rw [if_neg q] at e'; cases e'
  cases x with
  | ref a =>
    obtain ⟨a', rfl, e1⟩ := un_ref r
    have e : (flO (h.get a)).bind (fun ws => if okPs 16 ws then some (Fl.li ws) else none) = some f := e
    cases g : flO (h.get a) with
    | none => rw [g] at e; cases e
    | some ws =>
      rw [g] at e
      have e : (if okPs 16 ws then some (Fl.li ws) else none) = some f := e
      by_cases q : okPs 16 ws = true
      · rw [if_pos q] at e
        cases e
        obtain ⟨vs, s, rs⟩ := obj_sql rel e1 (flO_some g)
        exact ⟨.lst s (okPs_dp 16 ws vs q rs), okPs_shaped q⟩
      · rw [if_neg q] at e; cases e
  | _ => first | exact pl (w := .non) rfl e | exact pl (w := .bl _) rfl e | exact pl (w := .int _) rfl e | exact pl (w := .str _) rfl e | exact pl (w := .tup _) rfl e | exact pl (w := .gl _) rfl e | exact pl (w := .ty _) rfl e
def okF : Fl → Prop
  | .pl w => okP 16 w = true
  | .li ws => okPs 16 ws = true
theorem flW_ok {x : W} {f : Fl} (e : flW x h = some f) : okF f := by
  have pl : ∀ {w : W}, (if okP 16 w then some (Fl.pl w) else none) = some f → okF f := by
    intro w e
    by_cases q : okP 16 w = true
    · rw [if_pos q] at e; cases e; exact q
    · rw [if_neg q] at e; cases e
  cases x with
  | ref a =>
    have e : (flO (h.get a)).bind (fun ws => if okPs 16 ws then some (Fl.li ws) else none) = some f := e
    cases g : flO (h.get a) with
    | none => rw [g] at e; cases e
    | some ws =>
      rw [g] at e
      have e : (if okPs 16 ws then some (Fl.li ws) else none) = some f := e
      by_cases q : okPs 16 ws = true
      · rw [if_pos q] at e; cases e; exact q
      · rw [if_neg q] at e; cases e
  | gl n => exact pl (w := .gl n) e
  | ty n => exact pl (w := .ty n) e
  | _ => first | exact pl (w := .non) e | exact pl (w := .bl _) e | exact pl (w := .int _) e | exact pl (w := .str _) e | exact pl (w := .tup _) e | exact pl (w := .gl _) e | exact pl (w := .ty _) e
theorem toD_notlist (n : Nat) (w : W) (h : okP n w = true) (ds : List PyData) : PyData.eqv (toD w) (.list ds) = false ∧ PyData.eqv (.list ds) (toD w) = false := by
  cases w <;> simp_all [okP, toD, PyData.eqv]
theorem eqv_F {f g : Fl} (h1 : okF f) (h2 : okF g) : PyData.eqv (flD f) (flD g) = eqF f g := by
  cases f with
  | pl a =>
    cases g with
    | pl b => exact eqv_P 16 16 a b h1 h2
    | li b => exact (toD_notlist 16 a h1 _).1
  | li a =>
    cases g with
    | pl b => exact (toD_notlist 16 b h2 _).2
    | li b =>
      simp only [flD, eqF, PyData.eqv]
      exact eqv_Ps 16 16 a b h1 h2
theorem dpAll_dp {f : W → Option PyData} (hf : ∀ w v d, f w = some d → RelW K mg loc H w v → Dp K H v d) : ∀ (ws : List W) (vs : List V) (ds : List PyData), dpAll f ws = some ds → RelWs K mg loc H ws vs → DpAll K H vs ds
  | [], vs, ds, e, r => by
    cases e
    rw [r.unnil]; exact .nil
  | w :: ws, vs, ds, e, r => by
    obtain ⟨v, r', rfl, a, b⟩ := r.uncons
    have e : ((f w).bind fun d => (dpAll f ws).bind fun ds => some (d :: ds)) = some ds := e
    cases q : f w with
    | none => rw [q] at e; cases e
    | some d =>
      rw [q] at e
      have e : ((dpAll f ws).bind fun ds => some (d :: ds)) = some ds := e
      cases q2 : dpAll f ws with
      | none => rw [q2] at e; cases e
      | some ds' =>
        rw [q2] at e
        cases e
        exact .cons (hf w v d q a) (dpAll_dp hf ws r' ds' q2 b)
theorem dpW_dp (rel : Rel K mg loc h H) : ∀ (n : Nat) (w : W) (v : V) (d : PyData), dpW h n w = some d → RelW K mg loc H w v → Dp K H v d
  | 0, w, v, d, e, r => by cases e
  | n + 1, w, v, d, e, r => by
    cases w with
    | non => cases e; rw [un_non r]; exact .non
    | bl b => cases e; rw [un_bl r]; exact .bl _
    | int i => cases e; rw [un_int r]; exact .int _
    | str x => cases e; rw [un_str r]; exact .str _
    | tup xs =>
      obtain ⟨a, vs, rfl, s, q⟩ := un_tup r
      have e : (dpAll (dpW h n) xs).map PyData.tuple = some d := e
      cases q2 : dpAll (dpW h n) xs with
      | none => rw [q2] at e; cases e
      | some ds =>
        rw [q2] at e
        cases e
        exact .tup s.sq (dpAll_dp (fun w v d => dpW_dp rel n w v d) xs vs ds q2 q)
    | ref a =>
      obtain ⟨a', rfl, e1⟩ := un_ref r
      have e : (flO (h.get a)).bind (fun ws => (dpAll (dpW h n) ws).map PyData.list) = some d := e
      cases g : flO (h.get a) with
      | none => rw [g] at e; cases e
      | some ws =>
        rw [g] at e
        have e : (dpAll (dpW h n) ws).map PyData.list = some d := e
        cases q2 : dpAll (dpW h n) ws with
        | none => rw [q2] at e; cases e
        | some ds =>
          rw [q2] at e
          cases e
          obtain ⟨vs, s, rs⟩ := obj_sql rel e1 (flO_some g)
          exact .lst s (dpAll_dp (fun w v d => dpW_dp rel n w v d) ws vs ds q2 rs)
    | gl _ => cases e
    | ty _ => cases e
theorem eqD_dp (rel : Rel K mg loc h H) {x y : W} {v u : V} {b : Bool} (r1 : RelW K mg loc H x v) (r2 : RelW K mg loc H y u) (e : eqD x y h = some b) :
    ∃ d1 d2, Dp K H v d1 ∧ Dp K H u d2 ∧ SeqAt.shaped d1 = true ∧ SeqAt.shaped d2 = true ∧ PyData.eqv d1 d2 = b := by
  unfold eqD at e
  cases q1 : dpW h 17 x with
  | none => rw [q1] at e; cases e
  | some d1 =>
    rw [q1] at e
    cases q2 : dpW h 17 y with
    | none => rw [q2] at e; cases e
    | some d2 =>
      rw [q2] at e
      have e : (if (SeqAt.shaped d1 && SeqAt.shaped d2) = true then some (PyData.eqv d1 d2) else none) = some b := e
      by_cases s : (SeqAt.shaped d1 && SeqAt.shaped d2) = true
      · rw [if_pos s] at e
        cases e
        rw [Bool.and_eq_true] at s
        exact ⟨d1, d2, dpW_dp rel 17 x v d1 q1 r1, dpW_dp rel 17 y u d2 q2 r2, s.1, s.2, rfl⟩
      · rw [if_neg s] at e; cases e
theorem eqW_dp (rel : Rel K mg loc h H) {x y : W} {v u : V} {b : Bool} (r1 : RelW K mg loc H x v) (r2 : RelW K mg loc H y u) (e : eqW x y h = some b) :
    ∃ d1 d2, Dp K H v d1 ∧ Dp K H u d2 ∧ SeqAt.shaped d1 = true ∧ SeqAt.shaped d2 = true ∧ PyData.eqv d1 d2 = b := by
  unfold eqW at e
  cases q1 : flW x h with
  | none => rw [q1] at e; exact eqD_dp rel r1 r2 e
  | some f =>
    rw [q1] at e
    cases q2 : flW y h with
    | none => rw [q2] at e; exact eqD_dp rel r1 r2 e
    | some g =>
      rw [q2] at e
      cases e
      obtain ⟨d1, s1⟩ := flW_dp rel r1 q1
      obtain ⟨d2, s2⟩ := flW_dp rel r2 q2
      exact ⟨_, _, d1, d2, s1, s2, eqv_F (flW_ok q1) (flW_ok q2)⟩
end
end Rh
/-! Rh3: comparisons, subscripts, builtins and methods by values. -/
namespace Rh
open PySem PySem.Spec PyProof.Rows L2

/-- the module's written dicts with text keys -/
def DctsOk (K : PySem.W.Frag) (w : World) (mg : Str → Option Value) (D : Dcts) : Prop :=
  ∀ x kvs, D.lookup x = some kvs → ∃ d es n, mg x = some (.ref d) ∧ KDict K w d es n ∧
    (∀ z : Str, ∃ r, PySem.W.nsIn K d z = some r ∧ r.isSome = (kvs.map (·.1)).contains (.inr z) ∧ ∀ wv, kvs.lookup (.inr z) = some wv → ∃ u v, r = some u ∧ RelV v u ∧ ∀ loc H, RelW K mg loc H wv v)
section
variable {X : Cx} {D : Dcts}
/-- a comparison of two values, by trees -/
def CmpOk (X : Cx) (D : Dcts) (op : CmpOp) : Prop :=
  OpR X (compareOp op) fun x y H Q => ∃ loc h wx wy b, Rel X.K X.mg loc h H ∧ RelW X.K X.mg loc H wx x ∧ RelW X.K X.mg loc H wy y ∧ cmpW D op wx wy h = some b ∧ Q (.bl b) H
theorem oc_eq (hu : X.A.units + 64 < cLine) : CmpOk X D .Eq := by
  intro pins s σ H x y v u Q I rx ry hh
  obtain ⟨loc, h, wx, wy, b, rel, r1, r2, e, q⟩ := hh
  obtain ⟨d1, d2, p1, p2, s1, s2, e3⟩ := eqW_dp rel r1 r2 (show eqW wx wy h = some b from e)
  exact op_eqD hu pins s σ H x y v u Q I rx ry ⟨_, _, p1, p2, s1, s2, by rw [e3]; exact q⟩
theorem map_not {o : Option Bool} {b : Bool} (e : o.map (!·) = some b) : o = some (!b) := by
  cases o with
  | none => cases e
  | some c => cases e; simp
theorem oc_ne (hu : X.A.units + 64 < cLine) : CmpOk X D .NotEq := by
  intro pins s σ H x y v u Q I rx ry hh
  obtain ⟨loc, h, wx, wy, b, rel, r1, r2, e, q⟩ := hh
  obtain ⟨d1, d2, p1, p2, s1, s2, e3⟩ := eqW_dp rel r1 r2 (map_not (show (eqW wx wy h).map (!·) = some b from e))
  exact op_neD hu pins s σ H x y v u Q I rx ry ⟨_, _, p1, p2, s1, s2, by rw [e3]; simpa using q⟩
theorem lt_parts {f : Int → Int → Bool} {x y : W} {b : Bool} (e : ltW f x y = some b) : ∃ i j, x = .int i ∧ y = .int j ∧ b = f i j := by
  cases x <;> cases y <;> first | (cases e; exact ⟨_, _, rfl, rfl, rfl⟩) | cases e
theorem oc_int {op : CmpOp} {f : Int → Int → Bool} (ho : OpR X (compareOp op) (rI0 fun i j => .bl (f i j))) (hc : ∀ x y h, cmpW D op x y h = ltW f x y) : CmpOk X D op := by
  intro pins s σ H x y v u Q I rx ry hh
  obtain ⟨loc, h, wx, wy, b, rel, r1, r2, e, q⟩ := hh
  rw [hc] at e
  obtain ⟨i, j, rfl, rfl, rfl⟩ := lt_parts e
  rw [un_int r1] at rx
  rw [un_int r2] at ry
  exact ho pins s σ H _ _ v u Q I rx ry ⟨i, j, rfl, rfl, q⟩
theorem oc_lt : CmpOk X D .Lt := by
  intro pins s σ H x y v u Q I rx ry hh
  obtain ⟨loc, h, wx, wy, b, rel, r1, r2, e, q⟩ := hh
  have e : ltSW wx wy = some b := e
  cases wx <;> cases wy <;> first | (cases e; done) | skip
  case int.int i j e =>
    cases e
    rw [un_int r1] at rx
    rw [un_int r2] at ry
    exact op_lt pins s σ H _ _ v u Q I rx ry ⟨i, j, rfl, rfl, q⟩
  case str.str i j e =>
    cases e
    rw [un_str r1] at rx
    rw [un_str r2] at ry
    exact op_lt_str pins s σ H _ _ v u Q I rx ry ⟨i, j, rfl, rfl, q⟩
theorem is_parts {x y : W} {b : Bool} (e : isW x y = some b) : y = .non ∧ b = isNon x := by
  cases y <;> first | (cases e; exact ⟨rfl, rfl⟩) | cases e
theorem isNon_rel {K : PySem.W.Frag} {mg : Str → Option Value} {loc : List Addr} {H : Hp} {x : W} {v : V} (r : RelW K mg loc H x v) : decide (v = .non) = isNon x := by
  cases x with
  | non => rw [un_non r]; rfl
  | bl _ => rw [un_bl r]; rfl
  | int _ => rw [un_int r]; rfl
  | str _ => rw [un_str r]; rfl
  | ty _ => rw [un_ty r]; rfl
  | tup _ => obtain ⟨a, _, rfl, _⟩ := un_tup r; rfl
  | ref _ => obtain ⟨a, rfl, _⟩ := un_ref r; rfl
  | gl _ => obtain ⟨a, rfl, _⟩ := un_gl r; rfl
theorem oc_is : CmpOk X D .Is := by
  intro pins s σ H x y v u Q I rx ry hh
  obtain ⟨loc, h, wx, wy, b, rel, r1, r2, e, q⟩ := hh
  obtain ⟨rfl, rfl⟩ := is_parts (show isW wx wy = some b from e)
  rw [un_non r2] at ry
  exact op_isN pins s σ H _ _ v u Q I rx ry ⟨rfl, by rw [isNon_rel r1]; exact q⟩
theorem oc_isnot : CmpOk X D .IsNot := by
  intro pins s σ H x y v u Q I rx ry hh
  obtain ⟨loc, h, wx, wy, b, rel, r1, r2, e, q⟩ := hh
  obtain ⟨rfl, e2⟩ := is_parts (map_not (show (isW wx wy).map (!·) = some b from e))
  rw [un_non r2] at ry
  exact op_notN pins s σ H _ _ v u Q I rx ry ⟨rfl, by rw [isNon_rel r1, ← e2]; simpa using q⟩
theorem flat_rel {K : PySem.W.Frag} {mg : Str → Option Value} {loc : List Addr} {H : Hp} {x : W} {v : V} (r : RelW K mg loc H x v) (f : flatB x = true) : flatV v = true := by
  cases x with
  | non => rw [un_non r]; rfl
  | bl _ => rw [un_bl r]; rfl
  | int _ => rw [un_int r]; rfl
  | str _ => rw [un_str r]; rfl
  | _ => cases f
theorem flat_all {K : PySem.W.Frag} {mg : Str → Option Value} {loc : List Addr} {H : Hp} : ∀ {ws : List W} {vs : List V}, RelWs K mg loc H ws vs → ws.all flatB = true → vs.all flatV = true
  | [], _, r, _ => by rw [r.unnil]; rfl
  | w :: ws, _, r, f => by
    obtain ⟨v, t, rfl, a, b⟩ := r.uncons
    simp only [List.all_cons, Bool.and_eq_true] at f ⊢
    exact ⟨flat_rel a f.1, flat_all b f.2⟩
theorem eqV_rel {K : PySem.W.Frag} {mg : Str → Option Value} {loc : List Addr} {H : Hp} {x y : W} {v u : V} (r : RelW K mg loc H x v) (f : flatB x = true) (r2 : RelW K mg loc H y u) (f2 : flatB y = true) : eqV v u = eqP x y := by
  cases x with
  | non => rw [un_non r]; cases y with
    | non => rw [un_non r2]; simp [eqV, eqP]
    | bl _ => rw [un_bl r2]; simp [eqV, eqP]
    | int _ => rw [un_int r2]; simp [eqV, eqP]
    | str _ => rw [un_str r2]; simp [eqV, eqP]
    | _ => cases f2
  | bl _ => rw [un_bl r]; cases y with
    | non => rw [un_non r2]; simp [eqV, eqP]
    | bl _ => rw [un_bl r2]; simp [eqV, eqP]
    | int _ => rw [un_int r2]; simp [eqV, eqP]
    | str _ => rw [un_str r2]; simp [eqV, eqP]
    | _ => cases f2
  | int _ => rw [un_int r]; cases y with
    | non => rw [un_non r2]; simp [eqV, eqP]
    | bl _ => rw [un_bl r2]; simp [eqV, eqP]
    | int _ => rw [un_int r2]; simp [eqV, eqP]
    | str _ => rw [un_str r2]; simp [eqV, eqP]
    | _ => cases f2
  | str _ => rw [un_str r]; cases y with
    | non => rw [un_non r2]; simp [eqV, eqP]
    | bl _ => rw [un_bl r2]; simp [eqV, eqP]
    | int _ => rw [un_int r2]; simp [eqV, eqP]
    | str _ => rw [un_str r2]; simp [eqV, eqP]
    | _ => cases f2
  | _ => cases f
theorem inV_rel {K : PySem.W.Frag} {mg : Str → Option Value} {loc : List Addr} {H : Hp} {x : W} {v : V} (r : RelW K mg loc H x v) (f : flatB x = true) : ∀ {ws : List W} {vs : List V}, RelWs K mg loc H ws vs → ws.all flatB = true → inV v vs = inP x ws
  | [], _, r, _ => by rw [r.unnil]; rfl
  | w :: ws, _, r2, f2 => by
    obtain ⟨u, t, rfl, a, b⟩ := r2.uncons
    simp only [List.all_cons, Bool.and_eq_true] at f2
    have ih := inV_rel r f b f2.2
    unfold inV inP at ih ⊢
    simp only [List.any_cons]
    rw [eqV_rel a f2.1 r f, ih]
theorem iteS {α : Type} {c : Bool} {a b : α} (e : (if c = true then some a else none) = some b) : c = true ∧ a = b := by
  cases c with
  | true => cases e; exact ⟨rfl, rfl⟩
  | false => cases e
theorem oc_in_core {neg : Bool} {op : CmpOp} (ho1 : OpR X (compareOp op) (rIn X.K neg)) (ho2 : ∀ {d es n}, KDict X.K X.w d es n → OpR X (compareOp op) (fun x y H Q => ∃ (z : Str) (r : Option Value), x = .str z ∧ y = .ref d ∧ PySem.W.nsIn X.K d z = some r ∧ Q (.bl (if neg then !r.isSome else r.isSome)) H))
    (hD : DctsOk X.K X.w X.mg D) :
    OpR X (compareOp op) fun x y H Q => ∃ loc h wx wy b, Rel X.K X.mg loc h H ∧ RelW X.K X.mg loc H wx x ∧ RelW X.K X.mg loc H wy y ∧ inW D wx wy h = some b ∧ Q (.bl (if neg then !b else b)) H := by
  intro pins s σ H x y v u Q I rx ry hh
  obtain ⟨loc, h, wx, wy, b, rel, r1, r2, e, q⟩ := hh
  cases wy with
  | tup xs =>
    obtain ⟨c, rfl⟩ := iteS (show (if (flatB wx && xs.all flatB) = true then some (inP wx xs) else none) = some b from e)
    rw [Bool.and_eq_true] at c
    obtain ⟨a, vs, rfl, s1, q1⟩ := un_tup r2
    exact ho1 pins s σ H _ _ v u Q I rx ry ⟨a, vs, rfl, .inr s1.sq, flat_rel r1 c.1, flat_all q1 c.2, by rw [inV_rel r1 c.1 q1 c.2]; exact q⟩
  | ref n =>
    obtain ⟨a, rfl, e1⟩ := un_ref r2
    have e : inO wx (h.get n) = some b := e
    generalize g : h.get n = o at e
    cases o with
    | lst xs =>
      obtain ⟨c, rfl⟩ := iteS (show (if (flatB wx && xs.all flatB) = true then some (inP wx xs) else none) = some b from e)
      rw [Bool.and_eq_true] at c
      obtain ⟨vs, s1, q1⟩ := obj_sql rel e1 (.inl g)
      exact ho1 pins s σ H _ _ v u Q I rx ry ⟨a, vs, rfl, .inl s1, flat_rel r1 c.1, flat_all q1 c.2, by rw [inV_rel r1 c.1 q1 c.2]; exact q⟩
    | frz xs =>
      obtain ⟨c, rfl⟩ := iteS (show (if (flatB wx && xs.all flatB) = true then some (inP wx xs) else none) = some b from e)
      rw [Bool.and_eq_true] at c
      obtain ⟨vs, s1, q1⟩ := obj_sql rel e1 (.inr g)
      exact ho1 pins s σ H _ _ v u Q I rx ry ⟨a, vs, rfl, .inl s1, flat_rel r1 c.1, flat_all q1 c.2, by rw [inV_rel r1 c.1 q1 c.2]; exact q⟩
    | dic kvs => cases e
    | bad => cases e
    | ins _ _ => cases e
  | gl n =>
    obtain ⟨a, rfl, e1⟩ := un_gl r2
    have e : ((D.lookup n).bind fun kvs => match wx with
      | .str s => some ((kvs.map (·.1)).contains (.inr s))
      | _ => none) = some b := e
    cases g : D.lookup n with
    | none => rw [g] at e; cases e
    | some kvs =>
      rw [g] at e
      obtain ⟨d, es, m, hm, kd, ns⟩ := hD n kvs g
      rw [e1] at hm
      cases hm
      cases wx with
      | str z =>
        cases e
        obtain ⟨r, e2, e3, _⟩ := ns z
        rw [un_str r1] at rx
        exact ho2 kd pins s σ H _ _ v u Q I rx ry ⟨z, r, rfl, rfl, e2, by rw [e3]; exact q⟩
      | _ => cases e
  | non => cases e
  | bl _ => cases e
  | int _ => cases e
  | str _ => cases e
  | ty _ => cases e
/-- a subscript read, by trees -/
theorem ix_w (hD : DctsOk X.K X.w X.mg D) : IxR X fun x y H Q => ∃ loc h wx wy, Rel X.K X.mg loc h H ∧ RelW X.K X.mg loc H wx x ∧ RelW X.K X.mg loc H wy y ∧ ∃ Z, PostW X.K X.mg loc H (ixW D wx wy h) Q Z := by
  intro value slice pins s σ H x y v u Q I rx ry hh hs
  obtain ⟨loc, h, wx, wy, rel, r1, r2, Z, p⟩ := hh
  have fin : ∀ {xs : List W} {i : Int}, PostW X.K X.mg loc H (optR (atI xs i) h) Q Z → ∀ {vs : List V}, RelWs X.K X.mg loc H xs vs → ∃ v, L2.atI vs i = some v ∧ Q v H := by
    intro xs i p vs q
    obtain ⟨w, e, p⟩ := post_opt p
    obtain ⟨v, e', r⟩ := q.atI e
    exact ⟨v, e', post_ok p rel r⟩
  cases wx <;> cases wy <;> first | exact (show False from p).elim | skip
  case tup.int xs i =>
    obtain ⟨a, vs, rfl, s1, q1⟩ := un_tup r1
    rw [un_int r2] at ry
    obtain ⟨w, e, q⟩ := fin p q1
    exact ix_tup value slice pins s σ H _ _ v u Q I rx ry ⟨a, vs, i, w, rfl, rfl, s1.sq, e, q⟩ hs
  case ref.int n i =>
    obtain ⟨a, rfl, e1⟩ := un_ref r1
    rw [un_int r2] at ry
    have p : PostW X.K X.mg loc H (ixO (h.get n) i h) Q Z := p
    generalize g : h.get n = o at p
    cases o <;> first | exact (show False from p).elim | skip
    · rename_i xs
      obtain ⟨vs, s1, q1⟩ := obj_sql rel e1 (.inl g)
      obtain ⟨w, e, q⟩ := fin p q1
      exact ix_list value slice pins s σ H _ _ v u Q I rx ry ⟨a, vs, i, w, rfl, rfl, s1, e, q⟩ hs
    · rename_i xs
      obtain ⟨vs, s1, q1⟩ := obj_sql rel e1 (.inr g)
      obtain ⟨w, e, q⟩ := fin p q1
      exact ix_list value slice pins s σ H _ _ v u Q I rx ry ⟨a, vs, i, w, rfl, rfl, s1, e, q⟩ hs
  case str.int z i =>
    rw [un_str r1] at rx
    rw [un_int r2] at ry
    obtain ⟨g, p⟩ := post_guard p
    obtain ⟨w, e, p⟩ := post_opt p
    cases g2 : atI z.cps.toList i with
    | none => rw [g2] at e; cases e
    | some c =>
      rw [g2] at e
      cases e
      exact ix_str value slice pins s σ H _ _ v u Q I rx ry ⟨z, i, c, rfl, rfl, lim_eq ▸ of_decide_eq_true g, g2, post_ok p rel relW_str⟩ hs
  case gl.str n z =>
    obtain ⟨a, rfl, e1⟩ := un_gl r1
    rw [un_str r2] at ry
    obtain ⟨w, e, p⟩ := post_opt (show PostW X.K X.mg loc H (optR ((D.lookup n).bind fun kvs => kvs.lookup (.inr z)) h) Q Z from p)
    cases g : D.lookup n with
    | none => rw [g] at e; cases e
    | some kvs =>
      rw [g] at e
      obtain ⟨d, es, m, hm, kd, ns⟩ := hD n kvs g
      rw [e1] at hm
      cases hm
      obtain ⟨r, e2, _, e4⟩ := ns z
      obtain ⟨u0, v0, rfl, rv, rw0⟩ := e4 w e
      exact ix_kdict value slice pins s σ H _ _ v u Q I rx ry ⟨_, z, v0, rfl, rfl, ⟨es, m, u0, kd.at_, kd.lit, e2, rv⟩, post_ok p rel (rw0 loc H)⟩ hs
/-- a slice read -/
theorem sl_w : SlR X fun x lo hi H Q => ∃ loc h wx, Rel X.K X.mg loc h H ∧ RelW X.K X.mg loc H wx x ∧ ∃ Z, PostW X.K X.mg loc H (slW wx lo hi h) Q Z := by
  intro pins s σ H x v vl vu lo hi sl Q I rx hs p1 p2 hh
  obtain ⟨loc, h, wx, rel, r1, Z, p⟩ := hh
  cases wx <;> first | exact (show False from p).elim | skip
  case tup xs =>
    obtain ⟨a, vs, rfl, s1, q1⟩ := un_tup r1
    refine sl_tupX pins s σ H _ v vl vu lo hi sl Q I rx hs p1 p2 ⟨a, vs, rfl, s1.sq, fun e => ?_, fun _ c o hc ho => post_newT p rel (q1.cut lo hi) hc ho⟩
    have q := q1.cut lo hi
    have ev : cutV vs lo hi = vs := by
      unfold cutV
      rw [e.1, e.2]
      simp
    rw [ev] at q
    exact post_tup p rel s1 q
  case ref n =>
    obtain ⟨a, rfl, e1⟩ := un_ref r1
    have p : PostW X.K X.mg loc H (slO (h.get n) lo hi h) Q Z := p
    generalize g : h.get n = o at p
    cases o <;> first | exact (show False from p).elim | skip
    · rename_i xs
      obtain ⟨vs, s1, q1⟩ := obj_sql rel e1 (.inl g)
      exact sl_list pins s σ H _ v vl vu lo hi sl Q I rx hs p1 p2 ⟨a, vs, rfl, s1, fun c hc => post_newL p rel (q1.cut lo hi) hc⟩
    · rename_i xs
      obtain ⟨vs, s1, q1⟩ := obj_sql rel e1 (.inr g)
      exact sl_list pins s σ H _ v vl vu lo hi sl Q I rx hs p1 p2 ⟨a, vs, rfl, s1, fun c hc => post_newL p rel (q1.cut lo hi) hc⟩
  case str z =>
    rw [un_str r1] at rx
    obtain ⟨g, p⟩ := post_guard p
    exact sl_str pins s σ H _ v vl vu lo hi sl Q I rx hs p1 p2 ⟨z, rfl, lim_eq ▸ of_decide_eq_true g, post_ok p rel relW_str⟩
/-- o[i] = v -/
theorem set_w : PSet X fun o i v H Q => ∃ loc h wo wi wv, Rel X.K X.mg loc h H ∧ RelW X.K X.mg loc H wo o ∧ RelW X.K X.mg loc H wi i ∧ RelW X.K X.mg loc H wv v ∧
    ∃ Z, PostE X.K X.mg (fun _ _ (_ : Unit) (_ : Unit) => True) loc H (putW wo wi wv h) (fun _ H' => Q H') Z := by
  intro pins s σ H o i v ov iv u Q I ro ri rv hh
  obtain ⟨loc, h, wo, wi, wv, rel, r1, r2, r3, Z, p⟩ := hh
  cases wo <;> cases wi <;> first | exact (show False from p).elim | skip
  case ref.int n k =>
    obtain ⟨a, rfl, e1⟩ := un_ref r1
    rw [un_int r2] at ri
    have p : PostE X.K X.mg (fun _ _ (_ : Unit) (_ : Unit) => True) loc H (putO (h.get n) n k wv h) (fun _ H' => Q H') Z := p
    generalize g : h.get n = o at p
    cases o <;> first | exact (show False from p).elim | skip
    rename_i xs
    obtain ⟨vs, h1, q1⟩ := obj_lst rel e1 g
    have p : PostE X.K X.mg (fun _ _ (_ : Unit) (_ : Unit) => True) loc H (match ixN xs.length k with
      | some j => .ok () (h.set n (.lst (xs.set j wv)))
      | none => .stuck) (fun _ H' => Q H') Z := p
    cases e : ixN xs.length k with
    | none => rw [e] at p; exact (show False from p).elim
    | some j =>
      rw [e] at p
      refine set_list pins s σ H _ _ v ov iv u Q I ro ri rv ⟨a, vs, k, j, rfl, rfl, h1, by rw [q1.length]; exact e, ?_⟩
      have mu : Mut (H a) := by rw [h1]; trivial
      have ex := Ext.set (K := X.K) (o := .lst (vs.set j v)) (List.mem_of_getElem? e1) mu
      exact p () loc _ ex (rel.set e1 mu ⟨_, upd_same, RelWs.ext ex _ _ (q1.set r3 j)⟩) trivial
end
end Rh
/-! Rh4: builtins and methods by values. -/
namespace Rh
open PySem PySem.Spec PyProof.Rows L2
section
variable {X : Cx} {pins : List (Addr × Obj)} {σ : L2.St} {H : Hp} {s : Shared}
theorem Tu.obj {a : Addr} {vs : List V} (I : Inv X pins σ H s) (t : Tu X.K H a vs) : ∃ (its : List Value) (n : Nat), Vals vs its ∧ s.heap.get? a = some { cls := .type "tuple", dict := none, data := .seq its.toArray n, slots := #[] } ∧ vs.length ≤ sizeLine := by
  rcases t with ⟨⟨oc, od, dt, sl⟩, q, x1, x2, x3⟩ | ⟨⟨oc, od, dt, sl⟩, its, n, q, ⟨x1, x2, x3⟩, d, z, r⟩
  · obtain ⟨e, zz, its, r, o', e', c, n, d⟩ := I.hok a _ q
    rw [e] at e'
    cases e'
    simp only at x1 x2 x3 d
    subst x1 x2 x3 d
    exact ⟨its, n, r, e, zz⟩
  · simp only at x1 x2 x3 d
    subst x1 x2 x3 d
    have e := r.length
    refine ⟨its.toList, n, r, ?_, by simp only [Array.length_toList] at e; omega⟩
    rw [Array.toArray_toList]
    exact I.kIn a _ q
theorem cls_paired {K : PySem.W.Frag} {mg : Str → Option Value} {loc : List Addr} {H : Hp} : ∀ {cs : List W} {ns : List String} {vs : List V}, tysOf cs = some ns → RelWs K mg loc H cs vs → Paired ClsV vs (ns.map Value.type) ∧ ∀ n ∈ ns, knownT n = true
  | [], ns, vs, e, r => by unfold tysOf at e; cases e; rw [r.unnil]; exact ⟨.nil, by simp⟩
  | .ty n :: cs, ns, vs, e, r => by
    unfold tysOf at e
    by_cases k : knownT n = true
    · rw [if_pos k] at e
      cases q : tysOf cs with
      | none => rw [q] at e; cases e
      | some ms =>
        rw [q] at e
        cases e
        obtain ⟨v, t, rfl, r1, r2⟩ := r.uncons
        rw [un_ty r1]
        obtain ⟨p1, p2⟩ := cls_paired q r2
        exact ⟨.cons (.ty n) p1, fun m hm => (List.mem_cons.mp hm).elim (fun z => z ▸ k) (p2 m)⟩
    · rw [if_neg k] at e; cases e
  | .non :: _, _, _, e, _ => by unfold tysOf at e; cases e
  | .bl _ :: _, _, _, e, _ => by unfold tysOf at e; cases e
  | .int _ :: _, _, _, e, _ => by unfold tysOf at e; cases e
  | .str _ :: _, _, _, e, _ => by unfold tysOf at e; cases e
  | .tup _ :: _, _, _, e, _ => by unfold tysOf at e; cases e
  | .ref _ :: _, _, _, e, _ => by unfold tysOf at e; cases e
  | .gl _ :: _, _, _, e, _ => by unfold tysOf at e; cases e
def tyNames : List String := ["NoneType", "bool", "int", "str", "tuple", "list", "dict"]
theorem kit_all : (tyNames.all fun a => ["int", "bool", "str", "tuple", "list", "dict"].all fun b => kitB a b == some (isT a b)) = true := by decide +kernel
theorem kit_known {K : PySem.W.Frag} {a b : String} (ha : a ∈ tyNames) (hb : knownT b = true) : PySem.W.kitOne K (.type a) (.type b) = some (isT a b) := by
  have h1 := List.all_eq_true.mp kit_all a ha
  have hb' : b ∈ ["int", "bool", "str", "tuple", "list", "dict"] := by
    unfold knownT at hb
    exact List.contains_iff_mem.mp hb
  exact kit_ty (eq_of_beq (List.all_eq_true.mp h1 b hb'))
theorem kit_anys {K : PySem.W.Frag} {a : String} (ha : a ∈ tyNames) : ∀ {ns : List String}, (∀ n ∈ ns, knownT n = true) → PySem.W.kitAny K (.type a) (ns.map Value.type) = some (ns.any (isT a))
  | [], _ => kitAny_nil
  | n :: ns, h => by
    simp only [List.map_cons, List.any_cons]
    refine kitAny_cons (kit_known ha (h n List.mem_cons_self)) (fun e => ?_) (fun e => by rw [e]; rfl)
    rw [e, Bool.false_or]
    exact kit_anys ha fun m hm => h m (List.mem_cons_of_mem _ hm)
theorem ty_of {loc : List Addr} {h : HS} (rel : Rel X.K X.mg loc h H) {x : W} {v : V} {t : String} (r : RelW X.K X.mg loc H x v) (e : tyW x h = some t) : TyX X.K H v (.type t) ∧ t ∈ tyNames := by
  cases x with
  | non => cases e; rw [un_non r]; exact ⟨.base .non, by decide⟩
  | bl _ => cases e; rw [un_bl r]; exact ⟨.base (.bl _), by decide⟩
  | int _ => cases e; rw [un_int r]; exact ⟨.base (.int _), by decide⟩
  | str _ => cases e; rw [un_str r]; exact ⟨.base (.str _), by decide⟩
  | tup _ =>
    cases e
    obtain ⟨a, vs, rfl, t, _⟩ := un_tup r
    refine ⟨?_, by decide⟩
    rcases t with ⟨o, q, _⟩ | ⟨o, its, n, q, x, _⟩
    · exact .fTuple q
    · exact .kTuple q x.1
  | ref n =>
    obtain ⟨a, rfl, e1⟩ := un_ref r
    have e : tyO (h.get n) = some t := e
    generalize g : h.get n = o at e
    cases o with
    | lst ws =>
      cases e
      obtain ⟨vs, q, _⟩ := obj_lst rel e1 g
      exact ⟨.base (.lst q), by decide⟩
    | frz ws =>
      cases e
      obtain ⟨o, vs, q, _⟩ := obj_frz rel e1 g
      exact ⟨.base (.frz q), by decide⟩
    | dic kvs =>
      cases e
      have z := rel.obj n a e1
      rw [g] at z
      obtain ⟨vs, q, _⟩ := z
      exact ⟨.base (.dK q), by decide⟩
    | _ => cases e
  | gl _ => cases e
  | ty _ => cases e
end
section
variable {X : Cx}
theorem cw_len : CallW X (.builtin "len") (biW .len) := by
  intro pins s σ H xs us Q I rv hh
  obtain ⟨loc, h, ws, rel, r, Z, p⟩ := hh
  rcases ws with _ | ⟨w, _ | ⟨w2, ws⟩⟩
  · exact (show False from p).elim
  rotate_left
  · exact (show False from p).elim
  · obtain ⟨v, t, rfl, r1, r2⟩ := r.uncons
    rw [r2.unnil] at rv
    replace p : PostW X.K X.mg loc H (lenW w h) Q Z := p
    cases w <;> first | exact (show False from p).elim | skip
    case str y =>
      obtain ⟨g, p⟩ := post_guard p
      rw [un_str r1] at rv
      refine call_len pins s σ H _ us Q I rv ⟨_, y.length, rfl, ⟨lim_eq ▸ of_decide_eq_true g, rfl⟩, post_int p rel⟩
    case tup ys =>
      obtain ⟨a, vs, rfl, t, q⟩ := un_tup r1
      replace p : PostW X.K X.mg loc H (.ok (.int ys.length) h) Q Z := p
      rw [← q.length] at p
      exact call_len pins s σ H _ us Q I rv ⟨_, vs.length, rfl, .inr ⟨vs, t.sq, rfl⟩, post_int p rel⟩
    case ref n =>
      obtain ⟨a, rfl, e1⟩ := un_ref r1
      replace p : PostW X.K X.mg loc H (lenO (h.get n) h) Q Z := p
      generalize g : h.get n = o at p
      cases o <;> first | exact (show False from p).elim | skip
      all_goals
        rename_i ys
        obtain ⟨vs, s1, q⟩ := obj_sql rel e1 (by first | exact .inl g | exact .inr g)
        replace p : PostW X.K X.mg loc H (.ok (.int ys.length) h) Q Z := p
        rw [← q.length] at p
        exact call_len pins s σ H _ us Q I rv ⟨_, vs.length, rfl, .inl ⟨vs, s1, rfl⟩, post_int p rel⟩
theorem cw_abs : CallW X (.builtin "abs") (biW .abs) := by
  intro pins s σ H xs us Q I rv hh
  obtain ⟨loc, h, ws, rel, r, Z, p⟩ := hh
  rcases ws with _ | ⟨w, _ | ⟨w2, ws⟩⟩
  · exact (show False from p).elim
  rotate_left
  · exact (show False from p).elim
  · obtain ⟨v, t, rfl, r1, r2⟩ := r.uncons
    rw [r2.unnil] at rv
    replace p : PostW X.K X.mg loc H (absW w h) Q Z := p
    cases w <;> first | exact (show False from p).elim | skip
    case int i =>
      rw [un_int r1] at rv
      exact call_abs pins s σ H _ us Q I rv ⟨i, rfl, post_int p rel⟩
theorem cw_int : CallW X (.type "int") (biW .int) := by
  intro pins s σ H xs us Q I rv hh
  obtain ⟨loc, h, ws, rel, r, Z, p⟩ := hh
  rcases ws with _ | ⟨w, _ | ⟨w2, ws⟩⟩
  · exact (show False from p).elim
  rotate_left
  · exact (show False from p).elim
  · obtain ⟨v, t, rfl, r1, r2⟩ := r.uncons
    rw [r2.unnil] at rv
    replace p : PostW X.K X.mg loc H (intW w h) Q Z := p
    cases w <;> first | exact (show False from p).elim | skip
    case int i =>
      rw [un_int r1] at rv
      exact call_int1 pins s σ H _ us Q I rv (.inl ⟨i, rfl, post_int p rel⟩)
    case bl b =>
      rw [un_bl r1] at rv
      exact call_int1 pins s σ H _ us Q I rv (.inr ⟨b, rfl, post_int p rel⟩)
theorem cw_list : CallW X (.type "list") (biW .list) := by
  intro pins s σ H xs us Q I rv hh
  obtain ⟨loc, h, ws, rel, r, Z, p⟩ := hh
  rcases ws with _ | ⟨w, _ | ⟨w2, ws⟩⟩
  · exact (show False from p).elim
  rotate_left
  · exact (show False from p).elim
  · obtain ⟨v, t, rfl, r1, r2⟩ := r.uncons
    rw [r2.unnil] at rv
    replace p : PostW X.K X.mg loc H (listW w h) Q Z := p
    cases w <;> first | exact (show False from p).elim | skip
    case tup ys =>
      obtain ⟨a, vs, rfl, t, q⟩ := un_tup r1
      exact call_list_of pins s σ H _ us Q I rv ⟨a, vs, rfl, .inr t.sq, fun l hl => post_newL p rel q hl⟩
    case ref n =>
      obtain ⟨a, rfl, e1⟩ := un_ref r1
      replace p : PostW X.K X.mg loc H (listO (h.get n) h) Q Z := p
      generalize g : h.get n = o at p
      cases o <;> first | exact (show False from p).elim | skip
      all_goals
        rename_i ys
        obtain ⟨vs, s1, q⟩ := obj_sql rel e1 (by first | exact .inl g | exact .inr g)
        exact call_list_of pins s σ H _ us Q I rv ⟨a, vs, rfl, .inl s1, fun l hl => post_newL p rel q hl⟩
theorem cw_tuple : CallW X (.type "tuple") (biW .tuple) := by
  intro pins s σ H xs us Q I rv hh
  obtain ⟨loc, h, ws, rel, r, Z, p⟩ := hh
  rcases ws with _ | ⟨w, _ | ⟨w2, ws⟩⟩
  · exact (show False from p).elim
  rotate_left
  · exact (show False from p).elim
  · obtain ⟨v, t, rfl, r1, r2⟩ := r.uncons
    rw [r2.unnil] at rv
    replace p : PostW X.K X.mg loc H (tupW w h) Q Z := p
    cases w <;> first | exact (show False from p).elim | skip
    case tup ys =>
      obtain ⟨a, vs, rfl, t, q⟩ := un_tup r1
      exact call_tupX pins s σ H _ us Q I rv ⟨a, vs, rfl, .inr ⟨t.sq, post_tup p rel t q⟩⟩
    case ref n =>
      obtain ⟨a, rfl, e1⟩ := un_ref r1
      replace p : PostW X.K X.mg loc H (tupO (h.get n) h) Q Z := p
      generalize g : h.get n = o at p
      cases o <;> first | exact (show False from p).elim | skip
      all_goals
        rename_i ys
        obtain ⟨vs, s1, q⟩ := obj_sql rel e1 (by first | exact .inl g | exact .inr g)
        exact call_tupX pins s σ H _ us Q I rv ⟨a, vs, rfl, .inl ⟨s1, fun l o hl ho => post_newT p rel q hl ho⟩⟩
theorem call_isiX : CallR X (.builtin "isinstance") fun xs H Q => ∃ (x : V) (tp : Addr) (cs : List V) (t : Value) (us : List Value) (b : Bool), xs = [x, .ref tp] ∧ Tu X.K H tp cs ∧ Paired ClsV cs us ∧ TyX X.K H x t ∧ PySem.W.kitAny X.K t us = some b ∧ Q (.bl b) H := by
  intro pins s σ H xs us Q I r hh
  obtain ⟨x, tp, cs, t, ws, b, rfl, hT, k, ty, e, q⟩ := hh
  obtain ⟨u1, u2, rfl, r1, r2⟩ := vals2 r
  cases (show u2 = Value.ref tp from r2)
  obtain ⟨P, Z, p, hx⟩ := kit_of I r1 ty
  obtain ⟨its, n, rv, h1, _⟩ := Tu.obj I hT
  have e3 := ClsV.all k rv
  subst e3
  exact PySem.W.kia_tup Z I.kIn p h1 e hx fun tk => ⟨.bl b, H, I.tok tk, rfl, q⟩
theorem cw_isi : CallW X (.builtin "isinstance") (biW .isinstance) := by
  intro pins s σ H xs us Q I rv hh
  obtain ⟨loc, h, ws, rel, r, Z, p⟩ := hh
  rcases ws with _ | ⟨w, _ | ⟨c, _ | ⟨w2, ws⟩⟩⟩
  · exact (show False from p).elim
  · exact (show False from p).elim
  rotate_left
  · exact (show False from p).elim
  · obtain ⟨v, t, rfl, r1, r2⟩ := r.uncons
    obtain ⟨v', t', rfl, r3, r4⟩ := r2.uncons
    rw [r4.unnil] at rv
    replace p : PostW X.K X.mg loc H (isiW w c h) Q Z := p
    cases c <;> first | exact (show False from p).elim | skip
    case ty n =>
      by_cases k : knownT n = true
      · replace p : PostW X.K X.mg loc H (if knownT n then optR ((tyW w h).map fun t => W.bl (isT t n)) h else .stuck) Q Z := p
        rw [if_pos k] at p
        obtain ⟨b, e, p⟩ := post_opt p
        cases q : tyW w h with
        | none => rw [q] at e; cases e
        | some t =>
          rw [q] at e
          cases e
          obtain ⟨tx, tm⟩ := ty_of rel r1 q
          rw [un_ty r3] at rv
          exact call_isi pins s σ H _ us Q I rv ⟨v, .ty n, .type t, .type n, _, rfl, .ty n, tx, kit_known tm k, post_bl p rel⟩
      · replace p : PostW X.K X.mg loc H (if knownT n then optR ((tyW w h).map fun t => W.bl (isT t n)) h else .stuck) Q Z := p
        rw [if_neg k] at p
        exact (show False from p).elim
    case tup cs =>
      obtain ⟨b, e, p⟩ := post_opt (show PostW X.K X.mg loc H (optR ((tysOf cs).bind fun ns => (tyW w h).map fun t => W.bl (ns.any (isT t))) h) Q Z from p)
      cases q1 : tysOf cs with
      | none => rw [q1] at e; cases e
      | some ns =>
        rw [q1] at e
        have e : (tyW w h).map (fun t => W.bl (ns.any (isT t))) = some b := e
        cases q : tyW w h with
        | none => rw [q] at e; cases e
        | some t =>
          rw [q] at e
          cases e
          obtain ⟨tx, tm⟩ := ty_of rel r1 q
          obtain ⟨a, vs, rfl, tu, rs⟩ := un_tup r3
          obtain ⟨pr, kn⟩ := cls_paired q1 rs
          exact call_isiX pins s σ H _ us Q I rv ⟨v, a, vs, .type t, _, _, rfl, tu, pr, tx, kit_anys tm kn, post_bl p rel⟩
theorem maxL_spec : ∀ (r : List Int) (m : Int), (maxL m r = m ∨ maxL m r ∈ r) ∧ m ≤ maxL m r ∧ ∀ y ∈ r, y ≤ maxL m r
  | [], m => ⟨.inl rfl, Int.le_refl _, by simp⟩
  | x :: r, m => by
    unfold maxL
    by_cases c : m < x
    · rw [if_pos c]
      obtain ⟨a, b, d⟩ := maxL_spec r x
      refine ⟨.inr ?_, by omega, fun y hy => ?_⟩
      · rcases a with a | a
        · rw [a]; exact List.mem_cons_self
        · exact List.mem_cons_of_mem _ a
      · rcases List.mem_cons.mp hy with z | z
        · rw [z]; exact b
        · exact d y z
    · rw [if_neg c]
      obtain ⟨a, b, d⟩ := maxL_spec r m
      refine ⟨a.imp id (List.mem_cons_of_mem _), b, fun y hy => ?_⟩
      rcases List.mem_cons.mp hy with z | z
      · rw [z]; omega
      · exact d y z
theorem minL_spec : ∀ (r : List Int) (m : Int), (minL m r = m ∨ minL m r ∈ r) ∧ minL m r ≤ m ∧ ∀ y ∈ r, minL m r ≤ y
  | [], m => ⟨.inl rfl, Int.le_refl _, by simp⟩
  | x :: r, m => by
    unfold minL
    by_cases c : x < m
    · rw [if_pos c]
      obtain ⟨a, b, d⟩ := minL_spec r x
      refine ⟨.inr ?_, by omega, fun y hy => ?_⟩
      · rcases a with a | a
        · rw [a]; exact List.mem_cons_self
        · exact List.mem_cons_of_mem _ a
      · rcases List.mem_cons.mp hy with z | z
        · rw [z]; exact b
        · exact d y z
    · rw [if_neg c]
      obtain ⟨a, b, d⟩ := minL_spec r m
      refine ⟨a.imp id (List.mem_cons_of_mem _), b, fun y hy => ?_⟩
      rcases List.mem_cons.mp hy with z | z
      · rw [z]; omega
      · exact d y z
theorem foldI_parts {K : PySem.W.Frag} {mg : Str → Option Value} {loc : List Addr} {H : Hp} {h : HS} {f : Int → List Int → Int} {ws : List W} {Q : VK} {Z : XK} (rel : Rel K mg loc h H) (p : PostW K mg loc H (foldI f ws h) Q Z) : ∃ i r, ws = (i :: r).map W.int ∧ Q (.int (f i r)) H := by
  unfold foldI at p
  cases e : intsOf ws with
  | none => rw [e] at p; exact (show False from p).elim
  | some ns =>
    rw [e] at p
    cases ns with
    | nil => exact (show False from p).elim
    | cons i r => exact ⟨i, r, intsOf_map e, post_int p rel⟩
theorem cw_ext {nm : String} {f : Int → List Int → Int} (h2 : CallR X (.builtin nm) (fun xs H Q => ∃ i j, xs = [.int i, .int j] ∧ Q (.int (f i [j])) H))
    (h1 : CallR X (.builtin nm) (fun vs H Q => ∃ (a : Addr) (i : Int) (r : List Int), vs = [V.ref a] ∧ SqL X.K H a ((i :: r).map V.int) ∧ Q (.int (f i r)) H)) : CallW X (.builtin nm) (extW f) := by
  intro pins s σ H xs us Q I rv hh
  obtain ⟨loc, h, ws, rel, r, Z, p⟩ := hh
  rcases ws with _ | ⟨w, _ | ⟨w2, _ | ⟨w3, ws⟩⟩⟩
  · exact (show False from p).elim
  · obtain ⟨v, t, rfl, r1, r2⟩ := r.uncons
    rw [r2.unnil] at rv
    cases w <;> first | exact (show False from p).elim | skip
    case ref n =>
      obtain ⟨a, rfl, e1⟩ := un_ref r1
      replace p : PostW X.K X.mg loc H (foldO f (h.get n) h) Q Z := p
      generalize g : h.get n = o at p
      cases o <;> first | exact (show False from p).elim | skip
      all_goals
        rename_i ys
        obtain ⟨i, r', rfl, q⟩ := foldI_parts rel p
        obtain ⟨vs, s1, rs⟩ := obj_sql rel e1 (by first | exact .inl g | exact .inr g)
        rw [rs.ints] at s1
        exact h1 pins s σ H _ us Q I rv ⟨a, i, r', rfl, s1, q⟩
  · obtain ⟨v, t, rfl, r1, r2⟩ := r.uncons
    obtain ⟨v', t', rfl, r3, r4⟩ := r2.uncons
    rw [r4.unnil] at rv
    cases w <;> cases w2 <;> first | exact (show False from p).elim | skip
    case int.int i j =>
      rw [un_int r1, un_int r3] at rv
      exact h2 pins s σ H _ us Q I rv ⟨i, j, rfl, post_int p rel⟩
  · cases w <;> cases w2 <;> exact (show False from p).elim
theorem cw_max (hc : X.calm = true) : CallW X (.builtin "max") (biW .max) := by
  refine cw_ext (f := maxL) (fun pins s σ H xs us Q I rv hh => ?_) (fun pins s σ H xs us Q I rv hh => ?_)
  · obtain ⟨i, j, e, q⟩ := hh
    refine call_max2 hc pins s σ H xs us Q I rv ⟨i, j, e, ?_⟩
    have q : Q (.int (if i < j then j else i)) H := q
    exact q
  · obtain ⟨a, i, r, e, s1, q⟩ := hh
    refine cr_max hc pins s σ H xs us Q I rv ⟨a, i :: r, e, s1, by simp, fun m hm ub => ?_⟩
    obtain ⟨x1, x2, x3⟩ := maxL_spec r i
    have e1 : m = maxL i r := by
      have y1 : m ≤ maxL i r := (List.mem_cons.mp hm).elim (fun z => z ▸ x2) (x3 m)
      have y2 : maxL i r ≤ m := x1.elim (fun z => by rw [z]; exact ub i List.mem_cons_self) (fun z => ub _ (List.mem_cons_of_mem _ z))
      omega
    rw [e1]; exact q
theorem cw_min (hc : X.calm = true) : CallW X (.builtin "min") (biW .min) := by
  refine cw_ext (f := minL) (fun pins s σ H xs us Q I rv hh => ?_) (fun pins s σ H xs us Q I rv hh => ?_)
  · obtain ⟨i, j, e, q⟩ := hh
    refine call_min2 hc pins s σ H xs us Q I rv ⟨i, j, e, ?_⟩
    have q : Q (.int (if j < i then j else i)) H := q
    exact q
  · obtain ⟨a, i, r, e, s1, q⟩ := hh
    refine cr_min hc pins s σ H xs us Q I rv ⟨a, i :: r, e, s1, by simp, fun m hm ub => ?_⟩
    obtain ⟨x1, x2, x3⟩ := minL_spec r i
    have e1 : m = minL i r := by
      have y1 : minL i r ≤ m := (List.mem_cons.mp hm).elim (fun z => z ▸ x2) (x3 m)
      have y2 : m ≤ minL i r := x1.elim (fun z => by rw [z]; exact ub i List.mem_cons_self) (fun z => ub _ (List.mem_cons_of_mem _ z))
      omega
    rw [e1]; exact q
theorem insI_perm (x : Int) : ∀ r : List Int, (insI x r).Perm (x :: r)
  | [] => .refl _
  | y :: r => by
    unfold insI
    split
    · exact .refl _
    · exact ((insI_perm x r).cons y).trans (.swap x y r)
theorem sortI_perm : ∀ r : List Int, (sortI r).Perm r
  | [] => .refl _
  | x :: r => (insI_perm x _).trans ((sortI_perm r).cons x)
theorem insI_sorted (x : Int) : ∀ r : List Int, r.Pairwise (· ≤ ·) → (insI x r).Pairwise (· ≤ ·)
  | [], _ => by unfold insI; exact List.pairwise_singleton _ _
  | y :: r, h => by
    unfold insI
    obtain ⟨h1, h2⟩ := List.pairwise_cons.mp h
    split
    · rename_i c
      refine List.pairwise_cons.mpr ⟨fun z hz => ?_, h⟩
      rcases List.mem_cons.mp hz with e | e
      · rw [e]; exact c
      · exact Int.le_trans c (h1 z e)
    · rename_i c
      refine List.pairwise_cons.mpr ⟨fun z hz => ?_, insI_sorted x r h2⟩
      rcases List.mem_cons.mp ((insI_perm x r).mem_iff.mp hz) with e | e
      · rw [e]; omega
      · exact h1 z e
theorem sortI_sorted : ∀ r : List Int, (sortI r).Pairwise (· ≤ ·)
  | [] => List.Pairwise.nil
  | x :: r => insI_sorted x _ (sortI_sorted r)
theorem sorted_one : ∀ {a b : List Int}, a.Perm b → a.Pairwise (· ≤ ·) → b.Pairwise (· ≤ ·) → a = b
  | [], b, p, _, _ => (List.nil_perm.mp p).symm
  | x :: a, [], p, _, _ => absurd p.length_eq (by simp)
  | x :: a, y :: b, p, ha, hb => by
    obtain ⟨a1, a2⟩ := List.pairwise_cons.mp ha
    obtain ⟨b1, b2⟩ := List.pairwise_cons.mp hb
    have e : x = y := by
      have h1 : y ≤ x := by
        rcases List.mem_cons.mp (p.mem_iff.mp List.mem_cons_self) with q | q
        · rw [q]; exact Int.le_refl _
        · exact b1 x q
      have h2 : x ≤ y := by
        rcases List.mem_cons.mp (p.mem_iff.mpr List.mem_cons_self) with q | q
        · rw [q]; exact Int.le_refl _
        · exact a1 y q
      omega
    subst e
    rw [sorted_one (List.Perm.cons_inv p) a2 b2]
theorem insP_perm (x : Int × Int) : ∀ r : List (Int × Int), (insP x r).Perm (x :: r)
  | [] => .refl _
  | y :: r => by
    unfold insP
    split
    · exact .refl _
    · exact ((insP_perm x r).cons y).trans (.swap x y r)
theorem sortP_perm : ∀ r : List (Int × Int), (sortP r).Perm r
  | [] => .refl _
  | x :: r => (insP_perm x _).trans ((sortP_perm r).cons x)
theorem insP_sorted (x : Int × Int) : ∀ r : List (Int × Int), r.Pairwise (fun p q => prC p ≤ prC q) → (insP x r).Pairwise (fun p q => prC p ≤ prC q)
  | [], _ => by unfold insP; exact List.pairwise_singleton _ _
  | y :: r, h => by
    unfold insP
    obtain ⟨h1, h2⟩ := List.pairwise_cons.mp h
    split
    · rename_i c
      refine List.pairwise_cons.mpr ⟨fun z hz => ?_, h⟩
      rcases List.mem_cons.mp hz with e | e
      · rw [e]; exact c
      · exact Int.le_trans c (h1 z e)
    · rename_i c
      refine List.pairwise_cons.mpr ⟨fun z hz => ?_, insP_sorted x r h2⟩
      rcases List.mem_cons.mp ((insP_perm x r).mem_iff.mp hz) with e | e
      · rw [e]; omega
      · exact h1 z e
theorem sortP_sorted : ∀ r : List (Int × Int), (sortP r).Pairwise (fun p q => prC p ≤ prC q)
  | [] => List.Pairwise.nil
  | x :: r => insP_sorted x _ (sortP_sorted r)
def PrOk (p : Int × Int) : Prop := 0 ≤ p.1 ∧ p.1 < 1000000 ∧ 0 ≤ p.2 ∧ p.2 < 1000000
theorem prC_inj {p q : Int × Int} (hp : PrOk p) (hq : PrOk q) (e : prC p = prC q) : p = q := by
  obtain ⟨a, b⟩ := p
  obtain ⟨c, d⟩ := q
  obtain ⟨p1, p2, p3, p4⟩ := hp
  obtain ⟨q1, q2, q3, q4⟩ := hq
  simp only [prC] at *
  have : a = c := by omega
  subst this
  have : b = d := by omega
  rw [this]
theorem sortedP_one : ∀ {a b : List (Int × Int)}, a.Perm b → (∀ p ∈ a, PrOk p) → a.Pairwise (fun p q => prC p ≤ prC q) → b.Pairwise (fun p q => prC p ≤ prC q) → a = b
  | [], b, p, _, _, _ => (List.nil_perm.mp p).symm
  | x :: a, [], p, _, _, _ => absurd p.length_eq (by simp)
  | x :: a, y :: b, p, ok, ha, hb => by
    obtain ⟨a1, a2⟩ := List.pairwise_cons.mp ha
    obtain ⟨b1, b2⟩ := List.pairwise_cons.mp hb
    have e : x = y := by
      have h1 : prC y ≤ prC x := by
        rcases List.mem_cons.mp (p.mem_iff.mp List.mem_cons_self) with q | q
        · rw [q]; exact Int.le_refl _
        · exact b1 x q
      have h2 : prC x ≤ prC y := by
        rcases List.mem_cons.mp (p.mem_iff.mpr List.mem_cons_self) with q | q
        · rw [q]; exact Int.le_refl _
        · exact a1 y q
      exact prC_inj (ok x List.mem_cons_self) (ok y (p.mem_iff.mpr List.mem_cons_self)) (by omega)
    subst e
    rw [sortedP_one (List.Perm.cons_inv p) (fun q hq => ok q (List.mem_cons_of_mem _ hq)) a2 b2]
theorem prsOf_map : ∀ {ws : List W} {ps : List (Int × Int)}, prsOf ws = some ps → ws = ps.map prW ∧ ∀ p ∈ ps, PrOk p
  | [], ps, e => by unfold prsOf at e; cases e; exact ⟨rfl, by simp⟩
  | w :: r, ps, e => by
    unfold prsOf at e
    split at e
    · rename_i h; cases h
    · rename_i a b r' h
      cases h
      split at e
      · rename_i c
        rw [Bool.and_eq_true, Bool.and_eq_true, Bool.and_eq_true] at c
        cases q : prsOf r with
        | none => rw [q] at e; cases e
        | some qs =>
          rw [q] at e
          cases e
          obtain ⟨e1, e2⟩ := prsOf_map q
          have c1 := of_decide_eq_true c.1.1
          have c2 := iLt_iff.mp c.1.2
          have c3 := of_decide_eq_true c.2.1
          have c4 := iLt_iff.mp c.2.2
          refine ⟨by rw [e1]; rfl, fun p hp => ?_⟩
          rcases List.mem_cons.mp hp with z | z
          · rw [z]; exact ⟨c1, by omega, c3, by omega⟩
          · exact e2 p z
      · cases e
    · cases e
theorem relWs_perm {K : PySem.W.Frag} {mg : Str → Option Value} {loc : List Addr} {H : Hp} {vs ys : List V} (p : ys.Perm vs) : ∀ {ps : List (Int × Int)}, RelWs K mg loc H (ps.map prW) vs → ∃ qs : List (Int × Int), qs.Perm ps ∧ RelWs K mg loc H (qs.map prW) ys := by
  induction p with
  | nil => intro ps r; exact ⟨ps, .refl _, r⟩
  | cons x _ ih =>
    intro ps r
    cases ps with
    | nil => exact absurd r.unnil (by simp)
    | cons p ps =>
      obtain ⟨v, t, e, a, b⟩ := r.uncons
      cases e
      obtain ⟨qs, h1, h2⟩ := ih b
      exact ⟨p :: qs, h1.cons p, .cons a h2⟩
  | swap x y l =>
    intro ps r
    cases ps with
    | nil => exact absurd r.unnil (by simp)
    | cons p ps =>
      obtain ⟨v, t, e, a, b⟩ := r.uncons
      cases e
      cases ps with
      | nil => exact absurd b.unnil (by simp)
      | cons q ps =>
        obtain ⟨v2, t2, e2, a2, b2⟩ := b.uncons
        cases e2
        exact ⟨q :: p :: ps, .swap p q ps, .cons a2 (.cons a b2)⟩
  | trans _ _ ih1 ih2 =>
    intro ps r
    obtain ⟨qs, h1, h2⟩ := ih2 r
    obtain ⟨rs, h3, h4⟩ := ih1 h2
    exact ⟨rs, h3.trans h1, h4⟩
theorem pr_tupI {K : PySem.W.Frag} {mg : Str → Option Value} {loc : List Addr} {H : Hp} {p : Int × Int} {v : V} (r : RelW K mg loc H (prW p) v) : TupI K H v [p.1, p.2] := by
  obtain ⟨a, vs, rfl, t, q⟩ := un_tup r
  have q : RelWs K mg loc H ([p.1, p.2].map W.int) vs := q
  rw [q.ints] at t
  exact ⟨a, rfl, t.sq⟩
theorem pw_sorted {K : PySem.W.Frag} {mg : Str → Option Value} {loc : List Addr} {H : Hp} : ∀ {qs : List (Int × Int)} {ys : List V}, RelWs K mg loc H (qs.map prW) ys → ys.Pairwise (fun x y => ∀ n m, TupI K H x n → TupI K H y m → TS.code 1000000 n ≤ TS.code 1000000 m) → qs.Pairwise (fun p q => prC p ≤ prC q)
  | [], _, _, _ => List.Pairwise.nil
  | q :: qs, ys, r, h => by
    obtain ⟨v, t, rfl, a, b⟩ := r.uncons
    obtain ⟨h1, h2⟩ := List.pairwise_cons.mp h
    refine List.pairwise_cons.mpr ⟨fun z hz => ?_, pw_sorted b h2⟩
    obtain ⟨i, hi, rfl⟩ := List.getElem_of_mem hz
    obtain ⟨u, eu, ru⟩ := b.get (i := i) (w := prW qs[i]) (by rw [List.getElem?_map, List.getElem?_eq_getElem hi]; rfl)
    have := h1 u (List.mem_of_getElem? eu) _ _ (pr_tupI a) (pr_tupI ru)
    simpa [TS.code, prC] using this
theorem cw_sorted : CallW X (.builtin "sorted") (biW .sorted) := by
  intro pins s σ H xs us Q I rv hh
  obtain ⟨loc, h, ws, rel, r, Z, p⟩ := hh
  rcases ws with _ | ⟨w, _ | ⟨w2, ws⟩⟩
  · exact (show False from p).elim
  rotate_left
  · exact (show False from p).elim
  · obtain ⟨v, t, rfl, r1, r2⟩ := r.uncons
    rw [r2.unnil] at rv
    replace p : PostW X.K X.mg loc H (srtW w h) Q Z := p
    cases w <;> first | exact (show False from p).elim | skip
    case ref n =>
      obtain ⟨a, rfl, e1⟩ := un_ref r1
      replace p : PostW X.K X.mg loc H (srtO (h.get n) h) Q Z := p
      generalize g : h.get n = o at p
      cases o <;> first | exact (show False from p).elim | skip
      all_goals
        rename_i ys
        replace p : PostW X.K X.mg loc H (match intsOf ys with
          | some ns => newL ((sortI ns).map W.int) h
          | none => match prsOf ys with
            | some ps => guardR (decide (ys.length < 64)) (newL ((sortP ps).map prW) h)
            | none => .stuck) Q Z := p
        cases e : intsOf ys with
        | none =>
          rw [e] at p
          dsimp only at p
          cases e3 : prsOf ys with
          | none => rw [e3] at p; exact (show False from p).elim
          | some ps =>
            rw [e3] at p
            obtain ⟨gd, p⟩ := post_guard p
            have gd := of_decide_eq_true gd
            obtain ⟨ey, hok⟩ := prsOf_map e3
            obtain ⟨vs, s1, q⟩ := obj_sql rel e1 (by first | exact .inl g | exact .inr g)
            have ql := q.length
            rw [ey] at q
            refine cr_sortT (d := 2) (B := 1000000) (by decide) pins s σ H _ us Q I rv ⟨a, vs, rfl, s1, by omega, fun x hx => ?_, fun zs l hp hs hl => ?_⟩
            · obtain ⟨i, hi, rfl⟩ := List.getElem_of_mem hx
              have hi2 : i < ps.length := by rw [q.length, List.length_map] at hi; exact hi
              obtain ⟨v, ev, rv2⟩ := q.get (i := i) (w := prW ps[i]) (by rw [List.getElem?_map, List.getElem?_eq_getElem hi2]; rfl)
              rw [List.getElem?_eq_getElem hi] at ev
              cases ev
              have hp := hok _ (List.getElem_mem hi2)
              refine ⟨_, pr_tupI rv2, rfl, fun m hm => ?_⟩
              obtain ⟨c1, c2, c3, c4⟩ := hp
              rcases List.mem_cons.mp hm with z | z
              · rw [z]; exact ⟨c1, c2⟩
              · rw [List.mem_singleton.mp z]; exact ⟨c3, c4⟩
            · obtain ⟨qs, h1, h2⟩ := relWs_perm hp q
              have e4 := sortedP_one (h1.trans (sortP_perm ps).symm) (fun p hp => hok p (h1.mem_iff.mp hp)) (pw_sorted h2 hs) (sortP_sorted ps)
              rw [e4] at h2
              exact post_newL p rel h2 hl
        | some ns =>
          rw [e] at p
          have ey := intsOf_map e
          subst ey
          obtain ⟨vs, s1, q⟩ := obj_sql rel e1 (by first | exact .inl g | exact .inr g)
          rw [q.ints] at s1
          refine cr_sortedI pins s σ H _ us Q I rv ⟨a, ns, rfl, s1, fun ns' l hp hs hl => ?_⟩
          rw [sorted_one (hp.trans (sortI_perm ns).symm) hs (sortI_sorted ns)]
          exact post_newL p rel (relWs_ints _) hl
theorem cw_str : CallW X (.type "str") (biW .str) := by
  intro pins s σ H xs us Q I rv hh
  obtain ⟨loc, h, ws, rel, r, Z, p⟩ := hh
  rcases ws with _ | ⟨w, _ | ⟨w2, ws⟩⟩
  · exact (show False from p).elim
  rotate_left
  · exact (show False from p).elim
  · obtain ⟨v, t, rfl, r1, r2⟩ := r.uncons
    rw [r2.unnil] at rv
    replace p : PostW X.K X.mg loc H (strW w h) Q Z := p
    cases w <;> first | exact (show False from p).elim | skip
    case int i =>
      rw [un_int r1] at rv
      obtain ⟨g, p⟩ := post_guard p
      rw [Nat.blt_eq] at g
      exact call_str_int pins s σ H _ us Q I rv ⟨i, rfl, g, post_ok p rel relW_str⟩
    case str y =>
      rw [un_str r1] at rv
      exact SkE.call_str_str pins s σ H _ us Q I rv ⟨y, rfl, post_ok p rel relW_str⟩
def biV : Bi → Value
  | .len => .builtin "len"
  | .abs => .builtin "abs"
  | .int => .type "int"
  | .list => .type "list"
  | .tuple => .type "tuple"
  | .isinstance => .builtin "isinstance"
  | .max => .builtin "max"
  | .min => .builtin "min"
  | .sorted => .builtin "sorted"
  | .str => .type "str"
theorem cw_bi (hc : X.calm = true) (n : Bi) : CallW X (biV n) (biW n) := by
  cases n <;> first | exact cw_len | exact cw_abs | exact cw_int | exact cw_list | exact cw_tuple | exact cw_isi | exact cw_max hc | exact cw_min hc | exact cw_sorted | exact cw_str
end
end Rh
/-! Rh5: methods of lists and tuples by values. -/
namespace Rh
open PySem PySem.Spec PyProof.Rows L2
def mtIdL : Mt → String
  | .append => "list.append"
  | .pop => "list.pop"
  | .extend => "list.extend"
  | .remove => "list.remove"
  | .index => "list.index"
  | .reverse => "list.reverse"
  | .insert => "list.insert"
  | .startswith => "str.startswith"
def mtNm : Mt → String
  | .append => "append"
  | .pop => "pop"
  | .extend => "extend"
  | .remove => "remove"
  | .index => "index"
  | .reverse => "reverse"
  | .insert => "insert"
  | .startswith => "startswith"
theorem findI_spec {f : W → Bool} : ∀ {xs : List W} {n j : Nat}, findI f xs n = some j → n ≤ j ∧ (∃ z, xs[j - n]? = some z ∧ f z = true) ∧ ∀ m, m < j - n → ∀ z, xs[m]? = some z → f z = false
  | [], n, j, e => by unfold findI at e; cases e
  | x :: r, n, j, e => by
    unfold findI at e
    by_cases c : f x = true
    · rw [if_pos c] at e
      cases e
      refine ⟨Nat.le_refl _, ⟨x, by simp, c⟩, fun m hm => by omega⟩
    · rw [if_neg c] at e
      obtain ⟨a, ⟨z, b1, b2⟩, d⟩ := findI_spec e
      refine ⟨by omega, ⟨z, ?_, b2⟩, fun m hm z' hz => ?_⟩
      · have q : j - n = (j - (n + 1)) + 1 := by omega
        rw [q]; simpa using b1
      · cases m with
        | zero => simp at hz; subst hz; simpa using c
        | succ m => exact d m (by omega) z' (by simpa using hz)
section
variable {X : Cx} {pins : List (Addr × Obj)} {σ : L2.St} {H : Hp} {s : Shared}
theorem mt_extX : MtR X "list.extend" fun x xs H Q => ∃ l b ys zs, x = .ref l ∧ xs = [.ref b] ∧ H l = some (.lst ys) ∧ Tu X.K H b zs ∧ ys.length + zs.length ≤ sizeLine ∧ Q .non (upd H l (.lst (ys ++ zs))) := by
  intro pins s σ H x xs v us Q I rx rv hh
  obtain ⟨l, b, ys, zs, rfl, rfl, hH, hB, hz, q⟩ := hh
  cases rx
  obtain ⟨u, rfl, ru⟩ := rv.one
  cases ru
  obtain ⟨z, is, n, r, hl, e⟩ := I.lstM hH
  obtain ⟨js, n2, r2, e2, _⟩ := Tu.obj I hB
  have hl2 := r2.length
  have hsz : is.toArray.size + js.toArray.size ≤ sizeLine := by rw [List.size_toArray, List.size_toArray]; omega
  have hlong : ¬ (!is.toArray.isEmpty && Builtin.List.listTooLong (is.toArray.size + js.toArray.size)) = true := by
    rw [notLongL hsz, Bool.and_false]
    exact Bool.false_ne_true
  refine call_meets F.slot_list_extend ⟨_, e, rfl⟩ F.entry_list_extend (F.args_list_extend_2 _ _) (AutoSeq1.list_extend_list_tuple_0 l is.toArray n b js.toArray n2 hlong (by rw [List.size_toArray]; omega) (by omega)) ⟨e, e2, ?_⟩
  exact ⟨.non, _, I.lset (t' := s.toks) hH e (by simp) (r.append r2) (by rw [List.length_append]; exact hz), rfl, q⟩
theorem mt_indexT : MtR X "tuple.index" fun x xs H Q => ∃ (a : Addr) (ys : List V) (y : V) (j : Nat) (z : V), x = V.ref a ∧ xs = [y] ∧ SqT X.K H a ys ∧ flatV y = true ∧ ys.all flatV = true ∧ ys[j]? = some z ∧ eqV z y = true ∧
  (∀ (m : Nat) (z' : V), m < j → ys[m]? = some z' → eqV z' y = false) ∧ Q (.int (j : Nat)) H := by
  intro pins s σ H x xs v us Q I rx rxs hh
  obtain ⟨a, ys, y, j, z, rfl, rfl, hs, fy, fys, hz, hzj, hno, q⟩ := hh
  cases rx
  cases rxs with
  | cons ry rt =>
    rename_i uy ut
    cases rt
    obtain ⟨is, rv, ⟨⟨cls, dd, data, sl⟩, ho, hc, n, hd⟩, hlen⟩ := I.tuple hs
    simp only at hc hd
    subst hc hd
    obtain ⟨u, hu, ru⟩ := rv.get hz
    obtain ⟨hjl, hje⟩ := List.getElem?_eq_some_iff.mp hu
    have hvl := rv.length
    have hj : j < is.toArray.size := by simpa using hjl
    refine call_meets PySem.F.slot_tuple_index ⟨_, ho, rfl⟩ PySem.F.entry_tuple_index (PySem.F.args_tuple_index_2 _ _)
      (TI.tuple_indexAt a is.toArray n dd sl uy (eqU y) j hj ?_ ?_) ⟨ho, fun w hw => mem_eqAt ry fy rv fys w (by simpa using hw), ⟨.int (j : Nat), H, I.tok _, ⟨_, rfl⟩, q⟩⟩
    · have e1 : is.toArray[j] = u := by simpa using hje
      rw [e1, eqU_of ru (flat_at fys hz)]
      exact hzj
    · intro m hm hmj
      have hml : m < is.length := by simpa using hm
      have hmy : m < ys.length := by omega
      have hy' : ys[m]? = some ys[m] := List.getElem?_eq_getElem hmy
      obtain ⟨u2, hu2, ru2⟩ := rv.get hy'
      obtain ⟨_, hme⟩ := List.getElem?_eq_some_iff.mp hu2
      have e1 : is.toArray[m] = u2 := by simpa using hme
      rw [e1, eqU_of ru2 (flat_at fys hy')]
      exact hno m _ hmj hy'
theorem ixN_bounds {n : Nat} {i : Int} {j : Nat} (hn : n ≤ sizeLine) (e : ixN n i = some j) : -(2 ^ 63) ≤ i ∧ i < 2 ^ 63 := by
  obtain ⟨_, _, a, b⟩ := ixN_seq e
  rw [sizeLine_eq] at hn
  omega
theorem idx_parts {K : PySem.W.Frag} {mg : Str → Option Value} {loc : List Addr} {h : HS} {xs : List W} {y : W} {vs : List V} {u : V} {Q : VK} {Z : XK} (rel : Rel K mg loc h H) (q : RelWs K mg loc H xs vs) (r : RelW K mg loc H y u) (p : PostW K mg loc H (idxL xs y h) Q Z) :
    ∃ (j : Nat) (z : V), flatV u = true ∧ vs.all flatV = true ∧ vs[j]? = some z ∧ eqV z u = true ∧ (∀ (m : Nat) (z' : V), m < j → vs[m]? = some z' → eqV z' u = false) ∧ Q (.int (j : Nat)) H := by
  obtain ⟨g, p⟩ := post_guard p
  rw [Bool.and_eq_true] at g
  cases e : findI (fun x => eqP x y) xs 0 with
  | none => rw [e] at p; exact (show False from p).elim
  | some j =>
    rw [e] at p
    obtain ⟨_, ⟨z, b1, b2⟩, d⟩ := findI_spec e
    simp only [Nat.sub_zero] at b1 d
    obtain ⟨v, e1, r1⟩ := q.get b1
    have fl : ∀ {m : Nat} {w : W}, xs[m]? = some w → flatB w = true := fun {m w} e => List.all_eq_true.mp g.2 w (List.mem_of_getElem? e)
    refine ⟨j, v, flat_rel r g.1, flat_all q g.2, e1, by rw [eqV_rel r1 (fl b1) r g.1]; exact b2, fun m z' hm hz => ?_, post_int p rel⟩
    have hl := (List.getElem?_eq_some_iff.mp hz).1
    rw [q.length] at hl
    have hx : xs[m]? = some xs[m] := List.getElem?_eq_getElem hl
    obtain ⟨v', e', r'⟩ := q.get hx
    rw [hz] at e'
    cases e'
    rw [eqV_rel r' (fl hx) r g.1]
    exact d m hm _ hx
/-- a list's method -/
def MtOkL (X : Cx) (m : Mt) : Prop := MtR X (mtIdL m) fun x xs H Q => ∃ loc h n ws, Rel X.K X.mg loc h H ∧ RelW X.K X.mg loc H (.ref n) x ∧ RelWs X.K X.mg loc H ws xs ∧ ∃ Z, PostW X.K X.mg loc H (mtL m n ws h) Q Z
theorem ml_append : MtOkL X .append := by
  intro pins s σ H x xs v us Q I rx rv hh
  obtain ⟨loc, h, n, ws, rel, r1, r2, Z, p⟩ := hh
  obtain ⟨a, rfl, e1⟩ := un_ref r1
  rcases ws with _ | ⟨w, _ | ⟨w2, ws⟩⟩
  · exact (show False from p).elim
  rotate_left
  · exact (show False from p).elim
  · obtain ⟨y, t, rfl, q1, q2⟩ := r2.uncons
    rw [q2.unnil] at rv
    replace p : PostW X.K X.mg loc H (appO (h.get n) n w h) Q Z := p
    generalize g : h.get n = o at p
    cases o <;> first | exact (show False from p).elim | skip
    rename_i ys
    obtain ⟨vs, hl, q⟩ := obj_lst rel e1 g
    obtain ⟨gd, p⟩ := post_guard p
    have gd := of_decide_eq_true gd
    rw [lim_eq, ← q.length] at gd
    exact mt_append pins s σ H _ _ v us Q I rx rv ⟨a, vs, y, rfl, rfl, hl, gd, post_set rel e1 hl (q.append (.cons q1 .nil)) p relW_non⟩
theorem ml_pop : MtOkL X .pop := by
  intro pins s σ H x xs v us Q I rx rv hh
  obtain ⟨loc, h, n, ws, rel, r1, r2, Z, p⟩ := hh
  obtain ⟨a, rfl, e1⟩ := un_ref r1
  rcases ws with _ | ⟨w, _ | ⟨w2, ws⟩⟩
  · rw [r2.unnil] at rv
    replace p : PostW X.K X.mg loc H (popO (h.get n) n h) Q Z := p
    generalize g : h.get n = o at p
    cases o <;> first | exact (show False from p).elim | skip
    rename_i ys
    obtain ⟨vs, hl, q⟩ := obj_lst rel e1 g
    replace p : PostW X.K X.mg loc H (match ys[ys.length - 1]? with | some w => .ok w (h.set n (.lst ys.dropLast)) | none => .stuck) Q Z := p
    cases e : ys[ys.length - 1]? with
    | none => rw [e] at p; exact (show False from p).elim
    | some w =>
      rw [e] at p
      obtain ⟨y, e', r'⟩ := q.get e
      rw [← q.length] at e'
      exact mt_pop pins s σ H _ _ v us Q I rx rv ⟨a, vs, y, rfl, rfl, hl, e', post_set rel e1 hl q.dropLast p r'⟩
  · cases w <;> first | exact (show False from p).elim | skip
    case int i =>
      obtain ⟨y, t, rfl, q1, q2⟩ := r2.uncons
      rw [q2.unnil, un_int q1] at rv
      replace p : PostW X.K X.mg loc H (popAtO (h.get n) n i h) Q Z := p
      generalize g : h.get n = o at p
      cases o <;> first | exact (show False from p).elim | skip
      rename_i ys
      obtain ⟨vs, hl, q⟩ := obj_lst rel e1 g
      replace p : PostW X.K X.mg loc H (match ixN ys.length i with
        | some j => (match ys[j]? with
          | some w => .ok w (h.set n (.lst (ys.eraseIdx j)))
          | none => .stuck)
        | none => .stuck) Q Z := p
      cases e : ixN ys.length i with
      | none => rw [e] at p; exact (show False from p).elim
      | some j =>
        rw [e] at p
        dsimp only at p
        cases e2 : ys[j]? with
        | none => rw [e2] at p; exact (show False from p).elim
        | some w =>
          rw [e2] at p
          obtain ⟨y', e', r'⟩ := q.get e2
          rw [← q.length] at e
          obtain ⟨b1, b2⟩ := ixN_bounds (I.lstM hl).1 e
          exact mt_popAt pins s σ H _ _ v us Q I rx rv ⟨a, vs, i, j, y', rfl, rfl, hl, b1, b2, (ixN_seq e).1, e', post_set rel e1 hl (q.erase j) p r'⟩
  · cases w <;> exact (show False from p).elim
theorem ml_extend : MtOkL X .extend := by
  intro pins s σ H x xs v us Q I rx rv hh
  obtain ⟨loc, h, n, ws, rel, r1, r2, Z, p⟩ := hh
  obtain ⟨a, rfl, e1⟩ := un_ref r1
  rcases ws with _ | ⟨w, _ | ⟨w2, ws⟩⟩
  · exact (show False from p).elim
  rotate_left
  · cases w <;> exact (show False from p).elim
  · obtain ⟨y, t, rfl, q1, q2⟩ := r2.uncons
    rw [q2.unnil] at rv
    clear r2
    cases w <;> first | exact (show False from p).elim | skip
    case ref b =>
      obtain ⟨b', rfl, e2⟩ := un_ref q1
      replace p : PostW X.K X.mg loc H (extO (h.get n) (h.get b) n h) Q Z := p
      generalize g : h.get n = o at p
      generalize g2 : h.get b = o2 at p
      cases o <;> cases o2 <;> first | exact (show False from p).elim | skip
      rename_i ys zs
      obtain ⟨vs, hl, q⟩ := obj_lst rel e1 g
      obtain ⟨us2, hl2, q2'⟩ := obj_lst rel e2 g2
      obtain ⟨gd, p⟩ := post_guard p
      have gd := of_decide_eq_true gd
      rw [lim_eq, ← q.length, ← q2'.length] at gd
      exact mt_extend pins s σ H _ _ v us Q I rx rv ⟨a, b', vs, us2, rfl, rfl, hl, hl2, gd, post_set rel e1 hl (q.append q2') p relW_non⟩
    case tup zs =>
      obtain ⟨b', us2, rfl, tu, q2'⟩ := un_tup q1
      replace p : PostW X.K X.mg loc H (extT (h.get n) n zs h) Q Z := p
      generalize g : h.get n = o at p
      cases o <;> first | exact (show False from p).elim | skip
      rename_i ys
      obtain ⟨vs, hl, q⟩ := obj_lst rel e1 g
      obtain ⟨gd, p⟩ := post_guard p
      have gd := of_decide_eq_true gd
      rw [lim_eq, ← q.length, ← q2'.length] at gd
      exact mt_extX pins s σ H _ _ v us Q I rx rv ⟨a, b', vs, us2, rfl, rfl, hl, tu, gd, post_set rel e1 hl (q.append q2') p relW_non⟩
theorem ml_remove : MtOkL X .remove := by
  intro pins s σ H x xs v us Q I rx rv hh
  obtain ⟨loc, h, n, ws, rel, r1, r2, Z, p⟩ := hh
  obtain ⟨a, rfl, e1⟩ := un_ref r1
  rcases ws with _ | ⟨w, _ | ⟨w2, ws⟩⟩
  · exact (show False from p).elim
  rotate_left
  · cases w <;> exact (show False from p).elim
  · obtain ⟨y, t, rfl, q1, q2⟩ := r2.uncons
    rw [q2.unnil] at rv
    clear r2
    cases w <;> first | exact (show False from p).elim | skip
    case int k =>
      rw [un_int q1] at rv
      replace p : PostW X.K X.mg loc H (remO (h.get n) n k h) Q Z := p
      generalize g : h.get n = o at p
      cases o <;> first | exact (show False from p).elim | skip
      rename_i ys
      obtain ⟨vs, hl, q⟩ := obj_lst rel e1 g
      unfold remO at p
      cases e : intsOf ys with
      | none => simp only [e] at p; exact (show False from p).elim
      | some ns =>
        simp only [e] at p
        by_cases c : ns.contains k = true
        · rw [if_pos c] at p
          have ey := intsOf_map e
          subst ey
          rw [q.ints] at hl
          obtain ⟨j, _, h2, h3, h4⟩ := first_at (List.contains_iff_mem.mp c)
          refine mt_remove pins s σ H _ _ v us Q I rx rv ⟨a, ns, k, j, rfl, rfl, hl, h2, fun m hm => h3 m hm, ?_⟩
          rw [h4]
          exact post_set rel e1 hl (relWs_ints _) p relW_non
        · rw [if_neg c] at p
          exact (show False from p).elim
theorem ml_index : MtOkL X .index := by
  intro pins s σ H x xs v us Q I rx rv hh
  obtain ⟨loc, h, n, ws, rel, r1, r2, Z, p⟩ := hh
  obtain ⟨a, rfl, e1⟩ := un_ref r1
  rcases ws with _ | ⟨w, _ | ⟨w2, ws⟩⟩
  · exact (show False from p).elim
  rotate_left
  · exact (show False from p).elim
  · obtain ⟨y, t, rfl, q1, q2⟩ := r2.uncons
    rw [q2.unnil] at rv
    replace p : PostW X.K X.mg loc H (idxO (h.get n) w h) Q Z := p
    generalize g : h.get n = o at p
    cases o <;> first | exact (show False from p).elim | skip
    all_goals
      rename_i ys
      obtain ⟨vs, s1, q⟩ := obj_sql rel e1 (by first | exact .inl g | exact .inr g)
      obtain ⟨j, z, a1, a2, a3, a4, a5, a6⟩ := idx_parts rel q q1 p
      exact mt_index pins s σ H _ _ v us Q I rx rv ⟨a, vs, y, j, z, rfl, rfl, s1, a1, a2, a3, a4, a5, a6⟩
theorem ml_reverse : MtOkL X .reverse := by
  intro pins s σ H x xs v us Q I rx rv hh
  obtain ⟨loc, h, n, ws, rel, r1, r2, Z, p⟩ := hh
  obtain ⟨a, rfl, e1⟩ := un_ref r1
  rcases ws with _ | ⟨w, ws⟩
  · rw [r2.unnil] at rv
    replace p : PostW X.K X.mg loc H (revO (h.get n) n h) Q Z := p
    generalize g : h.get n = o at p
    cases o <;> first | exact (show False from p).elim | skip
    rename_i ys
    obtain ⟨vs, hl, q⟩ := obj_lst rel e1 g
    exact mt_reverse pins s σ H _ _ v us Q I rx rv ⟨a, vs, rfl, rfl, hl, post_set rel e1 hl q.reverse p relW_non⟩
  · exact (show False from p).elim
theorem ml_insert : MtOkL X .insert := by
  intro pins s σ H x xs v us Q I rx rv hh
  obtain ⟨loc, h, n, ws, rel, r1, r2, Z, p⟩ := hh
  obtain ⟨a, rfl, e1⟩ := un_ref r1
  rcases ws with _ | ⟨wi, _ | ⟨w, _ | ⟨w3, ws⟩⟩⟩
  · exact (show False from p).elim
  · cases wi <;> exact (show False from p).elim
  rotate_left
  · cases wi <;> exact (show False from p).elim
  · cases wi <;> first | exact (show False from p).elim | skip
    case int i =>
      obtain ⟨y0, t0, rfl, q0, q3⟩ := r2.uncons
      obtain ⟨y, t, rfl, q1, q2⟩ := q3.uncons
      rw [q2.unnil, un_int q0] at rv
      replace p : PostW X.K X.mg loc H (insO (h.get n) n i w h) Q Z := p
      generalize g : h.get n = o at p
      cases o <;> first | exact (show False from p).elim | skip
      rename_i ys
      obtain ⟨vs, hl, q⟩ := obj_lst rel e1 g
      obtain ⟨gd, p⟩ := post_guard p
      rw [Bool.and_eq_true, Bool.and_eq_true] at gd
      have g1 := of_decide_eq_true gd.1
      have g2 := of_decide_eq_true gd.2.1
      have g3 := iLt_iff.mp gd.2.2
      rw [lim_eq, ← q.length] at g1
      exact mt_insert pins s σ H _ _ v us Q I rx rv ⟨a, vs, i, y, rfl, rfl, hl, g1, g2, by omega, post_set rel e1 hl (((q.take i.toNat).append (.cons q1 .nil)).append (q.drop i.toNat)) p relW_non⟩
theorem ml_sw : MtOkL X .startswith := by
  intro pins s σ H x xs v us Q I rx rv hh
  obtain ⟨loc, h, n, ws, rel, r1, r2, Z, p⟩ := hh
  exact (show False from p).elim
theorem ml_all (m : Mt) : MtOkL X m := by
  cases m <;> first | exact ml_append | exact ml_pop | exact ml_extend | exact ml_remove | exact ml_index | exact ml_reverse | exact ml_insert | exact ml_sw
theorem mt_tupI : MtR X "tuple.index" fun x xs H Q => ∃ loc h ys ws, Rel X.K X.mg loc h H ∧ RelW X.K X.mg loc H (.tup ys) x ∧ RelWs X.K X.mg loc H ws xs ∧ ∃ Z, PostW X.K X.mg loc H (mtT .index ys ws h) Q Z := by
  intro pins s σ H x xs v us Q I rx rv hh
  obtain ⟨loc, h, ys, ws, rel, r1, r2, Z, p⟩ := hh
  obtain ⟨a, vs, rfl, tu, q⟩ := un_tup r1
  rcases ws with _ | ⟨w, _ | ⟨w2, ws⟩⟩
  · exact (show False from p).elim
  rotate_left
  · exact (show False from p).elim
  · obtain ⟨y, t, rfl, q1, q2⟩ := r2.uncons
    rw [q2.unnil] at rv
    replace p : PostW X.K X.mg loc H (idxL ys w h) Q Z := p
    obtain ⟨j, z, a1, a2, a3, a4, a5, a6⟩ := idx_parts rel q q1 p
    exact mt_indexT pins s σ H _ _ v us Q I rx rv ⟨a, vs, y, j, z, rfl, rfl, tu.sq, a1, a2, a3, a4, a5, a6⟩
/-- where a method is looked up -/
structure MtAt (X : Cx) (s : Shared) (m : Mt) (v : Value) (T id : String) : Prop where
  pa : PlainAttrs T
  slot : Slot T (mtNm m) id
  ty : typeOf (.builtin id) = pure (.type "method_descriptor")
  ti : s.TypeIs v T
  di : ∀ a, v = .ref a → ∃ ob, s.heap.get? a = some ob ∧ ob.dict = none
theorem mt_atL (m : Mt) (hm : strM m = false) {v : Value} (ti : s.TypeIs v "list") (di : ∀ a, v = .ref a → ∃ ob, s.heap.get? a = some ob ∧ ob.dict = none) : MtAt X s m v "list" (mtIdL m) := by
  cases m
  · exact ⟨PySem.F.plainAttrs_list, PySem.F.slot_list_append, PySem.F.type_list_append, ti, di⟩
  · exact ⟨PySem.F.plainAttrs_list, PySem.F.slot_list_pop, PySem.F.type_list_pop, ti, di⟩
  · exact ⟨PySem.F.plainAttrs_list, PySem.F.slot_list_extend, PySem.F.type_list_extend, ti, di⟩
  · exact ⟨PySem.F.plainAttrs_list, PySem.F.slot_list_remove, PySem.F.type_list_remove, ti, di⟩
  · exact ⟨PySem.F.plainAttrs_list, PySem.F.slot_list_index, PySem.F.type_list_index, ti, di⟩
  · exact ⟨PySem.F.plainAttrs_list, PySem.F.slot_list_reverse, PySem.F.type_list_reverse, ti, di⟩
  · exact ⟨PySem.F.plainAttrs_list, PySem.F.slot_list_insert, PySem.F.type_list_insert, ti, di⟩
  · cases hm
/-- the method of a value: looked up at one time, called at another -/
theorem mt_lookup {m : Mt} {loc : List Addr} {h : HS} {w : W} {x : V} {v : Value} (I : Inv X pins σ H s) (rel : Rel X.K X.mg loc h H) (r : RelW X.K X.mg loc H w x) (rx : RelV x v) (g : mtRec m w h = true) :
    ∃ T id, MtAt X s m v T id ∧ MtR X id fun x' xs H Q => ∃ loc h ws, Rel X.K X.mg loc h H ∧ RelW X.K X.mg loc H w x' ∧ RelWs X.K X.mg loc H ws xs ∧ ∃ Z, PostW X.K X.mg loc H (mtW m w ws h) Q Z := by
  cases w with
  | ref n =>
    obtain ⟨a, rfl, e1⟩ := un_ref r
    obtain rfl : v = Value.ref a := rx
    have g : (isLst (h.get n) && !strM m) = true := g
    rw [Bool.and_eq_true, Bool.not_eq_true'] at g
    obtain ⟨g, gm⟩ := g
    have hs : ∃ vs, SqL X.K H a vs := by
      generalize go : h.get n = o at g
      cases o with
      | lst ws => obtain ⟨vs, q, _⟩ := obj_sql rel e1 (.inl go); exact ⟨vs, q⟩
      | frz ws => obtain ⟨vs, q, _⟩ := obj_sql rel e1 (.inr go); exact ⟨vs, q⟩
      | _ => cases g
    obtain ⟨vs, hq⟩ := hs
    obtain ⟨is, _, pl, _⟩ := I.list hq
    refine ⟨_, _, mt_atL m gm pl.isList.typeIs fun b e => ?_, ?_⟩
    · cases e
      obtain ⟨o, n, e, c, hd, _⟩ := pl
      exact ⟨o, e, hd⟩
    · intro pins s σ H x' xs v us Q I rx rv hh
      obtain ⟨loc, h, ws, rel, r1, r2, Z, p⟩ := hh
      exact ml_all m pins s σ H x' xs v us Q I rx rv ⟨loc, h, n, ws, rel, r1, r2, Z, p⟩
  | tup ys =>
    obtain ⟨a, vs, rfl, tu, q⟩ := un_tup r
    obtain rfl : v = Value.ref a := rx
    obtain ⟨is, n, _, e, _⟩ := Tu.obj I tu
    cases m <;> first | cases g | skip
    refine ⟨"tuple", "tuple.index", ⟨PySem.F.plainAttrs_tuple, PySem.F.slot_tuple_index, PySem.F.type_tuple_index, ⟨_, e, rfl⟩, fun b e' => ?_⟩, ?_⟩
    · cases e'
      exact ⟨_, e, rfl⟩
    · intro pins s σ H x' xs v us Q I rx rv hh
      obtain ⟨loc, h, ws, rel, r1, r2, Z, p⟩ := hh
      exact mt_tupI pins s σ H x' xs v us Q I rx rv ⟨loc, h, ys, ws, rel, r1, r2, Z, p⟩
  | str y =>
    have ev := un_str r
    subst ev
    obtain ⟨t, rfl⟩ := rx
    cases m <;> first | cases g | skip
    refine ⟨"str", "str.startswith", ⟨PySem.F.plainAttrs_str, PySem.F.slot_str_startswith, PySem.F.type_str_startswith, PySem.typeIs_str _ _ _, fun b e' => by cases e'⟩, ?_⟩
    intro pins s σ H x' xs v us Q I rx rv hh
    obtain ⟨loc, h, ws, rel, r1, r2, Z, p⟩ := hh
    rw [un_str r1] at rx
    rcases ws with _ | ⟨w, _ | ⟨w2, ws⟩⟩
    · exact (show False from p).elim
    rotate_left
    · cases w <;> exact (show False from p).elim
    · cases w <;> first | exact (show False from p).elim | skip
      case str z =>
        obtain ⟨y', t', rfl, q1, q2⟩ := r2.uncons
        rw [q2.unnil, un_str q1] at rv
        exact mt_startswith pins s σ H _ _ v us Q I rx rv ⟨y, z, rfl, rfl, post_bl p rel⟩
  | non => cases g
  | bl _ => cases g
  | int _ => cases g
  | gl _ => cases g
  | ty _ => cases g
end
end Rh
/-! Rh6: the evaluator over the syntax. -/
namespace Rh
open PySem L2

/-- where a parameter's value comes from -/
inductive Src where
  | pos (i : Nat) | kw (i : Nat) | dfl (w : W)
/-- a def of the module: its parameters, its slots, its text, the shapes of its calls -/
structure FI where
  ps : List Str
  N : List Str
  st : Stmt
  shapes : List (Nat × List Str × List Src)
structure Glob where
  fns : List (Str × FI)
  cons : List (Str × W)
  dcts : Dcts
  excs : List (Str × List Str)
  blt : List Str
structure Inf where
  N : List Str
  sc : Scope
  fn : Str → Bool
def ixOf (x : Str) : List Str → Option Nat
  | [] => none
  | y :: r => if x = y then some 0 else (ixOf x r).map (· + 1)
/-- iterables -/
inductive Itd where
  | vals (ws : List W) | live (a : Nat) | enum (a : Nat)
def Itd.nth (d : Itd) (h : HS) (i : Nat) : Option (Option W) := match d with
  | .vals ws => some ws[i]?
  | .live a => (flO (h.get a)).map fun xs => xs[i]?
  | .enum a => (flO (h.get a)).map fun xs => xs[i]?.map fun x => .tup [.int i, x]
def chrs (x : Str) : List W := x.cps.toList.map fun c => W.str ⟨#[c]⟩
def rng3 (lo c : Int) (n : Nat) : List W := (List.range n).map fun k : Nat => W.int (lo + (k : Int) * c)
def rng (lo : Int) (n : Nat) : List W := (List.range n).map fun k : Nat => W.int (lo + (k : Int))
abbrev IM := Fr → HS → R Itd
structure Ev where
  E : Inf → Expr → EM
  T : Inf → Expr → BM
  As : Inf → List Expr → AM
  S : Inf → Stmt → SM
  B : Inf → List Stmt → SM
@[irreducible] def FUEL : Nat := 1000000

/-! ### pieces -/
def slotE (i : Nat) : EM := fun σ h => optR (getS σ i) h
def valE (w : W) : EM := fun _ h => .ok w h
def stuckE : EM := fun _ _ => .stuck
def ofB : Str := "010b"
def constE (c : Const) : EM := match c with
  | .none => valE .non
  | .bool b => valE (.bl b)
  | .int i => valE (.int i)
  | .str x => valE (.str x)
  | _ => stuckE
def btyOf (x : Str) : Option String :=
  if x = "int" then some "int" else if x = "bool" then some "bool" else if x = "str" then some "str" else
  if x = "tuple" then some "tuple" else if x = "list" then some "list" else if x = "dict" then some "dict" else none
def biOf (x : Str) : Option Bi :=
  if x = "len" then some .len else if x = "abs" then some .abs else if x = "int" then some .int else if x = "list" then some .list else
  if x = "tuple" then some .tuple else if x = "isinstance" then some .isinstance else if x = "max" then some .max else if x = "min" then some .min else
  if x = "sorted" then some .sorted else if x = "str" then some .str else none
def mtOf (x : Str) : Option Mt :=
  if x = "append" then some .append else if x = "pop" then some .pop else if x = "extend" then some .extend else
  if x = "remove" then some .remove else if x = "index" then some .index else if x = "reverse" then some .reverse else
  if x = "insert" then some .insert else if x = "startswith" then some .startswith else none
def globE (G : Glob) (x : Str) : EM := match G.cons.lookup x with
  | some w => valE w
  | none => if (G.dcts.lookup x).isSome then valE (.gl x) else if G.blt.contains x then (match btyOf x with
    | some n => valE (.ty n)
    | none => stuckE) else stuckE
def isDbg (x : Str) : Bool := (x == ("__debug__" : Str)) || (x == ("__classdict__" : Str))
def nameE (G : Glob) (I : Inf) (x : Str) : EM := if isDbg x then stuckE else match I.sc.names.lookup x with
  | some .local => (match ixOf x I.N with | some i => slotE i | none => stuckE)
  | some .cell => (match ixOf x I.N with | some i => slotE i | none => stuckE)
  | some .free => (match ixOf x I.N with | some i => slotE i | none => stuckE)
  | some .globalImplicit => globE G x
  | _ => stuckE
def isGlob (I : Inf) (x : Str) : Bool := !isDbg x && (I.sc.names.lookup x == some .globalImplicit)
/-- the slot that is stored under a name -/
def storeIx (I : Inf) (x : Str) : Option Nat := match I.sc.names.lookup x with
  | some .local => ixOf x I.N
  | some .cell => if I.fn x then ixOf x I.N else none
  | _ => none
def binE (f : W → W → HS → R W) (a b : EM) : EM := fun σ h => (a σ h).bind fun x h => (b σ h).bind fun y h => f x y h
def unE (f : W → HS → R W) (a : EM) : EM := fun σ h => (a σ h).bind fun x h => f x h
def cmpE (f : W → W → HS → R Bool) (a b : EM) : EM := fun σ h => (a σ h).bind fun x h => (b σ h).bind fun y h => (f x y h).bind fun c h => .ok (.bl c) h
def cmpT (f : W → W → HS → R Bool) (a b : EM) : BM := fun σ h => (a σ h).bind fun x h => (b σ h).bind fun y h => f x y h
def chainE (f g : W → W → HS → R Bool) (a b c : EM) : EM := fun σ h => (a σ h).bind fun x h => (b σ h).bind fun y h => (f x y h).bind fun k h => match k with
  | true => (c σ h).bind fun z h => (g y z h).bind fun c h => .ok (.bl c) h
  | false => .ok (.bl false) h
def chainT (f g : W → W → HS → R Bool) (a b c : EM) : BM := fun σ h => (a σ h).bind fun x h => (b σ h).bind fun y h => (f x y h).bind fun k h => match k with
  | true => (c σ h).bind fun z h => g y z h
  | false => .ok false h
def andE (a b : EM) : EM := fun σ h => (a σ h).bind fun x h => (truR x h).bind fun k h => match k with
  | true => b σ h
  | false => .ok x h
def orE (a b : EM) : EM := fun σ h => (a σ h).bind fun x h => (truR x h).bind fun k h => match k with
  | true => .ok x h
  | false => b σ h
def notE (a : EM) : EM := fun σ h => (a σ h).bind fun x h => (truR x h).bind fun k h => .ok (.bl (!k)) h
def ifE (c : BM) (a b : EM) : EM := fun σ h => (c σ h).bind fun k h => match k with
  | true => a σ h
  | false => b σ h
def truT (a : EM) : BM := fun σ h => (a σ h).bind fun x h => truR x h
def andT (a b : BM) : BM := fun σ h => (a σ h).bind fun k h => match k with
  | true => b σ h
  | false => .ok false h
def orT (a b : BM) : BM := fun σ h => (a σ h).bind fun k h => match k with
  | true => .ok true h
  | false => b σ h
def notT (a : BM) : BM := fun σ h => (a σ h).bind fun k h => .ok (!k) h
def nilA : AM := fun _ h => .ok [] h
def consA (a : EM) (r : AM) : AM := fun σ h => (a σ h).bind fun x h => (r σ h).bind fun xs h => .ok (x :: xs) h
def seqW (x : W) (h : HS) : Option (List W) := match x with
  | .tup xs => some xs
  | .ref a => flO (h.get a)
  | _ => none
def starA (a : EM) (r : AM) : AM := fun σ h => (a σ h).bind fun x h => (optR (seqW x h) h).bind fun xs h => (r σ h).bind fun ys h => .ok (xs ++ ys) h
def tupE (a : AM) : EM := fun σ h => (a σ h).bind fun xs h => guardR (decide (xs.length ≤ LIM)) (.ok (.tup xs) h)
/-- {'k': 'v'} -/
def dicE (k v : Str) : EM := fun _ h => .ok (.ref h.sz) (h.push (.dic [(.inr k, .str v)]))
def lstE (a : AM) : EM := fun σ h => (a σ h).bind fun xs h => guardR (decide (xs.length ≤ LIM)) (newL xs h)
def callE (f : List W → HS → R W) (a : AM) : EM := fun σ h => (a σ h).bind fun xs h => f xs h
def callK (f : List W → List W → HS → R W) (a k : AM) : EM := fun σ h => (a σ h).bind fun xs h => (k σ h).bind fun ys h => f xs ys h
def methE (m : Mt) (o : EM) (a : AM) : EM := fun σ h => (o σ h).bind fun x h => guardR (mtRec m x h) ((a σ h).bind fun xs h => mtW m x xs h)
abbrev PM := Fr → HS → R (Option Int)
def noP : PM := fun _ h => .ok none h
def someP (a : EM) : PM := fun σ h => (a σ h).bind fun x h => intOf x h
def sliceE (o : EM) (l u : PM) : EM := fun σ h => (o σ h).bind fun x h => (l σ h).bind fun lo h => (u σ h).bind fun hi h => slW x lo hi h
def fmtE (a : EM) : EM := fun σ h => (a σ h).bind fun x h => (optR (fmtW x) h).bind fun s h => .ok (.str s) h
/-- the parts of an f-string -/
def joinE : Str → List EM → EM
  | acc, [] => fun _ h => .ok (.str acc) h
  | acc, a :: r => fun σ h => (a σ h).bind fun x h => match x with
    | .str y => if (acc ++ y).length ≤ LIM then joinE (acc ++ y) r σ h else .stuck
    | _ => .stuck

/-! ### calls -/
def pick (ws zs : List W) : List Src → Option (List W)
  | [] => some []
  | .pos i :: r => (ws[i]?).bind fun w => (pick ws zs r).map (w :: ·)
  | .kw i :: r => (zs[i]?).bind fun w => (pick ws zs r).map (w :: ·)
  | .dfl w :: r => (pick ws zs r).map (w :: ·)
def shapeOf (fi : FI) (n : Nat) (ks : List Str) : Option (List Src) := (fi.shapes.find? fun s => s.1 == n && s.2.1 == ks).map (·.2.2)
def fnC (cf : Str → List W → HS → R W) (x : Str) (src : List Src) (ws zs : List W) (h : HS) : R W := match pick ws zs src with
  | some vs => cf x vs h
  | none => .stuck
def isStar : Expr → Bool
  | .Starred _ _ => true
  | _ => false
def kwNames (kws : List Keyword) : Option (List Str) := match kws with
  | [] => some []
  | ⟨some x, _, _⟩ :: r => (kwNames r).map (x :: ·)
  | _ => none

/-! ### targets -/
/-- names of a target, with their slots -/
def tgNames (I : Inf) : List Expr → Option (List (Str × Nat))
  | [] => some []
  | .Name x _ :: r => (storeIx I x).bind fun i => (tgNames I r).map ((x, i) :: ·)
  | _ => none
inductive Tg where
  | one (i : Nat) | row (is : List Nat)
def tgOf (I : Inf) (e : Expr) : Option (List (Str × Nat) × Tg) := match e with
  | .Name x _ => (storeIx I x).map fun i => ([(x, i)], .one i)
  | .Tuple es _ _ => (tgNames I es).map fun l => (l, .row (l.map (·.2)))
  | _ => none
def setAll : Fr → List Nat → List W → Option Fr
  | σ, [], [] => some σ
  | σ, i :: is, w :: ws => setAll (setS σ i (some w)) is ws
  | _, _, _ => none
def Tg.put (t : Tg) (w : W) (σ : Fr) : Option Fr := match t with
  | .one i => some (setS σ i (some w))
  | .row is => match w with
    | .tup ws => setAll σ is ws
    | _ => none

/-! ### loops -/
def forM (d : Itd) (t : Tg) (body : SM) : Nat → Nat → SM
  | 0, _ => fun _ _ => .stuck
  | n + 1, i => fun σ h => match d.nth h i with
    | none => .stuck
    | some none => .nx σ h
    | some (some w) => match t.put w σ with
      | none => .stuck
      | some σ1 => match body σ1 h with
        | .nx σ2 h2 => forM d t body n (i + 1) σ2 h2
        | .ct σ2 h2 => forM d t body n (i + 1) σ2 h2
        | .bk σ2 h2 => .nx σ2 h2
        | r => r
def whileM (c : BM) (body : SM) : Nat → SM
  | 0 => fun _ _ => .stuck
  | n + 1 => fun σ h => (c σ h).toS σ fun k h => match k with
    | false => .nx σ h
    | true => match body σ h with
      | .nx σ2 h2 => whileM c body n σ2 h2
      | .ct σ2 h2 => whileM c body n σ2 h2
      | .bk σ2 h2 => .nx σ2 h2
      | r => r
/-- exceptions don't leave a comprehension -/
def R.noexc {α : Type} (r : R α) : R α := match r with
  | .exc _ _ => .stuck
  | r => r
/-- a comprehension's turns: acc holds what is made so far; vs: the slots of its own names -/
def lcM (d : Itd) (t : Tg) (vs : List Nat) (c : BM) (e : EM) (σ : Fr) : Nat → Nat → List W → HS → R W
  | 0, _, _, _ => .stuck
  | n + 1, i, acc, h => match d.nth h i with
    | none => .stuck
    | some none => newL acc h
    | some (some w) => match t.put w (wipeW σ vs) with
      | none => .stuck
      | some σ1 => match c σ1 h with
        | .ok true h1 => (match e σ1 h1 with
          | .ok y h2 => if acc.length < LIM then lcM d t vs c e σ n (i + 1) (acc ++ [y]) h2 else .stuck
          | _ => .stuck)
        | .ok false h1 => lcM d t vs c e σ n (i + 1) acc h1
        | _ => .stuck
def yesT : BM := fun _ h => .ok true h

/-! ### statements -/
def skipS : SM := fun σ h => .nx σ h
def stuckS : SM := fun _ _ => .stuck
def seqS (a b : SM) : SM := fun σ h => (a σ h).bind b
def ifS (c : BM) (a b : SM) : SM := fun σ h => (c σ h).toS σ fun k h => match k with
  | true => a σ h
  | false => b σ h
def exprS (a : EM) : SM := fun σ h => (a σ h).toS σ fun _ h => .nx σ h
def retS (a : EM) : SM := fun σ h => (a σ h).toS σ fun w h => .rt w h
def asgS (t : Tg) (a : EM) : SM := fun σ h => (a σ h).toS σ fun w h => match t.put w σ with
  | some σ1 => .nx σ1 h
  | none => .stuck
def asgIx (o i e : EM) : SM := fun σ h => (e σ h).toS σ fun w h => (o σ h).toS σ fun x h => (i σ h).toS σ fun y h => (putW x y w h).toS σ fun _ h => .nx σ h
def augS (f : W → W → HS → R W) (i : Nat) (e : EM) : SM := fun σ h => (optR (getS σ i) h).toS σ fun x h => (e σ h).toS σ fun y h => (f x y h).toS σ fun z h => .nx (setS σ i (some z)) h
def ixLO (o : O) (i : Int) (h : HS) : R W := match o with
  | .lst xs => optR (atI xs i) h
  | _ => .stuck
def ixL (x y : W) (h : HS) : R W := match x, y with
  | .ref a, .int i => ixLO (h.get a) i h
  | _, _ => .stuck
def augIx (f : W → W → HS → R W) (o i e : EM) : SM := fun σ h => (o σ h).toS σ fun x h => (i σ h).toS σ fun y h => (ixL x y h).toS σ fun z h => (e σ h).toS σ fun v h => (f z v h).toS σ fun w h =>
  (putW x y w h).toS σ fun _ h => .nx σ h
def forS (it : IM) (t : Tg) (body : SM) : SM := fun σ h => (it σ h).toS σ fun d h => forM d t body FUEL 0 σ h
def whileS (c : BM) (body : SM) : SM := whileM c body FUEL
def raiseS (x : Str) (a : EM) : SM := fun σ h => (a σ h).toS σ fun _ h => .exc ⟨x, []⟩ σ h
/-- except clauses: (class, suite) -/
def catchS (G : Glob) (x : Exn) : List (Str × SM) → SM
  | [] => fun σ h => .exc x σ h
  | (c, s) :: r => match G.excs.lookup x.cls with
    | some anc => if anc.contains c then s else catchS G x r
    | none => fun _ _ => .stuck
def tryS (G : Glob) (body : SM) (hs : List (Str × SM)) : SM := fun σ h => match body σ h with
  | .exc x σ1 h1 => catchS G x hs σ1 h1
  | r => r
/-- except x as n: a list of isinstance(n, C) -/
def catchAs (G : Glob) (x : Exn) (c : Str) (i j : Nat) (cs : List Str) : SM := fun σ h => match G.excs.lookup x.cls with
  | some anc => if anc.contains c then (if x.fs.isEmpty && (anc.contains x.cls && decide (i < σ.length)) then .nx (setS (setS σ j (some (.ref h.sz))) i none) (h.push (.lst (cs.map fun c => .bl (anc.contains c)))) else .stuck) else .exc x σ h
  | none => .stuck
def tryAs (G : Glob) (body : SM) (c : Str) (i j : Nat) (cs : List Str) : SM := fun σ h => match body σ h with
  | .exc x σ1 h1 => catchAs G x c i j cs σ1 h1
  | r => r
def isiC (G : Glob) (I : Inf) (n : Str) : List Expr → Option (List Str)
  | [] => some []
  | .Call (.Name f _) [.Name m _, .Name c _] [] _ :: es => if f = "isinstance" ∧ m = n ∧ G.blt.contains f = true ∧ isGlob I f = true ∧ isGlob I c = true ∧ (G.excs.lookup c).isSome = true then (isiC G I n es).map (c :: ·) else none
  | _ => none
def asForm (G : Glob) (I : Inf) : List ExceptHandler → Option (Str × Nat × Nat × List Str)
  | [.ExceptHandler (some (.Name x _)) (some n) [.Assign [.Name y _] (.List es _) _] _] => (match storeIx I n, storeIx I y, isiC G I n es with
    | some i, some j, some cs => if i ≠ j ∧ I.sc.names.lookup n = some .local ∧ isDbg n = false ∧ isGlob I x = true ∧ (G.excs.lookup x).isSome = true ∧ cs.length < LIM then some (x, i, j, cs) else none
    | _, _, _ => none)
  | _ => none
/-- what a match's case asks -/
inductive Pt where
  | val (w : W) | any
def matchL (w : W) : List (Pt × SM) → SM
  | [] => fun σ h => .nx σ h
  | (.any, s) :: _ => s
  | (.val p, s) :: r => fun σ h => match eqW w p h with
    | some true => s σ h
    | some false => matchL w r σ h
    | none => .stuck
def matchS (a : EM) (cs : List (Pt × SM)) : SM := fun σ h => (a σ h).toS σ fun w h => matchL w cs σ h

/-! ### iterables -/
def rangeI (m : AM) : IM := fun σ h => (m σ h).bind fun ws h => match ws with
  | [.int j] => guardR (iLt j (2 ^ 62)) (.ok (.vals (rng 0 j.toNat)) h)
  | _ => .stuck
def rangeI2 (m : AM) : IM := fun σ h => (m σ h).bind fun ws h => match ws with
  | [.int i, .int j] => guardR (iLt i (2 ^ 62) && iLt j (2 ^ 62)) (.ok (.vals (rng i (j - i).toNat)) h)
  | _ => .stuck
def enumI (m : AM) : IM := fun σ h => (m σ h).bind fun ws h => match ws with
  | [.ref b] => guardR (isLst (h.get b)) (.ok (.enum b) h)
  | _ => .stuck
def anyI (m : EM) : IM := fun σ h => (m σ h).bind fun x h => match x with
  | .tup ws => .ok (.vals ws) h
  | .ref a => guardR (isLst (h.get a)) (.ok (.live a) h)
  | .str x => .ok (.vals (chrs x)) h
  | _ => .stuck
/-- range with a step down -/
def rangeI3 (m : AM) : IM := fun σ h => (m σ h).bind fun ws h => match ws with
  | [.int i, .int j, .int c] => guardR (decide (c = -1) && (iLt i 1000000 && iLt j 1000000)) (.ok (.vals (rng3 i (-1) (i - j).toNat)) h)
  | _ => .stuck
/-- a comprehension with a plain name -/
def lcE (it : IM) (i : Nat) (c : BM) (e : EM) : EM := fun σ h => (it σ h).bind fun d h => lcM d (.one i) [i] c e σ FUEL 0 [] h

/-! ### the step -/
section
variable (G : Glob) (cf : Str → List W → HS → R W) (r : Ev) (I : Inf)
def partE (e : Option Expr) : PM := match e with
  | none => noP
  | some e => someP (r.E I e)
def kwA : List Keyword → AM
  | [] => nilA
  | k :: ks => consA (r.E I k.value) (kwA ks)
def fmtsE : List Expr → Option (List EM)
  | [] => some []
  | .Constant (.str x) _ _ :: t => (fmtsE t).map (valE (.str x) :: ·)
  | .FormattedValue e (-1) none _ :: t => (fmtsE t).map (fmtE (r.E I e) :: ·)
  | _ => none
def isTupE : Expr → Bool
  | .Tuple _ _ _ => true
  | _ => false
def itE (tg e : Expr) : IM := match e with
  | .Call (.Name x _) [a] [] _ =>
    if x = "range" then (if isGlob I x && G.blt.contains x && !isStar a then rangeI (r.As I [a]) else fun _ _ => .stuck)
    else if x = "enumerate" then (if isTupE tg && isGlob I x && G.blt.contains x && !isStar a then enumI (r.As I [a]) else fun _ _ => .stuck)
    else anyI (r.E I e)
  | .Call (.Name x _) [a, b] [] _ =>
    if x = "range" then (if isGlob I x && G.blt.contains x && !isStar a && !isStar b then rangeI2 (r.As I [a, b]) else fun _ _ => .stuck)
    else anyI (r.E I e)
  | .Call (.Name x _) [a, b, c] [] _ =>
    if x = "range" then (if isGlob I x && G.blt.contains x && !isStar a && !isStar b && !isStar c then rangeI3 (r.As I [a, b, c]) else fun _ _ => .stuck)
    else anyI (r.E I e)
  | e => anyI (r.E I e)
def isOne : Tg → Bool
  | .one _ => true
  | .row _ => false
def isSetE : Expr → Bool
  | .Set _ _ _ => true
  | _ => false
def compE (elt : Expr) (gs : List Comprehension) (scope : Scope) : EM := match gs with
  | [⟨tg, iter, ifs, 0⟩] =>
    let I' : Inf := ⟨I.N, relS scope I.sc, fun x => scope.names.lookup x == some .cell⟩
    match tgOf I' tg with
    | none => stuckE
    | some (own, t) => if blkC I.N I.sc scope own && isOne t && !isSetE iter then
        (match ifs with
        | [] => fun σ h => (itE G r I tg iter σ h).bind fun d h => lcM d t (own.map (·.2)) yesT (r.E I' elt) σ FUEL 0 [] h
        | [c] => fun σ h => (itE G r I tg iter σ h).bind fun d h => lcM d t (own.map (·.2)) (r.T I' c) (r.E I' elt) σ FUEL 0 [] h
        | _ => stuckE) else stuckE
  | _ => stuckE
def callName (x : Str) (args : List Expr) (kws : List Keyword) : EM := if !isGlob I x || args.any isStar then stuckE else
  match G.fns.lookup x with
  | some fi => (match kwNames kws with
    | none => stuckE
    | some ks => match shapeOf fi args.length ks with
      | none => stuckE
      | some src => callK (fnC cf x src) (r.As I args) (kwA r I kws))
  | none => if G.blt.contains x && kws.isEmpty && !args.isEmpty then (match biOf x with
    | some n => callE (biW n) (r.As I args)
    | none => stuckE) else stuckE
def stepE (e : Expr) : EM := match e with
  | .Constant c _ _ => constE c
  | .Name x _ => nameE G I x
  | .BoolOp _ [a] _ => r.E I a
  | .BoolOp .And (a :: b :: rest) pos => andE (r.E I a) (r.E I (.BoolOp .And (b :: rest) pos))
  | .BoolOp .Or (a :: b :: rest) pos => orE (r.E I a) (r.E I (.BoolOp .Or (b :: rest) pos))
  | .BinOp a op b _ => binE (binW op) (r.E I a) (r.E I b)
  | .UnaryOp .Not a _ => notE (r.E I a)
  | .UnaryOp .USub a _ => unE negW (r.E I a)
  | .IfExp c a b _ => ifE (r.T I c) (r.E I a) (r.E I b)
  | .Compare a [op] [b] _ => if behindInMarks op b then stuckE else cmpE (cmpR G.dcts op) (r.E I a) (r.E I b)
  | .Compare a [op, op'] [b, c] _ => if behindInMarks op' c then stuckE else chainE (cmpR G.dcts op) (cmpR G.dcts op') (r.E I a) (r.E I b) (r.E I c)
  | .Subscript a (.Slice l u none _) _ => sliceE (r.E I a) (partE r I l) (partE r I u)
  | .Subscript a b _ => (match b with
    | .Slice _ _ _ _ => stuckE
    | _ => binE (ixW G.dcts) (r.E I a) (r.E I b))
  | .Tuple es _ _ => tupE (r.As I es)
  | .List es _ => lstE (r.As I es)
  | .Dict [some (.Constant (.str k) _ _)] [.Constant (.str v) _ _] _ => dicE k v
  | .ListComp elt gs scope _ => compE G r I elt gs scope
  | .JoinedStr [.FormattedValue a (-1) (some (.JoinedStr [.Constant (.str z) _ _] _)) _] _ => if z = ofB then unE fmtBW (r.E I a) else stuckE
  | .JoinedStr (v1 :: v2 :: rest) _ => (match fmtsE r I (v1 :: v2 :: rest) with
    | some ms => joinE Str.empty ms
    | none => stuckE)
  | .Call (.Name x _) args kws _ => callName G cf r I x args kws
  | .Call (.Attribute o m apos) args [] pos => (match o, mtOf m with
    | .Name _ _, some m => if args.any isStar || !(apos.endLine == pos.line) || decide (29 ≤ args.length) then stuckE else methE m (r.E I o) (r.As I args)
    | .Subscript _ _ _, some m => if args.any isStar || !(apos.endLine == pos.line) || decide (29 ≤ args.length) then stuckE else methE m (r.E I o) (r.As I args)
    | _, _ => stuckE)
  | _ => stuckE
def stepT (e : Expr) : BM := match e with
  | .UnaryOp .Not a _ => notT (r.T I a)
  | .BoolOp _ [a] _ => r.T I a
  | .BoolOp .And (a :: b :: rest) pos => andT (r.T I a) (r.T I (.BoolOp .And (b :: rest) pos))
  | .BoolOp .Or (a :: b :: rest) pos => orT (r.T I a) (r.T I (.BoolOp .Or (b :: rest) pos))
  | .BoolOp _ [] _ => fun _ _ => .stuck
  | .IfExp _ _ _ _ => fun _ _ => .stuck
  | .Compare a [op] [b] _ => if behindInMarks op b then fun _ _ => .stuck else cmpT (cmpR G.dcts op) (r.E I a) (r.E I b)
  | .Compare a [op, op'] [b, c] _ => if behindInMarks op' c then fun _ _ => .stuck else chainT (cmpR G.dcts op) (cmpR G.dcts op') (r.E I a) (r.E I b) (r.E I c)
  | .Compare _ _ _ _ => fun _ _ => .stuck
  | e => truT (r.E I e)
def stepA (es : List Expr) : AM := match es with
  | [] => nilA
  | .Starred e _ :: rest => starA (r.E I e) (r.As I rest)
  | e :: rest => consA (r.E I e) (r.As I rest)
/-- a suite of an except clause: stores of constants -/
def suiteS : List Stmt → Option SM
  | [.Assign [.Name x _] (.Constant c _ _) _] => (storeIx I x).bind fun i => match c with
    | .none => some (asgS (.one i) (constE c))
    | .bool _ => some (asgS (.one i) (constE c))
    | .int _ => some (asgS (.one i) (constE c))
    | .str _ => some (asgS (.one i) (constE c))
    | _ => none
  | [.Return (some (.Constant c _ _)) _] => match c with
    | .none => some (retS (constE c))
    | .bool _ => some (retS (constE c))
    | .int _ => some (retS (constE c))
    | .str _ => some (retS (constE c))
    | _ => none
  | _ => none
def handS : List ExceptHandler → Option (List (Str × SM))
  | [] => some []
  | .ExceptHandler (some (.Name x _)) none body _ :: t => if isGlob I x && (G.excs.lookup x).isSome then (suiteS I body).bind fun s => (handS t).map ((x, s) :: ·) else none
  | _ => none
def caseS : List MatchCase → Option (List (Pt × SM))
  | [] => some []
  | ⟨.MatchValue (.Constant c _ _) _, none, body⟩ :: t => (match c with
    | .str x => (caseS t).map ((.val (.str x), r.B I body) :: ·)
    | .int i => (caseS t).map ((.val (.int i), r.B I body) :: ·)
    | _ => none)
  | ⟨.MatchAs none none _, none, body⟩ :: t => (caseS t).map ((.any, r.B I body) :: ·)
  | _ => none
def inplace (op : Operator) : Bool := match op with
  | .Add => true
  | .Sub => true
  | _ => false
/-- ints alone are changed in place -/
def augW (op : Operator) (x y : W) (h : HS) : R W := match op, x, y with
  | .Add, .int i, .int j => .ok (.int (i + j)) h
  | .Sub, .int i, .int j => .ok (.int (i - j)) h
  | _, _, _ => .stuck
def stepS (s : Stmt) : SM := match s with
  | .Pass _ => skipS
  | .Break _ => fun σ h => .bk σ h
  | .Continue _ => fun σ h => .ct σ h
  | .Expr (.Constant (.str _) _ _) _ => skipS
  | .Expr e _ => (match e with
    | .ListComp .. => stuckS
    | .SetComp .. => stuckS
    | .DictComp .. => stuckS
    | _ => exprS (r.E I e))
  | .Return (some e) _ => retS (r.E I e)
  | .Return none _ => retS (valE .non)
  | .If c a b _ => ifS (r.T I c) (r.B I a) (r.B I b)
  | .While c b [] _ => whileS (r.T I c) (r.B I b)
  | .For tg iter body [] _ => (match tgOf I tg, iter with
    | _, .Set .. => stuckS
    | some (_, t), _ => forS (itE G r I tg iter) t (r.B I body)
    | none, _ => stuckS)
  | .Assign [.Name x _] e _ => (match storeIx I x, e with
    | none, _ => stuckS
    | some _, .SetComp .. => stuckS
    | some _, .DictComp .. => stuckS
    | some i, .ListComp elt gs scope _ => asgS (.one i) (compE G r I elt gs scope)
    | some i, _ => asgS (.one i) (r.E I e))
  | .Assign [.Subscript o i _] e _ => (match i, e with
    | .Slice .., _ => stuckS
    | _, .ListComp .. => stuckS
    | _, .SetComp .. => stuckS
    | _, .DictComp .. => stuckS
    | _, _ => asgIx (r.E I o) (r.E I i) (r.E I e))
  | .Assign [.Tuple es k p] e _ => (match tgOf I (.Tuple es k p), e with
    | none, _ => stuckS
    | some _, .ListComp .. => stuckS
    | some _, .SetComp .. => stuckS
    | some _, .DictComp .. => stuckS
    | some _, .Tuple .. => stuckS
    | some (_, t), _ => asgS t (r.E I e))
  | .AugAssign (.Name x _) op e _ => (match storeIx I x with
    | some i => augS (augW op) i (r.E I e)
    | none => stuckS)
  | .AugAssign (.Subscript o i _) op e _ => (match i with
    | .Slice .. => stuckS
    | _ => augIx (augW op) (r.E I o) (r.E I i) (r.E I e))
  | .Raise (some (.Call (.Name x _) [a] [] _)) none _ => if isGlob I x && (G.excs.lookup x).isSome && !isStar a then raiseS x (r.E I a) else stuckS
  | .Try body hs [] [] _ => (match asForm G I hs with
    | some (x, i, j, cs) => tryAs G (r.B I body) x i j cs
    | none => (match hs, handS G I hs with
      | [], _ => stuckS
      | _, some l => tryS G (r.B I body) l
      | _, none => stuckS))
  | .Match e cs _ => (match caseS r I cs with
    | some l => matchS (r.E I e) l
    | none => stuckS)
  | _ => stuckS
def stepB (ss : List Stmt) : SM := match ss with
  | [] => skipS
  | [s] => r.S I s
  | s :: t => seqS (r.S I s) (r.B I t)
end
def stepV (G : Glob) (cf : Str → List W → HS → R W) (r : Ev) : Ev :=
  ⟨stepE G cf r, stepT G r, stepA r, stepS G r, stepB r⟩
def stuckV : Ev := ⟨fun _ _ => stuckE, fun _ _ _ _ => .stuck, fun _ _ _ _ => .stuck, fun _ _ => stuckS, fun _ _ => stuckS⟩
def ev (G : Glob) (cf : Str → List W → HS → R W) : Nat → Ev
  | 0 => stuckV
  | n + 1 => stepV G cf (ev G cf n)
def retR (r : RS) : R W := match r with
  | .rt w h => .ok w h
  | .nx _ h => .ok .non h
  | .exc x _ h => .exc x h
  | _ => .stuck
def infOf (fi : FI) : Inf := ⟨fi.N, defScope fi.st, fun _ => true⟩
def DEEP : Nat := 400
/-- a call of a def, its callees given -/
def callS (G : Glob) (cf : Str → List W → HS → R W) (x : Str) (ws : List W) (h : HS) : R W := match G.fns.lookup x with
  | none => .stuck
  | some fi => if ws.length = fi.ps.length then retR ((ev G cf DEEP).B (infOf fi) (defBody fi.st) (ws.map some ++ List.replicate (fi.N.length - fi.ps.length) none) h) else .stuck
def callF (G : Glob) : Nat → Str → List W → HS → R W
  | 0 => fun _ _ _ => .stuck
  | k + 1 => callS G (callF G k)
theorem callF_zero {G : Glob} (x : Str) (ws : List W) (h : HS) : callF G 0 x ws h = .stuck := rfl
theorem callF_succ {G : Glob} (k : Nat) (x : Str) (ws : List W) (h : HS) : callF G (k + 1) x ws h = callS G (callF G k) x ws h := rfl
end Rh
/-! Rh7: the evaluator is right: pieces of expressions. -/
namespace Rh
open PySem PySem.Spec PyProof.Rows L2

/-! ### frames -/
section
variable (K : PySem.W.Frag) (mg : Str → Option Value)
def RelF (loc : List Addr) (H : Hp) : Fr → L2.St → Prop
  | [], σ => σ = []
  | none :: r, σ => ∃ o t, σ = o :: t ∧ RelF loc H r t
  | some w :: r, σ => ∃ v t, σ = some v :: t ∧ RelW K mg loc H w v ∧ RelF loc H r t
end
section
variable {K : PySem.W.Frag} {mg : Str → Option Value} {loc loc' : List Addr} {H H' : Hp} {h : HS}
theorem RelF.ext (a : Ext K loc H loc' H') : ∀ {f : Fr} {σ : L2.St}, RelF K mg loc H f σ → RelF K mg loc' H' f σ
  | [], _, r => r
  | none :: f, _, r => by
    obtain ⟨o, t, e, r⟩ := r
    exact ⟨o, t, e, r.ext a⟩
  | some w :: f, _, r => by
    obtain ⟨v, t, e, q, r⟩ := r
    exact ⟨v, t, e, RelW.ext a _ _ q, r.ext a⟩
theorem RelF.get : ∀ {f : Fr} {σ : L2.St} {i : Nat} {w : W}, RelF K mg loc H f σ → getS f i = some w → ∃ v, σ[i]? = some (some v) ∧ RelW K mg loc H w v
  | [], _, i, w, r, e => by unfold getS at e; cases e
  | none :: f, _, 0, w, r, e => by unfold getS at e; cases e
  | some x :: f, _, 0, w, r, e => by
    obtain ⟨v, t, rfl, q, r⟩ := r
    have e : some x = some w := e
    cases e
    exact ⟨v, rfl, q⟩
  | none :: f, _, i + 1, w, r, e => by
    obtain ⟨o, t, rfl, r⟩ := r
    have e : getS f i = some w := e
    obtain ⟨v, a, b⟩ := r.get e
    exact ⟨v, by simpa using a, b⟩
  | some x :: f, _, i + 1, w, r, e => by
    obtain ⟨o, t, rfl, _, r⟩ := r
    have e : getS f i = some w := e
    obtain ⟨v, a, b⟩ := r.get e
    exact ⟨v, by simpa using a, b⟩
theorem RelF.set {w : W} {v : V} (x : RelW K mg loc H w v) : ∀ {f : Fr} {σ : L2.St} (i : Nat), RelF K mg loc H f σ → RelF K mg loc H (setS f i (some w)) (σ.set i (some v))
  | [], _, i, r => by have r : _ = _ := r; subst r; cases i <;> rfl
  | none :: f, _, 0, r => by
    obtain ⟨o, t, rfl, r⟩ := r
    exact ⟨v, t, rfl, x, r⟩
  | some y :: f, _, 0, r => by
    obtain ⟨o, t, rfl, _, r⟩ := r
    exact ⟨v, t, rfl, x, r⟩
  | none :: f, _, i + 1, r => by
    obtain ⟨o, t, rfl, r⟩ := r
    exact ⟨o, _, rfl, r.set x i⟩
  | some y :: f, _, i + 1, r => by
    obtain ⟨o, t, rfl, q, r⟩ := r
    exact ⟨o, _, rfl, q, r.set x i⟩
theorem RelF.setN : ∀ {f : Fr} {σ : L2.St} (i : Nat), RelF K mg loc H f σ → RelF K mg loc H (setS f i none) (σ.set i none)
  | [], _, i, r => by have r : _ = _ := r; subst r; cases i <;> rfl
  | none :: f, _, 0, r => by
    obtain ⟨o, t, rfl, r⟩ := r
    exact ⟨none, t, rfl, r⟩
  | some y :: f, _, 0, r => by
    obtain ⟨o, t, rfl, _, r⟩ := r
    exact ⟨none, t, rfl, r⟩
  | none :: f, _, i + 1, r => by
    obtain ⟨o, t, rfl, r⟩ := r
    exact ⟨o, _, rfl, r.setN i⟩
  | some y :: f, _, i + 1, r => by
    obtain ⟨o, t, rfl, q, r⟩ := r
    exact ⟨o, _, rfl, q, r.setN i⟩
theorem RelF.wipe {f : Fr} {σ : L2.St} (r : RelF K mg loc H f σ) : ∀ vs : List Nat, RelF K mg loc H (wipeW f vs) (L2.wipe σ vs)
  | [] => r
  | v :: vs => (r.wipe vs).setN v

/-! ### posts -/
theorem post_mono {α β : Type} {RW : List Addr → Hp → α → β → Prop} {r : R α} {Q Q' : β → Hp → Prop} {Z : XK} (p : PostE K mg RW loc H r Q Z) (hq : ∀ v H', Q v H' → Q' v H') : PostE K mg RW loc H r Q' Z := by
  cases r with
  | ok a h => exact fun v l H' e r q => hq _ _ (p v l H' e r q)
  | exc x h => exact p
  | stuck => exact p
theorem post_ext {α β : Type} {RW : List Addr → Hp → α → β → Prop} {r : R α} {Q : β → Hp → Prop} {Z : XK} (p : PostE K mg RW loc H r Q Z) (e : Ext K loc H loc' H') : PostE K mg RW loc' H' r Q Z := by
  cases r with
  | ok a h => exact fun v l H2 e2 r q => p v l H2 (e.trans e2) r q
  | exc x h => exact fun c d l H2 e2 r q => p c d l H2 (e.trans e2) r q
  | stuck => exact p
theorem post_bind {α β γ δ : Type} {RW : List Addr → Hp → α → β → Prop} {RW2 : List Addr → Hp → γ → δ → Prop} {r : R α} {f : α → HS → R γ} {Q : δ → Hp → Prop} {Z : XK} (p : PostE K mg RW2 loc H (r.bind f) Q Z) :
    PostE K mg RW loc H r (fun x H1 => ∃ loc1 a h1, Ext K loc H loc1 H1 ∧ Rel K mg loc1 h1 H1 ∧ RW loc1 H1 a x ∧ PostE K mg RW2 loc1 H1 (f a h1) Q Z) Z := by
  cases r with
  | ok a h => exact fun v l H1 e r q => ⟨l, a, h, e, r, q, post_ext p e⟩
  | exc x h => exact p
  | stuck => exact p
end

/-- a tree-level run, as a reading -/
def Low {α β : Type} (RW : List Addr → Hp → α → β → Prop) (X : Cx) (Wx : WX) (m : Fr → HS → R α) (σ : L2.St) (H : Hp) (Q : β → Hp → Prop) : Prop :=
  ∃ loc f h, Rel X.K X.mg loc h H ∧ RelF X.K X.mg loc H f σ ∧ PostE X.K X.mg RW loc H (m f h) Q (fun cls d H' => Wx cls d σ H')
abbrev LowE (X : Cx) (Wx : WX) (m : EM) : TE := Low (RelW X.K X.mg) X Wx m
abbrev RB : List Addr → Hp → Bool → Bool → Prop := fun _ _ a b => a = b
abbrev LowT (X : Cx) (Wx : WX) (m : BM) : TT := Low RB X Wx m
abbrev LowA (X : Cx) (Wx : WX) (m : AM) : TA := Low (RelWs X.K X.mg) X Wx m
abbrev RP : List Addr → Hp → Option Int → Option Int → Prop := fun _ _ a b => a = b
abbrev LowP (X : Cx) (Wx : WX) (m : PM) : TO := Low RP X Wx m
section
variable {X : Cx} {Wx : WX} {e a b c : Expr} {pos : Pos}
theorem PE.cons {t t' : TE} (p : PE X e t) (i : ∀ σ H Q, t' σ H Q → t σ H Q) : PE X e t' := ⟨fun pins s σ H Q I hh => p.run pins s σ H Q I (i σ H Q hh)⟩
theorem PT.cons {t t' : TT} (p : PT X e t) (i : ∀ σ H Q, t' σ H Q → t σ H Q) : PT X e t' := ⟨fun pins s σ H Q I hh => p.run pins s σ H Q I (i σ H Q hh)⟩
theorem PA.cons {es : List Expr} {t t' : TA} (p : PA X es t) (i : ∀ σ H Q, t' σ H Q → t σ H Q) : PA X es t' := ⟨fun ps pins s σ H Q I hh => p.run ps pins s σ H Q I (i σ H Q hh)⟩
theorem low_stuck {α β : Type} {RW : List Addr → Hp → α → β → Prop} {σ : L2.St} {H : Hp} {Q : β → Hp → Prop} (l : Low RW X Wx (fun _ _ => R.stuck) σ H Q) : False := by
  obtain ⟨_, _, _, _, _, p⟩ := l
  exact p
theorem pe_stuck : PE X e (LowE X Wx stuckE) := ⟨fun _ _ _ _ _ _ hh => (low_stuck hh).elim⟩
theorem pt_stuck : PT X e (LowT X Wx fun _ _ => .stuck) := ⟨fun _ _ _ _ _ _ hh => (low_stuck hh).elim⟩
theorem pw_val {w : W} {v : V} (h : ∀ loc H, RelW X.K X.mg loc H w v) (p : PE X e (tC v)) : PE X e (LowE X Wx (valE w)) :=
  PE.cons p fun σ H Q ⟨loc, f, h0, rel, rf, q⟩ => post_ok q rel (h loc H)
theorem pw_const {k : Nat} (cst : Const) : PE X (.Constant cst k pos) (LowE X Wx (constE cst)) := by
  cases cst with
  | none => exact pw_val (fun _ _ => relW_non) pe_non
  | bool b => exact pw_val (fun _ _ => relW_bl) pe_bl
  | int i => exact pw_val (fun _ _ => relW_int) pe_int
  | str x => exact pw_val (fun _ _ => relW_str) pe_str
  | _ => exact pe_stuck
theorem pw_slot {x : Str} {i : Nat} (hN : X.N[i]? = some x) (hv : Vis X.env.scope x) (hd : isDbg x = false) : PE X (.Name x pos) (LowE X Wx (slotE i)) := by
  unfold isDbg at hd
  rw [Bool.or_eq_false_iff] at hd
  refine PE.cons (pe_var hN hv hd.1 hd.2) fun σ H Q ⟨loc, f, h0, rel, rf, q⟩ => ?_
  obtain ⟨w, e, q⟩ := post_opt q
  obtain ⟨v, e1, r⟩ := rf.get e
  exact ⟨v, e1, post_ok q rel r⟩
theorem pw_bin {ma mb : EM} {op : Operator} (ha : PE X a (LowE X Wx ma)) (hb : PE X b (LowE X Wx mb)) : PE X (.BinOp a op b pos) (LowE X Wx (binE (binW op) ma mb)) :=
  PE.cons (pe_op (ow_bin op) ha hb) fun σ H Q ⟨loc, f, h, rel, rf, p⟩ => ⟨loc, f, h, rel, rf, post_mono (post_bind p) fun x H1 ⟨loc1, wa, h1, e1, rel1, ra, p1⟩ =>
    ⟨loc1, f, h1, rel1, rf.ext e1, post_mono (post_bind p1) fun y H2 ⟨loc2, wb, h2, e2, rel2, rb, p2⟩ => ⟨loc2, h2, wa, wb, rel2, RelW.ext e2 _ _ ra, rb, _, p2⟩⟩⟩
theorem pw_neg {ma : EM} (ha : PE X a (LowE X Wx ma)) : PE X (.UnaryOp .USub a pos) (LowE X Wx (unE negW ma)) :=
  PE.cons (pe_un ow_neg ha) fun σ H Q ⟨loc, f, h, rel, rf, p⟩ => ⟨loc, f, h, rel, rf, post_mono (post_bind p) fun x H1 ⟨loc1, wa, h1, e1, rel1, ra, p1⟩ => ⟨loc1, h1, wa, rel1, ra, _, p1⟩⟩
theorem kv_empty {K : PySem.W.Frag} {mg : Str → Option Value} {loc : List Addr} {H : Hp} : ∀ {ks : List (Key × W)} {vs : List (Key × V)}, RelKv K mg loc H ks vs → vs.isEmpty = ks.isEmpty
  | [], _, r => by have r : _ = _ := r; subst r; rfl
  | (k, w) :: ks, _, r => by obtain ⟨v, s, rfl, _⟩ := r; rfl
theorem ws_empty {K : PySem.W.Frag} {mg : Str → Option Value} {loc : List Addr} {H : Hp} : ∀ {ws : List W} {vs : List V}, RelWs K mg loc H ws vs → vs.isEmpty = ws.isEmpty
  | [], _, r => by rw [r.unnil]; rfl
  | w :: ws, _, r => by obtain ⟨v, s, rfl, _⟩ := r.uncons; rfl
theorem tru_rel {loc : List Addr} {H : Hp} {h : HS} {w : W} {v : V} {k : Bool} (rel : Rel X.K X.mg loc h H) (r : RelW X.K X.mg loc H w v) (e : truW w h = some k) : TruV X.K v H k := by
  cases w with
  | non => cases e; rw [un_non r]; rfl
  | bl b => cases e; rw [un_bl r]; rfl
  | int i => cases e; rw [un_int r]; rfl
  | str y =>
    have e : (if y.length ≤ LIM then some ((y.length : Int) != 0) else none) = some k := e
    by_cases c : y.length ≤ LIM
    · rw [if_pos c] at e
      cases e
      rw [un_str r]
      exact ⟨lim_eq ▸ c, rfl⟩
    · rw [if_neg c] at e; cases e
  | tup xs =>
    cases e
    obtain ⟨a, vs, rfl, t, q⟩ := un_tup r
    exact .inr (.inl ⟨vs, t.sq, by rw [ws_empty q]⟩)
  | ref n =>
    obtain ⟨a, rfl, e1⟩ := un_ref r
    have e : truO (h.get n) = some k := e
    generalize g : h.get n = o at e
    cases o with
    | lst xs =>
      cases e
      obtain ⟨vs, s, q⟩ := obj_sql rel e1 (.inl g)
      exact .inl ⟨vs, s, by rw [ws_empty q]⟩
    | frz xs =>
      cases e
      obtain ⟨vs, s, q⟩ := obj_sql rel e1 (.inr g)
      exact .inl ⟨vs, s, by rw [ws_empty q]⟩
    | dic kvs =>
      cases e
      have z := rel.obj n a e1
      rw [g] at z
      obtain ⟨vs, q, rk⟩ := z
      exact .inr (.inr ⟨vs, q, by rw [kv_empty rk]⟩)
    | _ => cases e
  | gl _ => cases e
  | ty _ => cases e
theorem post_tru {γ δ : Type} {RW2 : List Addr → Hp → γ → δ → Prop} {loc : List Addr} {H : Hp} {h : HS} {w : W} {v : V} {f : Bool → HS → R γ} {Q : δ → Hp → Prop} {Z : XK} (rel : Rel X.K X.mg loc h H) (r : RelW X.K X.mg loc H w v)
    (p : PostE X.K X.mg RW2 loc H ((truR w h).bind f) Q Z) : ∃ k, TruV X.K v H k ∧ PostE X.K X.mg RW2 loc H (f k h) Q Z := by
  unfold truR at p
  cases e : truW w h with
  | none => rw [e] at p; exact (show False from p).elim
  | some k => rw [e] at p; exact ⟨k, tru_rel rel r e, p⟩
theorem pw_not {ma : EM} (ha : PE X a (LowE X Wx ma)) : PE X (.UnaryOp .Not a pos) (LowE X Wx (notE ma)) :=
  PE.cons (pe_notT ha) fun σ H Q ⟨loc, f, h, rel, rf, p⟩ => ⟨loc, f, h, rel, rf, post_mono (post_bind p) fun x H1 ⟨loc1, wa, h1, e1, rel1, ra, p1⟩ => by
    obtain ⟨k, t, p2⟩ := post_tru rel1 ra p1
    exact ⟨k, t, post_bl p2 rel1⟩⟩
theorem pw_and {ma mb : EM} {rest : List Expr} (ha : PE X a (LowE X Wx ma)) (hb : PE X (.BoolOp .And (b :: rest) pos) (LowE X Wx mb)) : PE X (.BoolOp .And (a :: b :: rest) pos) (LowE X Wx (andE ma mb)) :=
  PE.cons (pe_andT ha hb) fun σ H Q ⟨loc, f, h, rel, rf, p⟩ => ⟨loc, f, h, rel, rf, post_mono (post_bind p) fun x H1 ⟨loc1, wa, h1, e1, rel1, ra, p1⟩ => by
    obtain ⟨k, t, p2⟩ := post_tru rel1 ra p1
    refine ⟨k, t, ?_⟩
    cases k with
    | true => exact ⟨loc1, f, h1, rel1, rf.ext e1, p2⟩
    | false => exact post_ok p2 rel1 ra⟩
theorem pw_or {ma mb : EM} {rest : List Expr} (ha : PE X a (LowE X Wx ma)) (hb : PE X (.BoolOp .Or (b :: rest) pos) (LowE X Wx mb)) : PE X (.BoolOp .Or (a :: b :: rest) pos) (LowE X Wx (orE ma mb)) :=
  PE.cons (pe_orT ha hb) fun σ H Q ⟨loc, f, h, rel, rf, p⟩ => ⟨loc, f, h, rel, rf, post_mono (post_bind p) fun x H1 ⟨loc1, wa, h1, e1, rel1, ra, p1⟩ => by
    obtain ⟨k, t, p2⟩ := post_tru rel1 ra p1
    refine ⟨k, t, ?_⟩
    cases k with
    | true => exact post_ok p2 rel1 ra
    | false => exact ⟨loc1, f, h1, rel1, rf.ext e1, p2⟩⟩
theorem post_eq {γ : Type} {loc : List Addr} {H : Hp} {h : HS} {c : γ} {Q : γ → Hp → Prop} {Z : XK} {RW : List Addr → Hp → γ → γ → Prop} (hr : ∀ l H c, RW l H c c) (rel : Rel X.K X.mg loc h H) (p : PostE X.K X.mg RW loc H (.ok c h) Q Z) : Q c H := post_ok p rel (hr _ _ _)
theorem pw_if {mc : BM} {ma mb : EM} (hc : PT X c (LowT X Wx mc)) (ha : PE X a (LowE X Wx ma)) (hb : PE X b (LowE X Wx mb)) : PE X (.IfExp c a b pos) (LowE X Wx (ifE mc ma mb)) :=
  PE.cons (pe_ifExp hc ha hb) fun σ H Q ⟨loc, f, h, rel, rf, p⟩ => ⟨loc, f, h, rel, rf, post_mono (post_bind p) fun x H1 ⟨loc1, k, h1, e1, rel1, ra, p1⟩ => by
    have ra : k = x := ra
    subst ra
    cases k with
    | true => exact ⟨loc1, f, h1, rel1, rf.ext e1, p1⟩
    | false => exact ⟨loc1, f, h1, rel1, rf.ext e1, p1⟩⟩
/-! ### comparisons -/
variable {D : Dcts}
theorem oc_all (hr : ∃ k, Room k X.A) (hD : DctsOk X.K X.w X.mg D) (op : CmpOp) : CmpOk X D op := by
  obtain ⟨k, hr⟩ := hr
  cases op with
  | Eq => exact oc_eq hr.units
  | NotEq => exact oc_ne hr.units
  | Lt => exact oc_lt
  | LtE => exact oc_int op_le fun _ _ _ => rfl
  | Gt => exact oc_int op_gt fun _ _ _ => rfl
  | GtE => exact oc_int op_ge fun _ _ _ => rfl
  | Is => exact oc_is
  | IsNot => exact oc_isnot
  | In =>
    intro pins s σ H x y v u Q I rx ry hh
    obtain ⟨loc, h, wx, wy, b, rel, r1, r2, e, q⟩ := hh
    exact oc_in_core (neg := false) op_in_seq (fun kd => op_in_kd kd) hD pins s σ H x y v u Q I rx ry ⟨loc, h, wx, wy, b, rel, r1, r2, e, q⟩
  | NotIn =>
    intro pins s σ H x y v u Q I rx ry hh
    obtain ⟨loc, h, wx, wy, b, rel, r1, r2, e, q⟩ := hh
    have e := map_not (show (inW D wx wy h).map (!·) = some b from e)
    exact oc_in_core (neg := true) op_notIn_seq (fun kd => op_notIn_kd kd) hD pins s σ H x y v u Q I rx ry ⟨loc, h, wx, wy, _, rel, r1, r2, e, by simpa using q⟩
theorem post_cmp {γ δ : Type} {RW2 : List Addr → Hp → γ → δ → Prop} {loc : List Addr} {H : Hp} {h : HS} {op : CmpOp} {w u : W} {f : Bool → HS → R γ} {Q : δ → Hp → Prop} {Z : XK}
    (p : PostE X.K X.mg RW2 loc H ((cmpR D op w u h).bind f) Q Z) : ∃ k, cmpW D op w u h = some k ∧ PostE X.K X.mg RW2 loc H (f k h) Q Z := by
  unfold cmpR at p
  cases e : cmpW D op w u h with
  | none => rw [e] at p; exact (show False from p).elim
  | some k => rw [e] at p; exact ⟨k, rfl, p⟩
theorem pw_cmp {ma mb : EM} {op : CmpOp} (hr : ∃ k, Room k X.A) (hD : DctsOk X.K X.w X.mg D) (hm : behindInMarks op b = false) (ha : PE X a (LowE X Wx ma)) (hb : PE X b (LowE X Wx mb)) : PE X (.Compare a [op] [b] pos) (LowE X Wx (cmpE (cmpR D op) ma mb)) :=
  PE.cons (pe_cmpR (oc_all hr hD op) ha hb hm) fun σ H Q ⟨loc, f, h, rel, rf, p⟩ => ⟨loc, f, h, rel, rf, post_mono (post_bind p) fun x H1 ⟨loc1, wa, h1, e1, rel1, ra, p1⟩ =>
    ⟨loc1, f, h1, rel1, rf.ext e1, post_mono (post_bind p1) fun y H2 ⟨loc2, wb, h2, e2, rel2, rb, p2⟩ => by
      obtain ⟨k, e, p3⟩ := post_cmp p2
      exact ⟨loc2, h2, wa, wb, k, rel2, RelW.ext e2 _ _ ra, rb, e, post_bl p3 rel2⟩⟩⟩
theorem pw_cmpT {ma mb : EM} {op : CmpOp} (hr : ∃ k, Room k X.A) (hD : DctsOk X.K X.w X.mg D) (hm : behindInMarks op b = false) (ha : PE X a (LowE X Wx ma)) (hb : PE X b (LowE X Wx mb)) : PT X (.Compare a [op] [b] pos) (LowT X Wx (cmpT (cmpR D op) ma mb)) :=
  PT.cons (pt_cmpR (oc_all hr hD op) ha hb hm) fun σ H Q ⟨loc, f, h, rel, rf, p⟩ => ⟨loc, f, h, rel, rf, post_mono (post_bind p) fun x H1 ⟨loc1, wa, h1, e1, rel1, ra, p1⟩ =>
    ⟨loc1, f, h1, rel1, rf.ext e1, post_mono (post_bind p1) fun y H2 ⟨loc2, wb, h2, e2, rel2, rb, p2⟩ => by
      have p2 : PostE X.K X.mg RB loc2 H2 ((cmpR D op wa wb h2)) Q _ := p2
      unfold cmpR at p2
      obtain ⟨k, e, p3⟩ := post_opt p2
      exact ⟨loc2, h2, wa, wb, k, rel2, RelW.ext e2 _ _ ra, rb, e, k, rfl, post_ok p3 rel2 rfl⟩⟩⟩
theorem chain_marks {op op' : CmpOp} : lastMarks [op, op'] [b, c] = behindInMarks op' c := rfl
theorem pw_chain {ma mb mc : EM} {op op' : CmpOp} (hr : ∃ k, Room k X.A) (hD : DctsOk X.K X.w X.mg D) (hm : behindInMarks op' c = false) (ha : PE X a (LowE X Wx ma)) (hb : PE X b (LowE X Wx mb)) (hc : PE X c (LowE X Wx mc)) :
    PE X (.Compare a [op, op'] [b, c] pos) (LowE X Wx (chainE (cmpR D op) (cmpR D op') ma mb mc)) :=
  PE.cons (pe_chain (oc_all hr hD op) (oc_all hr hD op') ha hb hc (by rw [chain_marks, hm])) fun σ H Q ⟨loc, f, h, rel, rf, p⟩ => ⟨loc, f, h, rel, rf, post_mono (post_bind p) fun x H1 ⟨loc1, wa, h1, e1, rel1, ra, p1⟩ =>
    ⟨loc1, f, h1, rel1, rf.ext e1, post_mono (post_bind p1) fun y H2 ⟨loc2, wb, h2, e2, rel2, rb, p2⟩ => by
      obtain ⟨k, e, p3⟩ := post_cmp p2
      refine ⟨loc2, h2, wa, wb, k, rel2, RelW.ext e2 _ _ ra, rb, e, k, rfl, ?_⟩
      cases k with
      | true => exact ⟨loc2, f, h2, rel2, (rf.ext e1).ext e2, post_mono (post_bind p3) fun z H3 ⟨loc3, wc, h3, e3, rel3, rc, p4⟩ => by
          obtain ⟨k, e, p5⟩ := post_cmp p4
          exact ⟨loc3, h3, wb, wc, k, rel3, RelW.ext e3 _ _ rb, rc, e, post_bl p5 rel3⟩⟩
      | false => exact post_bl p3 rel2⟩⟩
theorem pw_chainT {ma mb mc : EM} {op op' : CmpOp} (hr : ∃ k, Room k X.A) (hD : DctsOk X.K X.w X.mg D) (hm : behindInMarks op' c = false) (ha : PE X a (LowE X Wx ma)) (hb : PE X b (LowE X Wx mb)) (hc : PE X c (LowE X Wx mc)) :
    PT X (.Compare a [op, op'] [b, c] pos) (LowT X Wx (chainT (cmpR D op) (cmpR D op') ma mb mc)) :=
  PT.cons (pt_chain (oc_all hr hD op) (oc_all hr hD op') ha hb hc (by rw [chain_marks, hm])) fun σ H Q ⟨loc, f, h, rel, rf, p⟩ => ⟨loc, f, h, rel, rf, post_mono (post_bind p) fun x H1 ⟨loc1, wa, h1, e1, rel1, ra, p1⟩ =>
    ⟨loc1, f, h1, rel1, rf.ext e1, post_mono (post_bind p1) fun y H2 ⟨loc2, wb, h2, e2, rel2, rb, p2⟩ => by
      obtain ⟨k, e, p3⟩ := post_cmp p2
      refine ⟨loc2, h2, wa, wb, k, rel2, RelW.ext e2 _ _ ra, rb, e, k, rfl, ?_⟩
      cases k with
      | true => exact ⟨loc2, f, h2, rel2, (rf.ext e1).ext e2, post_mono (post_bind p3) fun z H3 ⟨loc3, wc, h3, e3, rel3, rc, p4⟩ => by
          have p4 : PostE X.K X.mg RB loc3 H3 ((cmpR D op' wb wc h3)) Q _ := p4
          unfold cmpR at p4
          obtain ⟨k, e, p5⟩ := post_opt p4
          exact ⟨loc3, h3, wb, wc, k, rel3, RelW.ext e3 _ _ rb, rc, e, k, rfl, post_ok p5 rel3 rfl⟩⟩
      | false => exact ⟨false, rfl, post_ok p3 rel2 rfl⟩⟩⟩
end
end Rh
/-! Rh8: the evaluator is right: argument lists, tests, calls. -/
namespace Rh
open PySem PySem.Spec PyProof.Rows L2
section
variable {X : Cx} {Wx : WX} {e a b c : Expr} {es : List Expr} {pos : Pos}
theorem starEach_ns {env : Env} (h : isStar e = false) : starEach (e :: es) env = (false, eval e env) :: starEach es env := by
  cases e <;> first | rfl | cases h
theorem back_ns {env : Env} : ∀ {es : List Expr}, es.any isStar = false → (backTo pos (starEach es env)).any (·.1) = false
  | [], _ => rfl
  | e :: es, h => by
    simp only [List.any_cons, Bool.or_eq_false_iff] at h
    rw [starEach_ns h.1]
    have ih := back_ns (env := env) h.2
    unfold backTo at ih ⊢
    simp only [List.map_cons, List.any_cons, Bool.false_or]
    exact ih
theorem pw_nilA : PA X [] (LowA X Wx nilA) := PA.cons pa_nil fun σ H Q ⟨loc, f, h, rel, rf, p⟩ => post_ok p rel .nil
theorem pw_consA {ma : EM} {mr : AM} (hs : isStar e = false) (ha : PE X e (LowE X Wx ma)) (hr : PA X es (LowA X Wx mr)) : PA X (e :: es) (LowA X Wx (consA ma mr)) :=
  PA.cons (pa_cons ha hr (starEach_ns hs)) fun σ H Q ⟨loc, f, h, rel, rf, p⟩ => ⟨loc, f, h, rel, rf, post_mono (post_bind p) fun x H1 ⟨loc1, wa, h1, e1, rel1, ra, p1⟩ =>
    ⟨loc1, f, h1, rel1, rf.ext e1, post_mono (post_bind p1) fun y H2 ⟨loc2, wb, h2, e2, rel2, rb, p2⟩ => post_ok p2 rel2 (.cons (RelW.ext e2 _ _ ra) rb)⟩⟩
theorem post_seq {γ δ : Type} {RW2 : List Addr → Hp → γ → δ → Prop} {loc : List Addr} {H : Hp} {h : HS} {w : W} {v : V} {f : List W → HS → R γ} {Q : δ → Hp → Prop} {Z : XK} (rel : Rel X.K X.mg loc h H) (r : RelW X.K X.mg loc H w v)
    (p : PostE X.K X.mg RW2 loc H ((optR (seqW w h) h).bind f) Q Z) : ∃ a xs vs, v = .ref a ∧ (SqT X.K H a vs ∨ SqL X.K H a vs) ∧ RelWs X.K X.mg loc H xs vs ∧ PostE X.K X.mg RW2 loc H (f xs h) Q Z := by
  cases e : seqW w h with
  | none => rw [e] at p; exact (show False from p).elim
  | some xs =>
    rw [e] at p
    cases w with
    | tup ys =>
      cases e
      obtain ⟨a, vs, rfl, t, q⟩ := un_tup r
      exact ⟨a, xs, vs, rfl, .inl t.sq, q, p⟩
    | ref n =>
      obtain ⟨a, rfl, e1⟩ := un_ref r
      obtain ⟨vs, s, q⟩ := obj_sql rel e1 (flO_some (show flO (h.get n) = some xs from e))
      exact ⟨a, xs, vs, rfl, .inr s, q, p⟩
    | _ => cases e
theorem pw_starA {ma : EM} {mr : AM} {p : Pos} (ha : PE X e (LowE X Wx ma)) (hr : PA X es (LowA X Wx mr)) : PA X (.Starred e p :: es) (LowA X Wx (starA ma mr)) :=
  PA.cons (StX.pa_star ha hr) fun σ H Q ⟨loc, f, h, rel, rf, p⟩ => ⟨loc, f, h, rel, rf, post_mono (post_bind p) fun x H1 ⟨loc1, wa, h1, e1, rel1, ra, p1⟩ => by
    obtain ⟨a, xs, vs, rfl, s, q, p2⟩ := post_seq rel1 ra p1
    exact ⟨a, vs, rfl, s, loc1, f, h1, rel1, rf.ext e1, post_mono (post_bind p2) fun y H2 ⟨loc2, wb, h2, e2, rel2, rb, p3⟩ => post_ok p3 rel2 ((RelWs.ext e2 _ _ q).append rb)⟩⟩
theorem pw_tup {k : Nat} {m : AM} (h : PA X es (LowA X Wx m)) : PE X (.Tuple es k pos) (LowE X Wx (tupE m)) :=
  PE.cons (pe_tupX h) fun σ H Q ⟨loc, f, h, rel, rf, p⟩ => ⟨loc, f, h, rel, rf, post_mono (post_bind p) fun x H1 ⟨loc1, wa, h1, e1, rel1, ra, p1⟩ => by
    obtain ⟨g, p2⟩ := post_guard p1
    have g := of_decide_eq_true g
    rw [lim_eq, ← ra.length] at g
    exact ⟨g, fun q o hq ho => post_newT p2 rel1 ra hq ho⟩⟩
theorem pw_lst {m : AM} (h : PA X es (LowA X Wx m)) : PE X (.List es pos) (LowE X Wx (lstE m)) :=
  PE.cons (pe_lst h) fun σ H Q ⟨loc, f, h, rel, rf, p⟩ => ⟨loc, f, h, rel, rf, post_mono (post_bind p) fun x H1 ⟨loc1, wa, h1, e1, rel1, ra, p1⟩ => by
    obtain ⟨g, p2⟩ := post_guard p1
    have g := of_decide_eq_true g
    rw [lim_eq, ← ra.length] at g
    exact ⟨g, fun q hq => post_newL p2 rel1 ra hq⟩⟩
theorem upd_upd {H : Hp} {p : Addr} {o o' : HO} : upd (upd H p o) p o' = upd H p o' := by
  funext b
  by_cases e : b = p
  · subst e; rw [upd_same, upd_same]
  · rw [upd_ne e, upd_ne e, upd_ne e]
theorem pw_dic {k v : Str} {k1 k2 : Nat} {p1 p2 : Pos} : PE X (.Dict [some (.Constant (.str k) k1 p1)] [.Constant (.str v) k2 p2] pos) (LowE X Wx (dicE k v)) :=
  PE.cons (pe_disp (pps_cons pe_str pe_str pps_nil) rfl rfl (by simp) (by simp)) fun σ H Q ⟨loc, f, h, rel, rf, p⟩ => fun q hq => by
    refine ⟨upd_same, [(.inr k, .str v)], rfl, by simp, ?_⟩
    rw [upd_upd]
    refine p (.ref q) (loc ++ [q]) _ (Ext.newO hq) (rel.push hq ⟨[(.inr k, .str v)], upd_same, ⟨.str v, [], rfl, relW_str, rfl⟩⟩) ?_
    unfold RelW
    exact ⟨q, rfl, by rw [← rel.len]; simp⟩
/-! ### subscripts -/
def isSlice : Expr → Bool
  | .Slice _ _ _ _ => true
  | _ => false
theorem pw_ix {D : Dcts} {ma mb : EM} (hD : DctsOk X.K X.w X.mg D) (hb : isSlice b = false) (ha : PE X a (LowE X Wx ma)) (hm : PE X b (LowE X Wx mb)) : PE X (.Subscript a b pos) (LowE X Wx (binE (ixW D) ma mb)) :=
  PE.cons (pe_ix (ix_w hD) ha hm (fun o i => by cases b <;> first | rfl | cases hb)) fun σ H Q ⟨loc, f, h, rel, rf, p⟩ => ⟨loc, f, h, rel, rf, post_mono (post_bind p) fun x H1 ⟨loc1, wa, h1, e1, rel1, ra, p1⟩ =>
    ⟨loc1, f, h1, rel1, rf.ext e1, post_mono (post_bind p1) fun y H2 ⟨loc2, wb, h2, e2, rel2, rb, p2⟩ => ⟨loc2, h2, wa, wb, rel2, RelW.ext e2 _ _ ra, rb, _, p2⟩⟩⟩
theorem PO.cons {o : Option Expr} {t t' : TO} (p : PO X o t) (i : ∀ σ H Q, t' σ H Q → t σ H Q) : PO X o t' := ⟨fun pins s σ H Q I hh => p.run pins s σ H Q I (i σ H Q hh)⟩
theorem pw_noP : PO X none (LowP X Wx noP) := PO.cons po_none fun σ H Q ⟨loc, f, h, rel, rf, p⟩ => post_ok p rel rfl
theorem pw_someP {ma : EM} (ha : PE X a (LowE X Wx ma)) : PO X (some a) (LowP X Wx (someP ma)) :=
  PO.cons (po_some ha) fun σ H Q ⟨loc, f, h, rel, rf, p⟩ => ⟨loc, f, h, rel, rf, post_mono (post_bind p) fun x H1 ⟨loc1, wa, h1, e1, rel1, ra, p1⟩ => by
    cases wa <;> first | exact (show False from p1).elim | skip
    case int i => exact ⟨i, un_int ra, post_ok (p1 : PostE X.K X.mg RP loc1 H1 (.ok (some i) h1) Q _) rel1 rfl⟩⟩
theorem pw_slice {ma : EM} {ml mu : PM} {l u : Option Expr} {p2 : Pos} (ha : PE X a (LowE X Wx ma)) (hl : PO X l (LowP X Wx ml)) (hu : PO X u (LowP X Wx mu)) : PE X (.Subscript a (.Slice l u none p2) pos) (LowE X Wx (sliceE ma ml mu)) :=
  PE.cons (pe_slice sl_w ha hl hu) fun σ H Q ⟨loc, f, h, rel, rf, p⟩ => ⟨loc, f, h, rel, rf, post_mono (post_bind p) fun x H1 ⟨loc1, wa, h1, e1, rel1, ra, p1⟩ =>
    ⟨loc1, f, h1, rel1, rf.ext e1, post_mono (post_bind p1) fun lo H2 ⟨loc2, wl, h2, e2, rel2, rl, p2⟩ =>
      ⟨loc2, f, h2, rel2, (rf.ext e1).ext e2, post_mono (post_bind p2) fun hi H3 ⟨loc3, wh, h3, e3, rel3, rh, p3⟩ => by
        have rl : wl = lo := rl
        have rh : wh = hi := rh
        subst rl rh
        exact ⟨loc3, h3, wa, rel3, RelW.ext e3 _ _ (RelW.ext e2 _ _ ra), _, p3⟩⟩⟩⟩
end
def spB : Str := "010b"
theorem parse_b : PySem.Builtin.Float.parseFormatSpec spB.cps.toList "int" 62 = .ok fsB := by rfl
section
open Builtin Builtin.Str Builtin.Int Builtin.Float
variable {prog : Program} {w : World} {A : Around} {E : Value → Shared → Prop} {s : Shared}
set_option maxRecDepth 100000 in
theorem field_b {n : Nat} {t : Tok} {Q : Value → Shared → Prop} (hlen : (fbody n).length ≤ sizeLine) (h : Q (.str (fbody n) (s.toks + 1)) { s with toks := s.toks + 1 + 1 }) :
    wpAny (model prog w) A (formatField (.int (n : Int) t) spB) Q E s := by
  show wpAny _ _ (holding [.int (n : Int) t] (pyFormat (.int (n : Int) t) spB)) Q E s
  refine wpAny_holding ?_
  unfold pyFormat
  refine wpAny_bind (wpAny_mkStr ?_ (by decide))
  refine wpAny_bind (m := callSpecial? (.int (n : Int) t) (Str.ofString "__format__") [.str spB s.toks]) (wpAny_callSpecial?_slot (name := Str.ofString "__format__") (typeIs_int _ _ t) slot_int_format ?_)
  refine wpAny_call (codeAny_call_builtin slot_int_format.plain entry_int_format (slot_int_format.check _ _ _ _ _ _ _ _ (typeIs_int _ _ t) (args_int_format _ _) ?_))
  unfold Builtin.«int.__format__»
  simp only [selfAndOne, noKeywords, Int.intOfSelf, asInt?, asStr?, List.isEmpty_nil, if_true, pure_bind, bind_pure, bind_assoc, show (spB.length == 0) = false by decide, show ((spB.cps.toList.drop 1).any (· ≥ 128) || (spB.cps.getD 0 0 ≥ 128 && !([60, 62, 61, 94] : List Nat).contains (spB.cps.getD 1 0))) = false by decide, Bool.false_eq_true, if_false,
    show (Value.str spB s.toks == Value.none) = false from rfl]
  refine wpAny_bind (wpAny_typeNameOf (T := "str") (typeIs_str _ _ _) (by decide) fun _ => ?_)
  first | refine wpAny_bind (wpAny_typeNameOfCut_int ?_) | refine wpAny_bind (wpAny_typeNameOf_int ?_)
  simp only [parse_b]
  show wpAny _ _ (retStr (fbody n)) _ _ _
  unfold retStr
  refine wpAny_bind (wpAny_mkStr (wpAny_pure ?_) hlen)
  dsimp only
  refine wpAny_bind (wpAny_isInstance (typeIs_str _ _ _) isSubtype_str_str (wpAny_pure h))
end
section
variable {X : Cx} {Wx : WX} {e a b c tg : Expr} {es : List Expr} {pos : Pos}
/-! ### f-strings -/
theorem pw_fmtB {ma : EM} {kk : Nat} {pA pB : Pos} (ha : PE X a (LowE X Wx ma)) : PE X (.FormattedValue a (-1) (some (.JoinedStr [.Constant (.str spB) kk pA] pB)) pos) (LowE X Wx (unE fmtBW ma)) := by
  refine ⟨fun pins s σ H Q I h => ?_⟩
  obtain ⟨loc, f, h0, rel, rf, p⟩ := h
  refine wpAny_FormattedValue_spec (thn (ha.run pins s σ H _ I ⟨loc, f, h0, rel, rf, post_bind p⟩) fun v s1 hv => ?_)
  obtain ⟨x, H1, I1, r1, loc1, wa, h1, e1, rel1, ra, p1⟩ := hv
  have hc : PE X (.JoinedStr [.Constant (.str spB) kk pA] pB) (tC (.str spB)) := pe_joined1 pe_str
  refine thn (hc.run pins s1 σ H1 (fun y H' => y = .str spB ∧ H' = H1) I1 ⟨rfl, rfl⟩) fun r s2 hr => ?_
  obtain ⟨y, H2, I2, r2, rfl, rfl⟩ := hr
  obtain ⟨t2, rfl⟩ := r2
  refine ⟨spB, t2, rfl, ?_⟩
  cases wa <;> first | exact (show False from p1).elim | skip
  case int i =>
    have ex := un_int ra
    subst ex
    obtain ⟨t, rfl⟩ := r1
    obtain ⟨g, p3⟩ := post_guard (show PostW X.K X.mg loc1 H2 (guardR (decide (0 ≤ i) && decide ((fbody i.natAbs).length ≤ LIM)) (.ok (.str (fbody i.natAbs)) h1)) Q _ from p1)
    rw [Bool.and_eq_true] at g
    have g0 := of_decide_eq_true g.1
    have g1 := of_decide_eq_true g.2
    have q := post_str p3 rel1
    obtain ⟨n, rfl⟩ : ∃ n : Nat, i = n := ⟨i.natAbs, by omega⟩
    exact field_b (lim_eq ▸ g1) ⟨.str (fbody n), H2, I2.tok _, ⟨_, rfl⟩, q⟩
theorem pw_fmt {ma : EM} (ha : PE X a (LowE X Wx ma)) : PE X (.FormattedValue a (-1) none pos) (LowE X Wx (fmtE ma)) :=
  PE.cons (pe_fmt ha) fun σ H Q ⟨loc, f, h, rel, rf, p⟩ => ⟨loc, f, h, rel, rf, post_mono (post_bind p) fun x H1 ⟨loc1, wa, h1, e1, rel1, ra, p1⟩ => by
    cases e : fmtW wa with
    | none => rw [e] at p1; exact (show False from p1).elim
    | some z =>
      rw [e] at p1
      have q := post_str (show PostW X.K X.mg loc1 H1 (.ok (.str z) h1) Q _ from p1) rel1
      cases wa with
      | str y =>
        have e : (if y.length ≤ LIM then some y else none) = some z := e
        by_cases g : y.length ≤ LIM
        · rw [if_pos g] at e
          cases e
          exact .inl ⟨_, un_str ra, lim_eq ▸ g, q⟩
        · rw [if_neg g] at e; cases e
      | int i =>
        have e : (if i.natAbs.log2 < 1920 then some (Str.ofString (toString i)) else none) = some z := e
        by_cases g : i.natAbs.log2 < 1920
        · rw [if_pos g] at e
          cases e
          exact .inr ⟨i, un_int ra, g, q⟩
        · rw [if_neg g] at e; cases e
      | _ => cases e⟩
/-- the parts, each right -/
inductive Parts (X : Cx) (Wx : WX) : List Expr → List EM → Prop
  | nil : Parts X Wx [] []
  | cons {e : Expr} {m : EM} {es : List Expr} {ms : List EM} (h : PE X e (LowE X Wx m)) (r : Parts X Wx es ms) : Parts X Wx (e :: es) (m :: ms)
theorem Parts.pj {es : List Expr} {ms : List EM} (p : Parts X Wx es ms) : PJ X es (ms.map (LowE X Wx)) := by
  induction p with
  | nil => exact .nil
  | cons h _ ih => exact .cons h ih
theorem joins {K : PySem.W.Frag} {Q : VK} : ∀ (ms : List EM) (acc : Str) (σ : L2.St) (H : Hp), LowE X Wx (joinE acc ms) σ H Q → tJs (ms.map (LowE X Wx)) acc σ H fun out H1 => Q (.str out) H1
  | [], acc, σ, H, ⟨loc, f, h, rel, rf, p⟩ => post_str p rel
  | m :: ms, acc, σ, H, ⟨loc, f, h, rel, rf, p⟩ => ⟨loc, f, h, rel, rf, post_mono (post_bind p) fun x H1 ⟨loc1, wa, h1, e1, rel1, ra, p1⟩ => by
      cases wa <;> first | exact (show False from p1).elim | skip
      case str y =>
        have p1 : PostW X.K X.mg loc1 H1 (if (acc ++ y).length ≤ LIM then joinE (acc ++ y) ms f h1 else .stuck) Q _ := p1
        by_cases g : (acc ++ y).length ≤ LIM
        · rw [if_pos g] at p1
          exact ⟨y, un_str ra, lim_eq ▸ g, joins (K := K) ms _ σ H1 ⟨loc1, f, h1, rel1, rf.ext e1, p1⟩⟩
        · rw [if_neg g] at p1; exact (show False from p1).elim⟩
theorem pw_join {v1 v2 : Expr} {rest : List Expr} {ms : List EM} (h : Parts X Wx (v1 :: v2 :: rest) ms) : PE X (.JoinedStr (v1 :: v2 :: rest) pos) (LowE X Wx (joinE Str.empty ms)) :=
  PE.cons (pe_joined h.pj) fun σ H Q l => joins (K := X.K) ms _ σ H l
/-! ### tests -/
theorem pw_truT {ma : EM} (ha : PE X a (LowE X Wx ma)) (he : ∀ whole, isTrue a X.env whole = (do let v ← whole; standAt a.pos; holding [v] (truthy v))) : PT X a (LowT X Wx (truT ma)) :=
  PT.cons (pt_truth ha he) fun σ H Q ⟨loc, f, h, rel, rf, p⟩ => ⟨loc, f, h, rel, rf, post_mono (post_bind p) fun x H1 ⟨loc1, wa, h1, e1, rel1, ra, p1⟩ => by
    unfold truR at p1
    obtain ⟨k, e, p2⟩ := post_opt p1
    exact ⟨k, tru_rel rel1 ra e, post_ok p2 rel1 rfl⟩⟩
theorem PW.of_bool {op : BoolOp} {vs : List Expr} {t : TT} (h : PT X (.BoolOp op vs pos) t) : PW X (.BoolOp op vs pos) t := ⟨fun whole pins s σ H Q I hh => h.run pins s σ H Q I hh⟩
theorem PW.cons {t t' : TT} (p : PW X e t) (i : ∀ σ H Q, t' σ H Q → t σ H Q) : PW X e t' := ⟨fun whole pins s σ H Q I hh => p.run whole pins s σ H Q I (i σ H Q hh)⟩
theorem pw_oneT {op : BoolOp} {ma : BM} (ha : PT X a (LowT X Wx ma)) : PT X (.BoolOp op [a] pos) (LowT X Wx ma) := by
  cases op with
  | And => exact (L2.pw_and1 ha).pt
  | Or => exact (L2.pw_or1 ha).pt
theorem pw_andT {ma mb : BM} {rest : List Expr} (ha : PT X a (LowT X Wx ma)) (hb : PT X (.BoolOp .And (b :: rest) pos) (LowT X Wx mb)) : PT X (.BoolOp .And (a :: b :: rest) pos) (LowT X Wx (andT ma mb)) :=
  (PW.cons (L2.pw_and ha (PW.of_bool hb)) fun σ H Q ⟨loc, f, h, rel, rf, p⟩ => ⟨loc, f, h, rel, rf, post_mono (post_bind p) fun x H1 ⟨loc1, k, h1, e1, rel1, ra, p1⟩ => by
    have ra : k = x := ra
    subst ra
    cases k with
    | true => exact ⟨loc1, f, h1, rel1, rf.ext e1, p1⟩
    | false => exact post_ok p1 rel1 rfl⟩).pt
theorem pw_orT {ma mb : BM} {rest : List Expr} (ha : PT X a (LowT X Wx ma)) (hb : PT X (.BoolOp .Or (b :: rest) pos) (LowT X Wx mb)) : PT X (.BoolOp .Or (a :: b :: rest) pos) (LowT X Wx (orT ma mb)) :=
  (PW.cons (L2.pw_or ha (PW.of_bool hb)) fun σ H Q ⟨loc, f, h, rel, rf, p⟩ => ⟨loc, f, h, rel, rf, post_mono (post_bind p) fun x H1 ⟨loc1, k, h1, e1, rel1, ra, p1⟩ => by
    have ra : k = x := ra
    subst ra
    cases k with
    | true => exact post_ok p1 rel1 rfl
    | false => exact ⟨loc1, f, h1, rel1, rf.ext e1, p1⟩⟩).pt
theorem pw_notT {ma : BM} (ha : PT X a (LowT X Wx ma)) : PT X (.UnaryOp .Not a pos) (LowT X Wx (notT ma)) :=
  PT.cons (pt_not ha) fun σ H Q ⟨loc, f, h, rel, rf, p⟩ => ⟨loc, f, h, rel, rf, post_mono (post_bind p) fun x H1 ⟨loc1, k, h1, e1, rel1, ra, p1⟩ => by
    have ra : k = x := ra
    subst ra
    exact post_ok p1 rel1 rfl⟩
/-! ### builtins called -/
theorem bi_boot {x : Str} {n : Bi} (e : biOf x = some n) : bootBuiltins x = some (biV n) ∧ x ≠ "__name__" := by
  unfold biOf at e
  repeat' split at e
  all_goals first
    | (rename_i h; cases e; subst h; exact ⟨by decide +kernel, by decide +kernel⟩)
    | cases e
theorem biV_cases (n : Bi) : (∃ id, biV n = .builtin id) ∨ ∃ T, biV n = .type T := by
  cases n <;> first | exact .inl ⟨_, rfl⟩ | exact .inr ⟨_, rfl⟩
theorem biW_nil (n : Bi) (h : HS) : biW n [] h = .stuck := by cases n <;> rfl
theorem isGlob_gl {I : Inf} {x : Str} (hs : X.env.scope = I.sc) (g : isGlob I x = true) : Gl X x ∧ (x == ("__debug__" : Str)) = false := by
  unfold isGlob isDbg at g
  simp only [Bool.and_eq_true, Bool.not_eq_true', Bool.or_eq_false_iff, beq_iff_eq] at g
  refine ⟨?_, g.1.1⟩
  show X.env.scope.names.lookup x = _
  rw [hs]
  exact g.2
theorem pw_bi {I : Inf} {x : Str} {n : Bi} {m : AM} {p : Pos} (hc : X.calm = true) (hs : X.env.scope = I.sc) (g : isGlob I x = true) (hm : X.mg x = none) (e : biOf x = some n) (hst : (a :: es).any isStar = false) (h : PA X (a :: es) (LowA X Wx m)) :
    PE X (.Call (.Name x p) (a :: es) [] pos) (LowE X Wx (callE (biW n) m)) := by
  obtain ⟨hg, hd⟩ := isGlob_gl hs g
  obtain ⟨hb, hn⟩ := bi_boot e
  simp only [List.any_cons, Bool.or_eq_false_iff] at hst
  have go : ∀ σ H Q, LowE X Wx (callE (biW n) m) σ H Q → tCB (fun xs H Q => ∃ loc h ws, Rel X.K X.mg loc h H ∧ RelWs X.K X.mg loc H ws xs ∧ ∃ Z, PostW X.K X.mg loc H (biW n ws h) Q Z) (LowA X Wx m) σ H Q :=
    fun σ H Q ⟨loc, f, h, rel, rf, p⟩ => ⟨loc, f, h, rel, rf, post_mono (post_bind p) fun x H1 ⟨loc1, wa, h1, e1, rel1, ra, p1⟩ => ⟨loc1, h1, wa, rel1, ra, _, p1⟩⟩
  rcases biV_cases n with ⟨id, hv⟩ | ⟨T, hv⟩
  · exact PE.cons (pe_callB (hv ▸ cw_bi hc n) hg hm (hv ▸ hb) h hn hd (starEach_ns hst.1) (back_ns hst.2)) go
  · exact PE.cons (pe_callTy (hv ▸ cw_bi hc n) hg hm (hv ▸ hb) h hn hd (starEach_ns hst.1) (back_ns hst.2)) go
end
end Rh
/-! Rh9: the evaluator is right: defs called, methods, iterables, targets. -/
namespace Rh
open PySem PySem.Spec PyProof.Rows L2

/-! ### calls of defs -/
def SrcVals (K : PySem.W.Frag) (mg : Str → Option Value) : List Src → List Value → List Value → List Value → Prop
  | [], _, _, vals => vals = []
  | .pos i :: r, us, zs, vals => ∃ v t, vals = v :: t ∧ us[i]? = some v ∧ SrcVals K mg r us zs t
  | .kw i :: r, us, zs, vals => ∃ v t, vals = v :: t ∧ zs[i]? = some v ∧ SrcVals K mg r us zs t
  | .dfl w :: r, us, zs, vals => ∃ x v t, vals = v :: t ∧ RelV x v ∧ (∀ loc H, RelW K mg loc H w x) ∧ SrcVals K mg r us zs t
theorem pick_rel {K : PySem.W.Frag} {mg : Str → Option Value} {loc : List Addr} {H : Hp} {us zs : List Value} {vs vz : List V} {ws wz : List W} (r1 : Vals vs us) (q1 : RelWs K mg loc H ws vs) (r2 : Vals vz zs) (q2 : RelWs K mg loc H wz vz) :
    ∀ {src : List Src} {vals : List Value} {out : List W}, SrcVals K mg src us zs vals → pick ws wz src = some out → ∃ vo, Vals vo vals ∧ RelWs K mg loc H out vo
  | [], vals, out, s, e => by
    have s : vals = [] := s
    cases e
    rw [s]
    exact ⟨[], .nil, .nil⟩
  | .pos i :: r, vals, out, s, e => by
    obtain ⟨v, t, rfl, e1, s⟩ := s
    have e : (ws[i]?).bind (fun w => (pick ws wz r).map (w :: ·)) = some out := e
    cases e2 : ws[i]? with
    | none => rw [e2] at e; cases e
    | some w =>
      rw [e2] at e
      have e : (pick ws wz r).map (w :: ·) = some out := e
      cases e3 : pick ws wz r with
      | none => rw [e3] at e; cases e
      | some o =>
        rw [e3] at e
        cases e
        obtain ⟨x, e4, rx⟩ := q1.get e2
        obtain ⟨u, e5, ru⟩ := r1.get e4
        rw [e1] at e5
        cases e5
        obtain ⟨vo, a, b⟩ := pick_rel r1 q1 r2 q2 s e3
        exact ⟨x :: vo, .cons ru a, .cons rx b⟩
  | .kw i :: r, vals, out, s, e => by
    obtain ⟨v, t, rfl, e1, s⟩ := s
    have e : (wz[i]?).bind (fun w => (pick ws wz r).map (w :: ·)) = some out := e
    cases e2 : wz[i]? with
    | none => rw [e2] at e; cases e
    | some w =>
      rw [e2] at e
      have e : (pick ws wz r).map (w :: ·) = some out := e
      cases e3 : pick ws wz r with
      | none => rw [e3] at e; cases e
      | some o =>
        rw [e3] at e
        cases e
        obtain ⟨x, e4, rx⟩ := q2.get e2
        obtain ⟨u, e5, ru⟩ := r2.get e4
        rw [e1] at e5
        cases e5
        obtain ⟨vo, a, b⟩ := pick_rel r1 q1 r2 q2 s e3
        exact ⟨x :: vo, .cons ru a, .cons rx b⟩
  | .dfl w :: r, vals, out, s, e => by
    obtain ⟨x, v, t, rfl, rx, rw0, s⟩ := s
    have e : (pick ws wz r).map (w :: ·) = some out := e
    cases e3 : pick ws wz r with
    | none => rw [e3] at e; cases e
    | some o =>
      rw [e3] at e
      cases e
      obtain ⟨vo, a, b⟩ := pick_rel r1 q1 r2 q2 s e3
      exact ⟨x :: vo, .cons rx a, .cons (rw0 loc H) b⟩
/-- a def's promise, by a tree-level function -/
def SpW (K : PySem.W.Frag) (mg : Str → Option Value) (n : Nat) (m : List W → HS → R W) : Sp := fun vs H Q E =>
  vs.length = n ∧ ∃ loc h ws, Rel K mg loc h H ∧ RelWs K mg loc H ws vs ∧ PostW K mg loc H (m ws h) Q E
structure FnFact (P : Program) (w : World) (K : PySem.W.Frag) (mg : Str → Option Value) (base : Heap) (kk : Nat) (cf : Str → List W → HS → R W) (x : Str) (fi : FI) (f : Addr) (fd : FuncData) : Prop where
  gl : mg x = some (.ref f)
  kp : PySem.W.keepIn K (.ref f) = true
  ok : FnOk P w K mg base (L2.CX P w) kk f fd fi.ps (SpW K mg fi.ps.length (cf x))
  ln : ∀ ws h, ws.length ≠ fi.ps.length → cf x ws h = .stuck
  sh : ∀ n ks src, (n, ks, src) ∈ fi.shapes → ∀ (s : Shared) (us zs : List Value), K.In s.heap → us.length = n → zs.length = ks.length → ∃ vals, BindsTo s fd ⟨us, ks.zip zs⟩ (fi.ps.zip vals) ∧ SrcVals K mg src us zs vals
section
variable {X : Cx} {Wx : WX} {e a b c : Expr} {es : List Expr} {pos : Pos}
theorem run_call {kk : Nat} {f : Addr} {fd : FuncData} {ps : List Str} {sp : Sp} {pins : List (Addr × Obj)} {σ : L2.St} {H : Hp} {s : Shared} {Q : VK} {us vals : List Value} {kw : List (Str × Value)} {vs : List V}
    (F : FnOk X.prog X.w X.K X.mg X.base (L2.CX X.prog X.w) kk f fd ps sp) (hr : Room kk X.A) (tk : Takes X Wx) (I : Inv X pins σ H s) (hb : BindsTo s fd ⟨us, kw⟩ (ps.zip vals)) (r : Vals vs vals) (q : sp vs H Q (WE Wx σ)) :
    wpAny (model X.prog X.w) X.A (call (.ref f) us kw) (EP X pins σ Q) X.xe s := by
  refine wpAny_call (codeAny_mono (F.run X.A X.stack s H ⟨us, kw⟩ vals vs Q (WE Wx σ) hr I.env0 hb r q) fun r s' hq => ?_)
  cases r with
  | error e => exact passAt tk σ pins H s e s' I hq
  | ok fl =>
    cases fl with
    | ret u => exact I.after hq
    | next => exact False.elim hq
    | brk => exact False.elim hq
    | cont => exact False.elim hq
theorem PK.cons {kws : List Keyword} {t t' : TA} (p : PK X kws t) (i : ∀ σ H Q, t' σ H Q → t σ H Q) : PK X kws t' := ⟨fun ps pins s σ H Q I hh => p.run ps pins s σ H Q I (i σ H Q hh)⟩
theorem pw_kwNil : PK X [] (LowA X Wx nilA) := PK.cons pk_nil fun σ H Q ⟨loc, f, h, rel, rf, p⟩ => post_ok p rel .nil
theorem pw_kwCons {k : Keyword} {ks : List Keyword} {ma : EM} {mr : AM} (ha : PE X k.value (LowE X Wx ma)) (hr : PK X ks (LowA X Wx mr)) : PK X (k :: ks) (LowA X Wx (consA ma mr)) := by
  obtain ⟨nm, v, kp⟩ := k
  exact PK.cons (pk_cons ha hr) fun σ H Q ⟨loc, f, h, rel, rf, p⟩ => ⟨loc, f, h, rel, rf, post_mono (post_bind p) fun x H1 ⟨loc1, wa, h1, e1, rel1, ra, p1⟩ =>
    ⟨loc1, f, h1, rel1, rf.ext e1, post_mono (post_bind p1) fun y H2 ⟨loc2, wb, h2, e2, rel2, rb, p2⟩ => post_ok p2 rel2 (.cons (RelW.ext e2 _ _ ra) rb)⟩⟩
theorem kw_facts {pos : Pos} {env : Env} : ∀ {kws : List Keyword} {ks : List Str}, kwNames kws = some ks →
    (backToKw pos (keywordEach kws env)).all (·.1.isSome) = true ∧ (backToKw pos (keywordEach kws env)).filterMap (·.1) = ks ∧ (backToKw pos (keywordEach kws env)).any (·.1.isNone) = false ∧ ks.length = kws.length
  | [], ks, e => by cases e; exact ⟨rfl, rfl, rfl, rfl⟩
  | ⟨some x, v, p⟩ :: r, ks, e => by
    have e : (kwNames r).map (x :: ·) = some ks := e
    cases q : kwNames r with
    | none => rw [q] at e; cases e
    | some l =>
      rw [q] at e
      cases e
      obtain ⟨a, b, c, d⟩ := kw_facts (pos := pos) (env := env) q
      have e0 : backToKw pos (keywordEach (⟨some x, v, p⟩ :: r) env) = (some x, do let z ← eval v env; standAt pos; pure z) :: backToKw pos (keywordEach r env) := rfl
      rw [e0]
      refine ⟨?_, ?_, ?_, by simp [d]⟩
      · rw [List.all_cons, a]; rfl
      · rw [List.filterMap_cons, b]
      · rw [List.any_cons, c]; rfl
  | ⟨none, v, p⟩ :: r, ks, e => by cases e
theorem pw_call {I : Inf} {kk : Nat} {cf : Str → List W → HS → R W} {x : Str} {fi : FI} {f : Addr} {fd : FuncData} {ks : List Str} {src : List Src} {kws : List Keyword} {ma mk : AM} {p : Pos} (hs : X.env.scope = I.sc) (g : isGlob I x = true)
    (F : FnFact X.prog X.w X.K X.mg X.base kk cf x fi f fd) (hr : Room kk X.A) (tk : Takes X Wx) (hst : es.any isStar = false) (hk : kwNames kws = some ks) (hsh : shapeOf fi es.length ks = some src)
    (ha : PA X es (LowA X Wx ma)) (hkw : PK X kws (LowA X Wx mk)) (la : ∀ f h ws h', ma f h = .ok ws h' → ws.length = es.length) (lk : ∀ f h ws h', mk f h = .ok ws h' → ws.length = kws.length)
    (l0 : es = [] → ∀ f h, ma f h = .ok [] h ∨ ma f h = .stuck) :
    PE X (.Call (.Name x p) es kws pos) (LowE X Wx (callK (fnC cf x src) ma mk)) := by
  obtain ⟨hg, hd⟩ := isGlob_gl hs g
  obtain ⟨k1, k2, k3, k4⟩ := kw_facts (pos := pos) (env := X.env) hk
  have hmem : (es.length, ks, src) ∈ fi.shapes := by
    unfold shapeOf at hsh
    cases q : fi.shapes.find? fun s => s.1 == es.length && s.2.1 == ks with
    | none => rw [q] at hsh; cases hsh
    | some z =>
      rw [q] at hsh
      obtain ⟨z1, z2, z3⟩ := z
      cases hsh
      have m := List.mem_of_find?_eq_some q
      have t := List.find?_some q
      simp only [Bool.and_eq_true, beq_iff_eq] at t
      obtain ⟨rfl, rfl⟩ := t
      exact m
  refine ⟨fun pins s σ H Q I0 hh => ?_⟩
  obtain ⟨loc, f0, h, rel, rf, p0⟩ := hh
  refine wpAny_Call_Name_kw (ld_glob I0 hg F.gl ?_ hd)
  -- what is left behind the arguments and the keywords
  have fin : ∀ (us : List Value) (vs : List V) (s1 : Shared) (H1 : Hp), Inv X pins σ H1 s1 → Vals vs us → us.length = es.length →
      (∃ loc1 ws h1, Ext X.K loc H loc1 H1 ∧ Rel X.K X.mg loc1 h1 H1 ∧ RelWs X.K X.mg loc1 H1 ws vs ∧ PostW X.K X.mg loc1 H1 ((mk f0 h1).bind fun ys h => fnC cf x src ws ys h) Q (fun cls d H' => Wx cls d σ H')) →
      wpAny (model X.prog X.w) X.A (evalAll ((backToKw pos (keywordEach kws X.env)).map (·.2))) (fun zs s2 => X.K.In s2.heap ∧ wpAny (model X.prog X.w) X.A (call (.ref f) us (ks.zip zs)) (EP X pins σ Q) X.xe s2) X.xe s1 := by
    intro us vs s1 H1 I1 r lu hq
    obtain ⟨loc1, ws, h1, e1, rel1, ra, p1⟩ := hq
    have key : PostE X.K X.mg (RelWs X.K X.mg) loc1 H1 (mk f0 h1) (fun vz H2 => vz.length = kws.length ∧ ∃ loc2 wz h2, Ext X.K loc1 H1 loc2 H2 ∧ Rel X.K X.mg loc2 h2 H2 ∧ RelWs X.K X.mg loc2 H2 wz vz ∧ PostW X.K X.mg loc2 H2 (fnC cf x src ws wz h2) Q (fun cls d H' => Wx cls d σ H')) (fun cls d H' => Wx cls d σ H') := by
      have pb := post_bind (RW := RelWs X.K X.mg) p1
      cases q : mk f0 h1 with
      | ok wz h2 =>
        rw [q] at pb
        intro v l H' e r0 rr
        exact ⟨by rw [rr.length, lk _ _ _ _ q], pb v l H' e r0 rr⟩
      | exc y h2 => rw [q] at pb; exact pb
      | stuck => rw [q] at pb; exact pb
    refine thn (hkw.run pos pins s1 σ H1 _ I1 ⟨loc1, f0, h1, rel1, rf.ext e1, key⟩) fun zs s2 hz => ?_
    obtain ⟨vz, H2, I2, rz, lz, loc2, wz, h2, e2, rel2, rb, p2⟩ := hz
    refine ⟨I2.kIn, ?_⟩
    obtain ⟨vals, hb, sv⟩ := F.sh es.length ks src hmem s2 us zs I2.kIn lu (by rw [← rz.length, lz, k4])
    have p2 : PostW X.K X.mg loc2 H2 (match pick ws wz src with | some vs => cf x vs h2 | none => .stuck) Q (fun cls d H' => Wx cls d σ H') := p2
    cases q : pick ws wz src with
    | none => rw [q] at p2; exact (show False from p2).elim
    | some out =>
      rw [q] at p2
      dsimp only at p2
      obtain ⟨vo, rv, rw0⟩ := pick_rel r (RelWs.ext e2 _ _ ra) rz rb sv q
      -- how many they are is told by the callee
      by_cases hl : vo.length = fi.ps.length
      · exact run_call F.ok hr tk I2 hb rv ⟨hl, loc2, h2, out, rel2, rw0, p2⟩
      · rw [rw0.length] at hl
        rw [F.ln out h2 hl] at p2
        exact (show False from p2).elim
  have key : PostE X.K X.mg (RelWs X.K X.mg) loc H (ma f0 h) (fun vs H1 => vs.length = es.length ∧ ∃ loc1 ws h1, Ext X.K loc H loc1 H1 ∧ Rel X.K X.mg loc1 h1 H1 ∧ RelWs X.K X.mg loc1 H1 ws vs ∧ PostW X.K X.mg loc1 H1 ((mk f0 h1).bind fun ys h => fnC cf x src ws ys h) Q (fun cls d H' => Wx cls d σ H')) (fun cls d H' => Wx cls d σ H') := by
    have pb := post_bind (RW := RelWs X.K X.mg) p0
    cases q : ma f0 h with
    | ok ws h2 =>
      rw [q] at pb
      intro v l H' e r0 rr
      exact ⟨by rw [rr.length, la _ _ _ _ q], pb v l H' e r0 rr⟩
    | exc y h2 => rw [q] at pb; exact pb
    | stuck => rw [q] at pb; exact pb
  cases es with
  | nil =>
    refine PySem.W.callWith_KW0 (h₀ := X.base) I0.ok.mod.kin F.kp k1 ?_ (by rw [k3]; rfl)
    rw [k2]
    have p0 : PostW X.K X.mg loc H ((ma f0 h).bind fun xs h => (mk f0 h).bind fun ys h => fnC cf x src xs ys h) Q (fun cls d H' => Wx cls d σ H') := p0
    rcases l0 rfl f0 h with q | q
    · rw [q] at p0
      exact fin [] [] s H I0 .nil rfl ⟨loc, [], h, Ext.refl, rel, .nil, p0⟩
    · rw [q] at p0
      exact (show False from p0).elim
  | cons a r =>
    simp only [List.any_cons, Bool.or_eq_false_iff] at hst
    refine PySem.W.callWith_KW (h₀ := X.base) I0.ok.mod.kin F.kp k1 (thn (ha.run pos pins s σ H _ I0 ⟨loc, f0, h, rel, rf, key⟩) fun us s1 hz => ?_) ?_ (starEach_ns hst.1)
    · obtain ⟨vs, H1, I1, rv, lv, hq⟩ := hz
      rw [k2]
      exact fin us vs s1 H1 I1 rv (by rw [← rv.length, lv]) hq
    · rw [k3, Bool.or_false]
      exact back_ns (by simp only [List.any_cons, hst.1, hst.2, Bool.or_self])
/-! ### methods -/
def okBase : Expr → Bool
  | .Name _ _ => true
  | .Subscript _ _ _ => true
  | _ => false
theorem base_ok {o : Expr} {m : Str} {env : Env} (h : okBase o = true) : attributeBase o m env (eval o env) = eval o env := by
  cases o <;> first | rfl | cases h
theorem back_all {env : Env} : ∀ {es : List Expr}, es.any isStar = false → (backTo pos (starEach es env)).all (fun x => !x.1) = true
  | [], _ => rfl
  | e :: es, h => by
    simp only [List.any_cons, Bool.or_eq_false_iff] at h
    rw [starEach_ns h.1]
    have ih := back_all (env := env) h.2
    unfold backTo at ih ⊢
    simp only [List.map_cons, List.all_cons, Bool.not_false, Bool.true_and]
    exact ih
theorem mt_name {m : Str} {k : Mt} (e : mtOf m = some k) : m = Str.ofString (mtNm k) := by
  unfold mtOf at e
  repeat' split at e
  all_goals first
    | (rename_i h; cases e; exact h)
    | cases e
theorem pw_meth {o : Expr} {k : Mt} {m : Str} {mo : EM} {ma : AM} {apos : Pos} (hb : okBase o = true) (hm : mtOf m = some k) (hst : es.any isStar = false) (hl : (apos.endLine == pos.line) = true) (hn : es.length < 29)
    (ho : PE X o (LowE X Wx mo)) (ha : PA X es (LowA X Wx ma)) (l0 : es = [] → ∀ f h, ma f h = .ok [] h ∨ ma f h = .stuck) : PE X (.Call (.Attribute o m apos) es [] pos) (LowE X Wx (methE k mo ma)) := by
  have em := mt_name hm
  subst em
  refine ⟨fun pins s σ H Q I0 hh => ?_⟩
  obtain ⟨loc, f0, h, rel, rf, p0⟩ := hh
  have few : ((backTo pos (starEach es X.env)).all (fun x => !x.1) && (backToKw pos (keywordEach [] X.env)).all (fun x => x.1.isSome) && decide (es.length + ([] : List Keyword).length + (if ([] : List Keyword).isEmpty then 0 else 1) < 30)) = true := by
    rw [back_all hst]
    have : es.length < 30 := by omega
    simp [backToKw, keywordEach, this]
  refine wpAny_Call_method_late (base_ok hb) few hl rfl (thn (ho.run pins s σ H _ I0 ⟨loc, f0, h, rel, rf, post_bind p0⟩) fun v s1 hz => ?_)
  obtain ⟨x, H1, I1, rx, loc1, wo, h1, e1, rel1, ro, p1⟩ := hz
  obtain ⟨g, p1⟩ := post_guard p1
  obtain ⟨T, id, M, mr⟩ := mt_lookup I1 rel1 ro rx g
  refine ⟨T, id, M.pa, M.slot, M.ty, M.ti, M.di, ?_⟩
  have fin : ∀ (us : List Value) (s2 : Shared), AP X pins σ (fun vs H2 => ∃ loc2 ws h2, Ext X.K loc1 H1 loc2 H2 ∧ Rel X.K X.mg loc2 h2 H2 ∧ RelWs X.K X.mg loc2 H2 ws vs ∧ PostW X.K X.mg loc2 H2 (mtW k wo ws h2) Q (fun cls d H' => Wx cls d σ H')) us s2 →
      wpAny (model X.prog X.w) X.A (call (.builtin id) (v :: us)) (EP X pins σ Q) X.xe s2 := by
    intro us s2 hz
    obtain ⟨vs, H2, I2, rv, loc2, ws, h2, e2, rel2, ra, p2⟩ := hz
    exact mr pins s2 σ H2 x vs v us Q I2 rx rv ⟨loc2, h2, ws, rel2, RelW.ext e2 _ _ ro, ra, _, p2⟩
  cases es with
  | nil =>
    refine Calls.callWith_builtin rfl (PySem.evalArgs_none (fin [] s1 ?_))
    have p1 : PostW X.K X.mg loc1 H1 ((ma f0 h1).bind fun xs h => mtW k wo xs h) Q (fun cls d H' => Wx cls d σ H') := p1
    rcases l0 rfl f0 h1 with q | q
    · rw [q] at p1
      exact ⟨[], H1, I1, .nil, loc1, [], h1, Ext.refl, rel1, .nil, p1⟩
    · rw [q] at p1
      exact (show False from p1).elim
  | cons a r =>
    simp only [List.any_cons, Bool.or_eq_false_iff] at hst
    have hA := ha.run pos pins s1 σ H1 _ I1 ⟨loc1, f0, h1, rel1, rf.ext e1, post_bind p1⟩
    rw [starEach_ns hst.1] at hA ⊢
    refine Calls.callWith_builtin (by show (false || (backTo pos (starEach r X.env)).any (·.1)) = false; rw [back_ns hst.2]; rfl) (Calls.evalArgs_plain ?_)
    exact thn hA fun us s2 hz => fin us s2 hz
end
end Rh
/-! Rh10: the evaluator is right: iterables, targets, comprehensions. -/
namespace Rh
open PySem PySem.Spec PyProof.Rows L2
def RelI (K : PySem.W.Frag) (mg : Str → Option Value) (tg : Expr) (loc : List Addr) (H : Hp) (w : W) (x : V) : Prop :=
  RelW K mg loc H w x ∨ (isTupE tg = true ∧ ∃ ws a vs, w = .tup ws ∧ x = .ref a ∧ SqT K H a vs ∧ RelWs K mg loc H ws vs)
def JOk (X : Cx) (tg : Expr) (J : It) (d : Itd) (loc : List Addr) (H : Hp) : Prop :=
  ∀ loc1 H1 h1, Ext X.K loc H loc1 H1 → Rel X.K X.mg loc1 h1 H1 → ∀ i, (d.nth h1 i = some none → J.stop i H1) ∧
    ∀ w, d.nth h1 i = some (some w) → J.go i H1 ∧ ∀ x H2, J.yld i H1 x H2 → ∃ loc2, Ext X.K loc1 H1 loc2 H2 ∧ Rel X.K X.mg loc2 h1 H2 ∧ RelI X.K X.mg tg loc2 H2 w x
abbrev LowI (X : Cx) (Wx : WX) (tg : Expr) (m : IM) : TI := Low (fun loc H d J => JOk X tg J d loc H) X Wx m
section
variable {X : Cx} {Wx : WX} {e a b c tg : Expr} {es : List Expr} {pos : Pos}
theorem PI.cons {t t' : TI} (p : PI X tg e t) (i : ∀ σ H Q, t' σ H Q → t σ H Q) : PI X tg e t' := ⟨fun pins s σ H Q I hh => p.run pins s σ H Q I (i σ H Q hh)⟩
theorem pi_stuck : PI X tg e (LowI X Wx tg fun _ _ => .stuck) := ⟨fun _ _ _ _ _ _ hh => (low_stuck hh).elim⟩
theorem jok_tup {a : Addr} {vs : List V} {ws : List W} {loc : List Addr} {H : Hp} (t : Tu X.K H a vs) (r : RelWs X.K X.mg loc H ws vs) : JOk X tg (Itt X.K a) (.vals ws) loc H := by
  intro loc1 H1 h1 e1 rel1 i
  have t1 := e1.tup _ _ t
  have r1 := RelWs.ext e1 _ _ r
  refine ⟨fun q => ?_, fun w q => ?_⟩
  · have q : some ws[i]? = some none := q
    refine ⟨vs, t1.sq, ?_⟩
    have q2 : ws[i]? = none := Option.some.inj q
    rw [r1.length]
    exact List.getElem?_eq_none_iff.mp q2
  · have q2 : ws[i]? = some w := Option.some.inj (show some ws[i]? = some (some w) from q)
    obtain ⟨x, e2, rx⟩ := r1.get q2
    refine ⟨⟨vs, x, t1.sq, e2⟩, fun y H2 hy => ?_⟩
    obtain ⟨rfl, hy⟩ := hy
    have e3 := hy vs t1.sq
    rw [e2] at e3
    cases e3
    exact ⟨loc1, Ext.refl, rel1, .inl rx⟩
theorem live_sql {loc : List Addr} {H : Hp} {h : HS} {n : Nat} {a : Addr} {ws : List W} (rel : Rel X.K X.mg loc h H) (e : loc[n]? = some a) (g : flO (h.get n) = some ws) : ∃ vs, SqL X.K H a vs ∧ RelWs X.K X.mg loc H ws vs := obj_sql rel e (flO_some g)
theorem jok_live {n : Nat} {a : Addr} {loc : List Addr} {H : Hp} (e : loc[n]? = some a) : JOk X tg (Itl X.K a) (.live n) loc H := by
  intro loc1 H1 h1 e1 rel1 i
  have e2 := e1.get e
  cases g : flO (h1.get n) with
  | none =>
    have q0 : (Itd.live n).nth h1 i = none := by show (flO (h1.get n)).map _ = none; rw [g]; rfl
    exact ⟨fun q => by (rw [q0] at q; cases q), fun w q => by (rw [q0] at q; cases q)⟩
  | some ws =>
    obtain ⟨vs, s, r⟩ := live_sql rel1 e2 g
    have q0 : (Itd.live n).nth h1 i = some ws[i]? := by show (flO (h1.get n)).map _ = _; rw [g]; rfl
    refine ⟨fun q => ?_, fun w q => ?_⟩
    · rw [q0] at q
      refine ⟨vs, s, ?_⟩
      rw [r.length]
      exact List.getElem?_eq_none_iff.mp (Option.some.inj q)
    · rw [q0] at q
      obtain ⟨x, e3, rx⟩ := r.get (Option.some.inj q)
      refine ⟨⟨vs, x, s, e3⟩, fun y H2 hy => ?_⟩
      obtain ⟨rfl, hy⟩ := hy
      have e4 := hy vs s
      rw [e3] at e4
      cases e4
      exact ⟨loc1, Ext.refl, rel1, .inl rx⟩
theorem jok_enum {n : Nat} {a : Addr} {loc : List Addr} {H : Hp} (ht : isTupE tg = true) (e : loc[n]? = some a) : JOk X tg (Ite X.K a) (.enum n) loc H := by
  intro loc1 H1 h1 e1 rel1 i
  have e2 := e1.get e
  cases g : flO (h1.get n) with
  | none =>
    have q0 : (Itd.enum n).nth h1 i = none := by show (flO (h1.get n)).map _ = none; rw [g]; rfl
    exact ⟨fun q => by (rw [q0] at q; cases q), fun w q => by (rw [q0] at q; cases q)⟩
  | some ws =>
    obtain ⟨vs, s, r⟩ := live_sql rel1 e2 g
    have q0 : (Itd.enum n).nth h1 i = some (ws[i]?.map fun x => .tup [.int i, x]) := by show (flO (h1.get n)).map _ = _; rw [g]; rfl
    refine ⟨fun q => ?_, fun w q => ?_⟩
    · rw [q0] at q
      refine ⟨vs, s, ?_⟩
      rw [r.length]
      exact List.getElem?_eq_none_iff.mp (Option.map_eq_none_iff.mp (Option.some.inj q))
    · rw [q0] at q
      obtain ⟨w0, q1, q2⟩ := Option.map_eq_some_iff.mp (Option.some.inj q)
      obtain ⟨x, e3, rx⟩ := r.get q1
      refine ⟨⟨vs, x, s, e3⟩, fun y H2 hy => ?_⟩
      obtain ⟨T, x', rfl, hT, rfl, hy⟩ := hy
      have e4 := hy vs s
      rw [e3] at e4
      cases e4
      have ex := Ext.newT (K := X.K) (loc := loc1) (o := .tup [.int (i : Nat), x]) hT
      exact ⟨loc1, ex, rel1.newT hT, .inr ⟨ht, _, T, _, q2.symm, rfl, .inl (.inl upd_same), .cons relW_int (.cons (RelW.ext ex _ _ rx) .nil)⟩⟩
theorem rng_get {lo : Int} {n i : Nat} : (rng lo n)[i]? = if i < n then some (W.int (lo + (i : Int))) else none := by
  unfold rng
  rw [List.getElem?_map]
  by_cases h : i < n
  · rw [if_pos h, List.getElem?_range h]; rfl
  · rw [if_neg h, List.getElem?_eq_none (by simpa using h)]; rfl
theorem jok_rng {lo : Int} {n : Nat} {loc : List Addr} {H : Hp} : JOk X tg (Itr lo n) (.vals (rng lo n)) loc H := by
  intro loc1 H1 h1 e1 rel1 i
  have q0 : (Itd.vals (rng lo n)).nth h1 i = some (if i < n then some (W.int (lo + (i : Int))) else none) := by show some (rng lo n)[i]? = _; rw [rng_get]
  rw [q0]
  by_cases h : i < n
  · rw [if_pos h]
    refine ⟨fun q => (by cases q), fun w q => ⟨h, fun y H2 hy => ?_⟩⟩
    obtain ⟨rfl, rfl⟩ := hy
    cases q
    exact ⟨loc1, Ext.refl, rel1, .inl relW_int⟩
  · rw [if_neg h]
    exact ⟨fun _ => Nat.le_of_not_lt h, fun w q => by cases q⟩
theorem chrs_get {x : Str} {i : Nat} : (chrs x)[i]? = (x.cps[i]?).map fun c => W.str ⟨#[c]⟩ := by
  unfold chrs
  rw [List.getElem?_map, Array.getElem?_toList]
theorem jok_str {x : Str} {loc : List Addr} {H : Hp} : JOk X tg (Its x) (.vals (chrs x)) loc H := by
  intro loc1 H1 h1 e1 rel1 i
  have q0 : (Itd.vals (chrs x)).nth h1 i = some ((x.cps[i]?).map fun c => W.str ⟨#[c]⟩) := by show some (chrs x)[i]? = _; rw [chrs_get]
  rw [q0]
  cases e : x.cps[i]? with
  | none => exact ⟨fun _ => Array.getElem?_eq_none_iff.mp e, fun w q => (by cases q)⟩
  | some c =>
    refine ⟨fun q => (by cases q), fun w q => ⟨(Array.getElem?_eq_some_iff.mp e).1, fun y H2 hy => ?_⟩⟩
    obtain ⟨rfl, c', ec, rfl⟩ := hy
    rw [e] at ec
    cases ec
    cases q
    exact ⟨loc1, Ext.refl, rel1, .inl relW_str⟩
theorem rng3_get {lo c : Int} {n i : Nat} : (rng3 lo c n)[i]? = if i < n then some (W.int (lo + (i : Int) * c)) else none := by
  unfold rng3
  rw [List.getElem?_map]
  by_cases h : i < n
  · rw [if_pos h, List.getElem?_range h]; rfl
  · rw [if_neg h, List.getElem?_eq_none (by simpa using h)]; rfl
theorem jok_rng3 {lo c : Int} {n : Nat} {loc : List Addr} {H : Hp} : JOk X tg (Itc lo c n) (.vals (rng3 lo c n)) loc H := by
  intro loc1 H1 h1 e1 rel1 i
  have q0 : (Itd.vals (rng3 lo c n)).nth h1 i = some (if i < n then some (W.int (lo + (i : Int) * c)) else none) := by show some (rng3 lo c n)[i]? = _; rw [rng3_get]
  rw [q0]
  by_cases h : i < n
  · rw [if_pos h]
    refine ⟨fun q => (by cases q), fun w q => ⟨h, fun y H2 hy => ?_⟩⟩
    obtain ⟨rfl, rfl⟩ := hy
    cases q
    exact ⟨loc1, Ext.refl, rel1, .inl relW_int⟩
  · rw [if_neg h]
    exact ⟨fun _ => Nat.le_of_not_lt h, fun w q => by cases q⟩
theorem lst_of {o : O} (g : isLst o = true) : ∃ ws, flO o = some ws := by
  cases o <;> first | exact ⟨_, rfl⟩ | cases g
/-- any value that is walked -/
theorem pw_any {m : EM} (h : PE X e (LowE X Wx m)) : PI X tg e (LowI X Wx tg (anyI m)) := by
  refine ⟨fun pins s σ H R0 I hh => ?_⟩
  obtain ⟨loc, f, h0, rel, rf, p⟩ := hh
  unfold anyI at p
  cases hm : m f h0 with
  | stuck => rw [hm] at p; exact (show False from p).elim
  | exc y h1 =>
    rw [hm] at p
    exact (pi_list h).run pins s σ H R0 I ⟨loc, f, h0, rel, rf, by rw [hm]; exact p⟩
  | ok w h1 =>
    rw [hm] at p
    cases w with
    | tup ws =>
      refine (pi_tup h).run pins s σ H R0 I ⟨loc, f, h0, rel, rf, ?_⟩
      rw [hm]
      intro v loc' H' e' rel' rv
      obtain ⟨a, vs, rfl, t, q⟩ := un_tup rv
      exact ⟨a, rfl, ⟨vs, t.sq⟩, p _ loc' H' e' rel' (jok_tup t q)⟩
    | ref n =>
      refine (pi_list h).run pins s σ H R0 I ⟨loc, f, h0, rel, rf, ?_⟩
      rw [hm]
      intro v loc' H' e' rel' rv
      obtain ⟨a, rfl, e1⟩ := un_ref rv
      obtain ⟨g, p⟩ := post_guard (show PostE X.K X.mg (fun loc H d J => JOk X tg J d loc H) loc H (guardR (isLst (h1.get n)) (.ok (.live n) h1)) R0 _ from p)
      obtain ⟨ws, g2⟩ := lst_of g
      obtain ⟨vs, sq, _⟩ := live_sql rel' e1 g2
      exact ⟨a, rfl, ⟨vs, sq⟩, p _ loc' H' e' rel' (jok_live e1)⟩
    | str y =>
      refine (PI.cons (pi_str h) fun σ H Q hh => hh : PI X tg e (iStr (LowE X Wx m))).run pins s σ H R0 I ⟨loc, f, h0, rel, rf, ?_⟩
      rw [hm]
      intro v loc' H' e' rel' rv
      exact ⟨y, un_str rv, p _ loc' H' e' rel' jok_str⟩
    | non => exact (show False from p).elim
    | bl _ => exact (show False from p).elim
    | int _ => exact (show False from p).elim
    | gl _ => exact (show False from p).elim
    | ty _ => exact (show False from p).elim
theorem star1 {env : Env} (h : isStar a = false) : starEach [a] env = [(false, eval a env)] := starEach_ns h
theorem star2 {env : Env} (h : isStar a = false) (h2 : isStar b = false) : starEach [a, b] env = [(false, eval a env), (false, eval b env)] := by rw [starEach_ns h, starEach_ns h2]; rfl
theorem pw_range1 {I : Inf} {m : AM} {p : Pos} (hs : X.env.scope = I.sc) (g : isGlob I "range" = true) (hm : X.mg "range" = none) (h1 : isStar a = false) (h : PA X [a] (LowA X Wx m)) :
    PI X tg (.Call (.Name "range" p) [a] [] pos) (LowI X Wx tg (rangeI m)) :=
  PI.cons (pi_range1 (isGlob_gl hs g).1 hm h (star1 h1)) fun σ H Q ⟨loc, f, h, rel, rf, p⟩ => ⟨loc, f, h, rel, rf, post_mono (post_bind p) fun x H1 ⟨loc1, wa, h1, e1, rel1, ra, p1⟩ => by
    rcases wa with _ | ⟨w, _ | ⟨w2, ws⟩⟩
    · exact (show False from p1).elim
    · cases w <;> first | exact (show False from p1).elim | skip
      case int j =>
        obtain ⟨v, t, rfl, r1, r2⟩ := ra.uncons
        rw [r2.unnil, un_int r1]
        obtain ⟨g, p2⟩ := post_guard (show PostE X.K X.mg (fun loc H d J => JOk X tg J d loc H) loc1 H1 (guardR (iLt j (2 ^ 62)) (.ok (.vals (rng 0 j.toNat)) h1)) Q _ from p1)
        have g := iLt_iff.mp g
        exact ⟨j, rfl, by omega, by omega, p2 _ loc1 H1 Ext.refl rel1 jok_rng⟩
    · cases w <;> exact (show False from p1).elim⟩
theorem pw_range2 {I : Inf} {m : AM} {p : Pos} (hs : X.env.scope = I.sc) (g : isGlob I "range" = true) (hm : X.mg "range" = none) (h1 : isStar a = false) (h2 : isStar b = false) (h : PA X [a, b] (LowA X Wx m)) :
    PI X tg (.Call (.Name "range" p) [a, b] [] pos) (LowI X Wx tg (rangeI2 m)) :=
  PI.cons (pi_range2 (isGlob_gl hs g).1 hm h (star2 h1 h2) (star1 h2)) fun σ H Q ⟨loc, f, h, rel, rf, p⟩ => ⟨loc, f, h, rel, rf, post_mono (post_bind p) fun x H1 ⟨loc1, wa, h1, e1, rel1, ra, p1⟩ => by
    rcases wa with _ | ⟨w, _ | ⟨w2, _ | ⟨w3, ws⟩⟩⟩
    · exact (show False from p1).elim
    · cases w <;> exact (show False from p1).elim
    · cases w <;> cases w2 <;> first | exact (show False from p1).elim | skip
      case int.int i j =>
        obtain ⟨v, t, rfl, r1, r2⟩ := ra.uncons
        obtain ⟨v', t', rfl, r3, r4⟩ := r2.uncons
        rw [r4.unnil, un_int r1, un_int r3]
        obtain ⟨g, p2⟩ := post_guard (show PostE X.K X.mg (fun loc H d J => JOk X tg J d loc H) loc1 H1 (guardR (iLt i (2 ^ 62) && iLt j (2 ^ 62)) (.ok (.vals (rng i (j - i).toNat)) h1)) Q _ from p1)
        rw [Bool.and_eq_true] at g
        have g1 := iLt_iff.mp g.1
        have g2 := iLt_iff.mp g.2
        exact ⟨i, j, rfl, ⟨by omega, by omega, by omega, by omega⟩, p2 _ loc1 H1 Ext.refl rel1 jok_rng⟩
    · cases w <;> cases w2 <;> exact (show False from p1).elim⟩
theorem pw_range3 {I : Inf} {m : AM} {p : Pos} (hs : X.env.scope = I.sc) (g : isGlob I "range" = true) (hm : X.mg "range" = none) (h1 : isStar a = false) (h2 : isStar b = false) (h3 : isStar c = false) (h : PA X [a, b, c] (LowA X Wx m)) :
    PI X tg (.Call (.Name "range" p) [a, b, c] [] pos) (LowI X Wx tg (rangeI3 m)) :=
  PI.cons (pi_range3 (isGlob_gl hs g).1 hm h (starEach_ns h1) (back_ns (by simp [h2, h3]))) fun σ H Q ⟨loc, f, h, rel, rf, p⟩ => ⟨loc, f, h, rel, rf, post_mono (post_bind p) fun x H1 ⟨loc1, wa, h1, e1, rel1, ra, p1⟩ => by
    rcases wa with _ | ⟨w, _ | ⟨w2, _ | ⟨w3, _ | ⟨w4, ws⟩⟩⟩⟩
    · exact (show False from p1).elim
    · cases w <;> exact (show False from p1).elim
    · cases w <;> cases w2 <;> exact (show False from p1).elim
    · cases w <;> cases w2 <;> cases w3 <;> first | exact (show False from p1).elim | skip
      case int.int.int i j c =>
        obtain ⟨v, t, rfl, r1, r2⟩ := ra.uncons
        obtain ⟨v', t', rfl, r3, r4⟩ := r2.uncons
        obtain ⟨v'', t'', rfl, r5, r6⟩ := r4.uncons
        rw [r6.unnil, un_int r1, un_int r3, un_int r5]
        obtain ⟨g, p2⟩ := post_guard (show PostE X.K X.mg (fun loc H d J => JOk X tg J d loc H) loc1 H1 (guardR (decide (c = -1) && (iLt i 1000000 && iLt j 1000000)) (.ok (.vals (rng3 i (-1) (i - j).toNat)) h1)) Q _ from p1)
        rw [Bool.and_eq_true, Bool.and_eq_true] at g
        have g0 := of_decide_eq_true g.1
        have g1 := iLt_iff.mp g.2.1
        have g2 := iLt_iff.mp g.2.2
        subst g0
        exact ⟨i, j, -1, (i - j).toNat, rfl, RgC.neg (by omega) (by omega) (by omega) (by omega), p2 _ loc1 H1 Ext.refl rel1 jok_rng3⟩
    · cases w <;> cases w2 <;> cases w3 <;> exact (show False from p1).elim⟩
theorem pw_enum {I : Inf} {m : AM} {p tp : Pos} {elts : List Expr} {kk : Nat} (hs : X.env.scope = I.sc) (g : isGlob I "enumerate" = true) (hm : X.mg "enumerate" = none) (h1 : isStar a = false) (h : PA X [a] (LowA X Wx m)) :
    PI X (.Tuple elts kk tp) (.Call (.Name "enumerate" p) [a] [] pos) (LowI X Wx (.Tuple elts kk tp) (enumI m)) :=
  PI.cons (pi_enum (isGlob_gl hs g).1 hm h (star1 h1)) fun σ H Q ⟨loc, f, h, rel, rf, p⟩ => ⟨loc, f, h, rel, rf, post_mono (post_bind p) fun x H1 ⟨loc1, wa, h1, e1, rel1, ra, p1⟩ => by
    rcases wa with _ | ⟨w, _ | ⟨w2, ws⟩⟩
    · exact (show False from p1).elim
    · cases w <;> first | exact (show False from p1).elim | skip
      case ref n =>
        obtain ⟨v, t, rfl, r1, r2⟩ := ra.uncons
        obtain ⟨a', rfl, e2⟩ := un_ref r1
        rw [r2.unnil]
        obtain ⟨g, p2⟩ := post_guard (show PostE X.K X.mg (fun loc H d J => JOk X (.Tuple elts kk tp) J d loc H) loc1 H1 (guardR (isLst (h1.get n)) (.ok (.enum n) h1)) Q _ from p1)
        obtain ⟨ws, g2⟩ := lst_of g
        obtain ⟨vs, sq, _⟩ := live_sql rel1 e2 g2
        exact ⟨a', vs, rfl, sq, p2 _ loc1 H1 Ext.refl rel1 (jok_enum rfl e2)⟩
    · cases w <;> exact (show False from p1).elim⟩
/-! ### targets -/
theorem store_facts {I : Inf} {x : Str} {i : Nat} (hN : X.N = I.N) (hs : X.env.scope = I.sc) (hf : X.fn = I.fn) (e : storeIx I x = some i) :
    X.N[i]? = some x ∧ Loc X.env.scope x ∧ (X.fn x = true ∨ X.env.scope.names.lookup x = some .local) := by
  have ix : ∀ {l : List Str} {j : Nat}, ixOf x l = some j → l[j]? = some x := by
    intro l
    induction l with
    | nil => intro j e; cases e
    | cons y r ih =>
      intro j e
      unfold ixOf at e
      by_cases c : x = y
      · rw [if_pos c] at e; cases e; subst c; rfl
      · rw [if_neg c] at e
        cases q : ixOf x r with
        | none => rw [q] at e; cases e
        | some k => rw [q] at e; cases e; simpa using ih q
  unfold storeIx at e
  rw [hN, hs, hf]
  cases q : I.sc.names.lookup x with
  | none => rw [q] at e; cases e
  | some k =>
    rw [q] at e
    cases k with
    | «local» => exact ⟨ix e, .inl q, .inr rfl⟩
    | cell =>
      have e : (if I.fn x = true then ixOf x I.N else none) = some i := e
      by_cases c : I.fn x = true
      · rw [if_pos c] at e; exact ⟨ix e, .inr q, .inl c⟩
      · rw [if_neg c] at e; cases e
    | _ => cases e
theorem ixOf_get {x : Str} : ∀ {l : List Str} {j : Nat}, ixOf x l = some j → l[j]? = some x
  | [], j, e => by cases e
  | y :: r, j, e => by
    unfold ixOf at e
    by_cases c : x = y
    · rw [if_pos c] at e; cases e; subst c; rfl
    · rw [if_neg c] at e
      cases q : ixOf x r with
      | none => rw [q] at e; cases e
      | some k => rw [q] at e; cases e; simpa using ixOf_get q
/-- what a target does -/
def TgOk (X : Cx) (tg : Expr) (t : Tg) : Prop := ∃ g : TG, PG X tg g ∧ ∀ (loc : List Addr) (H : Hp) (f f1 : Fr) (σ : L2.St) (w : W) (v : V) (Q : L2.St → Hp → Prop),
  RelF X.K X.mg loc H f σ → RelI X.K X.mg tg loc H w v → t.put w f = some f1 → (∀ σ1, RelF X.K X.mg loc H f1 σ1 → Q σ1 H) → g v σ H Q
def gsNames : List Nat → TGs
  | [] => gNil
  | i :: is => gCons (gName i) (gsNames is)
theorem pgs_names {I : Inf} (hN : X.N = I.N) (hnd : I.N.Nodup) (hs : X.env.scope = I.sc) (hf : X.fn = I.fn) : ∀ {es : List Expr} {l : List (Str × Nat)}, tgNames I es = some l → PGs X es (gsNames (l.map (·.2))) ∧ (assignEach es X.env).length = (l.map (·.2)).length ∧ (assignEach es X.env).findIdx? (·.1) = none
  | [], l, e => by cases e; exact ⟨pgs_nil, rfl, rfl⟩
  | .Name x p :: r, l, e => by
    have e : (storeIx I x).bind (fun i => (tgNames I r).map ((x, i) :: ·)) = some l := e
    cases q : storeIx I x with
    | none => rw [q] at e; cases e
    | some i =>
      rw [q] at e
      have e : (tgNames I r).map ((x, i) :: ·) = some l := e
      cases q2 : tgNames I r with
      | none => rw [q2] at e; cases e
      | some l2 =>
        rw [q2] at e
        cases e
        obtain ⟨f1, f2, f3⟩ := store_facts hN hs hf q
        obtain ⟨a, b, c⟩ := pgs_names hN hnd hs hf q2
        refine ⟨pgs_cons (pg_name (hN ▸ hnd) f1 f2 f3) a rfl, ?_, ?_⟩
        · show ((assignEach r X.env).length + 1) = _
          rw [b]; rfl
        · have e0 : assignEach (.Name x p :: r) X.env = (false, assign (.Name x p) X.env) :: assignEach r X.env := rfl
          rw [e0, List.findIdx?_cons, c]; rfl
theorem setAll_ok {loc : List Addr} {H : Hp} : ∀ {is : List Nat} {ws : List W} {vs : List V} {f f1 : Fr} {σ : L2.St} {Q : L2.St → Hp → Prop}, RelF X.K X.mg loc H f σ → RelWs X.K X.mg loc H ws vs → setAll f is ws = some f1 → (∀ σ1, RelF X.K X.mg loc H f1 σ1 → Q σ1 H) →
    vs.length = is.length ∧ gsNames is vs σ H Q
  | [], [], vs, f, f1, σ, Q, rf, r, e, hq => by
    rw [r.unnil]
    cases e
    exact ⟨rfl, rfl, hq σ rf⟩
  | i :: is, w :: ws, vs, f, f1, σ, Q, rf, r, e, hq => by
    obtain ⟨v, t, rfl, r1, r2⟩ := r.uncons
    have e : setAll (setS f i (some w)) is ws = some f1 := e
    obtain ⟨a, b⟩ := setAll_ok (rf.set r1 i) r2 e hq
    exact ⟨by simp [a], v, t, rfl, b⟩
  | [], _ :: _, _, _, _, _, _, _, _, e, _ => by cases e
  | _ :: _, [], _, _, _, _, _, _, _, e, _ => by cases e
theorem tg_ok {I : Inf} {own : List (Str × Nat)} {t : Tg} (hc : X.calm = true) (hN : X.N = I.N) (hnd : I.N.Nodup) (hs : X.env.scope = I.sc) (hf : X.fn = I.fn) (e : tgOf I tg = some (own, t)) : TgOk X tg t := by
  cases tg with
  | Name x p =>
    have e : (storeIx I x).map (fun i => ([(x, i)], Tg.one i)) = some (own, t) := e
    cases q : storeIx I x with
    | none => rw [q] at e; cases e
    | some i =>
      rw [q] at e
      cases e
      obtain ⟨f1, f2, f3⟩ := store_facts hN hs hf q
      refine ⟨gName i, pg_name (hN ▸ hnd) f1 f2 f3, fun loc H f f1 σ w v Q rf rw0 e hq => ?_⟩
      cases e
      rcases rw0 with r | ⟨z, _⟩
      · exact hq _ (rf.set r i)
      · cases z
  | Tuple es k p =>
    have e : (tgNames I es).map (fun l => (l, Tg.row (l.map (·.2)))) = some (own, t) := e
    cases q : tgNames I es with
    | none => rw [q] at e; cases e
    | some l =>
      rw [q] at e
      cases e
      obtain ⟨a, b, c⟩ := pgs_names hN hnd hs hf q
      refine ⟨gTup X.K (own.map (·.2)).length (gsNames (own.map (·.2))), pg_tup hc a b c, fun loc H f f1 σ w v Q rf rw0 e hq => ?_⟩
      have sq : ∃ ws a vs, w = .tup ws ∧ v = .ref a ∧ SqT X.K H a vs ∧ RelWs X.K X.mg loc H ws vs := by
        rcases rw0 with r | ⟨_, z⟩
        · cases w <;> first | cases e | skip
          obtain ⟨a, vs, rfl, t, q⟩ := un_tup r
          exact ⟨_, a, vs, rfl, rfl, t.sq, q⟩
        · exact z
      obtain ⟨ws, a', vs, rfl, rfl, s, r⟩ := sq
      have e : setAll f (own.map (·.2)) ws = some f1 := e
      obtain ⟨h1, h2⟩ := setAll_ok rf r e hq
      exact ⟨a', vs, rfl, s, h1, h2⟩
  | _ => cases e
end
end Rh
/-! Rh11: the evaluator is right: statements. -/
namespace Rh
open PySem PySem.Spec PyProof.Rows L2
def PostS (K : PySem.W.Frag) (mg : Str → Option Value) (loc : List Addr) (H : Hp) (r : RS) (D : Ends) (Wx : WX) : Prop := match r with
  | .nx f h => ∀ loc' H' σ', Ext K loc H loc' H' → Rel K mg loc' h H' → RelF K mg loc' H' f σ' → D.nx σ' H'
  | .bk f h => ∀ loc' H' σ', Ext K loc H loc' H' → Rel K mg loc' h H' → RelF K mg loc' H' f σ' → D.bk σ' H'
  | .ct f h => ∀ loc' H' σ', Ext K loc H loc' H' → Rel K mg loc' h H' → RelF K mg loc' H' f σ' → D.ct σ' H'
  | .rt w h => ∀ loc' H' v, Ext K loc H loc' H' → Rel K mg loc' h H' → RelW K mg loc' H' w v → D.rt v H'
  | .exc x f h => ∀ cls d loc' H' σ', Ext K loc H loc' H' → Rel K mg loc' h H' → RelX K mg loc' H' x cls d → RelF K mg loc' H' f σ' → Wx cls d σ' H'
  | .stuck => False
def LowS (X : Cx) (Wx : WX) (m : SM) : TS := fun D σ H => ∃ loc f h, Rel X.K X.mg loc h H ∧ RelF X.K X.mg loc H f σ ∧ PostS X.K X.mg loc H (m f h) D Wx
section
variable {K : PySem.W.Frag} {mg : Str → Option Value} {loc loc' : List Addr} {H H' : Hp} {h : HS} {D D' : Ends} {Wx : WX}
theorem posts_ext {r : RS} (p : PostS K mg loc H r D Wx) (e : Ext K loc H loc' H') : PostS K mg loc' H' r D Wx := by
  cases r with
  | nx f h => exact fun l H2 s e2 => p l H2 s (e.trans e2)
  | bk f h => exact fun l H2 s e2 => p l H2 s (e.trans e2)
  | ct f h => exact fun l H2 s e2 => p l H2 s (e.trans e2)
  | rt f h => exact fun l H2 s e2 => p l H2 s (e.trans e2)
  | exc x f h => exact fun c d l H2 s e2 => p c d l H2 s (e.trans e2)
  | stuck => exact p
theorem post_toS {α β : Type} {RW : List Addr → Hp → α → β → Prop} {r : R α} {f : Fr} {σ : L2.St} {k : α → HS → RS} (p : PostS K mg loc H (r.toS f k) D Wx) (rf : RelF K mg loc H f σ) :
    PostE K mg RW loc H r (fun x H1 => ∃ loc1 a h1, Ext K loc H loc1 H1 ∧ Rel K mg loc1 h1 H1 ∧ RW loc1 H1 a x ∧ PostS K mg loc1 H1 (k a h1) D Wx) (fun cls d H' => Wx cls d σ H') := by
  cases r with
  | ok a h => exact fun v l H1 e r q => ⟨l, a, h, e, r, q, posts_ext p e⟩
  | exc x h => exact fun cls d l H1 e r q => p cls d l H1 σ e r q (rf.ext e)
  | stuck => exact p
end
section
variable {X : Cx} {Wx : WX} {e a b c tg : Expr} {es : List Expr} {pos : Pos} {st : Stmt} {ss : List Stmt}
theorem PS.cons {t t' : TS} (p : PS X st t) (i : ∀ D σ H, t' D σ H → t D σ H) : PS X st t' := ⟨fun pins s σ H D I hh => p.run pins s σ H D I (i D σ H hh)⟩
theorem PSs.cons {t t' : TS} (p : PSs X ss t) (i : ∀ D σ H, t' D σ H → t D σ H) : PSs X ss t' := ⟨fun pins s σ H D I hh => p.run pins s σ H D I (i D σ H hh)⟩
theorem lows_stuck {D : Ends} {σ : L2.St} {H : Hp} (l : LowS X Wx stuckS D σ H) : False := by
  obtain ⟨_, _, _, _, _, p⟩ := l
  exact p
theorem ps_stuck : PS X st (LowS X Wx stuckS) := ⟨fun _ _ _ _ _ _ hh => (lows_stuck hh).elim⟩
theorem sw_skip (p : PS X st tNext) : PS X st (LowS X Wx skipS) := PS.cons p fun D σ H ⟨loc, f, h, rel, rf, p⟩ => p loc H σ Ext.refl rel rf
theorem sw_nil : PSs X [] (LowS X Wx skipS) := PSs.cons pss_nil fun D σ H ⟨loc, f, h, rel, rf, p⟩ => p loc H σ Ext.refl rel rf
theorem sw_break : PS X (.Break pos) (LowS X Wx fun σ h => .bk σ h) := PS.cons ps_break fun D σ H ⟨loc, f, h, rel, rf, p⟩ => p loc H σ Ext.refl rel rf
theorem sw_cont : PS X (.Continue pos) (LowS X Wx fun σ h => .ct σ h) := PS.cons ps_continue fun D σ H ⟨loc, f, h, rel, rf, p⟩ => p loc H σ Ext.refl rel rf
theorem sw_seq {ma mb : SM} (ha : PS X st (LowS X Wx ma)) (hb : PSs X ss (LowS X Wx mb)) : PSs X (st :: ss) (LowS X Wx (seqS ma mb)) :=
  PSs.cons (pss_cons ha hb) fun D σ H ⟨loc, f, h, rel, rf, p⟩ => ⟨loc, f, h, rel, rf, by
    unfold seqS at p
    cases q : ma f h with
    | nx f1 h1 => rw [q] at p; exact fun l H1 s e r x => ⟨l, f1, h1, r, x, posts_ext p e⟩
    | bk f1 h1 => rw [q] at p; exact p
    | ct f1 h1 => rw [q] at p; exact p
    | rt f1 h1 => rw [q] at p; exact p
    | exc x f1 h1 => rw [q] at p; exact p
    | stuck => rw [q] at p; exact p⟩
theorem sw_expr {m : EM} (he : PE X e (LowE X Wx m)) (hs : swapsWith e none pos.line X.env = pure false) : PS X (.Expr e pos) (LowS X Wx (exprS m)) :=
  PS.cons (ps_expr he hs) fun D σ H ⟨loc, f, h, rel, rf, p⟩ => ⟨loc, f, h, rel, rf, post_mono (post_toS p rf) fun x H1 ⟨loc1, w, h1, e1, rel1, ra, p1⟩ => p1 loc1 H1 σ Ext.refl rel1 (rf.ext e1)⟩
theorem sw_ret {m : EM} (he : PE X e (LowE X Wx m)) : PS X (.Return (some e) pos) (LowS X Wx (retS m)) :=
  PS.cons (ps_ret he) fun D σ H ⟨loc, f, h, rel, rf, p⟩ => ⟨loc, f, h, rel, rf, post_mono (post_toS p rf) fun x H1 ⟨loc1, w, h1, e1, rel1, ra, p1⟩ => p1 loc1 H1 x Ext.refl rel1 ra⟩
theorem sw_retN : PS X (.Return none pos) (LowS X Wx (retS (valE .non))) :=
  PS.cons ps_retN fun D σ H ⟨loc, f, h, rel, rf, p⟩ => p loc H .non Ext.refl rel relW_non
theorem sw_if {mc : BM} {ma mb : SM} {sa sb : List Stmt} (hc : PT X c (LowT X Wx mc)) (ha : PSs X sa (LowS X Wx ma)) (hb : PSs X sb (LowS X Wx mb)) : PS X (.If c sa sb pos) (LowS X Wx (ifS mc ma mb)) :=
  PS.cons (ps_if hc ha hb) fun D σ H ⟨loc, f, h, rel, rf, p⟩ => ⟨loc, f, h, rel, rf, post_mono (post_toS (RW := RB) p rf) fun x H1 ⟨loc1, w, h1, e1, rel1, ra, p1⟩ => by
    obtain rfl : w = x := ra
    cases w with
    | true => exact ⟨loc1, f, h1, rel1, rf.ext e1, p1⟩
    | false => exact ⟨loc1, f, h1, rel1, rf.ext e1, p1⟩⟩
theorem sw_for {it : IM} {t : Tg} {mb : SM} {body : List Stmt} (hp : PassesOwn (model X.prog X.w) X.A X.env X.xe) (hc : X.calm = true) (hi : PI X tg e (LowI X Wx tg it)) (ht : TgOk X tg t) (hb : PSs X body (LowS X Wx mb))
    (hs : ∀ x, foldedSetIterable e X.env x = pure x) : PS X (.For tg e body [] pos) (LowS X Wx (forS it t mb)) := by
  obtain ⟨g, pg, hg⟩ := ht
  refine PS.cons (ps_for hp hc hi pg hb hs) fun D σ H ⟨loc, f, h, rel, rf, p⟩ => ⟨loc, f, h, rel, rf, post_mono (post_toS (RW := fun loc H d J => JOk X tg J d loc H) p rf) fun J H1 ⟨loc1, d, h1, e1, rel1, jok, p1⟩ => ?_⟩
  refine ⟨fun i m σ' H' => ∃ loc' f' h', Ext X.K loc1 H1 loc' H' ∧ Rel X.K X.mg loc' h' H' ∧ RelF X.K X.mg loc' H' f' σ' ∧ PostS X.K X.mg loc' H' (forM d t mb m i f' h') D Wx, ⟨FUEL, loc1, f, h1, Ext.refl, rel1, rf.ext e1, p1⟩, ?_⟩
  rintro i m σ2 H2 ⟨loc2, f2, h2, e2, rel2, rf2, p2⟩
  cases m with
  | zero => exact (show False from p2).elim
  | succ m =>
    unfold forM at p2
    cases q : d.nth h2 i with
    | none => rw [q] at p2; exact (show False from p2).elim
    | some o =>
      rw [q] at p2
      cases o with
      | none => exact .inl ⟨(jok loc2 H2 h2 e2 rel2 i).1 q, p2 loc2 H2 σ2 Ext.refl rel2 rf2⟩
      | some w =>
        obtain ⟨go, yl⟩ := (jok loc2 H2 h2 e2 rel2 i).2 w q
        dsimp only at p2
        refine .inr ⟨go, fun σ' H' => ∃ loc' f' h', Ext X.K loc1 H1 loc' H' ∧ Rel X.K X.mg loc' h' H' ∧ RelF X.K X.mg loc' H' f' σ' ∧ PostS X.K X.mg loc' H' (forM d t mb m (i + 1) f' h') D Wx, fun σ' H' hh => ⟨m, Nat.lt_succ_self m, hh⟩, fun x H3 y => ?_⟩
        obtain ⟨loc3, e3, rel3, rx⟩ := yl x H3 y
        cases qp : t.put w f2 with
        | none => rw [qp] at p2; exact (show False from p2).elim
        | some f3 =>
          rw [qp] at p2
          dsimp only at p2
          refine hg loc3 H3 f2 f3 σ2 w x _ (rf2.ext e3) rx qp fun σ3 rf3 => ⟨loc3, f3, h2, rel3, rf3, ?_⟩
          cases qb : mb f3 h2 with
          | nx f4 h4 => rw [qb] at p2; exact fun l H4 s e4 r4 x4 => ⟨l, f4, h4, (e2.trans e3).trans e4, r4, x4, posts_ext p2 (e3.trans e4)⟩
          | ct f4 h4 => rw [qb] at p2; exact fun l H4 s e4 r4 x4 => ⟨l, f4, h4, (e2.trans e3).trans e4, r4, x4, posts_ext p2 (e3.trans e4)⟩
          | bk f4 h4 => rw [qb] at p2; exact fun l H4 s e4 r4 x4 => p2 l H4 s (e3.trans e4) r4 x4
          | rt f4 h4 => rw [qb] at p2; exact fun l H4 s e4 r4 x4 => p2 l H4 s (e3.trans e4) r4 x4
          | exc y f4 h4 => rw [qb] at p2; exact fun c d l H4 s e4 r4 x4 => p2 c d l H4 s (e3.trans e4) r4 x4
          | stuck => rw [qb] at p2; exact p2
theorem sw_while {mc : BM} {mb : SM} {body : List Stmt} (hp : PassesOwn (model X.prog X.w) X.A X.env X.xe) (hc : PT X c (LowT X Wx mc)) (hb : PSs X body (LowS X Wx mb)) : PS X (.While c body [] pos) (LowS X Wx (whileS mc mb)) := by
  refine PS.cons (ps_while hp hc hb) fun D σ H ⟨loc, f, h, rel, rf, p⟩ => ?_
  refine ⟨fun m σ' H' => ∃ loc' f' h', Rel X.K X.mg loc' h' H' ∧ RelF X.K X.mg loc' H' f' σ' ∧ PostS X.K X.mg loc' H' (whileM mc mb m f' h') D Wx, ⟨FUEL, loc, f, h, rel, rf, p⟩, ?_⟩
  rintro m σ2 H2 ⟨loc2, f2, h2, rel2, rf2, p2⟩
  cases m with
  | zero => exact (show False from p2).elim
  | succ m =>
    unfold whileM at p2
    refine ⟨loc2, f2, h2, rel2, rf2, post_mono (post_toS (RW := RB) p2 rf2) fun k H3 ⟨loc3, k', h3, e3, rel3, ek, p3⟩ => ?_⟩
    obtain rfl : k' = k := ek
    cases k' with
    | false => exact p3 loc3 H3 σ2 Ext.refl rel3 (rf2.ext e3)
    | true =>
      rw [if_pos rfl]
      dsimp only at p3
      refine ⟨fun σ' H' => ∃ loc' f' h', Rel X.K X.mg loc' h' H' ∧ RelF X.K X.mg loc' H' f' σ' ∧ PostS X.K X.mg loc' H' (whileM mc mb m f' h') D Wx, fun σ' H' hh => ⟨m, Nat.lt_succ_self m, hh⟩, loc3, f2, h3, rel3, rf2.ext e3, ?_⟩
      cases qb : mb f2 h3 with
      | nx f4 h4 => rw [qb] at p3; exact fun l H4 s e4 r4 x4 => ⟨l, f4, h4, r4, x4, posts_ext p3 e4⟩
      | ct f4 h4 => rw [qb] at p3; exact fun l H4 s e4 r4 x4 => ⟨l, f4, h4, r4, x4, posts_ext p3 e4⟩
      | bk f4 h4 => rw [qb] at p3; exact fun l H4 s e4 r4 x4 => p3 l H4 s e4 r4 x4
      | rt f4 h4 => rw [qb] at p3; exact fun l H4 s e4 r4 x4 => p3 l H4 s e4 r4 x4
      | exc y f4 h4 => rw [qb] at p3; exact fun c d l H4 s e4 r4 x4 => p3 c d l H4 s e4 r4 x4
      | stuck => rw [qb] at p3; exact p3
/-! ### stores -/
theorem asg_low {m : EM} {t : Tg} {g : TG} (hg : ∀ (loc : List Addr) (H : Hp) (f f1 : Fr) (σ : L2.St) (w : W) (v : V) (Q : L2.St → Hp → Prop), RelF X.K X.mg loc H f σ → RelI X.K X.mg tg loc H w v → t.put w f = some f1 → (∀ σ1, RelF X.K X.mg loc H f1 σ1 → Q σ1 H) → g v σ H Q)
    {D : Ends} {σ : L2.St} {H : Hp} (l : LowS X Wx (asgS t m) D σ H) : tAsg (LowE X Wx m) g D σ H := by
  obtain ⟨loc, f, h, rel, rf, p⟩ := l
  refine ⟨loc, f, h, rel, rf, post_mono (post_toS p rf) fun x H1 ⟨loc1, w, h1, e1, rel1, ra, p1⟩ => ?_⟩
  cases qp : t.put w f with
  | none => rw [qp] at p1; exact (show False from p1).elim
  | some f3 =>
    rw [qp] at p1
    exact hg loc1 H1 f f3 σ w x _ (rf.ext e1) (.inl ra) qp fun σ1 r1 => p1 loc1 H1 σ1 Ext.refl rel1 r1
theorem tg_name {x : Str} {p : Pos} {i : Nat} : ∀ (loc : List Addr) (H : Hp) (f f1 : Fr) (σ : L2.St) (w : W) (v : V) (Q : L2.St → Hp → Prop), RelF X.K X.mg loc H f σ → RelI X.K X.mg (.Name x p) loc H w v → (Tg.one i).put w f = some f1 → (∀ σ1, RelF X.K X.mg loc H f1 σ1 → Q σ1 H) → gName i v σ H Q := by
  intro loc H f f1 σ w v Q rf rw0 e hq
  cases e
  rcases rw0 with r | ⟨z, _⟩
  · exact hq _ (rf.set r i)
  · cases z
theorem sw_set {I : Inf} {x : Str} {i : Nat} {p : Pos} {m : EM} (hN : X.N = I.N) (hnd : I.N.Nodup) (hs : X.env.scope = I.sc) (hf : X.fn = I.fn) (hx : storeIx I x = some i) (he : PE X e (LowE X Wx m))
    (hw : swapsWith e (some (.Name x p)) pos.line X.env = pure false) : PS X (.Assign [.Name x p] e pos) (LowS X Wx (asgS (.one i) m)) := by
  obtain ⟨f1, f2, f3⟩ := store_facts hN hs hf hx
  exact PS.cons (ps_set (hN ▸ hnd) f1 f2 he hw f3) fun D σ H l => asg_low (tg := .Name x p) tg_name l
theorem sw_unpack {I : Inf} {t : Tg} {own : List (Str × Nat)} {k : Nat} {p : Pos} {m : EM} (hc : X.calm = true) (hN : X.N = I.N) (hnd : I.N.Nodup) (hs : X.env.scope = I.sc) (hf : X.fn = I.fn) (ht : tgOf I (.Tuple es k p) = some (own, t)) (he : PE X e (LowE X Wx m))
    (h1 : swapsWithSole [.Tuple es k p] e pos.line X.env = pure false) (h2 : swappedStores [.Tuple es k p] e X.env = pure none) (h3 : (assignEach [.Tuple es k p] X.env).map (·.2) = [assign (.Tuple es k p) X.env]) : PS X (.Assign [.Tuple es k p] e pos) (LowS X Wx (asgS t m)) := by
  obtain ⟨g, pg, hg⟩ := tg_ok hc hN hnd hs hf ht
  exact PS.cons (ps_asg he pg h1 h2 h3) fun D σ H l => asg_low hg l
theorem sw_asgIx {o i : Expr} {mo mi me : EM} {p : Pos} (ho : PE X o (LowE X Wx mo)) (hi : PE X i (LowE X Wx mi)) (he : PE X e (LowE X Wx me))
    (ha : ∀ v, assign (.Subscript o i p) X.env v = (do
      let ov ← holding [v] (eval o X.env)
      let iv ← holding [v, ov] (eval i X.env)
      standAt p
      holding [v, ov, iv] (setItem ov iv v)
      release [v, ov, iv] []))
    (h1 : swapsWithSole [.Subscript o i p] e pos.line X.env = pure false) (h2 : swappedStores [.Subscript o i p] e X.env = pure none) (h3 : (assignEach [.Subscript o i p] X.env).map (·.2) = [assign (.Subscript o i p) X.env]) :
    PS X (.Assign [.Subscript o i p] e pos) (LowS X Wx (asgIx mo mi me)) :=
  PS.cons (ps_asg he (pg_sub ho hi set_w ha) h1 h2 h3) fun D σ H ⟨loc, f, h, rel, rf, p⟩ => ⟨loc, f, h, rel, rf, post_mono (post_toS p rf) fun v H1 ⟨loc1, wv, h1, e1, rel1, rv, p1⟩ =>
    ⟨loc1, f, h1, rel1, rf.ext e1, post_mono (post_toS p1 (rf.ext e1)) fun ov H2 ⟨loc2, wo, h2, e2, rel2, ro, p2⟩ =>
    ⟨loc2, f, h2, rel2, (rf.ext e1).ext e2, post_mono (post_toS p2 ((rf.ext e1).ext e2)) fun iv H3 ⟨loc3, wi, h3, e3, rel3, ri, p3⟩ =>
    ⟨loc3, h3, wo, wi, wv, rel3, RelW.ext e3 _ _ ro, ri, RelW.ext (e2.trans e3) _ _ rv, _, post_mono (post_toS (RW := fun _ _ (_ : Unit) (_ : Unit) => True) p3 (((rf.ext e1).ext e2).ext e3)) fun _ H4 ⟨loc4, _, h4, e4, rel4, _, p4⟩ => p4 loc4 H4 σ Ext.refl rel4 ((((rf.ext e1).ext e2).ext e3).ext e4)⟩⟩⟩⟩
theorem ip_w (op : Operator) : PIp X op fun x y H Q => ∃ loc h wx wy, Rel X.K X.mg loc h H ∧ RelW X.K X.mg loc H wx x ∧ RelW X.K X.mg loc H wy y ∧ ∃ Z, PostW X.K X.mg loc H (augW op wx wy h) Q Z := by
  intro pins s σ H x y v u Q I rx ry hh
  obtain ⟨loc, h, wx, wy, rel, r1, r2, Z, p⟩ := hh
  cases op <;> cases wx <;> cases wy <;> first | exact (show False from p).elim | skip
  · rw [un_int r1] at rx
    rw [un_int r2] at ry
    exact ip_add pins s σ H _ _ v u Q I rx ry ⟨_, _, rfl, rfl, post_int p rel⟩
  · rw [un_int r1] at rx
    rw [un_int r2] at ry
    exact ip_sub pins s σ H _ _ v u Q I rx ry ⟨_, _, rfl, rfl, post_int p rel⟩
theorem sw_aug {I : Inf} {x : Str} {i : Nat} {p : Pos} {m : EM} {op : Operator} (hN : X.N = I.N) (hnd : I.N.Nodup) (hs : X.env.scope = I.sc) (hf : X.fn = I.fn) (hx : storeIx I x = some i) (he : PE X e (LowE X Wx m)) :
    PS X (.AugAssign (.Name x p) op e pos) (LowS X Wx (augS (augW op) i m)) := by
  obtain ⟨f1, f2, f3⟩ := store_facts hN hs hf hx
  refine PS.cons (ps_aug (hN ▸ hnd) f1 f2 he (ip_w op) f3) fun D σ H ⟨loc, f, h, rel, rf, p⟩ => ?_
  have p : PostS X.K X.mg loc H ((optR (getS f i) h).toS f fun x h => (m f h).toS f fun y h => (augW op x y h).toS f fun z h => .nx (setS f i (some z)) h) D Wx := p
  cases q : getS f i with
  | none => rw [q] at p; exact (show False from p).elim
  | some w =>
    rw [q] at p
    obtain ⟨v, e1, r⟩ := rf.get q
    have p : PostS X.K X.mg loc H ((m f h).toS f fun y h => (augW op w y h).toS f fun z h => .nx (setS f i (some z)) h) D Wx := p
    exact ⟨v, e1, loc, f, h, rel, rf, post_mono (post_toS p rf) fun y H1 ⟨loc1, wy, h1, e1, rel1, ry, p1⟩ => ⟨loc1, h1, w, wy, rel1, RelW.ext e1 _ _ r, ry, _, post_mono (post_toS p1 (rf.ext e1)) fun z H2 ⟨loc2, wz, h2, e2, rel2, rz, p2⟩ =>
      p2 loc2 H2 _ Ext.refl rel2 (((rf.ext e1).ext e2).set rz i)⟩⟩
theorem get_w : PGet X fun o i H Q => ∃ loc h wo wi, Rel X.K X.mg loc h H ∧ RelW X.K X.mg loc H wo o ∧ RelW X.K X.mg loc H wi i ∧ ∃ Z, PostW X.K X.mg loc H (ixL wo wi h) Q Z := by
  intro pins s σ H o i ov iv Q I ro ri hh
  obtain ⟨loc, h, wo, wi, rel, r1, r2, Z, p⟩ := hh
  cases wo <;> cases wi <;> first | exact (show False from p).elim | skip
  case ref.int n k =>
    obtain ⟨a, rfl, e1⟩ := un_ref r1
    rw [un_int r2] at ri
    have p : PostW X.K X.mg loc H (ixLO (h.get n) k h) Q Z := p
    generalize g : h.get n = o at p
    cases o <;> first | exact (show False from p).elim | skip
    rename_i ws
    obtain ⟨vs, s1, q1⟩ := obj_sql rel e1 (.inl g)
    obtain ⟨w, ew, p⟩ := post_opt (show PostW X.K X.mg loc H (optR (atI ws k) h) Q Z from p)
    obtain ⟨z, ez, rz⟩ := q1.atI ew
    have qz : Q z H := post_ok p rel rz
    cases ro
    obtain ⟨t, rfl⟩ := ri
    obtain ⟨its, r, pl, hz⟩ := I.list s1
    obtain ⟨j, h1, h2, h3, h4, h5⟩ := atI_get ez
    obtain ⟨u, eu, ru⟩ := r.get h2
    have hl := r.length
    have fin : EP X pins σ Q u s := ⟨z, H, I, ru, qz⟩
    by_cases h0 : 0 ≤ k
    · have hj : k.toNat = j := by
        rw [seqIndex_of h0 h5] at h1
        exact Option.some.inj h1
      have hn := line63
      exact wpAny_getItem_list pl.isList h0 (by omega) (by rw [hj]; simpa using eu) fin
    · have hj : (k + (its.toArray.size : Int)).toNat = j := by
        rw [seqIndex_neg (by omega) h4] at h1
        rw [List.size_toArray, ← hl]
        exact Option.some.inj h1
      have hn := line63
      exact wpAny_getItem_list_neg pl.isList (by omega) (by rw [List.size_toArray] <;> omega) (by omega) (by rw [hj]; simpa using eu) fin
theorem sw_augIx {o i : Expr} {mo mi me : EM} {p : Pos} {op : Operator} (ho : PE X o (LowE X Wx mo)) (hi : PE X i (LowE X Wx mi)) (he : PE X e (LowE X Wx me))
    (ha : ∀ ov iv new, augStore i ov iv new = (do holding [new, ov, iv] (setItem ov iv new); release [new, ov, iv] []; pure .next)) : PS X (.AugAssign (.Subscript o i p) op e pos) (LowS X Wx (augIx (augW op) mo mi me)) :=
  PS.cons (ps_augS ho hi get_w he (ip_w op) set_w ha) fun D σ H ⟨loc, f, h, rel, rf, p⟩ => ⟨loc, f, h, rel, rf, post_mono (post_toS p rf) fun v H1 ⟨loc1, wo, h1, e1, rel1, ro, p1⟩ =>
    ⟨loc1, f, h1, rel1, rf.ext e1, post_mono (post_toS p1 (rf.ext e1)) fun ov H2 ⟨loc2, wi, h2, e2, rel2, ri, p2⟩ =>
    ⟨loc2, h2, wo, wi, rel2, RelW.ext e2 _ _ ro, ri, _, post_mono (post_toS p2 ((rf.ext e1).ext e2)) fun iv H3 ⟨loc3, wz, h3, e3, rel3, rz, p3⟩ =>
    ⟨loc3, f, h3, rel3, ((rf.ext e1).ext e2).ext e3, post_mono (post_toS p3 (((rf.ext e1).ext e2).ext e3)) fun y H4 ⟨loc4, wy, h4, e4, rel4, ry, p4⟩ =>
    ⟨loc4, h4, wz, wy, rel4, RelW.ext e4 _ _ rz, ry, _, post_mono (post_toS p4 ((((rf.ext e1).ext e2).ext e3).ext e4)) fun z H5 ⟨loc5, wv, h5, e5, rel5, rv, p5⟩ =>
    ⟨loc5, h5, wo, wi, wv, rel5, RelW.ext ((e2.trans e3).trans (e4.trans e5)) _ _ ro, RelW.ext (e3.trans (e4.trans e5)) _ _ ri, rv, _, post_mono (post_toS (RW := fun _ _ (_ : Unit) (_ : Unit) => True) p5 (((((rf.ext e1).ext e2).ext e3).ext e4).ext e5)) fun _ H6 ⟨loc6, _, h6, e6, rel6, _, p6⟩ =>
      p6 loc6 H6 σ Ext.refl rel6 ((((((rf.ext e1).ext e2).ext e3).ext e4).ext e5).ext e6)⟩⟩⟩⟩⟩⟩
end
end Rh
/-! Rh12: the evaluator is right: comprehensions, raise, try, match. -/
namespace Rh
open PySem PySem.Spec PyProof.Rows L2
section
variable {K : PySem.W.Frag} {mg : Str → Option Value} {loc loc' : List Addr} {H H' : Hp} {h : HS}
mutual
theorem RelW.up (g : ∀ (n : Nat) (x : Addr), loc[n]? = some x → loc'[n]? = some x) (t : ∀ b vs, Tu K H b vs → Tu K H' b vs) : ∀ (w : W) (v : V), RelW K mg loc H w v → RelW K mg loc' H' w v
  | .non, _, r => by unfold RelW at r ⊢; exact r
  | .bl _, _, r => by unfold RelW at r ⊢; exact r
  | .int _, _, r => by unfold RelW at r ⊢; exact r
  | .str _, _, r => by unfold RelW at r ⊢; exact r
  | .ty _, _, r => by unfold RelW at r ⊢; exact r
  | .gl _, _, r => by unfold RelW at r ⊢; exact r
  | .ref n, _, r => by
    unfold RelW at r ⊢
    obtain ⟨x, e, q⟩ := r
    exact ⟨x, e, g _ _ q⟩
  | .tup xs, _, r => by
    unfold RelW at r ⊢
    obtain ⟨x, vs, e, q, r⟩ := r
    exact ⟨x, vs, e, t _ _ q, RelWs.up g t xs vs r⟩
theorem RelWs.up (g : ∀ (n : Nat) (x : Addr), loc[n]? = some x → loc'[n]? = some x) (t : ∀ b vs, Tu K H b vs → Tu K H' b vs) : ∀ (ws : List W) (vs : List V), RelWs K mg loc H ws vs → RelWs K mg loc' H' ws vs
  | [], _, r => by unfold RelWs at r ⊢; exact r
  | w :: ws, _, r => by
    unfold RelWs at r ⊢
    obtain ⟨v, s, e, r1, r2⟩ := r
    exact ⟨v, s, e, RelW.up g t w v r1, RelWs.up g t ws s r2⟩
end
theorem RelKv.up (g : ∀ (n : Nat) (x : Addr), loc[n]? = some x → loc'[n]? = some x) (t : ∀ b vs, Tu K H b vs → Tu K H' b vs) : ∀ (ws : List (Key × W)) (vs : List (Key × V)), RelKv K mg loc H ws vs → RelKv K mg loc' H' ws vs
  | [], _, r => r
  | (k, w) :: ws, _, r => by
    obtain ⟨v, s, e, r1, r2⟩ := r
    exact ⟨v, s, e, RelW.up g t w v r1, RelKv.up g t ws s r2⟩
theorem RelFs.up (g : ∀ (n : Nat) (x : Addr), loc[n]? = some x → loc'[n]? = some x) (t : ∀ b vs, Tu K H b vs → Tu K H' b vs) : ∀ (ws : List (Str × W)) (vs : List (Str × V)), RelFs K mg loc H ws vs → RelFs K mg loc' H' ws vs
  | [], _, r => r
  | (k, w) :: ws, _, r => by
    obtain ⟨v, s, e, r1, r2⟩ := r
    exact ⟨v, s, e, RelW.up g t w v r1, RelFs.up g t ws s r2⟩
theorem ObjW.up (g : ∀ (n : Nat) (x : Addr), loc[n]? = some x → loc'[n]? = some x) (t : ∀ b vs, Tu K H b vs → Tu K H' b vs) {o : O} {x : Addr} (r : ObjW K mg loc H o x) (e : H' x = H x) : ObjW K mg loc' H' o x := by
  cases o with
  | bad => obtain ⟨u, q⟩ := r; exact ⟨u, e.trans q⟩
  | lst ws => obtain ⟨vs, q, r⟩ := r; exact ⟨vs, e.trans q, RelWs.up g t _ _ r⟩
  | frz ws => obtain ⟨o, vs, q, r⟩ := r; exact ⟨o, vs, e.trans q, RelWs.up g t _ _ r⟩
  | dic kvs => obtain ⟨vs, q, r⟩ := r; exact ⟨vs, e.trans q, RelKv.up g t _ _ r⟩
  | ins c fs => obtain ⟨C, dx, vs, m, q, r⟩ := r; exact ⟨C, dx, vs, m, e.trans q, RelFs.up g t _ _ r⟩
/-- a write to what has no number -/
theorem Rel.aside (r : Rel K mg loc h H) {D : Addr} {o : HO} (n : D ∉ loc) (mu : Mut (H D)) : Rel K mg loc h (upd H D o) :=
  ⟨r.len, r.nd, fun k b e => (r.obj k b e).up (fun _ _ x => x) (fun _ _ q => SqT_mut mu q) (upd_ne fun z => n (z ▸ List.mem_of_getElem? e))⟩
theorem get_app {D : Addr} : ∀ (n : Nat) (x : Addr), loc[n]? = some x → (loc ++ [D])[n]? = some x := fun n x e => by
  rw [List.getElem?_append_left (List.getElem?_eq_some_iff.mp e).1]; exact e
/-- a list gets a number -/
theorem Rel.adopt (r : Rel K mg loc h H) {D : Addr} {ws : List W} {vs : List V} (n : D ∉ loc) (hv : H D = some (.lst vs)) (ra : RelWs K mg loc H ws vs) : Rel K mg (loc ++ [D]) (h.push (.lst ws)) H := by
  refine ⟨by simp [HS.push, r.len], ?_, fun k b e => ?_⟩
  · rw [List.nodup_append]
    exact ⟨r.nd, by simp, fun a ha b hb => by
      have e : b = D := by simpa using hb
      subst e
      intro z; subst z
      exact n ha⟩
  · by_cases hn : k < loc.length
    · rw [List.getElem?_append_left hn] at e
      have en : (h.push (.lst ws)).get k = h.get k := by
        unfold HS.push
        show (if k = h.sz then _ else h.get k) = _
        rw [if_neg (by rw [← r.len]; omega)]
      rw [en]
      exact (r.obj k b e).up get_app (fun _ _ x => x) rfl
    · rw [List.getElem?_append_right (by omega)] at e
      have e0 : k - loc.length = 0 := by
        cases q : k - loc.length with
        | zero => rfl
        | succ m => rw [q] at e; simp at e
      rw [e0] at e
      have ea : D = b := by simpa using e
      subst ea
      have en : (h.push (.lst ws)).get k = .lst ws := by
        unfold HS.push
        show (if k = h.sz then _ else h.get k) = _
        rw [if_pos (by rw [← r.len]; omega)]
      rw [en]
      exact ⟨vs, hv, RelWs.up get_app (fun _ _ x => x) _ _ ra⟩
end
abbrev noW : WX := fun _ _ _ _ => False
section
variable {X : Cx} {Wx : WX} {e a b c : Expr} {es : List Expr} {pos : Pos} {st : Stmt} {ss : List Stmt}
/-! ### comprehensions -/
theorem lc_low {x : Str} {p : Pos} {i : Nat} {it : IM} {mc : BM} {me : EM} {σ : L2.St} {H : Hp} {Q : VK} (l : LowE X Wx (fun σ h => (it σ h).bind fun d h => lcM d (.one i) [i] mc me σ FUEL 0 [] h) σ H Q) :
    tLc (LowI X Wx (.Name x p) it) (gName i) (LowT X noW mc) (LowE X noW me) [i] σ H Q := by
  obtain ⟨loc, f, h, rel, rf, p⟩ := l
  refine ⟨loc, f, h, rel, rf, post_mono (post_bind p) fun J H1 ⟨loc1, d, h1, e1, rel1, jok, p1⟩ D hD => ?_⟩
  have rf1 := rf.ext e1
  refine ⟨fun i' m H' => ∃ loc' h' acc vs, Ext X.K loc1 H1 loc' H' ∧ Rel X.K X.mg loc' h' H' ∧ D ∉ loc' ∧ H' D = some (.lst vs) ∧ RelWs X.K X.mg loc' H' acc vs ∧ PostW X.K X.mg loc1 H1 (lcM d (.one i) [i] mc me f m i' acc h') Q (fun cls d H' => Wx cls d σ H'),
    ⟨FUEL, loc1, h1, [], [], Ext.newT hD, rel1.newT hD, rel1.fresh hD, upd_same, .nil, p1⟩, ?_⟩
  rintro i' m H2 ⟨loc2, h2, acc, vs, e2, rel2, nD, hv, ra, p2⟩
  cases m with
  | zero => exact (show False from p2).elim
  | succ m =>
    unfold lcM at p2
    cases q : d.nth h2 i' with
    | none => rw [q] at p2; exact (show False from p2).elim
    | some o =>
      rw [q] at p2
      cases o with
      | none =>
        refine .inl ⟨(jok loc2 H2 h2 e2 rel2 i').1 q, ?_⟩
        have p2 : PostW X.K X.mg loc1 H1 (.ok (.ref h2.sz) (h2.push (.lst acc))) Q (fun cls d H' => Wx cls d σ H') := p2
        obtain ⟨more, e0⟩ := e2.pre
        refine p2 (.ref D) (loc2 ++ [D]) H2 ⟨⟨more ++ [D], by rw [e0, List.append_assoc]⟩, e2.tup, e2.fr, fun b m => ?_⟩ (rel2.adopt nD hv ra) ?_
        · rcases List.mem_append.mp m with z | z
          · exact e2.new b z
          · have e : b = D := by simpa using z
            exact .inr (e ▸ hD)
        · unfold RelW
          exact ⟨D, rfl, by rw [← rel2.len, List.getElem?_append_right (Nat.le_refl _)]; simp⟩
      | some w =>
        obtain ⟨go, yl⟩ := (jok loc2 H2 h2 e2 rel2 i').2 w q
        refine .inr ⟨go, fun H' => ∃ loc' h' acc vs, Ext X.K loc1 H1 loc' H' ∧ Rel X.K X.mg loc' h' H' ∧ D ∉ loc' ∧ H' D = some (.lst vs) ∧ RelWs X.K X.mg loc' H' acc vs ∧ PostW X.K X.mg loc1 H1 (lcM d (.one i) [i] mc me f m (i' + 1) acc h') Q (fun cls d H' => Wx cls d σ H'),
          fun H' hh => ⟨m, Nat.lt_succ_self m, hh⟩, fun x H3 y => ?_⟩
        obtain ⟨loc3, e3, rel3, rx⟩ := yl x H3 y
        rcases rx with rx | ⟨z, _⟩
        case inr => cases z
        have p2 : PostW X.K X.mg loc1 H1 (match mc (setS (wipeW f [i]) i (some w)) h2 with
          | .ok true h1 => (match me (setS (wipeW f [i]) i (some w)) h1 with
            | .ok y h2 => if acc.length < LIM then lcM d (.one i) [i] mc me f m (i' + 1) (acc ++ [y]) h2 else .stuck
            | _ => .stuck)
          | .ok false h1 => lcM d (.one i) [i] mc me f m (i' + 1) acc h1
          | _ => .stuck) Q (fun cls d H' => Wx cls d σ H') := p2
        have rf3 : RelF X.K X.mg loc3 H3 (setS (wipeW f [i]) i (some w)) ((wipe σ [i]).set i (some x)) := ((((rf1.ext e2).ext e3).wipe [i]).set rx i)
        generalize setS (wipeW f [i]) i (some w) = f1 at p2 rf3
        refine ⟨by simp [wipe], loc3, f1, h2, rel3, rf3, ?_⟩
        cases qc : mc f1 h2 with
        | stuck => rw [qc] at p2; exact p2
        | exc y h4 => rw [qc] at p2; exact (show False from p2).elim
        | ok k h4 =>
          rw [qc] at p2
          intro k' loc4 H4 e4 rel4 ek
          obtain rfl : k = k' := ek
          have e34 := e3.trans e4
          cases k with
          | false =>
            dsimp only at p2
            rw [if_neg Bool.false_ne_true]
            exact ⟨loc4, h4, acc, vs, e2.trans e34, rel4, e34.out nD hv, e34.fr D _ nD hv, RelWs.ext e34 _ _ ra, p2⟩
          | true =>
            dsimp only at p2
            rw [if_pos rfl]
            refine ⟨loc4, f1, h4, rel4, rf3.ext e4, ?_⟩
            cases qe : me f1 h4 with
            | stuck => rw [qe] at p2; exact p2
            | exc y h5 => rw [qe] at p2; exact (show False from p2).elim
            | ok y h5 =>
              rw [qe] at p2
              dsimp only at p2
              intro v loc5 H5 e5 rel5 ry
              have e35 := e34.trans e5
              have hv5 := e35.fr D _ nD hv
              have n5 := e35.out nD hv
              have mu : Mut (H5 D) := by rw [hv5]; trivial
              by_cases hl : acc.length < LIM
              · rw [if_pos hl] at p2
                refine ⟨vs, hv5, by rw [ra.length, sizeLine_eq]; exact hl, loc5, h5, acc ++ [y], vs ++ [v], ?_, rel5.aside n5 mu, n5, upd_same, ?_, p2⟩
                · have e25 := e2.trans e35
                  exact ⟨e25.pre, fun b us t => SqT_mut mu (e25.tup b us t), fun b o n z => by
                    rw [upd_ne (ne_of_none z hD)]
                    exact e25.fr b o n z, e25.new⟩
                · exact RelWs.up (fun _ _ x => x) (fun _ _ t => SqT_mut mu t) _ _ ((RelWs.ext e35 _ _ ra).append (.cons ry .nil))
              · rw [if_neg hl] at p2
                exact (show False from p2).elim
theorem PTs.low_nil : PTs X [] (LowT X noW yesT) := ⟨fun pins s σ H Q I ⟨loc, f, h, rel, rf, p⟩ => pts_nil.run pins s σ H Q I (p true loc H Ext.refl rel rfl)⟩
section
variable {elt iter : Expr} {ifs : List Expr} {scope : Scope} {x : Str} {p spos py : Pos} {i : Nat} {it : IM} {mc : BM} {me : EM}
theorem pw_comp (hc : X.calm = true) (hN : X.N.Nodup) (hi : PI X (.Name x p) iter (LowI X Wx (.Name x p) it)) (ok : BlkOk X.N X.env.scope scope [(x, i)])
    (hg : ∀ (s : Shared) (H : Hp) (C : Addr) (cl : List (Str × Addr)) (fp : List Addr), PG (X.blk s H scope (compEnvC scope cl C X.env) fp) (.Name x p) (gName i))
    (ht : ∀ (s : Shared) (H : Hp) (C : Addr) (cl : List (Str × Addr)) (fp : List Addr), PTs (X.blk s H scope (compEnvC scope cl C X.env) fp) ifs (LowT X noW mc))
    (he : ∀ (s : Shared) (H : Hp) (C : Addr) (cl : List (Str × Addr)) (fp : List Addr), PE (X.blk s H scope (compEnvC scope cl C X.env) fp) elt (LowE X noW me)) (hs : ∀ x, foldedSetIterable iter X.env x = pure x) :
    PE X (.ListComp elt [⟨.Name x p, iter, ifs, 0⟩] scope pos) (LowE X Wx fun σ h => (it σ h).bind fun d h => lcM d (.one i) [i] mc me σ FUEL 0 [] h) :=
  PE.cons (pe_lc hc hN hi ok hg ht he hs) fun σ H Q l => lc_low l
theorem sw_setLc {j : Nat} {y : Str} (hc : X.calm = true) (hN : X.N.Nodup) (hy : X.N[j]? = some y) (hyl : X.env.scope.names.lookup y = some .local)
    (hsw : swapsWith (.ListComp elt [⟨.Name x p, iter, ifs, 0⟩] scope pos) (some (.Name y py)) spos.line X.env = pure true) (hi : PI X (.Name x p) iter (LowI X Wx (.Name x p) it)) (ok : BlkOk X.N X.env.scope scope [(x, i)])
    (hg : ∀ (s : Shared) (H : Hp) (C : Addr) (cl : List (Str × Addr)) (fp : List Addr), PG (X.blk s H scope (compEnvC scope cl C X.env) fp) (.Name x p) (gName i))
    (ht : ∀ (s : Shared) (H : Hp) (C : Addr) (cl : List (Str × Addr)) (fp : List Addr), PTs (X.blk s H scope (compEnvC scope cl C X.env) fp) ifs (LowT X noW mc))
    (he : ∀ (s : Shared) (H : Hp) (C : Addr) (cl : List (Str × Addr)) (fp : List Addr), PE (X.blk s H scope (compEnvC scope cl C X.env) fp) elt (LowE X noW me)) (hs : ∀ x, foldedSetIterable iter X.env x = pure x) :
    PS X (.Assign [.Name y py] (.ListComp elt [⟨.Name x p, iter, ifs, 0⟩] scope pos) spos) (LowS X Wx (asgS (.one j) fun σ h => (it σ h).bind fun d h => lcM d (.one i) [i] mc me σ FUEL 0 [] h)) :=
  PS.cons (ps_setLc hc hN hy hyl hsw hi ok hg ht he hs) fun D σ H l => lc_low (asg_low (tg := .Name y py) (g := gName j) tg_name l)
end
/-! ### raise, try -/
structure ExFact (K : PySem.W.Frag) (mg : Str → Option Value) (x : Str) (C : Addr) : Prop where
  gl : mg x = some (.ref C)
  kp : PySem.W.keepIn K (.ref C) = true
  how : ∃ (B newId initId : String) (bmB : List Value), ExcBaseFacts B newId initId bmB ∧ PySem.W.excIn K C bmB newId = true
  sub : PySem.W.subIn K (.ref C) (.type "BaseException") = some true
  ty : PySem.W.typeIn K (.ref C) = some (.type "type")
  ec : ExcC K C
def ExcsOk (K : PySem.W.Frag) (mg : Str → Option Value) (E : List (Str × List Str)) : Prop :=
  ∀ x anc, E.lookup x = some anc → ∃ C, ExFact K mg x C ∧ ∀ c, (E.lookup c).isSome = true → ∃ Cc, mg c = some (.ref Cc) ∧ PySem.W.exmOne K (.ref C) (.ref Cc) = some (anc.contains c)
theorem sw_raise {I : Inf} {x : Str} {C : Addr} {p cp : Pos} {m : EM} (hc : X.calm = true) (tk : Takes X Wx) (hs : X.env.scope = I.sc) (g : isGlob I x = true) (F : ExFact X.K X.mg x C) (hst : isStar a = false) (ha : PE X a (LowE X Wx m)) :
    PS X (.Raise (some (.Call (.Name x p) [a] [] cp)) none pos) (LowS X Wx (raiseS x m)) := by
  obtain ⟨hg, hd⟩ := isGlob_gl hs g
  obtain ⟨B, newId, initId, bmB, FB, q⟩ := F.how
  exact PS.cons (L2.ps_raise hc tk (SkE.pmk_own1 FB q F.gl F.kp (raises_own F.sub F.ty) hg ha (starEach_ns hst) hd)) fun D σ H ⟨loc, f, h, rel, rf, p⟩ => ⟨loc, f, h, rel, rf, post_mono (post_toS p rf) fun v H1 ⟨loc1, w, h1, e1, rel1, _, p1⟩ =>
    p1 (.ref C) none loc1 H1 σ Ext.refl rel1 ⟨C, F.gl, rfl, .inl ⟨rfl, rfl⟩⟩ (rf.ext e1)⟩
def Quiet (s : SM) : Prop := ∀ f h, (∃ f' h', s f h = .nx f' h') ∨ (∃ w h', s f h = .rt w h') ∨ s f h = .stuck
theorem quiet_low {s : SM} (q : Quiet s) {D : Ends} {Wx' : WX} {loc : List Addr} {H : Hp} {f : Fr} {h : HS} (p : PostS X.K X.mg loc H (s f h) D Wx) : PostS X.K X.mg loc H (s f h) D Wx' := by
  rcases q f h with ⟨f', h', e⟩ | ⟨w, h', e⟩ | e <;> rw [e] at p ⊢ <;> exact p
inductive HsRel (X : Cx) (E : List (Str × List Str)) : List (Str × SM) → List (Value × (Addr → Value → Option Addr → TS)) → Prop
  | nil : HsRel X E [] []
  | cons {x : Str} {C : Value} {s : SM} {l : List (Str × SM)} {l2 : List (Value × (Addr → Value → Option Addr → TS))} (hm : X.mg x = some C) (he : (E.lookup x).isSome = true) (q : Quiet s) (r : HsRel X E l l2) :
      HsRel X E ((x, s) :: l) ((C, fun _ _ _ => LowS X noW s) :: l2)
theorem catch_low {G : Glob} (hE : ExcsOk X.K X.mg G.excs) {D : Ends} {x : Exn} {cls : Value} {d : Option Addr} {loc : List Addr} {H : Hp} {f : Fr} {h : HS} {σ : L2.St} (rel : Rel X.K X.mg loc h H) (rx : RelX X.K X.mg loc H x cls d) (rf : RelF X.K X.mg loc H f σ) :
    ∀ {l : List (Str × SM)} {l2 : List (Value × (Addr → Value → Option Addr → TS))}, HsRel X G.excs l l2 → PostS X.K X.mg loc H (catchS G x l f h) D Wx → wMany X.K Wx D l2 cls d σ H := by
  intro l l2 hr
  induction hr with
  | nil => exact fun p => p cls d loc H σ Ext.refl rel rx rf
  | @cons c C s l l2 hm he q r ih =>
    intro p
    unfold catchS at p
    obtain ⟨Cx, m1, e1, _⟩ := rx
    cases q0 : G.excs.lookup x.cls with
    | none => rw [q0] at p; exact (show False from p).elim
    | some anc =>
      rw [q0] at p
      have p : PostS X.K X.mg loc H ((if anc.contains c = true then s else catchS G x l) f h) D Wx := p
      obtain ⟨Ca, F, hc⟩ := hE _ _ q0
      obtain ⟨Cc, m2, e2⟩ := hc c he
      have e3 : Cx = Ca := by have := F.gl; rw [m1] at this; exact Value.ref.inj (Option.some.inj this)
      subst e3
      rw [hm] at m2
      have e4 : C = .ref Cc := Option.some.inj m2
      subst e4
      refine ⟨anc.contains c, by rw [e1]; exact e2, fun hb a ha => ?_, fun hb => ih ?_⟩
      · rw [if_pos hb] at p
        exact ⟨loc, f, h, rel, rf, quiet_low q p⟩
      · rw [if_neg (by rw [hb]; exact Bool.false_ne_true)] at p
        exact p
theorem sw_try {G : Glob} {mb : SM} {body : List Stmt} {h₀ : ExceptHandler} {hds : List ExceptHandler} {l : List (Str × SM)} {l2 : List (Value × (Addr → Value → Option Addr → TS))} (hE : ExcsOk X.K X.mg G.excs) (hs : X.stack = X.env :: X.outer) (hf : X.env.frame = some X.env.locals) (tk : Takes X Wx)
    (hb : ∀ (W : WX) (pn : List (Addr × Obj)) (xe : Value → Shared → Prop), Takes (X.tr pn xe) W → PassesOwn (model X.prog X.w) X.A X.env xe → PSs (X.tr pn xe) body (LowS X W mb))
    (hh : HdsOk X (h₀ :: hds) l2) (hr : HsRel X G.excs l l2) : PS X (.Try body (h₀ :: hds) [] [] pos) (LowS X Wx (tryS G mb l)) := by
  refine PS.cons (ps_try_many (tb := fun W => LowS X W mb) hs hf tk hb hh) fun D σ H ⟨loc, f, h, rel, rf, p⟩ => ⟨loc, f, h, rel, rf, ?_⟩
  unfold tryS at p
  cases q : mb f h with
  | nx f1 h1 => rw [q] at p; exact p
  | bk f1 h1 => rw [q] at p; exact p
  | ct f1 h1 => rw [q] at p; exact p
  | rt f1 h1 => rw [q] at p; exact p
  | stuck => rw [q] at p; exact p
  | exc x f1 h1 =>
    rw [q] at p
    exact fun cls d loc1 H1 σ1 e1 rel1 rx rf1 => catch_low hE rel1 rx rf1 hr (posts_ext p e1)
/-! ### except as -/
theorem RelF.len {K : PySem.W.Frag} {mg : Str → Option Value} {loc : List Addr} {H : Hp} : ∀ {f : Fr} {σ : L2.St}, RelF K mg loc H f σ → f.length = σ.length
  | [], _, r => by have r : _ = _ := r; subst r; rfl
  | none :: f, _, r => by
    obtain ⟨o, t, rfl, r⟩ := r
    simp [r.len]
  | some y :: f, _, r => by
    obtain ⟨o, t, rfl, _, r⟩ := r
    simp [r.len]
inductive IsiL (G : Glob) (I : Inf) (n : Str) : List Expr → List Str → Prop
  | nil : IsiL G I n [] []
  | cons {c : Str} {p1 p2 p3 p4 : Pos} {es : List Expr} {cs : List Str} (hb : G.blt.contains ("isinstance" : Str) = true) (gf : isGlob I ("isinstance" : Str) = true) (gc : isGlob I c = true) (hx : (G.excs.lookup c).isSome = true) (r : IsiL G I n es cs) :
      IsiL G I n (.Call (.Name ("isinstance" : Str) p1) [.Name n p2, .Name c p3] [] p4 :: es) (c :: cs)
theorem isiC_ok {G : Glob} {I : Inf} {n : Str} : ∀ (es : List Expr) (cs : List Str), isiC G I n es = some cs → IsiL G I n es cs := by
  intro es
  induction es with
  | nil => intro cs e; cases e; exact .nil
  | cons a t ih =>
    intro cs e
    unfold isiC at e
    split at e
    · rename_i h; cases h
    · rename_i f p1 m p2 c p3 p4 es' heq
      cases heq
      split at e
      · rename_i hc
        obtain ⟨rfl, rfl, h3, h4, h5, h6⟩ := hc
        obtain ⟨l, q, rfl⟩ := Option.map_eq_some_iff.mp e
        exact .cons h3 h4 h5 h6 (ih l q)
      · cases e
    · cases e
def clsV (mg : Str → Option Value) (c : Str) : V := match mg c with
  | some (.ref C) => .ref C
  | _ => .non
def isiT (K : PySem.W.Frag) (mg : Str → Option Value) (i : Nat) (D a : Addr) : List Str → TA
  | [] => tNil
  | c :: r => tCons (tCB (rIsE K D a) (tCons (tVar i) (tCons (tC (clsV mg c)) tNil))) (isiT K mg i D a r)
theorem isi_pa {G : Glob} {I : Inf} {n : Str} {i : Nat} (hE : ExcsOk X.K X.mg G.excs) (hB : ∀ x, G.blt.contains x = true → X.mg x = none) (hs : X.env.scope = I.sc) {a D : Addr} {oe : Obj} {pn : List (Addr × Obj)} (C : ExcC X.K D) (hz : Zc (.ref D) none oe) (hf : ∃ vs, oe.data = .fields vs)
    (hi : X.N[i]? = some n) (hv : Vis X.env.scope n) (hd : isDbg n = false) {cs : List Str} (r : IsiL G I n es cs) : PA (X.suite a ((a, oe) :: pn)) es (isiT X.K X.mg i D a cs) := by
  induction r with
  | nil => exact pa_nil
  | @cons c p1 p2 p3 p4 es cs hb gf gc hx r ih =>
    obtain ⟨hg, hdb⟩ := isGlob_gl hs gf
    obtain ⟨hg2, hdb2⟩ := isGlob_gl hs gc
    obtain ⟨anc, ea⟩ := Option.isSome_iff_exists.mp hx
    obtain ⟨Cc, F, _⟩ := hE c anc ea
    have ec : clsV X.mg c = .ref Cc := by unfold clsV; rw [F.gl]
    unfold isDbg at hd
    rw [Bool.or_eq_false_iff] at hd
    have hbt : bootBuiltins ("isinstance" : Str) = some (.builtin "isinstance") := by decide +kernel
    unfold isiT
    rw [ec]
    exact pa_cons (pe_callB (X := X.suite a ((a, oe) :: pn)) (call_isE C hz hf) hg (hB _ hb) hbt (pa_cons (pe_var (X := X.suite a ((a, oe) :: pn)) hi hv hd.1 hd.2) (pa_cons (pe_glob (X := X.suite a ((a, oe) :: pn)) (v := .ref Cc) (u := .ref Cc) hg2 F.gl rfl hdb2) pa_nil)) (by decide) hdb) ih
theorem isi_run {K : PySem.W.Frag} {mg : Str → Option Value} {i : Nat} {D a : Addr} {anc : List Str} {σ : L2.St} {H : Hp} (hi : σ[i]? = some (some (.ref a))) : ∀ (cs : List Str) (Q : List V → Hp → Prop), (∀ c, c ∈ cs → ∃ Cc, mg c = some (.ref Cc) ∧ PySem.W.kitOne K (.ref D) (.ref Cc) = some (anc.contains c)) →
    Q (cs.map fun c => .bl (anc.contains c)) H → isiT K mg i D a cs σ H Q
  | [], _, _, q => q
  | c :: cs, Q, hk, q => by
    obtain ⟨Cc, m, k⟩ := hk c List.mem_cons_self
    have ec : clsV mg c = .ref Cc := by unfold clsV; rw [m]
    unfold isiT
    rw [ec]
    exact ⟨.ref a, hi, .ref Cc, .ref Cc, anc.contains c, rfl, fun u r => r, k, isi_run hi cs _ (fun c' h' => hk c' (List.mem_cons_of_mem _ h')) q⟩
theorem kit_of_exm {K : PySem.W.Frag} {C Cc : Addr} {b : Bool} (h : PySem.W.exmOne K (.ref C) (.ref Cc) = some b) (hr : PySem.W.exmOne K (.ref C) (.ref C) = some true) : PySem.W.kitOne K (.ref C) (.ref Cc) = some b := by
  unfold PySem.W.kitOne
  by_cases e : ((Value.ref C) == .ref Cc) = true
  · have z : C = Cc := Value.ref.inj (beq_iff_eq.mp e)
    subst z
    rw [if_pos e, ← hr]
    exact h
  · rw [if_neg e]
    unfold PySem.W.exmOne at h
    split at h
    · exact h
    · cases h
theorem relWs_bls {loc : List Addr} {H : Hp} {K : PySem.W.Frag} {mg : Str → Option Value} (g : Str → Bool) : ∀ cs : List Str, RelWs K mg loc H (cs.map fun c => .bl (g c)) (cs.map fun c => .bl (g c))
  | [] => .nil
  | _ :: cs => .cons relW_bl (relWs_bls g cs)
def asT (K : PySem.W.Frag) (mg : Str → Option Value) (i j : Nat) (cs : List Str) (a : Addr) (cls : Value) (d : Option Addr) : TS := fun D σ H => ∃ C, cls = .ref C ∧ d = none ∧ ExcC K C ∧ tAsg (tLst (isiT K mg i C a cs)) (gName j) D σ H
theorem catch_as {G : Glob} (hE : ExcsOk X.K X.mg G.excs) {D : Ends} {x : Exn} {cls : Value} {d : Option Addr} {loc : List Addr} {H : Hp} {f : Fr} {h : HS} {σ : L2.St} (rel : Rel X.K X.mg loc h H) (rx : RelX X.K X.mg loc H x cls d) (rf : RelF X.K X.mg loc H f σ)
    {c : Str} {C : Addr} {i j : Nat} {cs : List Str} (hm : X.mg c = some (.ref C)) (hc : (G.excs.lookup c).isSome = true) (hcs : ∀ c, c ∈ cs → (G.excs.lookup c).isSome = true) (hl : cs.length < LIM) (hij : i ≠ j) (p : PostS X.K X.mg loc H (catchAs G x c i j cs f h) D Wx) :
    wAs X.K (.ref C) i (asT X.K X.mg i j cs) Wx D cls d σ H := by
  unfold catchAs at p
  have rx0 := rx
  obtain ⟨Cx, m1, e1, hd⟩ := rx
  cases q0 : G.excs.lookup x.cls with
  | none => rw [q0] at p; exact (show False from p).elim
  | some anc =>
    rw [q0] at p
    obtain ⟨Ca, F, hk⟩ := hE _ _ q0
    have e3 : Cx = Ca := by have := F.gl; rw [m1] at this; exact Value.ref.inj (Option.some.inj this)
    subst e3
    obtain ⟨Cc, m2, e2⟩ := hk c hc
    rw [hm] at m2
    have e4 : C = Cc := Value.ref.inj (Option.some.inj m2)
    subst e4
    refine ⟨anc.contains c, by rw [e1]; exact e2, fun hb a ha => ?_, fun hb => ?_⟩
    · have p : PostS X.K X.mg loc H (if anc.contains c = true then (if (x.fs.isEmpty && (anc.contains x.cls && decide (i < f.length))) = true then .nx (setS (setS f j (some (.ref h.sz))) i none) (h.push (.lst (cs.map fun c => .bl (anc.contains c)))) else .stuck) else .exc x f h) D Wx := p
      rw [if_pos hb] at p
      by_cases g : (x.fs.isEmpty && (anc.contains x.cls && decide (i < f.length))) = true
      · rw [if_pos g] at p
        simp only [Bool.and_eq_true, decide_eq_true_eq] at g
        have hi : i < σ.length := rf.len ▸ g.2.2
        have dn : d = none := by
          rcases hd with ⟨_, z⟩ | ⟨z, _⟩
          · exact z
          · exact absurd (List.isEmpty_iff.mp g.1) z
        obtain ⟨Cs, m3, e5⟩ := hk x.cls (by rw [q0]; rfl)
        rw [m1] at m3
        have e6 : Cx = Cs := Value.ref.inj (Option.some.inj m3)
        subst e6
        rw [g.2.1] at e5
        refine ⟨Cx, e1, dn, F.ec, isi_run (anc := anc) ?_ cs _ (fun c' h' => ?_) ⟨?_, fun q hq => ?_⟩⟩
        · rw [List.getElem?_set_self hi]
        · obtain ⟨Cd, m4, e7⟩ := hk c' (hcs c' h')
          exact ⟨Cd, m4, kit_of_exm e7 e5⟩
        · rw [List.length_map, ← lim_eq]; exact Nat.le_of_lt hl
        · have pw : PostW X.K X.mg loc H (newL (cs.map fun c => .bl (anc.contains c)) h) (fun v H' => D.nx ((((σ.set i (some (.ref a))).set j (some v))).set i none) H') (fun _ _ _ => True) := fun v loc1 H1 e1 rel1 rw1 => by
            have rf1 := ((rf.ext e1).set rw1 j).setN i
            refine p loc1 H1 _ e1 rel1 ?_
            rw [List.set_comm _ _ hij, List.set_set]
            exact rf1
          exact post_newL pw rel (relWs_bls _ cs) hq
      · rw [if_neg g] at p
        exact (show False from p).elim
    · have p : PostS X.K X.mg loc H (if anc.contains c = true then (if (x.fs.isEmpty && (anc.contains x.cls && decide (i < f.length))) = true then .nx (setS (setS f j (some (.ref h.sz))) i none) (h.push (.lst (cs.map fun c => .bl (anc.contains c)))) else .stuck) else .exc x f h) D Wx := p
      rw [if_neg (by rw [hb]; exact Bool.false_ne_true)] at p
      exact p cls d loc H σ Ext.refl rel rx0 rf
theorem isi_mem {G : Glob} {I : Inf} {n : Str} {es : List Expr} {cs : List Str} (r : IsiL G I n es cs) : ∀ c, c ∈ cs → (G.excs.lookup c).isSome = true := by
  induction r with
  | nil => exact fun c h => by cases h
  | cons hb gf gc hx r ih => exact fun c h => (List.mem_cons.mp h).elim (fun e => e ▸ hx) (ih c)
theorem sw_tryAs {G : Glob} {I : Inf} {mb : SM} {body : List Stmt} {x n y : Str} {np yp lp sp hp : Pos} {es : List Expr} {cs : List Str} {i j : Nat} (hE : ExcsOk X.K X.mg G.excs) (hB : ∀ x, G.blt.contains x = true → X.mg x = none) (hsc : X.env.scope = I.sc) (hs : X.stack = X.env :: X.outer) (hf : X.env.frame = some X.env.locals) (tk : Takes X Wx)
    (hN : X.N.Nodup) (hi : X.N[i]? = some n) (hln : X.env.scope.names.lookup n = some .local) (hd : isDbg n = false) (hj : X.N[j]? = some y) (hyL : Loc X.env.scope y) (hyf : X.fn y = true ∨ X.env.scope.names.lookup y = some .local) (gx : isGlob I x = true) (hx : (G.excs.lookup x).isSome = true) (hl : cs.length < LIM) (hij : i ≠ j) (r : IsiL G I n es cs)
    (hb : ∀ (W : WX) (pn : List (Addr × Obj)) (xe : Value → Shared → Prop), Takes (X.tr pn xe) W → PassesOwn (model X.prog X.w) X.A X.env xe → PSs (X.tr pn xe) body (LowS X W mb)) :
    PS X (.Try body [.ExceptHandler (some (.Name x np)) (some n) [.Assign [.Name y yp] (.List es lp) sp] hp] [] [] pos) (LowS X Wx (tryAs G mb x i j cs)) := by
  obtain ⟨anc, ea⟩ := Option.isSome_iff_exists.mp hx
  obtain ⟨C, F, _⟩ := hE x anc ea
  obtain ⟨hg, hdb⟩ := isGlob_gl hsc gx
  refine PS.cons (ps_try_as (tb := fun W => LowS X W mb) (ts := asT X.K X.mg i j cs) (c := .ref C) hs hf hN hi hln ⟨hg, hdb, .inl F.gl⟩ tk hb ?_) fun D σ H ⟨loc, f, h, rel, rf, p⟩ => ⟨loc, f, h, rel, rf, ?_⟩
  · intro a oe cls d pn hz hfd
    refine pss_one ⟨fun pins s σ H D I ⟨C, e1, e2, ec, q⟩ => ?_⟩
    subst e1 e2
    exact (ps_set (X := X.suite a ((a, oe) :: pn)) hN hj hyL (pe_lst (isi_pa hE hB hsc ec hz hfd hi (.inl hln) hd r)) rfl hyf).run pins s σ H D I q
  · unfold tryAs at p
    cases q : mb f h with
    | nx f1 h1 => rw [q] at p; exact p
    | bk f1 h1 => rw [q] at p; exact p
    | ct f1 h1 => rw [q] at p; exact p
    | rt f1 h1 => rw [q] at p; exact p
    | stuck => rw [q] at p; exact p
    | exc x1 f1 h1 =>
      rw [q] at p
      exact fun cls d loc1 H1 σ1 e1 rel1 rx rf1 => catch_as hE rel1 rx rf1 F.gl hx (isi_mem r) hl hij (posts_ext p e1)
/-! ### match -/
inductive CsOk (X : Cx) (Wx : WX) : List MatchCase → List (Pt × SM) → Prop
  | nil : CsOk X Wx [] []
  | any {p : Pos} {body : List Stmt} {s : SM} {cs : List MatchCase} {l : List (Pt × SM)} (hb : PSs X body (LowS X Wx s)) (r : CsOk X Wx cs l) : CsOk X Wx (⟨.MatchAs none none p, none, body⟩ :: cs) ((.any, s) :: l)
  | val {c : Const} {k : Nat} {p q : Pos} {w : W} {v : V} {body : List Stmt} {s : SM} {cs : List MatchCase} {l : List (Pt × SM)} (hv : PE X (.Constant c k q) (tC v)) (hw : ∀ loc H, RelW X.K X.mg loc H w v) (hb : PSs X body (LowS X Wx s)) (r : CsOk X Wx cs l) :
      CsOk X Wx (⟨.MatchValue (.Constant c k q) p, none, body⟩ :: cs) ((.val w, s) :: l)
theorem match_low (hq : CmpOk X [] .Eq) {cs : List MatchCase} {l : List (Pt × SM)} (hr : CsOk X Wx cs l) : ∀ {first : Bool} {pins : List (Addr × Obj)} {s : Shared} {σ : L2.St} {H : Hp} {v : V} {u : Value} {w : W} {loc : List Addr} {f : Fr} {h : HS} {D : Ends}, Inv X pins σ H s → RelV v u → Rel X.K X.mg loc h H →
    RelF X.K X.mg loc H f σ → RelW X.K X.mg loc H w v → PostS X.K X.mg loc H (matchL w l f h) D Wx → wpAny (model X.prog X.w) X.A (matchCases cs X.env u first) (SP X pins D) X.xe s := by
  induction hr with
  | nil => intro first pins s σ H v u w loc f h D I rv rel rf rw0 p; exact wpAny_matchCases_nil ⟨σ, H, I, p loc H σ Ext.refl rel rf⟩
  | any hb r ih =>
    intro first pins s σ H v u w loc f h D I rv rel rf rw0 p
    exact wpAny_matchCases_cons (wpAny_matchPattern_Capture (wpAny_assignInOrder_none (hb.run pins s σ H D I ⟨loc, f, h, rel, rf, p⟩)))
  | @val c k p0 q w' v' body sm cs l hv hw hb r ih =>
    intro first pins s σ H v u w loc f h D I rv rel rf rw0 p
    have p : PostS X.K X.mg loc H (match eqW w w' h with
      | some true => sm f h
      | some false => matchL w l f h
      | none => .stuck) D Wx := p
    cases e : eqW w w' h with
    | none => rw [e] at p; exact (show False from p).elim
    | some b =>
      rw [e] at p
      refine wpAny_matchCases_cons (wpAny_matchPattern_Value (thn (hv.run pins s σ H (fun y H' => y = v' ∧ H' = H) I ⟨rfl, rfl⟩) fun x s1 ⟨y, H1, I1, r1, e1, e2⟩ => ?_))
      obtain rfl := e1
      obtain rfl := e2.symm
      refine thn (hq pins s1 σ H v y u x (fun z H' => z = .bl b ∧ H' = H) I1 rv r1 ⟨loc, h, w, w', b, rel, rw0, hw loc H, e, rfl, rfl⟩) fun z s2 ⟨z', H2, I2, r2, e1, e2⟩ => ?_
      obtain rfl := e1
      obtain rfl := e2.symm
      cases r2
      refine wpAny_truthy_bool ?_
      cases b with
      | true => exact wpAny_assignInOrder_none (hb.run pins s2 σ H D I2 ⟨loc, f, h, rel, rf, p⟩)
      | false => exact ih I2 rv rel rf rw0 p
theorem sw_match {m : EM} {cs : List MatchCase} {l : List (Pt × SM)} (hq : CmpOk X [] .Eq) (he : PE X e (LowE X Wx m)) (hr : CsOk X Wx cs l) : PS X (.Match e cs pos) (LowS X Wx (matchS m l)) := by
  refine ⟨fun pins s σ H D I ⟨loc, f, h, rel, rf, p⟩ => wpAny_Match (thn (he.run pins s σ H _ I ⟨loc, f, h, rel, rf, post_toS p rf⟩) fun u s1 ⟨v, H1, I1, rv, loc1, w, h1, e1, rel1, rw0, p1⟩ => ?_)⟩
  exact match_low hq hr I1 rv rel1 (rf.ext e1) rw0 p1
end
end Rh
/-! Rh13: the evaluator is right. -/
namespace Rh
open PySem PySem.Spec PyProof.Rows L2
structure GOk (P : Program) (w : World) (K : PySem.W.Frag) (mg : Str → Option Value) (base : Heap) (kk : Nat) (G : Glob) (cf : Str → List W → HS → R W) : Prop where
  cons : ∀ x c, G.cons.lookup x = some c → ∃ v u, mg x = some u ∧ RelV v u ∧ ∀ loc H, RelW K mg loc H c v
  dcts : DctsOk K w mg G.dcts
  blt : ∀ x, G.blt.contains x = true → mg x = none
  fns : ∀ x fi, G.fns.lookup x = some fi → ∃ f fd, FnFact P w K mg base kk cf x fi f fd
  excs : ExcsOk K mg G.excs
structure XOk (G : Glob) (kk : Nat) (cf : Str → List W → HS → R W) (I : Inf) (X : Cx) (Wx : WX) : Prop where
  g : GOk X.prog X.w X.K X.mg X.base kk G cf
  calm : X.calm = true
  hN : X.N = I.N
  nd : I.N.Nodup
  sc : X.env.scope = I.sc
  fn : X.fn = I.fn
  room : Room kk X.A
  tk : Takes X Wx
structure YOk (X : Cx) : Prop where
  stk : X.stack = X.env :: X.outer
  frm : X.env.frame = some X.env.locals
  pass : PassesOwn (model X.prog X.w) X.A X.env X.xe
structure Sound (G : Glob) (kk : Nat) (cf : Str → List W → HS → R W) (r : Ev) : Prop where
  E : ∀ {I : Inf} {X : Cx} {Wx : WX} (e : Expr), XOk G kk cf I X Wx → PE X e (LowE X Wx (r.E I e))
  T : ∀ {I : Inf} {X : Cx} {Wx : WX} (e : Expr), XOk G kk cf I X Wx → PT X e (LowT X Wx (r.T I e))
  A : ∀ {I : Inf} {X : Cx} {Wx : WX} (es : List Expr), XOk G kk cf I X Wx → PA X es (LowA X Wx (r.As I es))
  S : ∀ {I : Inf} {X : Cx} {Wx : WX} (s : Stmt), XOk G kk cf I X Wx → YOk X → PS X s (LowS X Wx (r.S I s))
  B : ∀ {I : Inf} {X : Cx} {Wx : WX} (ss : List Stmt), XOk G kk cf I X Wx → YOk X → PSs X ss (LowS X Wx (r.B I ss))
  la : ∀ (I : Inf) (es : List Expr) (f : Fr) (h : HS) (ws : List W) (h' : HS), es.any isStar = false → r.As I es f h = .ok ws h' → ws.length = es.length
  l0 : ∀ (I : Inf) (f : Fr) (h : HS), r.As I [] f h = .ok [] h ∨ r.As I [] f h = .stuck
section
variable {G : Glob} {kk : Nat} {cf : Str → List W → HS → R W} {r : Ev} {I : Inf} {X : Cx} {Wx : WX}
theorem sound_stuck : Sound G kk cf stuckV :=
  ⟨fun _ _ => pe_stuck, fun _ _ => pt_stuck, fun _ _ => ⟨fun _ _ _ _ _ _ _ hh => (low_stuck hh).elim⟩, fun _ _ _ => ps_stuck, fun _ _ _ => ⟨fun _ _ _ _ _ _ hh => (lows_stuck hh).elim⟩,
    fun _ _ _ _ _ _ _ e => (by cases e), fun _ _ _ => .inr rfl⟩
theorem XOk.glob (ok : XOk G kk cf I X Wx) {x : Str} (g : isGlob I x = true) : Gl X x ∧ (x == ("__debug__" : Str)) = false := isGlob_gl ok.sc g
theorem XOk.hr (ok : XOk G kk cf I X Wx) : ∃ k, Room k X.A := ⟨kk, ok.room⟩
theorem bty_boot {x : Str} {n : String} (e : btyOf x = some n) : bootBuiltins x = some (.type n) ∧ x ≠ "__name__" := by
  unfold btyOf at e
  repeat' split at e
  all_goals first
    | (rename_i h; cases e; subst h; exact ⟨by decide +kernel, by decide +kernel⟩)
    | cases e
theorem pw_globE (ok : XOk G kk cf I X Wx) {x : Str} {pos : Pos} (g : isGlob I x = true) : PE X (.Name x pos) (LowE X Wx (globE G x)) := by
  obtain ⟨hg, hd⟩ := ok.glob g
  unfold globE
  cases q : G.cons.lookup x with
  | some c =>
    obtain ⟨v, u, hm, rv, hw⟩ := ok.g.cons x c q
    exact pw_val hw (pe_glob hg hm rv hd)
  | none =>
    dsimp only
    split
    · rename_i hs
      obtain ⟨kvs, e⟩ := Option.isSome_iff_exists.mp hs
      obtain ⟨d, es, n, hm, _⟩ := ok.g.dcts x kvs e
      exact pw_val (v := .ref d) (fun loc H => by unfold RelW; exact ⟨d, rfl, hm⟩) (pe_glob hg hm rfl hd)
    · split
      · rename_i hb
        cases q2 : btyOf x with
        | none => exact pe_stuck
        | some n =>
          obtain ⟨b1, b2⟩ := bty_boot q2
          exact pw_val (v := .ty n) (fun loc H => by unfold RelW; rfl) (pe_bltn hg (ok.g.blt x hb) b1 rfl b2 hd)
      · exact pe_stuck
theorem pw_name (ok : XOk G kk cf I X Wx) {x : Str} {pos : Pos} : PE X (.Name x pos) (LowE X Wx (nameE G I x)) := by
  unfold nameE
  split
  · exact pe_stuck
  · rename_i hd
    have hd : isDbg x = false := by simpa using hd
    have slot : ∀ {i : Nat}, ixOf x I.N = some i → Vis X.env.scope x → PE X (.Name x pos) (LowE X Wx (slotE i)) := fun e v => pw_slot (by rw [ok.hN]; exact ixOf_get e) v hd
    cases q : I.sc.names.lookup x with
    | none => exact pe_stuck
    | some k =>
      cases k with
      | «local» => dsimp only; split; exact slot ‹_› (.inl (by rw [ok.sc]; exact q)); exact pe_stuck
      | cell => dsimp only; split; exact slot ‹_› (.inr (.inl (by rw [ok.sc]; exact q))); exact pe_stuck
      | free => dsimp only; split; exact slot ‹_› (.inr (.inr (by rw [ok.sc]; exact q))); exact pe_stuck
      | globalImplicit => exact pw_globE ok (by unfold isGlob; rw [hd, q]; rfl)
      | _ => exact pe_stuck
theorem kw_low (hr : Sound G kk cf r) (ok : XOk G kk cf I X Wx) : ∀ kws : List Keyword, PK X kws (LowA X Wx (kwA r I kws))
  | [] => pw_kwNil
  | k :: ks => pw_kwCons (hr.E _ ok) (kw_low hr ok ks)
theorem bind_ok {α β : Type} {m : R α} {f : α → HS → R β} {b : β} {h' : HS} (e : m.bind f = .ok b h') : ∃ a h, m = .ok a h ∧ f a h = .ok b h' := by
  cases m with
  | ok a h => exact ⟨a, h, rfl, e⟩
  | exc x h => cases e
  | stuck => cases e
theorem kw_len : ∀ (kws : List Keyword) (f : Fr) (h : HS) (ws : List W) (h' : HS), kwA r I kws f h = .ok ws h' → ws.length = kws.length
  | [], f, h, ws, h', e => by cases e; rfl
  | k :: ks, f, h, ws, h', e => by
    have e : ((r.E I k.value f h).bind fun x h => (kwA r I ks f h).bind fun xs h => .ok (x :: xs) h) = .ok ws h' := e
    obtain ⟨a, h1, _, e⟩ := bind_ok e
    obtain ⟨b, h2, q, e⟩ := bind_ok e
    cases e
    rw [List.length_cons, kw_len ks _ _ _ _ q, List.length_cons]
theorem pw_callName (hr : Sound G kk cf r) (ok : XOk G kk cf I X Wx) {x : Str} {args : List Expr} {kws : List Keyword} {p pos : Pos} : PE X (.Call (.Name x p) args kws pos) (LowE X Wx (callName G cf r I x args kws)) := by
  unfold callName
  split
  · exact pe_stuck
  · rename_i hc
    simp only [Bool.or_eq_true, Bool.not_eq_true', not_or, Bool.not_eq_false, Bool.not_eq_true] at hc
    obtain ⟨g, hst⟩ := hc
    cases q : G.fns.lookup x with
    | some fi =>
      dsimp only
      cases q1 : kwNames kws with
      | none => exact pe_stuck
      | some ks =>
        dsimp only
        cases q2 : shapeOf fi args.length ks with
        | none => exact pe_stuck
        | some src =>
          obtain ⟨f, fd, F⟩ := ok.g.fns x fi q
          exact pw_call ok.sc g F ok.room ok.tk hst q1 q2 (hr.A _ ok) (kw_low hr ok kws) (fun f h ws h' e => hr.la I args f h ws h' hst e) (fun f h ws h' e => kw_len kws f h ws h' e) (fun e f h => by subst e; exact hr.l0 I f h)
    | none =>
      dsimp only
      split
      · rename_i hb
        simp only [Bool.and_eq_true, Bool.not_eq_true'] at hb
        obtain ⟨⟨b1, b2⟩, b3⟩ := hb
        cases q1 : biOf x with
        | none => exact pe_stuck
        | some n =>
          cases kws with
          | cons _ _ => cases b2
          | nil =>
            cases args with
            | nil => cases b3
            | cons a es => exact pw_bi ok.calm ok.sc g (ok.g.blt x b1) q1 hst (hr.A _ ok)
      · exact pe_stuck
theorem po_part (hr : Sound G kk cf r) (ok : XOk G kk cf I X Wx) : ∀ o : Option Expr, PO X o (LowP X Wx (partE r I o))
  | none => pw_noP
  | some e => pw_someP (hr.E e ok)
theorem fmts_low (hr : Sound G kk cf r) (ok : XOk G kk cf I X Wx) : ∀ (vs : List Expr) (ms : List EM), fmtsE r I vs = some ms → Parts X Wx vs ms := by
  intro vs
  induction vs with
  | nil => intro ms e; cases e; exact .nil
  | cons v t ih =>
    intro ms e
    unfold fmtsE at e
    split at e
    · rename_i heq; cases heq
    · rename_i heq
      cases heq
      cases q : fmtsE r I t with
      | none => rw [q] at e; cases e
      | some l => rw [q] at e; cases e; exact .cons (pw_const (.str _)) (ih l q)
    · rename_i heq
      cases heq
      cases q : fmtsE r I t with
      | none => rw [q] at e; cases e
      | some l => rw [q] at e; cases e; exact .cons (pw_fmt (hr.E _ ok)) (ih l q)
    · cases e
theorem it_any (hr : Sound G kk cf r) (ok : XOk G kk cf I X Wx) (tg e : Expr) : PI X tg e (LowI X Wx tg (anyI (r.E I e))) := pw_any (hr.E e ok)
theorem it_low (hr : Sound G kk cf r) (ok : XOk G kk cf I X Wx) (tg e : Expr) : PI X tg e (LowI X Wx tg (itE G r I tg e)) := by
  unfold itE
  split
  · rename_i x p a pos
    split
    · rename_i hx
      subst hx
      split
      · rename_i hc
        simp only [Bool.and_eq_true, Bool.not_eq_true'] at hc
        exact pw_range1 ok.sc hc.1.1 (ok.g.blt _ hc.1.2) hc.2 (hr.A _ ok)
      · exact pi_stuck
    · split
      · rename_i hx
        subst hx
        split
        · rename_i hc
          simp only [Bool.and_eq_true, Bool.not_eq_true'] at hc
          obtain ⟨⟨⟨h0, h1⟩, h2⟩, h3⟩ := hc
          cases tg <;> first | cases h0 | skip
          exact pw_enum ok.sc h1 (ok.g.blt _ h2) h3 (hr.A _ ok)
        · exact pi_stuck
      · exact it_any hr ok tg _
  · rename_i x p a b pos
    split
    · rename_i hx
      subst hx
      split
      · rename_i hc
        simp only [Bool.and_eq_true, Bool.not_eq_true'] at hc
        exact pw_range2 ok.sc hc.1.1.1 (ok.g.blt _ hc.1.1.2) hc.1.2 hc.2 (hr.A _ ok)
      · exact pi_stuck
    · exact it_any hr ok tg _
  · rename_i x p a b c pos
    split
    · rename_i hx
      subst hx
      split
      · rename_i hc
        simp only [Bool.and_eq_true, Bool.not_eq_true'] at hc
        exact pw_range3 ok.sc hc.1.1.1.1 (ok.g.blt _ hc.1.1.1.2) hc.1.1.2 hc.1.2 hc.2 (hr.A _ ok)
      · exact pi_stuck
    · exact it_any hr ok tg _
  · exact it_any hr ok tg _
theorem XOk.blk (ok : XOk G kk cf I X Wx) (scope : Scope) (s : Shared) (H : Hp) (C : Addr) (cl : List (Str × Addr)) (fp : List Addr) :
    XOk G kk cf ⟨I.N, relS scope I.sc, fun x => scope.names.lookup x == some .cell⟩ (X.blk s H scope (compEnvC scope cl C X.env) fp) noW :=
  ⟨ok.g, ok.calm, ok.hN, ok.nd, by show relS scope X.env.scope = _; rw [ok.sc], rfl, ok.room, takes_none5⟩
/-- what a comprehension is -/
theorem comp_parts (hr : Sound G kk cf r) (ok : XOk G kk cf I X Wx) (elt : Expr) (gs : List Comprehension) (scope : Scope) :
    compE G r I elt gs scope = stuckE ∨ ∃ (x : Str) (p : Pos) (iter : Expr) (ifs : List Expr) (i : Nat) (it : IM) (mc : BM) (me : EM), gs = [⟨.Name x p, iter, ifs, 0⟩] ∧ compE G r I elt gs scope = (fun σ h => (it σ h).bind fun d h => lcM d (.one i) [i] mc me σ FUEL 0 [] h) ∧
      PI X (.Name x p) iter (LowI X Wx (.Name x p) it) ∧ BlkOk X.N X.env.scope scope [(x, i)] ∧
      (∀ (s : Shared) (H : Hp) (C : Addr) (cl : List (Str × Addr)) (fp : List Addr), PG (X.blk s H scope (compEnvC scope cl C X.env) fp) (.Name x p) (gName i)) ∧
      (∀ (s : Shared) (H : Hp) (C : Addr) (cl : List (Str × Addr)) (fp : List Addr), PTs (X.blk s H scope (compEnvC scope cl C X.env) fp) ifs (LowT X noW mc)) ∧
      (∀ (s : Shared) (H : Hp) (C : Addr) (cl : List (Str × Addr)) (fp : List Addr), PE (X.blk s H scope (compEnvC scope cl C X.env) fp) elt (LowE X noW me)) ∧ (∀ x, foldedSetIterable iter X.env x = pure x) := by
  unfold compE
  split
  · rename_i tg iter ifs
    dsimp only
    cases q : tgOf ⟨I.N, relS scope I.sc, fun x => scope.names.lookup x == some .cell⟩ tg with
    | none => exact .inl rfl
    | some ot =>
      obtain ⟨own, t⟩ := ot
      dsimp only
      split
      · rename_i hc
        simp only [Bool.and_eq_true, Bool.not_eq_true'] at hc
        obtain ⟨⟨hb, ht⟩, hset⟩ := hc
        have hfs : ∀ x, foldedSetIterable iter X.env x = pure x := fun x => by cases iter <;> first | rfl | cases hset
        cases tg with
        | Name x p =>
          have q : (storeIx ⟨I.N, relS scope I.sc, fun x => scope.names.lookup x == some .cell⟩ x).map (fun i => ([(x, i)], Tg.one i)) = some (own, t) := q
          cases q1 : storeIx ⟨I.N, relS scope I.sc, fun x => scope.names.lookup x == some .cell⟩ x with
          | none => rw [q1] at q; cases q
          | some i =>
            rw [q1] at q
            cases q
            have hg : ∀ (s : Shared) (H : Hp) (C : Addr) (cl : List (Str × Addr)) (fp : List Addr), PG (X.blk s H scope (compEnvC scope cl C X.env) fp) (.Name x p) (gName i) := fun s H C cl fp => by
              have ob := ok.blk scope s H C cl fp
              obtain ⟨f1, f2, f3⟩ := store_facts ob.hN ob.sc ob.fn q1
              exact pg_name (ob.hN ▸ ob.nd) f1 f2 f3
            have hblk : BlkOk X.N X.env.scope scope [(x, i)] := by rw [ok.hN, ok.sc]; exact blkOk_by hb
            have he : ∀ (s : Shared) (H : Hp) (C : Addr) (cl : List (Str × Addr)) (fp : List Addr), PE (X.blk s H scope (compEnvC scope cl C X.env) fp) elt (LowE X noW (r.E ⟨I.N, relS scope I.sc, fun x => scope.names.lookup x == some .cell⟩ elt)) := fun s H C cl fp => hr.E elt (ok.blk scope s H C cl fp)
            split
            · exact .inr ⟨x, p, iter, [], i, _, _, _, rfl, rfl, it_low hr ok _ _, hblk, hg, fun _ _ _ _ _ => PTs.low_nil, he, hfs⟩
            · exact .inr ⟨x, p, iter, [_], i, _, _, _, rfl, rfl, it_low hr ok _ _, hblk, hg, fun s H C cl fp => pts_one (hr.T _ (ok.blk scope s H C cl fp)), he, hfs⟩
            · exact .inl rfl
        | Tuple es k p =>
          have q : (tgNames ⟨I.N, relS scope I.sc, fun x => scope.names.lookup x == some .cell⟩ es).map (fun l => (l, Tg.row (l.map (·.2)))) = some (own, t) := q
          cases q1 : tgNames ⟨I.N, relS scope I.sc, fun x => scope.names.lookup x == some .cell⟩ es with
          | none => rw [q1] at q; cases q
          | some l => rw [q1] at q; cases q; cases ht
        | _ => cases q
      · exact .inl rfl
  · exact .inl rfl
theorem pw_compE (hr : Sound G kk cf r) (ok : XOk G kk cf I X Wx) {elt : Expr} {gs : List Comprehension} {scope : Scope} {pos : Pos} : PE X (.ListComp elt gs scope pos) (LowE X Wx (compE G r I elt gs scope)) := by
  rcases comp_parts hr ok elt gs scope with e | ⟨x, p, iter, ifs, i, it, mc, me, rfl, e, hi, hb, hg, ht, he, hs⟩
  · rw [e]; exact pe_stuck
  · rw [e]; exact pw_comp ok.calm (ok.hN ▸ ok.nd) hi hb hg ht he hs
theorem no_slice {b : Expr} (h : ∀ l u s p, b = .Slice l u s p → False) : isSlice b = false := by
  cases b <;> first | rfl | exact (h _ _ _ _ rfl).elim
theorem step_E (hr : Sound G kk cf r) {I : Inf} {X : Cx} {Wx : WX} (e : Expr) (ok : XOk G kk cf I X Wx) : PE X e (LowE X Wx (stepE G cf r I e)) := by
  unfold stepE
  split
  · exact pw_const _
  · exact pw_name ok
  · exact pe_one (hr.E _ ok)
  · exact pw_and (hr.E _ ok) (hr.E _ ok)
  · exact pw_or (hr.E _ ok) (hr.E _ ok)
  · exact pw_bin (hr.E _ ok) (hr.E _ ok)
  · exact pw_not (hr.E _ ok)
  · exact pw_neg (hr.E _ ok)
  · exact pw_if (hr.T _ ok) (hr.E _ ok) (hr.E _ ok)
  · split
    · exact pe_stuck
    · exact pw_cmp ok.hr ok.g.dcts (Bool.eq_false_iff.mpr ‹_›) (hr.E _ ok) (hr.E _ ok)
  · split
    · exact pe_stuck
    · exact pw_chain ok.hr ok.g.dcts (Bool.eq_false_iff.mpr ‹_›) (hr.E _ ok) (hr.E _ ok) (hr.E _ ok)
  · exact pw_slice (hr.E _ ok) (po_part hr ok _) (po_part hr ok _)
  · split
    · exact pe_stuck
    · exact pw_ix ok.g.dcts (no_slice ‹_›) (hr.E _ ok) (hr.E _ ok)
  · exact pw_tup (hr.A _ ok)
  · exact pw_lst (hr.A _ ok)
  · exact pw_dic
  · exact pw_compE hr ok
  · split
    · rename_i hz
      subst hz
      exact PE.cons (pe_joined1 (pw_fmtB (hr.E _ ok))) fun _ _ _ h => h
    · exact pe_stuck
  · split
    · exact pw_join (fmts_low hr ok _ _ ‹_›)
    · exact pe_stuck
  · exact pw_callName hr ok
  · split
    · split
      · exact pe_stuck
      · rename_i hm hc
        simp only [Bool.or_eq_true, not_or, Bool.not_eq_true, Bool.not_eq_eq_eq_not, Bool.not_true, decide_eq_false_iff_not, Bool.not_false] at hc
        exact pw_meth rfl hm hc.1.1 (Bool.not_eq_false _ ▸ hc.1.2) (by omega) (hr.E _ ok) (hr.A _ ok) (fun e f h => by subst e; exact hr.l0 I f h)
    · split
      · exact pe_stuck
      · rename_i hm hc
        simp only [Bool.or_eq_true, not_or, Bool.not_eq_true, Bool.not_eq_eq_eq_not, Bool.not_true, decide_eq_false_iff_not, Bool.not_false] at hc
        exact pw_meth rfl hm hc.1.1 (Bool.not_eq_false _ ▸ hc.1.2) (by omega) (hr.E _ ok) (hr.A _ ok) (fun e f h => by subst e; exact hr.l0 I f h)
    · exact pe_stuck
  · exact pe_stuck
theorem step_T (hr : Sound G kk cf r) {I : Inf} {X : Cx} {Wx : WX} (e : Expr) (ok : XOk G kk cf I X Wx) : PT X e (LowT X Wx (stepT G r I e)) := by
  cases e <;> first | exact pw_truT (hr.E _ ok) (fun _ => rfl) | skip
  case BoolOp op vs pos =>
    unfold stepT
    split
    · rename_i h; cases h
    · rename_i h; cases h; exact pw_oneT (hr.T _ ok)
    · rename_i h; cases h; exact pw_andT (hr.T _ ok) (hr.T _ ok)
    · rename_i h; cases h; exact pw_orT (hr.T _ ok) (hr.T _ ok)
    · exact pt_stuck
    · rename_i h; cases h
    · rename_i h; cases h
    · rename_i h; cases h
    · rename_i h; cases h
    · rename_i h1 h2 h3 h4 _ _ _ _
      exfalso
      cases vs with
      | nil => exact h4 _ _ rfl
      | cons a t => cases t with
        | nil => exact h1 _ _ _ rfl
        | cons b t => cases op with
          | And => exact h2 _ _ _ _ rfl
          | Or => exact h3 _ _ _ _ rfl
  case UnaryOp op a pos =>
    cases op <;> first | exact pw_notT (hr.T _ ok) | exact pw_truT (hr.E _ ok) (fun _ => rfl)
  case IfExp => exact pt_stuck
  case Compare a ops cs pos =>
    unfold stepT
    split
    all_goals first
      | (rename_i h; cases h; done)
      | exact pt_stuck
      | skip
    · rename_i h; cases h
      split
      · exact pt_stuck
      · exact pw_cmpT ok.hr ok.g.dcts (Bool.eq_false_iff.mpr ‹_›) (hr.E _ ok) (hr.E _ ok)
    · rename_i h; cases h
      split
      · exact pt_stuck
      · exact pw_chainT ok.hr ok.g.dcts (Bool.eq_false_iff.mpr ‹_›) (hr.E _ ok) (hr.E _ ok) (hr.E _ ok)
    · rename_i h
      exact absurd rfl (h _ _ _ _)
theorem step_A (hr : Sound G kk cf r) {I : Inf} {X : Cx} {Wx : WX} (es : List Expr) (ok : XOk G kk cf I X Wx) : PA X es (LowA X Wx (stepA r I es)) := by
  cases es with
  | nil => exact pw_nilA
  | cons e t => cases e <;> first | exact pw_starA (hr.E _ ok) (hr.A _ ok) | exact pw_consA rfl (hr.E _ ok) (hr.A _ ok)
theorem step_la (hr : Sound G kk cf r) (I : Inf) (es : List Expr) (f : Fr) (h : HS) (ws : List W) (h' : HS) (hs : es.any isStar = false) (e : stepA r I es f h = .ok ws h') : ws.length = es.length := by
  cases es with
  | nil => cases e; rfl
  | cons a t =>
    simp only [List.any_cons, Bool.or_eq_false_iff] at hs
    have e : consA (r.E I a) (r.As I t) f h = .ok ws h' := by cases a <;> first | exact e | (cases hs.1)
    obtain ⟨b, h1, _, e⟩ := bind_ok e
    obtain ⟨c, h2, q, e⟩ := bind_ok e
    cases e
    rw [List.length_cons, hr.la I t _ _ _ _ hs.2 q, List.length_cons]
end
end Rh
/-! Rh14: the evaluator is right: statements, blocks, the whole; the defs' promises. -/
namespace Rh
open PySem PySem.Spec PyProof.Rows L2
section
variable {G : Glob} {kk : Nat} {cf : Str → List W → HS → R W} {r : Ev} {I : Inf} {X : Cx} {Wx : WX}
def isComp : Expr → Bool
  | .ListComp _ _ _ _ => true
  | .SetComp _ _ _ _ => true
  | .DictComp _ _ _ _ _ => true
  | _ => false
theorem sw_plain {e : Expr} {t : Option Expr} {l : Nat} {env : Env} (h : isComp e = false) : swapsWith e t l env = pure false := by
  cases e <;> first | rfl | cases h
theorem sw_sole {e t : Expr} {l : Nat} {env : Env} (h : isComp e = false) : swapsWithSole [t] e l env = pure false := sw_plain h
theorem ss_sub {e o i : Expr} {p : Pos} {env : Env} : swappedStores [.Subscript o i p] e env = pure none := by
  cases e <;> rfl
def isTupX : Expr → Bool
  | .Tuple _ _ _ => true
  | _ => false
theorem ss_tup {e : Expr} {es : List Expr} {k : Nat} {p : Pos} {env : Env} (h : isTupX e = false) : swappedStores [.Tuple es k p] e env = pure none := by
  cases e <;> first | rfl | cases h
theorem as_sub {o i : Expr} {p : Pos} {env : Env} (h : isSlice i = false) : ∀ v, assign (.Subscript o i p) env v = (do
      let ov ← holding [v] (eval o env)
      let iv ← holding [v, ov] (eval i env)
      standAt p
      holding [v, ov, iv] (setItem ov iv v)
      release [v, ov, iv] []) := by
  cases i <;> first | (intro _; rfl) | cases h
theorem au_sub {i : Expr} (h : isSlice i = false) : ∀ ov iv new, augStore i ov iv new = (do holding [new, ov, iv] (setItem ov iv new); release [new, ov, iv] []; pure .next) := by
  cases i <;> first | (intros; rfl) | cases h
theorem XOk.tr (ok : XOk G kk cf I X Wx) {W : WX} {pn : List (Addr × Obj)} {xe : Value → Shared → Prop} (tk : Takes (X.tr pn xe) W) : XOk G kk cf I (X.tr pn xe) W :=
  ⟨ok.g, ok.calm, ok.hN, ok.nd, ok.sc, ok.fn, ok.room, tk⟩
theorem quiet_set {i : Nat} {w : W} : Quiet (asgS (.one i) (valE w)) := fun f h => .inl ⟨_, _, rfl⟩
theorem quiet_ret {w : W} : Quiet (retS (valE w)) := fun f h => .inr (.inl ⟨_, _, rfl⟩)
/-- an except suite -/
theorem suite_low (ok : XOk G kk cf I X Wx) {body : List Stmt} {s : SM} (e : suiteS I body = some s) : Quiet s ∧ (∃ b t, body = b :: t) ∧ ∀ (a : Addr) (pn : List (Addr × Obj)), PSs (X.suite a pn) body (LowS X noW s) := by
  unfold suiteS at e
  split at e
  · rename_i x p c k cp sp
    cases q : storeIx I x with
    | none => rw [q] at e; cases e
    | some i =>
      rw [q] at e
      have low : ∀ {c : Const}, ∀ (a : Addr) (pn : List (Addr × Obj)), PSs (X.suite a pn) [.Assign [.Name x p] (.Constant c k cp) sp] (LowS X noW (asgS (.one i) (constE c))) := fun {c} a pn =>
        pss_one (sw_set (X := X.suite a pn) (Wx := noW) ok.hN ok.nd ok.sc ok.fn q (pw_const (X := X.suite a pn) (Wx := noW) c) (sw_plain rfl))
      cases c <;> first | (cases e; done) | (cases e; exact ⟨quiet_set, ⟨_, _, rfl⟩, low⟩)
  · rename_i c k cp sp
    have low : ∀ {c : Const}, ∀ (a : Addr) (pn : List (Addr × Obj)), PSs (X.suite a pn) [.Return (some (.Constant c k cp)) sp] (LowS X noW (retS (constE c))) := fun {c} a pn =>
      pss_one (sw_ret (X := X.suite a pn) (Wx := noW) (pw_const (X := X.suite a pn) (Wx := noW) c))
    cases c <;> first | (cases e; done) | (cases e; exact ⟨quiet_ret, ⟨_, _, rfl⟩, low⟩)
  · cases e
theorem hand_low (ok : XOk G kk cf I X Wx) : ∀ (hs : List ExceptHandler) (l : List (Str × SM)), handS G I hs = some l → ∃ l2, HdsOk X hs l2 ∧ HsRel X G.excs l l2 := by
  intro hs
  induction hs with
  | nil => intro l e; cases e; exact ⟨[], .nil, .nil⟩
  | cons hd t ih =>
    intro l e
    unfold handS at e
    split at e
    · rename_i h; cases h
    · rename_i x np body pos t' heq
      cases heq
      split at e
      · rename_i hc
        simp only [Bool.and_eq_true] at hc
        obtain ⟨g, hx⟩ := hc
        cases q : suiteS I body with
        | none => rw [q] at e; cases e
        | some s =>
          rw [q] at e
          cases q2 : handS G I t with
          | none => rw [q2] at e; cases e
          | some l' =>
            rw [q2] at e
            cases e
            obtain ⟨l2, h1, h2⟩ := ih l' q2
            obtain ⟨qs, ⟨b, bt, rfl⟩, low⟩ := suite_low ok q
            obtain ⟨anc, ea⟩ := Option.isSome_iff_exists.mp hx
            obtain ⟨C, F, _⟩ := ok.g.excs x anc ea
            obtain ⟨hg, hdb⟩ := ok.glob g
            exact ⟨(.ref C, fun _ _ _ => LowS X noW s) :: l2, .cons ⟨hg, hdb, .inl F.gl⟩ (fun a oe cls d pn _ _ => low a _) h1, .cons F.gl hx qs h2⟩
      · cases e
    · cases e
theorem cs_low (hr : Sound G kk cf r) (ok : XOk G kk cf I X Wx) (yk : YOk X) : ∀ (cs : List MatchCase) (l : List (Pt × SM)), caseS r I cs = some l → CsOk X Wx cs l := by
  intro cs
  induction cs with
  | nil => intro l e; cases e; exact .nil
  | cons c t ih =>
    intro l e
    unfold caseS at e
    split at e
    · rename_i h; cases h
    · rename_i c k p q body t' heq
      cases heq
      cases q2 : caseS r I t with
      | none => rw [q2] at e; cases c <;> cases e
      | some l' =>
        rw [q2] at e
        cases c <;> first | (cases e; done) | skip
        case int i => cases e; exact .val pe_int (fun _ _ => relW_int) (hr.B _ ok yk) (ih l' q2)
        case str z => cases e; exact .val pe_str (fun _ _ => relW_str) (hr.B _ ok yk) (ih l' q2)
    · rename_i p body t' heq
      cases heq
      cases q2 : caseS r I t with
      | none => rw [q2] at e; cases e
      | some l' => rw [q2] at e; cases e; exact .any (hr.B _ ok yk) (ih l' q2)
    · cases e
/-- name = a comprehension -/
theorem sw_comp (hr : Sound G kk cf r) (ok : XOk G kk cf I X Wx) {x : Str} {p pos lp : Pos} {i : Nat} {elt : Expr} {gs : List Comprehension} {scope : Scope} (hx : storeIx I x = some i) :
    PS X (.Assign [.Name x p] (.ListComp elt gs scope lp) pos) (LowS X Wx (asgS (.one i) (compE G r I elt gs scope))) := by
  obtain ⟨f1, f2, f3⟩ := store_facts ok.hN ok.sc ok.fn hx
  have sw : swapsWith (.ListComp elt gs scope lp) (some (.Name x p)) pos.line X.env = pure (X.env.blockKind == .function && X.env.kindOf x == some .local && p.line == lp.line && !(scope.names.any fun (n, k) => n == x && (k == .local || k == .cell))) := rfl
  cases hb : (X.env.blockKind == .function && X.env.kindOf x == some .local && p.line == lp.line && !(scope.names.any fun (n, k) => n == x && (k == .local || k == .cell))) with
  | false =>
    rw [hb] at sw
    exact sw_set ok.hN ok.nd ok.sc ok.fn hx (pw_compE hr ok) sw
  | true =>
    rw [hb] at sw
    simp only [Bool.and_eq_true, beq_iff_eq] at hb
    have hl : X.env.scope.names.lookup x = some .local := hb.1.1.2
    rcases comp_parts hr ok elt gs scope with e | ⟨x', p', iter, ifs, i', it, mc, me, rfl, e, hi, hbk, hg, ht, he, hs⟩
    · rw [e]
      refine ⟨fun _ _ _ _ _ _ hh => ?_⟩
      obtain ⟨_, _, _, _, _, q⟩ := hh
      exact (show False from q).elim
    · rw [e]
      exact sw_setLc ok.calm (ok.hN ▸ ok.nd) f1 hl sw hi hbk hg ht he hs
theorem no_comp {e : Expr} (h1 : ∀ elt gs s p, e = .ListComp elt gs s p → False) (h2 : ∀ elt gs s p, e = .SetComp elt gs s p → False) (h3 : ∀ k v gs s p, e = .DictComp k v gs s p → False) : isComp e = false := by
  cases e <;> first | rfl | exact (h1 _ _ _ _ rfl).elim | exact (h2 _ _ _ _ rfl).elim | exact (h3 _ _ _ _ _ rfl).elim
theorem no_tup {e : Expr} (h : ∀ es k p, e = .Tuple es k p → False) : isTupX e = false := by
  cases e <;> first | rfl | exact (h _ _ _ rfl).elim
theorem step_S (hr : Sound G kk cf r) {I : Inf} {X : Cx} {Wx : WX} (s : Stmt) (ok : XOk G kk cf I X Wx) (yk : YOk X) : PS X s (LowS X Wx (stepS G r I s)) := by
  unfold stepS
  split
  · exact sw_skip ps_pass
  · exact sw_break
  · exact sw_cont
  · exact sw_skip ps_doc
  · split
    · exact ps_stuck
    · exact ps_stuck
    · exact ps_stuck
    · exact sw_expr (hr.E _ ok) (sw_plain (no_comp ‹_› ‹_› ‹_›))
  · exact sw_ret (hr.E _ ok)
  · exact sw_retN
  · exact sw_if (hr.T _ ok) (hr.B _ ok yk) (hr.B _ ok yk)
  · exact sw_while yk.pass (hr.T _ ok) (hr.B _ ok yk)
  · split
    · exact ps_stuck
    · rename_i tg iter body pos own t ht hns
      exact sw_for yk.pass ok.calm (it_low hr ok _ _) (tg_ok ok.calm ok.hN ok.nd ok.sc ok.fn ht) (hr.B _ ok yk) (fun x => by cases iter <;> first | rfl | exact (hns _ _ _ rfl).elim)
    · exact ps_stuck
  · split
    · exact ps_stuck
    · exact ps_stuck
    · exact ps_stuck
    · exact sw_comp hr ok ‹_›
    · exact sw_set ok.hN ok.nd ok.sc ok.fn ‹_› (hr.E _ ok) (sw_plain (no_comp ‹_› ‹_› ‹_›))
  · split
    · exact ps_stuck
    · exact ps_stuck
    · exact ps_stuck
    · exact ps_stuck
    · exact sw_asgIx (hr.E _ ok) (hr.E _ ok) (hr.E _ ok) (as_sub (no_slice ‹_›)) (sw_sole (no_comp ‹_› ‹_› ‹_›)) ss_sub rfl
  · split
    · exact ps_stuck
    · exact ps_stuck
    · exact ps_stuck
    · exact ps_stuck
    · exact ps_stuck
    · exact sw_unpack ok.calm ok.hN ok.nd ok.sc ok.fn ‹_› (hr.E _ ok) (sw_sole (no_comp ‹_› ‹_› ‹_›)) (ss_tup (no_tup ‹_›)) rfl
  · split
    · exact sw_aug ok.hN ok.nd ok.sc ok.fn ‹_› (hr.E _ ok)
    · exact ps_stuck
  · split
    · exact ps_stuck
    · rename_i i h0
      exact sw_augIx (hr.E _ ok) (hr.E _ ok) (hr.E _ ok) (au_sub (no_slice h0))
  · split
    · rename_i hc
      simp only [Bool.and_eq_true, Bool.not_eq_true'] at hc
      obtain ⟨⟨g, hx⟩, hst⟩ := hc
      obtain ⟨anc, ea⟩ := Option.isSome_iff_exists.mp hx
      obtain ⟨C, F, _⟩ := ok.g.excs _ anc ea
      exact sw_raise ok.calm ok.tk ok.sc g F hst (hr.E _ ok)
    · exact ps_stuck
  · rename_i body hs pos
    split
    · rename_i x i j cs hq
      unfold asForm at hq
      split at hq
      · rename_i x' np n y yp es lp sp hp
        split at hq
        · rename_i i' j' cs' q1 q2 q3
          split at hq
          · rename_i hc
            cases hq
            obtain ⟨h1, h2, h3, h4, h5, h6⟩ := hc
            obtain ⟨a1, _, _⟩ := store_facts ok.hN ok.sc ok.fn q1
            obtain ⟨b1, b2, b3⟩ := store_facts ok.hN ok.sc ok.fn q2
            exact sw_tryAs ok.g.excs ok.g.blt ok.sc yk.stk yk.frm ok.tk (ok.hN ▸ ok.nd) a1 (ok.sc ▸ h2) h3 b1 b2 b3 h4 h5 h6 h1 (isiC_ok _ _ q3) (fun W pn xe tk hp => hr.B _ (ok.tr tk) ⟨yk.stk, yk.frm, hp⟩)
          · cases hq
        · cases hq
      · cases hq
    cases hs with
    | nil => exact ps_stuck
    | cons h₀ hds =>
      cases hl : handS G I (h₀ :: hds) with
      | none => exact ps_stuck
      | some l =>
        obtain ⟨l2, h1, h2⟩ := hand_low ok _ _ hl
        exact sw_try ok.g.excs yk.stk yk.frm ok.tk (fun W pn xe tk hp => hr.B _ (ok.tr tk) ⟨yk.stk, yk.frm, hp⟩) h1 h2
  · split
    · exact sw_match (oc_eq ok.room.units) (hr.E _ ok) (cs_low hr ok yk _ _ ‹_›)
    · exact ps_stuck
  · exact ps_stuck
theorem step_B (hr : Sound G kk cf r) {I : Inf} {X : Cx} {Wx : WX} (ss : List Stmt) (ok : XOk G kk cf I X Wx) (yk : YOk X) : PSs X ss (LowS X Wx (stepB r I ss)) := by
  unfold stepB
  split
  · exact sw_nil
  · exact pss_one (hr.S _ ok yk)
  · exact sw_seq (hr.S _ ok yk) (hr.B _ ok yk)
theorem ev_sound : ∀ n : Nat, Sound G kk cf (ev G cf n)
  | 0 => sound_stuck
  | n + 1 =>
    have hr := ev_sound n
    ⟨fun e ok => step_E hr e ok, fun e ok => step_T hr e ok, fun es ok => step_A hr es ok, fun s ok yk => step_S hr s ok yk, fun ss ok yk => step_B hr ss ok yk, fun I es f h ws h' hs e => step_la hr I es f h ws h' hs e, fun I f h => .inl rfl⟩
end
end Rh
/-! Rh15: the defs' promises by depth, and the law's end. -/
namespace Rh
open PySem PySem.Spec PyProof.Rows L2
/-- a def of the table, as the top has written it -/
structure FnStat (K : PySem.W.Frag) (mg : Str → Option Value) (x : Str) (fi : FI) (f : Addr) (fd : FuncData) : Prop where
  gl : mg x = some (.ref f)
  fu : ∃ (qual : Str) (params : Arguments) (dvs : List V) (kws : List (Str × V)), FunD K x qual params (defBody fi.st) (defScope fi.st) dvs kws f fd
  sc : FnScope fi.N fi.ps (defScope fi.st)
  sh : ∀ n ks src, (n, ks, src) ∈ fi.shapes → ∀ (s : Shared) (us zs : List Value), K.In s.heap → us.length = n → zs.length = ks.length → ∃ vals, BindsTo s fd ⟨us, ks.zip zs⟩ (fi.ps.zip vals) ∧ SrcVals K mg src us zs vals
/-- what the top has written -/
structure TopOk (w : World) (K : PySem.W.Frag) (mg : Str → Option Value) (G : Glob) : Prop where
  cons : ∀ x c, G.cons.lookup x = some c → ∃ v u, mg x = some u ∧ RelV v u ∧ ∀ loc H, RelW K mg loc H c v
  dcts : DctsOk K w mg G.dcts
  blt : ∀ x, G.blt.contains x = true → mg x = none
  fns : ∀ x fi, G.fns.lookup x = some fi → ∃ f fd, FnStat K mg x fi f fd
  excs : ExcsOk K mg G.excs
section
variable {P : Program} {w : World} {K : PySem.W.Frag} {mg : Str → Option Value} {base : Heap} {G : Glob}
theorem relf_none : ∀ (n m : Nat) {loc : List Addr} {H : Hp}, n = m → RelF K mg loc H (List.replicate n none) (List.replicate m none)
  | 0, m, _, _, e => by subst e; rfl
  | n + 1, m, _, _, e => by subst e; exact ⟨none, _, rfl, relf_none n n rfl⟩
theorem relf_start {loc : List Addr} {H : Hp} {n m : Nat} (e : n = m) : ∀ {ws : List W} {vs : List V}, RelWs K mg loc H ws vs → RelF K mg loc H (ws.map some ++ List.replicate n none) (vs.map some ++ List.replicate m none)
  | [], vs, r => by rw [r.unnil]; exact relf_none n m e
  | x :: ws, vs, r => by
    obtain ⟨v, t, rfl, r1, r2⟩ := r.uncons
    exact ⟨v, _, rfl, r1, relf_start e r2⟩
theorem fn_zero {f : Addr} {fd : FuncData} {ps : List Str} {n : Nat} {m : List W → HS → R W} (hm : ∀ ws h, m ws h = .stuck) : FnOk P w K mg base (L2.CX P w) 0 f fd ps (SpW K mg n m) :=
  ⟨fun vs H Q E ⟨_, _, _, _, _, _, p⟩ => by rw [hm] at p; exact (show False from p).elim, fun A outer s H args us vs Q E _ _ _ _ ⟨_, _, _, _, _, _, p⟩ => by rw [hm] at p; exact (show False from p).elim⟩
theorem callF_len {k : Nat} {x : Str} {fi : FI} (e : G.fns.lookup x = some fi) (ws : List W) (h : HS) (hl : ws.length ≠ fi.ps.length) : callF G k x ws h = .stuck := by
  cases k with
  | zero => exact callF_zero x ws h
  | succ k =>
    rw [callF_succ]
    unfold callS
    rw [e]
    dsimp only
    rw [if_neg hl]
theorem fn_ok (T : TopOk w K mg G) : ∀ (k : Nat) (x : Str) (fi : FI) (f : Addr) (fd : FuncData), G.fns.lookup x = some fi → FnStat K mg x fi f fd → FnOk P w K mg base (L2.CX P w) k f fd fi.ps (SpW K mg fi.ps.length (callF G k x))
  | 0, x, fi, f, fd, e, S => fn_zero fun ws h => callF_zero x ws h
  | k + 1, x, fi, f, fd, e, S => by
    obtain ⟨qual, params, dvs, kws, F⟩ := S.fu
    refine FunD.ok F S.sc (fun vs H Q E hs => hs.1) fun cdv A outer s H vs Q E hr hsp => ?_
    obtain ⟨hlen, loc, h, ws, rel, rw0, p⟩ := hsp
    have g : GOk P w K mg base k G (callF G k) := ⟨T.cons, T.dcts, T.blt, fun y fj ey => by
      obtain ⟨f2, fd2, S2⟩ := T.fns y fj ey
      obtain ⟨q2, p2, d2, k2, F2⟩ := S2.fu
      exact ⟨f2, fd2, S2.gl, F2.kp, fn_ok T k y fj f2 fd2 ey S2, fun ws h hl => callF_len ey ws h hl, S2.sh⟩, T.excs⟩
    have tk : Takes (cxOf (L2.CX P w) P w K mg base fi.N qual (defScope fi.st) f cdv A outer s H E) (fun cls d _ H' => E cls d H') := takes_of rfl rfl rfl rfl
    have ok : XOk G k (callF G k) (infOf fi) (cxOf (L2.CX P w) P w K mg base fi.N qual (defScope fi.st) f cdv A outer s H E) (fun cls d _ H' => E cls d H') :=
      ⟨g, rfl, rfl, S.sc.nd, rfl, rfl, hr, tk⟩
    have yk : YOk (cxOf (L2.CX P w) P w K mg base fi.N qual (defScope fi.st) f cdv A outer s H E) := ⟨rfl, rfl, passes_of rfl⟩
    refine ⟨_, (ev_sound (G := G) (kk := k) (cf := callF G k) DEEP).B (defBody fi.st) ok yk, loc, _, h, rel, relf_start (n := fi.N.length - fi.ps.length) (by rw [hlen]) rw0, ?_⟩
    have hl2 : ws.length = fi.ps.length := by rw [← rw0.length, hlen]
    have p : PostW K mg loc H (callF G (k + 1) x ws h) Q E := p
    rw [callF_succ] at p
    unfold callS at p
    rw [e] at p
    dsimp only at p
    rw [if_pos hl2] at p
    show PostS K mg loc H ((ev G (callF G k) DEEP).B (infOf fi) (defBody fi.st) (ws.map some ++ List.replicate (fi.N.length - fi.ps.length) none) h) _ _
    generalize (ev G (callF G k) DEEP).B (infOf fi) (defBody fi.st) (ws.map some ++ List.replicate (fi.N.length - fi.ps.length) none) h = r at p
    cases r with
    | nx f1 h1 => exact fun l H1 s1 e1 r1 _ => p .non l H1 e1 r1 relW_non
    | rt u h1 => exact fun l H1 v e1 r1 rv => p v l H1 e1 r1 rv
    | exc y f1 h1 => exact fun c d l H1 s1 e1 r1 rx _ => p c d l H1 e1 r1 rx
    | bk f1 h1 => exact (show False from p).elim
    | ct f1 h1 => exact (show False from p).elim
    | stuck => exact (show False from p).elim
/-- the heap at the law's entry -/
def hs0 (ws : List W) (fz : Bool) : HS := ⟨1, fun _ => if fz then .frz ws else .lst ws⟩
def intsW (ns : List Int) : List W := ns.map W.int
def AnsTrue (G : Glob) (k n : Nat) : Prop := ∀ ns : List Int, ns.length ≤ n → ∃ h', callF G k "law" [.ref 0] ⟨1, fun _ => .frz (intsW ns)⟩ = .ok (.bl true) h'
def spTop (n : Nat) : Sp := fun vs H Q E => ∃ (a : Addr) (ns : List Int) (o : Obj), vs = [.ref a] ∧ ns.length ≤ n ∧ H a = some (.frz o (.lst (ns.map V.int))) ∧ ∀ H', Q (.bl true) H'
theorem rel_ints {loc : List Addr} {H : Hp} : ∀ ns : List Int, RelWs K mg loc H (intsW ns) (ns.map V.int)
  | [] => .nil
  | i :: r => .cons relW_int (rel_ints r)
theorem sp_top {n k : Nat} (A : AnsTrue G k n) : ∀ vs H Q E, spTop n vs H Q E → SpW K mg 1 (callF G k "law") vs H Q E := by
  rintro vs H Q E ⟨a, ns, o, rfl, hl, ha, hq⟩
  obtain ⟨h', e⟩ := A ns hl
  refine ⟨rfl, [a], ⟨1, fun _ => .frz (intsW ns)⟩, [.ref 0], ⟨rfl, by simp, fun m b eb => ?_⟩, .cons (by unfold RelW; exact ⟨a, rfl, rfl⟩) .nil, ?_⟩
  · have eb' : b = a := by
      cases m with
      | zero => simpa using eb.symm
      | succ m => simp at eb
    subst eb'
    exact ⟨o, _, ha, rel_ints ns⟩
  · rw [e]
    intro v loc' H' _ _ rv
    have rv : v = .bl true := by unfold RelW at rv; exact rv
    rw [rv]
    exact hq H'
end
end Rh
/-! Rh16: what the top has written, from checks that compute; the law's end. -/
namespace Rh
open PySem PySem.Spec PyProof.Rows L2
/-! ### checks -/
section
variable (K : PySem.W.Frag)
mutual
def wB : W → Value → Bool
  | .non, u => (match u with
    | .none => true
    | _ => false)
  | .bl b, u => (match u with
    | .bool c => b == c
    | _ => false)
  | .int i, u => (match u with
    | .int j _ => decide (i = j)
    | _ => false)
  | .str x, u => (match u with
    | .str y _ => decide (x = y)
    | _ => false)
  | .tup ws, u => (match u with
    | .ref a => (match K.lookup a with
      | some ⟨.type c, none, .seq its _, sl⟩ => decide (c = "tuple") && (sl.isEmpty && (decide (its.size ≤ sizeLine) && wsB ws its.toList))
      | _ => false)
    | _ => false)
  | _, _ => false
def wsB : List W → List Value → Bool
  | [], us => us.isEmpty
  | w :: ws, us => (match us with
    | [] => false
    | u :: us => wB w u && wsB ws us)
end
end
section
variable {K : PySem.W.Frag} {mg : Str → Option Value}
mutual
theorem wB_ok : ∀ (w : W) (u : Value), wB K w u = true → ∃ v, RelV v u ∧ ∀ loc H, RelW K mg loc H w v
  | .non, u, h => by
    unfold wB at h
    cases u <;> first | exact ⟨.non, rfl, fun _ _ => relW_non⟩ | cases h
  | .bl b, u, h => by
    unfold wB at h
    cases u <;> first | (cases h; done) | skip
    case bool c => exact ⟨.bl b, by rw [eq_of_beq h]; rfl, fun _ _ => relW_bl⟩
  | .int i, u, h => by
    unfold wB at h
    cases u <;> first | (cases h; done) | skip
    case int j t => exact ⟨.int i, ⟨t, by rw [of_decide_eq_true h]⟩, fun _ _ => relW_int⟩
  | .str x, u, h => by
    unfold wB at h
    cases u <;> first | (cases h; done) | skip
    case str y t => exact ⟨.str x, ⟨t, by rw [of_decide_eq_true h]⟩, fun _ _ => relW_str⟩
  | .tup ws, u, h => by
    unfold wB at h
    cases u <;> first | (cases h; done) | skip
    case ref a =>
      have h : (match K.lookup a with
        | some ⟨.type c, none, .seq its _, sl⟩ => decide (c = "tuple") && (sl.isEmpty && (decide (its.size ≤ sizeLine) && wsB K ws its.toList))
        | _ => false) = true := h
      split at h
      · rename_i c its n sl q
        simp only [Bool.and_eq_true, decide_eq_true_eq] at h
        obtain ⟨rfl, h2, h3, h4⟩ := h
        obtain ⟨vs, rv, rw0⟩ := wsB_ok ws its.toList h4
        exact ⟨.ref a, rfl, fun loc H => by
          unfold RelW
          exact ⟨a, vs, rfl, .inr ⟨_, its, n, q, ⟨rfl, rfl, Array.isEmpty_iff.mp h2⟩, rfl, h3, rv⟩, rw0 loc H⟩⟩
      · cases h
  | .ref _, u, h => by unfold wB at h; cases h
  | .gl _, u, h => by unfold wB at h; cases h
  | .ty _, u, h => by unfold wB at h; cases h
theorem wsB_ok : ∀ (ws : List W) (us : List Value), wsB K ws us = true → ∃ vs, Vals vs us ∧ ∀ loc H, RelWs K mg loc H ws vs
  | [], us, h => by
    unfold wsB at h
    cases us <;> first | (cases h; done) | exact ⟨[], .nil, fun _ _ => .nil⟩
  | w :: ws, us, h => by
    unfold wsB at h
    cases us with
    | nil => cases h
    | cons u us =>
      have h : (wB K w u && wsB K ws us) = true := h
      rw [Bool.and_eq_true] at h
      obtain ⟨v, r1, r2⟩ := wB_ok w u h.1
      obtain ⟨vs, r3, r4⟩ := wsB_ok ws us h.2
      exact ⟨v :: vs, .cons r1 r3, fun loc H => .cons (r2 loc H) (r4 loc H)⟩
end
end
def conB (K : PySem.W.Frag) (p : Str × W) : Bool := match PySem.W.nsIn K mainGlobals p.1 with
  | some (some u) => wB K p.2 u
  | _ => false
def noLst (K : PySem.W.Frag) : Bool := K.all fun p => match p.2.cls with
  | .type c => !decide (c = "list")
  | _ => true
theorem noLst_ok {K : PySem.W.Frag} (h : noLst K = true) {a : Addr} {o : Obj} (e : K.lookup a = some o) : o.cls ≠ .type "list" := by
  intro z
  have m : (a, o) ∈ K := by
    clear h z
    induction K with
    | nil => cases e
    | cons p r ih =>
      obtain ⟨b, u⟩ := p
      rw [List.lookup_cons] at e
      by_cases c : a == b
      · simp only [c] at e
        cases e
        rw [eq_of_beq c]
        exact List.mem_cons_self
      · have c : (a == b) = false := by simpa using c
        simp only [c] at e
        exact List.mem_cons_of_mem _ (ih e)
  have q := List.all_eq_true.mp h (a, o) m
  dsimp only at q
  rw [z] at q
  simp at q
def kindB : NameKind → Nat
  | .local => 0
  | .cell => 1
  | .free => 2
  | _ => 3
def scB (fi : FI) : Bool := (match (defScope fi.st).kind with
    | .function => true
    | _ => false) && (!(defScope fi.st).isCoroutine && (!(defScope fi.st).isGenerator && (decide fi.N.Nodup && (decide (fi.N.take fi.ps.length = fi.ps) &&
    (fi.ps.all (fun x => match (defScope fi.st).names.lookup x with
      | some .local => true
      | some .cell => true
      | _ => false) && (defScope fi.st).names.all fun y => match y.2 with
        | .free => false
        | _ => true)))))
theorem scB_ok {fi : FI} (h : scB fi = true) : FnScope fi.N fi.ps (defScope fi.st) := by
  unfold scB at h
  simp only [Bool.and_eq_true, Bool.not_eq_true', decide_eq_true_eq] at h
  obtain ⟨h1, h2, h3, h4, h5, h6, h7⟩ := h
  refine ⟨?_, h2, h3, h4, h5, fun x hx => ?_, fun y hy e => ?_⟩
  · cases q : (defScope fi.st).kind <;> rw [q] at h1 <;> first | rfl | cases h1
  · have q := List.all_eq_true.mp h6 x hx
    split at q
    · exact .inl ‹_›
    · exact .inr ‹_›
    · cases q
  · have q := List.all_eq_true.mp h7 y hy
    rw [e] at q
    cases q
/-! ### facts by names -/
/-- the defaults of the defs that have some: (def, defaults, keyword-only ones) -/
abbrev Dfs := List (Str × List He.Dv × List (Str × He.Dv))
def dfl1 (d : Dfs) (x : Str) : List He.Dv := ((d.lookup x).map (·.1)).getD []
def dfl2 (d : Dfs) (x : Str) : List (Str × He.Dv) := ((d.lookup x).map (·.2)).getD []
def defD (d : Dfs) (p : Str × FI) : He.DefD := ⟨(p.1, none), p.1, p.1, defArgs p.2.st, defBody p.2.st, defScope p.2.st, dfl1 d p.1, dfl2 d p.1⟩
def fnOf (G : Glob) (d : Dfs) : List He.DefD := G.fns.map (defD d)
def faOf (G : Glob) : List He.Fa := G.fns.map (fun p => .glo p.1) ++ (G.blt.map .free ++ (G.dcts.map (fun p => .glo p.1) ++ G.excs.flatMap fun p => .glo p.1 :: .exc p.1 :: G.excs.map fun q => .exm p.1 q.1 (p.2.contains q.1)))
def keyS : Key → Str
  | .inr x => x
  | _ => Str.empty
def tsOf (G : Glob) : List He.Tab := G.dcts.map fun p => (fun K => He.ga K p.1, p.2.map fun q => keyS q.1)
/-! ### dicts -/
def keyB : Key → Value → Bool
  | .inr x, .str y _ => decide (x = y)
  | _, _ => false
def esB (K : PySem.W.Frag) : List (Key × W) → List DictEntry → Bool
  | [], es => es.isEmpty
  | (k, w) :: r, es => (match es with
    | [] => false
    | e :: es => keyB k e.key && (wB K w e.val && esB K r es))
def dB (K : PySem.W.Frag) (p : Str × List (Key × W)) : Bool := match K.lookup (He.ga K p.1) with
  | some ⟨_, _, .dict es _, _⟩ => esB K p.2 es.toList
  | _ => false
section
variable {K : PySem.W.Frag} {mg : Str → Option Value}
theorem key_beq (z x : Str) : ((Sum.inr z : Key) == Sum.inr x) = (z == x) := rfl
theorem esB_find (z : Str) : ∀ (kvs : List (Key × W)) (es : List DictEntry), esB K kvs es = true → es.any (·.refKey) = false ∧
    ((es.find? (·.key.isStr z)).isSome = (kvs.map (·.1)).contains (.inr z)) ∧ ∀ wv, kvs.lookup (.inr z) = some wv → ∃ e v, es.find? (·.key.isStr z) = some e ∧ RelV v e.val ∧ ∀ loc H, RelW K mg loc H wv v
  | [], es, h => by
    unfold esB at h
    cases es with
    | nil => exact ⟨rfl, rfl, fun wv e => by cases e⟩
    | cons _ _ => cases h
  | (k, w) :: r, es, h => by
    unfold esB at h
    cases es with
    | nil => cases h
    | cons e es =>
      have h : (keyB k e.key && (wB K w e.val && esB K r es)) = true := h
      simp only [Bool.and_eq_true] at h
      obtain ⟨h1, h2, h3⟩ := h
      obtain ⟨i1, i2, i3⟩ := esB_find z r es h3
      obtain ⟨v, rv, rw0⟩ := wB_ok (mg := mg) w e.val h2
      obtain ⟨hs, ky, vl⟩ := e
      cases k with
      | inl _ => cases h1
      | inr x =>
        cases ky with
        | str y t =>
          have e1 : x = y := of_decide_eq_true h1
          subst e1
          refine ⟨?_, ?_, ?_⟩
          · rw [List.any_cons, i1]; rfl
          · rw [List.find?_cons, List.map_cons, List.contains_cons]
            by_cases c : z = x
            · subst c
              have c1 : ((Value.str z t).isStr z) = true := by simp [Value.isStr]
              have c2 : ((Sum.inr z : Key) == Sum.inr z) = true := by rw [key_beq]; simp
              rw [c1, c2]
              rfl
            · have c1 : ((Value.str x t).isStr z) = false := by simp [Value.isStr]; exact fun q => c q.symm
              have c2 : ((Sum.inr z : Key) == Sum.inr x) = false := by rw [key_beq]; simpa using c
              rw [c1, c2, Bool.false_or]
              exact i2
          · intro wv el
            rw [List.lookup_cons] at el
            by_cases c : z = x
            · subst c
              simp only [key_beq, beq_self_eq_true] at el
              cases el
              exact ⟨_, v, by rw [List.find?_cons]; simp [Value.isStr], rv, rw0⟩
            · have c2 : ((Sum.inr z : Key) == Sum.inr x) = false := by rw [key_beq]; simpa using c
              rw [c2] at el
              have c1 : ((Value.str x t).isStr z) = false := by simp [Value.isStr]; exact fun q => c q.symm
              obtain ⟨e', v', a, b, d⟩ := i3 wv el
              exact ⟨e', v', by rw [List.find?_cons, c1]; exact a, b, d⟩
        | _ => cases h1
theorem dB_ok {w : World} {p : Str × List (Key × W)} {es : Array DictEntry} {n : Nat} (kd : KDict K w (He.ga K p.1) es n) (h : dB K p = true) : ∀ z : Str, ∃ r, PySem.W.nsIn K (He.ga K p.1) z = some r ∧ r.isSome = (p.2.map (·.1)).contains (.inr z) ∧
    ∀ wv, p.2.lookup (.inr z) = some wv → ∃ u v, r = some u ∧ RelV v u ∧ ∀ loc H, RelW K mg loc H wv v := by
  intro z
  unfold dB at h
  rw [kd.at_] at h
  obtain ⟨i1, i2, i3⟩ := esB_find (mg := mg) z p.2 es.toList h
  unfold PySem.W.nsIn
  rw [kd.at_]
  dsimp only
  cases q : es.toList.find? (·.key.isStr z) with
  | none =>
    rw [q] at i2
    refine ⟨none, by rw [i1]; rfl, i2, fun wv e => ?_⟩
    obtain ⟨e', v, a, _⟩ := i3 wv e
    rw [q] at a
    cases a
  | some e =>
    rw [q] at i2
    refine ⟨some e.val, rfl, i2, fun wv e2 => ?_⟩
    obtain ⟨e', v, a, b, c⟩ := i3 wv e2
    rw [q] at a
    cases a
    exact ⟨_, v, rfl, b, c⟩
end
/-! ### the whole -/
def ecB (K : PySem.W.Frag) (D : Addr) : Bool := decide (PySem.W.findIn K (.ref D) "__getattribute__" = some (some (.builtin "BaseException.__getattribute__"))) && (decide (PySem.W.findIn K (.ref D) "__getattr__" = some none) && (decide (PySem.W.subIn K (.ref D) (.type "BaseException") = some true) && (PySem.W.hasDictIn K D &&
  (decide (PySem.W.findIn K (.ref D) "__class__" = some (some (.builtin "object.__class__"))) && (decide (PySem.W.specialIn K (.builtin "object.__class__") "__get__" = some (some (.builtin "getset_descriptor.__get__"))) && (decide (PySem.W.takesIn K (.builtin "object.__class__") = some true) && decide (PySem.W.mroIn K D (.type "object") = some true)))))))
theorem ecB_ok {K : PySem.W.Frag} {D : Addr} (h : ecB K D = true) : ExcC K D := by
  unfold ecB at h
  simp only [Bool.and_eq_true, decide_eq_true_eq] at h
  obtain ⟨h1, h2, h3, h4, h5, h6, h7, h8⟩ := h
  exact ⟨h1, h2, h3, h4, h5, h6, h7, h8⟩
/-- the checks that compute -/
def okK (G : Glob) (K : PySem.W.Frag) : Bool := noLst K && (G.cons.all (conB K) && (G.dcts.all (dB K) && G.excs.all fun p => ecB K (He.ga K p.1)))
section
variable {w : World} {K : PySem.W.Frag} {mg : Str → Option Value} {h : Heap} {G : Glob} {d : Dfs}
theorem mem_of_look {α : Type} {l : List (Str × α)} {x : Str} {a : α} (e : l.lookup x = some a) : (x, a) ∈ l := PySem.mem_of_lookup e
/-- the promise that a def's parameters are bound so -/
def ShOk (K : PySem.W.Frag) (mg : Str → Option Value) (d : Dfs) (p : Str × FI) : Prop := ∀ (f : Addr) (fd : FuncData), FunD K p.1 p.1 (defArgs p.2.st) (defBody p.2.st) (defScope p.2.st) ((dfl1 d p.1).map (He.Dv.v K)) ((dfl2 d p.1).map fun q => (q.1, q.2.v K)) f fd →
  ∀ n ks src, (n, ks, src) ∈ p.2.shapes → ∀ (s : Shared) (us zs : List Value), K.In s.heap → us.length = n → zs.length = ks.length → ∃ vals, BindsTo s fd ⟨us, ks.zip zs⟩ (p.2.ps.zip vals) ∧ SrcVals K mg src us zs vals
theorem top_ok (X : K.In h) (N : h.Ns mainGlobals mg) (c : He.SaysT (faOf G) (fnOf G d) (tsOf G) w K) (k : okK G K = true) (sc : G.fns.all (fun p => scB p.2) = true) (sh : ∀ p ∈ G.fns, ShOk K mg d p) : TopOk w K mg G := by
  simp only [okK, Bool.and_eq_true] at k
  obtain ⟨_, k1, k2, k3⟩ := k
  have cd := c.d
  have fact : ∀ {f : He.Fa}, f ∈ faOf G → f.ok K = true := fun {f} hm => by
    obtain ⟨i, hi, e⟩ := List.mem_iff_getElem.mp hm
    exact cd.fact i (f := f) (by rw [List.getElem?_eq_getElem hi, e])
  refine ⟨fun x cw e => ?_, fun x kvs e => ?_, fun x hx => ?_, fun x fi e => ?_, fun x anc e => ?_⟩
  · have q := List.all_eq_true.mp k1 _ (mem_of_look e)
    unfold conB at q
    split at q
    · rename_i u hu
      obtain ⟨v, r1, r2⟩ := wB_ok (mg := mg) cw u q
      exact ⟨v, u, PySem.W.mg_of X N hu, r1, r2⟩
    · cases q
  · have hm := mem_of_look e
    have q := List.all_eq_true.mp k2 _ hm
    obtain ⟨i, hi, ei⟩ := List.mem_iff_getElem.mp hm
    obtain ⟨es, n, kd⟩ := c.tab i (t := (fun K => He.ga K x, kvs.map fun q => keyS q.1)) (by
      unfold tsOf
      rw [List.getElem?_map, List.getElem?_eq_getElem hi, ei]
      rfl)
    have g := He.glo_ok X N (fact (f := .glo x) (List.mem_append_right _ (List.mem_append_right _ (List.mem_append_left _ (List.mem_map.mpr ⟨_, hm, rfl⟩)))))
    exact ⟨_, es, n, g, kd, dB_ok (p := (x, kvs)) kd q⟩
  · exact He.free_ok X N (fact (f := .free x) (List.mem_append_right _ (List.mem_append_left _ (List.mem_map.mpr ⟨x, List.contains_iff_mem.mp hx, rfl⟩))))
  · have hm := mem_of_look e
    have g := He.glo_ok X N (fact (f := .glo x) (List.mem_append_left _ (List.mem_map.mpr ⟨_, hm, rfl⟩)))
    obtain ⟨i, hi, ei⟩ := List.mem_iff_getElem.mp hm
    obtain ⟨fd, F⟩ := cd.def_ i (d := defD d (x, fi)) (by
      unfold fnOf
      rw [List.getElem?_map, List.getElem?_eq_getElem hi, ei]
      rfl)
    exact ⟨He.ga K x, fd, g, ⟨x, _, _, _, F⟩, scB_ok (List.all_eq_true.mp sc _ hm), sh _ hm _ fd F⟩
  · have hm := mem_of_look e
    have inx : ∀ {f : He.Fa}, f ∈ (.glo x :: .exc x :: G.excs.map fun q => He.Fa.exm x q.1 (anc.contains q.1)) → f.ok K = true := fun {f} hf =>
      fact (List.mem_append_right _ (List.mem_append_right _ (List.mem_append_right _ (List.mem_flatMap.mpr ⟨_, hm, hf⟩))))
    obtain ⟨e1, e2, e3, e4⟩ := He.exc_ok (inx (f := .exc x) (by simp))
    refine ⟨He.ga K x, ⟨He.glo_ok X N (inx (f := .glo x) (by simp)), e2, ⟨_, _, _, _, PySem.F.excBase_ValueError, e1⟩, e3, e4, ecB_ok (List.all_eq_true.mp k3 _ hm)⟩, fun y hy => ?_⟩
    obtain ⟨anc2, ey⟩ := Option.isSome_iff_exists.mp hy
    have hm2 := mem_of_look ey
    refine ⟨He.ga K y, He.glo_ok X N (fact (f := .glo y) (List.mem_append_right _ (List.mem_append_right _ (List.mem_append_right _ (List.mem_flatMap.mpr ⟨_, hm2, by simp⟩))))), ?_⟩
    exact He.exm_ok (inx (f := .exm x y (anc.contains y)) (List.mem_cons_of_mem _ (List.mem_cons_of_mem _ (List.mem_map.mpr ⟨_, hm2, rfl⟩))))
end
/-- the goal that k_head leaves, from the checks and the law's answer -/
theorem walk_rh {l : PySem.W.OpenLaw} {n k : Nat} {q : Program} {loose : List Str} {XP : (Str → Option Value) → Heap → Prop} {YP : World → Heap → Prop} {dr : DefRec} {K : Params → PySem.W.Frag} {G : Glob} {d : Dfs} {fi : FI}
    (hn : l.most = some n) (hn2 : n ≤ sizeLine) (hdf : dr.params.defaults = []) (hr : Room k callerA) (hY : ∀ (w : World) (h : Heap), YP w h → (K w.params).In h)
    (hname : dr.name = ("law" : Str)) (hlaw : G.fns.lookup ("law" : Str) = some fi) (hps : fi.ps = [("script" : Str)]) (hsh : (1, [], [.pos 0]) ∈ fi.shapes)
    (c : ∀ w : World, He.SaysT (faOf G) (fnOf G d) (tsOf G) w (K w.params)) (ok : ∀ w : World, okK G (K w.params) = true) (sc : G.fns.all (fun p => scB p.2) = true)
    (sh : ∀ (w : World) (mg : Str → Option Value), ∀ p ∈ G.fns, ShOk (K w.params) mg d p)
    (hb : ∀ (w : World) (f : Addr) (fd : FuncData), FunD (K w.params) "law" "law" (defArgs fi.st) (defBody fi.st) (defScope fi.st) ((dfl1 d "law").map (He.Dv.v (K w.params))) ((dfl2 d "law").map fun q => (q.1, q.2.v (K w.params))) f fd → ∀ (s : Shared) (u : Value), BindsTo s fd ⟨[u], []⟩ [("script", u)])
    (A : AnsTrue G k n) : PySem.W.WalkO q loose XP YP l.row.toRowW dr [] (fun f vs => PySem.call f vs) := by
  refine Att.attach_call hn hdf fun w s₀ s₁ mg mb fa o pm cd doc a vs ns Gr Y ho hd hcd hmg hobj hints hlen hg => ?_
  have KX := hY w _ Y
  have T : TopOk w (K w.params) mg G := top_ok KX Gr.T.g (c w) (ok w) sc (sh w mg)
  rw [hname] at hmg
  have hm := mem_of_look hlaw
  obtain ⟨i, hi, ei⟩ := List.mem_iff_getElem.mp hm
  obtain ⟨fd, F⟩ := (c w).d.def_ i (d := defD d ("law", fi)) (by
    unfold fnOf
    rw [List.getElem?_map, List.getElem?_eq_getElem hi, ei]
    rfl)
  have g : mg "law" = some (.ref (He.ga (K w.params) "law")) := by
    have fact : (He.Fa.glo "law").ok (K w.params) = true := by
      have hm2 : He.Fa.glo "law" ∈ faOf G := List.mem_append_left _ (List.mem_map.mpr ⟨_, hm, rfl⟩)
      obtain ⟨j, hj, e⟩ := List.mem_iff_getElem.mp hm2
      exact (c w).d.fact j (f := .glo "law") (by rw [List.getElem?_eq_getElem hj, e])
    exact He.glo_ok KX Gr.T.g fact
  have efa : fa = He.ga (K w.params) "law" := by
    rw [hmg] at g
    exact Value.ref.inj (Option.some.inj g)
  subst efa
  have S : FnStat (K w.params) mg "law" fi (He.ga (K w.params) "law") fd := ⟨hmg, ⟨"law", _, _, _, F⟩, scB_ok (List.all_eq_true.mp sc _ hm), sh w mg _ hm _ fd F⟩
  refine law_call (CX := L2.CX l.prog w) (k := k) (x := "script") (sp := spTop n) KX Gr.T.g Gr.T.b Gr.T.builtins Gr.T.nolimit hg hobj hints (Nat.le_trans hlen hn2) hr (fun base hK hN => ?_) (hb w _ fd F) (fun H hO hS => ?_) fun H e s' z => ?_
  · have f0 := fn_ok (P := l.prog) (base := base) T k "law" fi _ fd hlaw S
    rw [hps] at f0
    exact f0.imp (sp_top A)
  · rcases hS with (z | ⟨o2, z⟩) | ⟨o2, its, m, e1, e2, _⟩
    · rcases hO a with q | ⟨o3, xs, q⟩ <;> rw [z] at q <;> cases q
    · exact ⟨a, ns, o2, rfl, hlen, z, fun _ => rfl⟩
    · have k1 := ok w
      simp only [okK, Bool.and_eq_true] at k1
      exact absurd e2 (noLst_ok k1.1 e1)
  · obtain ⟨_, _, _, _, _, _, _, _, _, _, _, _, q⟩ := z
    exact q
/-! ### how parameters are bound -/
def posB : List Src → Nat → Bool
  | [], _ => true
  | .pos i :: r, k => decide (i = k) && posB r (k + 1)
  | _ :: _, _ => false
theorem posB_ok {K : PySem.W.Frag} {mg : Str → Option Value} {us zs : List Value} : ∀ (src : List Src) (pre t : List Value), us = pre ++ t → src.length = t.length → posB src pre.length = true → SrcVals K mg src us zs t
  | [], pre, t, e, l, _ => by
    cases t with
    | nil => rfl
    | cons _ _ => cases l
  | .pos i :: r, pre, t, e, l, h => by
    cases t with
    | nil => cases l
    | cons v t =>
      have h : (decide (i = pre.length) && posB r (pre.length + 1)) = true := h
      rw [Bool.and_eq_true, decide_eq_true_eq] at h
      refine ⟨v, t, rfl, by rw [e, h.1, List.getElem?_append_right (Nat.le_refl _)]; simp, posB_ok r (pre ++ [v]) t (by rw [e]; simp) (by simpa using l) (by simpa using h.2)⟩
  | .kw _ :: _, _, _, _, _, h => by cases h
  | .dfl _ :: _, _, _, _, _, h => by cases h
/-- a def that is called by positions alone, nothing lacking -/
def plainB (d : Dfs) (p : Str × FI) : Bool := (dfl1 d p.1).isEmpty && ((dfl2 d p.1).isEmpty && p.2.shapes.all fun s => decide (s.1 = p.2.ps.length) && (s.2.1.isEmpty && (decide (s.2.2.length = s.1) && posB s.2.2 0)))
theorem sh_pos {K : PySem.W.Frag} {mg : Str → Option Value} {d : Dfs} {p : Str × FI} (h : plainB d p = true)
    (hb : ∀ (kV doc pm : Value) (an : Option Addr) (cdv ct : Value) (us : List Value), us.length = p.2.ps.length → bindArgs (PySem.W.fnOf p.1 p.1 (defArgs p.2.st) (defBody p.2.st) (defScope p.2.st) .none kV doc pm an cdv ct) ⟨us, []⟩ = pure (p.2.ps.zip us)) : ShOk K mg d p := by
  intro f fd F n ks src hm s us zs X l1 l2
  unfold plainB at h
  simp only [Bool.and_eq_true] at h
  obtain ⟨h1, h2, h3⟩ := h
  have q := List.all_eq_true.mp h3 _ hm
  simp only [Bool.and_eq_true, decide_eq_true_eq] at q
  obtain ⟨q1, q2, q3, q4⟩ := q
  rw [List.isEmpty_iff.mp h1, List.isEmpty_iff.mp h2] at F
  have e : ks = [] := List.isEmpty_iff.mp q2
  subst e
  have ez : zs = [] := List.length_eq_zero_iff.mp l2
  subst ez
  exact ⟨us, FunD.bindsA F hb s us (by rw [l1, q1]), posB_ok src [] us rfl (by rw [q3, l1]) q4⟩
theorem sh_kw1 {K : PySem.W.Frag} {mg : Str → Option Value} {x qual : Str} {params : Arguments} {body : List Stmt} {scope : Scope} {kws : List (Str × V)} {f : Addr} {fd : FuncData} {ps : List Str} {src : List Src} {s : Shared} {us zs : List Value} (F : FunD K x qual params body scope [] kws f fd) (ks : List Str) (ms : List (Str × V)) (hk : kws ≠ []) (hms : ∀ q ∈ ms, q ∈ kws) (X : K.In s.heap)
    (h : ∀ mv : List Value, Vals (ms.map (·.2)) mv → mv.length = ms.length → ∃ vals, SrcVals K mg src us zs vals ∧ ∀ (D : Addr) (doc pm : Value) (an : Option Addr) (cdv ct : Value),
      KwChain D ((ms.map (·.1)).zip mv) (bindArgs (PySem.W.fnOf x qual params body scope .none (.ref D) doc pm an cdv ct) ⟨us, ks.zip zs⟩) (ps.zip vals)) :
    ∃ vals, BindsTo s fd ⟨us, ks.zip zs⟩ (ps.zip vals) ∧ SrcVals K mg src us zs vals := by
  obtain ⟨oc, od, dV, kV, doc, pm, an, cdv, ct, osl, rfl, lk, hcd, hD, hK⟩ := F.ex
  rcases hD with ⟨_, rfl⟩ | ⟨e, _⟩
  · rcases hK with e | ⟨D, rfl, hq⟩
    · exact absurd e hk
    · obtain ⟨mv, hl, rk, hks⟩ := kwd_vals (ms := ms) fun q hm => hq q (hms q hm)
      obtain ⟨vals, sv, hc⟩ := h mv rk hl
      exact ⟨vals, BindsTo.of_looks fun M => KwChain.looks X hks (hc D doc pm an cdv ct), sv⟩
  · exact absurd rfl e
end Rh
/-! Rh17: reasoning about runs: equations that simp follows, loops by invariants. -/
namespace Rh
open PySem L2
section
variable {α β : Type} {f : α → HS → R β} {k : α → HS → RS} {a : α} {x : Exn} {h : HS} {σ : Fr} {s : SM}
@[simp] theorem bind_okE : (R.ok a h).bind f = f a h := (rfl)
@[simp] theorem bind_excE : (R.exc x h : R α).bind f = .exc x h := (rfl)
@[simp] theorem bind_stuckE : (R.stuck : R α).bind f = .stuck := (rfl)
@[simp] theorem toS_okE : (R.ok a h).toS σ k = k a h := (rfl)
@[simp] theorem toS_excE : (R.exc x h : R α).toS σ k = .exc x σ h := (rfl)
@[simp] theorem toS_stuckE : (R.stuck : R α).toS σ k = .stuck := (rfl)
@[simp] theorem sbind_nx : (RS.nx σ h).bind s = s σ h := (rfl)
@[simp] theorem sbind_rt {w : W} : (RS.rt w h).bind s = .rt w h := (rfl)
@[simp] theorem sbind_bk : (RS.bk σ h).bind s = .bk σ h := (rfl)
@[simp] theorem sbind_ct : (RS.ct σ h).bind s = .ct σ h := (rfl)
@[simp] theorem sbind_exc : (RS.exc x σ h).bind s = .exc x σ h := (rfl)
@[simp] theorem sbind_stuck : (RS.stuck).bind s = .stuck := (rfl)
@[simp] theorem optR_someE : optR (some a) h = .ok a h := rfl
@[simp] theorem optR_noneE : optR (none : Option α) h = .stuck := rfl
@[simp] theorem guardR_t {r : R α} : guardR true r = r := rfl
@[simp] theorem guardR_f {r : R α} : guardR false r = .stuck := rfl
@[simp] theorem retR_nx : retR (.nx σ h) = .ok .non h := rfl
@[simp] theorem retR_rt {w : W} : retR (.rt w h) = .ok w h := rfl
@[simp] theorem retR_exc : retR (.exc x σ h) = .exc x h := rfl
@[simp] theorem getS_z {o : Option W} {r : Fr} : getS (o :: r) 0 = o := rfl
@[simp] theorem getS_s {o : Option W} {r : Fr} {n : Nat} : getS (o :: r) (n + 1) = getS r n := rfl
@[simp] theorem setS_z {o w : Option W} {r : Fr} : setS (o :: r) 0 w = w :: r := rfl
@[simp] theorem setS_s {o w : Option W} {r : Fr} {n : Nat} : setS (o :: r) (n + 1) w = o :: setS r n w := rfl
end
section
variable {σ : Fr} {h : HS} {a b c : EM} {p q : BM} {l m : AM} {D : Dcts}
@[simp] theorem slotE_at {i : Nat} : slotE i σ h = optR (getS σ i) h := rfl
@[simp] theorem valE_at {w : W} : valE w σ h = .ok w h := rfl
@[simp] theorem binE_at {f : W → W → HS → R W} : binE f a b σ h = (a σ h).bind fun x h => (b σ h).bind fun y h => f x y h := rfl
@[simp] theorem unE_at {f : W → HS → R W} : unE f a σ h = (a σ h).bind fun x h => f x h := rfl
@[simp] theorem cmpE_at {f : W → W → HS → R Bool} : cmpE f a b σ h = (a σ h).bind fun x h => (b σ h).bind fun y h => (f x y h).bind fun c h => .ok (.bl c) h := rfl
@[simp] theorem cmpT_at {f : W → W → HS → R Bool} : cmpT f a b σ h = (a σ h).bind fun x h => (b σ h).bind fun y h => f x y h := rfl
@[simp] theorem chainE_at {f g : W → W → HS → R Bool} : chainE f g a b c σ h = (a σ h).bind fun x h => (b σ h).bind fun y h => (f x y h).bind fun k h => if k = true then (c σ h).bind fun z h => (g y z h).bind fun c h => .ok (.bl c) h else .ok (.bl false) h := by
  unfold chainE; congr; funext x h; congr; funext y h; congr; funext k h; cases k <;> rfl
@[simp] theorem chainT_at {f g : W → W → HS → R Bool} : chainT f g a b c σ h = (a σ h).bind fun x h => (b σ h).bind fun y h => (f x y h).bind fun k h => if k = true then (c σ h).bind fun z h => g y z h else .ok false h := by
  unfold chainT; congr; funext x h; congr; funext y h; congr; funext k h; cases k <;> rfl
@[simp] theorem andE_at : andE a b σ h = (a σ h).bind fun x h => (truR x h).bind fun k h => if k = true then b σ h else .ok x h := by
  unfold andE; congr; funext x h; congr; funext k h; cases k <;> rfl
@[simp] theorem orE_at : orE a b σ h = (a σ h).bind fun x h => (truR x h).bind fun k h => if k = true then .ok x h else b σ h := by
  unfold orE; congr; funext x h; congr; funext k h; cases k <;> rfl
@[simp] theorem notE_at : notE a σ h = (a σ h).bind fun x h => (truR x h).bind fun k h => .ok (.bl (!k)) h := rfl
@[simp] theorem ifE_at : ifE p a b σ h = (p σ h).bind fun k h => if k = true then a σ h else b σ h := by
  unfold ifE; congr; funext k h; cases k <;> rfl
@[simp] theorem truT_at : truT a σ h = (a σ h).bind fun x h => truR x h := rfl
@[simp] theorem andT_at : andT p q σ h = (p σ h).bind fun k h => if k = true then q σ h else .ok false h := by
  unfold andT; congr; funext k h; cases k <;> rfl
@[simp] theorem orT_at : orT p q σ h = (p σ h).bind fun k h => if k = true then .ok true h else q σ h := by
  unfold orT; congr; funext k h; cases k <;> rfl
@[simp] theorem notT_at : notT p σ h = (p σ h).bind fun k h => .ok (!k) h := rfl
@[simp] theorem yesT_at : yesT σ h = .ok true h := rfl
@[simp] theorem nilA_at : nilA σ h = .ok [] h := rfl
@[simp] theorem consA_at : consA a l σ h = (a σ h).bind fun x h => (l σ h).bind fun xs h => .ok (x :: xs) h := rfl
@[simp] theorem starA_at : starA a l σ h = (a σ h).bind fun x h => (optR (seqW x h) h).bind fun xs h => (l σ h).bind fun ys h => .ok (xs ++ ys) h := rfl
@[simp] theorem tupE_at : tupE l σ h = (l σ h).bind fun xs h => guardR (decide (xs.length ≤ LIM)) (.ok (.tup xs) h) := rfl
@[simp] theorem lstE_at : lstE l σ h = (l σ h).bind fun xs h => guardR (decide (xs.length ≤ LIM)) (newL xs h) := rfl
@[simp] theorem callE_at {f : List W → HS → R W} : callE f l σ h = (l σ h).bind fun xs h => f xs h := rfl
@[simp] theorem callK_at {f : List W → List W → HS → R W} : callK f l m σ h = (l σ h).bind fun xs h => (m σ h).bind fun ys h => f xs ys h := rfl
@[simp] theorem methE_at {t : Mt} : methE t a l σ h = (a σ h).bind fun x h => guardR (mtRec t x h) ((l σ h).bind fun xs h => mtW t x xs h) := rfl
@[simp] theorem noP_at : noP σ h = .ok none h := rfl
@[simp] theorem someP_at : someP a σ h = (a σ h).bind fun x h => intOf x h := rfl
@[simp] theorem intOf_int {i : Int} : intOf (.int i) h = .ok (some i) h := rfl
@[simp] theorem sliceE_at {l u : PM} : sliceE a l u σ h = (a σ h).bind fun x h => (l σ h).bind fun lo h => (u σ h).bind fun hi h => slW x lo hi h := rfl
@[simp] theorem fnC_at {cf : Str → List W → HS → R W} {x : Str} {src : List Src} {ws zs : List W} : fnC cf x src ws zs h = (pick ws zs src).elim .stuck fun vs => cf x vs h := by
  unfold fnC; cases pick ws zs src <;> rfl
@[simp] theorem pick_nil {ws zs : List W} : pick ws zs [] = some [] := rfl
@[simp] theorem pick_pos {ws zs : List W} {i : Nat} {r : List Src} : pick ws zs (.pos i :: r) = (ws[i]?).bind fun w => (pick ws zs r).map (w :: ·) := rfl
@[simp] theorem pick_kw {ws zs : List W} {i : Nat} {r : List Src} : pick ws zs (.kw i :: r) = (zs[i]?).bind fun w => (pick ws zs r).map (w :: ·) := rfl
@[simp] theorem pick_dfl {ws zs : List W} {w : W} {r : List Src} : pick ws zs (.dfl w :: r) = (pick ws zs r).map (w :: ·) := rfl
@[simp] theorem skipS_at : skipS σ h = .nx σ h := rfl
@[simp] theorem seqS_at {s t : SM} : seqS s t σ h = (s σ h).bind t := rfl
@[simp] theorem ifS_at {s t : SM} : ifS p s t σ h = (p σ h).toS σ fun k h => if k = true then s σ h else t σ h := by
  unfold ifS; congr; funext k h; cases k <;> rfl
@[simp] theorem exprS_at : exprS a σ h = (a σ h).toS σ fun _ h => .nx σ h := rfl
@[simp] theorem retS_at : retS a σ h = (a σ h).toS σ fun w h => .rt w h := rfl
@[simp] theorem asgS_one {i : Nat} : asgS (.one i) a σ h = (a σ h).toS σ fun w h => .nx (setS σ i (some w)) h := rfl
@[simp] theorem asgS_row {is : List Nat} : asgS (.row is) a σ h = (a σ h).toS σ fun w h => ((Tg.row is).put w σ).elim .stuck fun σ1 => .nx σ1 h := by
  unfold asgS; congr; funext w h; cases (Tg.row is).put w σ <;> rfl
@[simp] theorem put_one {i : Nat} {w : W} : (Tg.one i).put w σ = some (setS σ i (some w)) := rfl
@[simp] theorem put_row {is : List Nat} {ws : List W} : (Tg.row is).put (.tup ws) σ = setAll σ is ws := rfl
@[simp] theorem setAll_nil : setAll σ [] [] = some σ := rfl
@[simp] theorem setAll_cons {i : Nat} {is : List Nat} {w : W} {ws : List W} : setAll σ (i :: is) (w :: ws) = setAll (setS σ i (some w)) is ws := rfl
@[simp] theorem asgIx_at : asgIx a b c σ h = (c σ h).toS σ fun w h => (a σ h).toS σ fun x h => (b σ h).toS σ fun y h => (putW x y w h).toS σ fun _ h => .nx σ h := rfl
@[simp] theorem augS_at {f : W → W → HS → R W} {i : Nat} : augS f i a σ h = (optR (getS σ i) h).toS σ fun x h => (a σ h).toS σ fun y h => (f x y h).toS σ fun z h => .nx (setS σ i (some z)) h := rfl
@[simp] theorem augIx_at {f : W → W → HS → R W} : augIx f a b c σ h = (a σ h).toS σ fun x h => (b σ h).toS σ fun y h => (ixL x y h).toS σ fun z h => (c σ h).toS σ fun v h => (f z v h).toS σ fun w h => (putW x y w h).toS σ fun _ h => .nx σ h := rfl
@[simp] theorem raiseS_at {x : Str} : raiseS x a σ h = (a σ h).toS σ fun _ h => .exc ⟨x, []⟩ σ h := rfl
theorem forS_at {it : IM} {t : Tg} {s : SM} : forS it t s σ h = (it σ h).toS σ fun d h => forM d t s FUEL 0 σ h := rfl
theorem lcE_at {it : IM} {i : Nat} : lcE it i p a σ h = (it σ h).bind fun d h => lcM d (.one i) [i] p a σ FUEL 0 [] h := rfl
@[simp] theorem matchS_at {cs : List (Pt × SM)} : matchS a cs σ h = (a σ h).toS σ fun w h => matchL w cs σ h := rfl
@[simp] theorem matchL_nil {w : W} : matchL w [] σ h = .nx σ h := rfl
@[simp] theorem matchL_any {w : W} {s : SM} {r : List (Pt × SM)} : matchL w ((.any, s) :: r) σ h = s σ h := rfl
@[simp] theorem matchL_val {w u : W} {s : SM} {r : List (Pt × SM)} : matchL w ((.val u, s) :: r) σ h = (eqW w u h).elim .stuck fun b => if b = true then s σ h else matchL w r σ h := by
  conv => lhs; unfold matchL
  cases eqW w u h with
  | none => rfl
  | some b => cases b <;> rfl
@[simp] theorem LIM_val : LIM = 16777216 := rfl
/-! values -/
@[simp] theorem truR_bl {b : Bool} : truR (.bl b) h = .ok b h := rfl
@[simp] theorem truR_int {i : Int} : truR (.int i) h = .ok (i != 0) h := rfl
@[simp] theorem truR_tup {ws : List W} : truR (.tup ws) h = .ok (!ws.isEmpty) h := rfl
@[simp] theorem truR_non : truR .non h = .ok false h := rfl
@[simp] theorem binW_add : binW .Add = addW := rfl
@[simp] theorem binW_sub : binW .Sub = subW := rfl
@[simp] theorem binW_mul : binW .Mult = mulW := rfl
@[simp] theorem binW_mod : binW .Mod = modW := rfl
@[simp] theorem binW_fd : binW .FloorDiv = fdivW := rfl
@[simp] theorem binW_pow : binW .Pow = powW := rfl
@[simp] theorem addW_i {i j : Int} : addW (.int i) (.int j) h = .ok (.int (i + j)) h := rfl
@[simp] theorem addW_t {xs ys : List W} : addW (.tup xs) (.tup ys) h = guardR (decide (xs.length + ys.length ≤ LIM)) (.ok (.tup (xs ++ ys)) h) := rfl
@[simp] theorem addW_r {x y : Nat} : addW (.ref x) (.ref y) h = addO (h.get x) (h.get y) h := rfl
@[simp] theorem addO_l {xs ys : List W} : addO (.lst xs) (.lst ys) h = guardR (decide (xs.length + ys.length ≤ LIM)) (newL (xs ++ ys) h) := rfl
@[simp] theorem subW_i {i j : Int} : subW (.int i) (.int j) h = .ok (.int (i - j)) h := rfl
@[simp] theorem mulW_i {i j : Int} : mulW (.int i) (.int j) h = guardR (smallB i || smallB j) (.ok (.int (i * j)) h) := rfl
@[simp] theorem modW_i {i j : Int} : modW (.int i) (.int j) h = guardR (decide (0 < j)) (.ok (.int (i % j)) h) := rfl
@[simp] theorem fdivW_i {i j : Int} (h1 : 0 < j) (h2 : j < 1073741824) : fdivW (.int i) (.int j) h = .ok (.int (i / j)) h := by
  show guardR (decide (0 < j) && iLt j 1073741824) _ = _
  rw [decide_eq_true h1, iLt_iff.mpr (by omega)]; rfl
@[simp] theorem powW_i {i j : Int} (h0 : 0 ≤ j) (h1 : j ≤ 1000000) (h2 : i.natAbs < 2 ^ 64) : powW (.int i) (.int j) h = .ok (.int (i ^ j.toNat)) h := by
  show guardR (decide (0 ≤ j) && ((iLt j 1000001 && iLt i (2 ^ 64)) || (iLt j 9 && iLt i (2 ^ 256)))) _ = _
  rw [decide_eq_true h0, iLt_iff.mpr (show j.natAbs < 1000001 by omega), iLt_iff.mpr h2]; rfl
@[simp] theorem powW_j {i j : Int} (h0 : 0 ≤ j) (h1 : j ≤ 8) (h2 : i.natAbs < 2 ^ 256) : powW (.int i) (.int j) h = .ok (.int (i ^ j.toNat)) h := by
  show guardR (decide (0 ≤ j) && ((iLt j 1000001 && iLt i (2 ^ 64)) || (iLt j 9 && iLt i (2 ^ 256)))) _ = _
  rw [decide_eq_true h0, iLt_iff.mpr (show j.natAbs < 9 by omega), iLt_iff.mpr h2, Bool.and_self, Bool.or_true]; rfl
@[simp] theorem negW_i {i : Int} : negW (.int i) h = .ok (.int (-i)) h := rfl
@[simp] theorem augW_add {i j : Int} : augW .Add (.int i) (.int j) h = .ok (.int (i + j)) h := rfl
@[simp] theorem augW_sub {i j : Int} : augW .Sub (.int i) (.int j) h = .ok (.int (i - j)) h := rfl
@[simp] theorem cmpR_at {op : CmpOp} {x y : W} : cmpR D op x y h = optR (cmpW D op x y h) h := rfl
@[simp] theorem cmpW_eq {x y : W} : cmpW D .Eq x y h = eqW x y h := rfl
@[simp] theorem cmpW_ne {x y : W} : cmpW D .NotEq x y h = (eqW x y h).map (!·) := rfl
@[simp] theorem cmpW_lt {i j : Int} : cmpW D .Lt (.int i) (.int j) h = some (decide (i < j)) := rfl
@[simp] theorem cmpW_le {i j : Int} : cmpW D .LtE (.int i) (.int j) h = some (decide (i ≤ j)) := rfl
@[simp] theorem cmpW_gt {i j : Int} : cmpW D .Gt (.int i) (.int j) h = some (decide (j < i)) := rfl
@[simp] theorem cmpW_ge {i j : Int} : cmpW D .GtE (.int i) (.int j) h = some (decide (j ≤ i)) := rfl
@[simp] theorem cmpW_in {x y : W} : cmpW D .In x y h = inW D x y h := rfl
@[simp] theorem cmpW_nin {x y : W} : cmpW D .NotIn x y h = (inW D x y h).map (!·) := rfl
@[simp] theorem cmpW_is {x y : W} : cmpW D .Is x y h = isW x y := rfl
@[simp] theorem cmpW_isn {x y : W} : cmpW D .IsNot x y h = (isW x y).map (!·) := rfl
@[simp] theorem isW_non {x : W} : isW x .non = some (isNon x) := rfl
@[simp] theorem eqW_int {i j : Int} : eqW (.int i) (.int j) h = some (i == j) := rfl
theorem eqW_fl {x y : W} {a b : Fl} (e1 : flW x h = some a) (e2 : flW y h = some b) : eqW x y h = some (eqF a b) := by
  unfold eqW; rw [e1, e2]
@[simp] theorem eqW_str {x y : Str} : eqW (.str x) (.str y) h = if PyData.strOk x = true ∧ PyData.strOk y = true then some (x == y) else none := by
  by_cases h1 : PyData.strOk x = true
  · have e1 : flW (.str x) h = some (.pl (.str x)) := if_pos h1
    by_cases h2 : PyData.strOk y = true
    · have e2 : flW (.str y) h = some (.pl (.str y)) := if_pos h2
      rw [eqW_fl e1 e2, if_pos ⟨h1, h2⟩]; rfl
    · have e2 : flW (.str y) h = none := if_neg h2
      rw [if_neg (fun z => h2 z.2)]
      unfold eqW; rw [e1, e2]
      show (if (PySem.SeqAt.shaped (.str x) && PySem.SeqAt.shaped (.str y)) = true then some (PyData.eqv (.str x) (.str y)) else none) = none
      rw [if_neg]
      intro z
      rw [Bool.and_eq_true] at z
      have := PySem.SeqAt.canLay_of_shaped z.2
      simp [PyData.canLay0] at this
      exact h2 this
  · have e1 : flW (.str x) h = none := if_neg h1
    rw [if_neg (fun z => h1 z.1)]
    unfold eqW; rw [e1]
    show (if (PySem.SeqAt.shaped (.str x) && PySem.SeqAt.shaped (.str y)) = true then some (PyData.eqv (.str x) (.str y)) else none) = none
    rw [if_neg]
    intro z
    rw [Bool.and_eq_true] at z
    have := PySem.SeqAt.canLay_of_shaped z.1
    simp [PyData.canLay0] at this
    exact h1 this
theorem ofs_inj {a b : String} (h : Str.ofString a = Str.ofString b) : a = b := by
  rw [Str.ofString_eq_toList, Str.ofString_eq_toList] at h
  have h1 : (a.toList.map Char.toNat).toArray = (b.toList.map Char.toNat).toArray := congrArg Str.cps h
  have h2 : a.toList.map Char.toNat = b.toList.map Char.toNat := by simpa using h1
  have inj : ∀ {x y : Char}, x.toNat = y.toNat → x = y := fun {x y} e => by
    apply Char.ext
    exact UInt32.toNat_inj.mp e
  exact String.toList_inj.mp (List.map_inj_right (fun x y e => inj e) |>.mp h2)
@[simp] theorem str_beq (a b : String) : (Str.ofString a == Str.ofString b) = (a == b) := by
  rw [Bool.eq_iff_iff, beq_iff_eq, beq_iff_eq]
  exact ⟨ofs_inj, fun e => by rw [e]⟩
@[simp] theorem str_eq (a b : String) : (Str.ofString a = Str.ofString b) = (a = b) := by
  exact propext ⟨ofs_inj, fun e => by rw [e]⟩
@[simp] theorem ixW_t {ws : List W} {i : Int} : ixW D (.tup ws) (.int i) h = optR (atI ws i) h := rfl
@[simp] theorem ixW_r {n : Nat} {i : Int} : ixW D (.ref n) (.int i) h = ixO (h.get n) i h := rfl
@[simp] theorem ixO_l {ws : List W} {i : Int} : ixO (.lst ws) i h = optR (atI ws i) h := rfl
@[simp] theorem ixO_f {ws : List W} {i : Int} : ixO (.frz ws) i h = optR (atI ws i) h := rfl
@[simp] theorem ixL_r {n : Nat} {i : Int} : ixL (.ref n) (.int i) h = ixLO (h.get n) i h := rfl
@[simp] theorem ixLO_l {ws : List W} {i : Int} : ixLO (.lst ws) i h = optR (atI ws i) h := rfl
@[simp] theorem slW_t {ws : List W} {lo hi : Option Int} : slW (.tup ws) lo hi h = .ok (.tup (cutW ws lo hi)) h := rfl
@[simp] theorem slW_r {n : Nat} {lo hi : Option Int} : slW (.ref n) lo hi h = slO (h.get n) lo hi h := rfl
@[simp] theorem slO_l {ws : List W} {lo hi : Option Int} : slO (.lst ws) lo hi h = newL (cutW ws lo hi) h := rfl
@[simp] theorem slO_f {ws : List W} {lo hi : Option Int} : slO (.frz ws) lo hi h = newL (cutW ws lo hi) h := rfl
@[simp] theorem newL_at {ws : List W} : newL ws h = .ok (.ref h.sz) (h.push (.lst ws)) := rfl
@[simp] theorem putW_r {n : Nat} {i : Int} {w : W} : putW (.ref n) (.int i) w h = putO (h.get n) n i w h := rfl
@[simp] theorem putO_l {ws : List W} {n : Nat} {i : Int} {w : W} : putO (.lst ws) n i w h = (ixN ws.length i).elim .stuck fun j => .ok () (h.set n (.lst (ws.set j w))) := by
  show (match ixN ws.length i with | some j => _ | none => _) = _
  cases ixN ws.length i <;> rfl
@[simp] theorem bi_len {x : W} : biW .len [x] h = lenW x h := rfl
@[simp] theorem bi_abs {x : W} : biW .abs [x] h = absW x h := rfl
@[simp] theorem bi_int {x : W} : biW .int [x] h = intW x h := rfl
@[simp] theorem bi_list {x : W} : biW .list [x] h = listW x h := rfl
@[simp] theorem bi_tuple {x : W} : biW .tuple [x] h = tupW x h := rfl
@[simp] theorem bi_isi {x y : W} : biW .isinstance [x, y] h = isiW x y h := rfl
@[simp] theorem bi_max {i j : Int} : biW .max [.int i, .int j] h = .ok (.int (if i < j then j else i)) h := rfl
@[simp] theorem bi_min {i j : Int} : biW .min [.int i, .int j] h = .ok (.int (if j < i then j else i)) h := rfl
@[simp] theorem lenW_t {ws : List W} : lenW (.tup ws) h = .ok (.int ws.length) h := rfl
@[simp] theorem lenW_r {n : Nat} : lenW (.ref n) h = lenO (h.get n) h := rfl
@[simp] theorem lenO_l {ws : List W} : lenO (.lst ws) h = .ok (.int ws.length) h := rfl
@[simp] theorem lenO_f {ws : List W} : lenO (.frz ws) h = .ok (.int ws.length) h := rfl
@[simp] theorem absW_i {i : Int} : absW (.int i) h = .ok (.int (if i < 0 then -i else i)) h := rfl
@[simp] theorem intW_i {i : Int} : intW (.int i) h = .ok (.int i) h := rfl
@[simp] theorem intW_b {b : Bool} : intW (.bl b) h = .ok (.int (if b then 1 else 0)) h := rfl
@[simp] theorem listW_t {ws : List W} : listW (.tup ws) h = newL ws h := rfl
@[simp] theorem listW_r {n : Nat} : listW (.ref n) h = listO (h.get n) h := rfl
@[simp] theorem listO_l {ws : List W} : listO (.lst ws) h = newL ws h := rfl
@[simp] theorem listO_f {ws : List W} : listO (.frz ws) h = newL ws h := rfl
@[simp] theorem tupW_t {ws : List W} : tupW (.tup ws) h = .ok (.tup ws) h := rfl
@[simp] theorem tupW_r {n : Nat} : tupW (.ref n) h = tupO (h.get n) h := rfl
@[simp] theorem tupO_l {ws : List W} : tupO (.lst ws) h = .ok (.tup ws) h := rfl
@[simp] theorem tupO_f {ws : List W} : tupO (.frz ws) h = .ok (.tup ws) h := rfl
@[simp] theorem isi_int_int {i : Int} : isiW (.int i) (.ty "int") h = .ok (.bl true) h := rfl
@[simp] theorem isi_int_bool {i : Int} : isiW (.int i) (.ty "bool") h = .ok (.bl false) h := rfl
@[simp] theorem isi_int_str {i : Int} : isiW (.int i) (.ty "str") h = .ok (.bl false) h := rfl
@[simp] theorem isi_int_tuple {i : Int} : isiW (.int i) (.ty "tuple") h = .ok (.bl false) h := rfl
@[simp] theorem isi_int_list {i : Int} : isiW (.int i) (.ty "list") h = .ok (.bl false) h := rfl
@[simp] theorem isi_tup_tuple {ws : List W} : isiW (.tup ws) (.ty "tuple") h = .ok (.bl true) h := rfl
@[simp] theorem isi_tup_list {ws : List W} : isiW (.tup ws) (.ty "list") h = .ok (.bl false) h := rfl
@[simp] theorem isi_tup_int {ws : List W} : isiW (.tup ws) (.ty "int") h = .ok (.bl false) h := rfl
@[simp] theorem isi_tup_str {ws : List W} : isiW (.tup ws) (.ty "str") h = .ok (.bl false) h := rfl
@[simp] theorem isi_str_str {x : Str} : isiW (.str x) (.ty "str") h = .ok (.bl true) h := rfl
@[simp] theorem isi_str_int {x : Str} : isiW (.str x) (.ty "int") h = .ok (.bl false) h := rfl
@[simp] theorem isi_str_tuple {x : Str} : isiW (.str x) (.ty "tuple") h = .ok (.bl false) h := rfl
@[simp] theorem isi_bl_int {x : Bool} : isiW (.bl x) (.ty "int") h = .ok (.bl true) h := rfl
@[simp] theorem isi_bl_bool {x : Bool} : isiW (.bl x) (.ty "bool") h = .ok (.bl true) h := rfl
@[simp] theorem isi_tup_tl {ws : List W} : isiW (.tup ws) (.tup [.ty "tuple", .ty "list"]) h = .ok (.bl true) h := rfl
@[simp] theorem isi_tup_lt {ws : List W} : isiW (.tup ws) (.tup [.ty "list", .ty "tuple"]) h = .ok (.bl true) h := rfl
@[simp] theorem seqW_t {ws : List W} : seqW (.tup ws) h = some ws := rfl
@[simp] theorem seqW_r {n : Nat} : seqW (.ref n) h = flO (h.get n) := rfl
@[simp] theorem flO_l {ws : List W} : flO (.lst ws) = some ws := rfl
@[simp] theorem flO_f {ws : List W} : flO (.frz ws) = some ws := rfl
@[simp] theorem get_push {o : O} {n : Nat} : (h.push o).get n = if n = h.sz then o else h.get n := rfl
@[simp] theorem sz_push {o : O} : (h.push o).sz = h.sz + 1 := rfl
@[simp] theorem get_set {o : O} {a n : Nat} : (h.set a o).get n = if n = a then o else h.get n := rfl
@[simp] theorem sz_set {o : O} {a : Nat} : (h.set a o).sz = h.sz := rfl
end
theorem atI_pos {α : Type} {ws : List α} {i : Int} (h0 : 0 ≤ i) : atI ws i = ws[i.toNat]? := by
  unfold atI ixN
  rw [if_pos h0]
  by_cases h1 : i < ws.length
  · rw [if_pos h1]; rfl
  · rw [if_neg h1, List.getElem?_eq_none (by omega)]; rfl
@[simp] theorem atI_0 {α : Type} {ws : List α} : atI ws 0 = ws[0]? := atI_pos (by omega)
@[simp] theorem atI_1 {α : Type} {ws : List α} : atI ws 1 = ws[1]? := atI_pos (by omega)
@[simp] theorem atI_2 {α : Type} {ws : List α} : atI ws 2 = ws[2]? := atI_pos (by omega)
@[simp] theorem atI_3 {α : Type} {ws : List α} : atI ws 3 = ws[3]? := atI_pos (by omega)
@[simp] theorem atI_4 {α : Type} {ws : List α} : atI ws 4 = ws[4]? := atI_pos (by omega)
@[simp] theorem atI_n {α : Type} {ws : List α} {n : Nat} : atI ws (n : Int) = ws[n]? := by rw [atI_pos (by omega)]; rfl
@[simp] theorem ixN_0 {n : Nat} : ixN (n + 1) 0 = some 0 := by unfold ixN; rw [if_pos (by omega), if_pos (by omega)]; rfl
theorem ixN_pos {n : Nat} {i : Int} (h0 : 0 ≤ i) (h1 : i < n) : ixN n i = some i.toNat := by unfold ixN; rw [if_pos h0, if_pos h1]
@[simp] theorem intsW_nil : intsW [] = [] := rfl
@[simp] theorem intsW_cons {i : Int} {r : List Int} : intsW (i :: r) = .int i :: intsW r := rfl
@[simp] theorem intsW_len {xs : List Int} : (intsW xs).length = xs.length := by simp [intsW]
@[simp] theorem intsW_get {xs : List Int} {n : Nat} : (intsW xs)[n]? = (xs[n]?).map .int := by simp [intsW]
@[simp] theorem intsW_app {xs ys : List Int} : intsW xs ++ intsW ys = intsW (xs ++ ys) := by simp [intsW]
@[simp] theorem intsW_drop {xs : List Int} {n : Nat} : (intsW xs).drop n = intsW (xs.drop n) := by simp [intsW]
@[simp] theorem intsW_take {xs : List Int} {n : Nat} : (intsW xs).take n = intsW (xs.take n) := by simp [intsW]
@[simp] theorem intsW_dl {xs : List Int} : (intsW xs).dropLast = intsW xs.dropLast := by
  unfold intsW
  rw [List.dropLast_eq_take, List.dropLast_eq_take, List.length_map, List.map_take]
@[simp] theorem intsW_emp {xs : List Int} : (intsW xs).isEmpty = xs.isEmpty := by cases xs <;> rfl
@[simp] theorem intsW_eqs : ∀ {xs ys : List Int}, eqPs (intsW xs) (intsW ys) = (xs == ys)
  | [], [] => rfl
  | [], _ :: _ => rfl
  | _ :: _, [] => rfl
  | x :: xs, y :: ys => by
    show (eqP (.int x) (.int y) && eqPs (intsW xs) (intsW ys)) = _
    rw [intsW_eqs]
    rfl
@[simp] theorem intsW_okPs : ∀ {n : Nat} {xs : List Int}, okPs n (intsW xs) = true
  | n, [] => by unfold intsW okPs; rfl
  | n, x :: xs => by
    show okPs n (.int x :: intsW xs) = true
    unfold okPs
    rw [intsW_okPs (n := n) (xs := xs)]
    cases n <;> rfl
@[simp] theorem intsW_flat {xs : List Int} : (intsW xs).all flatB = true := by
  induction xs with
  | nil => rfl
  | cons x xs ih => simp [flatB, ih]
@[simp] theorem flat_int {i : Int} : flatB (.int i) = true := rfl
@[simp] theorem flat_str {i : Str} : flatB (.str i) = true := rfl
@[simp] theorem inP_ints {x : Int} {xs : List Int} : inP (.int x) (intsW xs) = decide (x ∈ xs) := by
  induction xs with
  | nil => simp [inP]
  | cons y ys ih =>
    unfold inP at ih ⊢
    rw [intsW_cons, List.any_cons, ih]
    by_cases h : x = y
    · simp [h, eqP]
    · have : (y == x) = false := by simpa using fun e => h e.symm
      simp [h, eqP, this]
@[simp] theorem inW_t {D : Dcts} {x : W} {ws : List W} {h : HS} : inW D x (.tup ws) h = if (flatB x && ws.all flatB) = true then some (inP x ws) else none := rfl
@[simp] theorem inW_r {D : Dcts} {x : W} {n : Nat} {h : HS} : inW D x (.ref n) h = inO x (h.get n) := rfl
@[simp] theorem inO_l {x : W} {ws : List W} : inO x (.lst ws) = if (flatB x && ws.all flatB) = true then some (inP x ws) else none := rfl
@[simp] theorem inP_nil {x : W} : inP x [] = false := rfl
@[simp] theorem inP_cons {x y : W} {ws : List W} : inP x (y :: ws) = (eqP y x || inP x ws) := rfl
@[simp] theorem eqP_str {x y : Str} : eqP (.str x) (.str y) = (x == y) := rfl
@[simp] theorem eqP_int {x y : Int} : eqP (.int x) (.int y) = (x == y) := rfl
@[simp] theorem key_beqS (z x : Str) : ((Sum.inr z : Key) == Sum.inr x) = (z == x) := rfl
@[simp] theorem ixW_g {D : Dcts} {n s : Str} {h : HS} : ixW D (.gl n) (.str s) h = optR ((D.lookup n).bind fun kvs => kvs.lookup (.inr s)) h := rfl
@[simp] theorem inW_g {D : Dcts} {n s : Str} {h : HS} : inW D (.str s) (.gl n) h = (D.lookup n).bind fun kvs => some ((kvs.map (·.1)).contains (.inr s)) := rfl
/-- two lists of ints compared -/
theorem flW_list {a : Nat} {ws : List W} {h : HS} (e : h.get a = .lst ws) (o : okPs 16 ws = true) : flW (.ref a) h = some (.li ws) := by
  show (flO (h.get a)).bind _ = _
  rw [e]
  show (if okPs 16 ws = true then some (Fl.li ws) else none) = _
  rw [if_pos o]
theorem eqW_lists {a b : Nat} {xs ys : List Int} {h : HS} (ha : h.get a = .lst (intsW xs)) (hb : h.get b = .lst (intsW ys)) : eqW (.ref a) (.ref b) h = some (xs == ys) := by
  rw [eqW_fl (flW_list ha intsW_okPs) (flW_list hb intsW_okPs)]
  show some (eqPs (intsW xs) (intsW ys)) = _
  rw [intsW_eqs]
@[simp] theorem mtRec_it {ws : List W} {h : HS} : mtRec .index (.tup ws) h = true := rfl
@[simp] theorem mtRec_r {m : Mt} {a : Nat} {h : HS} : mtRec m (.ref a) h = (isLst (h.get a) && !strM m) := rfl
@[simp] theorem strM_1 : strM .append = false := rfl
@[simp] theorem strM_2 : strM .pop = false := rfl
@[simp] theorem strM_3 : strM .extend = false := rfl
@[simp] theorem strM_4 : strM .remove = false := rfl
@[simp] theorem strM_5 : strM .index = false := rfl
@[simp] theorem strM_6 : strM .reverse = false := rfl
@[simp] theorem strM_7 : strM .insert = false := rfl
@[simp] theorem strM_8 : strM .startswith = true := rfl
@[simp] theorem mtRec_s {m : Mt} {x : Str} {h : HS} : mtRec m (.str x) h = strM m := rfl
@[simp] theorem mtW_sw {x y : Str} {h : HS} : mtW .startswith (.str x) [.str y] h = .ok (.bl (PySem.Txt.startswith x y)) h := rfl
@[simp] theorem mtW_ins {a : Nat} {i : Int} {w : W} {h : HS} : mtW .insert (.ref a) [.int i, w] h = insO (h.get a) a i w h := rfl
@[simp] theorem insO_l {ws : List W} {a : Nat} {i : Int} {w : W} {h : HS} (h1 : ws.length < 16777216) (h2 : 0 ≤ i) (h3 : i < 1000000) : insO (.lst ws) a i w h = .ok .non (h.set a (.lst (ws.take i.toNat ++ [w] ++ ws.drop i.toNat))) := by
  show guardR (decide (ws.length < LIM) && (decide (0 ≤ i) && iLt i (2 ^ 62))) _ = _
  rw [decide_eq_true (show ws.length < LIM from h1), decide_eq_true h2, iLt_iff.mpr (by omega)]; rfl
@[simp] theorem fmtBW_i {i : Int} {h : HS} (h0 : 0 ≤ i) (h1 : (fbody i.natAbs).length ≤ 16777216) : fmtBW (.int i) h = .ok (.str (fbody i.natAbs)) h := by
  show guardR (decide (0 ≤ i) && decide ((fbody i.natAbs).length ≤ LIM)) _ = _
  rw [decide_eq_true h0, decide_eq_true (show (fbody i.natAbs).length ≤ LIM from h1)]; rfl
@[simp] theorem bi_sorted {x : W} {h : HS} : biW .sorted [x] h = srtW x h := rfl
@[simp] theorem srtW_r {a : Nat} {h : HS} : srtW (.ref a) h = srtO (h.get a) h := rfl
@[simp] theorem bi_str {x : W} {h : HS} : biW .str [x] h = strW x h := rfl
@[simp] theorem strW_i {i : Int} {h : HS} (h1 : i.natAbs.log2 < 1920) : strW (.int i) h = .ok (.str (toString i : String)) h := by
  show guardR (Nat.blt i.natAbs.log2 1920) _ = _
  rw [Nat.blt_eq.mpr h1]; rfl
@[simp] theorem strW_s {x : Str} {h : HS} : strW (.str x) h = .ok (.str x) h := rfl
@[simp] theorem binW_shr : binW .RShift = shrW := rfl
@[simp] theorem shrW_i {i j : Int} {h : HS} (h1 : 0 ≤ j) : shrW (.int i) (.int j) h = .ok (.int (i / 2 ^ j.toNat)) h := by
  show guardR (decide (0 ≤ j)) _ = _
  rw [decide_eq_true h1]; rfl
@[simp] theorem cmpW_lts {D : Dcts} {x y : Str} {h : HS} : cmpW D .Lt (.str x) (.str y) h = some (decide (x.cps.toList < y.cps.toList)) := rfl
@[simp] theorem ixW_s {D : Dcts} {x : Str} {i : Int} {h : HS} : ixW D (.str x) (.int i) h = guardR (decide (x.length ≤ LIM)) (optR ((atI x.cps.toList i).map fun c => W.str ⟨#[c]⟩) h) := rfl
@[simp] theorem slW_s {x : Str} {lo hi : Option Int} {h : HS} : slW (.str x) lo hi h = guardR (decide (x.length ≤ LIM)) (.ok (.str (cutS x lo hi)) h) := rfl
@[simp] theorem addW_s {x y : Str} {h : HS} : addW (.str x) (.str y) h = guardR (decide (x.length + y.length ≤ LIM)) (.ok (.str (x ++ y)) h) := rfl
@[simp] theorem lenW_s {x : Str} {h : HS} : lenW (.str x) h = guardR (decide (x.length ≤ LIM)) (.ok (.int x.length) h) := rfl
@[simp] theorem mtW_it {ws : List W} {y : W} {h : HS} : mtW .index (.tup ws) [y] h = idxL ws y h := rfl
@[simp] theorem mtW_ir {a : Nat} {y : W} {h : HS} : mtW .index (.ref a) [y] h = idxO (h.get a) y h := rfl
@[simp] theorem idxO_l {ws : List W} {y : W} {h : HS} : idxO (.lst ws) y h = idxL ws y h := rfl
@[simp] theorem mtW_app {a : Nat} {y : W} {h : HS} : mtW .append (.ref a) [y] h = appO (h.get a) a y h := rfl
@[simp] theorem appO_l {ws : List W} {a : Nat} {y : W} {h : HS} : appO (.lst ws) a y h = guardR (decide (ws.length < LIM)) (.ok .non (h.set a (.lst (ws ++ [y])))) := rfl
@[simp] theorem mtW_pop0 {a : Nat} {i : Int} {h : HS} : mtW .pop (.ref a) [.int i] h = popAtO (h.get a) a i h := rfl
@[simp] theorem mtW_rem {a : Nat} {i : Int} {h : HS} : mtW .remove (.ref a) [.int i] h = remO (h.get a) a i h := rfl
theorem findI_ints (d : Int) : ∀ (xs : List Int) (n : Nat), d ∈ xs → findI (fun x => eqP x (.int d)) (intsW xs) n = some (n + xs.idxOf d)
  | [], n, h => by simp at h
  | x :: xs, n, h => by
    unfold intsW
    rw [List.map_cons]
    unfold findI
    by_cases c : x = d
    · subst c
      simp
    · have c1 : (x == d) = false := by simpa using c
      have h2 : d ∈ xs := by
        rcases List.mem_cons.mp h with e | e
        · exact absurd e.symm c
        · exact e
      have ih := findI_ints d xs (n + 1) h2
      unfold intsW at ih
      simp only [eqP_int, c1, Bool.false_eq_true, if_false, ih, List.idxOf_cons, cond_false]
      congr 1
      omega
theorem idxL_ints {d : Int} {xs : List Int} {h : HS} (hm : d ∈ xs) : idxL (intsW xs) (.int d) h = .ok (.int (xs.idxOf d)) h := by
  unfold idxL
  rw [findI_ints d xs 0 hm, intsW_flat, Nat.zero_add]
  rfl
theorem intsOf_ints : ∀ xs : List Int, intsOf (intsW xs) = some xs
  | [] => rfl
  | x :: xs => by
    unfold intsW intsOf
    rw [List.map_cons]
    have ih := intsOf_ints xs
    unfold intsW at ih
    show (intsOf (xs.map W.int)).map (x :: ·) = _
    rw [ih]
    rfl
theorem remO_ints {d : Int} {xs : List Int} {a : Nat} {h : HS} (hm : d ∈ xs) : remO (.lst (intsW xs)) a d h = .ok .non (h.set a (.lst (intsW (xs.erase d)))) := by
  show (match intsOf (intsW xs) with | some ns => _ | none => _) = _
  rw [intsOf_ints]
  dsimp only
  rw [if_pos (by simpa using hm)]
  rfl
theorem erase_cut {d : Int} {xs : List Int} : xs.take (xs.idxOf d) ++ xs.drop (xs.idxOf d + 1) = xs.erase d := by
  rw [List.erase_eq_eraseIdx_of_idxOf rfl, List.eraseIdx_eq_take_drop_succ]
@[simp] theorem popAtO_0 {w : W} {ws : List W} {a : Nat} {h : HS} : popAtO (.lst (w :: ws)) a 0 h = .ok w (h.set a (.lst ws)) := by
  show (match ixN (ws.length + 1) 0 with | some j => _ | none => _) = _
  rw [ixN_0]
  rfl
@[simp] theorem ixN_30 : ixN 3 0 = some 0 := by decide
@[simp] theorem ixN_31 : ixN 3 1 = some 1 := by decide
@[simp] theorem ixN_32 : ixN 3 2 = some 2 := by decide
@[simp] theorem mtW_extT {a : Nat} {ys : List W} {h : HS} : mtW .extend (.ref a) [.tup ys] h = extT (h.get a) a ys h := rfl
@[simp] theorem mtW_extR {a b : Nat} {h : HS} : mtW .extend (.ref a) [.ref b] h = extO (h.get a) (h.get b) a h := rfl
@[simp] theorem extT_l {ws ys : List W} {a : Nat} {h : HS} : extT (.lst ws) a ys h = guardR (decide (ws.length + ys.length ≤ LIM)) (.ok .non (h.set a (.lst (ws ++ ys)))) := rfl
@[simp] theorem extO_l {ws ys : List W} {a : Nat} {h : HS} : extO (.lst ws) (.lst ys) a h = guardR (decide (ws.length + ys.length ≤ LIM)) (.ok .non (h.set a (.lst (ws ++ ys)))) := rfl
theorem popAtO_i {ws : List W} {a : Nat} {i : Int} {w : W} {h : HS} (h0 : 0 ≤ i) (e : ws[i.toNat]? = some w) : popAtO (.lst ws) a i h = .ok w (h.set a (.lst (ws.eraseIdx i.toNat))) := by
  have hl := (List.getElem?_eq_some_iff.mp e).1
  show (match ixN ws.length i with | some j => _ | none => _) = _
  rw [ixN_pos h0 (by omega)]
  dsimp only
  rw [e]
@[simp] theorem intsW_era {xs : List Int} {n : Nat} : (intsW xs).eraseIdx n = intsW (xs.eraseIdx n) := by
  unfold intsW
  rw [List.eraseIdx_eq_take_drop_succ, List.eraseIdx_eq_take_drop_succ, List.map_append, List.map_take, List.map_drop]
@[simp] theorem intsW_set {xs : List Int} {n : Nat} {v : Int} : (intsW xs).set n (.int v) = intsW (xs.set n v) := by simp [intsW, List.map_set]
/-! slices -/
theorem sIx_pos {n d : Nat} {i : Int} (h : 0 ≤ i) : HT.sIx n d (some i) = min i.toNat n := by
  show (if i < 0 then (i + (n : Int)).toNat else min i.toNat n) = _
  rw [if_neg (by omega)]
theorem cut_from {ws : List W} {i : Int} (h : 0 ≤ i) : cutW ws (some i) none = ws.drop i.toNat := by
  unfold cutW
  rw [sIx_pos h, HT.sIx_none]
  by_cases c : i.toNat ≤ ws.length
  · rw [Nat.min_eq_left c, List.take_of_length_le (by simp)]
  · rw [Nat.min_eq_right (by omega), List.drop_eq_nil_of_le (i := i.toNat) (by omega)]
    simp
theorem cut_to {ws : List W} {i : Int} (h : 0 ≤ i) : cutW ws none (some i) = ws.take i.toNat := by
  unfold cutW
  rw [sIx_pos h, HT.sIx_none, Nat.sub_zero, List.drop_zero]
  by_cases c : i.toNat ≤ ws.length
  · rw [Nat.min_eq_left c]
  · rw [Nat.min_eq_right (by omega), List.take_of_length_le (Nat.le_refl _), List.take_of_length_le (by omega)]
@[simp] theorem cut_toN {ws : List W} {n : Nat} : cutW ws none (some (n : Int)) = ws.take n := by rw [cut_to (by omega)]; rfl
@[simp] theorem cut_fromN {ws : List W} {n : Nat} : cutW ws (some (n : Int)) none = ws.drop n := by rw [cut_from (by omega)]; rfl
@[simp] theorem cut_fromN1 {ws : List W} {n : Nat} : cutW ws (some ((n : Int) + 1)) none = ws.drop (n + 1) := by rw [cut_from (by omega)]; rfl
@[simp] theorem cut_dl {ws : List W} : cutW ws none (some (-1)) = ws.dropLast := by
  unfold cutW
  rw [HT.sIx_none]
  have e : HT.sIx ws.length ws.length (some (-1)) = ((-1 : Int) + (ws.length : Int)).toNat := by
    show (if (-1 : Int) < 0 then ((-1 : Int) + (ws.length : Int)).toNat else min (-1 : Int).toNat ws.length) = _
    rw [if_pos (by omega)]
  rw [e, List.drop_zero, List.dropLast_eq_take, Nat.sub_zero]
  congr 1
  omega
@[simp] theorem cut_1 {ws : List W} : cutW ws (some 1) none = ws.drop 1 := cut_from (by omega)
theorem cut_last {ws : List W} {w : Int} (h0 : 0 < w) (h1 : w ≤ ws.length) : cutW ws (some (-w)) none = ws.drop (ws.length - w.toNat) := by
  unfold cutW
  have e : HT.sIx ws.length 0 (some (-w)) = (-w + (ws.length : Int)).toNat := by
    show (if (-w : Int) < 0 then (-w + (ws.length : Int)).toNat else min (-w : Int).toNat ws.length) = _
    rw [if_pos (by omega)]
  rw [e, HT.sIx_none, show (-w + (ws.length : Int)).toNat = ws.length - w.toNat by omega, List.take_of_length_le (by simp)]
theorem cut_ints (xs : List Int) (lo hi : Option Int) : ∃ ys, cutW (intsW xs) lo hi = intsW ys ∧ ys.length ≤ xs.length := by
  unfold cutW
  rw [intsW_drop, intsW_take]
  exact ⟨_, rfl, by simp; omega⟩
/-! ### frames of the heap -/
/-- nothing old is changed -/
def Old (h h' : HS) : Prop := h.sz ≤ h'.sz ∧ ∀ n, n < h.sz → h'.get n = h.get n
theorem Old.refl {h : HS} : Old h h := ⟨Nat.le_refl _, fun _ _ => rfl⟩
theorem Old.trans {h h1 h2 : HS} (a : Old h h1) (b : Old h1 h2) : Old h h2 := ⟨Nat.le_trans a.1 b.1, fun n hn => (b.2 n (Nat.lt_of_lt_of_le hn a.1)).trans (a.2 n hn)⟩
theorem Old.push {h : HS} {o : O} : Old h (h.push o) := ⟨Nat.le_succ _, fun n hn => by rw [get_push, if_neg (by omega)]⟩
theorem Old.lt {h h' : HS} (a : Old h h') {n : Nat} (e : n < h.sz) : n < h'.sz := Nat.lt_of_lt_of_le e a.1
@[simp] theorem look_k {z x : Str} {w : W} {r : List (Key × W)} : List.lookup (Sum.inr z : Key) ((.inr x, w) :: r) = if z = x then some w else List.lookup (Sum.inr z : Key) r := by
  rw [List.lookup_cons, key_beqS]
  by_cases c : z = x
  · simp [c]
  · have : (z == x) = false := by simpa using c
    simp [c, this]
theorem Old.p {h h' : HS} {o : O} (a : Old h h') : Old h (h'.push o) := a.trans Old.push
theorem Old.s {h h' : HS} {o : O} {n : Nat} (a : Old h h') (hn : h.sz ≤ n) : Old h (h'.set n o) := ⟨a.1, fun m hm => by rw [get_set, if_neg (by omega)]; exact a.2 m hm⟩
/-! ### loops -/
def itW (x : W) (h : HS) : R Itd := match x with
  | .tup ws => .ok (.vals ws) h
  | .ref a => guardR (isLst (h.get a)) (.ok (.live a) h)
  | .str x => .ok (.vals (chrs x)) h
  | _ => .stuck
def rngW3 (ws : List W) (h : HS) : R Itd := match ws with
  | [.int i, .int j, .int c] => guardR (decide (c = -1) && (iLt i 1000000 && iLt j 1000000)) (.ok (.vals (rng3 i (-1) (i - j).toNat)) h)
  | _ => .stuck
def rngW (ws : List W) (h : HS) : R Itd := match ws with
  | [.int j] => guardR (iLt j (2 ^ 62)) (.ok (.vals (rng 0 j.toNat)) h)
  | _ => .stuck
def rngW2 (ws : List W) (h : HS) : R Itd := match ws with
  | [.int i, .int j] => guardR (iLt i (2 ^ 62) && iLt j (2 ^ 62)) (.ok (.vals (rng i (j - i).toNat)) h)
  | _ => .stuck
def enuW (ws : List W) (h : HS) : R Itd := match ws with
  | [.ref b] => guardR (isLst (h.get b)) (.ok (.enum b) h)
  | _ => .stuck
section
variable {σ : Fr} {h : HS} {t : Tg} {body : SM}
@[simp] theorem anyI_at {m : EM} : anyI m σ h = (m σ h).bind fun x h => itW x h := rfl
@[simp] theorem rangeI_at {m : AM} : rangeI m σ h = (m σ h).bind fun x h => rngW x h := rfl
@[simp] theorem rangeI2_at {m : AM} : rangeI2 m σ h = (m σ h).bind fun x h => rngW2 x h := rfl
@[simp] theorem rangeI3_at {m : AM} : rangeI3 m σ h = (m σ h).bind fun x h => rngW3 x h := rfl
@[simp] theorem itW_s {x : Str} : itW (.str x) h = .ok (.vals (chrs x)) h := rfl
@[simp] theorem rngW3_i {i j : Int} (h1 : -999999 ≤ i) (h2 : i < 1000000) (h3 : -999999 ≤ j) (h4 : j < 1000000) : rngW3 [.int i, .int j, .int (-1)] h = .ok (.vals (rng3 i (-1) (i - j).toNat)) h := by
  show guardR (decide ((-1 : Int) = -1) && (iLt i 1000000 && iLt j 1000000)) _ = _
  rw [iLt_iff.mpr (by omega), iLt_iff.mpr (by omega)]; rfl
@[simp] theorem enumI_at {m : AM} : enumI m σ h = (m σ h).bind fun x h => enuW x h := rfl
@[simp] theorem itW_t {ws : List W} : itW (.tup ws) h = .ok (.vals ws) h := rfl
@[simp] theorem itW_r {a : Nat} : itW (.ref a) h = guardR (isLst (h.get a)) (.ok (.live a) h) := rfl
@[simp] theorem isLst_l {ws : List W} : isLst (.lst ws) = true := rfl
@[simp] theorem rngW_i {j : Int} (h1 : -1000000 ≤ j) (h2 : j < 1000000) : rngW [.int j] h = .ok (.vals (rng 0 j.toNat)) h := by
  show guardR (iLt j (2 ^ 62)) _ = _
  rw [iLt_iff.mpr (by omega)]; rfl
@[simp] theorem rngW2_i {i j : Int} (h1 : -1000000 ≤ i) (h2 : i < 1000000) (h3 : -1000000 ≤ j) (h4 : j < 1000000) : rngW2 [.int i, .int j] h = .ok (.vals (rng i (j - i).toNat)) h := by
  show guardR (iLt i (2 ^ 62) && iLt j (2 ^ 62)) _ = _
  rw [iLt_iff.mpr (by omega), iLt_iff.mpr (by omega)]; rfl
/-- a turn's end, what follows -/
def loopR (r : RS) (k : SM) : RS := match r with
  | .nx σ h => k σ h
  | .ct σ h => k σ h
  | .bk σ h => .nx σ h
  | r => r
@[simp] theorem loopR_nx {k : SM} : loopR (.nx σ h) k = k σ h := rfl
@[simp] theorem loopR_ct {k : SM} : loopR (.ct σ h) k = k σ h := rfl
@[simp] theorem loopR_bk {k : SM} : loopR (.bk σ h) k = .nx σ h := rfl
@[simp] theorem loopR_rt {k : SM} {w : W} : loopR (.rt w h) k = .rt w h := rfl
@[simp] theorem loopR_exc {k : SM} {x : Exn} : loopR (.exc x σ h) k = .exc x σ h := rfl
/-- a loop over values, by the list -/
def forL (t : Tg) (body : SM) : List W → SM
  | [] => fun σ h => .nx σ h
  | w :: ws => fun σ h => (t.put w σ).elim .stuck fun σ1 => loopR (body σ1 h) (forL t body ws)
@[simp] theorem forL_nil : forL t body [] σ h = .nx σ h := rfl
@[simp] theorem forL_cons {w : W} {ws : List W} : forL t body (w :: ws) σ h = (t.put w σ).elim .stuck fun σ1 => loopR (body σ1 h) (forL t body ws) := rfl
theorem forM_forL {ws : List W} : ∀ (n i : Nat) (σ : Fr) (h : HS), ws.length < n + i → i ≤ ws.length → forM (.vals ws) t body n i σ h = forL t body (ws.drop i) σ h
  | 0, i, σ, h, hn, hi => by omega
  | n + 1, i, σ, h, hn, hi => by
    unfold forM
    by_cases e : i = ws.length
    · have q : (Itd.vals ws).nth h i = some none := by show some ws[i]? = _; rw [List.getElem?_eq_none (by omega)]
      rw [q, List.drop_eq_nil_of_le (by omega)]
      rfl
    · have hlt : i < ws.length := by omega
      have q : (Itd.vals ws).nth h i = some (some ws[i]) := by show some ws[i]? = _; rw [List.getElem?_eq_getElem hlt]
      rw [q, List.drop_eq_getElem_cons hlt, forL_cons]
      dsimp only
      cases t.put ws[i] σ with
      | none => rfl
      | some σ1 =>
        dsimp only [Option.elim]
        cases body σ1 h with
        | nx σ2 h2 => exact forM_forL n (i + 1) σ2 h2 (by omega) (by omega)
        | ct σ2 h2 => exact forM_forL n (i + 1) σ2 h2 (by omega) (by omega)
        | bk σ2 h2 => rfl
        | rt w h2 => rfl
        | exc x σ2 h2 => rfl
        | stuck => rfl
@[simp] theorem forM_vals {ws : List W} (e : ws.length ≤ 100000) : forM (.vals ws) t body FUEL 0 σ h = forL t body ws σ h := by
  rw [forM_forL FUEL 0 σ h (by unfold FUEL; omega) (by omega), List.drop_zero]
/-- every turn ends well -/
theorem forL_ok (Iv : List W → Fr → HS → Prop) (hs : ∀ w r σ h, Iv (w :: r) σ h → ∃ σ1, t.put w σ = some σ1 ∧ ∃ σ2 h2, (body σ1 h = .nx σ2 h2 ∨ body σ1 h = .ct σ2 h2) ∧ Iv r σ2 h2) :
    ∀ (ws : List W) (σ : Fr) (h : HS), Iv ws σ h → ∃ σ' h', forL t body ws σ h = .nx σ' h' ∧ Iv [] σ' h'
  | [], σ, h, I => ⟨σ, h, rfl, I⟩
  | w :: r, σ, h, I => by
    obtain ⟨σ1, e1, σ2, h2, e2, I2⟩ := hs w r σ h I
    obtain ⟨σ3, h3, e3, I3⟩ := forL_ok Iv hs r σ2 h2 I2
    refine ⟨σ3, h3, ?_, I3⟩
    rw [forL_cons, e1]
    dsimp only [Option.elim]
    rcases e2 with e2 | e2 <;> rw [e2] <;> exact e3
/-- over a list that the body leaves as it is -/
theorem forM_live {a : Nat} {ws : List W} (Iv : List W → Fr → HS → Prop) (hg : ∀ r σ h, Iv r σ h → h.get a = .lst ws) (hs : ∀ w r σ h, Iv (w :: r) σ h → ∃ σ1, t.put w σ = some σ1 ∧ ∃ σ2 h2, (body σ1 h = .nx σ2 h2 ∨ body σ1 h = .ct σ2 h2) ∧ Iv r σ2 h2) :
    ∀ (n i : Nat) (σ : Fr) (h : HS), ws.length < n + i → i ≤ ws.length → Iv (ws.drop i) σ h → ∃ σ' h', forM (.live a) t body n i σ h = .nx σ' h' ∧ Iv [] σ' h'
  | 0, i, σ, h, hn, hi, _ => by omega
  | n + 1, i, σ, h, hn, hi, I => by
    have q0 : (Itd.live a).nth h i = some ws[i]? := by
      show (flO (h.get a)).map _ = _
      rw [hg _ _ _ I]
      rfl
    unfold forM
    by_cases e : i = ws.length
    · rw [q0, List.getElem?_eq_none (by omega)]
      rw [List.drop_eq_nil_of_le (by omega)] at I
      exact ⟨σ, h, rfl, I⟩
    · have hlt : i < ws.length := by omega
      rw [q0, List.getElem?_eq_getElem hlt]
      rw [List.drop_eq_getElem_cons hlt] at I
      dsimp only
      obtain ⟨σ1, e1, σ2, h2, e2, I2⟩ := hs _ _ σ h I
      rw [e1]
      dsimp only
      rcases e2 with e2 | e2 <;> rw [e2] <;> exact forM_live Iv hg hs n (i + 1) σ2 h2 (by omega) (by omega) I2
@[simp] theorem enuW_r {b : Nat} : enuW [.ref b] h = guardR (isLst (h.get b)) (.ok (.enum b) h) := rfl
/-- enumerate over a list that the body leaves as it is; the invariant is told the place -/
theorem forM_enum {a : Nat} {ws : List W} (Iv : Nat → Fr → HS → Prop) (hg : ∀ r σ h, Iv r σ h → h.get a = .lst ws) (hs : ∀ i w σ h, ws[i]? = some w → Iv i σ h → ∃ σ1, t.put (.tup [.int i, w]) σ = some σ1 ∧ ∃ σ2 h2, (body σ1 h = .nx σ2 h2 ∨ body σ1 h = .ct σ2 h2) ∧ Iv (i + 1) σ2 h2) :
    ∀ (n i : Nat) (σ : Fr) (h : HS), ws.length < n + i → i ≤ ws.length → Iv i σ h → ∃ σ' h', forM (.enum a) t body n i σ h = .nx σ' h' ∧ Iv ws.length σ' h'
  | 0, i, σ, h, hn, hi, _ => by omega
  | n + 1, i, σ, h, hn, hi, I => by
    have q0 : (Itd.enum a).nth h i = some (ws[i]?.map fun x => .tup [.int i, x]) := by
      show (flO (h.get a)).map _ = _
      rw [hg _ _ _ I]
      rfl
    unfold forM
    by_cases e : i = ws.length
    · rw [q0, List.getElem?_eq_none (by omega)]
      subst e
      exact ⟨σ, h, rfl, I⟩
    · have hlt : i < ws.length := by omega
      rw [q0, List.getElem?_eq_getElem hlt]
      dsimp only [Option.map]
      obtain ⟨σ1, e1, σ2, h2, e2, I2⟩ := hs i _ σ h (List.getElem?_eq_getElem hlt) I
      rw [e1]
      dsimp only
      rcases e2 with e2 | e2 <;> rw [e2] <;> exact forM_enum Iv hg hs n (i + 1) σ2 h2 (by omega) (by omega) I2
/-- a comprehension over a range, by turns -/
theorem lc_ok {p : BM} {e : EM} {i : Nat} {ws : List W} (Iv : List W → List W → HS → Prop) (hs : ∀ w r acc h, Iv (w :: r) acc h → ∃ h1 y h2, p (setS (wipeW σ [i]) i (some w)) h = .ok true h1 ∧ e (setS (wipeW σ [i]) i (some w)) h1 = .ok y h2 ∧ acc.length < LIM ∧ Iv r (acc ++ [y]) h2) :
    ∀ (n j : Nat) (acc : List W) (h : HS), ws.length < n + j → j ≤ ws.length → Iv (ws.drop j) acc h → ∃ acc' h', lcM (.vals ws) (.one i) [i] p e σ n j acc h = newL acc' h' ∧ Iv [] acc' h'
  | 0, j, acc, h, hn, hi, _ => by omega
  | n + 1, j, acc, h, hn, hi, I => by
    unfold lcM
    by_cases c : j = ws.length
    · have q : (Itd.vals ws).nth h j = some none := by show some ws[j]? = _; rw [List.getElem?_eq_none (by omega)]
      rw [q]
      rw [List.drop_eq_nil_of_le (by omega)] at I
      exact ⟨acc, h, rfl, I⟩
    · have hlt : j < ws.length := by omega
      have q : (Itd.vals ws).nth h j = some (some ws[j]) := by show some ws[j]? = _; rw [List.getElem?_eq_getElem hlt]
      rw [q]
      rw [List.drop_eq_getElem_cons hlt] at I
      obtain ⟨h1, y, h2, e1, e2, hl, I2⟩ := hs _ _ acc h I
      dsimp only [put_one]
      rw [e1]
      dsimp only
      rw [e2]
      dsimp only
      rw [if_pos hl]
      exact lc_ok Iv hs n (j + 1) (acc ++ [y]) h2 (by omega) (by omega) I2
end
/-- a row, held as a list or as a tuple -/
inductive Sq (h : HS) (ws : List W) : W → Prop
  | tup : Sq h ws (.tup ws)
  | lst (a : Nat) : h.get a = .lst ws → Sq h ws (.ref a)
theorem Sq.old {h h' : HS} {ws : List W} {w : W} (s : Sq h ws w) (o : Old h h') (hr : ∀ a, w = .ref a → a < h.sz) : Sq h' ws w := by
  cases s with
  | tup => exact .tup
  | lst a e => exact .lst a (by rw [o.2 a (hr a rfl)]; exact e)
theorem Sq.len {h : HS} {ws : List W} {w : W} (s : Sq h ws w) : lenW w h = .ok (.int ws.length) h := by
  cases s with
  | tup => rfl
  | lst a e => simp [e]
theorem Sq.tupW {h : HS} {ws : List W} {w : W} (s : Sq h ws w) : tupW w h = .ok (.tup ws) h := by
  cases s with
  | tup => rfl
  | lst a e => simp [e]
theorem Sq.listW {h : HS} {ws : List W} {w : W} (s : Sq h ws w) : listW w h = newL ws h := by
  cases s with
  | tup => rfl
  | lst a e => simp only [listW_r, e, listO_l]
theorem Sq.ix {h : HS} {ws : List W} {w : W} {D : Dcts} {i : Int} (s : Sq h ws w) : ixW D w (.int i) h = optR (atI ws i) h := by
  cases s with
  | tup => rfl
  | lst a e => simp only [ixW_r, e, ixO_l]
theorem Sq.isi {h : HS} {ws : List W} {w : W} (s : Sq h ws w) : isiW w (.tup [.ty "tuple", .ty "list"]) h = .ok (.bl true) h := by
  cases s with
  | tup => rfl
  | lst a e =>
    show optR ((tysOf [.ty "tuple", .ty "list"]).bind fun ns => (tyO (h.get a)).map fun t => W.bl (ns.any (isT t))) h = _
    rw [e]
    rfl
theorem for_sq {m : EM} {t : Tg} {body : SM} {σ : Fr} {h : HS} {w : W} {ws : List W} (hm : m σ h = .ok w h) (s : Sq h ws w) (hl : ws.length ≤ 100000) (Iv : List W → Fr → HS → Prop) (hk : ∀ r σ h', Iv r σ h' → Sq h' ws w)
    (hs : ∀ w r σ h, Iv (w :: r) σ h → ∃ σ1, t.put w σ = some σ1 ∧ ∃ σ2 h2, (body σ1 h = .nx σ2 h2 ∨ body σ1 h = .ct σ2 h2) ∧ Iv r σ2 h2) (I0 : Iv ws σ h) : ∃ σ' h', forS (anyI m) t body σ h = .nx σ' h' ∧ Iv [] σ' h' := by
  rw [forS_at, anyI_at, hm, bind_okE]
  cases s with
  | tup =>
    rw [itW_t, toS_okE, forM_vals hl]
    exact forL_ok Iv hs ws σ h I0
  | lst a e =>
    rw [itW_r, e, isLst_l, guardR_t, toS_okE]
    exact forM_live (a := a) (ws := ws) Iv (fun r σ h' I => by cases hk r σ h' I with | lst _ e => exact e) hs FUEL 0 σ h (by unfold FUEL; omega) (by omega) I0
/-- a comprehension over a list or a tuple, with or without a test -/
theorem lc_seq {p : BM} {e : EM} {i : Nat} {σ : Fr} {ws : List W} {d : Itd} (Iv : List W → List W → HS → Prop) (hd : ∀ r acc h j, Iv r acc h → d.nth h j = some ws[j]?)
    (hs : ∀ w r acc h, Iv (w :: r) acc h → ∃ h1, (∃ y h2, p (setS (wipeW σ [i]) i (some w)) h = .ok true h1 ∧ e (setS (wipeW σ [i]) i (some w)) h1 = .ok y h2 ∧ acc.length < LIM ∧ Iv r (acc ++ [y]) h2) ∨ (p (setS (wipeW σ [i]) i (some w)) h = .ok false h1 ∧ Iv r acc h1)) :
    ∀ (n j : Nat) (acc : List W) (h : HS), ws.length < n + j → j ≤ ws.length → Iv (ws.drop j) acc h → ∃ acc' h', lcM d (.one i) [i] p e σ n j acc h = newL acc' h' ∧ Iv [] acc' h'
  | 0, j, acc, h, hn, hi, _ => by omega
  | n + 1, j, acc, h, hn, hi, I => by
    have q := hd _ _ _ j I
    unfold lcM
    by_cases c : j = ws.length
    · rw [q, List.getElem?_eq_none (by omega)]
      rw [List.drop_eq_nil_of_le (by omega)] at I
      exact ⟨acc, h, rfl, I⟩
    · have hlt : j < ws.length := by omega
      rw [q, List.getElem?_eq_getElem hlt]
      rw [List.drop_eq_getElem_cons hlt] at I
      dsimp only [put_one]
      obtain ⟨h1, ⟨y, h2, e1, e2, hl, I2⟩ | ⟨e1, I2⟩⟩ := hs _ _ acc h I
      · rw [e1]
        dsimp only
        rw [e2]
        dsimp only
        rw [if_pos hl]
        exact lc_seq Iv hd hs n (j + 1) (acc ++ [y]) h2 (by omega) (by omega) I2
      · rw [e1]
        dsimp only
        exact lc_seq Iv hd hs n (j + 1) acc h1 (by omega) (by omega) I2
/-- a comprehension that leaves the heap as it is: what is kept, what is made -/
theorem lc_pure {p : BM} {e : EM} {i : Nat} {σ : Fr} {h : HS} {ws : List W} {d : Itd} (hd : ∀ j, d.nth h j = some ws[j]?) (pb : W → Bool) (pe : W → W) (hl : ws.length ≤ 100000)
    (hp : ∀ w ∈ ws, p (setS (wipeW σ [i]) i (some w)) h = .ok (pb w) h) (he : ∀ w ∈ ws, pb w = true → e (setS (wipeW σ [i]) i (some w)) h = .ok (pe w) h) :
    lcM d (.one i) [i] p e σ FUEL 0 [] h = newL ((ws.filter pb).map pe) h := by
  obtain ⟨acc, h', e1, rfl, r0, e2, e3⟩ := lc_seq (p := p) (e := e) (i := i) (σ := σ) (ws := ws) (d := d) (fun r acc g => g = h ∧ ∃ r0, r0 ++ r = ws ∧ acc = (r0.filter pb).map pe) (fun r acc g j I => by rw [I.1]; exact hd j)
    (fun w r acc g I => by
      obtain ⟨rfl, r0, e1, rfl⟩ := I
      have hm : w ∈ ws := by rw [← e1]; simp
      cases hb : pb w with
      | true =>
        refine ⟨g, .inl ⟨pe w, g, by rw [hp w hm, hb], he w hm hb, ?_, rfl, r0 ++ [w], by rw [← e1]; simp, by simp [List.filter_append, hb]⟩⟩
        have h1 : (r0.filter pb).length ≤ r0.length := List.length_filter_le _ _
        have h2 : r0.length ≤ ws.length := by rw [← e1]; simp
        simp
        omega
      | false => exact ⟨g, .inr ⟨by rw [hp w hm, hb], rfl, r0 ++ [w], by rw [← e1]; simp, by simp [List.filter_append, hb]⟩⟩) FUEL 0 [] h (by unfold FUEL; omega) (by omega) ⟨rfl, [], rfl, rfl⟩
  rw [e1]
  simp at e2
  subst e2
  rw [e3]
def onI {α : Type} (f : Int → α) (z : α) (w : W) : α := match w with
  | .int i => f i
  | _ => z
theorem lc_ints {p : BM} {e : EM} {i : Nat} {σ : Fr} {h : HS} {xs : List Int} {d : Itd} (hd : ∀ j, d.nth h j = some (intsW xs)[j]?) (pb : Int → Bool) (pe : Int → Int) (hl : xs.length ≤ 100000)
    (hp : ∀ x ∈ xs, p (setS (wipeW σ [i]) i (some (.int x))) h = .ok (pb x) h) (he : ∀ x ∈ xs, pb x = true → e (setS (wipeW σ [i]) i (some (.int x))) h = .ok (.int (pe x)) h) :
    lcM d (.one i) [i] p e σ FUEL 0 [] h = newL (intsW ((xs.filter pb).map pe)) h := by
  have e0 := lc_pure (p := p) (e := e) (σ := σ) (i := i) hd (onI pb false) (onI (fun x => .int (pe x)) .non) (by simpa using hl) (fun w hw => by
    obtain ⟨x, hx, rfl⟩ := List.mem_map.mp hw
    exact hp x hx) (fun w hw hb => by
    obtain ⟨x, hx, rfl⟩ := List.mem_map.mp hw
    exact he x hx hb)
  rw [e0]
  congr 1
  unfold intsW
  rw [List.filter_map, List.map_map, List.map_map]
  rfl
theorem rng_ints {lo : Int} {n : Nat} : rng lo n = intsW ((List.range n).map fun k : Nat => lo + (k : Int)) := by simp [rng, intsW]
theorem rng_len {lo : Int} {n : Nat} : (rng lo n).length = n := by simp [rng]
end Rh
/-! Rh18: more for runs: tries, messages, loops over lists that stay, tuples compared, rows with their places. -/
namespace Rh
open PySem L2
section
variable {σ : Fr} {h : HS} {G : Glob}
/-! tries -/
def tryC (G : Glob) (hs : List (Str × SM)) (r : RS) : RS := match r with
  | .exc x σ h => catchS G x hs σ h
  | r => r
@[simp] theorem tryS_at {b : SM} {hs : List (Str × SM)} : tryS G b hs σ h = tryC G hs (b σ h) := rfl
@[simp] theorem tryC_exc {hs : List (Str × SM)} {x : Exn} : tryC G hs (.exc x σ h) = catchS G x hs σ h := rfl
@[simp] theorem tryC_nx {hs : List (Str × SM)} : tryC G hs (.nx σ h) = .nx σ h := rfl
@[simp] theorem tryC_rt {hs : List (Str × SM)} {w : W} : tryC G hs (.rt w h) = .rt w h := rfl
@[simp] theorem tryC_bk {hs : List (Str × SM)} : tryC G hs (.bk σ h) = .bk σ h := rfl
@[simp] theorem tryC_ct {hs : List (Str × SM)} : tryC G hs (.ct σ h) = .ct σ h := rfl
@[simp] theorem catchS_nil {x : Exn} : catchS G x [] σ h = .exc x σ h := rfl
@[simp] theorem catchS_cons {x : Exn} {c : Str} {s : SM} {r : List (Str × SM)} : catchS G x ((c, s) :: r) σ h = (G.excs.lookup x.cls).elim .stuck fun anc => if anc.contains c = true then s σ h else catchS G x r σ h := by
  show (match G.excs.lookup x.cls with | some anc => if anc.contains c then s else catchS G x r | none => fun _ _ => .stuck) σ h = _
  cases G.excs.lookup x.cls with
  | none => rfl
  | some anc => dsimp only [Option.elim]; cases anc.contains c <;> rfl
/-! messages -/
theorem joinE_any (l : List EM) (H : ∀ a ∈ l, ∃ y : Str, a σ h = .ok (.str y) h ∧ y.length ≤ 1000) : ∀ acc : Str, acc.length + 1000 * l.length ≤ LIM → ∃ z, joinE acc l σ h = .ok (.str z) h := by
  induction l with
  | nil => exact fun acc _ => ⟨acc, rfl⟩
  | cons a r ih =>
    intro acc hl
    obtain ⟨y, e, hy⟩ := H a (by simp)
    have z : (acc ++ y).length ≤ acc.length + 1000 := by rw [PySem.Str.length_append]; omega
    simp only [List.length_cons] at hl
    obtain ⟨w, ew⟩ := ih (fun b hb => H b (by simp [hb])) (acc ++ y) (by omega)
    refine ⟨w, ?_⟩
    show (a σ h).bind _ = _
    rw [e]
    show (if (acc ++ y).length ≤ LIM then joinE (acc ++ y) r σ h else .stuck) = _
    rw [if_pos (by omega)]
    exact ew
@[simp] theorem fmtE_at {a : EM} : fmtE a σ h = (a σ h).bind fun x h => (optR (fmtW x) h).bind fun s h => .ok (.str s) h := rfl
theorem fmt_small {i : Int} (h0 : 0 ≤ i) (h1 : i ≤ 200) : ∃ y, fmtW (.int i) = some y ∧ y.length ≤ 1000 := by
  obtain ⟨n, rfl⟩ : ∃ n : Nat, i = n := ⟨i.toNat, by omega⟩
  have q : ∀ n : Fin 201, (match fmtW (.int (n.val : Int)) with | some y => decide (y.length ≤ 1000) | none => false) = true := by decide +kernel
  have z := q ⟨n, by omega⟩
  dsimp only at z
  cases e : fmtW (.int (n : Int)) with
  | none => rw [e] at z; cases z
  | some y => rw [e] at z; exact ⟨y, rfl, of_decide_eq_true z⟩
/-! values -/
@[simp] theorem eqW_bl {a b : Bool} : eqW (.bl a) (.bl b) h = some (a == b) := by cases a <;> cases b <;> rfl
@[simp] theorem okPs_nil {n : Nat} : okPs n [] = true := by cases n <;> rfl
@[simp] theorem okPs_cons {n : Nat} {x : W} {xs : List W} : okPs n (x :: xs) = (okP n x && okPs n xs) := by cases n <;> rfl
@[simp] theorem okP_int {n : Nat} {i : Int} : okP n (.int i) = true := by cases n <;> rfl
@[simp] theorem okP_str {n : Nat} {s : Str} : okP n (.str s) = PyData.strOk s := by cases n <;> rfl
@[simp] theorem okP_bl {n : Nat} {b : Bool} : okP n (.bl b) = true := by cases n <;> rfl
@[simp] theorem okP_non {n : Nat} : okP n .non = true := by cases n <;> rfl
@[simp] theorem okP_tup {n : Nat} {xs : List W} : okP (n + 1) (.tup xs) = okPs n xs := rfl
@[simp] theorem okP_16 {xs : List W} : okP 16 (.tup xs) = okPs 15 xs := rfl
@[simp] theorem okP_15 {xs : List W} : okP 15 (.tup xs) = okPs 14 xs := rfl
@[simp] theorem okP_14 {xs : List W} : okP 14 (.tup xs) = okPs 13 xs := rfl
@[simp] theorem eqPs_nil : eqPs [] [] = true := rfl
@[simp] theorem eqPs_cons {x y : W} {xs ys : List W} : eqPs (x :: xs) (y :: ys) = (eqP x y && eqPs xs ys) := rfl
@[simp] theorem eqPs_nc {y : W} {ys : List W} : eqPs [] (y :: ys) = false := rfl
@[simp] theorem eqPs_cn {x : W} {xs : List W} : eqPs (x :: xs) [] = false := rfl
@[simp] theorem eqP_tup {xs ys : List W} : eqP (.tup xs) (.tup ys) = eqPs xs ys := rfl
@[simp] theorem eqP_sn {x : Str} : eqP (.str x) .non = false := rfl
@[simp] theorem eqP_ns {x : Str} : eqP .non (.str x) = false := rfl
@[simp] theorem eqP_si {x : Str} {i : Int} : eqP (.str x) (.int i) = false := rfl
@[simp] theorem eqP_is {x : Str} {i : Int} : eqP (.int i) (.str x) = false := rfl
@[simp] theorem eqP_in {i : Int} : eqP (.int i) .non = false := rfl
@[simp] theorem eqP_ni {i : Int} : eqP .non (.int i) = false := rfl
@[simp] theorem eqP_nn : eqP .non .non = true := rfl
@[simp] theorem flat_non : flatB .non = true := rfl
@[simp] theorem flat_bl {b : Bool} : flatB (.bl b) = true := rfl
@[simp] theorem eqW_tt {xs ys : List W} (h1 : okPs 15 xs = true) (h2 : okPs 15 ys = true) : eqW (.tup xs) (.tup ys) h = some (eqPs xs ys) :=
  eqW_fl (a := .pl (.tup xs)) (b := .pl (.tup ys)) (if_pos h1) (if_pos h2)
@[simp] theorem eqW_nn : eqW .non .non h = some true := rfl
@[simp] theorem eqW_ni {i : Int} : eqW .non (.int i) h = some false := rfl
@[simp] theorem eqW_in {i : Int} : eqW (.int i) .non h = some false := rfl
@[simp] theorem eqW_nt {xs : List W} (h1 : okPs 15 xs = true) : eqW .non (.tup xs) h = some false := eqW_fl (a := .pl .non) (b := .pl (.tup xs)) rfl (if_pos h1)
@[simp] theorem eqW_tn {xs : List W} (h1 : okPs 15 xs = true) : eqW (.tup xs) .non h = some false := eqW_fl (a := .pl (.tup xs)) (b := .pl .non) (if_pos h1) rfl
@[simp] theorem isi_non_tl : isiW .non (.tup [.ty "tuple", .ty "list"]) h = .ok (.bl false) h := rfl
@[simp] theorem isi_int_tl {i : Int} : isiW (.int i) (.tup [.ty "tuple", .ty "list"]) h = .ok (.bl false) h := rfl
@[simp] theorem isi_bl_tl {b : Bool} : isiW (.bl b) (.tup [.ty "tuple", .ty "list"]) h = .ok (.bl false) h := rfl
@[simp] theorem isi_str_tl {b : Str} : isiW (.str b) (.tup [.ty "tuple", .ty "list"]) h = .ok (.bl false) h := rfl
@[simp] theorem isi_non_int : isiW .non (.ty "int") h = .ok (.bl false) h := rfl
@[simp] theorem isi_non_bool : isiW .non (.ty "bool") h = .ok (.bl false) h := rfl
@[simp] theorem isi_non_str : isiW .non (.ty "str") h = .ok (.bl false) h := rfl
@[simp] theorem isi_non_tuple : isiW .non (.ty "tuple") h = .ok (.bl false) h := rfl
@[simp] theorem isi_bl_tuple {b : Bool} : isiW (.bl b) (.ty "tuple") h = .ok (.bl false) h := rfl
@[simp] theorem isi_str_list {b : Str} : isiW (.str b) (.ty "list") h = .ok (.bl false) h := rfl
theorem isi_ref_tuple {a : Nat} {ws : List W} (e : h.get a = .lst ws) : isiW (.ref a) (.ty "tuple") h = .ok (.bl false) h := by
  show (if knownT "tuple" then optR ((tyO (h.get a)).map fun t => W.bl (isT t "tuple")) h else .stuck) = _
  rw [e]; rfl
theorem isi_ref_list {a : Nat} {ws : List W} (e : h.get a = .lst ws) : isiW (.ref a) (.ty "list") h = .ok (.bl true) h := by
  show (if knownT "list" then optR ((tyO (h.get a)).map fun t => W.bl (isT t "list")) h else .stuck) = _
  rw [e]; rfl
/-! loops over a list that stays, where no turn changes the heap -/
theorem forM_liveL {a : Nat} {ws : List W} {t : Tg} {body : SM} (hg : h.get a = .lst ws) (hb : ∀ w ∈ ws, ∀ σ σ1, t.put w σ = some σ1 → ∀ σ2 h2, (body σ1 h = .nx σ2 h2 ∨ body σ1 h = .ct σ2 h2) → h2 = h) :
    ∀ (n i : Nat) (σ : Fr), ws.length < n + i → i ≤ ws.length → forM (.live a) t body n i σ h = forL t body (ws.drop i) σ h
  | 0, i, σ, hn, hi => by omega
  | n + 1, i, σ, hn, hi => by
    have q0 : (Itd.live a).nth h i = some ws[i]? := by
      show (flO (h.get a)).map _ = _
      rw [hg]
      rfl
    unfold forM
    by_cases e : i = ws.length
    · rw [q0, List.getElem?_eq_none (by omega), List.drop_eq_nil_of_le (by omega)]
      rfl
    · have hlt : i < ws.length := by omega
      rw [q0, List.getElem?_eq_getElem hlt, List.drop_eq_getElem_cons hlt, forL_cons]
      dsimp only
      cases ep : t.put ws[i] σ with
      | none => rfl
      | some σ1 =>
        dsimp only [Option.elim]
        have hk := hb ws[i] (List.getElem_mem hlt) σ σ1 ep
        cases eb : body σ1 h with
        | nx σ2 h2 =>
          have e3 := hk σ2 h2 (.inl eb)
          show forM (.live a) t body n (i + 1) σ2 h2 = forL t body (ws.drop (i + 1)) σ2 h2
          rw [e3]
          exact forM_liveL hg hb n (i + 1) σ2 (by omega) (by omega)
        | ct σ2 h2 =>
          have e3 := hk σ2 h2 (.inr eb)
          show forM (.live a) t body n (i + 1) σ2 h2 = forL t body (ws.drop (i + 1)) σ2 h2
          rw [e3]
          exact forM_liveL hg hb n (i + 1) σ2 (by omega) (by omega)
        | bk σ2 h2 => rfl
        | rt w h2 => rfl
        | exc x σ2 h2 => rfl
        | stuck => rfl
theorem forM_liveF {a : Nat} {ws : List W} {t : Tg} {body : SM} (hg : h.get a = .lst ws) (hl : ws.length ≤ 100000) (hb : ∀ w ∈ ws, ∀ σ σ1, t.put w σ = some σ1 → ∀ σ2 h2, (body σ1 h = .nx σ2 h2 ∨ body σ1 h = .ct σ2 h2) → h2 = h) :
    forM (.live a) t body FUEL 0 σ h = forL t body ws σ h := by
  rw [forM_liveL hg hb FUEL 0 σ (by unfold FUEL; omega) (by omega), List.drop_zero]
end
/-- a row with its place, if it has one, within the heap -/
structure RowO (h : HS) (ws : List W) (w : W) : Prop where
  r : Sq h ws w
  o : ∀ a, w = .ref a → a < h.sz
theorem RowO.old {h h' : HS} {ws : List W} {w : W} (R : RowO h ws w) (o : Old h h') : RowO h' ws w := ⟨R.r.old o R.o, fun a e => o.lt (R.o a e)⟩
theorem RowO.tup {h : HS} {ws : List W} : RowO h ws (.tup ws) := ⟨.tup, fun _ e => by cases e⟩
theorem RowO.lst {h : HS} {ws : List W} {a : Nat} (e : h.get a = .lst ws) (l : a < h.sz) : RowO h ws (.ref a) := ⟨.lst a e, fun _ e => by cases e; exact l⟩
end Rh
namespace Lw
open PySem PySem.Spec PyProof.Rows L2 Rh
/-! the table, printed from the program by gen.py -/
def top (i : Nat) : Stmt := PySem.Challenge.pw_readerholds_k22_lengths_read_back.main.body.getD i (.Pass ⟨0, 0, 0, 0⟩)
def f_integer_within : FI := ⟨["value", "least", "most"], ["value", "least", "most"], top 6, [(3, [], [.pos 0, .pos 1, .pos 2])]⟩
def f_is_bits : FI := ⟨["value"], ["value", "bit"], top 10, [(1, [], [.pos 0])]⟩
def f_check_lengths : FI := ⟨["lengths", "most"], ["lengths", "most", "length"], top 11, [(2, [], [.pos 0, .pos 1])]⟩
def f_in_order : FI := ⟨["lengths"], ["lengths", "places", "length", "at", "own"], top 12, [(1, [], [.pos 0])]⟩
def f_word_from : FI := ⟨["used", "length"], ["used", "length"], top 13, [(2, [], [.pos 0, .pos 1])]⟩
def f_free_words : FI := ⟨["lengths"], ["lengths", "row", "words", "used", "at"], top 14, [(1, [], [.pos 0])]⟩
def f_lengths_back : FI := ⟨["words"], ["words", "word", "lengths", "used", "at"], top 15, [(1, [], [.pos 0])]⟩
def f__law_mixed : FI := ⟨["cell", "place"], ["cell", "place", "mixed"], top 17, [(2, [], [.pos 0, .pos 1])]⟩
def f__law_source : FI := ⟨["script", "low", "high"], ["script", "low", "high"], top 18, [(3, [], [.pos 0, .pos 1, .pos 2])]⟩
def f__law_draw : FI := ⟨["source", "base"], ["source", "base", "digit"], top 19, [(2, [], [.pos 0, .pos 1])]⟩
def f__law_size : FI := ⟨["source", "least", "usual", "top"], ["source", "least", "usual", "top"], top 20, [(4, [], [.pos 0, .pos 1, .pos 2, .pos 3])]⟩
def f__law_two : FI := ⟨["size"], ["size", "total", "k"], top 21, [(1, [], [.pos 0])]⟩
def f__law_figures : FI := ⟨["number", "size"], ["number", "size", "text", "k"], top 22, [(2, [], [.pos 0, .pos 1])]⟩
def f__law_tree : FI := ⟨["source", "ends"], ["source", "ends", "lengths", "k", "at"], top 23, [(2, [], [.pos 0, .pos 1])]⟩
def f__law_texts : FI := ⟨["source"], ["source", "lengths", "length", "texts", "start", "size", "at", "k"], top 24, [(1, [], [.pos 0])]⟩
def f__law_spoilt : FI := ⟨["source", "texts"], ["source", "texts", "row", "kind", "at", "by", "text", "spot"], top 25, [(2, [], [.pos 0, .pos 1])]⟩
def f__law_worth : FI := ⟨["text"], ["text", "worth", "bit"], top 26, [(1, [], [.pos 0])]⟩
def f__law_fault : FI := ⟨["texts"], ["texts", "taken", "size", "at", "below", "word", "k"], top 27, [(1, [], [.pos 0])]⟩
def f__law_odd : FI := ⟨["source", "texts"], ["source", "texts", "kind", "odd", "row"], top 28, [(2, [], [.pos 0, .pos 1])]⟩
def f__law_refused : FI := ⟨["words"], ["words", "kinds", "e"], top 29, [(1, [], [.pos 0])]⟩
def f_law : FI := ⟨["script"], ["script", "source", "texts", "fault", "given", "got", "length", "text"], top 30, [(1, [], [.pos 0])]⟩
def tblF : List (Str × FI) := [(("integer_within" : PySem.Str), f_integer_within), (("is_bits" : PySem.Str), f_is_bits), (("check_lengths" : PySem.Str), f_check_lengths), (("in_order" : PySem.Str), f_in_order), (("word_from" : PySem.Str), f_word_from), (("free_words" : PySem.Str), f_free_words), (("lengths_back" : PySem.Str), f_lengths_back), (("_law_mixed" : PySem.Str), f__law_mixed), (("_law_source" : PySem.Str), f__law_source), (("_law_draw" : PySem.Str), f__law_draw), (("_law_size" : PySem.Str), f__law_size), (("_law_two" : PySem.Str), f__law_two), (("_law_figures" : PySem.Str), f__law_figures), (("_law_tree" : PySem.Str), f__law_tree), (("_law_texts" : PySem.Str), f__law_texts), (("_law_spoilt" : PySem.Str), f__law_spoilt), (("_law_worth" : PySem.Str), f__law_worth), (("_law_fault" : PySem.Str), f__law_fault), (("_law_odd" : PySem.Str), f__law_odd), (("_law_refused" : PySem.Str), f__law_refused), (("law" : PySem.Str), f_law)]
def tblC : List (Str × W) := [("MOST_BITS", .int 10), ("UNITS", .int 1024)]
def tblD : Dcts := []
def tblX : List (Str × List Str) := [("ReaderError", ["ReaderError"]), ("BadTable", ["BadTable", "ReaderError"]), ("BadBits", ["BadBits", "ReaderError"])]
def tblB : List Str := ["range", "len", "abs", "int", "list", "tuple", "isinstance", "min", "enumerate", "bool", "str", "sorted"]
def G : Glob := ⟨tblF, tblC, tblD, tblX, tblB⟩
def dfs : Dfs := []
section
variable {K : PySem.W.Frag} {mg : PySem.Str → Option Value}
theorem sh_integer_within : ShOk K mg dfs ("integer_within", f_integer_within) := sh_pos (by kernel_rfl) fun _ _ _ _ _ _ us hl => match us, hl with | [_, _, _], _ => rfl
theorem sh_is_bits : ShOk K mg dfs ("is_bits", f_is_bits) := sh_pos (by kernel_rfl) fun _ _ _ _ _ _ us hl => match us, hl with | [_], _ => rfl
theorem sh_check_lengths : ShOk K mg dfs ("check_lengths", f_check_lengths) := sh_pos (by kernel_rfl) fun _ _ _ _ _ _ us hl => match us, hl with | [_, _], _ => rfl
theorem sh_in_order : ShOk K mg dfs ("in_order", f_in_order) := sh_pos (by kernel_rfl) fun _ _ _ _ _ _ us hl => match us, hl with | [_], _ => rfl
theorem sh_word_from : ShOk K mg dfs ("word_from", f_word_from) := sh_pos (by kernel_rfl) fun _ _ _ _ _ _ us hl => match us, hl with | [_, _], _ => rfl
theorem sh_free_words : ShOk K mg dfs ("free_words", f_free_words) := sh_pos (by kernel_rfl) fun _ _ _ _ _ _ us hl => match us, hl with | [_], _ => rfl
theorem sh_lengths_back : ShOk K mg dfs ("lengths_back", f_lengths_back) := sh_pos (by kernel_rfl) fun _ _ _ _ _ _ us hl => match us, hl with | [_], _ => rfl
theorem sh__law_mixed : ShOk K mg dfs ("_law_mixed", f__law_mixed) := sh_pos (by kernel_rfl) fun _ _ _ _ _ _ us hl => match us, hl with | [_, _], _ => rfl
theorem sh__law_source : ShOk K mg dfs ("_law_source", f__law_source) := sh_pos (by kernel_rfl) fun _ _ _ _ _ _ us hl => match us, hl with | [_, _, _], _ => rfl
theorem sh__law_draw : ShOk K mg dfs ("_law_draw", f__law_draw) := sh_pos (by kernel_rfl) fun _ _ _ _ _ _ us hl => match us, hl with | [_, _], _ => rfl
theorem sh__law_size : ShOk K mg dfs ("_law_size", f__law_size) := sh_pos (by kernel_rfl) fun _ _ _ _ _ _ us hl => match us, hl with | [_, _, _, _], _ => rfl
theorem sh__law_two : ShOk K mg dfs ("_law_two", f__law_two) := sh_pos (by kernel_rfl) fun _ _ _ _ _ _ us hl => match us, hl with | [_], _ => rfl
theorem sh__law_figures : ShOk K mg dfs ("_law_figures", f__law_figures) := sh_pos (by kernel_rfl) fun _ _ _ _ _ _ us hl => match us, hl with | [_, _], _ => rfl
theorem sh__law_tree : ShOk K mg dfs ("_law_tree", f__law_tree) := sh_pos (by kernel_rfl) fun _ _ _ _ _ _ us hl => match us, hl with | [_, _], _ => rfl
theorem sh__law_texts : ShOk K mg dfs ("_law_texts", f__law_texts) := sh_pos (by kernel_rfl) fun _ _ _ _ _ _ us hl => match us, hl with | [_], _ => rfl
theorem sh__law_spoilt : ShOk K mg dfs ("_law_spoilt", f__law_spoilt) := sh_pos (by kernel_rfl) fun _ _ _ _ _ _ us hl => match us, hl with | [_, _], _ => rfl
theorem sh__law_worth : ShOk K mg dfs ("_law_worth", f__law_worth) := sh_pos (by kernel_rfl) fun _ _ _ _ _ _ us hl => match us, hl with | [_], _ => rfl
theorem sh__law_fault : ShOk K mg dfs ("_law_fault", f__law_fault) := sh_pos (by kernel_rfl) fun _ _ _ _ _ _ us hl => match us, hl with | [_], _ => rfl
theorem sh__law_odd : ShOk K mg dfs ("_law_odd", f__law_odd) := sh_pos (by kernel_rfl) fun _ _ _ _ _ _ us hl => match us, hl with | [_, _], _ => rfl
theorem sh__law_refused : ShOk K mg dfs ("_law_refused", f__law_refused) := sh_pos (by kernel_rfl) fun _ _ _ _ _ _ us hl => match us, hl with | [_], _ => rfl
theorem sh_law : ShOk K mg dfs ("law", f_law) := sh_pos (by kernel_rfl) fun _ _ _ _ _ _ us hl => match us, hl with | [_], _ => rfl
theorem sh_all : ∀ p ∈ G.fns, ShOk K mg dfs p := List.forall_mem_cons.mpr ⟨sh_integer_within, List.forall_mem_cons.mpr ⟨sh_is_bits, List.forall_mem_cons.mpr ⟨sh_check_lengths, List.forall_mem_cons.mpr ⟨sh_in_order, List.forall_mem_cons.mpr ⟨sh_word_from, List.forall_mem_cons.mpr ⟨sh_free_words, List.forall_mem_cons.mpr ⟨sh_lengths_back, List.forall_mem_cons.mpr ⟨sh__law_mixed, List.forall_mem_cons.mpr ⟨sh__law_source, List.forall_mem_cons.mpr ⟨sh__law_draw, List.forall_mem_cons.mpr ⟨sh__law_size, List.forall_mem_cons.mpr ⟨sh__law_two, List.forall_mem_cons.mpr ⟨sh__law_figures, List.forall_mem_cons.mpr ⟨sh__law_tree, List.forall_mem_cons.mpr ⟨sh__law_texts, List.forall_mem_cons.mpr ⟨sh__law_spoilt, List.forall_mem_cons.mpr ⟨sh__law_worth, List.forall_mem_cons.mpr ⟨sh__law_fault, List.forall_mem_cons.mpr ⟨sh__law_odd, List.forall_mem_cons.mpr ⟨sh__law_refused, List.forall_mem_cons.mpr ⟨sh_law, fun _ h => (nomatch h)⟩⟩⟩⟩⟩⟩⟩⟩⟩⟩⟩⟩⟩⟩⟩⟩⟩⟩⟩⟩⟩
end
@[simp] theorem so_0 : PyData.strOk ("" : PySem.Str) = true := by decide +kernel
@[simp] theorem so_1 : PyData.strOk ("00000000000" : PySem.Str) = true := by decide +kernel
@[simp] theorem so_2 : PyData.strOk ("2" : PySem.Str) = true := by decide +kernel
@[simp] theorem so_3 : PyData.strOk ("0 " : PySem.Str) = true := by decide +kernel
@[simp] theorem so_4 : PyData.strOk ("1
" : PySem.Str) = true := by decide +kernel
@[simp] theorem so_5 : PyData.strOk ("0" : PySem.Str) = true := by decide +kernel
@[simp] theorem so_6 : PyData.strOk ("1" : PySem.Str) = true := by decide +kernel
@[simp] theorem so_7 : PyData.strOk ("01" : PySem.Str) = true := by decide +kernel
@[simp] theorem so_8 : PyData.strOk ("010b" : PySem.Str) = true := by decide +kernel
@[simp] theorem so_9 : PyData.strOk (" bits" : PySem.Str) = true := by decide +kernel
@[simp] theorem lx_ReaderError : List.lookup ("ReaderError" : PySem.Str) G.excs = some [("ReaderError" : PySem.Str)] := by kernel_rfl
@[simp] theorem lx_BadTable : List.lookup ("BadTable" : PySem.Str) G.excs = some [("BadTable" : PySem.Str), ("ReaderError" : PySem.Str)] := by kernel_rfl
@[simp] theorem lx_BadBits : List.lookup ("BadBits" : PySem.Str) G.excs = some [("BadBits" : PySem.Str), ("ReaderError" : PySem.Str)] := by kernel_rfl
/-! the bodies, printed from the program by gen.py -/
def b_integer_within (cf : PySem.Str → List W → HS → R W) : SM := (retS (andE (callE (biW .isinstance) (consA (slotE 0) (consA (valE (.ty "int")) nilA))) (andE (notE (callE (biW .isinstance) (consA (slotE 0) (consA (valE (.ty "bool")) nilA)))) (chainE (cmpR G.dcts .LtE) (cmpR G.dcts .LtE) (slotE 1) (slotE 0) (slotE 2)))))
theorem u_integer_within (cf : PySem.Str → List W → HS → R W) (x0 x1 x2 : W) (h : HS) : callS G cf "integer_within" [x0, x1, x2] h = retR (b_integer_within cf [some x0, some x1, some x2] h) := by kernel_rfl
def lb_is_bits_0 (cf : PySem.Str → List W → HS → R W) : SM := (ifS (andT (cmpT (cmpR G.dcts .NotEq) (slotE 1) (valE (.str "0"))) (cmpT (cmpR G.dcts .NotEq) (slotE 1) (valE (.str "1")))) (retS (valE (.bl false))) skipS)
def b_is_bits (cf : PySem.Str → List W → HS → R W) : SM := (seqS (ifS (notT (truT (callE (biW .isinstance) (consA (slotE 0) (consA (valE (.ty "str")) nilA))))) (retS (valE (.bl false))) skipS)
    (seqS (forS (anyI (slotE 0)) (.one 1) (lb_is_bits_0 cf))
    (retS (valE (.bl true)))))
theorem u_is_bits (cf : PySem.Str → List W → HS → R W) (x0 : W) (h : HS) : callS G cf "is_bits" [x0] h = retR (b_is_bits cf [some x0, none] h) := by kernel_rfl
def lb_check_lengths_0 (cf : PySem.Str → List W → HS → R W) : SM := (ifS (notT (truT (callK (fnC cf "integer_within" [.pos 0, .pos 1, .pos 2]) (consA (slotE 2) (consA (valE (.int 1)) (consA (slotE 1) nilA))) nilA))) (raiseS "BadTable" (joinE Str.empty [(valE (.str "a length is an integer from 1 to ")), (fmtE (slotE 1))])) skipS)
def b_check_lengths (cf : PySem.Str → List W → HS → R W) : SM := (seqS (ifS (notT (truT (callE (biW .isinstance) (consA (slotE 0) (consA (tupE (consA (valE (.ty "tuple")) (consA (valE (.ty "list")) nilA))) nilA))))) (raiseS "BadTable" (valE (.str "the lengths are a tuple or a list"))) skipS)
    (seqS (forS (anyI (slotE 0)) (.one 2) (lb_check_lengths_0 cf))
    (retS (callE (biW .list) (consA (slotE 0) nilA)))))
theorem u_check_lengths (cf : PySem.Str → List W → HS → R W) (x0 x1 : W) (h : HS) : callS G cf "check_lengths" [x0, x1] h = retR (b_check_lengths cf [some x0, some x1, none] h) := by kernel_rfl
def lb_in_order_0 (cf : PySem.Str → List W → HS → R W) : SM := (ifS (cmpT (cmpR G.dcts .Eq) (slotE 4) (slotE 2)) (exprS (methE .append (slotE 1) (consA (slotE 3) nilA))) skipS)
def lb_in_order_1 (cf : PySem.Str → List W → HS → R W) : SM := (forS (enumI (consA (slotE 0) nilA)) (.row [3, 4]) (lb_in_order_0 cf))
def b_in_order (cf : PySem.Str → List W → HS → R W) : SM := (seqS (asgS (.one 1) (lstE nilA))
    (seqS (forS (rangeI2 (consA (valE (.int 1)) (consA (binE (binW .Add) (valE (.int 10)) (valE (.int 1))) nilA))) (.one 2) (lb_in_order_1 cf))
    (retS (slotE 1))))
theorem u_in_order (cf : PySem.Str → List W → HS → R W) (x0 : W) (h : HS) : callS G cf "in_order" [x0] h = retR (b_in_order cf [some x0, none, none, none, none] h) := by kernel_rfl
def b_word_from (cf : PySem.Str → List W → HS → R W) : SM := (retS (sliceE (unE fmtBW (slotE 0)) noP (someP (slotE 1))))
theorem u_word_from (cf : PySem.Str → List W → HS → R W) (x0 x1 : W) (h : HS) : callS G cf "word_from" [x0, x1] h = retR (b_word_from cf [some x0, some x1] h) := by kernel_rfl
def lb_free_words_0 (cf : PySem.Str → List W → HS → R W) : SM := (seqS (ifS (cmpT (cmpR G.dcts .Eq) (slotE 3) (valE (.int 1024))) stuckS skipS)
    (seqS (asgIx (slotE 2) (slotE 4) (callK (fnC cf "word_from" [.pos 0, .pos 1]) (consA (slotE 3) (consA (binE (ixW G.dcts) (slotE 1) (slotE 4)) nilA)) nilA))
    (augS (augW .Add) 3 (binE (binW .RShift) (valE (.int 1024)) (binE (ixW G.dcts) (slotE 1) (slotE 4))))))
def b_free_words (cf : PySem.Str → List W → HS → R W) : SM := (seqS (asgS (.one 1) (callK (fnC cf "check_lengths" [.pos 0, .pos 1]) (consA (slotE 0) (consA (valE (.int 10)) nilA)) nilA))
    (seqS (asgS (.one 2) (binE (binW .Mult) (lstE (consA (valE (.str "")) nilA)) (callE (biW .len) (consA (slotE 1) nilA))))
    (seqS (asgS (.one 3) (valE (.int 0)))
    (seqS (forS (anyI (callK (fnC cf "in_order" [.pos 0]) (consA (slotE 1) nilA) nilA)) (.one 4) (lb_free_words_0 cf))
    (retS (slotE 2))))))
theorem u_free_words (cf : PySem.Str → List W → HS → R W) (x0 : W) (h : HS) : callS G cf "free_words" [x0] h = retR (b_free_words cf [some x0, none, none, none, none] h) := by kernel_rfl
def lb_lengths_back_0 (cf : PySem.Str → List W → HS → R W) : SM := (seqS (ifS (orT (cmpT (cmpR G.dcts .Eq) (slotE 3) (valE (.int 1024))) (cmpT (cmpR G.dcts .NotEq) (binE (ixW G.dcts) (slotE 0) (slotE 4)) (callK (fnC cf "word_from" [.pos 0, .pos 1]) (consA (slotE 3) (consA (binE (ixW G.dcts) (slotE 2) (slotE 4)) nilA)) nilA))) (retS (tupE (consA (valE (.non)) (consA (slotE 4) nilA)))) skipS)
    (augS (augW .Add) 3 (binE (binW .RShift) (valE (.int 1024)) (binE (ixW G.dcts) (slotE 2) (slotE 4)))))
def le_lengths_back_1 (cf : PySem.Str → List W → HS → R W) : EM := (callE (biW .len) (consA (slotE 1) nilA))
def lb_lengths_back_2 (cf : PySem.Str → List W → HS → R W) : SM := (ifS (orT (notT (truT (callK (fnC cf "is_bits" [.pos 0]) (consA (slotE 1) nilA) nilA))) (notT (chainT (cmpR G.dcts .LtE) (cmpR G.dcts .LtE) (valE (.int 1)) (callE (biW .len) (consA (slotE 1) nilA)) (valE (.int 10))))) (raiseS "BadBits" (joinE Str.empty [(valE (.str "a word has 1 to ")), (fmtE (valE (.int 10))), (valE (.str " bits"))])) skipS)
def b_lengths_back (cf : PySem.Str → List W → HS → R W) : SM := (seqS (ifS (notT (truT (callE (biW .isinstance) (consA (slotE 0) (consA (tupE (consA (valE (.ty "tuple")) (consA (valE (.ty "list")) nilA))) nilA))))) (raiseS "BadBits" (valE (.str "the words are a tuple or a list"))) skipS)
    (seqS (forS (anyI (slotE 0)) (.one 1) (lb_lengths_back_2 cf))
    (seqS (asgS (.one 2) (lcE (anyI (slotE 0)) 1 yesT (le_lengths_back_1 cf)))
    (seqS (asgS (.one 3) (valE (.int 0)))
    (seqS (forS (anyI (callK (fnC cf "in_order" [.pos 0]) (consA (slotE 2) nilA) nilA)) (.one 4) (lb_lengths_back_0 cf))
    (retS (tupE (consA (slotE 2) (consA (valE (.non)) nilA)))))))))
theorem u_lengths_back (cf : PySem.Str → List W → HS → R W) (x0 : W) (h : HS) : callS G cf "lengths_back" [x0] h = retR (b_lengths_back cf [some x0, none, none, none, none] h) := by kernel_rfl
def b__law_mixed (cf : PySem.Str → List W → HS → R W) : SM := (seqS (ifS (cmpT (cmpR G.dcts .GtE) (callE (biW .abs) (consA (slotE 0) nilA)) (binE (binW .Pow) (valE (.int 10)) (valE (.int 18)))) (retS (binE (binW .Mod) (callE (biW .int) (consA (callE (biW .abs) (consA (slotE 0) nilA)) nilA)) (binE (binW .Pow) (binE (binW .Pow) (valE (.int 10)) (valE (.int 60))) (valE (.int 4))))) skipS)
    (seqS (asgS (.one 2) (binE (binW .Mod) (callE (biW .int) (consA (binE (binW .Mult) (binE (binW .Add) (binE (binW .Mult) (valE (.int 2)) (callE (biW .abs) (consA (slotE 0) nilA))) (callE (biW .int) (consA (cmpE (cmpR G.dcts .Lt) (slotE 0) (valE (.int 0))) nilA))) (binE (binW .Add) (valE (.int 48271)) (binE (binW .Mult) (valE (.int 2)) (slotE 1)))) nilA)) (valE (.int 2147483647))))
    (retS (binE (binW .Add) (binE (binW .Mult) (binE (binW .Mod) (callE (biW .int) (consA (binE (binW .Mult) (slotE 2) (slotE 2)) nilA)) (valE (.int 2147483629))) (valE (.int 2147483647))) (slotE 2)))))
theorem u__law_mixed (cf : PySem.Str → List W → HS → R W) (x0 x1 : W) (h : HS) : callS G cf "_law_mixed" [x0, x1] h = retR (b__law_mixed cf [some x0, some x1, none] h) := by kernel_rfl
def b__law_source (cf : PySem.Str → List W → HS → R W) : SM := (retS (lstE (consA (callE (biW .list) (consA (sliceE (slotE 0) (someP (slotE 1)) (someP (slotE 2))) nilA)) (consA (slotE 1) (consA (valE (.int 0)) nilA)))))
theorem u__law_source (cf : PySem.Str → List W → HS → R W) (x0 x1 x2 : W) (h : HS) : callS G cf "_law_source" [x0, x1, x2] h = retR (b__law_source cf [some x0, some x1, some x2] h) := by kernel_rfl
def b__law_draw (cf : PySem.Str → List W → HS → R W) : SM := (seqS (ifS (andT (cmpT (cmpR G.dcts .Eq) (binE (ixW G.dcts) (slotE 0) (valE (.int 2))) (valE (.int 0))) (cmpT (cmpR G.dcts .Gt) (callE (biW .len) (consA (binE (ixW G.dcts) (slotE 0) (valE (.int 0))) nilA)) (valE (.int 0)))) (seqS (asgIx (slotE 0) (valE (.int 2)) (callK (fnC cf "_law_mixed" [.pos 0, .pos 1]) (consA (methE .pop (binE (ixW G.dcts) (slotE 0) (valE (.int 0))) (consA (valE (.int 0)) nilA)) (consA (binE (ixW G.dcts) (slotE 0) (valE (.int 1))) nilA)) nilA))
    (augIx (augW .Add) (slotE 0) (valE (.int 1)) (valE (.int 1)))) skipS)
    (seqS (asgS (.one 2) (binE (binW .Mod) (callE (biW .int) (consA (binE (ixW G.dcts) (slotE 0) (valE (.int 2))) nilA)) (slotE 1)))
    (seqS (asgIx (slotE 0) (valE (.int 2)) (binE (binW .FloorDiv) (binE (ixW G.dcts) (slotE 0) (valE (.int 2))) (slotE 1)))
    (retS (slotE 2)))))
theorem u__law_draw (cf : PySem.Str → List W → HS → R W) (x0 x1 : W) (h : HS) : callS G cf "_law_draw" [x0, x1] h = retR (b__law_draw cf [some x0, some x1, none] h) := by kernel_rfl
def b__law_size (cf : PySem.Str → List W → HS → R W) : SM := (seqS (ifS (cmpT (cmpR G.dcts .Eq) (callK (fnC cf "_law_draw" [.pos 0, .pos 1]) (consA (slotE 0) (consA (valE (.int 6)) nilA)) nilA) (valE (.int 5))) (retS (binE (binW .Add) (slotE 1) (callK (fnC cf "_law_draw" [.pos 0, .pos 1]) (consA (slotE 0) (consA (binE (binW .Add) (binE (binW .Sub) (slotE 3) (slotE 1)) (valE (.int 1))) nilA)) nilA))) skipS)
    (retS (binE (binW .Add) (slotE 1) (callK (fnC cf "_law_draw" [.pos 0, .pos 1]) (consA (slotE 0) (consA (slotE 2) nilA)) nilA))))
theorem u__law_size (cf : PySem.Str → List W → HS → R W) (x0 x1 x2 x3 : W) (h : HS) : callS G cf "_law_size" [x0, x1, x2, x3] h = retR (b__law_size cf [some x0, some x1, some x2, some x3] h) := by kernel_rfl
def lb__law_two_0 (cf : PySem.Str → List W → HS → R W) : SM := (asgS (.one 1) (binE (binW .Mult) (slotE 1) (valE (.int 2))))
def b__law_two (cf : PySem.Str → List W → HS → R W) : SM := (seqS (asgS (.one 1) (valE (.int 1)))
    (seqS (forS (rangeI (consA (slotE 0) nilA)) (.one 2) (lb__law_two_0 cf))
    (retS (slotE 1))))
theorem u__law_two (cf : PySem.Str → List W → HS → R W) (x0 : W) (h : HS) : callS G cf "_law_two" [x0] h = retR (b__law_two cf [some x0, none, none] h) := by kernel_rfl
def lb__law_figures_0 (cf : PySem.Str → List W → HS → R W) : SM := (seqS (asgS (.one 2) (binE (binW .Add) (callE (biW .str) (consA (binE (binW .Mod) (callE (biW .int) (consA (slotE 0) nilA)) (valE (.int 2))) nilA)) (slotE 2)))
    (asgS (.one 0) (binE (binW .FloorDiv) (slotE 0) (valE (.int 2)))))
def b__law_figures (cf : PySem.Str → List W → HS → R W) : SM := (seqS (asgS (.one 2) (valE (.str "")))
    (seqS (forS (rangeI (consA (slotE 1) nilA)) (.one 3) (lb__law_figures_0 cf))
    (retS (slotE 2))))
theorem u__law_figures (cf : PySem.Str → List W → HS → R W) (x0 x1 : W) (h : HS) : callS G cf "_law_figures" [x0, x1] h = retR (b__law_figures cf [some x0, some x1, none, none] h) := by kernel_rfl
def lb__law_tree_0 (cf : PySem.Str → List W → HS → R W) : SM := (seqS (asgS (.one 4) (callK (fnC cf "_law_draw" [.pos 0, .pos 1]) (consA (slotE 0) (consA (callE (biW .len) (consA (slotE 2) nilA)) nilA)) nilA))
    (seqS (ifS (cmpT (cmpR G.dcts .Gt) (binE (ixW G.dcts) (slotE 2) (slotE 4)) (valE (.int 8))) (asgS (.one 4) (methE .index (slotE 2) (consA (callE (biW .min) (consA (slotE 2) nilA)) nilA))) skipS)
    (seqS (asgIx (slotE 2) (slotE 4) (binE (binW .Add) (binE (ixW G.dcts) (slotE 2) (slotE 4)) (valE (.int 1))))
    (exprS (methE .append (slotE 2) (consA (binE (ixW G.dcts) (slotE 2) (slotE 4)) nilA))))))
def b__law_tree (cf : PySem.Str → List W → HS → R W) : SM := (seqS (asgS (.one 2) (lstE (consA (valE (.int 1)) (consA (valE (.int 1)) nilA))))
    (seqS (forS (rangeI (consA (binE (binW .Sub) (slotE 1) (valE (.int 2))) nilA)) (.one 3) (lb__law_tree_0 cf))
    (retS (slotE 2))))
theorem u__law_tree (cf : PySem.Str → List W → HS → R W) (x0 x1 : W) (h : HS) : callS G cf "_law_tree" [x0, x1] h = retR (b__law_tree cf [some x0, some x1, none, none, none] h) := by kernel_rfl
def le__law_texts_0 (cf : PySem.Str → List W → HS → R W) : EM := (tupE (consA (binE (ixW G.dcts) (slotE 1) (slotE 7)) (consA (slotE 7) nilA)))
def lb__law_texts_1 (cf : PySem.Str → List W → HS → R W) : SM := (seqS (asgIx (slotE 3) (slotE 6) (sliceE (callK (fnC cf "_law_figures" [.pos 0, .pos 1]) (consA (slotE 4) (consA (valE (.int 10)) nilA)) nilA) noP (someP (slotE 5))))
    (asgS (.one 4) (binE (binW .Add) (slotE 4) (binE (binW .FloorDiv) (valE (.int 1024)) (callK (fnC cf "_law_two" [.pos 0]) (consA (slotE 5) nilA) nilA)))))
def le__law_texts_2 (cf : PySem.Str → List W → HS → R W) : EM := (valE (.str ""))
def lb__law_texts_3 (cf : PySem.Str → List W → HS → R W) : SM := (ifS (cmpT (cmpR G.dcts .NotEq) (callK (fnC cf "_law_draw" [.pos 0, .pos 1]) (consA (slotE 0) (consA (valE (.int 12)) nilA)) nilA) (valE (.int 11))) (exprS (methE .insert (slotE 1) (consA (callK (fnC cf "_law_draw" [.pos 0, .pos 1]) (consA (slotE 0) (consA (binE (binW .Add) (callE (biW .len) (consA (slotE 1) nilA)) (valE (.int 1))) nilA)) nilA) (consA (slotE 2) nilA)))) skipS)
def b__law_texts (cf : PySem.Str → List W → HS → R W) : SM := (seqS (asgS (.one 1) (lstE nilA))
    (seqS (forS (anyI (callK (fnC cf "_law_tree" [.pos 0, .pos 1]) (consA (slotE 0) (consA (callK (fnC cf "_law_size" [.pos 0, .pos 1, .pos 2, .pos 3]) (consA (slotE 0) (consA (valE (.int 2)) (consA (valE (.int 8)) (consA (valE (.int 40)) nilA)))) nilA) nilA)) nilA)) (.one 2) (lb__law_texts_3 cf))
    (seqS (asgS (.one 3) (lcE (anyI (slotE 1)) 2 yesT (le__law_texts_2 cf)))
    (seqS (asgS (.one 4) (valE (.int 0)))
    (seqS (forS (anyI (callE (biW .sorted) (consA (lcE (rangeI (consA (callE (biW .len) (consA (slotE 1) nilA)) nilA)) 7 yesT (le__law_texts_0 cf)) nilA))) (.row [5, 6]) (lb__law_texts_1 cf))
    (retS (slotE 3)))))))
theorem u__law_texts (cf : PySem.Str → List W → HS → R W) (x0 : W) (h : HS) : callS G cf "_law_texts" [x0] h = retR (b__law_texts cf [some x0, none, none, none, none, none, none, none] h) := by kernel_rfl
def st__law_spoilt_0 (cf : PySem.Str → List W → HS → R W) : SM := (asgS (.one 2) (callE (biW .list) (consA (slotE 1) nilA)))
def st__law_spoilt_1 (cf : PySem.Str → List W → HS → R W) : SM := (asgS (.one 3) (callK (fnC cf "_law_draw" [.pos 0, .pos 1]) (consA (slotE 0) (consA (valE (.int 8)) nilA)) nilA))
def st__law_spoilt_2 (cf : PySem.Str → List W → HS → R W) : SM := (ifS (orT (cmpT (cmpR G.dcts .Lt) (slotE 3) (valE (.int 2))) (cmpT (cmpR G.dcts .Eq) (callE (biW .len) (consA (slotE 2) nilA)) (valE (.int 0)))) (retS (slotE 2)) skipS)
def st__law_spoilt_3 (cf : PySem.Str → List W → HS → R W) : SM := (asgS (.one 4) (callK (fnC cf "_law_draw" [.pos 0, .pos 1]) (consA (slotE 0) (consA (callE (biW .len) (consA (slotE 2) nilA)) nilA)) nilA))
def st__law_spoilt_4 (cf : PySem.Str → List W → HS → R W) : SM := (asgS (.one 5) (callK (fnC cf "_law_draw" [.pos 0, .pos 1]) (consA (slotE 0) (consA (callE (biW .len) (consA (slotE 2) nilA)) nilA)) nilA))
def st__law_spoilt_5 (cf : PySem.Str → List W → HS → R W) : SM := (asgS (.one 6) (binE (ixW G.dcts) (slotE 2) (slotE 4)))
def st__law_spoilt_6 (cf : PySem.Str → List W → HS → R W) : SM := (ifS (cmpT (cmpR G.dcts .Eq) (slotE 3) (valE (.int 2))) (seqS (asgIx (slotE 2) (slotE 4) (binE (ixW G.dcts) (slotE 2) (slotE 5)))
    (asgIx (slotE 2) (slotE 5) (slotE 6))) skipS)
def st__law_spoilt_7 (cf : PySem.Str → List W → HS → R W) : SM := (ifS (cmpT (cmpR G.dcts .Eq) (slotE 3) (valE (.int 3))) (seqS (asgS (.one 7) (callK (fnC cf "_law_draw" [.pos 0, .pos 1]) (consA (slotE 0) (consA (callE (biW .len) (consA (slotE 6) nilA)) nilA)) nilA))
    (asgIx (slotE 2) (slotE 4) (binE (binW .Add) (binE (binW .Add) (sliceE (slotE 6) noP (someP (slotE 7))) (binE (ixW G.dcts) (tupE (consA (valE (.str "1")) (consA (valE (.str "0")) nilA))) (callE (biW .int) (consA (cmpE (cmpR G.dcts .Eq) (binE (ixW G.dcts) (slotE 6) (slotE 7)) (valE (.str "1"))) nilA)))) (sliceE (slotE 6) (someP (binE (binW .Add) (slotE 7) (valE (.int 1)))) noP)))) skipS)
def st__law_spoilt_8 (cf : PySem.Str → List W → HS → R W) : SM := (ifS (andT (cmpT (cmpR G.dcts .Eq) (slotE 3) (valE (.int 4))) (cmpT (cmpR G.dcts .Lt) (callE (biW .len) (consA (slotE 6) nilA)) (valE (.int 10)))) (asgIx (slotE 2) (slotE 4) (binE (binW .Add) (slotE 6) (binE (ixW G.dcts) (tupE (consA (valE (.str "0")) (consA (valE (.str "1")) nilA))) (callK (fnC cf "_law_draw" [.pos 0, .pos 1]) (consA (slotE 0) (consA (valE (.int 2)) nilA)) nilA)))) skipS)
def st__law_spoilt_9 (cf : PySem.Str → List W → HS → R W) : SM := (ifS (andT (cmpT (cmpR G.dcts .Eq) (slotE 3) (valE (.int 5))) (cmpT (cmpR G.dcts .Gt) (callE (biW .len) (consA (slotE 6) nilA)) (valE (.int 1)))) (asgIx (slotE 2) (slotE 4) (sliceE (slotE 6) (someP (valE (.int 1))) noP)) skipS)
def st__law_spoilt_10 (cf : PySem.Str → List W → HS → R W) : SM := (ifS (cmpT (cmpR G.dcts .Eq) (slotE 3) (valE (.int 6))) (exprS (methE .insert (slotE 2) (consA (slotE 5) (consA (slotE 6) nilA)))) skipS)
def st__law_spoilt_11 (cf : PySem.Str → List W → HS → R W) : SM := (ifS (cmpT (cmpR G.dcts .Eq) (slotE 3) (valE (.int 7))) (exprS (methE .pop (slotE 2) (consA (slotE 4) nilA))) skipS)
def st__law_spoilt_12 (cf : PySem.Str → List W → HS → R W) : SM := (retS (slotE 2))
def b__law_spoilt (cf : PySem.Str → List W → HS → R W) : SM := (seqS (st__law_spoilt_0 cf)
    (seqS (st__law_spoilt_1 cf)
    (seqS (st__law_spoilt_2 cf)
    (seqS (st__law_spoilt_3 cf)
    (seqS (st__law_spoilt_4 cf)
    (seqS (st__law_spoilt_5 cf)
    (seqS (st__law_spoilt_6 cf)
    (seqS (st__law_spoilt_7 cf)
    (seqS (st__law_spoilt_8 cf)
    (seqS (st__law_spoilt_9 cf)
    (seqS (st__law_spoilt_10 cf)
    (seqS (st__law_spoilt_11 cf)
    (st__law_spoilt_12 cf)))))))))))))
theorem u__law_spoilt (cf : PySem.Str → List W → HS → R W) (x0 x1 : W) (h : HS) : callS G cf "_law_spoilt" [x0, x1] h = retR (b__law_spoilt cf [some x0, some x1, none, none, none, none, none, none] h) := by kernel_rfl
def lb__law_worth_0 (cf : PySem.Str → List W → HS → R W) : SM := (asgS (.one 1) (binE (binW .Add) (binE (binW .Mult) (valE (.int 2)) (slotE 1)) (callE (biW .int) (consA (cmpE (cmpR G.dcts .Eq) (slotE 2) (valE (.str "1"))) nilA))))
def b__law_worth (cf : PySem.Str → List W → HS → R W) : SM := (seqS (asgS (.one 1) (valE (.int 0)))
    (seqS (forS (anyI (slotE 0)) (.one 2) (lb__law_worth_0 cf))
    (retS (slotE 1))))
theorem u__law_worth (cf : PySem.Str → List W → HS → R W) (x0 : W) (h : HS) : callS G cf "_law_worth" [x0] h = retR (b__law_worth cf [some x0, none, none] h) := by kernel_rfl
def le__law_fault_0 (cf : PySem.Str → List W → HS → R W) : EM := (tupE (consA (callE (biW .len) (consA (binE (ixW G.dcts) (slotE 0) (slotE 6)) nilA)) (consA (slotE 6) nilA)))
def lb__law_fault_1 (cf : PySem.Str → List W → HS → R W) : SM := (seqS (ifS (truT (methE .startswith (binE (ixW G.dcts) (slotE 0) (slotE 3)) (consA (slotE 5) nilA))) (retS (slotE 3)) skipS)
    (ifS (cmpT (cmpR G.dcts .Lt) (slotE 5) (binE (ixW G.dcts) (slotE 0) (slotE 3))) (asgS (.one 4) (binE (binW .Add) (slotE 4) (callK (fnC cf "_law_two" [.pos 0]) (consA (binE (binW .Sub) (slotE 2) (callE (biW .len) (consA (slotE 5) nilA))) nilA) nilA))) skipS))
def lb__law_fault_2 (cf : PySem.Str → List W → HS → R W) : SM := (seqS (asgS (.one 4) (valE (.int 0)))
    (seqS (forS (anyI (slotE 1)) (.one 5) (lb__law_fault_1 cf))
    (seqS (ifS (cmpT (cmpR G.dcts .NotEq) (slotE 4) (callK (fnC cf "_law_worth" [.pos 0]) (consA (binE (ixW G.dcts) (slotE 0) (slotE 3)) nilA) nilA)) (retS (slotE 3)) skipS)
    (exprS (methE .append (slotE 1) (consA (binE (ixW G.dcts) (slotE 0) (slotE 3)) nilA))))))
def b__law_fault (cf : PySem.Str → List W → HS → R W) : SM := (seqS (asgS (.one 1) (lstE nilA))
    (seqS (forS (anyI (callE (biW .sorted) (consA (lcE (rangeI (consA (callE (biW .len) (consA (slotE 0) nilA)) nilA)) 6 yesT (le__law_fault_0 cf)) nilA))) (.row [2, 3]) (lb__law_fault_2 cf))
    (retS (valE (.non)))))
theorem u__law_fault (cf : PySem.Str → List W → HS → R W) (x0 : W) (h : HS) : callS G cf "_law_fault" [x0] h = retR (b__law_fault cf [some x0, none, none, none, none, none, none] h) := by kernel_rfl
def b__law_odd (cf : PySem.Str → List W → HS → R W) : SM := (seqS (asgS (.one 2) (callK (fnC cf "_law_draw" [.pos 0, .pos 1]) (consA (slotE 0) (consA (valE (.int 12)) nilA)) nilA))
    (seqS (ifS (cmpT (cmpR G.dcts .Gt) (slotE 2) (valE (.int 8))) (retS (binE (ixW G.dcts) (lstE (consA (valE (.str "01")) (consA (valE (.non)) (consA (dicE "0" "1") nilA)))) (binE (binW .Sub) (slotE 2) (valE (.int 9))))) skipS)
    (seqS (asgS (.one 3) (binE (ixW G.dcts) (lstE (consA (valE (.str "")) (consA (valE (.str "00000000000")) (consA (valE (.str "2")) (consA (valE (.int 0)) (consA (valE (.non)) (consA (valE (.bl true)) (consA (valE (.str "0 ")) (consA (lstE (consA (valE (.str "0")) nilA)) (consA (valE (.str "1
")) nilA)))))))))) (slotE 2)))
    (seqS (asgS (.one 4) (callE (biW .list) (consA (slotE 1) nilA)))
    (seqS (exprS (methE .insert (slotE 4) (consA (callK (fnC cf "_law_draw" [.pos 0, .pos 1]) (consA (slotE 0) (consA (binE (binW .Add) (callE (biW .len) (consA (slotE 4) nilA)) (valE (.int 1))) nilA)) nilA) (consA (slotE 3) nilA))))
    (retS (slotE 4)))))))
theorem u__law_odd (cf : PySem.Str → List W → HS → R W) (x0 x1 : W) (h : HS) : callS G cf "_law_odd" [x0, x1] h = retR (b__law_odd cf [some x0, some x1, none, none, none] h) := by kernel_rfl
def b__law_refused (cf : PySem.Str → List W → HS → R W) : SM := (seqS (asgS (.one 1) (lstE nilA))
    (seqS (tryAs G (exprS (callK (fnC cf "lengths_back" [.pos 0]) (consA (slotE 0) nilA) nilA)) "BadBits" 2 1 ["ReaderError", "BadTable"])
    (retS (cmpE (cmpR G.dcts .Eq) (slotE 1) (lstE (consA (valE (.bl true)) (consA (valE (.bl false)) nilA)))))))
theorem u__law_refused (cf : PySem.Str → List W → HS → R W) (x0 : W) (h : HS) : callS G cf "_law_refused" [x0] h = retR (b__law_refused cf [some x0, none, none] h) := by kernel_rfl
def lb_law_0 (cf : PySem.Str → List W → HS → R W) : SM := (ifS (orT (notT (truT (callE (biW .isinstance) (consA (slotE 6) (consA (valE (.ty "int")) nilA))))) (truT (callE (biW .isinstance) (consA (slotE 6) (consA (valE (.ty "bool")) nilA))))) (retS (valE (.bl false))) skipS)
def le_law_1 (cf : PySem.Str → List W → HS → R W) : EM := (callE (biW .len) (consA (slotE 7) nilA))
def st_law_0 (cf : PySem.Str → List W → HS → R W) : SM := (asgS (.one 1) (callK (fnC cf "_law_source" [.pos 0, .pos 1, .pos 2]) (consA (slotE 0) (consA (valE (.int 0)) (consA (valE (.int 63)) nilA))) nilA))
def st_law_1 (cf : PySem.Str → List W → HS → R W) : SM := (asgS (.one 2) (callK (fnC cf "_law_spoilt" [.pos 0, .pos 1]) (consA (slotE 1) (consA (callK (fnC cf "_law_texts" [.pos 0]) (consA (slotE 1) nilA) nilA) nilA)) nilA))
def st_law_2 (cf : PySem.Str → List W → HS → R W) : SM := (asgS (.one 3) (callK (fnC cf "_law_fault" [.pos 0]) (consA (slotE 2) nilA) nilA))
def st_law_3 (cf : PySem.Str → List W → HS → R W) : SM := (ifS (andT (cmpT (cmpR G.dcts .Eq) (callK (fnC cf "_law_draw" [.pos 0, .pos 1]) (consA (slotE 1) (consA (valE (.int 6)) nilA)) nilA) (valE (.int 5))) (notT (truT (callK (fnC cf "_law_refused" [.pos 0]) (consA (callK (fnC cf "_law_odd" [.pos 0, .pos 1]) (consA (slotE 1) (consA (slotE 2) nilA)) nilA) nilA) nilA)))) (retS (valE (.bl false))) skipS)
def st_law_4 (cf : PySem.Str → List W → HS → R W) : SM := (asgS (.one 4) (callE (biW .list) (consA (slotE 2) nilA)))
def st_law_5 (cf : PySem.Str → List W → HS → R W) : SM := (ifS (cmpT (cmpR G.dcts .Eq) (callK (fnC cf "_law_draw" [.pos 0, .pos 1]) (consA (slotE 1) (consA (valE (.int 2)) nilA)) nilA) (valE (.int 1))) (asgS (.one 4) (callE (biW .tuple) (consA (slotE 2) nilA))) skipS)
def st_law_6 (cf : PySem.Str → List W → HS → R W) : SM := (asgS (.one 5) (callK (fnC cf "lengths_back" [.pos 0]) (consA (slotE 4) nilA) nilA))
def st_law_7 (cf : PySem.Str → List W → HS → R W) : SM := (ifS (orT (notT (truT (callE (biW .isinstance) (consA (slotE 5) (consA (valE (.ty "tuple")) nilA))))) (orT (cmpT (cmpR G.dcts .NotEq) (callE (biW .len) (consA (slotE 5) nilA)) (valE (.int 2))) (cmpT (cmpR G.dcts .NotEq) (callE (biW .list) (consA (slotE 4) nilA)) (slotE 2)))) (retS (valE (.bl false))) skipS)
def st_law_8 (cf : PySem.Str → List W → HS → R W) : SM := (ifS (cmpT (cmpR G.dcts .IsNot) (slotE 3) (valE (.non))) (retS (andE (cmpE (cmpR G.dcts .Is) (binE (ixW G.dcts) (slotE 5) (valE (.int 0))) (valE (.non))) (andE (callE (biW .isinstance) (consA (binE (ixW G.dcts) (slotE 5) (valE (.int 1))) (consA (valE (.ty "int")) nilA))) (andE (notE (callE (biW .isinstance) (consA (binE (ixW G.dcts) (slotE 5) (valE (.int 1))) (consA (valE (.ty "bool")) nilA)))) (cmpE (cmpR G.dcts .Eq) (binE (ixW G.dcts) (slotE 5) (valE (.int 1))) (slotE 3)))))) skipS)
def st_law_9 (cf : PySem.Str → List W → HS → R W) : SM := (ifS (orT (cmpT (cmpR G.dcts .IsNot) (binE (ixW G.dcts) (slotE 5) (valE (.int 1))) (valE (.non))) (notT (truT (callE (biW .isinstance) (consA (binE (ixW G.dcts) (slotE 5) (valE (.int 0))) (consA (valE (.ty "list")) nilA)))))) (retS (valE (.bl false))) skipS)
def st_law_10 (cf : PySem.Str → List W → HS → R W) : SM := (forS (anyI (binE (ixW G.dcts) (slotE 5) (valE (.int 0)))) (.one 6) (lb_law_0 cf))
def st_law_11 (cf : PySem.Str → List W → HS → R W) : SM := (retS (andE (cmpE (cmpR G.dcts .Eq) (binE (ixW G.dcts) (slotE 5) (valE (.int 0))) (lcE (anyI (slotE 2)) 7 yesT (le_law_1 cf))) (cmpE (cmpR G.dcts .Eq) (callK (fnC cf "free_words" [.pos 0]) (consA (binE (ixW G.dcts) (slotE 5) (valE (.int 0))) nilA) nilA) (slotE 2))))
def b_law (cf : PySem.Str → List W → HS → R W) : SM := (seqS (st_law_0 cf)
    (seqS (st_law_1 cf)
    (seqS (st_law_2 cf)
    (seqS (st_law_3 cf)
    (seqS (st_law_4 cf)
    (seqS (st_law_5 cf)
    (seqS (st_law_6 cf)
    (seqS (st_law_7 cf)
    (seqS (st_law_8 cf)
    (seqS (st_law_9 cf)
    (seqS (st_law_10 cf)
    (st_law_11 cf))))))))))))
theorem u_law (cf : PySem.Str → List W → HS → R W) (x0 : W) (h : HS) : callS G cf "law" [x0] h = retR (b_law cf [some x0, none, none, none, none, none, none, none] h) := by kernel_rfl
end Lw
namespace Lw
open PySem PySem.Spec PyProof.Rows L2 Rh
theorem c_integer_within (k : Nat) (v a b : Int) (h : HS) : callF G (k + 1) "integer_within" [.int v, .int a, .int b] h = .ok (.bl (decide (a ≤ v) && decide (v ≤ b))) h := by
  rw [callF_succ, u_integer_within]
  by_cases h1 : a ≤ v <;> by_cases h2 : v ≤ b <;> simp [b_integer_within, h1, h2]
inductive Tk (n wd m : Int) : W → Prop
  | copy (d s : Int) : 1 ≤ d → d ≤ wd → 1 ≤ s → s ≤ 40 → Tk n wd m (.tup [.str "copy", .int d, .int s])
  | again (i d s : Int) : 0 ≤ i → i < m → 0 ≤ d → d < wd → 1 ≤ s → s ≤ 40 → Tk n wd m (.tup [.str "again", .int i, .int d, .int s])
  | letter (i : Int) : 0 ≤ i → i ≤ n - 1 → Tk n wd m (.tup [.str "letter", .int i])
  | turn (i : Int) : 0 ≤ i → i < 6 → Tk n wd m (.tup [.str "turn", .int i])
  | stop : Tk n wd m (.tup [.str "stop"])
abbrev Row (h : HS) (xs : List Int) (w : W) : Prop := Sq h (intsW xs) w
def In1 (wd : Int) (xs : List Int) : Prop := ∀ x ∈ xs, 1 ≤ x ∧ x ≤ wd
theorem In1.hd {wd x : Int} {xs : List Int} (h : In1 wd (x :: xs)) : 1 ≤ x ∧ x ≤ wd := h x (by simp)
theorem In1.tl {wd x : Int} {xs : List Int} (h : In1 wd (x :: xs)) : In1 wd xs := fun z hz => h z (by simp [hz])
inductive CR : PySem.Str → Prop
  | front : CR "front"
  | push : CR "push"
  | keep : CR "keep"
inductive AR : PySem.Str → Prop
  | front : AR "front"
  | push : AR "push"
  | swap : AR "swap"
  | keep : AR "keep"
def copied (row : List Int) (d : Int) (c : PySem.Str) : List Int := if c = ("keep" : PySem.Str) ∨ row = [] then row else if c = ("front" : PySem.Str) ∧ d ∈ row then d :: row.erase d else d :: row.dropLast
theorem cut_len1 {xs : List Int} (hne : xs ≠ []) : cutW (intsW xs) none (some ((xs.length : Int) - 1)) = intsW xs.dropLast := by
  have : 0 < xs.length := List.length_pos_iff.mpr hne
  rw [cut_to (by omega), intsW_take, List.dropLast_eq_take]
  congr 2
  omega
def workd (xs : List Int) (i : Nat) (d wd : Int) : Int := 1 + (xs.getD i 0 - 1 + d) % wd
theorem get_int {xs : List Int} {i : Int} (h0 : 0 ≤ i) (h1 : i < xs.length) : atI (intsW xs) i = some (.int (xs.getD i.toNat 0)) := by
  rw [atI_pos h0, intsW_get, List.getElem?_eq_getElem (by omega)]
  simp [List.getD_eq_getElem?_getD, List.getElem?_eq_getElem (show i.toNat < xs.length by omega)]
end Lw
namespace Lw
open PySem PySem.Spec PyProof.Rows L2 Rh
@[simp] theorem small_m (x : Int) : smallB (x % 2147483647) = true := by
  have h1 := Int.emod_nonneg x (show (2147483647 : Int) ≠ 0 by decide)
  have h2 := Int.emod_lt_of_pos x (show (0 : Int) < 2147483647 by decide)
  exact iLt_iff.mpr (by omega)
@[simp] theorem small_2 : smallB 2 = true := by decide
@[simp] theorem small_p : smallB 2147483647 = true := by decide
theorem small_of {i : Int} (h0 : 0 ≤ i) (h1 : i ≤ 1000000000) : smallB i = true := iLt_iff.mpr (by omega)
theorem c_mixed (k : Nat) (x p : Int) (h0 : 0 ≤ p) (h1 : p ≤ 1000) (h : HS) : ∃ r, callF G (k + 1) "_law_mixed" [.int x, .int p] h = .ok (.int r) h := by
  generalize hr : callF G (k + 1) "_law_mixed" [.int x, .int p] h = r
  rw [callF_succ, u__law_mixed] at hr
  have s1 : smallB (48271 + 2 * p) = true := small_of (by omega) (by omega)
  by_cases c1 : x < 0
  · by_cases c2 : (1000000000000000000 : Int) ≤ -x
    · simp [b__law_mixed, c1, c2] at hr
      exact ⟨_, hr.symm⟩
    · simp [b__law_mixed, c1, c2, s1] at hr
      exact ⟨_, hr.symm⟩
  · by_cases c2 : (1000000000000000000 : Int) ≤ x
    · simp [b__law_mixed, c1, c2] at hr
      exact ⟨_, hr.symm⟩
    · simp [b__law_mixed, c1, c2, s1] at hr
      exact ⟨_, hr.symm⟩
def Kept (s l : Nat) (h h' : HS) : Prop := h.sz ≤ h'.sz ∧ ∀ n, n < h.sz → n ≠ s → n ≠ l → h'.get n = h.get n
theorem Kept.refl {s l : Nat} {h : HS} : Kept s l h h := ⟨Nat.le_refl _, fun _ _ _ _ => rfl⟩
theorem Kept.trans {s l : Nat} {h h1 h2 : HS} (a : Kept s l h h1) (b : Kept s l h1 h2) : Kept s l h h2 := ⟨Nat.le_trans a.1 b.1, fun n hn x y => (b.2 n (Nat.lt_of_lt_of_le hn a.1) x y).trans (a.2 n hn x y)⟩
theorem old_kept {s l : Nat} {h h' : HS} (a : Old h h') : Kept s l h h' := ⟨a.1, fun n hn _ _ => a.2 n hn⟩
structure Src (h : HS) (s l : Nat) : Prop where
  ne : s ≠ l
  ls : s < h.sz
  ll : l < h.sz
  ex : ∃ (xs : List Int) (p c : Int), h.get s = .lst [.ref l, .int p, .int c] ∧ h.get l = .lst (intsW xs) ∧ 0 ≤ p ∧ p + xs.length ≤ 1000
theorem Src.old {h h' : HS} {s l : Nat} (S : Src h s l) (o : Old h h') : Src h' s l := by
  obtain ⟨xs, p, c, e1, e2, r⟩ := S.ex
  exact ⟨S.ne, o.lt S.ls, o.lt S.ll, xs, p, c, by rw [o.2 s S.ls, e1], by rw [o.2 l S.ll, e2], r⟩
theorem emod_rng (x : Int) {b : Int} (h : 0 < b) : 0 ≤ x % b ∧ x % b < b := ⟨Int.emod_nonneg x (by omega), Int.emod_lt_of_pos x h⟩
theorem c_draw (k : Nat) {h : HS} {s l : Nat} (S : Src h s l) (b : Int) (h1 : 0 < b) (h2 : b < 1073741824) :
    ∃ d h', callF G (k + 2) "_law_draw" [.ref s, .int b] h = .ok (.int d) h' ∧ 0 ≤ d ∧ d < b ∧ Src h' s l ∧ Kept s l h h' := by
  obtain ⟨xs, p, c, e1, e2, h3, h4⟩ := S.ex
  have n1 := S.ne
  have n2 : l ≠ s := fun e => n1 e.symm
  generalize hr : callF G (k + 2) "_law_draw" [.ref s, .int b] h = r
  rw [callF_succ, u__law_draw] at hr
  by_cases hc : c = 0 ∧ xs ≠ []
  · obtain ⟨rfl, hx⟩ := hc
    cases xs with
    | nil => exact absurd rfl hx
    | cons x t =>
      obtain ⟨v, ev⟩ := c_mixed k x p h3 (by simp at h4; omega) (h.set l (.lst (intsW t)))
      simp [b__law_draw, e1, e2, n1, n2, ev, h1, h2] at hr
      subst hr
      have q := emod_rng v h1
      refine ⟨_, _, rfl, q.1, q.2, ⟨n1, S.ls, S.ll, t, p + 1, v / b, by simp, by simp [n2], by omega, by simp at h4; omega⟩, Nat.le_refl _, fun n hn x y => by simp [x, y]⟩
  · have q := emod_rng c h1
    have hc2 : c = 0 → xs = [] := fun e => Classical.byContradiction fun z => hc ⟨e, z⟩
    by_cases c0 : c = 0
    · have := hc2 c0
      subst this
      subst c0
      simp [b__law_draw, e1, e2, n1, n2, h1, h2] at hr
      subst hr
      exact ⟨_, _, rfl, by simpa using q.1, by simpa using q.2, ⟨n1, S.ls, S.ll, [], p, 0, by simp, by simp [n2, e2], by omega, by simp at h4; simpa using h4⟩, Nat.le_refl _, fun n hn x y => by simp [x, y]⟩
    · simp [b__law_draw, e1, e2, n1, n2, h1, h2, c0] at hr
      subst hr
      exact ⟨_, _, rfl, q.1, q.2, ⟨n1, S.ls, S.ll, xs, p, c / b, by simp, by simp [n2, e2], by omega, h4⟩, Nat.le_refl _, fun n hn x y => by simp [x, y]⟩
theorem c_size (k : Nat) {h : HS} {s l : Nat} (S : Src h s l) (a u t : Int) (h1 : 0 < u) (h2 : u < 1000) (h3 : a ≤ t) (h4 : t < 1000) (h5 : 0 ≤ a) :
    ∃ d h', callF G (k + 3) "_law_size" [.ref s, .int a, .int u, .int t] h = .ok (.int d) h' ∧ a ≤ d ∧ (d < a + u ∨ d ≤ t) ∧ Src h' s l ∧ Kept s l h h' := by
  generalize hr : callF G (k + 3) "_law_size" [.ref s, .int a, .int u, .int t] h = r
  rw [callF_succ, u__law_size] at hr
  obtain ⟨d1, g1, e1, p1, p2, S1, K1⟩ := c_draw k S 6 (by decide) (by decide)
  by_cases c : d1 = 5
  · obtain ⟨d2, g2, e2, q1, q2, S2, K2⟩ := c_draw k S1 (t - a + 1) (by omega) (by omega)
    simp [b__law_size, e1, c, e2] at hr
    subst hr
    exact ⟨_, _, rfl, by omega, by omega, S2, K1.trans K2⟩
  · obtain ⟨d2, g2, e2, q1, q2, S2, K2⟩ := c_draw k S1 u (by omega) (by omega)
    simp [b__law_size, e1, c, e2] at hr
    subst hr
    exact ⟨_, _, rfl, by omega, by omega, S2, K1.trans K2⟩
end Lw
/-! texts of bits -/
namespace Lw
open PySem PySem.Spec PyProof.Rows L2 Rh
def bc (b : Bool) : Nat := if b then 49 else 48
def bt (b : Bool) : PySem.Str := ⟨#[bc b]⟩
/-- the text of the bits -/
def tx (bs : List Bool) : PySem.Str := ⟨(bs.map bc).toArray⟩
theorem bc_inj {a b : Bool} (h : bc a = bc b) : a = b := by revert h; cases a <;> cases b <;> decide
theorem bc_lt {a b : Bool} : bc a < bc b ↔ (a = false ∧ b = true) := by cases a <;> cases b <;> decide
@[simp] theorem tx_len (bs : List Bool) : (tx bs).length = bs.length := by simp [tx, PySem.Str.length]
@[simp] theorem tx_list (bs : List Bool) : (tx bs).cps.toList = bs.map bc := by simp [tx]
theorem bt_1 : ("1" : PySem.Str) = bt true := by decide +kernel
theorem bt_0 : ("0" : PySem.Str) = bt false := by decide +kernel
theorem tx_0 : ("" : PySem.Str) = tx [] := by decide +kernel
theorem bt_tx (b : Bool) : bt b = tx [b] := rfl
@[simp] theorem chrs_tx (bs : List Bool) : chrs (tx bs) = bs.map fun b => .str (bt b) := by simp [chrs, bt, Function.comp_def]
theorem map_bc_inj : ∀ {a b : List Bool}, a.map bc = b.map bc → a = b
  | [], [], _ => rfl
  | [], _ :: _, h => by cases h
  | _ :: _, [], h => by cases h
  | x :: a, y :: b, h => by
    rw [List.map_cons, List.map_cons] at h
    injection h with h1 h2
    rw [bc_inj h1, map_bc_inj h2]
theorem tx_inj {a b : List Bool} : tx a = tx b ↔ a = b := by
  refine ⟨fun h => map_bc_inj ?_, fun h => h ▸ rfl⟩
  rw [← tx_list, ← tx_list, h]
@[simp] theorem tx_ok (bs : List Bool) : PyData.strOk (tx bs) = true := by
  unfold PyData.strOk
  rw [← Array.all_toList, tx_list, List.all_eq_true]
  intro x hx
  obtain ⟨b, _, rfl⟩ := List.mem_map.mp hx
  cases b <;> decide
@[simp] theorem bt_ok (b : Bool) : PyData.strOk (bt b) = true := tx_ok [b]
theorem bt_beq (a b : Bool) : (bt a == bt b) = (a == b) := by cases a <;> cases b <;> decide
theorem tx_beq (a b : List Bool) : (tx a == tx b) = (a == b) := by
  by_cases h : a = b
  · subst h
    rw [beq_iff_eq.mpr rfl, beq_iff_eq.mpr rfl]
  · have : tx a ≠ tx b := fun e => h (tx_inj.mp e)
    rw [beq_eq_false_iff_ne.mpr this, beq_eq_false_iff_ne.mpr h]
@[simp] theorem tx_app (a b : List Bool) : tx a ++ tx b = tx (a ++ b) := by
  show PySem.Str.append (tx a) (tx b) = _
  simp [PySem.Str.append, tx]
theorem tx_take (bs : List Bool) (n : Nat) : cutS (tx bs) none (some (n : Int)) = tx (bs.take n) := by
  unfold cutS
  rw [HT.sIx_none, HT.sIx_nat, tx_len, tx_list]
  unfold tx
  rw [List.map_take]
  simp only [Nat.sub_zero, List.drop_zero]
  by_cases h : n ≤ bs.length
  · rw [Nat.min_eq_left h]
  · rw [Nat.min_eq_right (by omega), List.take_of_length_le (by simp), List.take_of_length_le (by simp; omega)]
theorem tx_drop (bs : List Bool) (n : Nat) : cutS (tx bs) (some (n : Int)) none = tx (bs.drop n) := by
  unfold cutS
  rw [HT.sIx_none, HT.sIx_nat, tx_len, tx_list]
  unfold tx
  rw [List.map_drop]
  by_cases h : n ≤ bs.length
  · rw [Nat.min_eq_left h, List.take_of_length_le (by simp)]
  · rw [Nat.min_eq_right (by omega), List.drop_of_length_le (i := n) (by simp; omega), List.drop_of_length_le (by simp)]
    simp
theorem atI_tx (bs : List Bool) {i : Nat} (h : i < bs.length) : ((atI ((tx bs).cps.toList) (i : Int)).map fun c => W.str ⟨#[c]⟩) = some (.str (bt bs[i])) := by
  rw [tx_list]
  unfold atI ixN
  have h2 : (i : Int) < (bs.length : Int) := by omega
  simp [h, h2, bt]
theorem take_beq_prefix : ∀ (b a : List Nat), (decide (b.length ≤ a.length) && (a.take b.length == b)) = b.isPrefixOf a
  | [], a => by simp
  | y :: b, [] => by simp
  | y :: b, x :: a => by
    rw [List.isPrefixOf_cons₂, ← take_beq_prefix b a]
    simp only [List.length_cons, List.take_succ_cons, Nat.add_le_add_iff_right]
    by_cases e : y = x
    · subst e; simp
    · have e2 : ¬ x = y := fun z => e z.symm
      rw [beq_eq_false_iff_ne.mpr e]
      have : ((x :: List.take b.length a) == (y :: b)) = false := beq_eq_false_iff_ne.mpr (fun z => e2 (List.cons.inj z).1)
      rw [this]
      simp
theorem map_prefix : ∀ (b a : List Bool), (b.map bc).isPrefixOf (a.map bc) = b.isPrefixOf a
  | [], a => by simp
  | y :: b, [] => by simp
  | y :: b, x :: a => by
    rw [List.map_cons, List.map_cons, List.isPrefixOf_cons₂, List.isPrefixOf_cons₂, map_prefix b a]
    have : (bc y == bc x) = (y == x) := by cases x <;> cases y <;> decide
    rw [this]
theorem tx_sw (a b : List Bool) : PySem.Txt.startswith (tx a) (tx b) = b.isPrefixOf a := by
  unfold PySem.Txt.startswith
  rw [PySem.StrLaws.subAt_eq, List.drop_zero, tx_list, tx_list, tx_len, tx_len, ← map_prefix, ← take_beq_prefix]
  simp
/-- the number of the bits, the first the greatest -/
def wo (bs : List Bool) : Nat := bs.foldl (fun a b => 2 * a + b.toNat) 0
theorem wo_snoc (bs : List Bool) (b : Bool) : wo (bs ++ [b]) = 2 * wo bs + b.toNat := by simp [wo]
theorem wo_nil : wo [] = 0 := rfl
/-- the digits of u, n of them -/
def figs (u : Nat) : Nat → List Bool
  | 0 => []
  | n + 1 => figs (u / 2) n ++ [decide (u % 2 = 1)]
theorem figs_len : ∀ (n u : Nat), (figs u n).length = n
  | 0, _ => rfl
  | n + 1, u => by simp [figs, figs_len n]
theorem wo_figs : ∀ (n u : Nat), wo (figs u n) = u % 2 ^ n
  | 0, u => by simp [figs, wo, Nat.mod_one]
  | n + 1, u => by
    rw [figs, wo_snoc, wo_figs n (u / 2), Nat.pow_succ, Nat.mul_comm (2 ^ n) 2, Nat.mod_mul]
    rcases Nat.mod_two_eq_zero_or_one u with h | h <;> simp [h] <;> omega
theorem wo_lt_aux : ∀ (bs : List Bool) (n : Nat), bs.length = n → wo bs < 2 ^ n := by
  intro bs n
  induction n generalizing bs with
  | zero => intro h; rw [List.length_eq_zero_iff.mp h]; decide
  | succ n ih =>
    intro h
    have ne : bs ≠ [] := fun e => by rw [e] at h; cases h
    have e := List.dropLast_concat_getLast ne
    rw [← e, wo_snoc]
    have := ih bs.dropLast (by simp; omega)
    have b1 : (bs.getLast ne).toNat ≤ 1 := by cases bs.getLast ne <;> decide
    rw [Nat.pow_succ]
    omega
theorem wo_lt (bs : List Bool) : wo bs < 2 ^ bs.length := wo_lt_aux bs _ rfl
theorem wo_app (a : List Bool) : ∀ (n : Nat) (b : List Bool), b.length = n → wo (a ++ b) = wo a * 2 ^ b.length + wo b := by
  intro n
  induction n with
  | zero => intro b h; rw [List.length_eq_zero_iff.mp h]; simp [wo]
  | succ n ih =>
    intro b h
    have ne : b ≠ [] := fun e => by rw [e] at h; cases h
    have e := List.dropLast_concat_getLast ne
    generalize b.getLast ne = z at e
    generalize b.dropLast = c at e
    subst e
    have hc : c.length = n := by simpa using h
    rw [← List.append_assoc, wo_snoc, wo_snoc, ih c hc, List.length_append, List.length_singleton, Nat.pow_succ, Nat.left_distrib, ← Nat.mul_assoc 2, Nat.mul_comm 2, Nat.mul_assoc (wo a), Nat.mul_comm 2 (2 ^ c.length)]
    omega
theorem wo_inj : ∀ (n : Nat) (a b : List Bool), a.length = n → b.length = n → wo a = wo b → a = b := by
  intro n
  induction n with
  | zero => intro a b h1 h2 _; rw [List.length_eq_zero_iff.mp h1, List.length_eq_zero_iff.mp h2]
  | succ n ih =>
    intro a b h1 h2 h
    have na : a ≠ [] := fun e => by rw [e] at h1; cases h1
    have nb : b ≠ [] := fun e => by rw [e] at h2; cases h2
    have ea := List.dropLast_concat_getLast na
    have eb := List.dropLast_concat_getLast nb
    generalize a.getLast na = x at ea
    generalize a.dropLast = a' at ea
    generalize b.getLast nb = y at eb
    generalize b.dropLast = b' at eb
    subst ea eb
    rw [wo_snoc, wo_snoc] at h
    have hx : x.toNat ≤ 1 := by cases x <;> decide
    have hy : y.toNat ≤ 1 := by cases y <;> decide
    have h3 : wo a' = wo b' := by omega
    have h4 : x.toNat = y.toNat := by omega
    rw [ih a' b' (by simpa using h1) (by simpa using h2) h3]
    have : x = y := by revert h4; cases x <;> cases y <;> decide
    rw [this]
end Lw
/-! the format's digits -/
namespace Lw
open PySem PySem.Spec PyProof.Rows L2 Rh
theorem fbody_fig : ∀ u, u < 1024 → fbody u = tx (figs u 10) := by
  have : (List.range 1024).all (fun u => decide (fbody u = tx (figs u 10))) = true := by decide +kernel
  intro u h
  exact of_decide_eq_true (List.all_eq_true.mp this u (List.mem_range.mpr h))
end Lw
/-! the plain defs of k22 -/
namespace Lw
open PySem PySem.Spec PyProof.Rows L2 Rh
theorem pow_le20 {n : Nat} (h : n ≤ 20) : 2 ^ n ≤ 1048576 := Nat.pow_le_pow_right (n := 2) (by decide) h
theorem c_two (k n : Nat) (h : HS) (hn : n ≤ 20) : callF G (k + 1) "_law_two" [.int (n : Int)] h = .ok (.int ((2 ^ n : Nat) : Int)) h := by
  rw [callF_succ, u__law_two]
  obtain ⟨σ', h', e, ⟨rfl, j, o, hj, rfl⟩⟩ := forL_ok (t := .one 2) (body := lb__law_two_0 (callF G k))
    (fun r σ h' => h' = h ∧ ∃ j o, j + r.length = n ∧ σ = [some (.int (n : Int)), some (.int ((2 ^ j : Nat) : Int)), o]) (fun y r σ h' I => by
      obtain ⟨rfl, j, o, hj, rfl⟩ := I
      have s1 : smallB ((2 ^ j : Nat) : Int) = true := by
        have q := pow_le20 (n := j) (by omega)
        generalize 2 ^ j = z at q
        exact small_of (by omega) (by omega)
      refine ⟨_, rfl, [some (.int (n : Int)), some (.int ((2 ^ (j + 1) : Nat) : Int)), some y], h', .inl ?_, rfl, j + 1, some y, by simp at hj; omega, rfl⟩
      simp [lb__law_two_0, s1, Nat.pow_succ]) (rng 0 n) [some (.int (n : Int)), some (.int 1), none] h ⟨rfl, 0, none, by simp [rng_len], rfl⟩
  have hj : j = n := by simpa using hj
  subst hj
  have hl : (rng 0 j).length ≤ 100000 := by rw [rng_len]; omega
  have g1 : ((j : Nat) : Int) < 1000000 := by omega
  simp [b__law_two, forS_at, forM_vals, hl, e, g1]
theorem c_worth (k : Nat) (bs : List Bool) (h : HS) (hl : bs.length ≤ 10) : callF G (k + 1) "_law_worth" [.str (tx bs)] h = .ok (.int (wo bs : Nat)) h := by
  rw [callF_succ, u__law_worth]
  obtain ⟨σ', h', e, ⟨rfl, d, o, hd, rfl⟩⟩ := forL_ok (t := .one 2) (body := lb__law_worth_0 (callF G k))
    (fun r σ h' => h' = h ∧ ∃ d o, (∃ q, d ++ q = bs ∧ r = q.map fun b => .str (bt b)) ∧ σ = [some (.str (tx bs)), some (.int (wo d : Nat)), o]) (fun y r σ h' I => by
      obtain ⟨rfl, d, o, ⟨q, hq, hr⟩, rfl⟩ := I
      cases q with
      | nil => cases hr
      | cons b q =>
        rw [List.map_cons] at hr
        injection hr with h1 h2
        subst h1 h2
        have s1 : smallB ((wo d : Nat) : Int) = true := by
          have q1 := wo_lt d
          have q2 := pow_le20 (n := d.length) (by have := congrArg List.length hq; simp at this; omega)
          generalize 2 ^ d.length = z at q1 q2
          exact small_of (by omega) (by omega)
        refine ⟨_, rfl, [some (.str (tx bs)), some (.int (wo (d ++ [b]) : Nat)), some (.str (bt b))], h', .inl ?_, rfl, d ++ [b], _, ⟨q, by simp [← hq], rfl⟩, rfl⟩
        rw [wo_snoc]
        cases b <;> simp [lb__law_worth_0, s1, bt_1, bt_beq]) (bs.map fun b => .str (bt b)) [some (.str (tx bs)), some (.int 0), none] h ⟨rfl, [], none, ⟨bs, rfl, rfl⟩, rfl⟩
  obtain ⟨q, hq, hr⟩ := hd
  have : q = [] := by cases q with
    | nil => rfl
    | cons _ _ => cases hr
  subst this
  have : d = bs := by simpa using hq
  subst this
  have hl2 : d.length ≤ 100000 := by omega
  simp [b__law_worth, forS_at, forM_vals, hl2, e]
theorem c_is_bits (k : Nat) (bs : List Bool) (h : HS) (hl : bs.length ≤ 100) : callF G (k + 1) "is_bits" [.str (tx bs)] h = .ok (.bl true) h := by
  rw [callF_succ, u_is_bits]
  obtain ⟨σ', h', e, ⟨rfl, o, q, hq, rfl⟩⟩ := forL_ok (t := .one 1) (body := lb_is_bits_0 (callF G k))
    (fun r σ h' => h' = h ∧ ∃ o, ∃ q : List Bool, r = q.map (fun b => .str (bt b)) ∧ σ = [some (.str (tx bs)), o]) (fun y r σ h' I => by
      obtain ⟨rfl, o, q, hr, rfl⟩ := I
      cases q with
      | nil => cases hr
      | cons b q =>
        rw [List.map_cons] at hr
        injection hr with h1 h2
        subst h1 h2
        refine ⟨_, rfl, [some (.str (tx bs)), some (.str (bt b))], h', .inl ?_, rfl, _, q, rfl, rfl⟩
        cases b <;> simp [lb_is_bits_0, bt_1, bt_0, bt_beq]) (bs.map fun b => .str (bt b)) [some (.str (tx bs)), none] h ⟨rfl, none, bs, rfl, rfl⟩
  have hl2 : bs.length ≤ 100000 := by omega
  simp [b_is_bits, forS_at, forM_vals, hl2, e]
theorem c_word_from (k u n : Nat) (h : HS) (hu : u < 1024) (hn : n ≤ 10) : callF G (k + 1) "word_from" [.int (u : Int), .int (n : Int)] h = .ok (.str (tx ((figs u 10).take n))) h := by
  rw [callF_succ, u_word_from]
  have e := fbody_fig u hu
  have e1 : (fbody u).length ≤ 16777216 := by rw [e, tx_len, figs_len]; omega
  simp [b_word_from, e, e1, tx_take, figs_len]
theorem c_figures (k u : Nat) (h : HS) (hu : u ≤ 1000000) : callF G (k + 1) "_law_figures" [.int (u : Int), .int 10] h = .ok (.str (tx (figs u 10))) h := by
  rw [callF_succ, u__law_figures]
  obtain ⟨σ', h', e, ⟨rfl, v, j, d, o, hj, hv, hd, rfl⟩⟩ := forL_ok (t := .one 3) (body := lb__law_figures_0 (callF G k))
    (fun r σ h' => h' = h ∧ ∃ (v j : Nat) (d : List Bool) (o : Option W), j = r.length ∧ v ≤ u ∧ figs v j ++ d = figs u 10 ∧ σ = [some (.int (v : Int)), some (.int 10), some (.str (tx d)), o]) (fun y r σ h' I => by
      obtain ⟨rfl, v, j, d, o, hj, hv, hd, rfl⟩ := I
      have hj : j = r.length + 1 := by simpa using hj
      subst hj
      have hdl : d.length ≤ 10 := by have := congrArg List.length hd; simp [figs_len] at this; omega
      refine ⟨_, rfl, [some (.int ((v / 2 : Nat) : Int)), some (.int 10), some (.str (tx (decide (v % 2 = 1) :: d))), some y], h', .inl ?_, rfl, v / 2, r.length, _, _, rfl, by omega, by rw [← hd, figs]; simp, rfl⟩
      have s1 : smallB (v : Int) = true := small_of (by omega) (by omega)
      rcases Nat.mod_two_eq_zero_or_one v with q | q
      · have q1 : ((v : Int) % 2) = 0 := by omega
        have q2 : (toString (0 : Int) : String) = "0" := by decide
        have q3 : strW (.int 0) h' = .ok (.str (tx [false])) h' := by
          rw [strW_i (by decide), show (Str.ofString (toString (0 : Int))) = tx [false] from by decide +kernel]
        have g : 1 + d.length ≤ 16777216 := by omega
        simp [lb__law_figures_0, s1, q, q1, q3, g]
      · have q1 : ((v : Int) % 2) = 1 := by omega
        have q2 : (toString (1 : Int) : String) = "1" := by decide
        have q3 : strW (.int 1) h' = .ok (.str (tx [true])) h' := by
          rw [strW_i (by decide), show (Str.ofString (toString (1 : Int))) = tx [true] from by decide +kernel]
        have g : 1 + d.length ≤ 16777216 := by omega
        simp [lb__law_figures_0, s1, q, q1, q3, g]) (rng 0 10) [some (.int (u : Int)), some (.int 10), some (.str ""), none] h ⟨rfl, u, 10, [], none, by simp [rng_len], Nat.le_refl _, by simp, by rw [tx_0]⟩
  have hj : j = 0 := by simpa using hj
  subst hj
  have hl : (rng 0 10).length ≤ 100000 := by rw [rng_len]; omega
  rw [figs, List.nil_append] at hd
  subst hd
  simp [b__law_figures, forS_at, forM_vals, hl, e]
end Lw
/-! the order of the places -/
namespace Lw
open PySem PySem.Spec PyProof.Rows L2 Rh
def ord (ls : List Nat) : List Nat := (List.range 10).flatMap fun L => (List.range ls.length).filter fun k => decide (ls.getD k 0 = L + 1)
def prK (ls : List Nat) (k : Nat) : Int × Int := ((ls.getD k 0 : Nat), (k : Int))
theorem insP_perm (x : Int × Int) : ∀ l, (insP x l).Perm (x :: l)
  | [] => .refl _
  | y :: r => by
    unfold insP
    split
    · exact .refl _
    · exact ((insP_perm x r).cons y).trans (.swap x y r)
theorem sortP_perm : ∀ l, (sortP l).Perm l
  | [] => .refl _
  | x :: r => (insP_perm x _).trans ((sortP_perm r).cons x)
theorem insP_sorted (x : Int × Int) : ∀ l, l.Pairwise (fun a b => prC a ≤ prC b) → (insP x l).Pairwise (fun a b => prC a ≤ prC b)
  | [], _ => by simp [insP]
  | y :: r, h => by
    unfold insP
    rw [List.pairwise_cons] at h
    split
    · rename_i c
      rw [List.pairwise_cons, List.pairwise_cons]
      exact ⟨fun z hz => (List.mem_cons.mp hz).elim (fun e => e ▸ c) (fun m => Int.le_trans c (h.1 z m)), h⟩
    · rename_i c
      rw [List.pairwise_cons]
      refine ⟨fun z hz => ?_, insP_sorted x r h.2⟩
      rcases List.mem_cons.mp ((insP_perm x r).mem_iff.mp hz) with e | m
      · subst e; omega
      · exact h.1 z m
theorem sortP_sorted : ∀ l, (sortP l).Pairwise (fun a b => prC a ≤ prC b)
  | [] => .nil
  | x :: r => insP_sorted x _ (sortP_sorted r)
theorem sorted_eq : ∀ (l1 l2 : List (Int × Int)), l1.Perm l2 → l1.Pairwise (fun a b => prC a ≤ prC b) → l2.Pairwise (fun a b => prC a ≤ prC b) → (∀ x ∈ l1, ∀ y ∈ l1, prC x = prC y → x = y) → l1 = l2
  | [], l2, p, _, _, _ => (List.nil_perm.mp p).symm ▸ rfl
  | x :: l1, [], p, _, _, _ => by cases List.perm_nil.mp p
  | x :: l1, y :: l2, p, h1, h2, hi => by
    rw [List.pairwise_cons] at h1 h2
    have hx : x ∈ y :: l2 := p.mem_iff.mp List.mem_cons_self
    have hy : y ∈ x :: l1 := p.mem_iff.mpr List.mem_cons_self
    have e : x = y := by
      rcases List.mem_cons.mp hx with e | mx
      · exact e
      · rcases List.mem_cons.mp hy with e | my
        · exact e.symm
        · have a := h1.1 y my
          have b := h2.1 x mx
          exact hi x List.mem_cons_self y hy (by omega)
    subst e
    rw [sorted_eq l1 l2 p.cons_inv h1.2 h2.2 fun a ha b hb => hi a (List.mem_cons_of_mem _ ha) b (List.mem_cons_of_mem _ hb)]
theorem ord_mem {ls : List Nat} (hl : ∀ x ∈ ls, 1 ≤ x ∧ x ≤ 10) {k : Nat} : k ∈ ord ls ↔ k < ls.length := by
  unfold ord
  simp only [List.mem_flatMap, List.mem_range, List.mem_filter, decide_eq_true_eq]
  refine ⟨fun ⟨_, _, h, _⟩ => h, fun h => ?_⟩
  have e : ls.getD k 0 = ls[k] := by simp [h]
  have m := hl ls[k] (List.getElem_mem h)
  exact ⟨ls.getD k 0 - 1, by omega, h, by omega⟩
theorem ord_sorted {ls : List Nat} (h64 : ls.length < 64) : (ord ls).Pairwise (fun a b => ls.getD a 0 < ls.getD b 0 ∨ (ls.getD a 0 = ls.getD b 0 ∧ a < b)) := by
  unfold ord
  rw [List.pairwise_flatMap]
  refine ⟨fun L hL => ?_, ?_⟩
  · have q : ((List.range ls.length).filter fun k => decide (ls.getD k 0 = L + 1)).Pairwise (fun a b => a < b) := List.Pairwise.filter _ List.pairwise_lt_range
    refine q.imp_of_mem fun {a b} ha hb h => .inr ⟨?_, h⟩
    have a1 := of_decide_eq_true (List.mem_filter.mp ha).2
    have b1 := of_decide_eq_true (List.mem_filter.mp hb).2
    rw [a1, b1]
  · refine List.pairwise_lt_range.imp fun {a b} h x hx y hy => .inl ?_
    have a1 := of_decide_eq_true (List.mem_filter.mp hx).2
    have b1 := of_decide_eq_true (List.mem_filter.mp hy).2
    omega
theorem ord_nodup {ls : List Nat} (h64 : ls.length < 64) : (ord ls).Nodup := (ord_sorted h64).imp fun {a b} h e => by subst e; omega
theorem ord_perm {ls : List Nat} (hl : ∀ x ∈ ls, 1 ≤ x ∧ x ≤ 10) (h64 : ls.length < 64) : (ord ls).Perm (List.range ls.length) :=
  (List.perm_ext_iff_of_nodup (ord_nodup h64) List.nodup_range).mpr fun k => by rw [ord_mem hl, List.mem_range]
theorem sort_ord {ls : List Nat} (hl : ∀ x ∈ ls, 1 ≤ x ∧ x ≤ 10) (h64 : ls.length < 64) : sortP ((List.range ls.length).map (prK ls)) = (ord ls).map (prK ls) := by
  refine sorted_eq _ _ ((sortP_perm _).trans ((ord_perm hl h64).symm.map _)) (sortP_sorted _) ?_ ?_
  · rw [List.pairwise_map]
    refine (ord_sorted h64).imp_of_mem fun {a b} ha hb h => ?_
    have a1 := (ord_mem hl).mp ha
    have b1 := (ord_mem hl).mp hb
    unfold prC prK
    dsimp only
    rcases h with h | h <;> omega
  · intro x hx y hy e
    obtain ⟨a, ha, rfl⟩ := List.mem_map.mp ((sortP_perm _).mem_iff.mp hx)
    obtain ⟨b, hb, rfl⟩ := List.mem_map.mp ((sortP_perm _).mem_iff.mp hy)
    rw [List.mem_range] at ha hb
    unfold prC prK at e
    dsimp only at e
    have : a = b := by omega
    rw [this]
end Lw
/-! the words tile -/
namespace Lw
open PySem PySem.Spec PyProof.Rows L2 Rh
theorem pow_split {m n : Nat} (h : m ≤ n) (h2 : n ≤ 10) : 2 ^ (10 - m) = 2 ^ (n - m) * 2 ^ (10 - n) := by
  rw [← Nat.pow_add]
  congr 1
  omega
theorem wo_split (a b : List Bool) (h : a.length + b.length ≤ 10) : wo (a ++ b) * 2 ^ (10 - (a.length + b.length)) = wo a * 2 ^ (10 - a.length) + wo b * 2 ^ (10 - (a.length + b.length)) ∧ wo b * 2 ^ (10 - (a.length + b.length)) < 2 ^ (10 - a.length) := by
  have p := pow_split (m := a.length) (n := a.length + b.length) (by omega) h
  have e : a.length + b.length - a.length = b.length := by omega
  rw [e] at p
  have q : 0 < 2 ^ (10 - (a.length + b.length)) := Nat.pow_pos (by decide)
  rw [wo_app a _ b rfl, p]
  refine ⟨by rw [Nat.right_distrib, Nat.mul_assoc], Nat.mul_lt_mul_of_pos_right (wo_lt b) q⟩
/-- the place where a text's part of the 1024 begins -/
def lo (w : List Bool) : Nat := wo w * 2 ^ (10 - w.length)
def sz (w : List Bool) : Nat := 2 ^ (10 - w.length)
theorem lo_in (a b : List Bool) (h : a.length + b.length ≤ 10) : lo a ≤ lo (a ++ b) ∧ lo (a ++ b) < lo a + sz a := by
  have q := wo_split a b h
  unfold lo sz
  rw [List.length_append]
  omega
theorem wo_cons (x : Bool) (w : List Bool) : wo (x :: w) = x.toNat * 2 ^ w.length + wo w := by
  have := wo_app [x] _ w rfl
  rw [List.singleton_append] at this
  rw [this]
  simp [wo]
theorem lex_same : ∀ (w a : List Bool), w.length = a.length → wo w < wo a → w.map bc < a.map bc
  | [], [], _, h => by cases h
  | [], _ :: _, h, _ => by cases h
  | _ :: _, [], h, _ => by cases h
  | x :: w, y :: a, h, lt => by
    have hl : w.length = a.length := by simpa using h
    rw [wo_cons, wo_cons, hl] at lt
    have q1 := wo_lt w
    have q2 := wo_lt a
    rw [hl] at q1
    rw [List.map_cons, List.map_cons, List.cons_lt_cons_iff]
    cases x <;> cases y
    · exact .inr ⟨rfl, lex_same w a hl (by simpa using lt)⟩
    · exact .inl (by decide)
    · simp at lt
      omega
    · exact .inr ⟨rfl, lex_same w a hl (by simpa using lt)⟩
theorem lex_app : ∀ (w a b : List Nat), w.length = a.length → w < a → w < a ++ b
  | [], [], _, _, h => by simp at h
  | [], _ :: _, _, h, _ => by cases h
  | _ :: _, [], _, h, _ => by cases h
  | x :: w, y :: a, b, h, lt => by
    rw [List.cons_append, List.cons_lt_cons_iff]
    rw [List.cons_lt_cons_iff] at lt
    rcases lt with l | ⟨e, l⟩
    · exact .inl l
    · exact .inr ⟨e, lex_app w a b (by simpa using h) l⟩
/-- a text above a word that it does not begin with -/
theorem above {w t : List Bool} (hm : w.length ≤ t.length) (hn : t.length ≤ 10) (h : lo w ≤ lo t) (np : w.isPrefixOf t = false) : w.map bc < t.map bc ∧ lo w + sz w ≤ lo t := by
  have ea : (t.take w.length).length = w.length := by simp; omega
  have et : t.take w.length ++ t.drop w.length = t := List.take_append_drop _ _
  generalize t.take w.length = a at ea et
  generalize t.drop w.length = b at et
  subst et
  rw [List.length_append] at hn
  have q := lo_in a b hn
  have ne : w ≠ a := fun e => by
    subst e
    rw [List.isPrefixOf_iff_prefix.mpr (List.prefix_append _ _)] at np
    cases np
  have nw : wo w ≠ wo a := fun e => ne (wo_inj _ w a ea.symm rfl e)
  have ps : 0 < 2 ^ (10 - w.length) := Nat.pow_pos (by decide)
  unfold lo sz at *
  rw [ea] at q
  have lt : wo w < wo a := by
    refine Nat.lt_of_le_of_ne (Nat.le_of_not_lt fun c => ?_) nw
    have : (wo a + 1) * 2 ^ (10 - w.length) ≤ wo w * 2 ^ (10 - w.length) := Nat.mul_le_mul_right _ c
    rw [Nat.right_distrib] at this
    omega
  refine ⟨by rw [List.map_append]; exact lex_app _ _ _ (by simp [ea]) (lex_same w a ea.symm lt), ?_⟩
  have : (wo w + 1) * 2 ^ (10 - w.length) ≤ wo a * 2 ^ (10 - w.length) := Nat.mul_le_mul_right _ lt
  rw [Nat.right_distrib] at this
  omega
inductive Tile : List (List Bool) → Nat → Prop
  | nil : Tile [] 0
  | snoc {ws : List (List Bool)} {u : Nat} {w : List Bool} : Tile ws u → lo w = u → w.length ≤ 10 → Tile (ws ++ [w]) (u + sz w)
theorem Tile.le {ws : List (List Bool)} {u : Nat} (T : Tile ws u) : ∀ w ∈ ws, lo w + sz w ≤ u := by
  induction T with
  | nil => intro w h; cases h
  | snoc T e l ih =>
    intro w h
    rcases List.mem_append.mp h with m | m
    · have := ih w m; omega
    · rw [List.mem_singleton] at m
      subst m
      omega
/-- what lies below a text -/
def undr (t : List Bool) (ws : List (List Bool)) : Nat := ws.foldl (fun s w => s + 2 ^ (t.length - w.length)) 0
theorem undr_snoc (t : List Bool) (ws : List (List Bool)) (w : List Bool) : undr t (ws ++ [w]) = undr t ws + 2 ^ (t.length - w.length) := by simp [undr]
theorem Tile.up {ws : List (List Bool)} {u : Nat} (T : Tile ws u) {t : List Bool} (hn : t.length ≤ 10) : (∀ w ∈ ws, w.length ≤ t.length) → (∀ w ∈ ws, w.isPrefixOf t = false) → u ≤ lo t ∧ (∀ w ∈ ws, w.map bc < t.map bc) ∧ undr t ws * sz t = u := by
  induction T with
  | nil => exact fun _ _ => ⟨Nat.zero_le _, (fun w h => by cases h), by simp [undr]⟩
  | @snoc ws u w T e l ih =>
    intro hl hp
    obtain ⟨i1, i2, i3⟩ := ih (fun w h => hl w (List.mem_append_left _ h)) (fun w h => hp w (List.mem_append_left _ h))
    have mw : w ∈ ws ++ [w] := List.mem_append_right _ (by simp)
    obtain ⟨a1, a2⟩ := above (hl w mw) hn (by omega) (hp w mw)
    refine ⟨by omega, fun w' h => ?_, ?_⟩
    · rcases List.mem_append.mp h with m | m
      · exact i2 w' m
      · rw [List.mem_singleton] at m
        subst m
        exact a1
    · rw [undr_snoc, Nat.right_distrib, i3]
      unfold sz
      rw [← pow_split (hl w mw) hn]
theorem Tile.pre {ws : List (List Bool)} {u : Nat} (T : Tile ws u) {t w : List Bool} (hn : t.length ≤ 10) (hw : w ∈ ws) (hp : w.isPrefixOf t = true) : lo t < u := by
  obtain ⟨b, rfl⟩ := List.isPrefixOf_iff_prefix.mp hp
  rw [List.length_append] at hn
  have q := lo_in w b hn
  have := T.le w hw
  omega
/-- the word that stands at a place is the text there -/
theorem word_is {u : Nat} {t : List Bool} (hn : t.length ≤ 10) (hu : u < 1024) (hd : ∃ c, u = c * sz t) : t = (figs u 10).take t.length ↔ lo t = u := by
  obtain ⟨c, rfl⟩ := hd
  have fl := figs_len 10 (c * sz t)
  have e : (figs (c * sz t) 10).take t.length ++ (figs (c * sz t) 10).drop t.length = figs (c * sz t) 10 := List.take_append_drop _ _
  have la : ((figs (c * sz t) 10).take t.length).length = t.length := by simp [fl]; omega
  have lb : ((figs (c * sz t) 10).drop t.length).length = 10 - t.length := by simp [fl]
  have ew : wo (figs (c * sz t) 10) = c * sz t := by rw [wo_figs, Nat.mod_eq_of_lt hu]
  generalize (figs (c * sz t) 10).take t.length = a at e la
  generalize (figs (c * sz t) 10).drop t.length = b at e lb
  rw [← e, wo_app a _ b rfl, lb] at ew
  have q := wo_lt b
  rw [lb] at q
  have sp : sz t = 2 ^ (10 - t.length) := rfl
  rw [← sp] at ew q
  have pos : 0 < sz t := Nat.pow_pos (by decide)
  have ea : wo a = c := by
    have h1 : (wo a * sz t + wo b) / sz t = c := by rw [ew]; exact Nat.mul_div_cancel _ pos
    rw [Nat.mul_comm, Nat.mul_add_div pos, Nat.div_eq_of_lt q] at h1
    exact h1
  constructor
  · intro h
    subst h
    unfold lo
    rw [← sp, ea]
  · intro h
    unfold lo at h
    rw [← sp] at h
    have : wo t = c := Nat.eq_of_mul_eq_mul_right pos h
    exact wo_inj _ t a rfl la (by rw [this, ea])
end Lw
/-! the law's walk and the def's walk find the same fault -/
namespace Lw
open PySem PySem.Spec PyProof.Rows L2 Rh
/-- what the law adds up -/
def undL (t : List Bool) (ws : List (List Bool)) : Nat := ws.foldl (fun s w => if w.map bc < t.map bc then s + 2 ^ (t.length - w.length) else s) 0
def fltW (ts : List (List Bool)) : List Nat → List (List Bool) → Option Nat
  | [], _ => none
  | k :: r, ws => if (ws.any fun w => w.isPrefixOf (ts.getD k [])) = true ∨ undL (ts.getD k []) ws ≠ wo (ts.getD k []) then some k else fltW ts r (ws ++ [ts.getD k []])
def bckW (ts : List (List Bool)) : List Nat → Nat → Option Nat
  | [], _ => none
  | k :: r, u => if u = 1024 ∨ ts.getD k [] ≠ (figs u 10).take (ts.getD k []).length then some k else bckW ts r (u + sz (ts.getD k []))
theorem foldl_undL (t : List Bool) : ∀ (ws : List (List Bool)) (s : Nat), (∀ w ∈ ws, w.map bc < t.map bc) → ws.foldl (fun s w => if w.map bc < t.map bc then s + 2 ^ (t.length - w.length) else s) s = ws.foldl (fun s w => s + 2 ^ (t.length - w.length)) s
  | [], _, _ => rfl
  | w :: ws, s, h => by
    rw [List.foldl_cons, List.foldl_cons, if_pos (h w List.mem_cons_self), foldl_undL t ws _ fun w' m => h w' (List.mem_cons_of_mem _ m)]
theorem undL_undr {t : List Bool} {ws : List (List Bool)} (h : ∀ w ∈ ws, w.map bc < t.map bc) : undL t ws = undr t ws := foldl_undL t ws 0 h
theorem Tile.dvd {ws : List (List Bool)} {u : Nat} (T : Tile ws u) {n : Nat} (hn : n ≤ 10) : (∀ w ∈ ws, w.length ≤ n) → ∃ c, u = c * 2 ^ (10 - n) := by
  induction T with
  | nil => exact fun _ => ⟨0, by simp⟩
  | @snoc ws u w T e l ih =>
    intro h
    obtain ⟨c, rfl⟩ := ih fun w' m => h w' (List.mem_append_left _ m)
    refine ⟨c + 2 ^ (n - w.length), ?_⟩
    unfold sz
    rw [pow_split (h w (List.mem_append_right _ (by simp))) hn, Nat.right_distrib]
theorem lo_sz {w : List Bool} (h : w.length ≤ 10) : lo w + sz w ≤ 1024 := by
  have q := wo_lt w
  have : (wo w + 1) * 2 ^ (10 - w.length) ≤ 2 ^ w.length * 2 ^ (10 - w.length) := Nat.mul_le_mul_right _ q
  rw [Nat.right_distrib, ← Nat.pow_add, show w.length + (10 - w.length) = 10 by omega] at this
  unfold lo sz
  omega
theorem sz_pos (w : List Bool) : 0 < sz w := Nat.pow_pos (by decide)
theorem Tile.top {ws : List (List Bool)} {u : Nat} (T : Tile ws u) : u ≤ 1024 := by
  cases T with
  | nil => omega
  | snoc T e l => have := lo_sz l; omega
/-- one step of both walks -/
theorem step_same {ws : List (List Bool)} {u : Nat} (T : Tile ws u) {t : List Bool} (hn : t.length ≤ 10) (hl : ∀ w ∈ ws, w.length ≤ t.length) :
    ((ws.any fun w => w.isPrefixOf t) = true ∨ undL t ws ≠ wo t ↔ u = 1024 ∨ t ≠ (figs u 10).take t.length) ∧ (¬ (u = 1024 ∨ t ≠ (figs u 10).take t.length) → Tile (ws ++ [t]) (u + sz t)) := by
  have top := T.top
  have st := lo_sz hn
  have sp := sz_pos t
  have dv := T.dvd hn hl
  by_cases hp : (ws.any fun w => w.isPrefixOf t) = true
  · obtain ⟨w, hw, hwp⟩ := List.any_eq_true.mp hp
    have lt := T.pre hn hw hwp
    have b : u = 1024 ∨ t ≠ (figs u 10).take t.length := by
      by_cases c : u = 1024
      · exact .inl c
      · exact .inr fun e => by
          have := (word_is hn (by omega) dv).mp e
          omega
    exact ⟨⟨fun _ => b, fun _ => .inl hp⟩, fun n => absurd b n⟩
  · have np : ∀ w ∈ ws, w.isPrefixOf t = false := fun w hw => Bool.eq_false_iff.mpr fun e => hp (List.any_eq_true.mpr ⟨w, hw, e⟩)
    obtain ⟨u1, u2, u3⟩ := T.up hn hl np
    have wi := word_is hn (by omega) dv
    rw [undL_undr u2]
    have key : undr t ws = wo t ↔ lo t = u := by
      refine ⟨fun e => ?_, fun e => ?_⟩
      · rw [← u3, e]; rfl
      · rw [← u3] at e
        exact (Nat.eq_of_mul_eq_mul_right sp (show wo t * sz t = undr t ws * sz t from e)).symm
    have nu : u ≠ 1024 := by omega
    refine ⟨⟨fun h => .inr fun e => ?_, fun h => .inr fun e => ?_⟩, fun h => ?_⟩
    · rcases h with h | h
      · exact hp h
      · exact h (key.mpr (wi.mp e))
    · rcases h with h | h
      · exact nu h
      · exact h (wi.mpr (key.mp e))
    · exact .snoc T (wi.mp (Classical.not_not.mp fun e => h (.inr e))) hn
theorem walks_same {ts : List (List Bool)} : ∀ (ps : List Nat) (ws : List (List Bool)) (u : Nat), Tile ws u → (∀ k ∈ ps, (ts.getD k []).length ≤ 10) → (∀ k ∈ ps, ∀ w ∈ ws, w.length ≤ (ts.getD k []).length) → ps.Pairwise (fun a b => (ts.getD a []).length ≤ (ts.getD b []).length) →
    fltW ts ps ws = bckW ts ps u
  | [], _, _, _, _, _, _ => rfl
  | k :: r, ws, u, T, h10, hl, hs => by
    obtain ⟨s1, s2⟩ := step_same T (h10 k List.mem_cons_self) (hl k List.mem_cons_self)
    rw [List.pairwise_cons] at hs
    unfold fltW bckW
    by_cases c : u = 1024 ∨ ts.getD k [] ≠ (figs u 10).take (ts.getD k []).length
    · rw [if_pos c, if_pos (s1.mpr c)]
    · rw [if_neg c, if_neg fun z => c (s1.mp z)]
      refine walks_same r _ _ (s2 c) (fun k' m => h10 k' (List.mem_cons_of_mem _ m)) (fun k' m w hw => ?_) hs.2
      rcases List.mem_append.mp hw with z | z
      · exact hl k' (List.mem_cons_of_mem _ m) w z
      · rw [List.mem_singleton] at z
        rw [z]
        exact hs.1 k' m
/-- bits texts as the law draws them -/
structure Txs (ts : List (List Bool)) : Prop where
  len : ∀ t ∈ ts, 1 ≤ t.length ∧ t.length ≤ 10
  few : ts.length < 64
def lens (ts : List (List Bool)) : List Nat := ts.map List.length
theorem lens_get (ts : List (List Bool)) (k : Nat) : (lens ts).getD k 0 = (ts.getD k []).length := by
  unfold lens
  by_cases h : k < ts.length
  · simp [h]
  · simp [Nat.le_of_not_lt h, List.getD_eq_getElem?_getD]
theorem Txs.lens {ts : List (List Bool)} (T : Txs ts) : ∀ x ∈ Lw.lens ts, 1 ≤ x ∧ x ≤ 10 := by
  intro x h
  obtain ⟨t, m, rfl⟩ := List.mem_map.mp h
  exact T.len t m
theorem faults_same {ts : List (List Bool)} (T : Txs ts) : fltW ts (ord (lens ts)) [] = bckW ts (ord (lens ts)) 0 := by
  have hl : (lens ts).length = ts.length := by simp [lens]
  refine walks_same _ _ _ .nil (fun k hk => ?_) (fun _ _ w h => by cases h) ?_
  · have := (ord_mem T.lens).mp hk
    rw [hl] at this
    have e : ts.getD k [] = ts[k] := by simp [this]
    rw [e]
    exact (T.len _ (List.getElem_mem this)).2
  · refine (ord_sorted (by rw [hl]; exact T.few)).imp fun {a b} h => ?_
    rw [lens_get, lens_get] at h
    omega
end Lw
/-! in_order -/
namespace Lw
open PySem PySem.Spec PyProof.Rows L2 Rh
def nats (xs : List Nat) : List W := xs.map fun (k : Nat) => W.int (k : Int)
theorem nats_app (a b : List Nat) : nats (a ++ b) = nats a ++ nats b := List.map_append
theorem nats_len (a : List Nat) : (nats a).length = a.length := List.length_map _
theorem nats_get {ls : List Nat} {i : Nat} (h : i < ls.length) : (nats ls)[i]? = some (.int ((ls.getD i 0 : Nat) : Int)) := by simp [nats, h]
theorem c_in_order (k : Nat) {h : HS} {a : Nat} {ls : List Nat} (ga : h.get a = .lst (nats ls)) (la : a < h.sz) (hl : ls.length < 1000) :
    ∃ h', callF G (k + 1) "in_order" [.ref a] h = .ok (.ref h.sz) h' ∧ Old h h' ∧ h'.get h.sz = .lst (nats (ord ls)) ∧ h.sz < h'.sz := by
  have ne : ∀ {h' : HS}, Old h h' → h'.get a = .lst (nats ls) := fun o => by rw [o.2 a la, ga]
  have nz : ¬ a = h.sz := by omega
  have inner : ∀ (L : Nat) (pre : List Nat) (g : HS) (o1 o2 : Option W), pre.length ≤ 20000 → Old h g → h.sz < g.sz → g.get h.sz = .lst (nats pre) →
      ∃ g' r1 r2, lb_in_order_1 (callF G k) [some (.ref a), some (.ref h.sz), some (.int ((L + 1 : Nat) : Int)), o1, o2] g = .nx [some (.ref a), some (.ref h.sz), some (.int ((L + 1 : Nat) : Int)), r1, r2] g' ∧ Old h g' ∧ h.sz < g'.sz ∧
        g'.get h.sz = .lst (nats (pre ++ (List.range ls.length).filter fun k => decide (ls.getD k 0 = L + 1))) := by
    intro L pre g o1 o2 hp og sg gg
    obtain ⟨σ', g', e, p1, p2, p3, q1, q2, rfl⟩ := forM_enum (a := a) (ws := nats ls) (t := .row [3, 4]) (body := lb_in_order_0 (callF G k))
      (fun i σ g' => Old h g' ∧ h.sz < g'.sz ∧ g'.get h.sz = .lst (nats (pre ++ (List.range i).filter fun k => decide (ls.getD k 0 = L + 1))) ∧ ∃ o1 o2, σ = [some (.ref a), some (.ref h.sz), some (.int ((L + 1 : Nat) : Int)), o1, o2])
      (fun _ _ _ I => ne I.1) (fun i w σ g' hw I => by
        obtain ⟨p1, p2, p3, q1, q2, rfl⟩ := I
        have hi : i < ls.length := by
          have := (List.getElem?_eq_some_iff.mp hw).1
          simpa [nats] using this
        have ew : w = .int ((ls.getD i 0 : Nat) : Int) := by
          rw [nats_get hi] at hw
          exact (Option.some.inj hw).symm
        subst ew
        have fl : (List.range (i + 1)).filter (fun k => decide (ls.getD k 0 = L + 1)) = (List.range i).filter (fun k => decide (ls.getD k 0 = L + 1)) ++ (if ls.getD i 0 = L + 1 then [i] else []) := by
          rw [List.range_succ, List.filter_append]
          by_cases c : ls.getD i 0 = L + 1
          · rw [if_pos c, List.filter_cons_of_pos (by rw [decide_eq_true_eq]; exact c)]; rfl
          · rw [if_neg c, List.filter_cons_of_neg (by rw [decide_eq_true_eq]; exact c)]; rfl
        rw [fl]
        have ol : ((List.range i).filter (fun k => decide (ls.getD k 0 = L + 1))).length ≤ i := by
          have := List.length_filter_le (fun k => decide (ls.getD k 0 = L + 1)) (List.range i)
          simpa using this
        generalize (List.range i).filter (fun k => decide (ls.getD k 0 = L + 1)) = old at p3 ol
        generalize ls.getD i 0 = v
        by_cases c : v = L + 1
        · rw [if_pos c]
          refine ⟨_, rfl, [some (.ref a), some (.ref h.sz), some (.int ((L + 1 : Nat) : Int)), some (.int (i : Int)), some (.int (v : Int))], g'.set h.sz (.lst (nats (pre ++ (old ++ [i])))), .inl ?_, p1.s (Nat.le_refl _), p2, by simp, _, _, rfl⟩
          subst c
          have gd : pre.length + old.length < 16777216 := by omega
          simp [lb_in_order_0, p3, nats_app]
          simp [nats, gd]
        · rw [if_neg c]
          refine ⟨_, rfl, [some (.ref a), some (.ref h.sz), some (.int ((L + 1 : Nat) : Int)), some (.int (i : Int)), some (.int (v : Int))], g', .inl ?_, p1, p2, by simp [p3], _, _, rfl⟩
          have c2 : ¬ (v : Int) = (L : Int) + 1 := by omega
          simp [lb_in_order_0, c2]) FUEL 0 [some (.ref a), some (.ref h.sz), some (.int ((L + 1 : Nat) : Int)), o1, o2] g (by simp [nats]; unfold FUEL; omega) (by omega) ⟨og, sg, by simpa using gg, _, _, rfl⟩
    refine ⟨g', q1, q2, ?_, p1, p2, by simpa [nats] using p3⟩
    have e : Rh.forM (Itd.enum a) (Tg.row [3, 4]) (lb_in_order_0 (callF G k)) FUEL 0 [some (W.ref a), some (W.ref h.sz), some (W.int ((L : Int) + 1)), o1, o2] g = RS.nx [some (W.ref a), some (W.ref h.sz), some (W.int ((L : Int) + 1)), q1, q2] g' := e
    simp [lb_in_order_1, forS_at, ne og, e]
  rw [callF_succ, u_in_order]
  obtain ⟨σ', h', e, L, o0, o1, o2, rfl, hL, hr, p1, p2, p3⟩ := forL_ok (t := .one 2) (body := lb_in_order_1 (callF G k))
    (fun r σ g => ∃ (L : Nat) (o0 o1 o2 : Option W), σ = [some (.ref a), some (.ref h.sz), o0, o1, o2] ∧ L ≤ 10 ∧ r = nats (List.range' (L + 1) (10 - L)) ∧ Old h g ∧ h.sz < g.sz ∧
      g.get h.sz = .lst (nats ((List.range L).flatMap fun L => (List.range ls.length).filter fun k => decide (ls.getD k 0 = L + 1))))
    (fun y r σ g I => by
      obtain ⟨L, o0, o1, o2, rfl, hL, hr, p1, p2, p3⟩ := I
      by_cases c : L = 10
      · subst c; cases hr
      · rw [show 10 - L = (10 - (L + 1)) + 1 by omega, List.range'_succ] at hr
        injection hr with h1 h2
        subst h1 h2
        have hp : ((List.range L).flatMap fun L => (List.range ls.length).filter fun k => decide (ls.getD k 0 = L + 1)).length ≤ 20000 := by
          have : ∀ n, ((List.range n).flatMap fun L => (List.range ls.length).filter fun k => decide (ls.getD k 0 = L + 1)).length ≤ n * 1000 := by
            intro n
            induction n with
            | zero => simp
            | succ n ih =>
              rw [List.range_succ, List.flatMap_append, List.length_append]
              have := List.length_filter_le (fun k => decide (ls.getD k 0 = n + 1)) (List.range ls.length)
              rw [List.length_range] at this
              rw [List.flatMap_cons, List.flatMap_nil, List.append_nil]
              omega
          have := this L
          omega
        obtain ⟨g', r1, r2, e, q1, q2, q3⟩ := inner L _ g o1 o2 hp p1 p2 p3
        refine ⟨_, rfl, _, g', .inl e, L + 1, _, r1, r2, rfl, by omega, rfl, q1, q2, ?_⟩
        rw [q3, List.range_succ, List.flatMap_append]
        simp) (rng 1 10) [some (.ref a), some (.ref h.sz), none, none, none] (h.push (.lst [])) ⟨0, none, none, none, rfl, by omega, rfl, Old.push, by simp, by simp [nats]⟩
  have : L = 10 := by
    by_cases c : L = 10
    · exact c
    · rw [show 10 - L = (10 - (L + 1)) + 1 by omega, List.range'_succ] at hr
      cases hr
  subst this
  have hl : (rng 1 10).length ≤ 100000 := by rw [rng_len]; omega
  refine ⟨h', ?_, p1, p3, p2⟩
  simp [b_in_order, forS_at, forM_vals, hl, e]
end Lw
/-! loops that may return -/
namespace Lw
open PySem PySem.Spec PyProof.Rows L2 Rh
section
variable {t : Tg} {body : SM}
/-- over a list that the body leaves as it is; the body may return -/
theorem forM_liveR {a : Nat} {ws : List W} (Iv : List W → Fr → HS → Prop) (P : W → HS → Prop) (hg : ∀ r σ h, Iv r σ h → h.get a = .lst ws)
    (hs : ∀ w r σ h, Iv (w :: r) σ h → ∃ σ1, t.put w σ = some σ1 ∧ ((∃ σ2 h2, (body σ1 h = .nx σ2 h2 ∨ body σ1 h = .ct σ2 h2) ∧ Iv r σ2 h2) ∨ ∃ v h2, body σ1 h = .rt v h2 ∧ P v h2)) :
    ∀ (n i : Nat) (σ : Fr) (h : HS), ws.length < n + i → i ≤ ws.length → Iv (ws.drop i) σ h → (∃ σ' h', Rh.forM (.live a) t body n i σ h = .nx σ' h' ∧ Iv [] σ' h') ∨ ∃ v h', Rh.forM (.live a) t body n i σ h = .rt v h' ∧ P v h'
  | 0, i, σ, h, hn, hi, _ => by omega
  | n + 1, i, σ, h, hn, hi, I => by
    have q0 : (Itd.live a).nth h i = some ws[i]? := by
      show (flO (h.get a)).map _ = _
      rw [hg _ _ _ I]
      rfl
    unfold Rh.forM
    by_cases e : i = ws.length
    · rw [q0, List.getElem?_eq_none (by omega)]
      rw [List.drop_eq_nil_of_le (by omega)] at I
      exact .inl ⟨σ, h, rfl, I⟩
    · have hlt : i < ws.length := by omega
      rw [q0, List.getElem?_eq_getElem hlt]
      rw [List.drop_eq_getElem_cons hlt] at I
      dsimp only
      obtain ⟨σ1, e1, ⟨σ2, h2, e2, I2⟩ | ⟨v, h2, e2, pv⟩⟩ := hs _ _ σ h I
      · rw [e1]
        dsimp only
        rcases e2 with e2 | e2 <;> rw [e2] <;> exact forM_liveR Iv P hg hs n (i + 1) σ2 h2 (by omega) (by omega) I2
      · rw [e1]
        dsimp only
        rw [e2]
        exact .inr ⟨v, h2, rfl, pv⟩
end
/-- how far a walk has come -/
def At (ts : List (List Bool)) (ps : List Nat) (u : Nat) : Prop := ∃ ws, Tile ws u ∧ (∀ k ∈ ps, (ts.getD k []).length ≤ 10) ∧ (∀ k ∈ ps, ∀ w ∈ ws, w.length ≤ (ts.getD k []).length) ∧ ps.Pairwise (fun a b => (ts.getD a []).length ≤ (ts.getD b []).length)
theorem At.top {ts : List (List Bool)} {ps : List Nat} {u : Nat} : At ts ps u → u ≤ 1024 := fun ⟨_, T, _⟩ => T.top
theorem At.step {ts : List (List Bool)} {ps : List Nat} {k u : Nat} (A : At ts (k :: ps) u) (c : ¬ (u = 1024 ∨ ts.getD k [] ≠ (figs u 10).take (ts.getD k []).length)) : At ts ps (u + sz (ts.getD k [])) := by
  obtain ⟨ws, T, h10, hl, hs⟩ := A
  rw [List.pairwise_cons] at hs
  refine ⟨ws ++ [ts.getD k []], (step_same T (h10 k List.mem_cons_self) (hl k List.mem_cons_self)).2 c, fun k' m => h10 k' (List.mem_cons_of_mem _ m), fun k' m w hw => ?_, hs.2⟩
  rcases List.mem_append.mp hw with z | z
  · exact hl k' (List.mem_cons_of_mem _ m) w z
  · rw [List.mem_singleton] at z
    rw [z]
    exact hs.1 k' m
theorem At.start {ts : List (List Bool)} (T : Txs ts) : At ts (ord (lens ts)) 0 := by
  have hl : (lens ts).length = ts.length := by simp [lens]
  refine ⟨[], .nil, fun k hk => ?_, fun _ _ w h => (by cases h), ?_⟩
  · have := (ord_mem T.lens).mp hk
    rw [hl] at this
    have e : ts.getD k [] = ts[k] := by simp [this]
    rw [e]
    exact (T.len _ (List.getElem_mem this)).2
  · refine (ord_sorted (by rw [hl]; exact T.few)).imp fun {a b} h => ?_
    rw [lens_get, lens_get] at h
    omega
theorem bckW_cons {ts : List (List Bool)} {k u : Nat} {r : List Nat} : bckW ts (k :: r) u = if u = 1024 ∨ ts.getD k [] ≠ (figs u 10).take (ts.getD k []).length then some k else bckW ts r (u + sz (ts.getD k [])) := rfl
theorem shr_sz {n : Nat} (hn : n ≤ 10) : (1024 : Int) / 2 ^ ((n : Int)).toNat = ((2 ^ (10 - n) : Nat) : Int) := by
  have h := pow_split (m := 0) (n := n) (by omega) hn
  have p : 0 < 2 ^ n := Nat.pow_pos (by decide)
  rw [Int.toNat_natCast]
  have : (1024 : Nat) / 2 ^ n = 2 ^ (10 - n) := by
    rw [show (1024 : Nat) = 2 ^ n * 2 ^ (10 - n) by simpa using h]
    exact Nat.mul_div_cancel_left _ p
  rw [← this]
  simp
theorem back_loop (k : Nat) {h : HS} {w : W} {ts : List (List Bool)} {a b : Nat} (T : Txs ts) (s : Sq h (ts.map fun t => .str (tx t)) w) (gb : h.get b = .lst (nats (lens ts))) (ga : h.get a = .lst (nats (ord (lens ts)))) (hl : (ord (lens ts)).length ≤ 1000) (o1 : Option W) :
    match bckW ts (ord (lens ts)) 0 with
    | some j => Rh.forM (.live a) (.one 4) (lb_lengths_back_0 (callF G (k + 1))) FUEL 0 [some w, o1, some (.ref b), some (.int 0), none] h = .rt (.tup [.non, .int (j : Int)]) h
    | none => ∃ u o4, Rh.forM (.live a) (.one 4) (lb_lengths_back_0 (callF G (k + 1))) FUEL 0 [some w, o1, some (.ref b), some (.int 0), none] h = .nx [some w, o1, some (.ref b), u, o4] h := by
  have base := forM_liveR (a := a) (ws := nats (ord (lens ts))) (t := .one 4) (body := lb_lengths_back_0 (callF G (k + 1)))
    (fun r σ h' => h' = h ∧ ∃ (ps : List Nat) (u : Nat) (o4 : Option W), r = nats ps ∧ (∀ j ∈ ps, j < ts.length) ∧ At ts ps u ∧ bckW ts ps u = bckW ts (ord (lens ts)) 0 ∧ σ = [some w, o1, some (.ref b), some (.int (u : Int)), o4])
    (fun v h' => h' = h ∧ ∃ j, bckW ts (ord (lens ts)) 0 = some j ∧ v = .tup [.non, .int (j : Int)])
    (fun _ _ _ I => I.1 ▸ ga) (fun y r σ h' I => by
      obtain ⟨rfl, ps, u, o4, hr, hj, hu, hb, rfl⟩ := I
      cases ps with
      | nil => cases hr
      | cons j ps =>
        injection hr with h1 h2
        subst h1 h2
        refine ⟨_, rfl, ?_⟩
        have jl : j < ts.length := hj j List.mem_cons_self
        have e1 : ixW G.dcts w (.int (j : Int)) h' = .ok (.str (tx (ts.getD j []))) h' := by
          rw [s.ix, atI_n]
          simp [jl]
        have e2 : ixW G.dcts (.ref b) (.int (j : Int)) h' = .ok (.int ((ts.getD j []).length : Nat)) h' := by
          rw [(Sq.lst b gb).ix, atI_n, nats_get (by simp [lens, jl]), lens_get]
          rfl
        have tl : (ts.getD j []).length ≤ 10 := by
          have : ts.getD j [] = ts[j] := by simp [jl]
          rw [this]
          exact (T.len _ (List.getElem_mem jl)).2
        rw [bckW_cons] at hb
        have top := hu.top
        have st := fun c => hu.step (k := j) c
        have e3 : ixO (h'.get b) (j : Int) h' = .ok (.int ((ts.getD j []).length : Nat)) h' := e2
        clear e2
        generalize ts.getD j [] = x at *
        by_cases c : u = 1024
        · subst c
          rw [if_pos (.inl rfl)] at hb
          refine .inr ⟨_, _, ?_, rfl, j, hb.symm, rfl⟩
          simp [lb_lengths_back_0]
        · have wf := c_word_from k u x.length h' (by omega) tl
          have c2 : ¬ (u : Int) = 1024 := by omega
          by_cases d : x = (figs u 10).take x.length
          · have nc : ¬ (u = 1024 ∨ x ≠ (figs u 10).take x.length) := fun z => z.elim c fun q => q d
            rw [if_neg nc] at hb
            refine .inl ⟨[some w, o1, some (.ref b), some (.int ((u + sz x : Nat) : Int)), some (.int (j : Int))], h', .inl ?_, rfl, ps, _, _, rfl, fun j' m => hj j' (List.mem_cons_of_mem _ m), st nc, hb, rfl⟩
            rw [← d] at wf
            have sh := shr_sz tl
            rw [Int.toNat_natCast] at sh
            simp [lb_lengths_back_0, c2, e1, e3, wf, sz]
            rw [sh]
            simp
          · rw [if_pos (.inr d)] at hb
            refine .inr ⟨_, _, ?_, rfl, j, hb.symm, rfl⟩
            have d2 : (tx x == tx ((figs u 10).take x.length)) = false := by rw [tx_beq]; exact beq_eq_false_iff_ne.mpr d
            simp [lb_lengths_back_0, c2, e1, e3, wf, d2]) FUEL 0 [some w, o1, some (.ref b), some (.int 0), none] h (by rw [nats_len]; unfold FUEL; omega) (by omega) ⟨rfl, ord (lens ts), 0, none, by simp, fun j hj => by have := (ord_mem T.lens).mp hj; simpa [lens] using this, At.start T, rfl, rfl⟩
  rcases base with ⟨σ', h', e, rfl, ps, u, o4, hr, hj, hu, hb, rfl⟩ | ⟨v, h', e, rfl, j, hb, rfl⟩
  · have : ps = [] := by cases ps with
      | nil => rfl
      | cons _ _ => cases hr
    subst this
    rw [← hb]
    exact ⟨_, _, e⟩
  · rw [hb]
    exact e
end Lw
/-! lengths_back -/
namespace Lw
open PySem PySem.Spec PyProof.Rows L2 Rh
theorem lc_okD {p : BM} {e : EM} {i : Nat} {ws : List W} {d : Itd} {σ : Fr} (Iv : List W → List W → HS → Prop) (hd : ∀ r acc h, Iv r acc h → ∀ j, d.nth h j = some ws[j]?) (hs : ∀ w r acc h, Iv (w :: r) acc h → ∃ h1 y h2, p (setS (wipeW σ [i]) i (some w)) h = .ok true h1 ∧ e (setS (wipeW σ [i]) i (some w)) h1 = .ok y h2 ∧ acc.length < LIM ∧ Iv r (acc ++ [y]) h2) :
    ∀ (n j : Nat) (acc : List W) (h : HS), ws.length < n + j → j ≤ ws.length → Iv (ws.drop j) acc h → ∃ acc' h', lcM d (.one i) [i] p e σ n j acc h = newL acc' h' ∧ Iv [] acc' h'
  | 0, j, acc, h, hn, hi, _ => by omega
  | n + 1, j, acc, h, hn, hi, I => by
    unfold lcM
    by_cases c : j = ws.length
    · have q : d.nth h j = some none := by rw [hd _ _ _ I, List.getElem?_eq_none (by omega)]
      rw [q]
      rw [List.drop_eq_nil_of_le (by omega)] at I
      exact ⟨acc, h, rfl, I⟩
    · have hlt : j < ws.length := by omega
      have q : d.nth h j = some (some ws[j]) := by rw [hd _ _ _ I, List.getElem?_eq_getElem hlt]
      rw [q]
      rw [List.drop_eq_getElem_cons hlt] at I
      obtain ⟨h1, y, h2, e1, e2, hl, I2⟩ := hs _ _ acc h I
      dsimp only [put_one]
      rw [e1]
      dsimp only
      rw [e2]
      dsimp only
      rw [if_pos hl]
      exact lc_okD Iv hd hs n (j + 1) (acc ++ [y]) h2 (by omega) (by omega) I2
/-- the items of a row, each turned plainly -/
theorem lc_sq {m : EM} {e : EM} {i : Nat} {ws : List W} {w : W} {σ : Fr} {h : HS} {f : W → W} (hm : m σ h = .ok w h) (s : Sq h ws w) (hl : ws.length ≤ 100000) (he : ∀ x ∈ ws, e (setS (wipeW σ [i]) i (some x)) h = .ok (f x) h) :
    lcE (anyI m) i yesT e σ h = newL (ws.map f) h := by
  have go : ∀ d : Itd, (∀ j, d.nth h j = some ws[j]?) → lcM d (.one i) [i] yesT e σ FUEL 0 [] h = newL (ws.map f) h := fun d hd => by
    obtain ⟨acc', h', e1, rfl, pre, hp, rfl⟩ := lc_okD (d := d) (p := yesT) (e := e) (i := i) (σ := σ) (ws := ws) (fun r acc h' => h' = h ∧ ∃ pre, pre ++ r = ws ∧ acc = pre.map f) (fun r acc h' I => by rw [I.1]; exact hd) (fun x r acc h' I => by
      obtain ⟨rfl, pre, hp, rfl⟩ := I
      refine ⟨h', f x, h', rfl, he x (by rw [← hp]; simp), ?_, rfl, pre ++ [x], by rw [← hp]; simp, by simp⟩
      have := congrArg List.length hp
      simp at this ⊢
      omega) FUEL 0 [] h (by unfold FUEL; omega) (by omega) ⟨rfl, [], rfl, rfl⟩
    rw [e1, ← hp, List.append_nil]
  rw [lcE_at, anyI_at, hm, bind_okE]
  cases s with
  | tup => rw [itW_t, bind_okE]; exact go _ fun j => rfl
  | lst a g =>
    rw [itW_r, g]
    show lcM (.live a) _ _ _ _ _ _ _ _ _ = _
    refine go _ fun j => ?_
    show (flO (h.get a)).map _ = _
    rw [g]
    rfl
theorem ord_len {ts : List (List Bool)} (T : Txs ts) : (ord (lens ts)).length = ts.length := by
  have := (ord_perm T.lens (by simp [lens]; exact T.few)).length_eq
  simpa [lens] using this
theorem c_lengths_back (k : Nat) {h : HS} {w : W} {ts : List (List Bool)} (T : Txs ts) (s : Sq h (ts.map fun t => .str (tx t)) w) (hw : ∀ a, w = .ref a → a < h.sz) :
    ∃ h', Old h h' ∧ match bckW ts (ord (lens ts)) 0 with
      | some j => callF G (k + 3) "lengths_back" [w] h = .ok (.tup [.non, .int (j : Int)]) h'
      | none => callF G (k + 3) "lengths_back" [w] h = .ok (.tup [.ref h.sz, .non]) h' ∧ h'.get h.sz = .lst (nats (lens ts)) ∧ h.sz < h'.sz := by
  have few := T.few
  obtain ⟨σ', h1, e1, rfl, o1, ts', hr, hm, rfl⟩ := for_sq (m := slotE 0) (t := .one 1) (body := lb_lengths_back_2 (callF G (k + 2))) (σ := [some w, none, none, none, none]) rfl s (by simp; omega)
    (fun r σ h' => h' = h ∧ ∃ (o1 : Option W) (ts' : List (List Bool)), r = ts'.map (fun t => .str (tx t)) ∧ (∀ t ∈ ts', t ∈ ts) ∧ σ = [some w, o1, none, none, none]) (fun _ _ _ I => I.1 ▸ s) (fun y r σ h' I => by
      obtain ⟨rfl, o1, ts', hr, hm, rfl⟩ := I
      cases ts' with
      | nil => cases hr
      | cons t ts' =>
        injection hr with h1 h2
        subst h1 h2
        have tl := T.len t (hm t List.mem_cons_self)
        refine ⟨_, rfl, [some w, some (.str (tx t)), none, none, none], h', .inl ?_, rfl, _, ts', rfl, fun t m => hm t (List.mem_cons_of_mem _ m), rfl⟩
        have l1 : (1 : Int) ≤ (t.length : Int) := by omega
        have l2 : (t.length : Int) ≤ 10 := by omega
        have l3 : t.length ≤ 16777216 := by omega
        simp [lb_lengths_back_2, c_is_bits (k + 1) t h' (by omega), l1, l2, l3]) ⟨rfl, none, ts, rfl, fun _ m => m, rfl⟩
  have e2 : lcE (anyI (slotE 0)) 1 yesT (le_lengths_back_1 (callF G (k + 2))) [some w, o1, none, none, none] h1 = newL (nats (lens ts)) h1 := by
    have := lc_sq (m := slotE 0) (e := le_lengths_back_1 (callF G (k + 2))) (i := 1) (σ := [some w, o1, none, none, none]) (f := fun x => match x with | .str z => .int (z.length : Int) | _ => .non) rfl s (by simp; omega) (fun x hx => by
      obtain ⟨t, mt, rfl⟩ := List.mem_map.mp hx
      have tl := T.len t mt
      have l3 : t.length ≤ 16777216 := by omega
      simp [le_lengths_back_1, wipeW, l3])
    rw [this]
    refine congrArg (fun z => newL z h1) ?_
    unfold nats lens
    rw [List.map_map, List.map_map]
    refine List.map_congr_left fun t _ => ?_
    show W.int ((tx t).length : Int) = W.int (t.length : Int)
    rw [tx_len]
  have gl : (h1.push (.lst (nats (lens ts)))).get h1.sz = .lst (nats (lens ts)) := by simp
  obtain ⟨h2, e3, o3, g3, l3⟩ := c_in_order (k + 1) (h := h1.push (.lst (nats (lens ts)))) gl (by simp) (by simp [lens]; omega)
  have old : Old h1 h2 := Old.push.trans o3
  have gb : h2.get h1.sz = .lst (nats (lens ts)) := by rw [o3.2 _ (by simp), gl]
  have bl := back_loop (k + 1) (h := h2) T (s.old old hw) gb g3 (by rw [ord_len T]; omega) o1
  refine ⟨h2, old, ?_⟩
  have hn : newL (nats (lens ts)) h1 = .ok (.ref h1.sz) (h1.push (.lst (nats (lens ts)))) := rfl
  have isl : isLst (h2.get (h1.sz + 1)) = true := by rw [show h1.sz + 1 = (h1.push (.lst (nats (lens ts)))).sz from rfl, g3]; rfl
  cases hb : bckW ts (ord (lens ts)) 0 with
  | some j =>
    rw [hb] at bl
    have bl : Rh.forM (.live (h1.sz + 1)) (.one 4) (lb_lengths_back_0 (callF G (k + 2))) FUEL 0 [some w, o1, some (.ref h1.sz), some (.int 0), none] h2 = .rt (.tup [.non, .int (j : Int)]) h2 := bl
    show callF G (k + 3) "lengths_back" [w] h1 = _
    rw [callF_succ, u_lengths_back]
    simp [b_lengths_back, s.isi, e1, e2, hn, forS_at, e3, isl, bl]
  | none =>
    rw [hb] at bl
    obtain ⟨u, o4, bl⟩ := bl
    have bl : Rh.forM (.live (h1.sz + 1)) (.one 4) (lb_lengths_back_0 (callF G (k + 2))) FUEL 0 [some w, o1, some (.ref h1.sz), some (.int 0), none] h2 = .nx [some w, o1, some (.ref h1.sz), u, o4] h2 := bl
    refine ⟨?_, gb, Nat.lt_trans (Nat.lt_succ_self _) l3⟩
    rw [callF_succ, u_lengths_back]
    simp [b_lengths_back, s.isi, e1, e2, hn, forS_at, e3, isl, bl]
end Lw
/-! _law_fault -/
namespace Lw
open PySem PySem.Spec PyProof.Rows L2 Rh
def txW (ts : List (List Bool)) : List W := ts.map fun t => .str (tx t)
theorem txW_get {ts : List (List Bool)} {i : Nat} (h : i < ts.length) : (txW ts)[i]? = some (.str (tx (ts.getD i []))) := by simp [txW, h]
theorem undL_snoc (t : List Bool) (ws : List (List Bool)) (w : List Bool) : undL t (ws ++ [w]) = if w.map bc < t.map bc then undL t ws + 2 ^ (t.length - w.length) else undL t ws := by
  unfold undL
  rw [List.foldl_append]
  rfl
theorem fault_inner (k : Nat) {h : HS} {a b j : Nat} {ts ws : List (List Bool)} (ga : h.get a = .lst (txW ts)) (gb : h.get b = .lst (txW ws)) (jl : j < ts.length) (tl : (ts.getD j []).length ≤ 10) (wl : ∀ w ∈ ws, w.length ≤ (ts.getD j []).length) (few : ws.length < 1000) (o5 o6 : Option W) :
    ((ws.any fun w => w.isPrefixOf (ts.getD j [])) = true ∧ Rh.forM (.live b) (.one 5) (lb__law_fault_1 (callF G (k + 1))) FUEL 0 [some (.ref a), some (.ref b), some (.int ((ts.getD j []).length : Nat)), some (.int (j : Int)), some (.int 0), o5, o6] h = .rt (.int (j : Int)) h) ∨
    ((ws.any fun w => w.isPrefixOf (ts.getD j [])) = false ∧ ∃ p5, Rh.forM (.live b) (.one 5) (lb__law_fault_1 (callF G (k + 1))) FUEL 0 [some (.ref a), some (.ref b), some (.int ((ts.getD j []).length : Nat)), some (.int (j : Int)), some (.int 0), o5, o6] h =
      .nx [some (.ref a), some (.ref b), some (.int ((ts.getD j []).length : Nat)), some (.int (j : Int)), some (.int (undL (ts.getD j []) ws : Nat)), p5, o6] h) := by
  have e1 : ixO (h.get a) (j : Int) h = .ok (.str (tx (ts.getD j []))) h := by
    have : ixW G.dcts (.ref a) (.int (j : Int)) h = _ := (Sq.lst a ga).ix
    rw [atI_n, txW_get jl] at this
    exact this
  generalize ts.getD j [] = t at *
  have base := forM_liveR (a := b) (ws := txW ws) (t := .one 5) (body := lb__law_fault_1 (callF G (k + 1)))
    (fun r σ h' => h' = h ∧ ∃ (pre post : List (List Bool)) (o5 : Option W), pre ++ post = ws ∧ r = txW post ∧ (pre.any fun w => w.isPrefixOf t) = false ∧ undL t pre ≤ pre.length * 1024 ∧ σ = [some (.ref a), some (.ref b), some (.int (t.length : Nat)), some (.int (j : Int)), some (.int (undL t pre : Nat)), o5, o6])
    (fun v h' => h' = h ∧ (ws.any fun w => w.isPrefixOf t) = true ∧ v = .int (j : Int))
    (fun _ _ _ I => I.1 ▸ gb) (fun y r σ h' I => by
      obtain ⟨rfl, pre, post, o5, hp, hr, np, hu, rfl⟩ := I
      cases post with
      | nil => cases hr
      | cons w post =>
        injection hr with h1 h2
        subst h1 h2
        refine ⟨_, rfl, ?_⟩
        have mw : w ∈ ws := by rw [← hp]; simp
        have wt := wl w mw
        have tw := c_two k (t.length - w.length) h' (by omega)
        have ec : (((t.length - w.length : Nat)) : Int) = (t.length : Int) - (w.length : Int) := by omega
        rw [ec] at tw
        have g1 : w.length ≤ 16777216 := by omega
        by_cases c : w.isPrefixOf t = true
        · refine .inr ⟨_, _, ?_, rfl, List.any_eq_true.mpr ⟨w, mw, c⟩, rfl⟩
          simp [lb__law_fault_1, e1, tx_sw, c]
        · have c2 : w.isPrefixOf t = false := Bool.eq_false_iff.mpr c
          have np2 : ((pre ++ [w]).any fun w => w.isPrefixOf t) = false := by rw [List.any_append, np]; simp [c2]
          have hp2 : (pre ++ [w]) ++ post = ws := by rw [← hp]; simp
          have p10 : 2 ^ (t.length - w.length) ≤ 1024 := Nat.pow_le_pow_right (n := 2) (by decide) (show t.length - w.length ≤ 10 by omega)
          by_cases d : w.map bc < t.map bc
          · refine .inl ⟨[some (.ref a), some (.ref b), some (.int (t.length : Nat)), some (.int (j : Int)), some (.int (undL t (pre ++ [w]) : Nat)), some (.str (tx w)), o6], h', .inl ?_, rfl, pre ++ [w], post, _, hp2, rfl, np2, ?_, rfl⟩
            · rw [undL_snoc, if_pos d]
              simp [lb__law_fault_1, e1, tx_sw, c2, d, g1, tw]
            · rw [undL_snoc, if_pos d, List.length_append, List.length_singleton]
              omega
          · refine .inl ⟨[some (.ref a), some (.ref b), some (.int (t.length : Nat)), some (.int (j : Int)), some (.int (undL t (pre ++ [w]) : Nat)), some (.str (tx w)), o6], h', .inl ?_, rfl, pre ++ [w], post, _, hp2, rfl, np2, ?_, rfl⟩
            · rw [undL_snoc, if_neg d]
              simp [lb__law_fault_1, e1, tx_sw, c2, d]
            · rw [undL_snoc, if_neg d, List.length_append, List.length_singleton]
              omega) FUEL 0 [some (.ref a), some (.ref b), some (.int (t.length : Nat)), some (.int (j : Int)), some (.int 0), o5, o6] h (by simp [txW]; unfold FUEL; omega) (by omega) ⟨rfl, [], ws, o5, rfl, rfl, rfl, by simp [undL], rfl⟩
  rcases base with ⟨σ', h', e, rfl, pre, post, o5', hp, hr, np, _, rfl⟩ | ⟨v, h', e, rfl, hb, rfl⟩
  · have : post = [] := by cases post with
      | nil => rfl
      | cons _ _ => cases hr
    subst this
    rw [List.append_nil] at hp
    subst hp
    exact .inr ⟨np, o5', e⟩
  · exact .inl ⟨hb, e⟩
end Lw
/-! _law_fault, the whole -/
namespace Lw
open PySem PySem.Spec PyProof.Rows L2 Rh
theorem fltW_cons {ts : List (List Bool)} {k : Nat} {r : List Nat} {ws : List (List Bool)} : fltW ts (k :: r) ws = if (ws.any fun w => w.isPrefixOf (ts.getD k [])) = true ∨ undL (ts.getD k []) ws ≠ wo (ts.getD k []) then some k else fltW ts r (ws ++ [ts.getD k []]) := rfl
def prs (ts : List (List Bool)) (ps : List Nat) : List W := ps.map fun j => .tup [.int ((ts.getD j []).length : Nat), .int (j : Int)]
theorem fault_loop (k : Nat) {h : HS} {a b c : Nat} {ts : List (List Bool)} (T : Txs ts) (ga : h.get a = .lst (txW ts)) (gb : h.get b = .lst []) (gc : h.get c = .lst (prs ts (ord (lens ts)))) (ab : a ≠ b) (cb : c ≠ b) :
    (∃ j g, fltW ts (ord (lens ts)) [] = some j ∧ (∀ n, n ≠ b → g.get n = h.get n) ∧ g.sz = h.sz ∧ Rh.forM (.live c) (.row [2, 3]) (lb__law_fault_2 (callF G (k + 2))) FUEL 0 [some (.ref a), some (.ref b), none, none, none, none, none] h = .rt (.int (j : Int)) g) ∨
    (fltW ts (ord (lens ts)) [] = none ∧ ∃ σ g, (∀ n, n ≠ b → g.get n = h.get n) ∧ g.sz = h.sz ∧ Rh.forM (.live c) (.row [2, 3]) (lb__law_fault_2 (callF G (k + 2))) FUEL 0 [some (.ref a), some (.ref b), none, none, none, none, none] h = .nx σ g) := by
  obtain ⟨_, _, h10, _, hs⟩ := At.start T
  have few := T.few
  have base := forM_liveR (a := c) (ws := prs ts (ord (lens ts))) (t := .row [2, 3]) (body := lb__law_fault_2 (callF G (k + 2)))
    (fun r σ g => (∀ n, n ≠ b → g.get n = h.get n) ∧ g.sz = h.sz ∧ ∃ (ps : List Nat) (ws : List (List Bool)) (o2 o3 o4 o5 : Option W), r = prs ts ps ∧ g.get b = .lst (txW ws) ∧ fltW ts ps ws = fltW ts (ord (lens ts)) [] ∧ ws.length + ps.length ≤ 64 ∧
      (∀ j ∈ ps, j < ts.length ∧ (ts.getD j []).length ≤ 10) ∧ (∀ j ∈ ps, ∀ w ∈ ws, w.length ≤ (ts.getD j []).length) ∧ ps.Pairwise (fun a b => (ts.getD a []).length ≤ (ts.getD b []).length) ∧ σ = [some (.ref a), some (.ref b), o2, o3, o4, o5, none])
    (fun v g => (∀ n, n ≠ b → g.get n = h.get n) ∧ g.sz = h.sz ∧ ∃ j, fltW ts (ord (lens ts)) [] = some j ∧ v = .int (j : Int))
    (fun _ _ _ I => (I.1 c cb).trans gc) (fun y r σ g I => by
      obtain ⟨hk, hz, ps, ws, o2, o3, o4, o5, hr, gw, hf, hl, hj, hw, hs, rfl⟩ := I
      cases ps with
      | nil => cases hr
      | cons j ps =>
        injection hr with h1 h2
        subst h1 h2
        have jj := hj j List.mem_cons_self
        have ga' : g.get a = .lst (txW ts) := (hk a ab).trans ga
        have fi := fault_inner (k + 1) (h := g) (a := a) (b := b) ga' gw jj.1 jj.2 (hw j List.mem_cons_self) (by omega) o5 none
        have e1 : ixO (g.get a) (j : Int) g = .ok (.str (tx (ts.getD j []))) g := by
          have : ixW G.dcts (.ref a) (.int (j : Int)) g = _ := (Sq.lst a ga').ix
          rw [atI_n, txW_get jj.1] at this
          exact this
        have wr := c_worth (k + 1) (ts.getD j []) g jj.2
        have isl : isLst (g.get b) = true := by rw [gw]; rfl
        rw [fltW_cons] at hf
        rw [List.pairwise_cons] at hs
        refine ⟨[some (.ref a), some (.ref b), some (.int ((ts.getD j []).length : Nat)), some (.int (j : Int)), o4, o5, none], rfl, ?_⟩
        generalize hx : ts.getD j [] = x at *
        rcases fi with ⟨f1, f2⟩ | ⟨f1, p5, f2⟩
        · rw [if_pos (.inl f1)] at hf
          refine .inr ⟨.int (j : Int), g, ?_, hk, hz, j, hf.symm, rfl⟩
          simp [lb__law_fault_2, forS_at, isl, f2]
        · by_cases d : undL x ws = wo x
          · rw [if_neg (fun z => z.elim (fun q => by rw [f1] at q; cases q) fun q => q d)] at hf
            refine .inl ⟨[some (.ref a), some (.ref b), some (.int (x.length : Nat)), some (.int (j : Int)), some (.int (undL x ws : Nat)), p5, none], g.set b (.lst (txW (ws ++ [x]))), .inl ?_, fun n hn => ?_, hz, ps, ws ++ [x], _, _, _, _, rfl, by simp, hf, ?_, fun j' m => hj j' (List.mem_cons_of_mem _ m), fun j' m w hw' => ?_, hs.2, rfl⟩
            · have lw : (txW ws).length < 16777216 := by simp [txW]; simp at hl; omega
              simp [lb__law_fault_2, forS_at, isl, f2, e1, wr, d, gw]
              simp [txW] at lw ⊢
              simp [lw]
            · rw [get_set, if_neg hn]; exact hk n hn
            · simp at hl ⊢; omega
            · rcases List.mem_append.mp hw' with z | z
              · exact hw j' (List.mem_cons_of_mem _ m) w z
              · rw [List.mem_singleton] at z
                rw [z]
                exact hs.1 j' m
          · rw [if_pos (.inr d)] at hf
            refine .inr ⟨.int (j : Int), g, ?_, hk, hz, j, hf.symm, rfl⟩
            have d2 : ¬ ((undL x ws : Nat) : Int) = ((wo x : Nat) : Int) := by omega
            simp [lb__law_fault_2, forS_at, isl, f2, e1, wr, d2]) FUEL 0 [some (.ref a), some (.ref b), none, none, none, none, none] h (by unfold prs; rw [List.length_map, ord_len T]; unfold FUEL; omega) (by omega)
    ⟨fun _ _ => rfl, rfl, ord (lens ts), [], none, none, none, none, rfl, gb, rfl, by rw [ord_len T]; simp; omega, fun j hj => ⟨by have := (ord_mem T.lens).mp hj; simpa [lens] using this, h10 j hj⟩, fun _ _ w m => (by cases m), hs, rfl⟩
  rcases base with ⟨σ', g, e, hk, hz, ps, ws, _, _, _, _, hr, _, hf, _, _, _, _, rfl⟩ | ⟨v, g, e, hk, hz, j, hf, rfl⟩
  · have : ps = [] := by cases ps with
      | nil => rfl
      | cons _ _ => cases hr
    subst this
    exact .inr ⟨hf.symm, _, g, hk, hz, e⟩
  · exact .inl ⟨j, g, hf, hk, hz, e⟩
theorem prs_eq (ts : List (List Bool)) (ps : List Nat) : (ps.map (prK (lens ts))).map prW = prs ts ps := by
  unfold prs
  rw [List.map_map]
  refine List.map_congr_left fun j _ => ?_
  show W.tup [.int (((lens ts).getD j 0 : Nat) : Int), .int (j : Int)] = _
  rw [lens_get]
theorem prsOf_ok {ts : List (List Bool)} (T : Txs ts) : ∀ ps : List Nat, (∀ j ∈ ps, j < ts.length) → prsOf (prs ts ps) = some (ps.map (prK (lens ts)))
  | [], _ => rfl
  | j :: ps, h => by
    have ih := prsOf_ok T ps fun j m => h j (List.mem_cons_of_mem _ m)
    have jl := h j List.mem_cons_self
    have few := T.few
    have e : ts.getD j [] = ts[j] := by simp [jl]
    have tl := (T.len _ (List.getElem_mem jl)).2
    rw [← e] at tl
    have s1 : iLt ((ts.getD j []).length : Int) 1000000 = true := iLt_iff.mpr (by omega)
    have s2 : iLt (j : Int) 1000000 = true := iLt_iff.mpr (by omega)
    show (if (decide ((0 : Int) ≤ ((ts.getD j []).length : Int)) && iLt ((ts.getD j []).length : Int) 1000000 && (decide ((0 : Int) ≤ (j : Int)) && iLt (j : Int) 1000000)) = true then (prsOf (prs ts ps)).map (((((ts.getD j []).length : Nat) : Int), (j : Int)) :: ·) else none) = _
    rw [s1, s2, ih, decide_eq_true (by omega), decide_eq_true (by omega)]
    rw [List.map_cons, show prK (lens ts) j = ((((ts.getD j []).length : Nat) : Int), (j : Int)) by unfold prK; rw [lens_get]]
    rfl
end Lw
/-! _law_fault's contract -/
namespace Lw
open PySem PySem.Spec PyProof.Rows L2 Rh
theorem srt_ok {ts : List (List Bool)} (T : Txs ts) (g : HS) : srtL (prs ts (List.range ts.length)) g = newL (prs ts (ord (lens ts))) g := by
  have few := T.few
  cases ts with
  | nil => rfl
  | cons t r =>
    have n0 : intsOf (prs (t :: r) (List.range (t :: r).length)) = none := by
      rw [List.length_cons, List.range_succ_eq_map]
      rfl
    have po := prsOf_ok T (List.range (t :: r).length) fun j m => List.mem_range.mp m
    have so := sort_ord T.lens (by simp [lens] at few ⊢; omega)
    unfold srtL
    rw [n0, po]
    dsimp only
    have hl : (lens (t :: r)).length = (t :: r).length := by simp [lens]
    rw [hl] at so
    rw [so, prs_eq, decide_eq_true (by unfold prs; rw [List.length_map, List.length_range]; exact few)]
    rfl
theorem c_fault (k : Nat) {h : HS} {a : Nat} {ts : List (List Bool)} (T : Txs ts) (ga : h.get a = .lst (txW ts)) (la : a < h.sz) :
    ∃ h', Old h h' ∧ callF G (k + 3) "_law_fault" [.ref a] h = .ok (match fltW ts (ord (lens ts)) [] with | some j => .int (j : Int) | none => .non) h' := by
  have few := T.few
  have ga1 : (h.push (.lst [])).get a = .lst (txW ts) := by rw [Old.push.2 a la, ga]
  have e2 : lcE (rangeI (consA (callE (biW .len) (consA (slotE 0) nilA)) nilA)) 6 yesT (le__law_fault_0 (callF G (k + 2))) [some (.ref a), some (.ref h.sz), none, none, none, none, none] (h.push (.lst [])) = newL (prs ts (List.range ts.length)) (h.push (.lst [])) := by
    obtain ⟨acc, g, e, rfl, js, hj, rfl⟩ := lc_ok (i := 6) (σ := [some (.ref a), some (.ref h.sz), none, none, none, none, none]) (ws := rng 0 ts.length) (p := yesT) (e := le__law_fault_0 (callF G (k + 2)))
      (fun r acc g => g = h.push (.lst []) ∧ ∃ js, js ++ r = rng 0 ts.length ∧ acc = prs ts (List.range js.length)) (fun w r acc g I => by
        obtain ⟨rfl, js, hj, rfl⟩ := I
        have jl : js.length < ts.length := by
          have := congrArg List.length hj
          rw [rng_len] at this
          simp at this
          omega
        have ew : w = .int (js.length : Int) := by
          have := congrArg (fun z => z[js.length]?) hj
          simp [rng, jl] at this
          exact this
        subst ew
        have e1 : ixO ((h.push (.lst [])).get a) (js.length : Int) (h.push (.lst [])) = .ok (.str (tx (ts.getD js.length []))) (h.push (.lst [])) := by
          have : ixW G.dcts (.ref a) (.int (js.length : Int)) (h.push (.lst [])) = _ := (Sq.lst a ga1).ix
          rw [atI_n, txW_get jl] at this
          exact this
        have tl : (ts.getD js.length []).length ≤ 16777216 := by
          have e : ts.getD js.length [] = ts[js.length] := by simp [jl]
          rw [e]
          have := (T.len _ (List.getElem_mem jl)).2
          omega
        refine ⟨_, .tup [.int ((ts.getD js.length []).length : Nat), .int (js.length : Int)], _, rfl, ?_, ?_, rfl, js ++ [.int (js.length : Int)], by rw [← hj]; simp, ?_⟩
        · generalize h.push (.lst []) = g at *
          generalize ts.getD js.length [] = x at *
          simp [le__law_fault_0, wipeW, e1, tl]
        · unfold prs LIM
          simp
          omega
        · rw [List.length_append, List.length_singleton, List.range_succ]
          unfold prs
          rw [List.map_append]
          rfl) FUEL 0 [] (h.push (.lst [])) (by rw [rng_len]; unfold FUEL; omega) (by omega) ⟨rfl, [], rfl, rfl⟩
    have hj2 := congrArg List.length hj
    rw [List.append_nil, rng_len] at hj2
    rw [hj2] at e
    have ln : lenW (.ref a) (h.push (.lst [])) = .ok (.int (ts.length : Int)) (h.push (.lst [])) := by
      rw [(Sq.lst a ga1).len]
      simp [txW]
    have g1 : -1000000 ≤ (ts.length : Int) ∧ (ts.length : Int) < 1000000 := ⟨by omega, by omega⟩
    generalize h.push (.lst []) = g at *
    simp [lcE_at, ln, g1, e]
  have hn : newL (prs ts (List.range ts.length)) (h.push (.lst [])) = .ok (.ref (h.sz + 1)) ((h.push (.lst [])).push (.lst (prs ts (List.range ts.length)))) := rfl
  rw [hn] at e2
  have o2 : Old h (((h.push (.lst [])).push (.lst (prs ts (List.range ts.length)))).push (.lst (prs ts (ord (lens ts))))) := Old.push.p.p
  have so : srtW (.ref (h.sz + 1)) ((h.push (.lst [])).push (.lst (prs ts (List.range ts.length)))) = .ok (.ref (h.sz + 2)) (((h.push (.lst [])).push (.lst (prs ts (List.range ts.length)))).push (.lst (prs ts (ord (lens ts))))) := by
    show srtO (((h.push (.lst [])).push (.lst (prs ts (List.range ts.length)))).get (h.sz + 1)) _ = _
    rw [show ((h.push (.lst [])).push (.lst (prs ts (List.range ts.length)))).get (h.sz + 1) = .lst (prs ts (List.range ts.length)) by simp]
    exact srt_ok T _
  have fl := fault_loop k (h := ((h.push (.lst [])).push (.lst (prs ts (List.range ts.length)))).push (.lst (prs ts (ord (lens ts))))) (a := a) (b := h.sz) (c := h.sz + 2) T (by rw [o2.2 a la, ga]) (by simp; intro e; omega) (by simp) (by omega) (by omega)
  have isl : isLst ((((h.push (.lst [])).push (.lst (prs ts (List.range ts.length)))).push (.lst (prs ts (ord (lens ts))))).get (h.sz + 2)) = true := by simp
  generalize ((h.push (.lst [])).push (.lst (prs ts (List.range ts.length)))).push (.lst (prs ts (ord (lens ts)))) = g2 at *
  generalize (h.push (.lst [])).push (.lst (prs ts (List.range ts.length))) = g1 at *
  have fin : ∀ g : HS, (∀ n, n ≠ h.sz → g.get n = g2.get n) → g.sz = g2.sz → Old h g := fun g q1 q2 => ⟨by rw [q2]; exact o2.1, fun n hn => by rw [q1 n (by omega)]; exact o2.2 n hn⟩
  rw [callF_succ, u__law_fault]
  rcases fl with ⟨j, g, hf, q1, q2, e⟩ | ⟨hf, σ, g, q1, q2, e⟩
  · refine ⟨g, fin g q1 q2, ?_⟩
    rw [hf]
    simp [b__law_fault, e2, so, forS_at, isl, e]
  · refine ⟨g, fin g q1 q2, ?_⟩
    rw [hf]
    simp [b__law_fault, e2, so, forS_at, isl, e]
end Lw
/-! free_words -/
namespace Lw
open PySem PySem.Spec PyProof.Rows L2 Rh
theorem c_check_lengths (k : Nat) {h : HS} {a : Nat} {ls : List Nat} (ga : h.get a = .lst (nats ls)) (hl : ls.length < 1000) (h10 : ∀ x ∈ ls, 1 ≤ x ∧ x ≤ 10) :
    callF G (k + 2) "check_lengths" [.ref a, .int 10] h = .ok (.ref h.sz) (h.push (.lst (nats ls))) := by
  have s : Sq h (nats ls) (.ref a) := Sq.lst a ga
  obtain ⟨σ', h1, e1, rfl, o1, ls', hr, hm, rfl⟩ := for_sq (m := slotE 0) (t := .one 2) (body := lb_check_lengths_0 (callF G (k + 1))) (σ := [some (.ref a), some (.int 10), none]) rfl s (by rw [nats_len]; omega)
    (fun r σ h' => h' = h ∧ ∃ (o1 : Option W) (ls' : List Nat), r = nats ls' ∧ (∀ x ∈ ls', x ∈ ls) ∧ σ = [some (.ref a), some (.int 10), o1]) (fun _ _ _ I => I.1 ▸ s) (fun y r σ h' I => by
      obtain ⟨rfl, o1, ls', hr, hm, rfl⟩ := I
      cases ls' with
      | nil => cases hr
      | cons x ls' =>
        injection hr with h1 h2
        subst h1 h2
        have xl := h10 x (hm x List.mem_cons_self)
        refine ⟨_, rfl, [some (.ref a), some (.int 10), some (.int (x : Int))], h', .inl ?_, rfl, _, ls', rfl, fun t m => hm t (List.mem_cons_of_mem _ m), rfl⟩
        have l1 : (1 : Int) ≤ (x : Int) := by omega
        have l2 : (x : Int) ≤ 10 := by omega
        simp [lb_check_lengths_0, c_integer_within, l1, l2]) ⟨rfl, none, ls, rfl, fun _ m => m, rfl⟩
  rw [callF_succ, u_check_lengths]
  simp [b_check_lengths, s.isi, e1, s.listW]
end Lw
/-! free_words: the loop -/
namespace Lw
open PySem PySem.Spec PyProof.Rows L2 Rh
/-- the words that are written by now -/
def part (ts : List (List Bool)) (done : List Nat) : List W := (List.range ts.length).map fun i => if i ∈ done then .str (tx (ts.getD i [])) else .str (tx [])
theorem part_set {ts : List (List Bool)} {done : List Nat} {j : Nat} (jl : j < ts.length) : (part ts done).set j (.str (tx (ts.getD j []))) = part ts (done ++ [j]) := by
  unfold part
  refine List.ext_getElem (by simp) fun i h1 h2 => ?_
  rw [List.getElem_set]
  simp only [List.getElem_map, List.getElem_range]
  by_cases e : j = i
  · subst e; simp
  · have e2 : ¬ i = j := fun z => e z.symm
    rw [if_neg e]
    simp [e2]
theorem part_all {ts : List (List Bool)} {done : List Nat} (h : ∀ i, i < ts.length → i ∈ done) : part ts done = txW ts := by
  unfold part txW
  refine List.ext_getElem (by simp) fun i h1 h2 => ?_
  have hi : i < ts.length := by simpa using h1
  simp [h i hi, hi]
theorem free_loop (k : Nat) {h : HS} {a b c : Nat} {ts : List (List Bool)} (T : Txs ts) (hb : bckW ts (ord (lens ts)) 0 = none) (ga : h.get a = .lst (nats (lens ts))) (gb : h.get b = .lst (part ts [])) (gc : h.get c = .lst (nats (ord (lens ts)))) (ab : a ≠ b) (cb : c ≠ b) (o0 : Option W) :
    ∃ σ g, Rh.forM (.live c) (.one 4) (lb_free_words_0 (callF G (k + 1))) FUEL 0 [o0, some (.ref a), some (.ref b), some (.int 0), none] h = .nx σ g ∧ (∀ n, n ≠ b → g.get n = h.get n) ∧ g.sz = h.sz ∧ g.get b = .lst (txW ts) ∧ getS σ 2 = some (.ref b) := by
  obtain ⟨σ', g, e, hk, hz, ps, done, u, o4, hr, hd, gw, hu, hbb, rfl⟩ := forM_live (a := c) (ws := nats (ord (lens ts))) (t := .one 4) (body := lb_free_words_0 (callF G (k + 1)))
    (fun r σ g => (∀ n, n ≠ b → g.get n = h.get n) ∧ g.sz = h.sz ∧ ∃ (ps done : List Nat) (u : Nat) (o4 : Option W), r = nats ps ∧ done ++ ps = ord (lens ts) ∧ g.get b = .lst (part ts done) ∧ At ts ps u ∧ bckW ts ps u = none ∧ σ = [o0, some (.ref a), some (.ref b), some (.int (u : Int)), o4])
    (fun _ _ _ I => (I.1 c cb).trans gc) (fun y r σ g I => by
      obtain ⟨hk, hz, ps, done, u, o4, hr, hd, gw, hu, hbb, rfl⟩ := I
      cases ps with
      | nil => cases hr
      | cons j ps =>
        injection hr with h1 h2
        subst h1 h2
        have jl : j < ts.length := by
          have := (ord_mem T.lens (k := j)).mp (by rw [← hd]; simp)
          simpa [lens] using this
        rw [bckW_cons] at hbb
        have top := hu.top
        by_cases nc : (u = 1024 ∨ ts.getD j [] ≠ (figs u 10).take (ts.getD j []).length)
        · rw [if_pos nc] at hbb; cases hbb
        · rw [if_neg nc] at hbb
          have st := hu.step nc
          have tl : (ts.getD j []).length ≤ 10 := by
            have : ts.getD j [] = ts[j] := by simp [jl]
            rw [this]
            exact (T.len _ (List.getElem_mem jl)).2
          have ga' : g.get a = .lst (nats (lens ts)) := (hk a ab).trans ga
          have e3 : ixO (g.get a) (j : Int) g = .ok (.int ((ts.getD j []).length : Nat)) g := by
            have : ixW G.dcts (.ref a) (.int (j : Int)) g = _ := (Sq.lst a ga').ix
            rw [atI_n, nats_get (by simp [lens, jl]), lens_get] at this
            exact this
          have c1 : u ≠ 1024 := fun z => nc (.inl z)
          have d : ts.getD j [] = (figs u 10).take (ts.getD j []).length := Classical.not_not.mp fun z => nc (.inr z)
          have wf := c_word_from k u (ts.getD j []).length g (by omega) tl
          rw [← d] at wf
          have c2 : ¬ (u : Int) = 1024 := by omega
          have sh := shr_sz tl
          rw [Int.toNat_natCast] at sh
          have e4 : ixO ((g.set b (.lst (part ts (done ++ [j])))).get a) (j : Int) (g.set b (.lst (part ts (done ++ [j])))) = .ok (.int ((ts.getD j []).length : Nat)) (g.set b (.lst (part ts (done ++ [j])))) := by
            have : ixW G.dcts (.ref a) (.int (j : Int)) (g.set b (.lst (part ts (done ++ [j])))) = _ := (Sq.lst a (by rw [get_set, if_neg ab]; exact ga')).ix
            rw [atI_n, nats_get (by simp [lens, jl]), lens_get] at this
            exact this
          have ps := part_set (done := done) jl
          refine ⟨_, rfl, [o0, some (.ref a), some (.ref b), some (.int ((u + sz (ts.getD j []) : Nat) : Int)), some (.int (j : Int))], g.set b (.lst (part ts (done ++ [j]))), .inl ?_, fun n hn => ?_, hz, _, done ++ [j], _, _, rfl, by rw [← hd]; simp, by simp, st, hbb, rfl⟩
          · generalize ts.getD j [] = x at *
            have pl : j < (part ts done).length := by simp [part, jl]
            have ix : ixN (part ts done).length (j : Int) = some j := by rw [ixN_pos (by omega) (by omega)]; rfl
            have gs : ∀ o, (g.set b o).get a = g.get a := fun o => by rw [get_set, if_neg ab]
            have e5 : ixO (g.get a) (j : Int) (g.set b (.lst (part ts (done ++ [j])))) = .ok (.int (x.length : Nat)) (g.set b (.lst (part ts (done ++ [j])))) := by rw [← gs]; exact e4
            simp [lb_free_words_0, c2, e3, wf, gw, ps, ix, ab, e5]
            exact sh
          · rw [get_set, if_neg hn]; exact hk n hn) FUEL 0 [o0, some (.ref a), some (.ref b), some (.int 0), none] h (by rw [nats_len, ord_len T]; have := T.few; unfold FUEL; omega) (by omega) ⟨fun _ _ => rfl, rfl, ord (lens ts), [], 0, none, rfl, rfl, gb, At.start T, hb, rfl⟩
  have : ps = [] := by cases ps with
    | nil => rfl
    | cons _ _ => cases hr
  subst this
  rw [List.append_nil] at hd
  subst hd
  refine ⟨_, g, e, hk, hz, ?_, rfl⟩
  rw [gw, part_all fun i hi => (ord_mem T.lens).mpr (by simpa [lens] using hi)]
end Lw
/-! free_words' contract -/
namespace Lw
open PySem PySem.Spec PyProof.Rows L2 Rh
theorem flat_rep (n : Nat) : (List.replicate n [W.str (tx [])]).flatten = List.replicate n (W.str (tx [])) := by
  induction n with
  | zero => rfl
  | succ n ih => rw [List.replicate_succ, List.flatten_cons, ih]; rfl
theorem part_none (ts : List (List Bool)) : part ts [] = List.replicate ts.length (W.str (tx [])) := by
  unfold part
  refine List.ext_getElem (by simp) fun i h1 h2 => ?_
  simp
theorem c_free_words (k : Nat) {h : HS} {a : Nat} {ts : List (List Bool)} (T : Txs ts) (hb : bckW ts (ord (lens ts)) 0 = none) (ga : h.get a = .lst (nats (lens ts))) (la : a < h.sz) :
    ∃ n g, callF G (k + 3) "free_words" [.ref a] h = .ok (.ref n) g ∧ Old h g ∧ g.get n = .lst (txW ts) := by
  have few := T.few
  have hl : (lens ts).length = ts.length := by simp [lens]
  have ck := c_check_lengths k ga (by rw [hl]; omega) T.lens
  have rp : repO (((h.push (.lst (nats (lens ts)))).push (.lst [.str (tx [])])).get (h.sz + 1)) (ts.length : Int) ((h.push (.lst (nats (lens ts)))).push (.lst [.str (tx [])])) =
      .ok (.ref (h.sz + 2)) (((h.push (.lst (nats (lens ts)))).push (.lst [.str (tx [])])).push (.lst (part ts []))) := by
    have g0 : ((h.push (.lst (nats (lens ts)))).push (.lst [.str (tx [])])).get (h.sz + 1) = .lst [.str (tx [])] := by simp
    rw [g0, part_none, ← flat_rep]
    have s1 : iLt (ts.length : Int) (2 ^ 62) = true := iLt_iff.mpr (by omega)
    have s2 : decide ([W.str (tx [])].length * ((ts.length : Int)).toNat ≤ LIM) = true := decide_eq_true (by simp; omega)
    unfold repO
    dsimp only
    rw [s1, s2]
    rfl
  have gl : (((h.push (.lst (nats (lens ts)))).push (.lst [.str (tx [])])).push (.lst (part ts []))).get h.sz = .lst (nats (lens ts)) := by
    simp
    intro e; omega
  obtain ⟨g3, e3, o3, q3, l3⟩ := c_in_order (k + 1) (h := ((h.push (.lst (nats (lens ts)))).push (.lst [.str (tx [])])).push (.lst (part ts []))) gl (by simp; omega) (by rw [hl]; omega)
  have gb : g3.get (h.sz + 2) = .lst (part ts []) := by rw [o3.2 _ (by simp)]; simp
  have ga3 : g3.get h.sz = .lst (nats (lens ts)) := by rw [o3.2 _ (by simp; omega), gl]
  obtain ⟨σ, g, e4, hk, hz, q4, q5⟩ := free_loop (k + 1) (h := g3) (a := h.sz) (b := h.sz + 2) (c := h.sz + 3) T hb ga3 gb q3 (by omega) (by omega) (some (.ref a))
  have isl : isLst (g3.get (h.sz + 3)) = true := by rw [show g3.get (h.sz + 3) = _ from q3]; rfl
  refine ⟨h.sz + 2, g, ?_, ⟨?_, fun n hn => ?_⟩, q4⟩
  · rw [callF_succ, u_free_words]
    have ln : lenW (.ref h.sz) ((h.push (.lst (nats (lens ts)))).push (.lst [.str (tx [])])) = .ok (.int (ts.length : Int)) ((h.push (.lst (nats (lens ts)))).push (.lst [.str (tx [])])) := by
      rw [(Sq.lst (ws := nats (lens ts)) h.sz (by simp)).len, nats_len, hl]
    generalize hg1 : (h.push (.lst (nats (lens ts)))).push (.lst [.str (tx [])]) = g1 at *
    have hz2 : (g1.push (.lst (part ts []))).sz = h.sz + 3 := by rw [← hg1]; rfl
    rw [hz2] at e3
    generalize g1.push (.lst (part ts [])) = g2 at *
    have mw : mulW (.ref (h.sz + 1)) (.int ((nats (lens ts)).length : Nat)) ((h.push (.lst (nats (lens ts)))).push (.lst [.str (tx [])])) = .ok (.ref (h.sz + 2)) g2 := by
      rw [hg1, nats_len, hl]
      exact rp
    have e3 : callF G (k + 2) "in_order" [.ref h.sz] g2 = .ok (.ref (h.sz + 3)) g3 := e3
    have e4 : Rh.forM (Itd.live (h.sz + 3)) (Tg.one 4) (lb_free_words_0 (callF G (k + 2))) FUEL 0 [some (W.ref a), some (W.ref h.sz), some (W.ref (h.sz + 2)), some (W.int 0), none] g3 = RS.nx σ g := e4
    simp [b_free_words, ck, forS_at, tx_0, mw, e3, isl, e4, q5]
  · have := o3.1
    simp at this
    omega
  · rw [hk n (by omega), o3.2 n (by simp; omega)]
    simp
    have e1 : ¬ n = h.sz + 1 + 1 := by omega
    have e2 : ¬ n = h.sz + 1 := by omega
    have e3 : ¬ n = h.sz := by omega
    simp [e1, e2, e3]
end Lw
/-! the tree's lengths -/
namespace Lw
open PySem PySem.Spec PyProof.Rows L2 Rh
def kr : List Nat → Nat
  | [] => 0
  | l :: r => 2 ^ (10 - l) + kr r
theorem kr_app : ∀ a b : List Nat, kr (a ++ b) = kr a + kr b
  | [], b => by simp [kr]
  | x :: a, b => by simp [kr, kr_app a b]; omega
theorem kr_set : ∀ (ls : List Nat) (i l : Nat), ls[i]? = some l → l ≤ 9 → kr (ls.set i (l + 1)) + 2 ^ (10 - (l + 1)) = kr ls
  | [], _, _, h, _ => by cases h
  | x :: r, 0, l, h, hl => by
    have e : x = l := by simpa using h
    subst e
    have p : 2 ^ (10 - x) = 2 ^ (10 - (x + 1)) * 2 := by rw [← Nat.pow_succ]; congr 1; omega
    simp only [List.set_cons_zero, kr]
    omega
  | x :: r, i + 1, l, h, hl => by
    have ih := kr_set r i l (by simpa using h) hl
    simp only [List.set_cons_succ, kr]
    omega
/-- one split keeps the sum -/
theorem kr_step {ls : List Nat} {i l : Nat} (h : ls[i]? = some l) (hl : l ≤ 9) : kr (ls.set i (l + 1) ++ [l + 1]) = kr ls := by
  rw [kr_app, ← kr_set ls i l h hl]
  simp [kr]
theorem kr_low : ∀ ls : List Nat, (∀ x ∈ ls, 9 ≤ x) → kr ls ≤ 2 * ls.length
  | [], _ => by simp [kr]
  | x :: r, h => by
    have ih := kr_low r fun y m => h y (List.mem_cons_of_mem _ m)
    have hx := h x List.mem_cons_self
    have p : 2 ^ (10 - x) ≤ 2 := by
      have : 10 - x ≤ 1 := by omega
      exact Nat.pow_le_pow_right (n := 2) (by decide) this
    simp only [kr, List.length_cons]
    omega
end Lw
/-! the tree's contract -/
namespace Lw
open PySem PySem.Spec PyProof.Rows L2 Rh
def i9 (xs : List Nat) : List Int := xs.map fun (k : Nat) => (k : Int)
theorem nats_ints (xs : List Nat) : nats xs = intsW (i9 xs) := by simp [nats, intsW, i9]
theorem min_nats {g : HS} {b : Nat} {ls : List Nat} (gb : g.get b = .lst (nats ls)) (hne : ls ≠ []) : ∃ m, m ∈ ls ∧ (∀ y ∈ ls, m ≤ y) ∧ biW .min [.ref b] g = .ok (.int (m : Nat)) g := by
  cases ls with
  | nil => exact absurd rfl hne
  | cons x r =>
    obtain ⟨h1, h2, h3⟩ := minL_spec (i9 r) (x : Int)
    have hm : ∃ m : Nat, m ∈ x :: r ∧ minL (x : Int) (i9 r) = (m : Int) := by
      rcases h1 with h1 | h1
      · exact ⟨x, by simp, h1⟩
      · obtain ⟨m, q1, q2⟩ := List.mem_map.mp h1
        exact ⟨m, by simp [q1], q2.symm⟩
    obtain ⟨m, q1, q2⟩ := hm
    refine ⟨m, q1, fun y hy => ?_, ?_⟩
    · rcases List.mem_cons.mp hy with e | e
      · subst e; omega
      · have := h3 (y : Int) (List.mem_map.mpr ⟨y, e, rfl⟩)
        omega
    · show foldO minL (g.get b) g = _
      rw [gb]
      show foldI minL (nats (x :: r)) g = _
      rw [nats_ints]
      unfold foldI
      rw [intsOf_ints]
      show R.ok (W.int (minL (x : Int) (i9 r))) g = _
      rw [q2]
theorem idx_nats {g : HS} {b m : Nat} {ls : List Nat} (gb : g.get b = .lst (nats ls)) (hm : m ∈ ls) : ∃ n, n < ls.length ∧ ls[n]? = some m ∧ mtW .index (.ref b) [.int (m : Int)] g = .ok (.int (n : Int)) g := by
  have h1 : (m : Int) ∈ i9 ls := List.mem_map.mpr ⟨m, hm, rfl⟩
  have h2 := List.idxOf_lt_length_iff.mpr h1
  have hl : (i9 ls).length = ls.length := by simp [i9]
  have h3 : (i9 ls)[(i9 ls).idxOf (m : Int)]? = some (m : Int) := by
    rw [List.getElem?_eq_getElem h2, List.getElem_idxOf h2]
  refine ⟨(i9 ls).idxOf (m : Int), by omega, ?_, ?_⟩
  · simp only [i9, List.getElem?_map] at h3
    cases e : ls[(List.map (fun (k : Nat) => (k : Int)) ls).idxOf (m : Int)]? with
    | none => rw [e] at h3; cases h3
    | some v =>
      rw [e] at h3
      have : (v : Int) = m := by simpa using h3
      show ls[(List.map (fun (k : Nat) => (k : Int)) ls).idxOf (m : Int)]? = _
      rw [e]
      congr 1
      omega
  · rw [mtW_ir, gb, idxO_l, nats_ints, idxL_ints h1]
structure Tree (ls : List Nat) : Prop where
  rng : ∀ x ∈ ls, 1 ≤ x ∧ x ≤ 9
  sum : kr ls = 1024
theorem Tree.low {ls : List Nat} (T : Tree ls) (hl : ls.length ≤ 100) {m : Nat} (h : ∀ y ∈ ls, m ≤ y) : m ≤ 8 := by
  refine Classical.byContradiction fun c => ?_
  have := kr_low ls fun x hx => by have := h x hx; omega
  have := T.sum
  omega
theorem Tree.step {ls : List Nat} (T : Tree ls) {n v : Nat} (e : ls[n]? = some v) (hv : v ≤ 8) : Tree (ls.set n (v + 1) ++ [v + 1]) := by
  have v1 : 1 ≤ v := (T.rng v (List.mem_of_getElem? e)).1
  refine ⟨fun x hx => ?_, by rw [kr_step e (by omega)]; exact T.sum⟩
  rcases List.mem_append.mp hx with z | z
  · rcases List.mem_or_eq_of_mem_set z with y | y
    · exact T.rng x y
    · omega
  · have : x = v + 1 := by simpa using z
    omega
theorem nats_set (ls : List Nat) (n v : Nat) : (nats ls).set n (.int (v : Int)) = nats (ls.set n v) := by simp [nats, List.map_set]
theorem getN {ls : List Nat} {n v : Nat} (e : ls[n]? = some v) : (nats ls)[n]? = some (.int (v : Int)) := by simp [nats, e]
/-- a turn's tail: the length at n is raised and put again at the end -/
theorem tree_tail {cf : PySem.Str → List W → HS → R W} {σ : Fr} {g : HS} {b n v : Nat} {ls : List Nat} (s2 : getS σ 2 = some (.ref b)) (s4 : getS σ 4 = some (.int (n : Int))) (gb : g.get b = .lst (nats ls)) (e : ls[n]? = some v) (hl : ls.length < 1000) :
    (seqS (asgIx (slotE 2) (slotE 4) (binE (binW .Add) (binE (ixW G.dcts) (slotE 2) (slotE 4)) (valE (.int 1))))
    (exprS (methE .append (slotE 2) (consA (binE (ixW G.dcts) (slotE 2) (slotE 4)) nilA)))) σ g = .nx σ ((g.set b (.lst (nats (ls.set n (v + 1))))).set b (.lst (nats (ls.set n (v + 1) ++ [v + 1])))) := by
  have hn : n < ls.length := (List.getElem?_eq_some_iff.mp e).1
  have i1 : ixW G.dcts (.ref b) (.int (n : Int)) g = .ok (.int (v : Int)) g := by
    rw [(Sq.lst b gb).ix, atI_n, getN e]; rfl
  have p1 : putW (.ref b) (.int (n : Int)) (.int ((v : Int) + 1)) g = .ok () (g.set b (.lst (nats (ls.set n (v + 1))))) := by
    show putO (g.get b) b (n : Int) _ g = _
    rw [gb]
    show (match ixN (nats ls).length (n : Int) with | some j => _ | none => _) = _
    rw [ixN_pos (by omega) (by rw [nats_len]; omega)]
    show R.ok () (g.set b (.lst ((nats ls).set n (.int ((v : Int) + 1))))) = _
    rw [show ((v : Int) + 1) = ((v + 1 : Nat) : Int) by omega, nats_set]
  have g1 : (g.set b (.lst (nats (ls.set n (v + 1))))).get b = .lst (nats (ls.set n (v + 1))) := by simp
  have i2 : ixW G.dcts (.ref b) (.int (n : Int)) (g.set b (.lst (nats (ls.set n (v + 1))))) = .ok (.int ((v + 1 : Nat) : Int)) (g.set b (.lst (nats (ls.set n (v + 1))))) := by
    rw [(Sq.lst b g1).ix, atI_n, getN (v := v + 1) (by rw [List.getElem?_set_self hn])]; rfl
  have g2 : (nats (ls.set n (v + 1))).length < 16777216 := by rw [nats_len, List.length_set]; omega
  have p1 : putO (g.get b) b (n : Int) (.int ((v : Int) + 1)) g = .ok () (g.set b (.lst (nats (ls.set n (v + 1))))) := p1
  generalize g.set b (.lst (nats (ls.set n (v + 1)))) = g3 at *
  have gn : (nats (ls.set n (v + 1)))[n]? = some (.int ((v + 1 : Nat) : Int)) := getN (by rw [List.getElem?_set_self hn])
  have i1 : ixO (g.get b) (n : Int) g = .ok (.int (v : Int)) g := i1
  simp [s2, s4, i1, p1, gn, g1, g2, nats_app]
  rfl
end Lw
/-! the tree's contract -/
namespace Lw
open PySem PySem.Spec PyProof.Rows L2 Rh
theorem c_tree (k : Nat) {h : HS} {s l : Nat} (S : Src h s l) (n : Int) (h2 : 2 ≤ n) (h40 : n ≤ 60) :
    ∃ ls h', callF G (k + 3) "_law_tree" [.ref s, .int n] h = .ok (.ref h.sz) h' ∧ h'.get h.sz = .lst (nats ls) ∧ Tree ls ∧ ls.length = n.toNat ∧ Src h' s l ∧ Kept s l h h' ∧ h.sz < h'.sz := by
  have sl := S.ls
  have ll := S.ll
  have g0 : (h.push (.lst (nats [1, 1]))).get h.sz = .lst (nats [1, 1]) := by simp
  obtain ⟨σ', h', e, o3, o4, ls, rfl, hg, T, hl, S', K', z'⟩ := forL_ok (t := .one 3) (body := lb__law_tree_0 (callF G (k + 2)))
    (fun r σ g => ∃ (o3 o4 : Option W) (ls : List Nat), σ = [some (.ref s), some (.int n), some (.ref h.sz), o3, o4] ∧ g.get h.sz = .lst (nats ls) ∧ Tree ls ∧ ls.length + r.length = n.toNat ∧ Src g s l ∧ Kept s l h g ∧ h.sz < g.sz) (fun y r σ g I => by
      obtain ⟨o3, o4, ls, rfl, hg, T, hl, Sg, Kg, zg⟩ := I
      have hl1 : ls.length + r.length + 1 = n.toNat := by simpa [Nat.add_assoc] using hl
      have hne : ls ≠ [] := fun e => by have := T.sum; rw [e] at this; cases this
      have hpos := List.length_pos_iff.mpr hne
      obtain ⟨d, g1, e1, d0, d1, S1, K1⟩ := c_draw k Sg (ls.length : Int) (by omega) (by omega)
      have hg1 : g1.get h.sz = .lst (nats ls) := by rw [K1.2 h.sz zg (by omega) (by omega), hg]
      obtain ⟨m, rfl⟩ : ∃ m : Nat, d = m := ⟨d.toNat, by omega⟩
      have hm : m < ls.length := by omega
      have ln : lenO (g.get h.sz) g = .ok (.int (ls.length : Int)) g := by rw [hg, lenO_l, nats_len]
      have ix : ixW G.dcts (.ref h.sz) (.int (m : Int)) g1 = .ok (.int (ls[m] : Int)) g1 := by
        rw [(Sq.lst h.sz hg1).ix, atI_n, getN (List.getElem?_eq_getElem hm)]; rfl
      have fin : ∀ (q v : Nat) (o4 : Option W), ls[q]? = some v → v ≤ 8 → o4 = some (.int (q : Int)) →
          ∃ σ2 h2, (seqS (asgIx (slotE 2) (slotE 4) (binE (binW .Add) (binE (ixW G.dcts) (slotE 2) (slotE 4)) (valE (.int 1)))) (exprS (methE .append (slotE 2) (consA (binE (ixW G.dcts) (slotE 2) (slotE 4)) nilA)))) [some (.ref s), some (.int n), some (.ref h.sz), some y, o4] g1 = .nx σ2 h2 ∧
            ∃ (o3 o4 : Option W) (ls : List Nat), σ2 = [some (.ref s), some (.int n), some (.ref h.sz), o3, o4] ∧ h2.get h.sz = .lst (nats ls) ∧ Tree ls ∧ ls.length + r.length = n.toNat ∧ Src h2 s l ∧ Kept s l h h2 ∧ h.sz < h2.sz := by
        intro q v o4 e hv ho
        subst ho
        refine ⟨_, _, tree_tail (cf := callF G (k + 2)) rfl rfl hg1 e (by omega), _, _, _, rfl, by simp, T.step e hv, by simp; omega, ?_, ?_, ?_⟩
        · obtain ⟨xs, p, c, q1, q2, q3⟩ := S1.ex
          have a1 : s ≠ h.sz := by omega
          have a2 : l ≠ h.sz := by omega
          exact ⟨S1.ne, S1.ls, S1.ll, xs, p, c, by simp [a1, q1], by simp [a2, q2], q3⟩
        · refine ⟨Nat.le_trans Kg.1 K1.1, fun n hn x y => ?_⟩
          have a : n ≠ h.sz := by omega
          simp [a]
          exact (Kg.trans K1).2 n hn x y
        · exact Nat.lt_of_lt_of_le zg K1.1
      by_cases c : (8 : Int) < (ls[m] : Int)
      · obtain ⟨v, v1, v2, v3⟩ := min_nats hg1 hne
        obtain ⟨q, q1, q2, q3⟩ := idx_nats hg1 v1
        have il : isLst (g1.get h.sz) = true := by rw [hg1]; rfl
        obtain ⟨σ2, h2, e5, I2⟩ := fin q v _ q2 (T.low (by omega) v2) rfl
        refine ⟨_, rfl, σ2, h2, .inl ?_, I2⟩
        have q3' : idxO (g1.get h.sz) (.int (v : Int)) g1 = .ok (.int (q : Int)) g1 := q3
        unfold lb__law_tree_0
        generalize (seqS (asgIx (slotE 2) (slotE 4) (binE (binW .Add) (binE (ixW G.dcts) (slotE 2) (slotE 4)) (valE (.int 1)))) (exprS (methE .append (slotE 2) (consA (binE (ixW G.dcts) (slotE 2) (slotE 4)) nilA)))) = tail at e5 ⊢
        have ix : ixO (g1.get h.sz) (m : Int) g1 = .ok (.int (ls[m] : Int)) g1 := ix
        simp [ln, e1, ix, c, v3, il, q3']
        exact e5
      · obtain ⟨σ2, h2, e5, I2⟩ := fin m ls[m] _ (List.getElem?_eq_getElem hm) (by omega) rfl
        refine ⟨_, rfl, σ2, h2, .inl ?_, I2⟩
        unfold lb__law_tree_0
        generalize (seqS (asgIx (slotE 2) (slotE 4) (binE (binW .Add) (binE (ixW G.dcts) (slotE 2) (slotE 4)) (valE (.int 1)))) (exprS (methE .append (slotE 2) (consA (binE (ixW G.dcts) (slotE 2) (slotE 4)) nilA)))) = tail at e5 ⊢
        have ix : ixO (g1.get h.sz) (m : Int) g1 = .ok (.int (ls[m] : Int)) g1 := ix
        simp [ln, e1, ix, c]
        exact e5) (rng 0 (n - 2).toNat) [some (.ref s), some (.int n), some (.ref h.sz), none, none] (h.push (.lst (nats [1, 1])))
    ⟨none, none, [1, 1], rfl, g0, ⟨by simp, by decide⟩, by rw [rng_len]; simp; omega, S.old Old.push, old_kept Old.push, by simp⟩
  have g1 : -1000000 ≤ n - 2 ∧ n - 2 < 1000000 := ⟨by omega, by omega⟩
  have hz : (rng 0 (n - 2).toNat).length ≤ 100000 := by rw [rng_len]; omega
  refine ⟨ls, h', ?_, hg, T, by simpa using hl, S', K', z'⟩
  rw [callF_succ, u__law_tree]
  have e : forL (.one 3) (lb__law_tree_0 (callF G (k + 2))) (rng 0 (n - 2).toNat) [some (.ref s), some (.int n), some (.ref h.sz), none, none] (h.push (.lst [.int 1, .int 1])) = _ := e
  simp [b__law_tree, forS_at, g1, forM_vals, hz, e, newL]
end Lw
/-! the texts' contract, first half -/
namespace Lw
open PySem PySem.Spec PyProof.Rows L2 Rh
theorem txs_loop (k : Nat) {h : HS} {s l b t : Nat} {tr : List Nat} (S : Src h s l) (gb : h.get b = .lst (nats [])) (gt : h.get t = .lst (nats tr)) (bs : b ≠ s) (bl : b ≠ l) (ts : t ≠ s) (tl : t ≠ l) (bt : b ≠ t) (lb : b < h.sz) (lt : t < h.sz)
    (T : ∀ x ∈ tr, 1 ≤ x ∧ x ≤ 9) (hl : tr.length ≤ 60) :
    ∃ o2 ls g, Rh.forM (.live t) (.one 2) (lb__law_texts_3 (callF G (k + 2))) FUEL 0 [some (.ref s), some (.ref b), none, none, none, none, none, none] h = .nx [some (.ref s), some (.ref b), o2, none, none, none, none, none] g ∧ g.get b = .lst (nats ls) ∧ (∀ x ∈ ls, 1 ≤ x ∧ x ≤ 9) ∧ ls.length ≤ tr.length ∧
      Src g s l ∧ h.sz ≤ g.sz ∧ (∀ n, n < h.sz → n ≠ s → n ≠ l → n ≠ b → g.get n = h.get n) := by
  obtain ⟨σ', g, e, o2, ls, rest, rfl, hg, hr, ht, q1, q2, hle, S2, hz, K⟩ := forM_live (a := t) (ws := nats tr) (t := .one 2) (body := lb__law_texts_3 (callF G (k + 2)))
    (fun r σ g => ∃ (o2 : Option W) (ls rest : List Nat), σ = [some (.ref s), some (.ref b), o2, none, none, none, none, none] ∧ g.get b = .lst (nats ls) ∧ r = nats rest ∧ g.get t = .lst (nats tr) ∧ (∀ x ∈ ls, 1 ≤ x ∧ x ≤ 9) ∧ (∀ x ∈ rest, 1 ≤ x ∧ x ≤ 9) ∧ ls.length + rest.length ≤ tr.length ∧
      Src g s l ∧ h.sz ≤ g.sz ∧ (∀ n, n < h.sz → n ≠ s → n ≠ l → n ≠ b → g.get n = h.get n)) (fun _ _ _ ⟨_, _, _, _, _, _, q, _⟩ => q) (fun y r σ g I => by
      obtain ⟨o2, ls, rest, rfl, hg, hr, ht, q1, q2, hle, Sg, hz, K⟩ := I
      cases rest with
      | nil => cases hr
      | cons x rest =>
        injection hr with h1 h2
        subst h1 h2
        have hle2 : ls.length + rest.length + 1 ≤ tr.length := by simpa [Nat.add_assoc] using hle
        have ht' := ht
        obtain ⟨d1, g1, e1, p1, p2, S1, K1⟩ := c_draw k Sg 12 (by decide) (by decide)
        have hg1 : g1.get b = .lst (nats ls) := by rw [K1.2 b (by omega) bs bl, hg]
        have ht1 : g1.get t = .lst (nats tr) := by rw [K1.2 t (by omega) ts tl, ht]
        by_cases c : d1 = 11
        · subst c
          refine ⟨_, rfl, [some (.ref s), some (.ref b), some (.int (x : Int)), none, none, none, none, none], g1, .inl (by simp [lb__law_texts_3, e1]), _, ls, rest, rfl, hg1, rfl, ht1, q1, fun z hz => q2 z (List.mem_cons_of_mem _ hz), by omega, S1, Nat.le_trans hz K1.1, fun n hn a1 a2 a3 => ?_⟩
          rw [K1.2 n (by omega) a1 a2]
          exact K n hn a1 a2 a3
        · have ln : lenO (g1.get b) g1 = .ok (.int (ls.length : Int)) g1 := by rw [hg1, lenO_l, nats_len]
          have il : isLst (g1.get b) = true := by rw [hg1]; rfl
          obtain ⟨d2, g2, e2, r1, r2, S2, K2⟩ := c_draw k S1 ((ls.length : Int) + 1) (by omega) (by omega)
          have hg2 : g2.get b = .lst (nats ls) := by rw [K2.2 b (Nat.lt_of_lt_of_le (by omega) K1.1) bs bl, hg1]
          have ht2 : g2.get t = .lst (nats tr) := by rw [K2.2 t (Nat.lt_of_lt_of_le (by omega) K1.1) ts tl, ht1]
          obtain ⟨m, rfl⟩ : ∃ m : Nat, d2 = m := ⟨d2.toNat, by omega⟩
          have ins : insO (g2.get b) b (m : Int) (.int (x : Int)) g2 = .ok .non (g2.set b (.lst (nats (ls.take m ++ [x] ++ ls.drop m)))) := by
            rw [hg2, insO_l (by rw [nats_len]; omega) (by omega) (by omega)]
            simp [nats]
          have z2 : g.sz ≤ g2.sz := Nat.le_trans K1.1 K2.1
          refine ⟨_, rfl, [some (.ref s), some (.ref b), some (.int (x : Int)), none, none, none, none, none], g2.set b (.lst (nats (ls.take m ++ [x] ++ ls.drop m))), .inl ?_, _, ls.take m ++ [x] ++ ls.drop m, rest, rfl, by simp, rfl, ?_, fun z hz => ?_, fun z hz => q2 z (List.mem_cons_of_mem _ hz), ?_, ?_, Nat.le_trans hz z2, fun n hn a1 a2 a3 => ?_⟩
          · simp [lb__law_texts_3, e1, c, il, ln, e2, ins]
          · rw [get_set, if_neg (fun e => bt e.symm)]; exact ht2
          · have z' : z ∈ ls ∨ z = x := by
              rcases List.mem_append.mp hz with z1 | z1
              · rcases List.mem_append.mp z1 with z1 | z1
                · exact .inl (List.mem_of_mem_take z1)
                · exact .inr (by simpa using z1)
              · exact .inl (List.mem_of_mem_drop z1)
            rcases z' with z' | z'
            · exact q1 z z'
            · subst z'; exact q2 z List.mem_cons_self
          · simp; omega
          · obtain ⟨xs, p, c, w1, w2, w3⟩ := S2.ex
            exact ⟨S2.ne, S2.ls, S2.ll, xs, p, c, by rw [get_set, if_neg (fun e => bs e.symm)]; exact w1, by rw [get_set, if_neg (fun e => bl e.symm)]; exact w2, w3⟩
          · rw [get_set, if_neg a3, K2.2 n (Nat.lt_of_lt_of_le (by omega) K1.1) a1 a2, K1.2 n (by omega) a1 a2]
            exact K n hn a1 a2 a3) FUEL 0 [some (.ref s), some (.ref b), none, none, none, none, none, none] h (by rw [nats_len]; unfold FUEL; omega) (by omega)
      ⟨none, [], tr, rfl, gb, rfl, gt, fun x hx => by simp at hx, T, by simp, S, Nat.le_refl _, fun _ _ _ _ _ => rfl⟩
  exact ⟨o2, ls, g, e, hg, q1, by omega, S2, hz, K⟩
def rp (ls : List Nat) : List (List Bool) := ls.map fun l => List.replicate l false
theorem rp_lens (ls : List Nat) : lens (rp ls) = ls := by
  unfold lens rp
  rw [List.map_map]
  refine (List.map_congr_left fun x _ => ?_).trans (List.map_id' ls)
  simp
theorem rp_get (ls : List Nat) (j : Nat) : ((rp ls).getD j []).length = ls.getD j 0 := by rw [← lens_get, rp_lens]
theorem rp_txs {ls : List Nat} (h1 : ∀ x ∈ ls, 1 ≤ x ∧ x ≤ 10) (h2 : ls.length < 64) : Txs (rp ls) := ⟨fun t ht => by
    obtain ⟨x, hx, rfl⟩ := List.mem_map.mp ht
    simpa using h1 x hx, by simpa [rp] using h2⟩
/-- a comprehension over range(n), with numbers -/
theorem lc_rng {m : EM} {e : EM} {i : Nat} {n : Nat} {σ : Fr} {h : HS} {f : Nat → W} (hm : m σ h = .ok (.int (n : Int)) h) (hn : n ≤ 100000) (he : ∀ j, j < n → e (setS (wipeW σ [i]) i (some (.int (j : Int)))) h = .ok (f j) h) :
    lcE (rangeI (consA m nilA)) i yesT e σ h = newL ((List.range n).map f) h := by
  have e0 := lc_pure (p := yesT) (e := e) (i := i) (σ := σ) (h := h) (ws := rng 0 n) (d := .vals (rng 0 n)) (fun j => rfl) (fun _ => true) (onI (fun x => f x.toNat) .non) (by rw [rng_len]; exact hn) (fun w hw => rfl) (fun w hw _ => by
    obtain ⟨j, hj, rfl⟩ := List.mem_map.mp hw
    have := he j (List.mem_range.mp hj)
    simpa [onI] using this)
  have g1 : -1000000 ≤ (n : Int) ∧ (n : Int) < 1000000 := ⟨by omega, by omega⟩
  rw [lcE_at, rangeI_at, consA_at, hm]
  simp only [bind_okE, nilA_at, rngW_i g1.1 g1.2, Int.toNat_natCast]
  rw [e0]
  congr 1
  rw [List.filter_eq_self.mpr (fun _ _ => rfl)]
  unfold rng
  rw [List.map_map]
  refine List.map_congr_left fun x _ => ?_
  simp [onI]
theorem pairs_ok {σ : Fr} {g : HS} {b : Nat} {ls : List Nat} {cf : PySem.Str → List W → HS → R W} (T : ∀ x ∈ ls, 1 ≤ x ∧ x ≤ 10) (h64 : ls.length < 64) (gb : g.get b = .lst (nats ls)) (s1 : σ.length = 8) (s2 : getS σ 1 = some (.ref b)) (s3 : ∀ w, getS (setS (wipeW σ [7]) 7 w) 1 = some (.ref b)) (s4 : ∀ w, getS (setS (wipeW σ [7]) 7 (some w)) 7 = some w) :
    (callE (biW .sorted) (consA (lcE (rangeI (consA (callE (biW .len) (consA (slotE 1) nilA)) nilA)) 7 yesT (le__law_texts_0 cf)) nilA)) σ g = .ok (.ref (g.sz + 1)) ((g.push (.lst (prs (rp ls) (List.range ls.length)))).push (.lst (prs (rp ls) (ord ls)))) := by
  have e := lc_rng (m := callE (biW .len) (consA (slotE 1) nilA)) (e := le__law_texts_0 cf) (i := 7) (n := ls.length) (σ := σ) (h := g) (f := fun j => .tup [.int ((ls.getD j 0 : Nat) : Int), .int (j : Int)]) (by
    have ln : lenO (g.get b) g = .ok (.int (ls.length : Int)) g := by rw [gb, lenO_l, nats_len]
    simp [s2, ln]) (by omega) (fun j hj => by
      have ix : ixO (g.get b) (j : Int) g = .ok (.int ((ls.getD j 0 : Nat) : Int)) g := by
        rw [gb]
        show optR (atI (nats ls) (j : Int)) g = _
        rw [atI_n, nats_get hj]; rfl
      generalize hσ : setS (wipeW σ [7]) 7 (some (W.int (j : Int))) = σ2
      have a1 : getS σ2 1 = some (.ref b) := by rw [← hσ]; exact s3 _
      have a2 : getS σ2 7 = some (W.int (j : Int)) := by rw [← hσ]; exact s4 _
      simp [le__law_texts_0, a1, a2, ix])
  have e0 : (List.range ls.length).map (fun j => W.tup [.int ((ls.getD j 0 : Nat) : Int), .int (j : Int)]) = prs (rp ls) (List.range ls.length) := by
    unfold prs
    refine List.map_congr_left fun j _ => ?_
    rw [rp_get]
  rw [e0] at e
  have so := srt_ok (rp_txs T h64) (g.push (.lst (prs (rp ls) (List.range ls.length))))
  rw [rp_lens, show (rp ls).length = ls.length by simp [rp]] at so
  rw [callE_at, consA_at, e]
  have sr : srtW (.ref g.sz) (g.push (.lst (prs (rp ls) (List.range ls.length)))) = .ok (.ref (g.sz + 1)) ((g.push (.lst (prs (rp ls) (List.range ls.length)))).push (.lst (prs (rp ls) (ord ls)))) := by
    show srtO ((g.push (.lst (prs (rp ls) (List.range ls.length)))).get g.sz) _ = _
    rw [show (g.push (.lst (prs (rp ls) (List.range ls.length)))).get g.sz = .lst (prs (rp ls) (List.range ls.length)) by simp]
    exact so
  show srtW (.ref g.sz) (g.push (.lst (prs (rp ls) (List.range ls.length)))) = _
  exact sr
end Lw
/-! the texts' contract, second half -/
namespace Lw
open PySem PySem.Spec PyProof.Rows L2 Rh
theorem two_div (x : Nat) : (1024 : Int) / ((2 ^ x : Nat) : Int) = ((1024 / 2 ^ x : Nat) : Int) := by rw [Int.natCast_ediv]; rfl
theorem txW_set (ws : List (List Bool)) (j : Nat) (t : List Bool) : (txW ws).set j (.str (tx t)) = txW (ws.set j t) := by simp [txW, List.map_set]
theorem txs_loop2 (k : Nat) {h : HS} {d c : Nat} {ls : List Nat} (T : ∀ x ∈ ls, 1 ≤ x ∧ x ≤ 9) (h64 : ls.length < 64) (gd : h.get d = .lst (txW (List.replicate ls.length []))) (gc : h.get c = .lst (prs (rp ls) (ord ls))) (cd : c ≠ d) (o0 o1 o2 : Option W) :
    ∃ σ ws g, Rh.forM (.live c) (.row [5, 6]) (lb__law_texts_1 (callF G (k + 1))) FUEL 0 [o0, o1, o2, some (.ref d), some (.int 0), none, none, none] h = .nx σ g ∧ getS σ 3 = some (.ref d) ∧ g.get d = .lst (txW ws) ∧ Txs ws ∧ ws.length = ls.length ∧ g.sz = h.sz ∧ (∀ n, n ≠ d → g.get n = h.get n) := by
  have T10 : ∀ x ∈ ls, 1 ≤ x ∧ x ≤ 10 := fun x hx => by have := T x hx; omega
  have ol : (ord ls).length = ls.length := by have := ord_len (rp_txs T10 h64); rw [rp_lens] at this; simpa [rp] using this
  obtain ⟨σ', g, e, hk, hz, ps, done, ws, u, o5, o6, hr, hd, gw, hl, hdn, hu, rfl⟩ := forM_live (a := c) (ws := prs (rp ls) (ord ls)) (t := .row [5, 6]) (body := lb__law_texts_1 (callF G (k + 1)))
    (fun r σ g => (∀ n, n ≠ d → g.get n = h.get n) ∧ g.sz = h.sz ∧ ∃ (ps done : List Nat) (ws : List (List Bool)) (u : Nat) (o5 o6 : Option W), r = prs (rp ls) ps ∧ done ++ ps = ord ls ∧ g.get d = .lst (txW ws) ∧ ws.length = ls.length ∧ (∀ i ∈ done, (ws.getD i []).length = ls.getD i 0) ∧ u ≤ 1024 * done.length ∧ σ = [o0, o1, o2, some (.ref d), some (.int (u : Int)), o5, o6, none])
    (fun _ _ _ I => (I.1 c cd).trans gc) (fun y r σ g I => by
      obtain ⟨hk, hz, ps, done, ws, u, o5, o6, hr, hd, gw, hl, hdn, hu, rfl⟩ := I
      cases ps with
      | nil => cases hr
      | cons j ps =>
        injection hr with h1 h2
        subst h1 h2
        have jl : j < ls.length := (ord_mem T10 (k := j)).mp (by rw [← hd]; simp)
        have jm : ls.getD j 0 ∈ ls := by
          have : ls.getD j 0 = ls[j] := by simp [jl]
          rw [this]; exact List.getElem_mem jl
        have xj := T _ jm
        have dl : done.length ≤ ls.length := by
          have := congrArg List.length hd
          rw [List.length_append, ol] at this
          omega
        have fg := c_figures k u g (by omega)
        have tw := c_two k (ls.getD j 0) (g.set d (.lst (txW (ws.set j ((figs u 10).take (ls.getD j 0)))))) (by omega)
        show ∃ σ1, (Tg.row [5, 6]).put (.tup [.int (((rp ls).getD j []).length : Nat), .int (j : Int)]) _ = some σ1 ∧ _
        rw [rp_get]
        generalize hx : ls.getD j 0 = x at *
        have pw : 0 < 2 ^ x ∧ 2 ^ x < 1073741824 := ⟨Nat.pow_pos (by decide), Nat.lt_of_le_of_lt (pow_le20 (by omega)) (by decide)⟩
        have ts := tx_take (figs u 10) x
        have tl : (figs u 10).length ≤ 16777216 := by rw [figs_len]; omega
        have pj : putO (g.get d) d (j : Int) (.str (tx ((figs u 10).take x))) g = .ok () (g.set d (.lst (txW (ws.set j ((figs u 10).take x))))) := by
          rw [gw]
          show (match ixN (txW ws).length (j : Int) with | some j => _ | none => _) = _
          rw [ixN_pos (by omega) (by simp [txW]; omega)]
          show R.ok () (g.set d (.lst ((txW ws).set j _))) = _
          rw [txW_set]
        have dv : fdivW (.int 1024) (.int ((2 ^ x : Nat) : Int)) (g.set d (.lst (txW (ws.set j ((figs u 10).take x))))) = .ok (.int ((1024 / 2 ^ x : Nat) : Int)) (g.set d (.lst (txW (ws.set j ((figs u 10).take x))))) := by
          rw [fdivW_i (by omega) (by omega), two_div]
        have le1 : 1024 / 2 ^ x ≤ 1024 := Nat.div_le_self _ _
        refine ⟨_, rfl, [o0, o1, o2, some (.ref d), some (.int ((u + 1024 / 2 ^ x : Nat) : Int)), some (.int (x : Int)), some (.int (j : Int)), none], g.set d (.lst (txW (ws.set j ((figs u 10).take x)))), .inl ?_, fun n hn => ?_, hz, ps, done ++ [j], ws.set j ((figs u 10).take x), _, _, _, rfl, by rw [← hd]; simp, by simp, by simp [hl], fun i hi => ?_, by simp; omega, rfl⟩
        · generalize g.set d (.lst (txW (ws.set j ((figs u 10).take x)))) = g2 at *
          generalize 1024 / 2 ^ x = q at *
          generalize 2 ^ x = p at *
          simp [lb__law_texts_1, fg, ts, tl, pj, tw, dv]
        · rw [get_set, if_neg hn]; exact hk n hn
        · by_cases e : i = j
          · subst e
            have : (ws.set i ((figs u 10).take x)).getD i [] = (figs u 10).take x := by
              rw [List.getD_eq_getElem?_getD, List.getElem?_set_self (by omega)]; rfl
            rw [this, hx, List.length_take, figs_len]
            omega
          · have e2 : (ws.set j ((figs u 10).take x)).getD i [] = ws.getD i [] := by
              rw [List.getD_eq_getElem?_getD, List.getElem?_set_ne (fun z => e z.symm), ← List.getD_eq_getElem?_getD]
            rw [e2]
            rcases List.mem_append.mp hi with z | z
            · exact hdn i z
            · exact absurd (by simpa using z) e) FUEL 0 [o0, o1, o2, some (.ref d), some (.int 0), none, none, none] h (by unfold prs; rw [List.length_map, ol]; unfold FUEL; omega) (by omega) ⟨fun _ _ => rfl, rfl, ord ls, [], List.replicate ls.length [], 0, none, none, rfl, rfl, gd, by simp, fun i hi => by simp at hi, by omega, rfl⟩
  have : ps = [] := by cases ps with
    | nil => rfl
    | cons _ _ => cases hr
  subst this
  rw [List.append_nil] at hd
  subst hd
  refine ⟨_, ws, g, e, rfl, gw, ⟨fun t ht => ?_, by omega⟩, hl, hz, hk⟩
  obtain ⟨i, hi, rfl⟩ := List.getElem_of_mem ht
  have q := hdn i ((ord_mem T10).mpr (by omega))
  have e1 : ws.getD i [] = ws[i] := by simp [hi]
  have e2 : ls.getD i 0 ∈ ls := by
    have hi2 : i < ls.length := by omega
    have : ls.getD i 0 = ls[i] := by simp [hi2]
    rw [this]; exact List.getElem_mem hi2
  rw [e1] at q
  have := T10 _ e2
  omega
theorem c_texts (k : Nat) {h : HS} {s l : Nat} (S : Src h s l) :
    ∃ ts n h', callF G (k + 4) "_law_texts" [.ref s] h = .ok (.ref n) h' ∧ h'.get n = .lst (txW ts) ∧ Txs ts ∧ ts.length ≤ 40 ∧ Src h' s l ∧ Kept s l h h' ∧ n < h'.sz ∧ h.sz ≤ n := by
  have sl := S.ls
  have ll := S.ll
  obtain ⟨n, g1, e1, n1, n2, S1, K1⟩ := c_size k (S.old (h' := h.push (.lst [])) Old.push) 2 8 40 (by decide) (by decide) (by decide) (by decide) (by decide)
  have g1z := K1.1
  simp at g1z
  obtain ⟨tr, g2, e2, q1, T, q2, S2, K2, z2⟩ := c_tree k S1 n (by omega) (by omega)
  have b1 : g1.get h.sz = .lst (nats []) := by rw [K1.2 h.sz (by simp) (by omega) (by omega)]; simp [nats]
  have b2 : g2.get h.sz = .lst (nats []) := by rw [K2.2 h.sz (by omega) (by omega) (by omega), b1]
  obtain ⟨o2, ls, g3, e3, c1, c2, c3, S3, z3, K3⟩ := txs_loop (k + 1) (b := h.sz) (t := g1.sz) S2 b2 q1 (by omega) (by omega) (by have := S1.ls; omega) (by have := S1.ll; omega) (by omega) (by omega) z2 (fun x hx => by have := T.rng x hx; omega) (by omega)
  have isl : isLst (g2.get g1.sz) = true := by rw [q1]; rfl
  have T10 : ∀ x ∈ ls, 1 ≤ x ∧ x ≤ 10 := fun x hx => by have := c2 x hx; omega
  have hl40 : ls.length ≤ 40 := by omega
  have em : lcE (anyI (slotE 1)) 2 yesT (le__law_texts_2 (callF G (k + 3))) [some (.ref s), some (.ref h.sz), o2, none, none, none, none, none] g3 = newL (txW (List.replicate ls.length [])) g3 := by
    rw [lc_sq (w := .ref h.sz) (ws := nats ls) (f := fun _ => .str (tx [])) rfl (Sq.lst h.sz c1) (by rw [nats_len]; omega) (fun x _ => by simp [le__law_texts_2, tx_0])]
    congr 1
    unfold nats txW
    rw [List.map_map, List.map_replicate]
    exact List.map_const' ..
  have c1' : (g3.push (.lst (txW (List.replicate ls.length [])))).get h.sz = .lst (nats ls) := by rw [get_push, if_neg (by omega)]; exact c1
  have pr := pairs_ok (σ := [some (.ref s), some (.ref h.sz), o2, some (.ref g3.sz), some (.int 0), none, none, none]) (cf := callF G (k + 3)) T10 (by omega) c1' rfl rfl (fun _ => rfl) (fun _ => rfl)
  obtain ⟨σ4, ws, g4, e4, s4, d1, d2, d3, d4, K4⟩ := txs_loop2 (k + 2) (h := ((g3.push (.lst (txW (List.replicate ls.length [])))).push (.lst (prs (rp ls) (List.range ls.length)))).push (.lst (prs (rp ls) (ord ls)))) (d := g3.sz) (c := g3.sz + 2) c2 (by omega) (by simp; intro e; omega) (by simp) (by omega) (some (.ref s)) (some (.ref h.sz)) o2
  simp at d4
  have K4' : ∀ n, n < g3.sz → g4.get n = g3.get n := fun n hn => by
    rw [K4 n (by omega)]
    rw [get_push, if_neg (by simp; omega), get_push, if_neg (by simp; omega), get_push, if_neg (by omega)]
  have K1' : ∀ n, n < h.sz → n ≠ s → n ≠ l → g1.get n = h.get n := fun n hn x y => by
    rw [K1.2 n (by simp; omega) x y]
    simp
    intro e; omega
  refine ⟨ws, g3.sz, g4, ?_, d1, d2, by omega, ?_, ⟨by omega, fun n hn x y => ?_⟩, by omega, by omega⟩
  · rw [callF_succ, u__law_texts]
    have il2 : isLst ((((g3.push (.lst (txW (List.replicate ls.length [])))).push (.lst (prs (rp ls) (List.range ls.length)))).push (.lst (prs (rp ls) (ord ls)))).get (g3.sz + 2)) = true := by simp
    have pr : (callE (biW .sorted) (consA (lcE (rangeI (consA (callE (biW .len) (consA (slotE 1) nilA)) nilA)) 7 yesT (le__law_texts_0 (callF G (k + 3)))) nilA)) [some (.ref s), some (.ref h.sz), o2, some (.ref g3.sz), some (.int 0), none, none, none] (g3.push (.lst (txW (List.replicate ls.length [])))) = .ok (.ref (g3.sz + 2)) (((g3.push (.lst (txW (List.replicate ls.length [])))).push (.lst (prs (rp ls) (List.range ls.length)))).push (.lst (prs (rp ls) (ord ls)))) := pr
    generalize ((g3.push (.lst (txW (List.replicate ls.length [])))).push (.lst (prs (rp ls) (List.range ls.length)))).push (.lst (prs (rp ls) (ord ls))) = g6 at *
    have em : lcE (anyI (slotE 1)) 2 yesT (le__law_texts_2 (callF G (k + 3))) [some (.ref s), some (.ref h.sz), o2, none, none, none, none, none] g3 = .ok (.ref g3.sz) (g3.push (.lst (txW (List.replicate ls.length [])))) := em
    have e2 : callF G (k + 3) "_law_tree" [.ref s, .int n] g1 = .ok (.ref g1.sz) g2 := e2
    have e3 : Rh.forM (.live g1.sz) (.one 2) (lb__law_texts_3 (callF G (k + 3))) FUEL 0 [some (.ref s), some (.ref h.sz), none, none, none, none, none, none] g2 = _ := e3
    simp [b__law_texts, newL, e1, e2, forS_at, isl, e3, em, pr, il2, e4, s4, -callE_at]
  · obtain ⟨xs, p, c, w1, w2, w3⟩ := S3.ex
    exact ⟨S3.ne, by have := S3.ls; omega, by have := S3.ll; omega, xs, p, c, by rw [K4' s S3.ls]; exact w1, by rw [K4' l S3.ll]; exact w2, w3⟩
  · rw [K4' n (by omega), K3 n (by omega) x y (by omega), K2.2 n (by omega) x y, K1' n hn x y]
end Lw
/-! spoilt texts -/
namespace Lw
open PySem PySem.Spec PyProof.Rows L2 Rh
theorem Txs.set {ts : List (List Bool)} (T : Txs ts) {j : Nat} {t : List Bool} (h1 : 1 ≤ t.length) (h2 : t.length ≤ 10) : Txs (ts.set j t) := ⟨fun x hx => by
    rcases List.mem_or_eq_of_mem_set hx with z | z
    · exact T.len x z
    · subst z; exact ⟨h1, h2⟩, by rw [List.length_set]; exact T.few⟩
theorem Txs.ins {ts : List (List Bool)} (T : Txs ts) {j : Nat} {t : List Bool} (h1 : 1 ≤ t.length) (h2 : t.length ≤ 10) (h3 : ts.length < 63) : Txs (ts.take j ++ [t] ++ ts.drop j) := ⟨fun x hx => by
    rcases List.mem_append.mp hx with z | z
    · rcases List.mem_append.mp z with z | z
      · exact T.len x (List.mem_of_mem_take z)
      · have : x = t := by simpa using z
        subst this; exact ⟨h1, h2⟩
    · exact T.len x (List.mem_of_mem_drop z), by simp; omega⟩
theorem Txs.era {ts : List (List Bool)} (T : Txs ts) {j : Nat} : Txs (ts.eraseIdx j) := ⟨fun x hx => T.len x (List.mem_of_mem_eraseIdx hx), by
    have := T.few
    have := List.length_eraseIdx_le ts j
    omega⟩
theorem txW_ins (ts : List (List Bool)) (j : Nat) (t : List Bool) : (txW ts).take j ++ [.str (tx t)] ++ (txW ts).drop j = txW (ts.take j ++ [t] ++ ts.drop j) := by simp [txW]
theorem txW_era (ts : List (List Bool)) (j : Nat) : (txW ts).eraseIdx j = txW (ts.eraseIdx j) := by
  unfold txW
  rw [List.eraseIdx_eq_take_drop_succ, List.eraseIdx_eq_take_drop_succ, List.map_append, List.map_take, List.map_drop]
theorem txW_len (ts : List (List Bool)) : (txW ts).length = ts.length := by simp [txW]
theorem put_txW {g : HS} {b j : Nat} {ts : List (List Bool)} {t : List Bool} (gb : g.get b = .lst (txW ts)) (hj : j < ts.length) : putO (g.get b) b (j : Int) (.str (tx t)) g = .ok () (g.set b (.lst (txW (ts.set j t)))) := by
  rw [gb]
  show (match ixN (txW ts).length (j : Int) with | some j => _ | none => _) = _
  rw [ixN_pos (by omega) (by simp [txW]; omega)]
  show R.ok () (g.set b (.lst ((txW ts).set j _))) = _
  rw [txW_set]
theorem ix_txW {g : HS} {b j : Nat} {ts : List (List Bool)} (gb : g.get b = .lst (txW ts)) (hj : j < ts.length) : ixO (g.get b) (j : Int) g = .ok (.str (tx (ts.getD j []))) g := by
  rw [gb]
  show optR (atI (txW ts) (j : Int)) g = _
  rw [atI_n, txW_get hj]; rfl
theorem Src.set {g : HS} {s l b : Nat} {o : O} (S : Src g s l) (h1 : b ≠ s) (h2 : b ≠ l) : Src (g.set b o) s l := by
  obtain ⟨xs, p, c, q1, q2, q3⟩ := S.ex
  exact ⟨S.ne, S.ls, S.ll, xs, p, c, by rw [get_set, if_neg (fun e => h1 e.symm)]; exact q1, by rw [get_set, if_neg (fun e => h2 e.symm)]; exact q2, q3⟩
theorem Kept.sset {h g : HS} {s l b : Nat} {o : O} (K : Kept s l h g) (h1 : h.sz ≤ b) : Kept s l h (g.set b o) := ⟨K.1, fun n hn x y => by
  rw [get_set, if_neg (by omega)]
  exact K.2 n hn x y⟩
theorem c_spoilt (k : Nat) {h : HS} {s l a : Nat} {ts : List (List Bool)} (S : Src h s l) (T : Txs ts) (h40 : ts.length ≤ 40) (ga : h.get a = .lst (txW ts)) (as : a ≠ s) (al : a ≠ l) (la : a < h.sz) :
    ∃ ts' h', callF G (k + 3) "_law_spoilt" [.ref s, .ref a] h = .ok (.ref h.sz) h' ∧ h'.get h.sz = .lst (txW ts') ∧ Txs ts' ∧ Src h' s l ∧ Kept s l h h' ∧ h.sz < h'.sz := by
  have sl := S.ls
  have ll := S.ll
  rw [callF_succ, u__law_spoilt]
  unfold b__law_spoilt
  have r0 : st__law_spoilt_0 (callF G (k + 2)) [some (.ref s), some (.ref a), none, none, none, none, none, none] h = .nx [some (.ref s), some (.ref a), some (.ref h.sz), none, none, none, none, none] (h.push (.lst (txW ts))) := by
    simp [st__law_spoilt_0, ga, newL]
  have S0 : Src (h.push (.lst (txW ts))) s l := S.old Old.push
  have K0 : Kept s l h (h.push (.lst (txW ts))) := old_kept Old.push
  have b0 : (h.push (.lst (txW ts))).get h.sz = .lst (txW ts) := by simp
  have z0 : h.sz < (h.push (.lst (txW ts))).sz := by simp
  generalize h.push (.lst (txW ts)) = g0 at *
  obtain ⟨d, g1, e1, d0, d8, S1, K1⟩ := c_draw k S0 8 (by decide) (by decide)
  have b1 : g1.get h.sz = .lst (txW ts) := by rw [K1.2 h.sz z0 (by omega) (by omega), b0]
  have r1 : st__law_spoilt_1 (callF G (k + 2)) [some (.ref s), some (.ref a), some (.ref h.sz), none, none, none, none, none] g0 = .nx [some (.ref s), some (.ref a), some (.ref h.sz), some (.int d), none, none, none, none] g1 := by
    simp [st__law_spoilt_1, e1]
  have z1 : h.sz < g1.sz := Nat.lt_of_lt_of_le z0 K1.1
  by_cases c : d < 2 ∨ ts.length = 0
  · have r2 : st__law_spoilt_2 (callF G (k + 2)) [some (.ref s), some (.ref a), some (.ref h.sz), some (.int d), none, none, none, none] g1 = .rt (.ref h.sz) g1 := by
      by_cases c1 : d < 2
      · simp [st__law_spoilt_2, c1]
      · have c2 : ts.length = 0 := by omega
        simp [st__law_spoilt_2, c1, b1, txW_len, c2]
    exact ⟨ts, g1, by simp [r0, r1, r2], b1, T, S1, K0.trans K1, z1⟩
  have c1 : ¬ d < 2 := fun x => c (.inl x)
  have c2 : ¬ ts.length = 0 := fun x => c (.inr x)
  have ln1 : lenO (g1.get h.sz) g1 = .ok (.int (ts.length : Int)) g1 := by rw [b1, lenO_l, txW_len]
  have c3 : ¬ ((ts.length : Int) = 0) := by omega
  have r2 : st__law_spoilt_2 (callF G (k + 2)) [some (.ref s), some (.ref a), some (.ref h.sz), some (.int d), none, none, none, none] g1 = .nx [some (.ref s), some (.ref a), some (.ref h.sz), some (.int d), none, none, none, none] g1 := by
    have c4 : ts ≠ [] := fun e => c2 (by rw [e]; rfl)
    simp [st__law_spoilt_2, c1, ln1, c4]
  obtain ⟨p, g2, e2, p0, p1, S2, K2⟩ := c_draw k S1 (ts.length : Int) (by omega) (by omega)
  have z2 : h.sz < g2.sz := Nat.lt_of_lt_of_le z1 K2.1
  have b2 : g2.get h.sz = .lst (txW ts) := by rw [K2.2 h.sz z1 (by omega) (by omega), b1]
  have r3 : st__law_spoilt_3 (callF G (k + 2)) [some (.ref s), some (.ref a), some (.ref h.sz), some (.int d), none, none, none, none] g1 = .nx [some (.ref s), some (.ref a), some (.ref h.sz), some (.int d), some (.int p), none, none, none] g2 := by
    simp [st__law_spoilt_3, ln1, e2]
  have ln2 : lenO (g2.get h.sz) g2 = .ok (.int (ts.length : Int)) g2 := by rw [b2, lenO_l, txW_len]
  obtain ⟨q, g3, e3, q0, q1, S3, K3⟩ := c_draw k S2 (ts.length : Int) (by omega) (by omega)
  have z3 : h.sz < g3.sz := Nat.lt_of_lt_of_le z2 K3.1
  have b3 : g3.get h.sz = .lst (txW ts) := by rw [K3.2 h.sz z2 (by omega) (by omega), b2]
  have r4 : st__law_spoilt_4 (callF G (k + 2)) [some (.ref s), some (.ref a), some (.ref h.sz), some (.int d), some (.int p), none, none, none] g2 = .nx [some (.ref s), some (.ref a), some (.ref h.sz), some (.int d), some (.int p), some (.int q), none, none] g3 := by
    simp [st__law_spoilt_4, ln2, e3]
  obtain ⟨p, rfl⟩ : ∃ m : Nat, p = m := ⟨p.toNat, by omega⟩
  obtain ⟨q, rfl⟩ : ∃ m : Nat, q = m := ⟨q.toNat, by omega⟩
  have pl : p < ts.length := by omega
  have ql : q < ts.length := by omega
  have ixp := ix_txW b3 pl
  have ixq := ix_txW b3 ql
  have r5 : st__law_spoilt_5 (callF G (k + 2)) [some (.ref s), some (.ref a), some (.ref h.sz), some (.int d), some (.int p), some (.int q), none, none] g3 = .nx [some (.ref s), some (.ref a), some (.ref h.sz), some (.int d), some (.int p), some (.int q), some (.str (tx (ts.getD p []))), none] g3 := by
    simp [st__law_spoilt_5, ixp]
  have K : Kept s l h g3 := K0.trans (K1.trans (K2.trans K3))
  have tp : ts.getD p [] ∈ ts := by
    have : ts.getD p [] = ts[p] := by simp [pl]
    rw [this]; exact List.getElem_mem pl
  have tq : ts.getD q [] ∈ ts := by
    have : ts.getD q [] = ts[q] := by simp [ql]
    rw [this]; exact List.getElem_mem ql
  have lp := T.len _ tp
  have lq := T.len _ tq
  have e40 := h40
  generalize ts.getD p [] = t at *
  generalize ts.getD q [] = u at *
  have hl : t.length ≤ 16777216 := by omega
  have n6 : ∀ {o7 g}, d ≠ 2 → st__law_spoilt_6 (callF G (k + 2)) [some (.ref s), some (.ref a), some (.ref h.sz), some (.int d), some (.int p), some (.int q), some (.str (tx t)), o7] g = .nx [some (.ref s), some (.ref a), some (.ref h.sz), some (.int d), some (.int p), some (.int q), some (.str (tx t)), o7] g := fun n => by simp [st__law_spoilt_6, n]
  have n7 : ∀ {o7 g}, d ≠ 3 → st__law_spoilt_7 (callF G (k + 2)) [some (.ref s), some (.ref a), some (.ref h.sz), some (.int d), some (.int p), some (.int q), some (.str (tx t)), o7] g = .nx [some (.ref s), some (.ref a), some (.ref h.sz), some (.int d), some (.int p), some (.int q), some (.str (tx t)), o7] g := fun n => by simp [st__law_spoilt_7, n]
  have n8 : ∀ {o7 g}, d ≠ 4 → st__law_spoilt_8 (callF G (k + 2)) [some (.ref s), some (.ref a), some (.ref h.sz), some (.int d), some (.int p), some (.int q), some (.str (tx t)), o7] g = .nx [some (.ref s), some (.ref a), some (.ref h.sz), some (.int d), some (.int p), some (.int q), some (.str (tx t)), o7] g := fun n => by simp [st__law_spoilt_8, n]
  have n9 : ∀ {o7 g}, d ≠ 5 → st__law_spoilt_9 (callF G (k + 2)) [some (.ref s), some (.ref a), some (.ref h.sz), some (.int d), some (.int p), some (.int q), some (.str (tx t)), o7] g = .nx [some (.ref s), some (.ref a), some (.ref h.sz), some (.int d), some (.int p), some (.int q), some (.str (tx t)), o7] g := fun n => by simp [st__law_spoilt_9, n]
  have n10 : ∀ {o7 g}, d ≠ 6 → st__law_spoilt_10 (callF G (k + 2)) [some (.ref s), some (.ref a), some (.ref h.sz), some (.int d), some (.int p), some (.int q), some (.str (tx t)), o7] g = .nx [some (.ref s), some (.ref a), some (.ref h.sz), some (.int d), some (.int p), some (.int q), some (.str (tx t)), o7] g := fun n => by simp [st__law_spoilt_10, n]
  have n11 : ∀ {o7 g}, d ≠ 7 → st__law_spoilt_11 (callF G (k + 2)) [some (.ref s), some (.ref a), some (.ref h.sz), some (.int d), some (.int p), some (.int q), some (.str (tx t)), o7] g = .nx [some (.ref s), some (.ref a), some (.ref h.sz), some (.int d), some (.int p), some (.int q), some (.str (tx t)), o7] g := fun n => by simp [st__law_spoilt_11, n]
  have n12 : ∀ {o7 g}, st__law_spoilt_12 (callF G (k + 2)) [some (.ref s), some (.ref a), some (.ref h.sz), some (.int d), some (.int p), some (.int q), some (.str (tx t)), o7] g = .rt (.ref h.sz) g := by simp [st__law_spoilt_12]
  have nbs : h.sz ≠ s := by omega
  have nbl : h.sz ≠ l := by omega
  have pt : ∀ {v : List Bool}, putO (g3.get h.sz) h.sz (p : Int) (.str (tx v)) g3 = .ok () (g3.set h.sz (.lst (txW (ts.set p v)))) := put_txW b3 pl
  have six : d = 2 ∨ d = 3 ∨ d = 4 ∨ d = 5 ∨ d = 6 ∨ d = 7 := by omega
  rcases six with rfl | rfl | rfl | rfl | rfl | rfl
  · -- two exchanged
    have gb : (g3.set h.sz (.lst (txW (ts.set p u)))).get h.sz = .lst (txW (ts.set p u)) := by simp
    have p2 := put_txW (t := t) gb (j := q) (by simp; omega)
    have r6 : st__law_spoilt_6 (callF G (k + 2)) [some (.ref s), some (.ref a), some (.ref h.sz), some (.int 2), some (.int p), some (.int q), some (.str (tx t)), none] g3 = .nx [some (.ref s), some (.ref a), some (.ref h.sz), some (.int 2), some (.int p), some (.int q), some (.str (tx t)), none] ((g3.set h.sz (.lst (txW (ts.set p u)))).set h.sz (.lst (txW ((ts.set p u).set q t)))) := by
      have pu := pt (v := u)
      generalize g3.set h.sz (.lst (txW (ts.set p u))) = g4 at *
      simp [st__law_spoilt_6, ixq, pu, p2]
    exact ⟨(ts.set p u).set q t, (g3.set h.sz (.lst (txW (ts.set p u)))).set h.sz (.lst (txW ((ts.set p u).set q t))), by simp [r0, r1, r2, r3, r4, r5, r6, n7, n8, n9, n10, n11, n12], by simp, (T.set lq.1 lq.2).set lp.1 lp.2, (S3.set nbs nbl).set nbs nbl, (K.sset (by omega)).sset (by omega), z3⟩
  · -- a bit turned
    obtain ⟨m, g4, e4, m0, m1, S4, K4⟩ := c_draw k S3 (t.length : Int) (by omega) (by omega)
    have b4 : g4.get h.sz = .lst (txW ts) := by rw [K4.2 h.sz z3 nbs nbl, b3]
    obtain ⟨m, rfl⟩ : ∃ i : Nat, m = i := ⟨m.toNat, by omega⟩
    have ml : m < t.length := by omega
    have p4 := put_txW (t := t.take m ++ [!t[m]] ++ t.drop (m + 1)) b4 pl
    have a1 := tx_take t m
    have a2 := tx_drop t (m + 1)
    have a3 := atI_tx t ml
    have a4 : (List.take m t).length ≤ 16777216 := by simp; omega
    have a5 : (List.take m t ++ [!t[m]] ++ t.drop (m + 1)).length ≤ 10 ∧ 1 ≤ (List.take m t ++ [!t[m]] ++ t.drop (m + 1)).length := by simp; omega
    have r7 : st__law_spoilt_7 (callF G (k + 2)) [some (.ref s), some (.ref a), some (.ref h.sz), some (.int 3), some (.int p), some (.int q), some (.str (tx t)), none] g3 = .nx [some (.ref s), some (.ref a), some (.ref h.sz), some (.int 3), some (.int p), some (.int q), some (.str (tx t)), some (.int m)] (g4.set h.sz (.lst (txW (ts.set p (t.take m ++ [!t[m]] ++ t.drop (m + 1)))))) := by
      generalize g4.set h.sz (.lst (txW (ts.set p (t.take m ++ [!t[m]] ++ t.drop (m + 1))))) = g5 at *
      have a2 : cutS (tx t) (some ((m : Int) + 1)) none = tx (t.drop (m + 1)) := a2
      have w1 : min m t.length + 1 ≤ 16777216 := by omega
      have w2 : min m t.length + 1 + (t.length - (m + 1)) ≤ 16777216 := by omega
      have mk : ∀ b : Bool, (⟨#[bc b]⟩ : PySem.Str) = tx [b] := fun _ => rfl
      have a3 : t[m]? = some t[m] := List.getElem?_eq_getElem ml
      cases hb : t[m] with
      | false =>
        rw [hb] at p4 a3
        have p4 : putO (g4.get h.sz) h.sz (p : Int) (.str (tx (t.take m ++ true :: t.drop (m + 1)))) g4 = .ok () g5 := by simpa using p4
        simp [st__law_spoilt_7, hl, e4, a1, a2, a3, bt_1, bt_0, bt_tx, tx_beq, tx_app, w1, w2, mk, p4]
      | true =>
        rw [hb] at p4 a3
        have p4 : putO (g4.get h.sz) h.sz (p : Int) (.str (tx (t.take m ++ false :: t.drop (m + 1)))) g4 = .ok () g5 := by simpa using p4
        simp [st__law_spoilt_7, hl, e4, a1, a2, a3, bt_1, bt_0, bt_tx, tx_beq, tx_app, w1, w2, mk, p4]
    exact ⟨ts.set p (t.take m ++ [!t[m]] ++ t.drop (m + 1)), g4.set h.sz (.lst (txW (ts.set p (t.take m ++ [!t[m]] ++ t.drop (m + 1))))), by simp [r0, r1, r2, r3, r4, r5, r7, n6, n8, n9, n10, n11, n12], by simp, T.set a5.2 a5.1, S4.set nbs nbl, (K.trans K4).sset (by omega), Nat.lt_of_lt_of_le z3 K4.1⟩
  · -- longer
    by_cases c8 : (t.length : Int) < 10
    · obtain ⟨m, g4, e4, m0, m1, S4, K4⟩ := c_draw k S3 2 (by omega) (by omega)
      have b4 : g4.get h.sz = .lst (txW ts) := by rw [K4.2 h.sz z3 nbs nbl, b3]
      have key : ∀ b : Bool, m = (if b then 1 else 0) → ∃ g5, st__law_spoilt_8 (callF G (k + 2)) [some (.ref s), some (.ref a), some (.ref h.sz), some (.int 4), some (.int p), some (.int q), some (.str (tx t)), none] g3 = .nx [some (.ref s), some (.ref a), some (.ref h.sz), some (.int 4), some (.int p), some (.int q), some (.str (tx t)), none] g5 ∧ g5 = g4.set h.sz (.lst (txW (ts.set p (t ++ [b])))) := by
        intro b hm
        have p4 := put_txW (t := t ++ [b]) b4 pl
        refine ⟨_, ?_, rfl⟩
        generalize g4.set h.sz (.lst (txW (ts.set p (t ++ [b])))) = g5 at *
        have w1 : t.length + 1 ≤ 16777216 := by omega
        cases b with
        | false =>
          have hm : m = 0 := by simpa using hm
          subst hm
          simp [st__law_spoilt_8, hl, c8, e4, bt_1, bt_0, bt_tx, tx_app, w1, p4]
        | true =>
          have hm : m = 1 := by simpa using hm
          subst hm
          simp [st__law_spoilt_8, hl, c8, e4, bt_1, bt_0, bt_tx, tx_app, w1, p4]
      have two : ∃ b : Bool, m = (if b then 1 else 0) := by
        rcases (show m = 0 ∨ m = 1 by omega) with e | e
        · exact ⟨false, by simpa using e⟩
        · exact ⟨true, by simpa using e⟩
      obtain ⟨b, hm⟩ := two
      obtain ⟨g5, r8, rfl⟩ := key b hm
      exact ⟨ts.set p (t ++ [b]), g4.set h.sz (.lst (txW (ts.set p (t ++ [b])))), by simp [r0, r1, r2, r3, r4, r5, r8, n6, n7, n9, n10, n11, n12], by simp, T.set (by simp) (by simp; omega), S4.set nbs nbl, (K.trans K4).sset (by omega), Nat.lt_of_lt_of_le z3 K4.1⟩
    · have r8 : st__law_spoilt_8 (callF G (k + 2)) [some (.ref s), some (.ref a), some (.ref h.sz), some (.int 4), some (.int p), some (.int q), some (.str (tx t)), none] g3 = .nx [some (.ref s), some (.ref a), some (.ref h.sz), some (.int 4), some (.int p), some (.int q), some (.str (tx t)), none] g3 := by
        simp [st__law_spoilt_8, hl, c8]
      exact ⟨ts, g3, by simp [r0, r1, r2, r3, r4, r5, r8, n6, n7, n9, n10, n11, n12], b3, T, S3, K, z3⟩
  · -- shorter
    by_cases c8 : (1 : Int) < (t.length : Int)
    · have a1 : cutS (tx t) (some 1) none = tx (t.drop 1) := tx_drop t 1
      have pv := pt (v := t.drop 1)
      have r9 : st__law_spoilt_9 (callF G (k + 2)) [some (.ref s), some (.ref a), some (.ref h.sz), some (.int 5), some (.int p), some (.int q), some (.str (tx t)), none] g3 = .nx [some (.ref s), some (.ref a), some (.ref h.sz), some (.int 5), some (.int p), some (.int q), some (.str (tx t)), none] (g3.set h.sz (.lst (txW (ts.set p (t.drop 1))))) := by
        generalize g3.set h.sz (.lst (txW (ts.set p (t.drop 1)))) = g5 at *
        simp [st__law_spoilt_9, hl, c8, a1]
        simpa using congrArg (fun z => R.toS z _ _) pv
      exact ⟨ts.set p (t.drop 1), g3.set h.sz (.lst (txW (ts.set p (t.drop 1)))), by simp [r0, r1, r2, r3, r4, r5, r9, n6, n7, n8, n10, n11, n12], by simp, T.set (by simp; omega) (by simp; omega), S3.set nbs nbl, K.sset (by omega), z3⟩
    · have r9 : st__law_spoilt_9 (callF G (k + 2)) [some (.ref s), some (.ref a), some (.ref h.sz), some (.int 5), some (.int p), some (.int q), some (.str (tx t)), none] g3 = .nx [some (.ref s), some (.ref a), some (.ref h.sz), some (.int 5), some (.int p), some (.int q), some (.str (tx t)), none] g3 := by
        simp [st__law_spoilt_9, hl, c8]
      exact ⟨ts, g3, by simp [r0, r1, r2, r3, r4, r5, r9, n6, n7, n8, n10, n11, n12], b3, T, S3, K, z3⟩
  · -- put in twice
    have il : isLst (g3.get h.sz) = true := by rw [b3]; rfl
    have ins : insO (g3.get h.sz) h.sz (q : Int) (.str (tx t)) g3 = .ok .non (g3.set h.sz (.lst (txW (ts.take q ++ [t] ++ ts.drop q)))) := by
      rw [b3, insO_l (by rw [txW_len]; omega) (by omega) (by omega), Int.toNat_natCast, txW_ins]
    have r10 : st__law_spoilt_10 (callF G (k + 2)) [some (.ref s), some (.ref a), some (.ref h.sz), some (.int 6), some (.int p), some (.int q), some (.str (tx t)), none] g3 = .nx [some (.ref s), some (.ref a), some (.ref h.sz), some (.int 6), some (.int p), some (.int q), some (.str (tx t)), none] (g3.set h.sz (.lst (txW (ts.take q ++ [t] ++ ts.drop q)))) := by
      simp [st__law_spoilt_10, il, ins]
    exact ⟨ts.take q ++ [t] ++ ts.drop q, g3.set h.sz (.lst (txW (ts.take q ++ [t] ++ ts.drop q))), by simp [r0, r1, r2, r3, r4, r5, r10, n6, n7, n8, n9, n11, n12], by simp, T.ins lp.1 lp.2 (by omega), S3.set nbs nbl, K.sset (by omega), z3⟩
  · -- taken out
    have il : isLst (g3.get h.sz) = true := by rw [b3]; rfl
    have po : popAtO (g3.get h.sz) h.sz (p : Int) g3 = .ok (.str (tx t)) (g3.set h.sz (.lst (txW (ts.eraseIdx p)))) := by
      rw [b3] at ixp ⊢
      have e5 : (txW ts)[p]? = some (.str (tx t)) := by
        have : optR (atI (txW ts) (p : Int)) g3 = .ok (.str (tx t)) g3 := ixp
        rw [atI_n] at this
        cases e6 : (txW ts)[p]? with
        | none => rw [e6] at this; cases this
        | some w => rw [e6] at this; injection this with x; rw [x]
      rw [popAtO_i (by omega) (w := .str (tx t)) (by rw [Int.toNat_natCast]; exact e5), Int.toNat_natCast, txW_era]
    have r11 : st__law_spoilt_11 (callF G (k + 2)) [some (.ref s), some (.ref a), some (.ref h.sz), some (.int 7), some (.int p), some (.int q), some (.str (tx t)), none] g3 = .nx [some (.ref s), some (.ref a), some (.ref h.sz), some (.int 7), some (.int p), some (.int q), some (.str (tx t)), none] (g3.set h.sz (.lst (txW (ts.eraseIdx p)))) := by
      simp [st__law_spoilt_11, il, po]
    exact ⟨ts.eraseIdx p, g3.set h.sz (.lst (txW (ts.eraseIdx p))), by simp [r0, r1, r2, r3, r4, r5, r11, n6, n7, n8, n9, n10, n12], by simp, T.era, S3.set nbs nbl, K.sset (by omega), z3⟩
end Lw
/-! what is refused -/
namespace Lw
open PySem PySem.Spec PyProof.Rows L2 Rh
section
variable {σ : Rh.Fr} {h : HS}
theorem raise_any {x : PySem.Str} (l : List EM) (H : ∀ a ∈ l, ∃ y : PySem.Str, a σ h = .ok (.str y) h ∧ y.length ≤ 1000) (hl : l.length ≤ 100) : raiseS x (joinE Str.empty l) σ h = .exc ⟨x, []⟩ σ h := by
  have z : Str.empty.length = 0 := rfl
  obtain ⟨z, e⟩ := joinE_any l H Str.empty (by rw [LIM_val, z]; omega)
  rw [raiseS_at, e]
  rfl
/-- an item at which lengths_back stops -/
inductive OddIt : W → Prop
  | bits (bs : List Bool) : bs.length ≤ 100 → (bs.length = 0 ∨ 10 < bs.length) → OddIt (.str (tx bs))
  | txt (a : PySem.Str) : a = "2" ∨ a = "0 " ∨ a = "1\n" → OddIt (.str a)
  | int (i : Int) : OddIt (.int i)
  | non : OddIt .non
  | bl (b : Bool) : OddIt (.bl b)
  | ref (a : Nat) (ws : List W) : h.get a = .lst ws → a < h.sz → OddIt (.ref a)
theorem isi_ref_str {a : Nat} {ws : List W} (e : h.get a = .lst ws) : isiW (.ref a) (.ty "str") h = .ok (.bl false) h := by
  show (if knownT "str" then optR ((tyO (h.get a)).map fun t => W.bl (isT t "str")) h else .stuck) = _
  rw [e]; rfl
theorem eq_chr (a b : Nat) : eqW (.str ⟨#[a]⟩) (.str ⟨#[b]⟩) h = if PyData.strOk ⟨#[a]⟩ = true ∧ PyData.strOk ⟨#[b]⟩ = true then some (decide (a = b)) else none := by
  rw [eqW_str]
  by_cases c : a = b
  · subst c; simp
  · have : ((⟨#[a]⟩ : PySem.Str) == ⟨#[b]⟩) = false := by
      rw [beq_eq_false_iff_ne]
      intro e
      injection e with e
      have := congrArg Array.toList e
      simp at this
      exact c this
    rw [this]
    simp [c]
theorem is_bits_no (k : Nat) {w : W} (O : OddIt (h := h) w) : callF G (k + 1) "is_bits" [w] h = .ok (.bl false) h ∨ ∃ bs : List Bool, w = .str (tx bs) ∧ bs.length ≤ 100 ∧ (bs.length = 0 ∨ 10 < bs.length) := by
  cases O with
  | bits bs a b => exact .inr ⟨bs, rfl, a, b⟩
  | txt a ha =>
    refine .inl ?_
    have c0 : ("0" : PySem.Str) = ⟨#[48]⟩ := by decide +kernel
    have c1 : ("1" : PySem.Str) = ⟨#[49]⟩ := by decide +kernel
    have o0 : PyData.strOk ⟨#[48]⟩ = true := by decide +kernel
    have o1 : PyData.strOk ⟨#[49]⟩ = true := by decide +kernel
    have o2 : PyData.strOk ⟨#[50]⟩ = true := by decide +kernel
    have o3 : PyData.strOk ⟨#[32]⟩ = true := by decide +kernel
    have o4 : PyData.strOk ⟨#[10]⟩ = true := by decide +kernel
    rcases ha with rfl | rfl | rfl
    · have cs : chrs "2" = [.str ⟨#[50]⟩] := by
        show (Str.ofString "2").cps.toList.map _ = _
        rw [show (Str.ofString "2").cps.toList = [50] by decide +kernel]; rfl
      rw [callF_succ, u_is_bits]
      simp [b_is_bits, lb_is_bits_0, forS_at, cs, forM_vals, c0, c1, eq_chr, o0, o1, o2]
    · have cs : chrs "0 " = [.str ⟨#[48]⟩, .str ⟨#[32]⟩] := by
        show (Str.ofString "0 ").cps.toList.map _ = _
        rw [show (Str.ofString "0 ").cps.toList = [48, 32] by decide +kernel]; rfl
      rw [callF_succ, u_is_bits]
      simp [b_is_bits, lb_is_bits_0, forS_at, cs, forM_vals, c0, c1, eq_chr, o0, o1, o3]
    · have cs : chrs "1\n" = [.str ⟨#[49]⟩, .str ⟨#[10]⟩] := by
        show (Str.ofString "1\n").cps.toList.map _ = _
        rw [show (Str.ofString "1\n").cps.toList = [49, 10] by decide +kernel]; rfl
      rw [callF_succ, u_is_bits]
      simp [b_is_bits, lb_is_bits_0, forS_at, cs, forM_vals, c0, c1, eq_chr, o0, o1, o4]
  | int i => exact .inl (by rw [callF_succ, u_is_bits]; simp [b_is_bits])
  | non => exact .inl (by rw [callF_succ, u_is_bits]; simp [b_is_bits])
  | bl b =>
    have e : isiW (.bl b) (.ty "str") h = .ok (.bl false) h := rfl
    exact .inl (by rw [callF_succ, u_is_bits]; simp [b_is_bits, e])
  | ref a ws g _ =>
    have e := isi_ref_str g
    exact .inl (by rw [callF_succ, u_is_bits]; simp [b_is_bits, e])
theorem back_odd (k : Nat) {w : W} (O : OddIt (h := h) w) (a : W) (x y z : Option W) : lb_lengths_back_2 (callF G (k + 2)) [some a, some w, x, y, z] h = .exc ⟨"BadBits", []⟩ [some a, some w, x, y, z] h := by
  have ra := raise_any (x := "BadBits") (σ := [some a, some w, x, y, z]) (h := h) [(valE (.str "a word has 1 to ")), (fmtE (valE (.int 10))), (valE (.str " bits"))] (by
    intro e he
    rcases List.mem_cons.mp he with rfl | he
    · exact ⟨_, rfl, by decide +kernel⟩
    rcases List.mem_cons.mp he with rfl | he
    · obtain ⟨s, e1, e2⟩ := fmt_small (i := 10) (by decide) (by decide)
      exact ⟨s, by simp [e1], e2⟩
    rcases List.mem_cons.mp he with rfl | he
    · exact ⟨_, rfl, by decide +kernel⟩
    · cases he) (by decide)
  unfold lb_lengths_back_2
  generalize raiseS "BadBits" (joinE Str.empty [(valE (.str "a word has 1 to ")), (fmtE (valE (.int 10))), (valE (.str " bits"))]) = rs at *
  rcases is_bits_no (k + 1) O with e | ⟨bs, rfl, l1, l2⟩
  · simp [e, ra]
  · have e := c_is_bits (k + 1) bs h l1
    have l3 : bs.length ≤ 16777216 := by omega
    rcases l2 with l2 | l2
    · simp [e, l3, l2, ra]
    · have l4 : (1 : Int) ≤ (bs.length : Int) := by omega
      have l5 : ¬ (bs.length : Int) ≤ 10 := by omega
      simp [e, l3, l4, l5, ra]
end
theorem back_ok (k : Nat) {h : HS} {t : List Bool} (h1 : 1 ≤ t.length) (h2 : t.length ≤ 10) (a : W) (x y z : Option W) : lb_lengths_back_2 (callF G (k + 2)) [some a, some (.str (tx t)), x, y, z] h = .nx [some a, some (.str (tx t)), x, y, z] h := by
  have l1 : (1 : Int) ≤ (t.length : Int) := by omega
  have l2 : (t.length : Int) ≤ 10 := by omega
  have l3 : t.length ≤ 16777216 := by omega
  simp [lb_lengths_back_2, c_is_bits (k + 1) t h (by omega), l1, l2, l3]
theorem walk_odd (k : Nat) {h : HS} {a : W} {o : W} (O : OddIt (h := h) o) (post : List W) (x y z : Option W) : ∀ (pre : List (List Bool)) (o1 : Option W), (∀ t ∈ pre, 1 ≤ t.length ∧ t.length ≤ 10) →
    ∃ σ, forL (.one 1) (lb_lengths_back_2 (callF G (k + 2))) (txW pre ++ o :: post) [some a, o1, x, y, z] h = .exc ⟨"BadBits", []⟩ σ h
  | [], o1, _ => ⟨[some a, some o, x, y, z], by
    show forL (.one 1) (lb_lengths_back_2 (callF G (k + 2))) (o :: post) [some a, o1, x, y, z] h = _
    rw [forL_cons]
    show loopR (lb_lengths_back_2 (callF G (k + 2)) [some a, some o, x, y, z] h) _ = _
    rw [back_odd k O]; rfl⟩
  | t :: pre, o1, hp => by
    obtain ⟨σ, e⟩ := walk_odd k O post x y z pre (some (.str (tx t))) fun u hu => hp u (List.mem_cons_of_mem _ hu)
    refine ⟨σ, ?_⟩
    show forL (.one 1) (lb_lengths_back_2 (callF G (k + 2))) (.str (tx t) :: (txW pre ++ o :: post)) [some a, o1, x, y, z] h = _
    rw [forL_cons]
    show loopR (lb_lengths_back_2 (callF G (k + 2)) [some a, some (.str (tx t)), x, y, z] h) _ = _
    have := hp t List.mem_cons_self
    rw [back_ok k this.1 this.2]
    exact e
end Lw
/-! what is refused, the contracts -/
namespace Lw
open PySem PySem.Spec PyProof.Rows L2 Rh
/-- a loop over a list that ends by an exception at an item; nothing is changed -/
theorem forM_live_exc {h : HS} {a : Nat} {ws pre post : List W} {o : W} {t : Tg} {body : SM} {x : Exn} (P : Rh.Fr → Prop) (hg : h.get a = .lst ws) (hw : ws = pre ++ o :: post)
    (h1 : ∀ w ∈ pre, ∀ σ, P σ → ∃ σ1, t.put w σ = some σ1 ∧ ∃ σ2, body σ1 h = .nx σ2 h ∧ P σ2) (h2 : ∀ σ, P σ → ∃ σ1, t.put o σ = some σ1 ∧ ∃ σ2, body σ1 h = .exc x σ2 h) :
    ∀ (n i : Nat) (σ : Rh.Fr), ws.length < n + i → i ≤ pre.length → P σ → ∃ σ', Rh.forM (.live a) t body n i σ h = .exc x σ' h
  | 0, i, σ, hn, hi, _ => by subst hw; simp at hn; omega
  | n + 1, i, σ, hn, hi, I => by
    have q0 : (Itd.live a).nth h i = some ws[i]? := by
      show (flO (h.get a)).map _ = _
      rw [hg]; rfl
    unfold Rh.forM
    by_cases e : i = pre.length
    · have e1 : ws[i]? = some o := by subst hw; subst e; simp
      obtain ⟨σ1, p1, σ2, p2⟩ := h2 σ I
      rw [q0, e1]
      dsimp only
      rw [p1]
      dsimp only
      rw [p2]
      exact ⟨σ2, rfl⟩
    · have hlt : i < pre.length := by omega
      have e1 : ws[i]? = some pre[i] := by subst hw; rw [List.getElem?_append_left hlt, List.getElem?_eq_getElem hlt]
      obtain ⟨σ1, p1, σ2, p2, I2⟩ := h1 _ (List.getElem_mem hlt) σ I
      rw [q0, e1]
      dsimp only
      rw [p1]
      dsimp only
      rw [p2]
      exact forM_live_exc P hg hw h1 h2 n (i + 1) σ2 (by omega) (by omega) I2
/-- what lengths_back refuses -/
inductive OddW (h : HS) : W → Prop
  | str (x : PySem.Str) : OddW h (.str x)
  | non : OddW h .non
  | dic (a : Nat) (kvs : List (Key × W)) : h.get a = .dic kvs → a < h.sz → OddW h (.ref a)
  | lst (a : Nat) (pre : List (List Bool)) (o : W) (post : List W) : h.get a = .lst (txW pre ++ o :: post) → (∀ t ∈ pre, 1 ≤ t.length ∧ t.length ≤ 10) → OddIt (h := h) o → pre.length + post.length < 1000 → a < h.sz → OddW h (.ref a)
theorem back_refuses (k : Nat) {h : HS} {w : W} (O : OddW h w) : callF G (k + 3) "lengths_back" [w] h = .exc ⟨"BadBits", []⟩ h := by
  rw [callF_succ, u_lengths_back]
  cases O with
  | str x => simp [b_lengths_back]
  | non => simp [b_lengths_back]
  | dic a kvs e _ =>
    have i1 : isiW (.ref a) (.tup [.ty "tuple", .ty "list"]) h = .ok (.bl false) h := by
      show optR ((tysOf [.ty "tuple", .ty "list"]).bind fun ns => (tyO (h.get a)).map fun t => W.bl (ns.any (isT t))) h = _
      rw [e]; rfl
    simp [b_lengths_back, i1]
  | lst a pre o post e hp ho hl _ =>
    have s : Sq h (txW pre ++ o :: post) (.ref a) := .lst a e
    obtain ⟨σ', e1⟩ := forM_live_exc (body := lb_lengths_back_2 (callF G (k + 2))) (t := .one 1) (x := ⟨"BadBits", []⟩) (h := h) (fun σ => ∃ o1, σ = [some (.ref a), o1, none, none, none]) e rfl (fun w hw σ I => by
      obtain ⟨o1, rfl⟩ := I
      obtain ⟨t, ht, rfl⟩ := List.mem_map.mp hw
      have := hp t ht
      exact ⟨_, rfl, _, back_ok k this.1 this.2 _ _ _ _, _, rfl⟩) (fun σ I => by
      obtain ⟨o1, rfl⟩ := I
      exact ⟨_, rfl, _, back_odd k ho _ _ _ _⟩) FUEL 0 [some (.ref a), none, none, none, none] (by simp [txW]; unfold FUEL; omega) (by omega) ⟨none, rfl⟩
    have il : isLst (h.get a) = true := by rw [e]; rfl
    simp [b_lengths_back, s.isi, forS_at, il, e1]
theorem OddIt.old {h h' : HS} (o : Old h h') {w : W} (O : OddIt (h := h) w) : OddIt (h := h') w := by
  cases O with
  | bits bs a b => exact .bits bs a b
  | txt a e => exact .txt a e
  | int i => exact .int i
  | non => exact .non
  | bl b => exact .bl b
  | ref a ws e l => exact .ref a ws (by rw [o.2 a l]; exact e) (o.lt l)
theorem OddW.old {h h' : HS} (o : Old h h') {w : W} (O : OddW h w) : OddW h' w := by
  cases O with
  | str x => exact .str x
  | non => exact .non
  | dic a kvs e l => exact .dic a kvs (by rw [o.2 a l]; exact e) (o.lt l)
  | lst a pre x post e hp ho hl l => exact .lst a pre x post (by rw [o.2 a l]; exact e) hp (ho.old o) hl (o.lt l)
theorem c_refused (k : Nat) {h : HS} {w : W} (O : OddW h w) : ∃ h', callF G (k + 4) "_law_refused" [w] h = .ok (.bl true) h' ∧ Old h h' := by
  have br := back_refuses k (O.old (Old.push (o := .lst [])))
  rw [callF_succ, u__law_refused]
  refine ⟨((h.push (.lst [])).push (.lst [.bl true, .bl false])).push (.lst [.bl true, .bl false]), ?_, Old.push.p.p⟩
  have z1 : h.sz < (h.push (.lst [])).sz := by simp
  generalize hg : h.push (.lst []) = g at *
  have ta : tryAs G (exprS (callK (fnC (callF G (k + 3)) "lengths_back" [.pos 0]) (consA (slotE 0) nilA) nilA)) "BadBits" 2 1 ["ReaderError", "BadTable"] [some w, some (.ref h.sz), none] g = .nx [some w, some (.ref g.sz), none] (g.push (.lst [.bl true, .bl false])) := by
    unfold tryAs
    have e : exprS (callK (fnC (callF G (k + 3)) "lengths_back" [.pos 0]) (consA (slotE 0) nilA) nilA) [some w, some (.ref h.sz), none] g = .exc ⟨"BadBits", []⟩ [some w, some (.ref h.sz), none] g := by simp [br]
    rw [e]
    dsimp only
    unfold catchAs
    simp only [lx_BadBits]
    rfl
  have eq : eqW (.ref g.sz) (.ref (g.sz + 1)) ((g.push (.lst [.bl true, .bl false])).push (.lst [.bl true, .bl false])) = some true := by
    rw [eqW_fl (a := .li [.bl true, .bl false]) (b := .li [.bl true, .bl false]) (flW_list (by simp) (by simp)) (flW_list (by simp) (by simp))]
    rfl
  generalize hg2 : g.push (.lst [.bl true, .bl false]) = g2 at *
  have z2 : g2.sz = g.sz + 1 := by rw [← hg2]; rfl
  simp [b__law_refused, newL, hg, ta, z2, eq]
end Lw
/-! something odd -/
namespace Lw
open PySem PySem.Spec PyProof.Rows L2 Rh
theorem tx_11 : ("00000000000" : PySem.Str) = tx (List.replicate 11 false) := by decide +kernel
theorem odd_items {g : HS} {a m : Nat} {ws : List W} (hg : g.get a = .lst ws) (la : a < g.sz) (hm : m < 9) :
    ∃ o, ([.str "", .str "00000000000", .str "2", .int 0, .non, .bl true, .str "0 ", .ref a, .str "1\n"] : List W)[m]? = some o ∧ OddIt (h := g) o := by
  have : m = 0 ∨ m = 1 ∨ m = 2 ∨ m = 3 ∨ m = 4 ∨ m = 5 ∨ m = 6 ∨ m = 7 ∨ m = 8 := by omega
  rcases this with rfl | rfl | rfl | rfl | rfl | rfl | rfl | rfl | rfl
  · exact ⟨_, rfl, by rw [tx_0]; exact .bits [] (by decide) (.inl rfl)⟩
  · exact ⟨_, rfl, by rw [tx_11]; exact .bits _ (by decide) (.inr (by decide))⟩
  · exact ⟨_, rfl, .txt _ (.inl rfl)⟩
  · exact ⟨_, rfl, .int 0⟩
  · exact ⟨_, rfl, .non⟩
  · exact ⟨_, rfl, .bl true⟩
  · exact ⟨_, rfl, .txt _ (.inr (.inl rfl))⟩
  · exact ⟨_, rfl, .ref a ws hg la⟩
  · exact ⟨_, rfl, .txt _ (.inr (.inr rfl))⟩
theorem c_odd (k : Nat) {h : HS} {s l a : Nat} {ts : List (List Bool)} (S : Src h s l) (T : Txs ts) (ga : h.get a = .lst (txW ts)) (as : a ≠ s) (al : a ≠ l) (la : a < h.sz) :
    ∃ w h', callF G (k + 3) "_law_odd" [.ref s, .ref a] h = .ok w h' ∧ OddW h' w ∧ Src h' s l ∧ Kept s l h h' := by
  have sl := S.ls
  have ll := S.ll
  have few := T.few
  obtain ⟨d, g1, e1, d0, d12, S1, K1⟩ := c_draw k S 12 (by decide) (by decide)
  have a1 : g1.get a = .lst (txW ts) := by rw [K1.2 a la as al, ga]
  rw [callF_succ, u__law_odd]
  have z1 := K1.1
  by_cases c : (8 : Int) < d
  · have z : d = 9 ∨ d = 10 ∨ d = 11 := by omega
    have oo : Old g1 ((g1.push (.dic [(.inr "0", .str "1")])).push (.lst [.str "01", .non, .ref g1.sz])) := Old.push.p
    have gs : ((g1.push (.dic [(.inr "0", .str "1")])).push (.lst [.str "01", .non, .ref g1.sz])).get (g1.sz + 1) = .lst [.str "01", .non, .ref g1.sz] := by simp
    have gd : ((g1.push (.dic [(.inr "0", .str "1")])).push (.lst [.str "01", .non, .ref g1.sz])).get g1.sz = .dic [(.inr "0", .str "1")] := by simp
    have dc : dicE "0" "1" = fun _ g => R.ok (.ref g.sz) (g.push (.dic [(.inr "0", .str "1")])) := rfl
    have ls : newL [.str "01", .non, .ref g1.sz] (g1.push (.dic [(.inr "0", .str "1")])) = .ok (.ref (g1.sz + 1)) ((g1.push (.dic [(.inr "0", .str "1")])).push (.lst [.str "01", .non, .ref g1.sz])) := rfl
    have zz : g1.sz < ((g1.push (.dic [(.inr "0", .str "1")])).push (.lst [.str "01", .non, .ref g1.sz])).sz := by simp; omega
    generalize hg3 : (g1.push (.dic [(.inr "0", .str "1")])).push (.lst [.str "01", .non, .ref g1.sz]) = g3 at *
    rcases z with rfl | rfl | rfl
    · exact ⟨.str "01", g3, by simp [b__law_odd, e1, dc, ls, gs, hg3], .str _, S1.old oo, K1.trans (old_kept oo)⟩
    · exact ⟨.non, g3, by simp [b__law_odd, e1, dc, ls, gs, hg3], .non, S1.old oo, K1.trans (old_kept oo)⟩
    · exact ⟨.ref g1.sz, g3, by simp [b__law_odd, e1, dc, ls, gs, hg3], .dic _ _ gd zz, S1.old oo, K1.trans (old_kept oo)⟩
  · obtain ⟨m, rfl⟩ : ∃ m : Nat, d = m := ⟨d.toNat, by omega⟩
    have n1 : newL [.str "0"] g1 = .ok (.ref g1.sz) (g1.push (.lst [.str "0"])) := rfl
    have n2 : newL [.str "", .str "00000000000", .str "2", .int 0, .non, .bl true, .str "0 ", .ref g1.sz, .str "1\n"] (g1.push (.lst [.str "0"])) = .ok (.ref (g1.sz + 1)) ((g1.push (.lst [.str "0"])).push (.lst [.str "", .str "00000000000", .str "2", .int 0, .non, .bl true, .str "0 ", .ref g1.sz, .str "1\n"])) := rfl
    have oo : Old g1 ((g1.push (.lst [.str "0"])).push (.lst [.str "", .str "00000000000", .str "2", .int 0, .non, .bl true, .str "0 ", .ref g1.sz, .str "1\n"])) := Old.push.p
    have gs : ((g1.push (.lst [.str "0"])).push (.lst [.str "", .str "00000000000", .str "2", .int 0, .non, .bl true, .str "0 ", .ref g1.sz, .str "1\n"])).get (g1.sz + 1) = .lst [.str "", .str "00000000000", .str "2", .int 0, .non, .bl true, .str "0 ", .ref g1.sz, .str "1\n"] := by simp
    have gd : ((g1.push (.lst [.str "0"])).push (.lst [.str "", .str "00000000000", .str "2", .int 0, .non, .bl true, .str "0 ", .ref g1.sz, .str "1\n"])).get g1.sz = .lst [.str "0"] := by simp
    have zz : ((g1.push (.lst [.str "0"])).push (.lst [.str "", .str "00000000000", .str "2", .int 0, .non, .bl true, .str "0 ", .ref g1.sz, .str "1\n"])).sz = g1.sz + 2 := by simp
    generalize hg3 : (g1.push (.lst [.str "0"])).push (.lst [.str "", .str "00000000000", .str "2", .int 0, .non, .bl true, .str "0 ", .ref g1.sz, .str "1\n"]) = g3 at *
    obtain ⟨o, ho, O⟩ := odd_items (m := m) gd (by omega) (by omega)
    have a3 : g3.get a = .lst (txW ts) := by rw [oo.2 a (by omega), a1]
    have n4 : newL (txW ts) g3 = .ok (.ref (g1.sz + 2)) (g3.push (.lst (txW ts))) := by rw [← zz]; rfl
    have o4 : Old g1 (g3.push (.lst (txW ts))) := oo.p
    have b4 : (g3.push (.lst (txW ts))).get (g1.sz + 2) = .lst (txW ts) := by rw [← zz]; simp
    have z4 : (g3.push (.lst (txW ts))).sz = g1.sz + 3 := by simp [zz]
    have g4d : (g3.push (.lst (txW ts))).get g1.sz = .lst [.str "0"] := by rw [get_push, if_neg (by omega), gd]
    generalize hg4 : g3.push (.lst (txW ts)) = g4 at *
    have S4 := S1.old o4
    obtain ⟨q, g5, e5, q0, q1, S5, K5⟩ := c_draw k S4 ((ts.length : Int) + 1) (by omega) (by omega)
    have s1 := S1.ls
    have l1 := S1.ll
    have z5 := K5.1
    have b5 : g5.get (g1.sz + 2) = .lst (txW ts) := by rw [K5.2 _ (by omega) (by omega) (by omega), b4]
    have il : isLst (g4.get (g1.sz + 2)) = true := by rw [b4]; rfl
    have ln : lenO (g4.get (g1.sz + 2)) g4 = .ok (.int (ts.length : Int)) g4 := by rw [b4, lenO_l, txW_len]
    obtain ⟨q, rfl⟩ : ∃ m : Nat, q = m := ⟨q.toNat, by omega⟩
    have ins : insO (g5.get (g1.sz + 2)) (g1.sz + 2) (q : Int) o g5 = .ok .non (g5.set (g1.sz + 2) (.lst (txW (ts.take q) ++ o :: txW (ts.drop q)))) := by
      rw [b5, insO_l (by rw [txW_len]; omega) (by omega) (by omega), Int.toNat_natCast]
      simp [txW]
    refine ⟨.ref (g1.sz + 2), g5.set (g1.sz + 2) (.lst (txW (ts.take q) ++ o :: txW (ts.drop q))), ?_, ?_, S5.set (by omega) (by omega), ?_⟩
    · have i1 : ixO (.lst [.str "", .str "00000000000", .str "2", .int 0, .non, .bl true, .str "0 ", .ref g1.sz, .str "1\n"]) (m : Int) g3 = .ok o g3 := by
        show optR (atI _ (m : Int)) g3 = _
        rw [atI_n, ho]; rfl
      generalize hL : ([.str "", .str "00000000000", .str "2", .int 0, .non, .bl true, .str "0 ", .ref g1.sz, .str "1\n"] : List W) = L at *
      have c' : ¬ (8 : Int) < (m : Int) := c
      have hLl : L.length ≤ 16777216 := by rw [← hL]; show 9 ≤ 16777216; omega
      simp [b__law_odd, e1, c', n1, hL, n2, gs, i1, a3, n4, il, ln, e5, ins, hg3, hLl, hg4, zz]
    · refine .lst _ (ts.take q) o (txW (ts.drop q)) (by simp) (fun t ht => T.len t (List.mem_of_mem_take ht)) ?_ (by simp [txW]; omega) (by rw [sz_set]; omega)
      obtain ⟨o', ho', O'⟩ := odd_items (g := g5.set (g1.sz + 2) (.lst (txW (ts.take q) ++ o :: txW (ts.drop q)))) (a := g1.sz) (m := m) (ws := [.str "0"]) (by rw [get_set, if_neg (by omega), K5.2 _ (by omega) (by omega) (by omega), g4d]) (by rw [sz_set]; omega) (by omega)
      rw [ho] at ho'
      injection ho' with e
      rw [e]
      rw [e] at O'
      exact O'
    · exact (K1.trans ((old_kept o4).trans K5)).sset (by omega)
end Lw
/-! the law -/
namespace Lw
open PySem PySem.Spec PyProof.Rows L2 Rh
theorem ok_txW (n : Nat) : ∀ ts : List (List Bool), okPs n (txW ts) = true
  | [] => by simp [txW]
  | t :: ts => by
    show okPs n (.str (tx t) :: txW ts) = true
    rw [okPs_cons, okP_str, tx_ok, ok_txW n ts]; rfl
theorem eqs_txW : ∀ ts : List (List Bool), eqPs (txW ts) (txW ts) = true
  | [] => rfl
  | t :: ts => by
    show eqPs (.str (tx t) :: txW ts) (.str (tx t) :: txW ts) = true
    rw [eqPs_cons, eqs_txW ts]
    simp
theorem eq_txW {g : HS} {a b : Nat} {ts : List (List Bool)} (ha : g.get a = .lst (txW ts)) (hb : g.get b = .lst (txW ts)) : eqW (.ref a) (.ref b) g = some true := by
  rw [eqW_fl (flW_list ha (ok_txW _ ts)) (flW_list hb (ok_txW _ ts))]
  show some (eqPs _ _) = _
  rw [eqs_txW]
theorem eq_nats {g : HS} {a b : Nat} {ls : List Nat} (ha : g.get a = .lst (nats ls)) (hb : g.get b = .lst (nats ls)) : eqW (.ref a) (.ref b) g = some true := by
  rw [nats_ints] at ha hb
  rw [eqW_lists ha hb]
  simp
/-- the part that asks for a refusal -/
theorem st3 (k : Nat) {g : HS} {s l a : Nat} {ts : List (List Bool)} {o0 o3 : Option W} (S : Src g s l) (T : Txs ts) (ga : g.get a = .lst (txW ts)) (as : a ≠ s) (al : a ≠ l) (la : a < g.sz) :
    ∃ g', st_law_3 (callF G (k + 4)) [o0, some (.ref s), some (.ref a), o3, none, none, none, none] g = .nx [o0, some (.ref s), some (.ref a), o3, none, none, none, none] g' ∧ Src g' s l ∧ Kept s l g g' := by
  obtain ⟨d, g1, e1, d0, d6, S1, K1⟩ := c_draw (k + 2) S 6 (by decide) (by decide)
  by_cases c : d = 5
  · subst c
    have a1 : g1.get a = .lst (txW ts) := by rw [K1.2 a la as al, ga]
    obtain ⟨w, g2, e2, O, S2, K2⟩ := c_odd (k + 1) S1 T a1 as al (Nat.lt_of_lt_of_le la K1.1)
    obtain ⟨g3, e3, o3⟩ := c_refused k O
    exact ⟨g3, by simp [st_law_3, e1, e2, e3], S2.old o3, (K1.trans K2).trans (old_kept o3)⟩
  · exact ⟨g1, by simp [st_law_3, e1, c], S1, K1⟩
/-- the row as it is given: a list or a tuple -/
theorem st45 (k : Nat) {g : HS} {s l a : Nat} {ts : List (List Bool)} {o0 o3 : Option W} (S : Src g s l) (ga : g.get a = .lst (txW ts)) (as : a ≠ s) (al : a ≠ l) (la : a < g.sz) :
    ∃ w g', (st_law_4 (callF G (k + 2)) [o0, some (.ref s), some (.ref a), o3, none, none, none, none] g).bind (st_law_5 (callF G (k + 2))) = .nx [o0, some (.ref s), some (.ref a), o3, some w, none, none, none] g' ∧ Sq g' (txW ts) w ∧ (∀ x, w = .ref x → x < g'.sz) ∧ Kept s l g g' := by
  have S1 : Src (g.push (.lst (txW ts))) s l := S.old Old.push
  have K1 : Kept s l g (g.push (.lst (txW ts))) := old_kept Old.push
  have gb : (g.push (.lst (txW ts))).get g.sz = .lst (txW ts) := by simp
  have ga1 : (g.push (.lst (txW ts))).get a = .lst (txW ts) := by rw [get_push, if_neg (by omega), ga]
  have z1 : g.sz < (g.push (.lst (txW ts))).sz := by simp
  have r4 : st_law_4 (callF G (k + 2)) [o0, some (.ref s), some (.ref a), o3, none, none, none, none] g = .nx [o0, some (.ref s), some (.ref a), o3, some (.ref g.sz), none, none, none] (g.push (.lst (txW ts))) := by
    simp [st_law_4, ga, newL]
  have sl := S.ls
  have ll := S.ll
  generalize g.push (.lst (txW ts)) = g1 at *
  obtain ⟨d, g2, e2, d0, d2, S2, K2⟩ := c_draw k S1 2 (by decide) (by decide)
  have ga2 : g2.get a = .lst (txW ts) := by rw [K2.2 a (by omega) as al, ga1]
  have gb2 : g2.get g.sz = .lst (txW ts) := by rw [K2.2 g.sz z1 (by omega) (by omega), gb]
  by_cases c : d = 1
  · refine ⟨.tup (txW ts), g2, ?_, .tup, (fun _ e => by cases e), K1.trans K2⟩
    rw [r4]
    simp [st_law_5, e2, c, ga2]
  · refine ⟨.ref g.sz, g2, ?_, .lst _ gb2, (fun x e => by injection e with e; subst e; exact Nat.lt_of_lt_of_le z1 K2.1), K1.trans K2⟩
    rw [r4]
    simp [st_law_5, e2, c]
theorem st7 (cf : PySem.Str → List W → HS → R W) {g : HS} {a : Nat} {ts : List (List Bool)} {o0 o1 o3 : Option W} {w x y : W} (s : Sq g (txW ts) w) (ga : g.get a = .lst (txW ts)) (la : a < g.sz) :
    ∃ g', Old g g' ∧ st_law_7 cf [o0, o1, some (.ref a), o3, some w, some (.tup [x, y]), none, none] g = .nx [o0, o1, some (.ref a), o3, some w, some (.tup [x, y]), none, none] g' := by
  have e := eq_txW (g := g.push (.lst (txW ts))) (a := g.sz) (b := a) (ts := ts) (by simp) (by rw [get_push, if_neg (by omega), ga])
  exact ⟨g.push (.lst (txW ts)), Old.push, by simp [st_law_7, s.listW, newL, e]⟩
theorem st10 (cf : PySem.Str → List W → HS → R W) {g : HS} {b : Nat} {ls : List Nat} {o0 o1 o2 o3 o4 : Option W} {y : W} (gb : g.get b = .lst (nats ls)) (hl : ls.length < 1000) :
    ∃ o6, st_law_10 cf [o0, o1, o2, o3, o4, some (.tup [.ref b, y]), none, none] g = .nx [o0, o1, o2, o3, o4, some (.tup [.ref b, y]), o6, none] g := by
  obtain ⟨σ', g', e, rfl, o6, rs, rfl, hr⟩ := forM_live (a := b) (ws := nats ls) (t := .one 6) (body := lb_law_0 cf) (fun r σ g' => g' = g ∧ ∃ (o6 : Option W) (rs : List Nat), σ = [o0, o1, o2, o3, o4, some (.tup [.ref b, y]), o6, none] ∧ r = nats rs)
    (fun r σ g' I => by rw [I.1]; exact gb) (fun v r σ g' I => by
      obtain ⟨rfl, o6, rs, rfl, hr⟩ := I
      cases rs with
      | nil => cases hr
      | cons x rs =>
        injection hr with h1 h2
        subst h1 h2
        exact ⟨_, rfl, [o0, o1, o2, o3, o4, some (.tup [.ref b, y]), some (.int (x : Int)), none], g', .inl (by simp [lb_law_0]), rfl, _, rs, rfl, rfl⟩)
    FUEL 0 [o0, o1, o2, o3, o4, some (.tup [.ref b, y]), none, none] g (by rw [nats_len]; unfold FUEL; omega) (by omega) ⟨rfl, none, ls, rfl, rfl⟩
  have il : isLst (g'.get b) = true := by rw [gb]; rfl
  exact ⟨o6, by simp [st_law_10, forS_at, il, e]⟩
theorem st11 (k : Nat) {g : HS} {a b : Nat} {ts : List (List Bool)} {o0 o1 o3 o4 o6 : Option W} {y : W} (T : Txs ts) (hb : bckW ts (ord (lens ts)) 0 = none) (ga : g.get a = .lst (txW ts)) (la : a < g.sz) (gb : g.get b = .lst (nats (lens ts))) (lb : b < g.sz) :
    ∃ g', st_law_11 (callF G (k + 3)) [o0, o1, some (.ref a), o3, o4, some (.tup [.ref b, y]), o6, none] g = .rt (.bl true) g' := by
  have e2 : lcE (anyI (slotE 2)) 7 yesT (le_law_1 (callF G (k + 3))) [o0, o1, some (.ref a), o3, o4, some (.tup [.ref b, y]), o6, none] g = newL (nats (lens ts)) g := by
    have := lc_sq (m := slotE 2) (e := le_law_1 (callF G (k + 3))) (i := 7) (σ := [o0, o1, some (.ref a), o3, o4, some (.tup [.ref b, y]), o6, none]) (f := fun x => match x with | .str z => .int (z.length : Int) | _ => .non) (h := g) rfl (.lst a ga) (by rw [txW_len]; have := T.few; omega) (fun x hx => by
      obtain ⟨t, mt, rfl⟩ := List.mem_map.mp hx
      have tl := T.len t mt
      have l3 : t.length ≤ 16777216 := by omega
      simp [le_law_1, wipeW, l3])
    rw [this]
    refine congrArg (fun z => newL z g) ?_
    unfold nats lens txW
    rw [List.map_map, List.map_map]
    refine List.map_congr_left fun t _ => ?_
    show W.int ((tx t).length : Int) = W.int (t.length : Int)
    rw [tx_len]
  have e3 := eq_nats (g := g.push (.lst (nats (lens ts)))) (a := b) (b := g.sz) (ls := lens ts) (by rw [get_push, if_neg (by omega), gb]) (by simp)
  have ga1 : (g.push (.lst (nats (lens ts)))).get a = .lst (txW ts) := by rw [get_push, if_neg (by omega), ga]
  have gb1 : (g.push (.lst (nats (lens ts)))).get b = .lst (nats (lens ts)) := by rw [get_push, if_neg (by omega), gb]
  obtain ⟨n, g2, e4, o4', q4⟩ := c_free_words k (h := g.push (.lst (nats (lens ts)))) T hb gb1 (by simp; omega)
  have e5 := eq_txW (g := g2) (a := n) (b := a) q4 (by rw [o4'.2 a (by simp; omega), ga1])
  have hn : newL (nats (lens ts)) g = .ok (.ref g.sz) (g.push (.lst (nats (lens ts)))) := rfl
  generalize hg1 : g.push (.lst (nats (lens ts))) = g1 at *
  exact ⟨g2, by simp [st_law_11, e2, hn, hg1, e3, e4, e5]⟩
end Lw
/-! k22's answer -/
namespace Lw
open PySem PySem.Spec PyProof.Rows L2 Rh
theorem c_source (k : Nat) (ns : List Int) (hl : ns.length ≤ 63) : ∃ h', callF G (k + 1) "_law_source" [.ref 0, .int 0, .int 63] ⟨1, fun _ => .frz (intsW ns)⟩ = .ok (.ref 3) h' ∧ Src h' 3 2 := by
  generalize hr : callF G (k + 1) "_law_source" [.ref 0, .int 0, .int 63] ⟨1, fun _ => .frz (intsW ns)⟩ = r
  rw [callF_succ, u__law_source] at hr
  obtain ⟨ys, ey, hy⟩ := cut_ints ns (some 0) (some 63)
  simp [b__law_source, ey] at hr
  subst hr
  exact ⟨_, rfl, by decide, by simp, by simp, ys, 0, 0, by simp, by simp, by decide, by omega⟩
theorem rest_some (k : Nat) {g : HS} {a : Nat} {ts : List (List Bool)} {o0 o1 : Option W} {w : W} {j : Nat} (T : Txs ts) (s : Sq g (txW ts) w) (ga : g.get a = .lst (txW ts)) (la : a < g.sz) (lw : ∀ x, w = .ref x → x < g.sz) (hb : bckW ts (ord (lens ts)) 0 = some j) :
    ∃ g', (seqS (st_law_6 (callF G (k + 3))) (seqS (st_law_7 (callF G (k + 3))) (seqS (st_law_8 (callF G (k + 3))) (seqS (st_law_9 (callF G (k + 3))) (seqS (st_law_10 (callF G (k + 3))) (st_law_11 (callF G (k + 3)))))))) [o0, o1, some (.ref a), some (.int (j : Int)), some w, none, none, none] g = .rt (.bl true) g' := by
  obtain ⟨g1, o1', q⟩ := c_lengths_back k T s lw
  rw [hb] at q
  have r6 : st_law_6 (callF G (k + 3)) [o0, o1, some (.ref a), some (.int (j : Int)), some w, none, none, none] g = .nx [o0, o1, some (.ref a), some (.int (j : Int)), some w, some (.tup [.non, .int (j : Int)]), none, none] g1 := by
    have q : callF G (k + 3) "lengths_back" [w] g = .ok (.tup [.non, .int (j : Int)]) g1 := q
    simp [st_law_6, q]
  obtain ⟨g2, o2', r7⟩ := st7 (callF G (k + 3)) (g := g1) (o0 := o0) (o1 := o1) (o3 := some (.int (j : Int))) (x := .non) (y := .int (j : Int)) (s.old o1' lw) (by rw [o1'.2 a la, ga]) (o1'.lt la)
  have r8 : st_law_8 (callF G (k + 3)) [o0, o1, some (.ref a), some (.int (j : Int)), some w, some (.tup [.non, .int (j : Int)]), none, none] g2 = .rt (.bl true) g2 := by
    simp [st_law_8, Rh.isNon]
  exact ⟨g2, by rw [seqS_at, r6, sbind_nx, seqS_at, r7, sbind_nx, seqS_at, r8, sbind_rt]⟩
theorem rest_none (k : Nat) {g : HS} {a : Nat} {ts : List (List Bool)} {o0 o1 : Option W} {w : W} (T : Txs ts) (s : Sq g (txW ts) w) (ga : g.get a = .lst (txW ts)) (la : a < g.sz) (lw : ∀ x, w = .ref x → x < g.sz) (hb : bckW ts (ord (lens ts)) 0 = none) :
    ∃ g', (seqS (st_law_6 (callF G (k + 3))) (seqS (st_law_7 (callF G (k + 3))) (seqS (st_law_8 (callF G (k + 3))) (seqS (st_law_9 (callF G (k + 3))) (seqS (st_law_10 (callF G (k + 3))) (st_law_11 (callF G (k + 3)))))))) [o0, o1, some (.ref a), some .non, some w, none, none, none] g = .rt (.bl true) g' := by
  obtain ⟨g1, o1', q⟩ := c_lengths_back k T s lw
  rw [hb] at q
  obtain ⟨q, gb, lb⟩ := q
  have r6 : st_law_6 (callF G (k + 3)) [o0, o1, some (.ref a), some .non, some w, none, none, none] g = .nx [o0, o1, some (.ref a), some .non, some w, some (.tup [.ref g.sz, .non]), none, none] g1 := by
    simp [st_law_6, q]
  have ga1 : g1.get a = .lst (txW ts) := by rw [o1'.2 a la, ga]
  obtain ⟨g2, o2', r7⟩ := st7 (callF G (k + 3)) (g := g1) (o0 := o0) (o1 := o1) (o3 := some .non) (x := .ref g.sz) (y := .non) (s.old o1' lw) ga1 (o1'.lt la)
  have r8 : st_law_8 (callF G (k + 3)) [o0, o1, some (.ref a), some .non, some w, some (.tup [.ref g.sz, .non]), none, none] g2 = .nx [o0, o1, some (.ref a), some .non, some w, some (.tup [.ref g.sz, .non]), none, none] g2 := by
    simp [st_law_8, Rh.isNon]
  have gb2 : g2.get g.sz = .lst (nats (lens ts)) := by rw [o2'.2 _ lb, gb]
  have ga2 : g2.get a = .lst (txW ts) := by rw [o2'.2 a (o1'.lt la), ga1]
  have r9 : st_law_9 (callF G (k + 3)) [o0, o1, some (.ref a), some .non, some w, some (.tup [.ref g.sz, .non]), none, none] g2 = .nx [o0, o1, some (.ref a), some .non, some w, some (.tup [.ref g.sz, .non]), none, none] g2 := by
    have e := isi_ref_list gb2
    simp [st_law_9, Rh.isNon, e]
  obtain ⟨o6, r10⟩ := st10 (callF G (k + 3)) (o0 := o0) (o1 := o1) (o2 := some (.ref a)) (o3 := some .non) (o4 := some w) (y := .non) gb2 (by have := T.few; simp [lens]; omega)
  obtain ⟨g3, r11⟩ := st11 k (g := g2) (a := a) (b := g.sz) (o0 := o0) (o1 := o1) (o3 := some .non) (o4 := some w) (o6 := o6) (y := .non) T hb ga2 (o2'.lt (o1'.lt la)) gb2 (o2'.lt lb)
  exact ⟨g3, by rw [seqS_at, r6, sbind_nx, seqS_at, r7, sbind_nx, seqS_at, r8, sbind_nx, seqS_at, r9, sbind_nx, seqS_at, r10, sbind_nx, r11]⟩
theorem ans_k (k : Nat) (ns : List Int) (hl : ns.length ≤ 63) : ∃ h', callF G (k + 20) "law" [.ref 0] ⟨1, fun _ => .frz (intsW ns)⟩ = .ok (.bl true) h' := by
  obtain ⟨g1, e1, S1⟩ := c_source (k + 18) ns hl
  obtain ⟨ts0, a, g2, e2, ga2, T0, h40, S2, K2, la2, al2⟩ := c_texts (k + 15) S1
  have s1 := S1.ls
  have l1 := S1.ll
  obtain ⟨ts, g3, e3, ga3, T, S3, K3, la3⟩ := c_spoilt (k + 16) S2 T0 h40 ga2 (by omega) (by omega) la2
  have s2 := S2.ls
  have l2 := S2.ll
  obtain ⟨g4, o4, e4⟩ := c_fault (k + 16) T ga3 la3
  have S4 := S3.old o4
  have ga4 : g4.get g2.sz = .lst (txW ts) := by rw [o4.2 _ la3, ga3]
  rw [faults_same T] at e4
  obtain ⟨v, hv1, hv2, e4⟩ : ∃ v, (∀ j, bckW ts (ord (lens ts)) 0 = some j → v = W.int (j : Int)) ∧ (bckW ts (ord (lens ts)) 0 = none → v = W.non) ∧ callF G (k + 16 + 3) "_law_fault" [.ref g2.sz] g3 = .ok v g4 := by
    cases hb : bckW ts (ord (lens ts)) 0 with
    | some j => rw [hb] at e4; exact ⟨_, (fun i e => by injection e with e; rw [e]), (fun e => by cases e), e4⟩
    | none => rw [hb] at e4; exact ⟨_, (fun i e => by cases e), (fun _ => rfl), e4⟩
  obtain ⟨g5, r3, S5, K5⟩ := st3 (k + 15) (o0 := some (.ref 0)) (o3 := some v) S4 T ga4 (by omega) (by omega) (o4.lt la3)
  have la4 := o4.lt la3
  have ga5 : g5.get g2.sz = .lst (txW ts) := by rw [K5.2 _ la4 (by omega) (by omega), ga4]
  have la5 := Nat.lt_of_lt_of_le la4 K5.1
  obtain ⟨w, g6, r45, sq, lw, K6⟩ := st45 (k + 17) (o0 := some (.ref 0)) (o3 := some v) S5 ga5 (by omega) (by omega) la5
  have ga6 : g6.get g2.sz = .lst (txW ts) := by rw [K6.2 _ la5 (by omega) (by omega), ga5]
  have la6 := Nat.lt_of_lt_of_le la5 K6.1
  have fin : ∃ g', (seqS (st_law_6 (callF G (k + 19))) (seqS (st_law_7 (callF G (k + 19))) (seqS (st_law_8 (callF G (k + 19))) (seqS (st_law_9 (callF G (k + 19))) (seqS (st_law_10 (callF G (k + 19))) (st_law_11 (callF G (k + 19)))))))) [some (.ref 0), some (.ref 3), some (.ref g2.sz), some v, some w, none, none, none] g6 = .rt (.bl true) g' := by
    cases hb : bckW ts (ord (lens ts)) 0 with
    | some j =>
      rw [hv1 j hb]
      exact rest_some (k + 16) T sq ga6 la6 lw hb
    | none =>
      rw [hv2 hb]
      exact rest_none (k + 16) T sq ga6 la6 lw hb
  obtain ⟨g7, r⟩ := fin
  refine ⟨g7, ?_⟩
  rw [callF_succ, u_law]
  unfold b_law
  have r0 : st_law_0 (callF G (k + 19)) [some (.ref 0), none, none, none, none, none, none, none] ⟨1, fun _ => .frz (intsW ns)⟩ = .nx [some (.ref 0), some (.ref 3), none, none, none, none, none, none] g1 := by
    simp only [st_law_0, asgS_one, callK_at, consA_at, nilA_at, slotE_at, valE_at, getS_z, optR_someE, bind_okE, fnC_at, pick_pos, pick_nil]
    simp [e1]
  have r1 : st_law_1 (callF G (k + 19)) [some (.ref 0), some (.ref 3), none, none, none, none, none, none] g1 = .nx [some (.ref 0), some (.ref 3), some (.ref g2.sz), none, none, none, none, none] g3 := by
    simp [st_law_1, e2, e3]
  have r2 : st_law_2 (callF G (k + 19)) [some (.ref 0), some (.ref 3), some (.ref g2.sz), none, none, none, none, none] g3 = .nx [some (.ref 0), some (.ref 3), some (.ref g2.sz), some v, none, none, none, none] g4 := by
    simp [st_law_2, e4]
  have r3 : st_law_3 (callF G (k + 19)) [some (.ref 0), some (.ref 3), some (.ref g2.sz), some v, none, none, none, none] g4 = _ := r3
  rw [seqS_at, r0, sbind_nx, seqS_at, r1, sbind_nx, seqS_at, r2, sbind_nx, seqS_at, r3, sbind_nx, seqS_at]
  have r45 : (st_law_4 (callF G (k + 19)) [some (.ref 0), some (.ref 3), some (.ref g2.sz), some v, none, none, none, none] g5).bind (st_law_5 (callF G (k + 19))) = _ := r45
  cases q4 : st_law_4 (callF G (k + 19)) [some (.ref 0), some (.ref 3), some (.ref g2.sz), some v, none, none, none, none] g5 with
  | nx σ g =>
    rw [q4, sbind_nx] at r45
    rw [sbind_nx, seqS_at, r45, sbind_nx, r]
    rfl
  | rt _ _ => rw [q4] at r45; cases r45
  | bk _ _ => rw [q4] at r45; cases r45
  | ct _ _ => rw [q4] at r45; cases r45
  | exc _ _ _ => rw [q4] at r45; cases r45
  | stuck => rw [q4] at r45; cases r45
theorem ans : AnsTrue G 20 63 := fun ns hl => ans_k 0 ns hl
end Lw
open PySem PySem.W PyProof.Rows
set_option maxRecDepth 100000 in
set_option maxHeartbeats 0 in
theorem PySem.Challenge.cw_readerholds_k22_lengths_read_back_holds : PySem.Challenge.rw_readerholds_k22_lengths_read_back.Holds := by
  w_on; o_law; k_head; (case hw => w_witness2)
  k_fill
  refine Rh.walk_rh (l := PySem.Challenge.rw_readerholds_k22_lengths_read_back) (n := 63) (k := 20) (G := Lw.G) (d := Lw.dfs) (fi := Lw.f_law) rfl (by decide) rfl ⟨rfl, by decide, by decide⟩ (fun w h Y => PySem.W.kIn_of Y) (by kernel_rfl) (by kernel_rfl) rfl (List.mem_singleton.mpr rfl) ?c ?ok (by kernel_rfl) (fun w mg => Lw.sh_all) ?hb Lw.ans
  case c => intro w; show He.obsT _ _ _ _ = He.valT _ _ _; kernel_rfl
  case ok => intro w; kernel_rfl
  case hb => exact fun w f fd F s u => L2.FunD.bindsA (ps := [("script" : PySem.Str)]) F (fun _ _ _ _ _ _ us hl => match us, hl with | [_], _ => rfl) s [u] rfl
