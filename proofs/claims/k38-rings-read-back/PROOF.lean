import PyProof.Rows.All
import Wide.All
import OpenK.AllK
import Wide.FinOn
import HandS.ForMost
import HandS.HeadHook1
import HandS.HeadHook2
import KE.KExcInit
import KE.KExcIs
import HandS.ExcIs
import HandS.IsInst
import HandS.ForExc
import HandS.Walk
import HandS.Conv
import HandS.Flow
import HandS.TupAny
import HandS.TupMul
import HandS.Style
import HandS.Wide
import KE.KTupSum
import KE.DataMinMax
import HandS.NoneIn
import HandS.Defaults
import HandS.CallSlots
import HandS.EndBits
import KE.GoesEnum
import KE.GoesMore
import HandS.Star
import HandS.RaiseMore
import KE.KExcHand
import KE.KTryMore
import HandS.HeadEnd
import HandS.Head0
import HandS.Head1
import HandS.Head2
import HandS.More
import PyProof.MaxThree
import HandS.Zip
import HandS.Strs
import HandS.Iter
import HandS.Text
import HandS.SortInts
import HandS.FStr
import KE.KUnpack
import PyProof.CollectIter
import HandS.Property
import OpenK.KOps
import OpenK.KMeth
import KE.KOpsOwn
import KE.KCallOwn
import HandS.ClsMeth
import HandS.HeadNt
import KE.KUnpackStar
import PyProof.RulesMatch
import HandS.SetFor
import KE.SortData
import PySem.Challenge.RW_wrapwidths_k38_rings_read_back
import PyProof.Rows.StrCase
import PyProof.Rows.ReprOcc
import PyProof.P3Eq
set_option Elab.async false
set_option linter.all false
set_option maxRecDepth 100000
set_option maxHeartbeats 0
section
namespace DL
open PySem
abbrev D := PyData
/-- an error: its class by name, its fields by name -/
structure Exn where
  cls : Str
  fs : List (Str × D)
/-- what stands in a cell: a list that is changed, an object with fields -/
inductive Cell where
  | lst (ds : List D)
  | ins (cls : Str) (fs : List (Str × D))
/-- the fields that objects with cells have -/
def fldN : List Str := ["now", "states", "done", "wanted", "is_busy", "rows", "page", "pairs"]
/-- where a run stands: how many draws were made so far; the cells -/
structure Sx where
  n : Nat
  mu : Nat → Option Cell
/-- one draw more -/
def Sx.up (c : Sx) : Sx := ⟨c.n + 1, c.mu⟩
/-- no cell -/
def Sx.z (n : Nat) : Sx := ⟨n, fun _ => none⟩
abbrev W (α : Type) := Sx → (α → Sx → Prop) → (Exn → Sx → Prop) → Prop
def ret {α : Type} (a : α) : W α := fun n P _ => P a n
def bnd {α β : Type} (m : W α) (f : α → W β) : W β := fun n P X => m n (fun a n' => f a n' P X) X
def stuck {α : Type} : W α := fun _ _ _ => False
def grd {α : Type} (c : Prop) (m : W α) : W α := fun n P X => c ∧ m n P X
def thr {α : Type} (e : Exn) : W α := fun n _ X => X e n
@[simp] theorem bnd_ret {α β : Type} (a : α) (f : α → W β) : bnd (ret a) f = f a := id rfl
@[simp] theorem bnd_stuck {α β : Type} (f : α → W β) : bnd stuck f = stuck := rfl
@[simp] theorem bnd_thr {α β : Type} (e : Exn) (f : α → W β) : bnd (thr e) f = thr e := id rfl
theorem grd_pos {α : Type} {c : Prop} (h : c) (m : W α) : grd c m = m := by
  funext n P X
  exact propext ⟨fun q => q.2, fun q => ⟨h, q⟩⟩
@[simp] theorem grd_true {α : Type} (m : W α) : grd True m = m := grd_pos True.intro m
theorem bnd_grd {α β : Type} {c : Prop} (m : W α) (f : α → W β) : bnd (grd c m) f = grd c (bnd m f) := rfl
/-- what a slot is known to hold: nothing, a value, a list of its own, the stream -/
inductive Ent where
  | unk
  | val (d : D)
  | own (ds : List D)
  | stm
  | scr (ns : List Int)
abbrev Env := List Ent
mutual
/-- no list, no dict within -/
def flat : D → Bool
  | .none => true
  | .bool _ => true
  | .int _ => true
  | .str _ => true
  | .tuple xs => flatAll xs
  | .list _ => false
  | .dict [(.none, .bool true), (.none, .int _)] => true
  | .dict _ => false
def flatAll : List D → Bool
  | [] => true
  | x :: xs => flat x && flatAll xs
end
mutual
/-- what may be shown: no exception within; dicts of at most one entry -/
def plain : D → Bool
  | .none => true
  | .bool _ => true
  | .int _ => true
  | .str _ => true
  | .tuple xs => plainAll xs
  | .list xs => plainAll xs
  | .dict [] => true
  | .dict [(.str _, d)] => plain d
  | .dict _ => false
def plainAll : List D → Bool
  | [] => true
  | x :: xs => plain x && plainAll xs
end
/-- an exception as data: its class by name, its fields -/
def xD (n : Str) (fs : List (Str × D)) : D := .dict ((.none, .str n) :: fs.map fun q => (.str q.1, q.2))
/-- an instance of WordRow as data: what it holds -/
def wD (d : D) : D := .dict [(.none, .int 0), (.str "held", d)]
/-- a cell's place, as data -/
def rD (a : Nat) : D := .dict [(.none, .bool true), (.none, .int (a : Int))]
/-- not an exception, no instance -/
def noXn : D → Bool
  | .dict ((.none, _) :: _) => false
  | _ => true
/-- sizes that the machine lets pass -/
def small (n : Nat) : Prop := n ≤ 1000000
def mulOk (i j : Int) : Prop := (-(2 ^ 64) < i ∧ i < 2 ^ 64) ∨ (-(2 ^ 64) < j ∧ j < 2 ^ 64)
def rep (k : Int) (xs : List D) : List D := (List.replicate k.toNat xs).flatten
def b2i (b : Bool) : Int := if b = true then 1 else 0
def opAdd : D → D → W D
  | .int a, .int b => ret (.int (a + b))
  | .bool a, .int b => ret (.int (b2i a + b))
  | .tuple xs, .tuple ys => grd (small (xs.length + ys.length)) (ret (.tuple (xs ++ ys)))
  | .list xs, .list ys => grd (small (xs.length + ys.length)) (ret (.list (xs ++ ys)))
  | .str x, .str y => grd (x.length + y.length ≤ 1000000) (ret (.str (x ++ y)))
  | _, _ => stuck
def opSub : D → D → W D
  | .int a, .int b => ret (.int (a - b))
  | .bool a, .int b => ret (.int (b2i a - b))
  | _, _ => stuck
def opMul : D → D → W D
  | .int a, .int b => grd (mulOk a b) (ret (.int (a * b)))
  | .tuple xs, .int k => grd (xs ≠ [] ∧ 0 ≤ k ∧ k ≤ 1000 ∧ xs.length ≤ 1000) (ret (.tuple (rep k xs)))
  | .list xs, .int k => grd (0 ≤ k ∧ k ≤ 1000 ∧ xs.length ≤ 1000) (ret (.list (rep k xs)))
  | _, _ => stuck
def opFdiv : D → D → W D
  | .int a, .int b => grd (0 < b ∧ b < 9223372036854775808) (ret (.int (a / b)))
  | _, _ => stuck
def opMod : D → D → W D
  | .int a, .int b => grd (0 < b) (ret (.int (a % b)))
  | _, _ => stuck
def opPow : D → D → W D
  | .int a, .int b => grd (0 ≤ b ∧ b ≤ 1000 ∧ a.natAbs < 2 ^ 64) (ret (.int (a ^ b.toNat)))
  | _, _ => stuck
def opShl : D → D → W D
  | .int a, .int b => grd (0 ≤ b ∧ b ≤ 1000 ∧ a.natAbs < 2 ^ 64) (ret (.int (a * 2 ^ b.toNat)))
  | _, _ => stuck
def opNeg : D → W D
  | .int a => ret (.int (-a))
  | _ => stuck
/-- truth -/
def tru : D → W Bool
  | .none => ret false
  | .bool b => ret b
  | .int i => ret (i != 0)
  | .str x => grd (x.length ≤ 1000000) (ret ((x.length : Int) != 0))
  | .tuple xs => ret (!xs.isEmpty)
  | .list xs => ret (!xs.isEmpty)
  | .dict _ => stuck
/-- a list or a small dict against the empty tuple -/
def vsNil : D → D → Bool
  | .list _, .tuple [] => true
  | .dict [], .tuple [] => true
  | .dict [(.str _, _)], .tuple [] => true
  | _, _ => false
def eqOk : D → D → Prop
  | .str _, .str _ => True
  | .list _, .list [] => True
  | .tuple _, .tuple [] => True
  | a, b => vsNil a b = true ∨ (SeqAt.shaped a = true ∧ SeqAt.shaped b = true)
def opEq (a b : D) : W Bool := grd (eqOk a b) (ret (PyData.eqv a b))
theorem eqOk_of {a b : D} (h : SeqAt.shaped a = true) (h2 : SeqAt.shaped b = true) : eqOk a b := by
  unfold eqOk
  split
  · exact True.intro
  · exact True.intro
  · exact True.intro
  · exact .inr ⟨h, h2⟩
def opLt : D → D → W Bool
  | .int a, .int b => ret (decide (a < b))
  | _, _ => stuck
def opLe : D → D → W Bool
  | .int a, .int b => ret (decide (a ≤ b))
  | _, _ => stuck
def isNone : D → Bool
  | .none => true
  | _ => false
/-- is: against None, or two bools -/
def isOpOk : D → D → Prop
  | .bool _, .bool _ => True
  | _, b => b = .none
def isOpV : D → D → Bool
  | .bool a, .bool b => decide (a = b)
  | a, _ => isNone a
theorem isOpOk_none (a : D) : isOpOk a .none := by
  cases a <;> rfl
theorem isOpV_none (a : D) : isOpV a .none = isNone a := by
  cases a <;> rfl
inductive Cmp where
  | eq | ne | lt | le | gt | ge | isN | notN
def opCmp : Cmp → D → D → W Bool
  | .eq, a, b => opEq a b
  | .ne, a, b => bnd (opEq a b) fun c => ret (!c)
  | .lt, a, b => opLt a b
  | .le, a, b => opLe a b
  | .gt, a, b => opLt b a
  | .ge, a, b => opLe b a
  | .isN, a, b => grd (isOpOk a b) (ret (isOpV a b))
  | .notN, a, b => grd (isOpOk a b) (ret (!isOpV a b))
inductive Op where
  | add | sub | mul | fdiv | mod | pow | shl
theorem notN_none (a : D) : opCmp .notN a .none = ret (!isNone a) := by
  show grd (isOpOk a .none) (ret (!isOpV a .none)) = _
  rw [grd_pos (isOpOk_none a), isOpV_none]
def opBin : Op → D → D → W D
  | .add => opAdd
  | .sub => opSub
  | .mul => opMul
  | .fdiv => opFdiv
  | .mod => opMod
  | .pow => opPow
  | .shl => opShl
/-- the items of a sequence -/
def itemsOf : D → W (List D)
  | .tuple xs => ret xs
  | .list xs => ret xs
  | _ => stuck
def opIdx : D → D → W D
  | .tuple xs, .int i => match L2.atI xs i with | some d => ret d | none => stuck
  | .list xs, .int i => match L2.atI xs i with | some d => ret d | none => stuck
  | _, _ => stuck
/-- a part's bound: an int, or none written -/
def sIx (n d : Nat) : Option Int → Nat := HT.sIx n d
def cut (xs : List D) (lo hi : Option Int) : List D := (xs.drop (HT.sIx xs.length 0 lo)).take (HT.sIx xs.length xs.length hi - HT.sIx xs.length 0 lo)
def opCut : D → Option Int → Option Int → W D
  | .tuple xs, lo, hi => ret (.tuple (cut xs lo hi))
  | .list xs, lo, hi => ret (.list (cut xs lo hi))
  | .str x, lo, hi => grd (x.length ≤ 1000000) (ret (.str (L2.cutS x lo hi)))
  | _, _, _ => stuck
def asInt : D → W Int
  | .int i => ret i
  | _ => stuck
/-- the ints of a list of ints -/
def ints? : List D → Option (List Int)
  | [] => some []
  | .int i :: r => (ints? r).map (i :: ·)
  | _ :: _ => none
def bools? : List D → Option (List Bool)
  | [] => some []
  | .bool i :: r => (bools? r).map (i :: ·)
  | _ :: _ => none
theorem ints?_map (ns : List Int) : ints? (ns.map PyData.int) = some ns := by
  induction ns with
  | nil => rfl
  | cons a r ih => simp [ints?, ih]
theorem ints?_eq : ∀ {ds : List D} {ns : List Int}, ints? ds = some ns → ds = ns.map PyData.int
  | [], ns, h => by simp [ints?] at h; subst h; rfl
  | .int i :: r, ns, h => by
    simp only [ints?, Option.map_eq_some_iff] at h
    obtain ⟨l, h1, rfl⟩ := h
    rw [ints?_eq h1]; rfl
  | .none :: r, ns, h => by simp [ints?] at h
  | .bool _ :: r, ns, h => by simp [ints?] at h
  | .str _ :: r, ns, h => by simp [ints?] at h
  | .list _ :: r, ns, h => by simp [ints?] at h
  | .tuple _ :: r, ns, h => by simp [ints?] at h
  | .dict _ :: r, ns, h => by simp [ints?] at h
def greatest (a : Int) (l : List Int) : Int := l.foldl max a
def least (a : Int) (l : List Int) : Int := l.foldl min a
inductive B1 where
  | len | sum | max | min | abs | repr | str | tuple | list | all | any | sorted | bool | int
def showOk (d : D) : Prop := PyData.showable d = true ∧ PyData.depth d ≤ 40 ∧ (PyData.shown d).length ≤ 1000000 ∧ plain d = true
def intsOf (d : D) : W (List Int) := bnd (itemsOf d) fun xs => match ints? xs with | some ns => ret ns | none => stuck
def bi1 : B1 → D → W D
  | .len, .tuple xs => ret (.int xs.length)
  | .len, .list xs => ret (.int xs.length)
  | .len, .str x => grd (x.length ≤ 1000000) (ret (.int x.length))
  | .len, _ => stuck
  | .sum, d => bnd (intsOf d) fun ns => ret (.int ns.sum)
  | .max, d => bnd (intsOf d) fun ns => match ns with | [] => stuck | a :: r => ret (.int (greatest a r))
  | .min, d => bnd (intsOf d) fun ns => match ns with | [] => stuck | a :: r => ret (.int (least a r))
  | .abs, .int i => ret (.int (if i < 0 then -i else i))
  | .abs, _ => stuck
  | .repr, d => grd (showOk d) (ret (.str (PyData.shown d)))
  | .str, .int i => grd (i.natAbs.log2 < 1920) (ret (.str (toString i)))
  | .str, .str x => ret (.str x)
  | .str, .bool b => ret (.str (if b = true then "True" else "False" : String))
  | .str, _ => stuck
  | .tuple, d => bnd (itemsOf d) fun xs => ret (.tuple xs)
  | .list, d => bnd (itemsOf d) fun xs => ret (.list xs)
  | .all, .list xs => match bools? xs with | some bs => ret (.bool (bs.all id)) | none => stuck
  | .all, _ => stuck
  | .any, .list xs => match bools? xs with | some bs => ret (.bool (bs.any id)) | none => stuck
  | .any, _ => stuck
  | .sorted, _ => stuck
  | .bool, _ => stuck
  | .int, .int i => ret (.int i)
  | .int, .bool b => ret (.int (if b then 1 else 0))
  | .int, _ => stuck
inductive B2 where
  | max | min
def bi2 : B2 → D → D → W D
  | .max, .int i, .int j => ret (.int (if j > i then j else i))
  | .min, .int i, .int j => ret (.int (if j < i then j else i))
  | _, _, _ => stuck
/-- isinstance by a built-in type's name -/
def tyName : D → String
  | .none => "NoneType"
  | .bool _ => "bool"
  | .int _ => "int"
  | .str _ => "str"
  | .tuple _ => "tuple"
  | .list _ => "list"
  | .dict _ => "dict"
inductive Ty where
  | int | bool | tuple | str | list | dict
def isTy : Ty → D → Bool
  | .int, .int _ => true
  | .int, .bool _ => true
  | .bool, .bool _ => true
  | .tuple, .tuple _ => true
  | .str, .str _ => true
  | .list, .list _ => true
  | .dict, .dict _ => true
  | _, _ => false
abbrev XE := Env → W D
abbrev XT := Env → W Bool
abbrev XA := Env → W (List D)
def eVar (i : Nat) : XE := fun E => match E[i]? with | some (.val d) => ret d | _ => stuck
def eCon (d : D) : XE := fun _ => ret d
def eBin (o : Op) (a b : XE) : XE := fun E => bnd (a E) fun x => bnd (b E) fun y => opBin o x y
def eNeg (a : XE) : XE := fun E => bnd (a E) opNeg
def eCmp (o : Cmp) (a b : XE) : XE := fun E => bnd (a E) fun x => bnd (b E) fun y => bnd (opCmp o x y) fun c => ret (.bool c)
/-- a o b o' c, o(a, b) first -/
def eChain (o o' : Cmp) (a b c : XE) : XE := fun E => bnd (a E) fun x => bnd (b E) fun y => bnd (opCmp o x y) fun k => if k = true then bnd (c E) fun z => bnd (opCmp o' y z) fun k' => ret (.bool k') else ret (.bool false)
/-- a test: the truth of a value -/
def tTru (a : XE) : XT := fun E => bnd (a E) tru
def tNot (t : XT) : XT := fun E => bnd (t E) fun c => ret (!c)
def tAnd (t u : XT) : XT := fun E => bnd (t E) fun c => if c = true then u E else ret false
def tOr (t u : XT) : XT := fun E => bnd (t E) fun c => if c = true then ret true else u E
/-- .. as values -/
def eNot (a : XE) : XE := fun E => bnd (a E) fun x => bnd (tru x) fun c => ret (.bool (!c))
def eAnd (a b : XE) : XE := fun E => bnd (a E) fun x => bnd (tru x) fun c => if c = true then b E else ret x
def eOr (a b : XE) : XE := fun E => bnd (a E) fun x => bnd (tru x) fun c => if c = true then ret x else b E
def eIf (t : XT) (a b : XE) : XE := fun E => bnd (t E) fun c => if c = true then a E else b E
def eB1 (f : B1) (a : XE) : XE := fun E => bnd (a E) (bi1 f)
def eB2 (f : B2) (a b : XE) : XE := fun E => bnd (a E) fun x => bnd (b E) fun y => bi2 f x y
def eIs (t : Ty) (a : XE) : XE := fun E => bnd (a E) fun x => grd (noXn x = true) (ret (.bool (isTy t x)))
def eIdx (a b : XE) : XE := fun E => bnd (a E) fun x => bnd (b E) fun y => opIdx x y
abbrev XO := Env → W (Option Int)
def oNone : XO := fun _ => ret none
def oSome (a : XE) : XO := fun E => bnd (a E) fun x => bnd (asInt x) fun i => ret (some i)
def eCut (a : XE) (lo hi : XO) : XE := fun E => bnd (a E) fun x => bnd (lo E) fun l => bnd (hi E) fun h => opCut x l h
def aNil : XA := fun _ => ret []
def aCons (a : XE) (r : XA) : XA := fun E => bnd (a E) fun x => bnd (r E) fun xs => ret (x :: xs)
/-- *a, .. -/
def aStar (a : XE) (r : XA) : XA := fun E => bnd (a E) fun x => bnd (itemsOf x) fun ys => bnd (r E) fun xs => ret (ys ++ xs)
def eTup (a : XA) : XE := fun E => bnd (a E) fun xs => grd (small xs.length) (ret (.tuple xs))
def eLst (a : XA) : XE := fun E => bnd (a E) fun xs => grd (small xs.length) (ret (.list xs))
/-- a call of a def: what it does of its arguments -/
abbrev Fn := List D → W D
def eCall (f : Fn) (a : XA) : XE := fun E => bnd (a E) f
/-- a call whose first argument is the stream -/
def eCallS (f : Fn) (s : Nat) (a : XA) : XE := fun E => match E[s]? with | some .stm => bnd (a E) f | _ => stuck
/-- a draw -/
def draw (many : Int) : W D := fun n P _ => (0 < many ∧ many < 9223372036854775808 ∧ n.n < 2 ^ 40) ∧ ∀ r : Int, 0 ≤ r → r < many → P (.int r) n.up
def fDraw : Fn := fun ds => match ds with
  | [.int many] => draw many
  | _ => stuck
/-- what a loop walks -/
def iScr (i : Nat) : XA := fun E => match E[i]? with | some (.scr ns) => ret (ns.map PyData.int) | _ => stuck
def iSeq (a : XE) : XA := fun E => bnd (a E) itemsOf
def rng (a b : Int) : List D := (List.range (b - a).toNat).map fun (i : Nat) => PyData.int (a + (i : Int))
def rngOk (a b : Int) : Prop := -(2 ^ 60) < a ∧ a < 2 ^ 60 ∧ -(2 ^ 60) < b ∧ b < 2 ^ 60
def iRng1 (a : XE) : XA := fun E => bnd (a E) fun x => bnd (asInt x) fun n => grd (rngOk 0 n) (ret (rng 0 n))
def iRng2 (a b : XE) : XA := fun E => bnd (a E) fun x => bnd (b E) fun y => bnd (asInt x) fun n => bnd (asInt y) fun m => grd (rngOk n m) (ret (rng n m))
/-- list(range(..)), tuple(range(..)) -/
def eLstR (a : XA) : XE := fun E => bnd (a E) fun xs => grd (small xs.length) (ret (.list xs))
def eTupR (a : XA) : XE := fun E => bnd (a E) fun xs => grd (small xs.length) (ret (.tuple xs))
/-- a target: a name, names -/
inductive Tg where
  | nm (i : Nat)
  | tp (is : List Nat)
  | pr (a b : Tg)
def setAll : List Nat → List D → Env → Option Env
  | [], [], E => some E
  | i :: is, d :: ds, E => setAll is ds (E.set i (.val d))
  | _, _, _ => none
def Tg.put : Tg → D → Env → Option Env
  | .nm i, d, E => some (E.set i (.val d))
  | .tp is, .tuple ds, E => setAll is ds E
  | .tp is, .list ds, E => setAll is ds E
  | .tp _, _, _ => none
  | .pr a b, .tuple [d, e], E => match a.put d E with
    | some E1 => b.put e E1
    | none => none
  | .pr _ _, _, _ => none
/-- a list comprehension: its own names at vs; no error may leave it -/
def wipeE (E : Env) : List Nat → Env
  | [] => E
  | v :: vs => (wipeE E vs).set v .unk
def noX {α : Type} (m : W α) : W α := fun n P _ => m n P fun _ _ => False
@[simp] theorem noX_ret {α : Type} (a : α) : noX (ret a) = ret a := rfl
def compL (tg : Tg) (t : XT) (e : XE) : List D → List D → Env → W (List D)
  | [], acc, _ => ret acc
  | d :: ds, acc, E => match tg.put d E with
    | none => stuck
    | some E1 => bnd (t E1) fun c => if c = true then bnd (e E1) fun y => grd (small acc.length) (compL tg t e ds (acc ++ [y]) E) else compL tg t e ds acc E
def eComp (it : XA) (tg : Tg) (t : XT) (e : XE) (vs : List Nat) : XE := fun E => bnd (it E) fun ds => bnd (noX (compL tg t e ds [] (wipeE E vs))) fun ys => ret (.list ys)
def tYes : XT := fun _ => ret true
/-- an expression that reads the own list at i: what comes has no list within -/
def eBor (i : Nat) (e : XE) : XE := fun E => match E[i]? with
  | some (.own ds) => bnd (e (E.set i (.val (.list ds)))) fun d => grd (flat d = true) (ret d)
  | _ => e E
def tBor (i : Nat) (t : XT) : XT := fun E => match E[i]? with
  | some (.own ds) => t (E.set i (.val (.list ds)))
  | _ => t E
inductive Out where
  | nx (E : Env)
  | rt (d : D)
  | bk (E : Env)
  | ct (E : Env)
abbrev XS := Env → W Out
def sSeq (a b : XS) : XS := fun E => bnd (a E) fun o => match o with
  | .nx E' => b E'
  | o => ret o
def sSkip : XS := fun E => ret (.nx E)
def sAsg (i : Nat) (e : XE) : XS := fun E => bnd (e E) fun d => ret (.nx (E.set i (.val d)))
def sPut (tg : Tg) (e : XE) : XS := fun E => bnd (e E) fun d => match tg.put d E with
  | some E' => ret (.nx E')
  | none => stuck
/-- a, b = x, y -/
def sPar (i j : Nat) (a b : XE) : XS := fun E => bnd (a E) fun x => bnd (b E) fun y => ret (.nx ((E.set i (.val x)).set j (.val y)))
/-- name = a new list -/
def sOwn (i : Nat) (e : XE) : XS := fun E => bnd (e E) fun d => match d with
  | .list ds => ret (.nx (E.set i (.own ds)))
  | _ => stuck
/-- the own list at i is from here on a value -/
def sRel (i : Nat) (s : XS) : XS := fun E => match E[i]? with
  | some (.own ds) => s (E.set i (.val (.list ds)))
  | _ => s E
def sApp (i : Nat) (e : XE) : XS := fun E => match E[i]? with
  | some (.own ds) => bnd (e E) fun d => grd (small ds.length) (ret (.nx (E.set i (.own (ds ++ [d])))))
  | _ => stuck
/-- xs[k] = e at the own list at i -/
def sSet (i : Nat) (k e : XE) : XS := fun E => match E[i]? with
  | some (.own ds) => bnd (e E) fun d => bnd (k E) fun n => match n with
    | .int z => match L2.ixN ds.length z with
      | some j => ret (.nx (E.set i (.own (ds.set j d))))
      | none => stuck
    | _ => stuck
  | _ => stuck
def sIf (t : XT) (a b : XS) : XS := fun E => bnd (t E) fun c => if c = true then a E else b E
def forL (tg : Tg) (s : XS) : List D → XS
  | [], E => ret (.nx E)
  | d :: ds, E => match tg.put d E with
    | none => stuck
    | some E1 => bnd (s E1) fun o => match o with
      | .nx E' => forL tg s ds E'
      | .ct E' => forL tg s ds E'
      | .bk E' => ret (.nx E')
      | .rt d => ret (.rt d)
def sFor (it : XA) (tg : Tg) (s : XS) : XS := fun E => bnd (it E) fun ds => forL tg s ds E
def whileL (t : XT) (s : XS) : Nat → XS
  | 0, _ => stuck
  | n + 1, E => bnd (t E) fun c => if c = true then bnd (s E) fun o => match o with
      | .nx E' => whileL t s n E'
      | .ct E' => whileL t s n E'
      | .bk E' => ret (.nx E')
      | .rt d => ret (.rt d)
    else ret (.nx E)
def sWhile (t : XT) (s : XS) : XS := fun E c P X => ∃ n, whileL t s n E c P X
def sRet (e : XE) : XS := fun E => bnd (e E) fun d => ret (.rt d)
def sRetN : XS := fun _ => ret (.rt .none)
def sExpr (e : XE) : XS := fun E => bnd (e E) fun _ => ret (.nx E)
def sBreak : XS := fun E => ret (.bk E)
def sCont : XS := fun E => ret (.ct E)
/-- raise C(f = e) -/
def sRaise (cls : Str) (fs : List Str) (a : XA) : XS := fun E => bnd (a E) fun xs => thr ⟨cls, fs.zip xs⟩
/-- a def: so many parameters, so many slots, its body -/
def endOf : Out → W D
  | .rt d => ret d
  | .nx _ => ret .none
  | _ => stuck
def start (n : Nat) (E : Env) : Env := E ++ List.replicate (n - E.length) .unk
def fn (k n : Nat) (s : XS) : Fn := fun ds => grd (ds.length = k) (bnd (s (start n (ds.map .val))) endOf)
/-- .. whose first parameter is the stream -/
def fnS (k n : Nat) (s : XS) : Fn := fun ds => grd (ds.length + 1 = k) (bnd (s (start n (.stm :: ds.map .val))) endOf)
end DL
end
section
namespace DL
open PySem PySem.Spec PyProof.Rows L2
/-- the fields' names -/
inductive Fl where
  | limit | place | value | error | index
def Fl.s : Fl → Str
  | .limit => "limit"
  | .place => "place"
  | .value => "value"
  | .error => "error"
  | .index => "index"
def Fl.all : List Fl := [.limit, .place, .value, .error, .index]
theorem Fl.mem : ∀ f : Fl, f ∈ Fl.all := fun f => by cases f <;> simp [Fl.all]
def wrapN : List Str := ["NoStretch", "NoRows", "TooMany", "TooNarrow", "NoBreaking", "NoCount", "Contradictory", "BadLength", "LastWord", "BadRow", "BadTimes", "TooLong", "TooManyEdits", "NothingToUndo", "BadEdits", "BadEdit", "Rejected", "Busy", "BadText"]
def lookN : List Str := ["NoPlace", "NoLine", "NoWidth", "NoVersion"]
def isBlt (m : Str) : Bool := m == "ValueError" || m == "LookupError"
/-- is an error of the class n one of the class m -/
def subC (n m : Str) : Bool := n == m || ((m == "WrapError" || m == "ValueError") && wrapN.contains n) || (m == "LookupError" && lookN.contains n)
def allN : List Str := "WrapError" :: "ValueError" :: "LookupError" :: (wrapN ++ lookN)
/-- a class's name as a value -/
def clsV (K : PySem.W.Frag) (m : Str) : Value := if m == "ValueError" then .type "ValueError" else if m == "LookupError" then .type "LookupError" else .ref (He.ga K m)
/-- the module has it -/
def here (K : PySem.W.Frag) (m : Str) : Bool := isBlt m || (He.Fa.glo m).ok K
/-- what the written part says of a class of errors -/
structure ErrC (K : PySem.W.Frag) (n : Str) : Prop where
  cl : (PySem.W.clsIn K (He.ga K n)).isSome = true
  ga : PySem.W.findIn K (.ref (He.ga K n)) "__getattribute__" = some (some (.builtin "BaseException.__getattribute__"))
  gg : PySem.W.findIn K (.ref (He.ga K n)) "__getattr__" = some none
  kC : PySem.W.keepIn K (.ref (He.ga K n)) = true
  exC : PySem.W.subIn K (.ref (He.ga K n)) (.type "BaseException") = some true
  tyC : PySem.W.typeIn K (.ref (He.ga K n)) = some (.type "type")
  hdC : PySem.W.hasDictIn K (He.ga K n) = true
  ha : PySem.W.findIn K (.ref (He.ga K n)) "__class__" = some (some (.builtin "object.__class__"))
  hn : PySem.W.specialIn K (.builtin "object.__class__") "__get__" = some (some (.builtin "getset_descriptor.__get__"))
  ht : PySem.W.takesIn K (.builtin "object.__class__") = some true
  hm : PySem.W.mroIn K (He.ga K n) (.type "object") = some true
  nof : ∀ f : Fl, PySem.W.findIn K (.ref (He.ga K n)) f.s = some none
  kn : ∀ m ∈ allN, here K m = true → PySem.W.exmOne K (.ref (He.ga K n)) (clsV K m) = some (subC n m) ∧ PySem.W.kitOne K (.ref (He.ga K n)) (clsV K m) = some (subC n m)
/-- the built-in class below -/
inductive Bs where
  | ve | le
def Bs.nm : Bs → String
  | .ve => "ValueError"
  | .le => "LookupError"
def Bs.new : Bs → String
  | .ve => "ValueError.__new__"
  | .le => "LookupError.__new__"
end DL
end
section
namespace DL
open PySem PySem.Spec PyProof.Rows L2
/-- the exception's object at a -/
def xob (a : Addr) (o : Obj) : HO := .ext fun h => h.get? a = some o
/-- what is known of it -/
structure XOb (K : PySem.W.Frag) (o : Obj) (n : Str) (d : Option Addr) : Prop where
  cls : o.cls = .ref (He.ga K n)
  dict : o.dict = d
  data : ∃ vs, o.data = .fields vs
  er : ErrC K n
mutual
/-- the value is that data; B: places that may change, no list of the data stands there -/
inductive Rep (K : PySem.W.Frag) (B : Addr → Prop) (H : Hp) : V → PyData → Prop
  | non : Rep K B H .non .none
  | bl (b : Bool) : Rep K B H (.bl b) (.bool b)
  | int (i : Int) : Rep K B H (.int i) (.int i)
  | str (x : Str) : Rep K B H (.str x) (.str x)
  | lst {a : Addr} {xs : List V} {ds : List PyData} : H a = some (.lst xs) → ¬ B a → Reps K B H xs ds → Rep K B H (.ref a) (.list ds)
  | tup {a : Addr} {xs : List V} {ds : List PyData} : SqT K H a xs → Reps K B H xs ds → Rep K B H (.ref a) (.tuple ds)
  | dct0 {a : Addr} : H a = some (.dK []) → ¬ B a → Rep K B H (.ref a) (.dict [])
  | dct1 {a : Addr} {x : Str} {v : V} {d : PyData} : H a = some (.dK [(.inr x, v)]) → ¬ B a → Rep K B H v d → Rep K B H (.ref a) (.dict [(.str x, d)])
  | exn0 {a : Addr} {o : Obj} {n : Str} : H a = some (xob a o) → ¬ B a → XOb K o n none → Rep K B H (.ref a) (xD n [])
  | exn1 {a dd : Addr} {o : Obj} {n f : Str} {v : V} {d : PyData} : H a = some (xob a o) → ¬ B a → XOb K o n (some dd) → H dd = some (.xd [(f, v)]) → ¬ B dd → Rep K B H v d → Rep K B H (.ref a) (xD n [(f, d)])
  | rf (a : Addr) : Rep K B H (.ref a) (rD a)
  | wr {a dx : Addr} {v : V} {d : PyData} : H a = some (.ins (He.ga K "WordRow") dx [("held", v)]) → ¬ B a → Rep K B H v d → Rep K B H (.ref a) (wD d)
inductive Reps (K : PySem.W.Frag) (B : Addr → Prop) (H : Hp) : List V → List PyData → Prop
  | nil : Reps K B H [] []
  | cons {v : V} {vs : List V} {d : PyData} {ds : List PyData} : Rep K B H v d → Reps K B H vs ds → Reps K B H (v :: vs) (d :: ds)
end
/-- what is kept for good: tuples, locked things -/
def Imm : HO → Prop
  | .tup _ => True
  | .frz _ _ => True
  | _ => False
/-- all is kept but what stands at places of B -/
structure Ext (B : Addr → Prop) (H H' : Hp) : Prop where
  keep : ∀ a o, H a = some o → ¬ B a → H' a = some o
  imm : ∀ a o, H a = some o → Imm o → H' a = some o
  dom : ∀ a, H a ≠ none → H' a ≠ none
abbrev All (H H' : Hp) : Prop := ∀ a o, H a = some o → H' a = some o
section
variable {K : PySem.W.Frag} {B B' B'' : Addr → Prop} {H H' H'' : Hp}
theorem All.ext (h : All H H') : Ext B H H' := ⟨fun a o e _ => h a o e, fun a o e _ => h a o e, fun a n => by
  cases e : H a with
  | none => exact absurd e n
  | some o => rw [h a o e]; exact fun z => nomatch z⟩
theorem All.refl : All H H := fun _ _ e => e
theorem All.trans (h : All H H') (h' : All H' H'') : All H H'' := fun a o e => h' a o (h a o e)
theorem All.new {p : Addr} {o : HO} (h : H p = none) : All H (upd H p o) := fun a u e => by
  rw [upd_ne (ne_of_none e h)]; exact e
theorem Ext.refl : Ext B H H := All.refl.ext
theorem Ext.trans (h : Ext B H H') (h' : Ext B H' H'') : Ext B H H'' :=
  ⟨fun a o e n => h'.keep a o (h.keep a o e n) n, fun a o e i => h'.imm a o (h.imm a o e i) i, fun a n => h'.dom a (h.dom a n)⟩
theorem Ext.more (h : Ext B H H') (s : ∀ a, B a → B' a) : Ext B' H H' :=
  ⟨fun a o e n => h.keep a o e fun z => n (s a z), h.imm, h.dom⟩
theorem some_ne {a : Addr} {o : HO} (e : H a = some o) : H a ≠ none := by rw [e]; exact fun z => nomatch z
theorem Ext.sqT (h : Ext B H H') {a : Addr} {xs : List V} (q : SqT K H a xs) : SqT K H' a xs := by
  rcases q with (q | ⟨o, q⟩) | q
  · exact .inl (.inl (h.imm a _ q True.intro))
  · exact .inl (.inr ⟨o, h.imm a _ q True.intro⟩)
  · exact .inr q
mutual
theorem Rep.mono (h : Ext B H H') : ∀ {v : V} {d : PyData}, Rep K B H v d → Rep K B H' v d
  | _, _, .non => .non
  | _, _, .bl b => .bl b
  | _, _, .int i => .int i
  | _, _, .str x => .str x
  | _, _, .lst e n r => .lst (h.keep _ _ e n) n (Reps.mono h r)
  | _, _, .tup e r => .tup (h.sqT e) (Reps.mono h r)
  | _, _, .dct0 e n => .dct0 (h.keep _ _ e n) n
  | _, _, .dct1 e n r => .dct1 (h.keep _ _ e n) n (Rep.mono h r)
  | _, _, .exn0 e n x => .exn0 (h.keep _ _ e n) n x
  | _, _, .exn1 e n x e2 n2 r => .exn1 (h.keep _ _ e n) n x (h.keep _ _ e2 n2) n2 (Rep.mono h r)
  | _, _, .rf a => .rf a
  | _, _, .wr e n r => .wr (h.keep _ _ e n) n (Rep.mono h r)
theorem Reps.mono (h : Ext B H H') : ∀ {vs : List V} {ds : List PyData}, Reps K B H vs ds → Reps K B H' vs ds
  | _, _, .nil => .nil
  | _, _, .cons r t => .cons (Rep.mono h r) (Reps.mono h t)
end
mutual
/-- other places: none of the data's lists stands at one -/
theorem Rep.grow (h : ∀ a, B' a → H a ≠ none → B a) : ∀ {v : V} {d : PyData}, Rep K B H v d → Rep K B' H v d
  | _, _, .non => .non
  | _, _, .bl b => .bl b
  | _, _, .int i => .int i
  | _, _, .str x => .str x
  | _, _, .lst e n r => .lst e (fun z => n (h _ z (some_ne e))) (Reps.grow h r)
  | _, _, .tup e r => .tup e (Reps.grow h r)
  | _, _, .dct0 e n => .dct0 e (fun z => n (h _ z (some_ne e)))
  | _, _, .dct1 e n r => .dct1 e (fun z => n (h _ z (some_ne e))) (Rep.grow h r)
  | _, _, .exn0 e n x => .exn0 e (fun z => n (h _ z (some_ne e))) x
  | _, _, .exn1 e n x e2 n2 r => .exn1 e (fun z => n (h _ z (some_ne e))) x e2 (fun z => n2 (h _ z (some_ne e2))) (Rep.grow h r)
  | _, _, .rf a => .rf a
  | _, _, .wr e n r => .wr e (fun z => n (h _ z (some_ne e))) (Rep.grow h r)
theorem Reps.grow (h : ∀ a, B' a → H a ≠ none → B a) : ∀ {vs : List V} {ds : List PyData}, Reps K B H vs ds → Reps K B' H vs ds
  | _, _, .nil => .nil
  | _, _, .cons r t => .cons (Rep.grow h r) (Reps.grow h t)
end
theorem Rep.less (h : ∀ a, B' a → B a) {v : V} {d : PyData} (r : Rep K B H v d) : Rep K B' H v d := r.grow fun a z _ => h a z
theorem Reps.less (h : ∀ a, B' a → B a) {vs : List V} {ds : List PyData} (r : Reps K B H vs ds) : Reps K B' H vs ds := r.grow fun a z _ => h a z
mutual
theorem Rep.flat : ∀ {v : V} {d : PyData}, DL.flat d = true → Rep K B H v d → Rep K B' H v d
  | _, _, _, .non => .non
  | _, _, _, .bl b => .bl b
  | _, _, _, .int i => .int i
  | _, _, _, .str x => .str x
  | _, _, h, .lst _ _ _ => by simp [DL.flat] at h
  | _, _, h, .tup e r => .tup e (Reps.flat (by simpa [DL.flat] using h) r)
  | _, _, h, .dct0 _ _ => by simp [DL.flat] at h
  | _, _, h, .dct1 _ _ _ => by simp [DL.flat] at h
  | _, _, h, .exn0 _ _ _ => by simp [DL.flat, xD] at h
  | _, _, h, .exn1 _ _ _ _ _ _ => by simp [DL.flat, xD] at h
  | _, _, _, .rf a => .rf a
  | _, _, h, .wr _ _ _ => by simp [DL.flat, wD] at h
theorem Reps.flat : ∀ {vs : List V} {ds : List PyData}, DL.flatAll ds = true → Reps K B H vs ds → Reps K B' H vs ds
  | _, _, _, .nil => .nil
  | _, _, h, .cons r t => by
    simp only [DL.flatAll, Bool.and_eq_true] at h
    exact .cons (Rep.flat h.1 r) (Reps.flat h.2 t)
end
mutual
theorem Rep.dp : ∀ {v : V} {d : PyData}, PyData.canLay0 d = true → Rep K B H v d → Dp K H v d
  | _, _, _, .non => .non
  | _, _, _, .bl b => .bl b
  | _, _, _, .int i => .int i
  | _, _, _, .str x => .str x
  | _, _, h, .lst e _ r => .lst (SqL.of e) (Reps.dp (by simpa [PyData.canLay0] using h) r)
  | _, _, h, .tup e r => .tup e (Reps.dp (by simpa [PyData.canLay0] using h) r)
  | _, _, h, .dct0 _ _ => by simp [PyData.canLay0] at h
  | _, _, h, .dct1 _ _ _ => by simp [PyData.canLay0] at h
  | _, _, h, .exn0 _ _ _ => by simp [PyData.canLay0, xD] at h
  | _, _, h, .exn1 _ _ _ _ _ _ => by simp [PyData.canLay0, xD] at h
  | _, _, h, .rf _ => by simp [PyData.canLay0, rD] at h
  | _, _, h, .wr _ _ _ => by simp [PyData.canLay0, wD] at h
theorem Reps.dp : ∀ {vs : List V} {ds : List PyData}, PyData.canLayAll0 ds = true → Reps K B H vs ds → DpAll K H vs ds
  | _, _, _, .nil => .nil
  | _, _, h, .cons r t => by
    simp only [PyData.canLayAll0, Bool.and_eq_true] at h
    exact .cons (Rep.dp h.1 r) (Reps.dp h.2 t)
end
theorem Reps.length : ∀ {vs : List V} {ds : List PyData}, Reps K B H vs ds → vs.length = ds.length
  | _, _, .nil => rfl
  | _, _, .cons _ t => by simp [Reps.length t]
theorem Reps.get : ∀ {vs : List V} {ds : List PyData}, Reps K B H vs ds → ∀ {i : Nat} {d : PyData}, ds[i]? = some d → ∃ v, vs[i]? = some v ∧ Rep K B H v d
  | _, _, .nil, i, d, e => by simp at e
  | _, _, .cons r t, 0, d, e => by
    have e' : _ = d := Option.some.inj e
    subst e'
    exact ⟨_, rfl, r⟩
  | _, _, .cons r t, i + 1, d, e => Reps.get t (i := i) e
theorem Reps.append : ∀ {vs ws : List V} {ds es : List PyData}, Reps K B H vs ds → Reps K B H ws es → Reps K B H (vs ++ ws) (ds ++ es)
  | _, _, _, _, .nil, s => s
  | _, _, _, _, .cons r t, s => .cons r (Reps.append t s)
theorem Reps.drop : ∀ (n : Nat) {vs : List V} {ds : List PyData}, Reps K B H vs ds → Reps K B H (vs.drop n) (ds.drop n)
  | 0, _, _, r => r
  | _ + 1, _, _, .nil => .nil
  | n + 1, _, _, .cons _ t => Reps.drop n t
theorem Reps.take : ∀ (n : Nat) {vs : List V} {ds : List PyData}, Reps K B H vs ds → Reps K B H (vs.take n) (ds.take n)
  | 0, _, _, _ => .nil
  | _ + 1, _, _, .nil => .nil
  | n + 1, _, _, .cons r t => .cons r (Reps.take n t)
theorem Reps.set {v : V} {d : PyData} (r : Rep K B H v d) : ∀ (n : Nat) {vs : List V} {ds : List PyData}, Reps K B H vs ds → Reps K B H (vs.set n v) (ds.set n d)
  | _, _, _, .nil => .nil
  | 0, _, _, .cons _ t => .cons r t
  | n + 1, _, _, .cons q t => .cons q (Reps.set r n t)
theorem Reps.rep {vs : List V} {ds : List PyData} (r : Reps K B H vs ds) : ∀ n : Nat, Reps K B H (List.replicate n vs).flatten (List.replicate n ds).flatten
  | 0 => .nil
  | n + 1 => by
    rw [List.replicate_succ, List.replicate_succ, List.flatten_cons, List.flatten_cons]
    exact r.append (Reps.rep r n)
theorem Reps.ints : ∀ {vs : List V} {ds : List PyData} {ns : List Int}, Reps K B H vs ds → ints? ds = some ns → vs = ns.map V.int
  | _, _, ns, .nil, h => by simp [ints?] at h; subst h; rfl
  | _, _, ns, .cons r t, h => by
    have e := ints?_eq h
    cases ns with
    | nil => cases e
    | cons a b =>
      injection e with e1 e2
      subst e1
      cases r with
      | int i =>
        subst e2
        rw [Reps.ints t (ints?_map b)]
        rfl
theorem Reps.of_ints : ∀ (ns : List Int), Reps K B H (ns.map V.int) (ns.map PyData.int)
  | [] => .nil
  | a :: r => .cons (.int a) (Reps.of_ints r)
end
/-- from a state to another: B may change, what is new is new -/
structure Tr (B : Addr → Prop) (H : Hp) (B' : Addr → Prop) (H' : Hp) : Prop where
  ext : Ext B H H'
  old : ∀ a, B' a → H a ≠ none → B a
/-- the body's own: what may change besides (the stream, the cells), its state, the entry's heap and state, the caller's places, what is wanted of errors -/
structure Par where
  B0 : Sx → Addr → Prop
  SI : Sx → Hp → Prop
  S : Addr
  H0 : Hp
  c0 : Sx
  Bc : Addr → Prop
  XP : Exn → Sx → Prop
  EK : L2.St → XK
  /-- within a try's body: where it began -/
  fx : Option (L2.St × Sx × Hp × (Addr → Prop)) := none
  /-- lists that were handed in: where the name at a place stands -/
  pin : Nat → Option Addr := fun _ => none
/-- the places of the frame and those of the state -/
def bm (p : Par) (B : Addr → Prop) (c : Sx) : Addr → Prop := fun a => B a ∨ p.B0 c a
/-- an error behind a call: its class, its fields -/
def ExRep (K : PySem.W.Frag) (mg : Str → Option Value) (B : Addr → Prop) (H : Hp) (x : Exn) (c : Value) (d : Option Addr) : Prop :=
  c = .ref (He.ga K x.cls) ∧ ErrC K x.cls ∧ match x.fs with
    | [] => d = none
    | [(f, y)] => ∃ (dd : Addr) (v : V), d = some dd ∧ H dd = some (.xd [(f, v)]) ∧ ¬ B dd ∧ Rep K B H v y
    | _ => False
/-- what may change: places of the state; new places are new -/
structure EvB (Z : Sx → Addr → Prop) (c : Sx) (H : Hp) (c' : Sx) (H' : Hp) : Prop where
  ext : Ext (Z c) H H'
  up : ∀ a, Z c a → Z c' a
  old : ∀ a, Z c' a → H a ≠ none → Z c a
  dom : (∀ a, Z c a → H a ≠ none) → ∀ a, Z c' a → H' a ≠ none
abbrev Ev (p : Par) (c : Sx) (H : Hp) (c' : Sx) (H' : Hp) : Prop := EvB p.B0 c H c' H'
structure St0 (p : Par) (n : Sx) (B : Addr → Prop) (H : Hp) : Prop where
  subc : ∀ a, p.Bc a → bm p B n a
  trk : ∀ a, bm p B n a → H a ≠ none
  si : p.SI n H
  ext : Ev p p.c0 p.H0 n H
/-- the slots and places are those of the try's start -/
def Fix (p : Par) (n : Sx) (B : Addr → Prop) (H : Hp) (σ : L2.St) : Prop := ∀ f, p.fx = some f → σ = f.1 ∧ Ev p f.2.1 f.2.2.1 n H ∧ B = f.2.2.2
theorem EvB.refl {Z : Sx → Addr → Prop} {c : Sx} {H : Hp} : EvB Z c H c H := ⟨Ext.refl, fun _ h => h, fun _ h _ => h, fun h => h⟩
theorem All.ev {Z : Sx → Addr → Prop} {c : Sx} {H H' : Hp} (h : All H H') : EvB Z c H c H' := ⟨h.ext, fun _ h => h, fun _ h _ => h, fun q a z => (h.ext (B := fun _ => False)).dom a (q a z)⟩
theorem EvB.trans {Z : Sx → Addr → Prop} {c c' c'' : Sx} {H H' H'' : Hp} (a : EvB Z c H c' H') (b : EvB Z c' H' c'' H'') : EvB Z c H c'' H'' where
  ext := ⟨fun x o e n => b.ext.keep x o (a.ext.keep x o e n) fun z => n (a.old x z (some_ne e)), fun x o e i => b.ext.imm x o (a.ext.imm x o e i) i, fun x n => b.ext.dom x (a.ext.dom x n)⟩
  up := fun x h => b.up x (a.up x h)
  old := fun x z n => a.old x (b.old x z (a.ext.dom x n)) n
  dom := fun q => b.dom (a.dom q)
theorem Ev.refl {p : Par} {c : Sx} {H : Hp} : Ev p c H c H := EvB.refl
theorem Ev.trans {p : Par} {c c' c'' : Sx} {H H' H'' : Hp} (a : Ev p c H c' H') (b : Ev p c' H' c'' H'') : Ev p c H c'' H'' := EvB.trans a b
theorem Fix.no {p : Par} {n : Sx} {B : Addr → Prop} {H : Hp} {σ : L2.St} (h : p.fx = none) : Fix p n B H σ := fun f e => by rw [h] at e; cases e
theorem Fix.go {p : Par} {n n' : Sx} {B : Addr → Prop} {H H' : Hp} {σ : L2.St} (h : Fix p n B H σ) (e : Ev p n H n' H') : Fix p n' B H' σ := fun f q => let ⟨a, b, c⟩ := h f q; ⟨a, b.trans e, c⟩
structure Par.Ok (K : PySem.W.Frag) (mg : Str → Option Value) (p : Par) : Prop where
  stab : ∀ n H H', p.SI n H → (∀ a o, p.B0 n a → H a = some o → H' a = some o) → (∀ a o, H a = some o → Imm o → H' a = some o) → p.SI n H'
  exc : ∀ n n' x c d B H H' σ, St0 p n B H → Fix p n B H σ → p.XP x n' → p.SI n' H' → Ev p n H n' H' → ExRep K mg (bm p B n') H' x c d → p.EK σ c d H'
inductive Slot (K : PySem.W.Frag) (p : Par) (n : Sx) (B : Addr → Prop) (H : Hp) : Option V → Ent → Prop
  | unk (s : Option V) : Slot K p n B H s .unk
  | val {v : V} {d : D} : Rep K (bm p B n) H v d → Slot K p n B H (some v) (.val d)
  | own {a : Addr} {xs : List V} {ds : List D} : B a → ¬ p.B0 n a → ¬ p.Bc a → p.H0 a = none → H a = some (.lst xs) → Reps K (bm p B n) H xs ds → Slot K p n B H (some (.ref a)) (.own ds)
  | stm : Slot K p n B H (some (.ref p.S)) .stm
  | scr {a : Addr} {ns : List Int} : (∀ H' : Hp, (∀ o, H a = some o → Imm o → H' a = some o) → SqL K H' a (ns.map V.int)) → Slot K p n B H (some (.ref a)) (.scr ns)
structure EnvR (K : PySem.W.Frag) (p : Par) (n : Sx) (B : Addr → Prop) (H : Hp) (σ : L2.St) (E : Env) : Prop where
  len : σ.length = E.length
  at_ : ∀ (i : Nat) (e : Ent), E[i]? = some e → ∃ s, σ[i]? = some s ∧ Slot K p n B H s e
  nd : ∀ (i j : Nat) (a : Addr) (xs ys : List D), E[i]? = some (.own xs) → E[j]? = some (.own ys) → σ[i]? = some (some (.ref a)) → σ[j]? = some (some (.ref a)) → i = j
  fx : Fix p n B H σ
  pn : ∀ (i : Nat) (a : Addr) (xs : List D), p.pin i = some a → E[i]? = some (.own xs) → σ[i]? = some (some (.ref a))
theorem Tr.refl {B : Addr → Prop} {H : Hp} : Tr B H B H := ⟨Ext.refl, fun _ b _ => b⟩
theorem Tr.trans {B B' B'' : Addr → Prop} {H H' H'' : Hp} (a : Tr B H B' H') (b : Tr B' H' B'' H'') : Tr B H B'' H'' where
  ext := ⟨fun x o e n => b.ext.keep x o (a.ext.keep x o e n) fun z => n (a.old x z (some_ne e)), fun x o e i => b.ext.imm x o (a.ext.imm x o e i) i, fun x n => b.ext.dom x (a.ext.dom x n)⟩
  old := fun x z n => a.old x (b.old x z (a.ext.dom x n)) n
theorem Tr.of {B : Addr → Prop} {H H' : Hp} (e : Ext B H H') : Tr B H B H' := ⟨e, fun _ b _ => b⟩
section
variable {K : PySem.W.Frag} {mg : Str → Option Value} {p : Par} {B B' B'' : Addr → Prop} {H H' H'' : Hp} {σ : L2.St} {E : Env} {n n' : Sx}
mutual
/-- data that was known stays known -/
theorem Rep.tr (t : Tr B H B' H') : ∀ {v : V} {d : PyData}, Rep K B H v d → Rep K B' H' v d
  | _, _, .non => .non
  | _, _, .bl b => .bl b
  | _, _, .int i => .int i
  | _, _, .str x => .str x
  | _, _, .lst e n r => .lst (t.ext.keep _ _ e n) (fun z => n (t.old _ z (some_ne e))) (Reps.tr t r)
  | _, _, .tup e r => .tup (t.ext.sqT e) (Reps.tr t r)
  | _, _, .dct0 e n => .dct0 (t.ext.keep _ _ e n) (fun z => n (t.old _ z (some_ne e)))
  | _, _, .dct1 e n r => .dct1 (t.ext.keep _ _ e n) (fun z => n (t.old _ z (some_ne e))) (Rep.tr t r)
  | _, _, .exn0 e n x => .exn0 (t.ext.keep _ _ e n) (fun z => n (t.old _ z (some_ne e))) x
  | _, _, .exn1 e n x e2 n2 r => .exn1 (t.ext.keep _ _ e n) (fun z => n (t.old _ z (some_ne e))) x (t.ext.keep _ _ e2 n2) (fun z => n2 (t.old _ z (some_ne e2))) (Rep.tr t r)
  | _, _, .rf a => .rf a
  | _, _, .wr e n r => .wr (t.ext.keep _ _ e n) (fun z => n (t.old _ z (some_ne e))) (Rep.tr t r)
theorem Reps.tr (t : Tr B H B' H') : ∀ {vs : List V} {ds : List PyData}, Reps K B H vs ds → Reps K B' H' vs ds
  | _, _, .nil => .nil
  | _, _, .cons r u => .cons (Rep.tr t r) (Reps.tr t u)
end
section
variable {K : PySem.W.Frag} {mg : Str → Option Value} {p : Par} {B B' B'' : Addr → Prop} {H H' H'' : Hp} {σ : L2.St} {E : Env} {n n' : Sx}
theorem bm_more (h : ∀ a, p.B0 n a → p.B0 n' a) : ∀ a, bm p B n a → bm p B n' a := fun a z => z.imp id (h a)
/-- an expression, as a step -/
theorem EvB.tr (e : EvB p.B0 n H n' H') : Tr (bm p B n) H (bm p B n') H' :=
  ⟨e.ext.more fun _ z => .inr z, fun a z h => z.elim .inl fun z => .inr (e.old a z h)⟩
theorem St0.up (_ : St0 p n B H) (e : Ev p n H n' H') : Tr (bm p B n) H (bm p B n') H' := e.tr
theorem St0.go (s : St0 p n B H) (e : Ev p n H n' H') (si : p.SI n' H') : St0 p n' B H' :=
  ⟨fun a z => bm_more e.up a (s.subc a z), fun a b => b.elim (fun z => e.ext.dom a (s.trk a (.inl z))) fun z => e.dom (fun x y => s.trk x (.inr y)) a z, si, s.ext.trans e⟩
theorem St0.all (ok : p.Ok K mg) (s : St0 p n B H) (e : All H H') : p.SI n H' := ok.stab n H H' s.si (fun a o _ q => e a o q) fun a o q _ => e a o q
/-- the caller's places and the state's are known -/
theorem St0.bc (s : St0 p n B H) : ∀ a, bm p p.Bc n a → bm p B n a := fun a z => z.elim (s.subc a) .inr
theorem Slot.go (e : Ev p n H n' H') {x : Option V} {y : Ent} (h : Slot K p n B H x y) : Slot K p n' B H' x y := by
  cases h with
  | unk _ => exact .unk _
  | val r => exact .val (r.tr e.tr)
  | own b nb nc h0 hl r => exact .own b (fun z => nb (e.old _ z (some_ne hl))) nc h0 (e.ext.keep _ _ hl nb) (r.tr e.tr)
  | stm => exact .stm
  | scr q => exact .scr fun H2 hk => q H2 fun o ho hi => hk o (e.ext.imm _ o ho hi) hi
theorem EnvR.go (r : EnvR K p n B H σ E) (_ : St0 p n B H) (e : Ev p n H n' H') : EnvR K p n' B H' σ E :=
  ⟨r.len, fun i x q => let ⟨s', h1, h2⟩ := r.at_ i x q; ⟨s', h1, h2.go e⟩, r.nd, r.fx.go e, r.pn⟩
end
end
end DL
end
section
namespace DL
open PySem PySem.Spec PyProof.Rows L2
theorem dict_declines (l b : Addr) (o : Obj) (items2 : Array Value) (n2 : Nat) (dd2 : Option Addr) (sl2 : Array (Option Value)) :
    Meets (Builtin.«dict.__eq__» ⟨[.ref l, .ref b], []⟩) (fun _ R s => s.heap.get? l = some o ∧ o.cls = .type "dict" ∧ s.heap.get? b = some { cls := .type "tuple", dict := dd2, data := .seq items2 n2, slots := sl2 } ∧ R (.ok (.ret .notImplemented)) s) :=
  .of_wp fun prog w A R s h => by
    obtain ⟨hl, hc, hb, h⟩ := h
    have t1 : s.TypeIs (.ref l) "dict" := ⟨_, hl, hc⟩
    have t2 : s.TypeIs (.ref b) "tuple" := ⟨_, hb, rfl⟩
    show wpAny _ _ (Builtin.Dict.dictSlotArgs "__eq__" ⟨[.ref l, .ref b], []⟩ >>= _) _ _ s
    refine wpAny_bind ?_
    unfold Builtin.Dict.dictSlotArgs
    refine wpAny_bind (PySem.wpAny_notOrdered_dict t1 ?_)
    show wpAny _ _ (pure (Value.ref l, Value.ref b)) _ _ s
    refine wpAny_pure ?_
    refine wpAny_bind (wpAny_isInstance (T := "tuple") (U := "dict") (b := false) t2 PySem.F.sub_tuple_dict ?_)
    simp only [Bool.not_false, if_true]
    exact wpAny_bind (wpAny_rule (wpAny_pure ⟨_, rfl, h⟩))
theorem tuple_declines (l b : Addr) (o : Obj) (items : Array Value) (n : Nat) (dd : Option Addr) (sl : Array (Option Value)) :
    Meets (Builtin.«tuple.__eq__» ⟨[.ref l, .ref b], []⟩) (fun _ R s => s.heap.get? l = some { cls := .type "tuple", dict := dd, data := .seq items n, slots := sl } ∧ s.heap.get? b = some o ∧ o.cls = .type "dict" ∧ R (.ok (.ret .notImplemented)) s) :=
  .of_wp fun prog w A R s h => by
    obtain ⟨hp, g, d, tk, os⟩ := s
    obtain ⟨hl, hb, hc, h⟩ := h
    obtain ⟨oc, od, oda, os2⟩ := o
    simp only at hc
    subst hc
    have f1 := PySem.F.sub_dict_tuple
    wp_walk using wpAny_loadPart' hl, wpAny_loadPart' hb
    exact ⟨_, rfl, h⟩
section
variable {A : Around} {s : Shared}
theorem rc_dict_tuple {l b : Addr} {o : Obj} {items2 : Array Value} (hl : s.heap.get? l = some o) (hc : o.cls = .type "dict") (hb : s.heap.IsTuple b items2) (hu : A.units < cLine) : SeqAt.RcAt A s (.ref l) (.ref b) false := fun prog w E Q h => by
  obtain ⟨⟨cls2, dd2, data2, sl2⟩, ho2, hc2, n2, hd2⟩ := id hb
  simp only at hc2 hd2
  subst hc2 hd2
  have hne : l ≠ b := fun z => by
    subst z
    rw [hl] at ho2
    cases ho2
    exact absurd hc (by simp)
  exact (PySem.SeqAt.rc_eq_decline_or (k := false) ⟨_, hl, hc⟩ ⟨_, ho2, rfl⟩ (by decide) PySem.F.sub_tuple_dict PySem.F.slot_dict_eq PySem.F.slot_tuple_eq_refl
    (fun _ hq => call_meets PySem.F.slot_dict_eq ⟨_, hl, hc⟩ PySem.F.entry_dict_eq (PySem.F.args_dict_eq_2 _ _) (dict_declines l b o items2 n2 dd2 sl2) ⟨hl, hc, ho2, hq⟩)
    (fun _ hq => call_meets PySem.F.slot_tuple_eq_refl ⟨_, ho2, rfl⟩ PySem.F.entry_tuple_eq (PySem.F.args_tuple_eq_2 _ _) (tuple_declines b l o items2 n2 dd2 sl2) ⟨ho2, hl, hc, hq⟩)
    (fun _ hq => wpAny_isSame_ref_other hne hl ho2 (by rw [hc]; simp) hq) (.inr hu) h)
end
theorem dict_declines_ne (l b : Addr) (o : Obj) (items2 : Array Value) (n2 : Nat) (dd2 : Option Addr) (sl2 : Array (Option Value)) :
    Meets (Builtin.«dict.__ne__» ⟨[.ref l, .ref b], []⟩) (fun _ R s => s.heap.get? l = some o ∧ o.cls = .type "dict" ∧ s.heap.get? b = some { cls := .type "tuple", dict := dd2, data := .seq items2 n2, slots := sl2 } ∧ R (.ok (.ret .notImplemented)) s) :=
  .of_wp fun prog w A R s h => by
    obtain ⟨hl, hc, hb, h⟩ := h
    have t1 : s.TypeIs (.ref l) "dict" := ⟨_, hl, hc⟩
    have t2 : s.TypeIs (.ref b) "tuple" := ⟨_, hb, rfl⟩
    show wpAny _ _ (Builtin.Dict.dictSlotArgs "__ne__" ⟨[.ref l, .ref b], []⟩ >>= _) _ _ s
    refine wpAny_bind ?_
    unfold Builtin.Dict.dictSlotArgs
    refine wpAny_bind (PySem.wpAny_notOrdered_dict t1 ?_)
    show wpAny _ _ (pure (Value.ref l, Value.ref b)) _ _ s
    refine wpAny_pure ?_
    refine wpAny_bind (wpAny_isInstance (T := "tuple") (U := "dict") (b := false) t2 PySem.F.sub_tuple_dict ?_)
    simp only [Bool.not_false, if_true]
    exact wpAny_bind (wpAny_rule (wpAny_pure ⟨_, rfl, h⟩))
theorem tuple_declines_ne (l b : Addr) (o : Obj) (items : Array Value) (n : Nat) (dd : Option Addr) (sl : Array (Option Value)) :
    Meets (Builtin.«tuple.__ne__» ⟨[.ref l, .ref b], []⟩) (fun _ R s => s.heap.get? l = some { cls := .type "tuple", dict := dd, data := .seq items n, slots := sl } ∧ s.heap.get? b = some o ∧ o.cls = .type "dict" ∧ R (.ok (.ret .notImplemented)) s) :=
  .of_wp fun prog w A R s h => by
    obtain ⟨hp, g, d, tk, os⟩ := s
    obtain ⟨hl, hb, hc, h⟩ := h
    obtain ⟨oc, od, oda, os2⟩ := o
    simp only at hc
    subst hc
    have f1 := PySem.F.sub_dict_tuple
    wp_walk using wpAny_loadPart' hl, wpAny_loadPart' hb
    exact ⟨_, rfl, h⟩
section
variable {A : Around} {s : Shared}
theorem rc_dict_tuple_ne {l b : Addr} {o : Obj} {items2 : Array Value} (hl : s.heap.get? l = some o) (hc : o.cls = .type "dict") (hb : s.heap.IsTuple b items2) (hu : A.units < cLine) : SeqAt.RcNeAt A s (.ref l) (.ref b) true := fun prog w E Q h => by
  obtain ⟨⟨cls2, dd2, data2, sl2⟩, ho2, hc2, n2, hd2⟩ := id hb
  simp only at hc2 hd2
  subst hc2 hd2
  have hne : l ≠ b := fun z => by
    subst z
    rw [hl] at ho2
    cases ho2
    exact absurd hc (by simp)
  exact (PySem.SeqAt.rc_ne_decline_or (k := false) ⟨_, hl, hc⟩ ⟨_, ho2, rfl⟩ (by decide) PySem.F.sub_tuple_dict PySem.F.slot_dict_ne PySem.F.slot_tuple_ne_refl
    (fun _ hq => call_meets PySem.F.slot_dict_ne ⟨_, hl, hc⟩ PySem.F.entry_dict_ne (PySem.F.args_dict_ne_2 _ _) (dict_declines_ne l b o items2 n2 dd2 sl2) ⟨hl, hc, ho2, hq⟩)
    (fun _ hq => call_meets PySem.F.slot_tuple_ne_refl ⟨_, ho2, rfl⟩ PySem.F.entry_tuple_ne (PySem.F.args_tuple_ne_2 _ _) (tuple_declines_ne b l o items2 n2 dd2 sl2) ⟨ho2, hl, hc, hq⟩)
    (fun _ hq => wpAny_isSame_ref_other hne hl ho2 (by rw [hc]; simp) hq) (.inr hu) h)
end
end DL
end
section
namespace DL
open PySem PySem.Spec PyProof.Rows L2
theorem tuple_once (l : Addr) (items : Array Value) (n : Nat) (dd : Option Addr) (sl : Array (Option Value)) (u : Tok) :
    Meets (Builtin.«tuple.__mul__» ⟨[.ref l, .int 1 u], []⟩) (fun _ R s => s.heap.get? l = some { cls := .type "tuple", dict := dd, data := .seq items n, slots := sl } ∧
      R (.ok (.ret (Value.ref l))) s) :=
  .of_wp fun prog w A R s h => by
    obtain ⟨hp, g, d, tk, os⟩ := s
    obtain ⟨hl, h⟩ := h
    have f1 := AutoSeq1.idx_int
    have c1 : (items.isEmpty || (1 : Int) == 1) = true := by simp
    wp_walk using wpAny_loadPart' hl
    repeat (first
      | (refine wpAny_ite_true (decide_eq_true c1) ?_; wp_walk using wpAny_loadPart' hl)
      | (refine wpAny_ite_true c1 ?_; wp_walk using wpAny_loadPart' hl))
    exact ⟨_, rfl, h⟩
section
variable {X : Cx}
theorem op_once {pins : List (Addr × Obj)} {s : Shared} {σ : L2.St} {H : Hp} {v u : Value} {Q : VK} {l : Addr} {xs : List V} (I : Inv X pins σ H s) (rx : RelV (.ref l) v) (ry : RelV (.int 1) u) (hT : SqT X.K H l xs) (q : Q (.ref l) H) : wpAny (model X.prog X.w) X.A (binaryOp .Mult v u) (EP X pins σ Q) X.xe s := by
  cases rx
  obtain ⟨t, rfl⟩ := ry
  obtain ⟨its, r, ⟨⟨cls, dd, data, sl⟩, ho, hc, n, hd⟩, hs⟩ := I.tuple hT
  simp only at hc hd
  subst hc hd
  refine wpAny_binaryOp_repeat_ref (T := "tuple") (U := "int") (by decide) ⟨_, ho, rfl⟩ (fun s' => typeIs_int s' 1 t) noFill_tuple_mul PySem.F.fills_int_mul PySem.F.slot_int_rmul repeat_tuple PySem.F.slot_int_index.lookup
    (call_meets PySem.F.slot_int_rmul (typeIs_int s 1 t) PySem.F.entry_int_rmul (PySem.F.args_int_rmul_2 _ _) (int_rmul_tuple 1 t l its.toArray n dd sl)
      ⟨ho, rfl, ⟨_, ho, rfl⟩, call_meets PySem.F.slot_tuple_mul ⟨_, ho, rfl⟩ PySem.F.entry_tuple_mul (PySem.F.args_tuple_mul_2 _ _) (tuple_once l its.toArray n dd sl t) ⟨ho, ?_⟩⟩)
  exact ⟨.ref l, H, I, rfl, q⟩
end
theorem rep_once (ds : List PyData) : rep 1 ds = ds := by
  simp [rep]
end DL
end
section
namespace DL
open PySem PySem.Spec PyProof.Rows L2
theorem tuple_never (l : Addr) (items : Array Value) (n : Nat) (dd : Option Addr) (sl : Array (Option Value)) (u : Tok) (c1 : items.isEmpty = false) :
    Meets (Builtin.«tuple.__mul__» ⟨[.ref l, .int 0 u], []⟩) (fun _ R s => s.heap.get? l = some { cls := .type "tuple", dict := dd, data := .seq items n, slots := sl } ∧
      R (.ok (.ret (Value.ref s.heap.objs.size))) { s with heap := s.heap.push { cls := Value.type "tuple", data := Data.seq #[] }, toks := s.toks }) :=
  .of_wp fun prog w A R s h => by
    obtain ⟨hp, g, d, tk, os⟩ := s
    obtain ⟨hl, h⟩ := h
    have f1 := AutoSeq1.idx_int
    have c2 : (items.isEmpty || (0 : Int) == 1) = false := by rw [c1]; rfl
    wp_walk using wpAny_loadPart' hl
    repeat (first
      | (refine wpAny_ite_false (decide_eq_false (by rw [c2]; exact Bool.false_ne_true)) ?_; wp_walk using wpAny_loadPart' hl)
      | (refine wpAny_ite_false (by rw [c2]; exact Bool.false_ne_true) ?_; wp_walk using wpAny_loadPart' hl))
    exact ⟨_, rfl, h⟩
section
variable {X : Cx}
theorem op_never {pins : List (Addr × Obj)} {s : Shared} {σ : L2.St} {H : Hp} {v u : Value} {Q : VK} {l : Addr} {xs : List V} (I : Inv X pins σ H s) (rx : RelV (.ref l) v) (ry : RelV (.int 0) u) (hT : SqT X.K H l xs) (hne : xs ≠ []) (q : ∀ p, H p = none → Q (.ref p) (upd H p (.tup []))) : wpAny (model X.prog X.w) X.A (binaryOp .Mult v u) (EP X pins σ Q) X.xe s := by
  cases rx
  obtain ⟨t, rfl⟩ := ry
  obtain ⟨its, r, ⟨⟨cls, dd, data, sl⟩, ho, hc, n, hd⟩, hs⟩ := I.tuple hT
  simp only at hc hd
  subst hc hd
  have hi : its.toArray.isEmpty = false := by
    cases its with
    | nil => exact absurd (List.eq_nil_of_length_eq_zero r.length) hne
    | cons a b => rfl
  refine wpAny_binaryOp_repeat_ref (T := "tuple") (U := "int") (by decide) ⟨_, ho, rfl⟩ (fun s' => typeIs_int s' 0 t) noFill_tuple_mul PySem.F.fills_int_mul PySem.F.slot_int_rmul repeat_tuple PySem.F.slot_int_index.lookup
    (call_meets PySem.F.slot_int_rmul (typeIs_int s 0 t) PySem.F.entry_int_rmul (PySem.F.args_int_rmul_2 _ _) (int_rmul_tuple 0 t l its.toArray n dd sl)
      ⟨ho, rfl, ⟨_, ho, rfl⟩, call_meets PySem.F.slot_tuple_mul ⟨_, ho, rfl⟩ PySem.F.entry_tuple_mul (PySem.F.args_tuple_mul_2 _ _) (tuple_never l its.toArray n dd sl t hi) ⟨ho, ?_⟩⟩)
  refine ⟨.ref s.heap.objs.size, _, I.laid (t' := s.toks) (o := .tup []) (fun b ob q => Heap.get?_push_of_some _ q) (Nat.le_refl _) ?_, rfl, q _ (I.hok.fresh (Nat.le_refl _))⟩
  exact ⟨by rw [sizeLine_eq]; decide, _, .nil, IsTup.new _ _⟩
end
end DL
end
section
namespace DL
open PySem PySem.Spec PyProof.Rows L2
/-- the place of sys.modules is of the base -/
def HasSm (base : Heap) : Prop := ∃ o, base.get? sysModules = some o
/-- room for calls; cb: nothing is handled -/
structure RoomB (cb : Bool) (k : Nat) (A : Around) : Prop where
  hd_ : cb = true → A.handled = none
  dp : A.depth + 3 * k + 5 < recursionLimit
  un : A.units + 16 * k + 200 < cLine
theorem RoomB.of {k : Nat} {A : Around} (r : Room k A) : RoomB true k A := ⟨fun _ => r.hd, r.dp, r.un⟩
theorem RoomB.mono {cb : Bool} {j k : Nat} {A : Around} (r : RoomB cb k A) (h : j ≤ k) : RoomB cb j A := ⟨r.hd_, by have := r.dp; omega, by have := r.un; omega⟩
theorem RoomB.deeper {cb : Bool} {k : Nat} {A : Around} (r : RoomB cb (k + 1) A) (env : PySem.Env) : RoomB cb k (A.deeper env) :=
  ⟨r.hd_, by have := r.dp; show A.depth + 1 + 3 * k + 5 < _; omega, by have := r.un; show A.units + 3 + 16 * k + 200 < _; omega⟩
theorem RoomB.depth {cb : Bool} {k : Nat} {A : Around} (r : RoomB cb k A) : A.depth < recursionLimit := by have := r.dp; omega
theorem RoomB.units {cb : Bool} {k : Nat} {A : Around} (r : RoomB cb k A) : A.units + 64 < cLine := by have := r.un; omega
/-- what is known of the body that runs; cb: not within an except suite; vb: not within a try's body -/
structure SitB (cb vb : Bool) (X : Cx) (p : Par) (k : Nat) : Prop where
  calm_ : cb = true → X.calm = true
  gd : X.A.guards = some []
  rm : RoomB cb k X.A
  nd : X.N.Nodup
  ok : p.Ok X.K X.mg
  po : PassesOwn (model X.prog X.w) X.A X.env X.xe
  tk : Takes X (fun c d σ H => p.EK σ c d H)
  nf_ : vb = true → p.fx = none
  sm : HasSm X.base
abbrev Sit (X : Cx) (p : Par) (k : Nat) : Prop := SitB true true X p k
theorem SitB.ps {cb vb : Bool} {X : Cx} {p : Par} {k : Nat} (S : SitB cb vb X p k) (σ : L2.St) : PassesAt (L2.CX X.prog X.w) X σ (p.EK σ) := passAt S.tk σ
theorem SitB.calm {vb : Bool} {X : Cx} {p : Par} {k : Nat} (S : SitB true vb X p k) : X.calm = true := S.calm_ rfl
theorem SitB.nf {cb : Bool} {X : Cx} {p : Par} {k : Nat} (S : SitB cb true X p k) : p.fx = none := S.nf_ rfl
def EvR (K : PySem.W.Frag) (p : Par) (te : TE) (m : XE) : Prop :=
  ∀ (B : Addr → Prop) (H : Hp) (σ : L2.St) (E : Env) (c : Sx) (P : D → Sx → Prop) (Q : VK), St0 p c B H → EnvR K p c B H σ E → m E c P p.XP →
    (∀ d c' v H', P d c' → Ev p c H c' H' → p.SI c' H' → Rep K (bm p B c') H' v d → Q v H') → te σ H Q
def EvT (K : PySem.W.Frag) (p : Par) (tt : TT) (m : XT) : Prop :=
  ∀ (B : Addr → Prop) (H : Hp) (σ : L2.St) (E : Env) (c : Sx) (P : Bool → Sx → Prop) (Q : Bool → Hp → Prop), St0 p c B H → EnvR K p c B H σ E → m E c P p.XP →
    (∀ b c' H', P b c' → Ev p c H c' H' → p.SI c' H' → Q b H') → tt σ H Q
def EvA (K : PySem.W.Frag) (p : Par) (ta : TA) (m : XA) : Prop :=
  ∀ (B : Addr → Prop) (H : Hp) (σ : L2.St) (E : Env) (c : Sx) (P : List D → Sx → Prop) (Q : List V → Hp → Prop), St0 p c B H → EnvR K p c B H σ E → m E c P p.XP →
    (∀ ds c' vs H', P ds c' → Ev p c H c' H' → p.SI c' H' → Reps K (bm p B c') H' vs ds → Q vs H') → ta σ H Q
structure PD (X : Cx) (p : Par) (e : Expr) (m : XE) : Prop where
  ex : ∃ te, PE X e te ∧ EvR X.K p te m
structure PDT (X : Cx) (p : Par) (e : Expr) (m : XT) : Prop where
  ex : ∃ tt, PT X e tt ∧ EvT X.K p tt m
structure PDW (X : Cx) (p : Par) (e : Expr) (m : XT) : Prop where
  ex : ∃ tt, PW X e tt ∧ EvT X.K p tt m
structure PDA (X : Cx) (p : Par) (es : List Expr) (m : XA) : Prop where
  ex : ∃ ta, PA X es ta ∧ EvA X.K p ta m
section
variable {X : Cx} {p : Par} {k : Nat} {K : PySem.W.Frag}
theorem pd_var (i : Nat) {x : Str} {pos : Pos} (hN : X.N[i]? = some x := by rfl) (hv : Vis X.env.scope x := by first | exact Or.inl rfl | exact Or.inr (Or.inl rfl) | exact Or.inr (Or.inr rfl))
    (hd : (x == ("__debug__" : Str)) = false := by decide) (hcd : (x == ("__classdict__" : Str)) = false := by decide) : PD X p (.Name x pos) (eVar i) := by
  refine ⟨tVar i, pe_var hN hv hd hcd, fun B H σ E c P Q s r m k => ?_⟩
  unfold eVar at m
  cases e : E[i]? with
  | none => rw [e] at m; exact m.elim
  | some y =>
    rw [e] at m
    obtain ⟨z, h1, h2⟩ := r.at_ i y e
    cases h2 with
    | unk _ => exact m.elim
    | val q => exact ⟨_, h1, k _ _ _ H m Ev.refl s.si q⟩
    | own _ _ _ _ _ _ => exact m.elim
    | stm => exact m.elim
    | scr _ => exact m.elim
theorem ev_con {v : V} {d : D} (h : ∀ B H, Rep K B H v d) : EvR K p (tC v) (eCon d) := fun B H σ E c P Q s r m k => k d _ v H m Ev.refl s.si (h _ H)
theorem pd_int {i j pos} : PD X p (.Constant (.int i) j pos) (eCon (.int i)) := ⟨_, pe_int, ev_con fun _ _ => .int i⟩
theorem pd_bl {b j pos} : PD X p (.Constant (.bool b) j pos) (eCon (.bool b)) := ⟨_, pe_bl, ev_con fun _ _ => .bl b⟩
theorem pd_non {j pos} : PD X p (.Constant .none j pos) (eCon .none) := ⟨_, pe_non, ev_con fun _ _ => .non⟩
theorem pd_str {x j pos} : PD X p (.Constant (.str x) j pos) (eCon (.str x)) := ⟨_, pe_str, ev_con fun _ _ => .str x⟩
/-- a constant of the module -/
theorem pd_glob {x : Str} {i : Int} {pos : Pos} (hm : ∃ t, X.mg x = some (.int i t)) (hg : Gl X x := by rfl) (hd : (x == ("__debug__" : Str)) = false := by decide) : PD X p (.Name x pos) (eCon (.int i)) := by
  obtain ⟨t, hm⟩ := hm
  exact ⟨_, pe_glob (v := .int i) hg hm ⟨t, rfl⟩ hd, ev_con fun _ _ => .int i⟩
/-- a two-place operation on values that are data -/
def rD2 (K : PySem.W.Frag) (f : D → D → W D) : R2 := fun x y H Q => ∃ (B : Addr → Prop) (d e : D) (c : Sx) (P : D → Sx → Prop) (Xp : Exn → Sx → Prop),
  (∀ a, B a → H a ≠ none) ∧ Rep K B H x d ∧ Rep K B H y e ∧ f d e c P Xp ∧ ∀ z v H', P z c → All H H' → Rep K B H' v z → Q v H'
def rD1 (K : PySem.W.Frag) (f : D → W D) : V → Hp → VK → Prop := fun x H Q => ∃ (B : Addr → Prop) (d : D) (c : Sx) (P : D → Sx → Prop) (Xp : Exn → Sx → Prop),
  (∀ a, B a → H a ≠ none) ∧ Rep K B H x d ∧ f d c P Xp ∧ ∀ z v H', P z c → All H H' → Rep K B H' v z → Q v H'
def rC1 (K : PySem.W.Frag) (f : D → W D) : List V → Hp → VK → Prop := fun xs H Q => ∃ x, xs = [x] ∧ rD1 K f x H Q
def rC2 (K : PySem.W.Frag) (f : D → D → W D) : List V → Hp → VK → Prop := fun xs H Q => ∃ x y, xs = [x, y] ∧ rD2 K f x y H Q
theorem ev_bnd {ta tb : TE} {ma mb : XE} {r : R2} {f : D → D → W D} (ok : p.Ok K X.mg) (hr : ∀ x y H Q, rD2 K f x y H Q → r x y H Q) (ha : EvR K p ta ma) (hb : EvR K p tb mb) :
    EvR K p (tOp r ta tb) (fun E => bnd (ma E) fun x => bnd (mb E) fun y => f x y) := by
  intro B H σ E c P Q s re m k
  refine ha B H σ E _ _ _ s re m fun d c1 v H1 m1 e1 s1 r1 => ?_
  have st1 := s.go e1 s1
  refine hb B H1 σ E _ _ _ st1 (re.go s e1) m1 fun d2 c2' v2 H2 m2 e2 s2 r2 => ?_
  have st2 := st1.go e2 s2
  refine hr _ _ _ _ ⟨_, d, d2, _, P, p.XP, st2.trk, r1.tr (st1.up e2), r2, m2, fun z v3 H3 pz a3 r3 => ?_⟩
  exact k z _ v3 H3 pz (e1.trans (e2.trans a3.ev)) (st2.all ok a3) r3
theorem ev_bnd1 {ta : TE} {ma : XE} {r : V → Hp → VK → Prop} {f : D → W D} (ok : p.Ok K X.mg) (hr : ∀ x H Q, rD1 K f x H Q → r x H Q) (ha : EvR K p ta ma) :
    EvR K p (tUn r ta) (fun E => bnd (ma E) f) := by
  intro B H σ E c P Q s re m k
  refine ha B H σ E _ _ _ s re m fun d c1 v H1 m1 e1 s1 r1 => ?_
  have st1 := s.go e1 s1
  exact hr _ _ _ ⟨_, d, _, P, p.XP, st1.trk, r1, m1, fun z v3 H3 pz a3 r3 => k z _ v3 H3 pz (e1.trans a3.ev) (st1.all ok a3) r3⟩
theorem lay_of {d : D} (h : SeqAt.shaped d = true) : PyData.canLay0 d = true := by
  unfold SeqAt.shaped at h
  exact (Bool.and_eq_true_iff.mp h).1
/-- fresh tuples, fresh lists -/
theorem rep_tup {B : Addr → Prop} {H : Hp} {q : Addr} {xs : List V} {ds : List D} (hq : H q = none) (r : Reps K B H xs ds) : Rep K B (upd H q (.tup xs)) (.ref q) (.tuple ds) :=
  .tup (SqT.of upd_same) (r.mono (All.new hq).ext)
theorem rep_lst {B : Addr → Prop} {H : Hp} {q : Addr} {xs : List V} {ds : List D} (hb : ∀ a, B a → H a ≠ none) (hq : H q = none) (r : Reps K B H xs ds) : Rep K B (upd H q (.lst xs)) (.ref q) (.list ds) :=
  .lst upd_same (fun z => hb q z hq) (r.mono (All.new hq).ext)
theorem small_line {n : Nat} (h : small n) : n ≤ sizeLine := Nat.le_trans h (by rw [sizeLine_eq]; decide)
theorem small_lt {n : Nat} (h : small n) : n < sizeLine := Nat.lt_of_le_of_lt h (by rw [sizeLine_eq]; decide)
theorem op_addD : OpR X (binaryOp .Add) (rD2 X.K opAdd) := by
  intro pins s σ H x y v u Q I rx ry h
  obtain ⟨_, d, e, c, P, Xp, hb, r1, r2, m, k⟩ := h
  cases r1 with
  | int i =>
    cases r2 with
    | int j => exact op_add pins s σ H _ _ v u Q I rx ry ⟨i, j, rfl, rfl, k _ _ H m All.refl (.int _)⟩
    | _ => exact m.elim
  | bl i =>
    cases r2 with
    | int j =>
      obtain ⟨tk, rfl⟩ := ry
      cases rx
      exact PySem.IntBool.add_bool_int ⟨.int (DL.b2i i + j), H, I.tok _, ⟨_, rfl⟩, k _ _ H m All.refl (.int _)⟩
    | _ => exact m.elim
  | str i =>
    cases r2 with
    | str j =>
      obtain ⟨hz, m⟩ := m
      exact op_add_str pins s σ H _ _ v u Q I rx ry ⟨i, j, rfl, rfl, small_line hz, k _ _ H m All.refl (.str _)⟩
    | _ => exact m.elim
  | tup q1 s1 =>
    cases r2 with
    | tup q2 s2 =>
      obtain ⟨hz, m⟩ := m
      have l1 := s1.length
      have l2 := s2.length
      refine op_catA pins s σ H _ _ v u Q I rx ry ⟨_, _, _, _, rfl, rfl, q1, q2, by rw [l1, l2]; exact small_line hz, fun z => ?_, fun n z => ?_, fun n n2 q hq => ?_⟩
      · subst z
        cases s1
        exact k _ _ H m All.refl (.tup q2 s2)
      · subst z
        cases s2
        rw [List.append_nil] at m
        exact k _ _ H m All.refl (.tup q1 s1)
      · exact k _ _ _ m (All.new hq) (rep_tup hq (s1.append s2))
    | _ => exact m.elim
  | lst q1 b1 s1 =>
    cases r2 with
    | lst q2 b2 s2 =>
      obtain ⟨hz, m⟩ := m
      have l1 := s1.length
      have l2 := s2.length
      exact op_cat pins s σ H _ _ v u Q I rx ry ⟨_, _, _, _, rfl, rfl, q1, q2, by rw [l1, l2]; exact small_line hz, fun q hq => k _ _ _ m (All.new hq) (rep_lst hb hq (s1.append s2))⟩
    | _ => exact m.elim
  | _ => exact m.elim
theorem op_subD : OpR X (binaryOp .Sub) (rD2 X.K opSub) := by
  intro pins s σ H x y v u Q I rx ry h
  obtain ⟨_, d, e, c, P, Xp, hb, r1, r2, m, k⟩ := h
  cases r1 with
  | int i =>
    cases r2 with
    | int j => exact op_sub pins s σ H _ _ v u Q I rx ry ⟨i, j, rfl, rfl, k _ _ H m All.refl (.int _)⟩
    | _ => exact m.elim
  | bl i =>
    cases r2 with
    | int j =>
      obtain ⟨tk, rfl⟩ := ry
      cases rx
      exact PySem.IntBool.sub_bool_int ⟨.int (DL.b2i i - j), H, I.tok _, ⟨_, rfl⟩, k _ _ H m All.refl (.int _)⟩
    | _ => exact m.elim
  | _ => exact m.elim
theorem op_mulD : OpR X (binaryOp .Mult) (rD2 X.K opMul) := by
  intro pins s σ H x y v u Q I rx ry h
  obtain ⟨_, d, e, c, P, Xp, hb, r1, r2, m, k⟩ := h
  cases r1 with
  | int i =>
    cases r2 with
    | int j => exact op_mul pins s σ H _ _ v u Q I rx ry ⟨i, j, rfl, rfl, m.1, k _ _ H m.2 All.refl (.int _)⟩
    | _ => exact m.elim
  | tup q1 s1 =>
    cases r2 with
    | int j =>
      obtain ⟨⟨h0, h1, h2, h3⟩, m⟩ := m
      have l1 := s1.length
      by_cases hj : j = 1
      · subst hj
        rw [rep_once] at m
        exact op_once I rx ry q1 (k _ _ H m All.refl (.tup q1 s1))
      by_cases hj0 : j = 0
      · subst hj0
        exact op_never I rx ry q1 (fun z => by subst z; cases s1; exact h0 rfl) (fun q hq => k _ _ _ m (All.new hq) (rep_tup hq .nil))
      refine op_repT pins s σ H _ _ v u Q I rx ry ⟨_, j, _, rfl, rfl, q1, fun z => ?_, by omega, h2, by rw [l1]; exact h3, fun q hq => k _ _ _ m (All.new hq) (rep_tup hq (s1.rep _))⟩
      subst z
      cases s1
      exact h0 rfl
    | _ => exact m.elim
  | lst q1 b1 s1 =>
    cases r2 with
    | int j =>
      obtain ⟨⟨h0, h1, h2⟩, m⟩ := m
      have l1 := s1.length
      have hj : j.toNat ≤ 1000 := by omega
      have hm : (_ : List V).length * j.toNat ≤ 1000 * 1000 := Nat.mul_le_mul (by rw [l1]; exact h2) hj
      exact op_rep pins s σ H _ _ v u Q I rx ry ⟨_, j, _, rfl, rfl, q1, by omega, by omega, Nat.le_trans hm (by rw [sizeLine_eq]; decide), fun q hq => k _ _ _ m (All.new hq) (rep_lst hb hq (s1.rep _))⟩
    | _ => exact m.elim
  | _ => exact m.elim
theorem op_fdivD : OpR X (binaryOp .FloorDiv) (rD2 X.K opFdiv) := by
  intro pins s σ H x y v u Q I rx ry h
  obtain ⟨_, d, e, c, P, Xp, hb, r1, r2, m, k⟩ := h
  cases r1 with
  | int i =>
    cases r2 with
    | int j => exact op_fdivW pins s σ H _ _ v u Q I rx ry ⟨i, j, rfl, rfl, ⟨m.1.1, (Nat.log2_lt (by have := m.1.1; omega)).mpr (Nat.lt_of_lt_of_le (show j.natAbs < 2 ^ 63 by have := m.1.2; have := m.1.1; omega) (Nat.pow_le_pow_right (by decide) (by decide)))⟩, k _ _ H m.2 All.refl (.int _)⟩
    | _ => exact m.elim
  | _ => exact m.elim
theorem op_modD : OpR X (binaryOp .Mod) (rD2 X.K opMod) := by
  intro pins s σ H x y v u Q I rx ry h
  obtain ⟨_, d, e, c, P, Xp, hb, r1, r2, m, k⟩ := h
  cases r1 with
  | int i =>
    cases r2 with
    | int j => exact op_mod pins s σ H _ _ v u Q I rx ry ⟨i, j, rfl, rfl, m.1, k _ _ H m.2 All.refl (.int _)⟩
    | _ => exact m.elim
  | _ => exact m.elim
theorem op_powD : OpR X (binaryOp .Pow) (rD2 X.K opPow) := by
  intro pins s σ H x y v u Q I rx ry h
  obtain ⟨_, d, e, c, P, Xp, hb, r1, r2, m, k⟩ := h
  cases r1 with
  | int i =>
    cases r2 with
    | int j => exact op_pow pins s σ H _ _ v u Q I rx ry ⟨i, j, rfl, rfl, ⟨m.1.1, Int.le_trans m.1.2.1 (by decide), m.1.2.2⟩, k _ _ H m.2 All.refl (.int _)⟩
    | _ => exact m.elim
  | _ => exact m.elim
theorem op_shlD : OpR X (binaryOp .LShift) (rD2 X.K opShl) := by
  intro pins s σ H x y v u Q I rx ry h
  obtain ⟨_, d, e, c, P, Xp, hb, r1, r2, m, k⟩ := h
  cases r1 with
  | int i =>
    cases r2 with
    | int j => exact op_shl pins s σ H _ _ v u Q I rx ry ⟨i, j, rfl, rfl, ⟨m.1.1, Int.le_trans m.1.2.1 (by decide), m.1.2.2⟩, k _ _ H m.2 All.refl (.int _)⟩
    | _ => exact m.elim
  | _ => exact m.elim
def opS : Op → Operator
  | .add => .Add
  | .sub => .Sub
  | .mul => .Mult
  | .fdiv => .FloorDiv
  | .mod => .Mod
  | .pow => .Pow
  | .shl => .LShift
theorem op_binD : ∀ o : Op, OpR X (binaryOp (opS o)) (rD2 X.K (opBin o))
  | .add => op_addD
  | .sub => op_subD
  | .mul => op_mulD
  | .fdiv => op_fdivD
  | .mod => op_modD
  | .pow => op_powD
  | .shl => op_shlD
theorem pd_bin {cb vb : Bool} (S : SitB cb vb X p k) (o : Op) {a b : Expr} {ma mb : XE} {pos : Pos} (ha : PD X p a ma) (hb : PD X p b mb) : PD X p (.BinOp a (opS o) b pos) (eBin o ma mb) := by
  obtain ⟨ta, a1, a2⟩ := ha.ex
  obtain ⟨tb, b1, b2⟩ := hb.ex
  exact ⟨_, pe_op (op_binD o) a1 b1, ev_bnd S.ok (fun _ _ _ _ h => h) a2 b2⟩
theorem un_negD : UnR X (unaryOp .USub) (rD1 X.K opNeg) := by
  intro pins s σ H x v Q I rx h
  obtain ⟨_, d, c, P, Xp, hb, r1, m, k⟩ := h
  cases r1 with
  | int i => exact un_neg pins s σ H _ v Q I rx ⟨i, rfl, k _ _ H m All.refl (.int _)⟩
  | _ => exact m.elim
theorem pd_neg {cb vb : Bool} (S : SitB cb vb X p k) {a : Expr} {ma : XE} {pos : Pos} (ha : PD X p a ma) : PD X p (.UnaryOp .USub a pos) (eNeg ma) := by
  obtain ⟨ta, a1, a2⟩ := ha.ex
  exact ⟨_, pe_un un_negD a1, ev_bnd1 S.ok (fun _ _ _ h => h) a2⟩
def cmpD (o : Cmp) (x y : D) : W D := bnd (opCmp o x y) fun c => ret (.bool c)
def cmpS : Cmp → CmpOp
  | .eq => .Eq
  | .ne => .NotEq
  | .lt => .Lt
  | .le => .LtE
  | .gt => .Gt
  | .ge => .GtE
  | .isN => .Is
  | .notN => .IsNot
theorem rep_non {B : Addr → Prop} {H : Hp} {v : V} {d : D} (r : Rep K B H v d) : decide (v = .non) = isNone d := by
  cases r <;> rfl
theorem nil_sizes {B : Addr → Prop} {pins : List (Addr × Obj)} {σ : L2.St} {H : Hp} {s : Shared} {x y : V} {v u : Value} {ds : List D} (I : Inv X pins σ H s) (rx : RelV x v) (ry : RelV y u) (r1 : Rep X.K B H x (.list ds)) (r2 : Rep X.K B H y (.list [])) :
    ∃ a b its its2, v = .ref a ∧ u = .ref b ∧ s.heap.IsList a its ∧ s.heap.IsList b its2 ∧ its.size = ds.length ∧ its2.size = 0 := by
  cases r1 with
  | lst e1 n1 q1 =>
    cases r2 with
    | lst e2 n2 q2 =>
      obtain ⟨its, v1, p1, _⟩ := I.list (.inl (.inl e1))
      obtain ⟨its2, v2, p2, _⟩ := I.list (.inl (.inl e2))
      refine ⟨_, _, its.toArray, its2.toArray, rx, ry, p1.isList, p2.isList, ?_, ?_⟩
      · rw [List.size_toArray, ← v1.length, q1.length]
      · rw [List.size_toArray, ← v2.length, q2.length]
        rfl
theorem eq_nilA {B : Addr → Prop} {pins : List (Addr × Obj)} {σ : L2.St} {H : Hp} {s : Shared} {x y : V} {v u : Value} {ds : List D} {Q : VK} (I : Inv X pins σ H s) (rx : RelV x v) (ry : RelV y u) (r1 : Rep X.K B H x (.list ds)) (r2 : Rep X.K B H y (.list [])) (hu : X.A.units < cLine)
    (q : Q (.bl (PyData.eqv (.list ds) (.list []))) H) : wpAny (model X.prog X.w) X.A (compareOp .Eq v u) (EP X pins σ Q) X.xe s := by
  obtain ⟨a, b, its, its2, rfl, rfl, i1, i2, z1, z2⟩ := nil_sizes I rx ry r1 r2
  cases ds with
  | nil => exact SeqAt.RcAt.lists (e := fun _ => true) i1 i2 (by rw [z1, z2]; rfl) hu (fun j h1 _ => absurd h1 (by rw [z1]; exact Nat.not_lt_zero j)) _ _ _ _ ⟨.bl true, H, I, by rw [z1]; rfl, q⟩
  | cons d ds => exact SeqAt.RcAt.lists_lengths i1 i2 (by rw [z1, z2]; rfl) hu _ _ _ _ ⟨.bl false, H, I, rfl, q⟩
theorem ne_nilA {B : Addr → Prop} {pins : List (Addr × Obj)} {σ : L2.St} {H : Hp} {s : Shared} {x y : V} {v u : Value} {ds : List D} {Q : VK} (I : Inv X pins σ H s) (rx : RelV x v) (ry : RelV y u) (r1 : Rep X.K B H x (.list ds)) (r2 : Rep X.K B H y (.list [])) (hu : X.A.units < cLine)
    (q : Q (.bl (!PyData.eqv (.list ds) (.list []))) H) : wpAny (model X.prog X.w) X.A (compareOp .NotEq v u) (EP X pins σ Q) X.xe s := by
  obtain ⟨a, b, its, its2, rfl, rfl, i1, i2, z1, z2⟩ := nil_sizes I rx ry r1 r2
  cases ds with
  | nil => exact SeqAt.RcNeAt.lists (e := fun _ => true) i1 i2 (by rw [z1, z2]; rfl) hu (fun j h1 _ => absurd h1 (by rw [z1]; exact Nat.not_lt_zero j)) _ _ _ _ ⟨.bl false, H, I, by rw [z1]; rfl, q⟩
  | cons d ds => exact SeqAt.RcNeAt.lists_lengths i1 i2 (by rw [z1, z2]; rfl) hu _ _ _ _ ⟨.bl true, H, I, rfl, q⟩
theorem nilT_sizes {B : Addr → Prop} {pins : List (Addr × Obj)} {σ : L2.St} {H : Hp} {s : Shared} {x y : V} {v u : Value} {ds : List D} (I : Inv X pins σ H s) (rx : RelV x v) (ry : RelV y u) (r1 : Rep X.K B H x (.tuple ds)) (r2 : Rep X.K B H y (.tuple [])) :
    ∃ a b its its2, v = .ref a ∧ u = .ref b ∧ IsTup s.heap a its ∧ IsTup s.heap b its2 ∧ its.size = ds.length ∧ its2.size = 0 := by
  cases r1 with
  | tup e1 q1 =>
    cases r2 with
    | tup e2 q2 =>
      obtain ⟨its, v1, p1, _⟩ := I.tuple e1
      obtain ⟨its2, v2, p2, _⟩ := I.tuple e2
      refine ⟨_, _, its.toArray, its2.toArray, rx, ry, p1, p2, ?_, ?_⟩
      · rw [List.size_toArray, ← v1.length, q1.length]
      · rw [List.size_toArray, ← v2.length, q2.length]
        rfl
theorem eqv_nilT (ds : List D) : PyData.eqv (.tuple ds) (.tuple []) = (ds.length == 0) := by
  cases ds <;> rfl
theorem eq_nilTA {B : Addr → Prop} {pins : List (Addr × Obj)} {σ : L2.St} {H : Hp} {s : Shared} {x y : V} {v u : Value} {ds : List D} {Q : VK} (I : Inv X pins σ H s) (rx : RelV x v) (ry : RelV y u) (r1 : Rep X.K B H x (.tuple ds)) (r2 : Rep X.K B H y (.tuple [])) (hu : X.A.units < cLine)
    (q : Q (.bl (PyData.eqv (.tuple ds) (.tuple []))) H) : wpAny (model X.prog X.w) X.A (compareOp .Eq v u) (EP X pins σ Q) X.xe s := by
  obtain ⟨a, b, its, its2, rfl, rfl, i1, i2, z1, z2⟩ := nilT_sizes I rx ry r1 r2
  refine SeqAt.RcAt.tuples (e := fun _ => true) i1 i2 hu (fun j _ h2 => absurd h2 (by rw [z2]; exact Nat.not_lt_zero j)) _ _ _ _ ⟨_, H, I, ?_, q⟩
  rw [eqv_nilT, z1, z2]
  simp
  rfl
theorem ne_nilTA {B : Addr → Prop} {pins : List (Addr × Obj)} {σ : L2.St} {H : Hp} {s : Shared} {x y : V} {v u : Value} {ds : List D} {Q : VK} (I : Inv X pins σ H s) (rx : RelV x v) (ry : RelV y u) (r1 : Rep X.K B H x (.tuple ds)) (r2 : Rep X.K B H y (.tuple [])) (hu : X.A.units < cLine)
    (q : Q (.bl (!PyData.eqv (.tuple ds) (.tuple []))) H) : wpAny (model X.prog X.w) X.A (compareOp .NotEq v u) (EP X pins σ Q) X.xe s := by
  obtain ⟨a, b, its, its2, rfl, rfl, i1, i2, z1, z2⟩ := nilT_sizes I rx ry r1 r2
  refine SeqAt.RcNeAt.tuples (e := fun _ => true) i1 i2 hu (fun j _ h2 => absurd h2 (by rw [z2]; exact Nat.not_lt_zero j)) _ _ _ _ ⟨_, H, I, ?_, q⟩
  rw [eqv_nilT, z1, z2]
  simp
  rfl
theorem eq_vsNil {B : Addr → Prop} {pins : List (Addr × Obj)} {σ : L2.St} {H : Hp} {s : Shared} {x y : V} {v u : Value} {d e : D} {Q : VK} (I : Inv X pins σ H s) (rx : RelV x v) (ry : RelV y u) (r1 : Rep X.K B H x d) (r2 : Rep X.K B H y e) (hu : X.A.units < cLine) (hv : vsNil d e = true)
    (q : Q (.bl (PyData.eqv d e)) H) : wpAny (model X.prog X.w) X.A (compareOp .Eq v u) (EP X pins σ Q) X.xe s := by
  unfold vsNil at hv
  split at hv
  · cases r1 with
    | lst e1 n1 q1 =>
      cases r2 with
      | tup e2 q2 =>
        obtain ⟨its, v1, p1, _⟩ := I.list (.inl (.inl e1))
        obtain ⟨its2, v2, p2, _⟩ := I.tuple e2
        cases (show v = _ from rx)
        cases (show u = _ from ry)
        exact SeqAt.RcAt.list_tuple p1.isList p2 hu _ _ _ _ ⟨.bl false, H, I, rfl, q⟩
  · cases r1 with
    | dct0 e1 n1 =>
      cases r2 with
      | tup e2 q2 =>
        obtain ⟨_, sm, vs, kv, o, es, ep, ho, ex, hd, _, pr, _⟩ := dk_of I.hok e1
        obtain ⟨its2, v2, p2, _⟩ := I.tuple e2
        cases (show v = _ from rx)
        cases (show u = _ from ry)
        exact rc_dict_tuple ho ex.1 p2 hu _ _ _ _ ⟨.bl false, H, I, rfl, q⟩
  · cases r1 with
    | dct1 e1 n1 q1 =>
      cases r2 with
      | tup e2 q2 =>
        obtain ⟨_, sm, vs, kv, o, es, ep, ho, ex, hd, _, pr, _⟩ := dk_of I.hok e1
        obtain ⟨its2, v2, p2, _⟩ := I.tuple e2
        cases (show v = _ from rx)
        cases (show u = _ from ry)
        exact rc_dict_tuple ho ex.1 p2 hu _ _ _ _ ⟨.bl false, H, I, rfl, q⟩
  · cases hv
theorem ne_vsNil {B : Addr → Prop} {pins : List (Addr × Obj)} {σ : L2.St} {H : Hp} {s : Shared} {x y : V} {v u : Value} {d e : D} {Q : VK} (I : Inv X pins σ H s) (rx : RelV x v) (ry : RelV y u) (r1 : Rep X.K B H x d) (r2 : Rep X.K B H y e) (hu : X.A.units < cLine) (hv : vsNil d e = true)
    (q : Q (.bl (!PyData.eqv d e)) H) : wpAny (model X.prog X.w) X.A (compareOp .NotEq v u) (EP X pins σ Q) X.xe s := by
  unfold vsNil at hv
  split at hv
  · cases r1 with
    | lst e1 n1 q1 =>
      cases r2 with
      | tup e2 q2 =>
        obtain ⟨its, v1, p1, _⟩ := I.list (.inl (.inl e1))
        obtain ⟨its2, v2, p2, _⟩ := I.tuple e2
        cases (show v = _ from rx)
        cases (show u = _ from ry)
        exact SeqAt.RcNeAt.list_tuple p1.isList p2 hu _ _ _ _ ⟨.bl true, H, I, rfl, q⟩
  · cases r1 with
    | dct0 e1 n1 =>
      cases r2 with
      | tup e2 q2 =>
        obtain ⟨_, sm, vs, kv, o, es, ep, ho, ex, hd, _, pr, _⟩ := dk_of I.hok e1
        obtain ⟨its2, v2, p2, _⟩ := I.tuple e2
        cases (show v = _ from rx)
        cases (show u = _ from ry)
        exact rc_dict_tuple_ne ho ex.1 p2 hu _ _ _ _ ⟨.bl true, H, I, rfl, q⟩
  · cases r1 with
    | dct1 e1 n1 q1 =>
      cases r2 with
      | tup e2 q2 =>
        obtain ⟨_, sm, vs, kv, o, es, ep, ho, ex, hd, _, pr, _⟩ := dk_of I.hok e1
        obtain ⟨its2, v2, p2, _⟩ := I.tuple e2
        cases (show v = _ from rx)
        cases (show u = _ from ry)
        exact rc_dict_tuple_ne ho ex.1 p2 hu _ _ _ _ ⟨.bl true, H, I, rfl, q⟩
  · cases hv
theorem op_cmpD (hu : X.A.units + 64 < cLine) : ∀ o : Cmp, OpR X (compareOp (cmpS o)) (rD2 X.K (cmpD o))
  | .eq => by
    intro pins s σ H x y v u Q I rx ry h
    obtain ⟨_, d, e, c, P, Xp, hb, r1, r2, ⟨hok, m⟩, k⟩ := h
    by_cases hs : ∃ a b, d = .str a ∧ e = .str b
    · obtain ⟨a, b, rfl, rfl⟩ := hs
      cases r1
      cases r2
      have es : decide (V.str a = V.str b) = (a == b) := by
        rw [Bool.eq_iff_iff]
        simp
      refine op_eq pins s σ H _ _ v u Q I rx ry ⟨rfl, ?_⟩
      rw [es]
      exact k _ _ H m All.refl (.bl _)
    · by_cases hz : ∃ ds, d = .list ds ∧ e = .list []
      · obtain ⟨ds, rfl, rfl⟩ := hz
        exact eq_nilA I rx ry r1 r2 (by omega) (k _ _ H m All.refl (.bl _))
      by_cases hy : ∃ ds, d = .tuple ds ∧ e = .tuple []
      · obtain ⟨ds, rfl, rfl⟩ := hy
        exact eq_nilTA I rx ry r1 r2 (by omega) (k _ _ H m All.refl (.bl _))
      have hh : vsNil d e = true ∨ (SeqAt.shaped d = true ∧ SeqAt.shaped e = true) := by
        unfold eqOk at hok
        split at hok
        · exact absurd ⟨_, _, rfl, rfl⟩ hs
        · exact absurd ⟨_, rfl, rfl⟩ hz
        · exact absurd ⟨_, rfl, rfl⟩ hy
        · exact hok
      rcases hh with hh | hh
      · exact eq_vsNil I rx ry r1 r2 (by omega) hh (k _ _ H m All.refl (.bl _))
      exact op_eqD hu pins s σ H _ _ v u Q I rx ry ⟨d, e, r1.dp (lay_of hh.1), r2.dp (lay_of hh.2), hh.1, hh.2, k _ _ H m All.refl (.bl _)⟩
  | .ne => by
    intro pins s σ H x y v u Q I rx ry h
    obtain ⟨_, d, e, c, P, Xp, hb, r1, r2, ⟨hok, m⟩, k⟩ := h
    by_cases hs : ∃ a b, d = .str a ∧ e = .str b
    · obtain ⟨a, b, rfl, rfl⟩ := hs
      cases r1
      cases r2
      have es : decide (V.str a = V.str b) = (a == b) := by
        rw [Bool.eq_iff_iff]
        simp
      refine op_ne pins s σ H _ _ v u Q I rx ry ⟨rfl, ?_⟩
      rw [es]
      exact k _ _ H m All.refl (.bl _)
    · by_cases hz : ∃ ds, d = .list ds ∧ e = .list []
      · obtain ⟨ds, rfl, rfl⟩ := hz
        exact ne_nilA I rx ry r1 r2 (by omega) (k _ _ H m All.refl (.bl _))
      by_cases hy : ∃ ds, d = .tuple ds ∧ e = .tuple []
      · obtain ⟨ds, rfl, rfl⟩ := hy
        exact ne_nilTA I rx ry r1 r2 (by omega) (k _ _ H m All.refl (.bl _))
      have hh : vsNil d e = true ∨ (SeqAt.shaped d = true ∧ SeqAt.shaped e = true) := by
        unfold eqOk at hok
        split at hok
        · exact absurd ⟨_, _, rfl, rfl⟩ hs
        · exact absurd ⟨_, rfl, rfl⟩ hz
        · exact absurd ⟨_, rfl, rfl⟩ hy
        · exact hok
      rcases hh with hh | hh
      · exact ne_vsNil I rx ry r1 r2 (by omega) hh (k _ _ H m All.refl (.bl _))
      exact op_neD hu pins s σ H _ _ v u Q I rx ry ⟨d, e, r1.dp (lay_of hh.1), r2.dp (lay_of hh.2), hh.1, hh.2, k _ _ H m All.refl (.bl _)⟩
  | .lt => by
    intro pins s σ H x y v u Q I rx ry h
    obtain ⟨_, d, e, c, P, Xp, hb, r1, r2, m, k⟩ := h
    cases r1 with
    | int i =>
      cases r2 with
      | int j => exact op_lt pins s σ H _ _ v u Q I rx ry ⟨i, j, rfl, rfl, k _ _ H m All.refl (.bl _)⟩
      | _ => exact m.elim
    | _ => exact m.elim
  | .le => by
    intro pins s σ H x y v u Q I rx ry h
    obtain ⟨_, d, e, c, P, Xp, hb, r1, r2, m, k⟩ := h
    cases r1 with
    | int i =>
      cases r2 with
      | int j => exact op_le pins s σ H _ _ v u Q I rx ry ⟨i, j, rfl, rfl, k _ _ H m All.refl (.bl _)⟩
      | _ => exact m.elim
    | _ => exact m.elim
  | .gt => by
    intro pins s σ H x y v u Q I rx ry h
    obtain ⟨_, d, e, c, P, Xp, hb, r1, r2, m, k⟩ := h
    cases r1 with
    | int i =>
      cases r2 with
      | int j => exact op_gt pins s σ H _ _ v u Q I rx ry ⟨i, j, rfl, rfl, k _ _ H m All.refl (.bl _)⟩
      | _ => exact m.elim
    | _ => cases r2 <;> exact m.elim
  | .ge => by
    intro pins s σ H x y v u Q I rx ry h
    obtain ⟨_, d, e, c, P, Xp, hb, r1, r2, m, k⟩ := h
    cases r1 with
    | int i =>
      cases r2 with
      | int j => exact op_ge pins s σ H _ _ v u Q I rx ry ⟨i, j, rfl, rfl, k _ _ H m All.refl (.bl _)⟩
      | _ => exact m.elim
    | _ => cases r2 <;> exact m.elim
  | .isN => by
    intro pins s σ H x y v u Q I rx ry h
    obtain ⟨_, d, e, c, P, Xp, hb, r1, r2, ⟨h1, m⟩, k⟩ := h
    by_cases hb2 : ∃ a b, d = .bool a ∧ e = .bool b
    · obtain ⟨a, b, rfl, rfl⟩ := hb2
      cases r1
      cases r2
      exact op_isBl pins s σ H _ _ v u Q I rx ry ⟨_, _, rfl, rfl, k _ _ H m All.refl (.bl _)⟩
    have h1 : e = .none := by
      unfold isOpOk at h1
      split at h1
      · exact absurd ⟨_, _, rfl, rfl⟩ hb2
      · exact h1
    subst h1
    cases r2
    refine op_isN pins s σ H _ _ v u Q I rx ry ⟨rfl, ?_⟩
    rw [rep_non r1, ← isOpV_none d]
    exact k _ _ H m All.refl (.bl _)
  | .notN => by
    intro pins s σ H x y v u Q I rx ry h
    obtain ⟨_, d, e, c, P, Xp, hb, r1, r2, ⟨h1, m⟩, k⟩ := h
    by_cases hb2 : ∃ a b, d = .bool a ∧ e = .bool b
    · obtain ⟨a, b, rfl, rfl⟩ := hb2
      cases r1
      cases r2
      exact op_notBl pins s σ H _ _ v u Q I rx ry ⟨_, _, rfl, rfl, k _ _ H m All.refl (.bl _)⟩
    have h1 : e = .none := by
      unfold isOpOk at h1
      split at h1
      · exact absurd ⟨_, _, rfl, rfl⟩ hb2
      · exact h1
    subst h1
    cases r2
    refine op_notN pins s σ H _ _ v u Q I rx ry ⟨rfl, ?_⟩
    rw [rep_non r1, ← isOpV_none d]
    exact k _ _ H m All.refl (.bl _)
theorem SitB.un {cb vb : Bool} (S : SitB cb vb X p k) : X.A.units + 64 < cLine := S.rm.units
theorem cmpS_mark (o : Cmp) (b : Expr) : behindInMarks (cmpS o) b = false := by cases o <;> exact nomark b
theorem pd_cmp {cb vb : Bool} (S : SitB cb vb X p k) (o : Cmp) {a b : Expr} {ma mb : XE} {pos : Pos} (ha : PD X p a ma) (hb : PD X p b mb) : PD X p (.Compare a [cmpS o] [b] pos) (eCmp o ma mb) := by
  obtain ⟨ta, a1, a2⟩ := ha.ex
  obtain ⟨tb, b1, b2⟩ := hb.ex
  exact ⟨_, pe_cmpR (op_cmpD S.un o) a1 b1 (cmpS_mark o b), ev_bnd S.ok (f := cmpD o) (fun _ _ _ _ h => h) a2 b2⟩
/-- a test from a value that is a bool -/
theorem et_bool {te : TE} {m : XE} (h : EvR K p te m) : EvT K p (tTest te) (fun E => bnd (m E) fun d => match d with | .bool b => ret b | _ => stuck) := by
  intro B H σ E c P Q s re mm k
  refine h B H σ E _ _ _ s re mm fun d c1 v H1 m1 e1 s1 r1 => ?_
  cases r1 with
  | bl b => exact ⟨b, rfl, k b _ H1 m1 e1 s1⟩
  | _ => exact m1.elim
def tBool (a : XE) : XT := fun E => bnd (a E) fun d => match d with | .bool b => ret b | _ => stuck
theorem pt_cmpD {cb vb : Bool} (S : SitB cb vb X p k) (o : Cmp) {a b : Expr} {ma mb : XE} {pos : Pos} (ha : PD X p a ma) (hb : PD X p b mb) : PDT X p (.Compare a [cmpS o] [b] pos) (tBool (eCmp o ma mb)) := by
  obtain ⟨ta, a1, a2⟩ := ha.ex
  obtain ⟨tb, b1, b2⟩ := hb.ex
  exact ⟨_, pt_cmpR (op_cmpD S.un o) a1 b1 (cmpS_mark o b), et_bool (m := eCmp o ma mb) (ev_bnd S.ok (f := cmpD o) (fun _ _ _ _ h => h) a2 b2)⟩
theorem ev_chain {ta tb tc : TE} {ma mb mc : XE} {r r' : R2} {o o' : Cmp} (ok : p.Ok K X.mg) (hr : ∀ x y H Q, rD2 K (cmpD o) x y H Q → r x y H Q) (hr' : ∀ x y H Q, rD2 K (cmpD o') x y H Q → r' x y H Q)
    (ha : EvR K p ta ma) (hb : EvR K p tb mb) (hc : EvR K p tc mc) : EvR K p (tChain r r' ta tb tc) (eChain o o' ma mb mc) := by
  intro B H σ E c P Q s re m k
  refine ha B H σ E _ _ _ s re m fun d c1 v H1 m1 e1 s1 r1 => ?_
  have st1 := s.go e1 s1
  have re1 := re.go s e1
  refine hb B H1 σ E _ _ _ st1 re1 m1 fun d2 c2' v2 H2 m2 e2 s2 r2 => ?_
  have st2 := st1.go e2 s2
  have re2 := re1.go st1 e2
  refine hr _ _ _ _ ⟨_, d, d2, c2', (fun z n => ∃ c : Bool, z = .bool c ∧ (if c = true then bnd (mc E) fun z => bnd (opCmp o' d2 z) fun k' => ret (.bool k') else ret (.bool false)) n P p.XP), p.XP, st2.trk, r1.tr (st1.up e2), r2, ?_, fun z v3 H3 pz a3 r3 => ?_⟩
  · have e : (cmpD o d d2) = bnd (opCmp o d d2) fun c => ret (.bool c) := rfl
    rw [e]
    have q : ∀ (n : Sx) (P1 P2 : Bool → Sx → Prop) (Xp : Exn → Sx → Prop), (∀ b, P1 b n → P2 b n) → opCmp o d d2 n P1 Xp → opCmp o d d2 n P2 Xp := by
      intro n P1 P2 Xp hh h
      cases o with
      | eq => exact ⟨h.1, hh _ h.2⟩
      | ne => exact ⟨h.1, hh _ h.2⟩
      | lt => cases d <;> first | exact h.elim | (cases d2 <;> first | exact h.elim | exact hh _ h)
      | le => cases d <;> first | exact h.elim | (cases d2 <;> first | exact h.elim | exact hh _ h)
      | gt => cases d2 <;> first | exact h.elim | (cases d <;> first | exact h.elim | exact hh _ h)
      | ge => cases d2 <;> first | exact h.elim | (cases d <;> first | exact h.elim | exact hh _ h)
      | isN => exact ⟨h.1, hh _ h.2⟩
      | notN => exact ⟨h.1, hh _ h.2⟩
    exact q _ _ _ _ (fun b hb => ⟨b, rfl, hb⟩) m2
  · obtain ⟨c, rfl, mc'⟩ := pz
    have st3 := st2.go a3.ev (st2.all ok a3)
    have re3 := re2.go st2 a3.ev
    have e3 : Ev p _ H c2' H3 := e1.trans (e2.trans a3.ev)
    cases r3
    refine ⟨c, rfl, ?_⟩
    cases c with
    | true =>
      refine hc B H3 σ E _ _ _ st3 re3 mc' fun d4 c4' v4 H4 m4 e4 s4 r4 => ?_
      have st4 := st3.go e4 s4
      refine hr' _ _ _ _ ⟨_, d2, d4, _, P, p.XP, st4.trk, (r2.tr (st2.up a3.ev)).tr (st3.up e4), r4, m4, fun z v5 H5 pz a5 r5 => ?_⟩
      exact k z _ v5 H5 pz (e3.trans (e4.trans a5.ev)) (st4.all ok a5) r5
    | false => exact k _ _ _ H3 mc' e3 st3.si (.bl false)
theorem pd_chain {cb vb : Bool} (S : SitB cb vb X p k) (o o' : Cmp) {a b c : Expr} {ma mb mc : XE} {pos : Pos} (ha : PD X p a ma) (hb : PD X p b mb) (hc : PD X p c mc) : PD X p (.Compare a [cmpS o, cmpS o'] [b, c] pos) (eChain o o' ma mb mc) := by
  obtain ⟨ta, a1, a2⟩ := ha.ex
  obtain ⟨tb, b1, b2⟩ := hb.ex
  obtain ⟨tc, c1, c2⟩ := hc.ex
  exact ⟨_, pe_chain (op_cmpD S.un o) (op_cmpD S.un o') a1 b1 c1 (cmpS_mark o' c), ev_chain S.ok (fun _ _ _ _ h => h) (fun _ _ _ _ h => h) a2 b2 c2⟩
theorem pt_chainD {cb vb : Bool} (S : SitB cb vb X p k) (o o' : Cmp) {a b c : Expr} {ma mb mc : XE} {pos : Pos} (ha : PD X p a ma) (hb : PD X p b mb) (hc : PD X p c mc) : PDT X p (.Compare a [cmpS o, cmpS o'] [b, c] pos) (tBool (eChain o o' ma mb mc)) := by
  obtain ⟨ta, a1, a2⟩ := ha.ex
  obtain ⟨tb, b1, b2⟩ := hb.ex
  obtain ⟨tc, c1, c2⟩ := hc.ex
  exact ⟨_, pt_chain (op_cmpD S.un o) (op_cmpD S.un o') a1 b1 c1 (cmpS_mark o' c), et_bool (ev_chain S.ok (fun _ _ _ _ h => h) (fun _ _ _ _ h => h) a2 b2 c2)⟩
end
end DL
end
section
namespace DL
open PySem PySem.Spec PyProof.Rows L2
section
variable {X : Cx} {p : Par} {k : Nat} {K : PySem.W.Frag}
theorem isEmpty_reps {B : Addr → Prop} {H : Hp} {vs : List V} {ds : List D} (r : Reps K B H vs ds) : (!vs.isEmpty) = !ds.isEmpty := by
  cases r <;> rfl
theorem tru_of {B : Addr → Prop} {H : Hp} {v : V} {d : D} {n : Sx} {P : Bool → Sx → Prop} {Xp : Exn → Sx → Prop} (r : Rep K B H v d) (m : tru d n P Xp) : ∃ c, TruV K v H c ∧ P c n := by
  cases r with
  | non => exact ⟨false, rfl, m⟩
  | bl b => exact ⟨b, rfl, m⟩
  | int i => exact ⟨_, rfl, m⟩
  | str x => exact ⟨_, ⟨small_line m.1, rfl⟩, m.2⟩
  | lst e n s => exact ⟨_, Or.inl ⟨_, SqL.of e, rfl⟩, by rw [isEmpty_reps s]; exact m⟩
  | tup e s => exact ⟨_, Or.inr (Or.inl ⟨_, e, rfl⟩), by rw [isEmpty_reps s]; exact m⟩
  | _ => exact (show False from m).elim
theorem pt_tru {a : Expr} {ma : XE} (ha : PD X p a ma) (he : ∀ whole, isTrue a X.env whole = (do let v ← whole; standAt a.pos; holding [v] (truthy v)) := by intro _; rfl) : PDT X p a (tTru ma) := by
  obtain ⟨ta, a1, a2⟩ := ha.ex
  refine ⟨_, pt_truth a1 he, fun B H σ E c P Q s re m k => ?_⟩
  refine a2 B H σ E _ _ _ s re m fun d c1 v H1 m1 e1 s1 r1 => ?_
  obtain ⟨c, h1, h2⟩ := tru_of r1 m1
  exact ⟨c, h1, k c _ H1 h2 e1 s1⟩
theorem pt_notD {a : Expr} {t : XT} {pos : Pos} (ha : PDT X p a t) : PDT X p (.UnaryOp .Not a pos) (tNot t) := by
  obtain ⟨ta, a1, a2⟩ := ha.ex
  exact ⟨_, pt_not a1, fun B H σ E c P Q s re m k => a2 B H σ E _ _ _ s re m fun b c1 H1 m1 e1 s1 => k _ _ H1 m1 e1 s1⟩
theorem pd_not {a : Expr} {m : XE} {pos : Pos} (ha : PD X p a m) : PD X p (.UnaryOp .Not a pos) (eNot m) := by
  obtain ⟨ta, a1, a2⟩ := ha.ex
  refine ⟨_, pe_notT a1, fun B H σ E c P Q s re m k => ?_⟩
  refine a2 B H σ E _ _ _ s re m fun d c1 v H1 m1 e1 s1 r1 => ?_
  obtain ⟨c, h1, h2⟩ := tru_of r1 m1
  exact ⟨c, h1, k _ _ _ H1 h2 e1 s1 (.bl _)⟩
theorem et_and {t u : TT} {mt mu : XT} (h1 : EvT K p t mt) (h2 : EvT K p u mu) : EvT K p (L2.tAnd t u) (tAnd mt mu) := by
  intro B H σ E c P Q s re m k
  refine h1 B H σ E _ _ _ s re m fun b c1 H1 m1 e1 s1 => ?_
  cases b with
  | true => exact h2 B H1 σ E _ _ _ (s.go e1 s1) (re.go s e1) m1 fun b2 c2' H2 m2 e2 s2 => k b2 _ H2 m2 (e1.trans e2) s2
  | false => exact k false _ H1 m1 e1 s1
theorem et_or {t u : TT} {mt mu : XT} (h1 : EvT K p t mt) (h2 : EvT K p u mu) : EvT K p (L2.tOr t u) (tOr mt mu) := by
  intro B H σ E c P Q s re m k
  refine h1 B H σ E _ _ _ s re m fun b c1 H1 m1 e1 s1 => ?_
  cases b with
  | false => exact h2 B H1 σ E _ _ _ (s.go e1 s1) (re.go s e1) m1 fun b2 c2' H2 m2 e2 s2 => k b2 _ H2 m2 (e1.trans e2) s2
  | true => exact k true _ H1 m1 e1 s1
theorem pw_and1D {a : Expr} {t : XT} {pos : Pos} (ha : PDT X p a t) : PDW X p (.BoolOp .And [a] pos) t := by
  obtain ⟨ta, a1, a2⟩ := ha.ex
  exact ⟨_, pw_and1 a1, a2⟩
theorem pw_or1D {a : Expr} {t : XT} {pos : Pos} (ha : PDT X p a t) : PDW X p (.BoolOp .Or [a] pos) t := by
  obtain ⟨ta, a1, a2⟩ := ha.ex
  exact ⟨_, pw_or1 a1, a2⟩
theorem pw_andD {a b : Expr} {rest : List Expr} {t u : XT} {pos : Pos} (ha : PDT X p a t) (hb : PDW X p (.BoolOp .And (b :: rest) pos) u) : PDW X p (.BoolOp .And (a :: b :: rest) pos) (tAnd t u) := by
  obtain ⟨ta, a1, a2⟩ := ha.ex
  obtain ⟨tb, b1, b2⟩ := hb.ex
  exact ⟨_, pw_and a1 b1, et_and a2 b2⟩
theorem pw_orD {a b : Expr} {rest : List Expr} {t u : XT} {pos : Pos} (ha : PDT X p a t) (hb : PDW X p (.BoolOp .Or (b :: rest) pos) u) : PDW X p (.BoolOp .Or (a :: b :: rest) pos) (tOr t u) := by
  obtain ⟨ta, a1, a2⟩ := ha.ex
  obtain ⟨tb, b1, b2⟩ := hb.ex
  exact ⟨_, pw_or a1 b1, et_or a2 b2⟩
theorem PDW.pt {e : Expr} {t : XT} (h : PDW X p e t) : PDT X p e t := by
  obtain ⟨ta, a1, a2⟩ := h.ex
  exact ⟨_, a1.pt, a2⟩
theorem pd_one {op} {a : Expr} {m : XE} {pos : Pos} (ha : PD X p a m) : PD X p (.BoolOp op [a] pos) m := by
  obtain ⟨ta, a1, a2⟩ := ha.ex
  exact ⟨_, pe_one a1, a2⟩
theorem pd_and {a b : Expr} {rest : List Expr} {ma mb : XE} {pos : Pos} (ha : PD X p a ma) (hb : PD X p (.BoolOp .And (b :: rest) pos) mb) : PD X p (.BoolOp .And (a :: b :: rest) pos) (eAnd ma mb) := by
  obtain ⟨ta, a1, a2⟩ := ha.ex
  obtain ⟨tb, b1, b2⟩ := hb.ex
  refine ⟨_, pe_andT a1 b1, fun B H σ E c P Q s re m k => ?_⟩
  refine a2 B H σ E _ _ _ s re m fun d c1 v H1 m1 e1 s1 r1 => ?_
  obtain ⟨c, h1, h2⟩ := tru_of r1 m1
  refine ⟨c, h1, ?_⟩
  cases c with
  | true => exact b2 B H1 σ E _ _ _ (s.go e1 s1) (re.go s e1) h2 fun d2 c2' v2 H2 m2 e2 s2 r2 => k d2 _ v2 H2 m2 (e1.trans e2) s2 r2
  | false => exact k d _ v H1 h2 e1 s1 r1
theorem pd_if {c a b : Expr} {t : XT} {ma mb : XE} {pos : Pos} (hc : PDT X p c t) (ha : PD X p a ma) (hb : PD X p b mb) : PD X p (.IfExp c a b pos) (eIf t ma mb) := by
  obtain ⟨tc, c1, c2⟩ := hc.ex
  obtain ⟨ta, a1, a2⟩ := ha.ex
  obtain ⟨tb, b1, b2⟩ := hb.ex
  refine ⟨_, pe_ifExp c1 a1 b1, fun B H σ E c P Q s re m k => ?_⟩
  refine c2 B H σ E _ _ _ s re m fun b c1 H1 m1 e1 s1 => ?_
  cases b with
  | true => exact a2 B H1 σ E _ _ _ (s.go e1 s1) (re.go s e1) m1 fun d2 c2' v2 H2 m2 e2 s2 r2 => k d2 _ v2 H2 m2 (e1.trans e2) s2 r2
  | false => exact b2 B H1 σ E _ _ _ (s.go e1 s1) (re.go s e1) m1 fun d2 c2' v2 H2 m2 e2 s2 r2 => k d2 _ v2 H2 m2 (e1.trans e2) s2 r2
theorem pda_nil : PDA X p [] aNil := ⟨_, pa_nil, fun B H σ E c P Q s re m k => k [] _ [] H m Ev.refl s.si .nil⟩
theorem pda_cons {e : Expr} {es : List Expr} {m : XE} {r : XA} (he : PD X p e m) (hr : PDA X p es r) (hs : starEach (e :: es) X.env = (false, eval e X.env) :: starEach es X.env := by rfl) : PDA X p (e :: es) (aCons m r) := by
  obtain ⟨ta, a1, a2⟩ := he.ex
  obtain ⟨tb, b1, b2⟩ := hr.ex
  refine ⟨_, pa_cons a1 b1 hs, fun B H σ E c P Q s re m k => ?_⟩
  refine a2 B H σ E _ _ _ s re m fun d c1 v H1 m1 e1 s1 r1 => ?_
  refine b2 B H1 σ E _ _ _ (s.go e1 s1) (re.go s e1) m1 fun ds c2' vs H2 m2 e2 s2 r2 => ?_
  exact k _ _ _ H2 m2 (e1.trans e2) s2 (.cons (r1.tr ((s.go e1 s1).up e2)) r2)
theorem pd_tup {cb : Bool} {vb : Bool} (S : SitB cb vb X p k) {es : List Expr} {x1} {pos : Pos} {m : XA} (h : PDA X p es m) : PD X p (.Tuple es x1 pos) (eTup m) := by
  obtain ⟨ta, a1, a2⟩ := h.ex
  refine ⟨_, pe_tup a1, fun B H σ E c P Q s re m k => ?_⟩
  refine a2 B H σ E _ _ _ s re m fun ds c1 vs H1 m1 e1 s1 r1 => ?_
  have st1 := s.go e1 s1
  refine ⟨by rw [r1.length]; exact small_line m1.1, fun q hq => ?_⟩
  exact k _ _ _ _ m1.2 (e1.trans (All.new hq).ev) (st1.all S.ok (All.new hq)) (rep_tup hq r1)
theorem pd_lst {cb : Bool} {vb : Bool} (S : SitB cb vb X p k) {es : List Expr} {pos : Pos} {m : XA} (h : PDA X p es m) : PD X p (.List es pos) (eLst m) := by
  obtain ⟨ta, a1, a2⟩ := h.ex
  refine ⟨_, pe_lst a1, fun B H σ E c P Q s re m k => ?_⟩
  refine a2 B H σ E _ _ _ s re m fun ds c1 vs H1 m1 e1 s1 r1 => ?_
  have st1 := s.go e1 s1
  refine ⟨by rw [r1.length]; exact small_line m1.1, fun q hq => ?_⟩
  exact k _ _ _ _ m1.2 (e1.trans (All.new hq).ev) (st1.all S.ok (All.new hq)) (rep_lst st1.trk hq r1)
theorem pd_call1 {cb : Bool} {vb : Bool} (S : SitB cb vb X p k) {x : Str} {id : String} {f : D → W D} {a : Expr} {m : XE} {pn pos : Pos} (hc : CallR X (.builtin id) (rC1 X.K f)) (hm : X.mg x = none) (ha : PD X p a m) (hg : Gl X x := by rfl) (hv : bootBuiltins x = some (.builtin id) := by decide +kernel)
    (hn : x ≠ "__name__" := by decide) (hdb : (x == ("__debug__" : Str)) = false := by decide) (hs : starEach [a] X.env = (false, eval a X.env) :: starEach [] X.env := by rfl) : PD X p (.Call (.Name x pn) [a] [] pos) (fun E => bnd (m E) f) := by
  obtain ⟨ta, a1, a2⟩ := ha.ex
  refine ⟨_, pe_callB hc hg hm hv (pa_cons a1 pa_nil hs) hn hdb hs (by rfl), fun B H σ E c P Q s re m k => ?_⟩
  refine a2 B H σ E _ _ _ s re m fun d c1 v H1 m1 e1 s1 r1 => ?_
  have st1 := s.go e1 s1
  exact ⟨v, rfl, _, d, _, P, p.XP, st1.trk, r1, m1, fun z v3 H3 pz a3 r3 => k z _ v3 H3 pz (e1.trans a3.ev) (st1.all S.ok a3) r3⟩
theorem pd_callT1 {cb : Bool} {vb : Bool} (S : SitB cb vb X p k) {x : Str} {id : String} {f : D → W D} {a : Expr} {m : XE} {pn pos : Pos} (hc : CallR X (.type id) (rC1 X.K f)) (hm : X.mg x = none) (ha : PD X p a m) (hg : Gl X x := by rfl) (hv : bootBuiltins x = some (.type id) := by decide +kernel)
    (hn : x ≠ "__name__" := by decide) (hdb : (x == ("__debug__" : Str)) = false := by decide) (hs : starEach [a] X.env = (false, eval a X.env) :: starEach [] X.env := by rfl) : PD X p (.Call (.Name x pn) [a] [] pos) (fun E => bnd (m E) f) := by
  obtain ⟨ta, a1, a2⟩ := ha.ex
  refine ⟨_, pe_callTy hc hg hm hv (pa_cons a1 pa_nil hs) hn hdb hs (by rfl), fun B H σ E c P Q s re m k => ?_⟩
  refine a2 B H σ E _ _ _ s re m fun d c1 v H1 m1 e1 s1 r1 => ?_
  have st1 := s.go e1 s1
  exact ⟨v, rfl, _, d, _, P, p.XP, st1.trk, r1, m1, fun z v3 H3 pz a3 r3 => k z _ v3 H3 pz (e1.trans a3.ev) (st1.all S.ok a3) r3⟩
theorem pd_call2 {cb : Bool} {vb : Bool} (S : SitB cb vb X p k) {x : Str} {id : String} {f : D → D → W D} {a b : Expr} {m n : XE} {pn pos : Pos} (hc : CallR X (.builtin id) (rC2 X.K f)) (hm : X.mg x = none) (ha : PD X p a m) (hb : PD X p b n) (hg : Gl X x := by rfl) (hv : bootBuiltins x = some (.builtin id) := by decide +kernel)
    (hn : x ≠ "__name__" := by decide) (hdb : (x == ("__debug__" : Str)) = false := by decide) (hs : starEach [a, b] X.env = (false, eval a X.env) :: starEach [b] X.env := by rfl) (hs2 : starEach [b] X.env = (false, eval b X.env) :: starEach [] X.env := by rfl) (hpl : (backTo pos (starEach [b] X.env)).any (·.1) = false := by rfl) :
    PD X p (.Call (.Name x pn) [a, b] [] pos) (fun E => bnd (m E) fun x => bnd (n E) fun y => f x y) := by
  obtain ⟨ta, a1, a2⟩ := ha.ex
  obtain ⟨tb, b1, b2⟩ := hb.ex
  refine ⟨_, pe_callB hc hg hm hv (pa_cons a1 (pa_cons b1 pa_nil hs2) hs) hn hdb hs hpl, fun B H σ E c P Q s re m k => ?_⟩
  refine a2 B H σ E _ _ _ s re m fun d c1 v H1 m1 e1 s1 r1 => ?_
  have st1 := s.go e1 s1
  refine b2 B H1 σ E _ _ _ st1 (re.go s e1) m1 fun d2 c2' v2 H2 m2 e2 s2 r2 => ?_
  have st2 := st1.go e2 s2
  exact ⟨v, v2, rfl, _, d, d2, _, P, p.XP, st2.trk, r1.tr (st1.up e2), r2, m2, fun z v3 H3 pz a3 r3 => k z _ v3 H3 pz (e1.trans (e2.trans a3.ev)) (st2.all S.ok a3) r3⟩
theorem c_len : CallR X (.builtin "len") (rC1 X.K (bi1 .len)) := by
  intro pins s σ H xs us Q I r h
  obtain ⟨x, rfl, B, d, c, P, Xp, hb, r1, m, k⟩ := h
  cases r1 with
  | lst e n t =>
    refine call_len_seq pins s σ H _ us Q I r ⟨_, _, rfl, .inl (SqL.of e), ?_⟩
    rw [t.length]
    exact k _ _ H m All.refl (.int _)
  | tup e t =>
    refine call_len_seq pins s σ H _ us Q I r ⟨_, _, rfl, .inr e, ?_⟩
    rw [t.length]
    exact k _ _ H m All.refl (.int _)
  | str x => exact call_len_str pins s σ H _ us Q I r ⟨x, rfl, small_line m.1, k _ _ H m.2 All.refl (.int _)⟩
  | _ => exact m.elim
theorem c_abs : CallR X (.builtin "abs") (rC1 X.K (bi1 .abs)) := by
  intro pins s σ H xs us Q I r h
  obtain ⟨x, rfl, B, d, c, P, Xp, hb, r1, m, k⟩ := h
  cases r1 with
  | int i => exact call_abs pins s σ H _ us Q I r ⟨i, rfl, k _ _ H m All.refl (.int _)⟩
  | _ => exact m.elim
theorem c_max2 (hc : X.calm = true) : CallR X (.builtin "max") (rC2 X.K (bi2 .max)) := by
  intro pins s σ H xs us Q I r h
  obtain ⟨x, y, rfl, B, d, e, c, P, Xp, hb, r1, r2, m, k⟩ := h
  cases r1 with
  | int i =>
    cases r2 with
    | int j => exact call_max2 hc pins s σ H _ us Q I r ⟨i, j, rfl, k _ _ H m All.refl (.int _)⟩
    | _ => exact m.elim
  | _ => cases r2 <;> exact m.elim
theorem c_min2 (hc : X.calm = true) : CallR X (.builtin "min") (rC2 X.K (bi2 .min)) := by
  intro pins s σ H xs us Q I r h
  obtain ⟨x, y, rfl, B, d, e, c, P, Xp, hb, r1, r2, m, k⟩ := h
  cases r1 with
  | int i =>
    cases r2 with
    | int j => exact call_min2 hc pins s σ H _ us Q I r ⟨i, j, rfl, k _ _ H m All.refl (.int _)⟩
    | _ => exact m.elim
  | _ => cases r2 <;> exact m.elim
/-- a sequence of ints -/
theorem ints_seq {B : Addr → Prop} {H : Hp} {v : V} {d : D} {c : Sx} {P : List Int → Sx → Prop} {Xp : Exn → Sx → Prop} (r : Rep K B H v d) (m : intsOf d c P Xp) :
    ∃ (a : Addr) (ns : List Int), v = .ref a ∧ (H a = some (.lst (ns.map V.int)) ∨ SqT K H a (ns.map V.int)) ∧ P ns c := by
  have go : ∀ {xs : List V} {ds : List D}, Reps K B H xs ds → (match ints? ds with | some ns => ret ns | none => stuck) c P Xp → ∃ ns : List Int, xs = ns.map V.int ∧ P ns c := by
    intro xs ds t h
    cases e : ints? ds with
    | none => rw [e] at h; exact h.elim
    | some ns => rw [e] at h; exact ⟨ns, t.ints e, h⟩
  cases r with
  | lst e n t =>
    obtain ⟨ns, h1, h2⟩ := go t m
    subst h1
    exact ⟨_, ns, rfl, .inl e, h2⟩
  | tup e t =>
    obtain ⟨ns, h1, h2⟩ := go t m
    subst h1
    exact ⟨_, ns, rfl, .inr e, h2⟩
  | _ => exact m.elim
theorem c_sum (hc : X.calm = true) : CallR X (.builtin "sum") (rC1 X.K (bi1 .sum)) := by
  intro pins s σ H xs us Q I r h
  obtain ⟨x, rfl, B, d, c, P, Xp, hb, r1, m, k⟩ := h
  obtain ⟨a, ns, rfl, h1, h2⟩ := ints_seq r1 (show intsOf d c _ Xp from m)
  rcases h1 with h1 | h1
  · exact cr_sum hc pins s σ H _ us Q I r ⟨a, ns, rfl, SqL.of h1, k _ _ H h2 All.refl (.int _)⟩
  · obtain ⟨its, rv, pt, hz⟩ := I.tuple h1
    rw [Vals.ref1 r]
    have hi := rv.ints
    obtain ⟨ys, e⟩ := hi.allInts.items
    have hn : numsOf (intItems ys).toList = ns := by rw [← e]; exact hi.numsOf
    rw [nums_intItems] at hn
    rw [e] at pt
    refine PySem.W.ktm_sumG (I.ok.hd hc) pt fun h' tk t' hk => ?_
    rw [preSum_eq, List.take_of_length_le (by simp), hn]
    exact ⟨.int ns.sum, H, I.kept hk, ⟨_, rfl⟩, k _ _ H h2 All.refl (.int _)⟩
theorem reads_ints {h : Heap} : ∀ {vs : List Value} {ns : List Int}, IntsAre vs ns → ∃ as, ReadsAll h vs (ns.map PyData.int) as
  | _, _, .nil => ⟨_, .nil⟩
  | _, _, .cons n t q => by
    obtain ⟨as, r⟩ := reads_ints (h := h) q
    exact ⟨_, .cons (.int n t) r⟩
theorem alike_ints (ns : List Int) : PySem.W.AlikeAll (ns.map PyData.int) := by
  refine ⟨fun x hx y hy => ?_, fun x hx => ?_⟩
  · obtain ⟨a, _, rfl⟩ := List.mem_map.mp hx
    obtain ⟨b, _, rfl⟩ := List.mem_map.mp hy
    rfl
  · obtain ⟨a, _, rfl⟩ := List.mem_map.mp hx
    exact fun z => nomatch z
theorem depth_ints : ∀ ns : List Int, PyData.depthAll (ns.map PyData.int) = 0
  | [] => by simp [PyData.depthAll]
  | a :: r => by simp [PyData.depthAll, PyData.depth, depth_ints r]
theorem of_reads_int {h : Heap} {v : Value} {i : Int} {as : List Addr} (r : Reads h v (.int i) as) : ∃ t, v = .int i t := by
  cases r
  exact ⟨_, rfl⟩
theorem c_max {vb : Bool} (S : SitB true vb X p k) : CallR X (.builtin "max") (rC1 X.K (bi1 .max)) := by
  intro pins s σ H xs us Q I r h
  obtain ⟨x, rfl, B, d, c, P, Xp, hb, r1, m, kk⟩ := h
  obtain ⟨a, ns, rfl, h1, h2⟩ := ints_seq r1 (show intsOf d c _ Xp from m)
  cases ns with
  | nil => exact h2.elim
  | cons n ns =>
    have hu : X.A.units + 1 + PyData.depthAll (PyData.int n :: ns.map PyData.int) < cLine := by
      have e := depth_ints (n :: ns)
      have q := S.un
      rw [List.map_cons] at e
      rw [e]
      omega
    have fin : ∀ (v : Value) (h' : Heap) (tk : Nat) (bs : List Addr), Reads h' v (PySem.W.maxD (.int n) (ns.map .int)) bs → (∀ b o, s.heap.get? b = some o → h'.get? b = some o) → EP X pins σ Q v { s with heap := h', toks := tk } := by
      intro v h' tk bs hr hk
      rw [PySem.W.maxD_ints] at hr
      obtain ⟨t, rfl⟩ := of_reads_int hr
      exact ⟨.int _, H, I.kept hk, ⟨_, rfl⟩, kk _ _ H h2 All.refl (.int _)⟩
    rw [Vals.ref1 r]
    rcases h1 with h1 | h1
    · obtain ⟨its, rv, pl, hz⟩ := I.list (SqL.of h1)
      obtain ⟨as, ra⟩ := reads_ints (h := s.heap) rv.ints
      exact PySem.W.max_list_data (I.ok.hd S.calm) pl.isList ra (alike_ints (n :: ns)) hu fun i v h' tk bs _ hr hk => fin v h' tk bs hr hk
    · obtain ⟨its, rv, pt, hz⟩ := I.tuple h1
      obtain ⟨as, ra⟩ := reads_ints (h := s.heap) rv.ints
      exact PySem.W.max_tuple_data (I.ok.hd S.calm) pt ra (alike_ints (n :: ns)) hu fun i v h' tk bs _ hr hk => fin v h' tk bs hr hk
theorem sm_none {pins : List (Addr × Obj)} {σ : L2.St} {H : Hp} {s : Shared} (sm : HasSm X.base) (I : Inv X pins σ H s) : H sysModules = none := by
  obtain ⟨o, e⟩ := sm
  exact (I.bs _ _ e).2
section
variable {pins : List (Addr × Obj)} {σ : L2.St} {H : Hp} {s : Shared}
mutual
theorem rep_reads {B : Addr → Prop} (I : Inv X pins σ H s) (hn : H sysModules = none) : ∀ {v : V} {d : D} {u : Value}, plain d = true → Rep X.K B H v d → RelV v u → ∃ as, Reads s.heap u d as ∧ sysModules ∉ as
  | _, _, _, _, .non, r => by cases r; exact ⟨_, .none, by simp⟩
  | _, _, _, _, .bl b, r => by cases r; exact ⟨_, .bool b, by simp⟩
  | _, _, _, _, .int i, r => by obtain ⟨t, rfl⟩ := r; exact ⟨_, .int i t, by simp⟩
  | _, _, _, _, .str x, r => by obtain ⟨t, rfl⟩ := r; exact ⟨_, .str x t, by simp⟩
  | _, _, _, h, .lst (a := a) e n q, r => by
    cases r
    obtain ⟨its, rv, ⟨o, n, ho, hc, _, hd⟩, _⟩ := I.list (SqL.of e)
    obtain ⟨as, hr, hs⟩ := reps_reads I hn (by simpa [plain] using h) q rv
    refine ⟨_, .list ho hc hd hr, fun z => ?_⟩
    rcases List.mem_cons.mp z with z | z
    · subst z
      rw [hn] at e
      cases e
    · exact hs z
  | _, _, _, h, .tup e q, r => by
    cases r
    obtain ⟨its, rv, ⟨o, ho, hc, n, hd⟩, _⟩ := I.tuple e
    obtain ⟨as, hr, hs⟩ := reps_reads I hn (by simpa [plain] using h) q rv
    exact ⟨_, .tuple ho hc hd hr, hs⟩
  | _, _, _, _, .dct0 (a := a) e _, r => by
    cases r
    obtain ⟨_, sm, vs, kv, o, es, ep, ho, ex, hd, _, pr, _⟩ := dk_of I.hok e
    cases kv
    have h0 : es.toList = [] := by cases pr' : es.toList with | nil => rfl | cons a b => rw [pr'] at pr; cases pr
    refine ⟨_, .dict (as := []) (bs := []) ho ex.1 hd (by rw [h0]; exact .nil) (by rw [h0]; exact .nil), fun z => ?_⟩
    have : sysModules = a := by simpa using z
    rw [← this] at sm
    simp at sm
  | .ref a, .dict [(.str x, _)], _, h, .dct1 e _ q, r => by
    cases r
    obtain ⟨_, sm, vs, kv, o, es, ep, ho, ex, hd, _, pr, _⟩ := dk_of I.hok e
    cases kv with
    | @cons _ kk _ vs' hk hr =>
      cases hr
      obtain ⟨hk1, hk2⟩ := hk
      obtain ⟨as, hr, hs⟩ := rep_reads I hn (by simpa [plain] using h) q hk2
      cases pr' : es.toList with
      | nil => rw [pr'] at pr; cases pr
      | cons en rest =>
        rw [pr'] at pr
        cases pr with
        | cons p1 p2 p3 =>
          cases p3
          have hk : keyIs (.inr x) en.key = true := by
            have e2 : (Sum.inr x : Key) = kk.1 := hk1
            rw [e2]; exact p1
          have hkey : ∃ t, en.key = .str x t := by
            rcases keyIs_shape hk with ⟨i, t, z, _⟩ | ⟨y, t, z, ek⟩
            · cases z
            · cases z; exact ⟨t, ek⟩
          obtain ⟨t, ek⟩ := hkey
          refine ⟨_, .dict (as := [] ++ []) (bs := as ++ []) ho ex.1 hd (by rw [pr']; simp only [List.map_cons, List.map_nil, ek]; exact .cons (.str x t) .nil) (by rw [pr']; simp only [List.map_cons, List.map_nil, p2]; exact .cons hr .nil), fun z => ?_⟩
          simp only [List.append_nil, List.cons_append, List.nil_append, List.mem_cons] at z
          rcases z with z | z
          · rw [← z] at sm
            simp at sm
          · exact hs z
  | _, _, _, h, .exn0 _ _ _, _ => by simp [plain, xD] at h
  | _, _, _, h, .exn1 _ _ _ _ _ _, _ => by simp [plain, xD] at h
theorem reps_reads {B : Addr → Prop} (I : Inv X pins σ H s) (hn : H sysModules = none) : ∀ {vs : List V} {ds : List D} {us : List Value}, plainAll ds = true → Reps X.K B H vs ds → Vals vs us → ∃ as, ReadsAll s.heap us ds as ∧ sysModules ∉ as
  | _, _, _, _, .nil, r => by cases r; exact ⟨_, .nil, by simp⟩
  | _, _, _, h, .cons q t, r => by
    cases r with
    | cons r1 r2 =>
      simp only [plainAll, Bool.and_eq_true] at h
      obtain ⟨as, a1, a2⟩ := rep_reads I hn h.1 q r1
      obtain ⟨bs, b1, b2⟩ := reps_reads I hn h.2 t r2
      exact ⟨_, .cons a1 b1, by simp [a2, b2]⟩
end
end
theorem c_repr {cb vb : Bool} (S : SitB cb vb X p k) : CallR X (.builtin "repr") (rC1 X.K (bi1 .repr)) := by
  intro pins s σ H xs us Q I r h
  obtain ⟨x, rfl, B, d, c, P, Xp, hb, r1, ⟨⟨hs, hd, hz, hpl⟩, m⟩, kk⟩ := h
  obtain ⟨u, rfl, ru⟩ := vals1 r
  obtain ⟨as, rd, hsm⟩ := rep_reads I (sm_none S.sm I) hpl r1 ru
  have hz' : d.shown.length ≤ sizeLine := small_line hz
  have fin : ∀ (h' : Heap) (t tk : Nat), (∀ b o, s.heap.get? b = some o → h'.get? b = some o) → EP X pins σ Q (.str d.shown t) { s with heap := h', toks := tk } := fun h' t tk hk =>
    ⟨.str d.shown, H, I.kept hk, ⟨_, rfl⟩, kk _ _ H m All.refl (.str _)⟩
  cases rd with
  | none => exact PySem.P.repr_of_none (by simpa [PyData.shown] using fin s.heap s.toks (s.toks + 1) fun _ _ e => e)
  | bool b => exact PySem.P.repr_of_bool (by simpa [PyData.shown] using fin s.heap s.toks (s.toks + 1) fun _ _ e => e)
  | int i t => exact PySem.P.repr_of_int (by simpa [PyData.showable] using hs) (by simpa [PyData.shown] using fin s.heap s.toks (s.toks + 1) fun _ _ e => e)
  | str x t => exact PySem.P.repr_of_str (by simpa [PyData.shown] using fin s.heap s.toks (s.toks + 1) fun _ _ e => e) (by simpa [PyData.shown] using hz')
  | list h1 h2 h3 h4 => exact repr_of_reads' (.list h1 h2 h3 h4) hs (fun _ => hsm) S.gd (by have := S.un; omega) (fun _ _ e => e) (fun h' t tk hk => fin h' t tk hk) hz'
  | tuple h1 h2 h3 h4 => exact repr_of_reads' (.tuple h1 h2 h3 h4) hs (fun _ => hsm) S.gd (by have := S.un; omega) (fun _ _ e => e) (fun h' t tk hk => fin h' t tk hk) hz'
  | dict h1 h2 h3 h4 h5 => exact repr_of_reads' (.dict h1 h2 h3 h4 h5) hs (fun _ => hsm) S.gd (by have := S.un; omega) (fun _ _ e => e) (fun h' t tk hk => fin h' t tk hk) hz'
theorem c_int : CallR X (.type "int") (rC1 X.K (bi1 .int)) := by
  intro pins s σ H xs us Q I r h
  obtain ⟨x, rfl, B, d, c, P, Xp, hb, r1, m, k⟩ := h
  cases r1 with
  | int i => exact call_int1 pins s σ H _ us Q I r (.inl ⟨i, rfl, k _ _ H m All.refl (.int _)⟩)
  | bl b => exact call_int1 pins s σ H _ us Q I r (.inr ⟨b, rfl, k _ _ H m All.refl (.int _)⟩)
  | _ => exact m.elim
theorem c_tuple : CallR X (.type "tuple") (rC1 X.K (bi1 .tuple)) := by
  intro pins s σ H xs us Q I r h
  obtain ⟨x, rfl, B, d, c, P, Xp, hb, r1, m, k⟩ := h
  cases r1 with
  | lst e n t => exact call_tuple_of pins s σ H _ us Q I r ⟨_, _, rfl, .inl ⟨SqL.of e, fun q hq => k _ _ _ m (All.new hq) (rep_tup hq t)⟩⟩
  | tup e t => exact call_tuple_of pins s σ H _ us Q I r ⟨_, _, rfl, .inr ⟨e, k _ _ H m All.refl (.tup e t)⟩⟩
  | _ => exact m.elim
def tyS : Ty → String
  | .int => "int"
  | .bool => "bool"
  | .tuple => "tuple"
  | .str => "str"
  | .list => "list"
  | .dict => "dict"
theorem sq_ty {H : Hp} {a : Addr} {xs : List V} (h : SqT K H a xs) : TyX K H (.ref a) (.type "tuple") := by
  rcases h with (h | ⟨o, h⟩) | ⟨o, its, n, h, hc, _⟩
  · exact .base (.tup h)
  · exact .fTuple h
  · exact .kTuple h hc
theorem ty_of {B : Addr → Prop} {H : Hp} {v : V} {d : D} (h : noXn d = true) (r : Rep K B H v d) : TyX K H v (.type (tyName d)) := by
  cases r with
  | non => exact .base .non
  | bl b => exact .base (.bl b)
  | int i => exact .base (.int i)
  | str x => exact .base (.str x)
  | lst e n t => exact .base (.lst e)
  | tup e t => exact sq_ty e
  | dct0 e _ => exact .base (.dK e)
  | dct1 e _ _ => exact .base (.dK e)
  | _ => exact absurd h (by simp [noXn, xD, wD, rD])
theorem kt_none : ∀ t : Ty, kitB "NoneType" (tyS t) = some (isTy t .none) := fun t => by cases t <;> decide +kernel
theorem kt_bool : ∀ t : Ty, kitB "bool" (tyS t) = some (isTy t (.bool true)) := fun t => by cases t <;> decide +kernel
theorem kt_int : ∀ t : Ty, kitB "int" (tyS t) = some (isTy t (.int 0)) := fun t => by cases t <;> decide +kernel
theorem kt_str : ∀ t : Ty, kitB "str" (tyS t) = some (isTy t (.str Str.empty)) := fun t => by cases t <;> decide +kernel
theorem kt_list : ∀ t : Ty, kitB "list" (tyS t) = some (isTy t (.list [])) := fun t => by cases t <;> decide +kernel
theorem kt_tuple : ∀ t : Ty, kitB "tuple" (tyS t) = some (isTy t (.tuple [])) := fun t => by cases t <;> decide +kernel
theorem kt_dict : ∀ t : Ty, kitB "dict" (tyS t) = some (isTy t (.dict [])) := fun t => by cases t <;> decide +kernel
theorem kit_isTy (t : Ty) (d : D) : kitB (tyName d) (tyS t) = some (isTy t d) := by
  cases d with
  | none => exact kt_none t
  | bool b => exact (kt_bool t).trans (by cases t <;> rfl)
  | int b => exact (kt_int t).trans (by cases t <;> rfl)
  | str b => exact (kt_str t).trans (by cases t <;> rfl)
  | list b => exact (kt_list t).trans (by cases t <;> rfl)
  | tuple b => exact (kt_tuple t).trans (by cases t <;> rfl)
  | dict b => exact (kt_dict t).trans (by cases t <;> rfl)
theorem pd_is {cb : Bool} {vb : Bool} (S : SitB cb vb X p k) (t : Ty) {a : Expr} {m : XE} {pn pq pos : Pos} (ha : PD X p a m) (hm : X.mg "isinstance" = none) (hmt : X.mg (tyS t : Str) = none) (hg : Gl X "isinstance" := by rfl) (hgt : Gl X (tyS t : Str) := by rfl)
    (hs : starEach [a, .Name (tyS t : Str) pq] X.env = (false, eval a X.env) :: starEach [.Name (tyS t : Str) pq] X.env := by rfl)
    (hs2 : starEach [.Name (tyS t : Str) pq] X.env = (false, eval (.Name (tyS t : Str) pq) X.env) :: starEach [] X.env := by rfl) (hpl : (backTo pos (starEach [.Name (tyS t : Str) pq] X.env)).any (·.1) = false := by rfl) :
    PD X p (.Call (.Name "isinstance" pn) [a, .Name (tyS t : Str) pq] [] pos) (eIs t m) := by
  obtain ⟨ta, a1, a2⟩ := ha.ex
  have hv : bootBuiltins (tyS t : Str) = some (.type (tyS t)) := by cases t <;> decide +kernel
  have hn : (tyS t : Str) ≠ "__name__" := by cases t <;> decide
  have hdb : ((tyS t : Str) == ("__debug__" : Str)) = false := by cases t <;> decide
  have hT : PE X (.Name (tyS t : Str) pq) (tC (.ty (tyS t))) := pe_bltn hgt hmt hv rfl hn hdb
  refine ⟨_, pe_callB call_isi hg hm (by decide +kernel) (pa_cons a1 (pa_cons hT pa_nil hs2) hs) (by decide) (by decide) hs hpl, fun B H σ E c P Q s re m k => ?_⟩
  refine a2 B H σ E _ _ _ s re m fun d c1 v H1 m1 e1 s1 r1 => ?_
  exact ⟨v, .ty (tyS t), _, _, isTy t d, rfl, .ty _, ty_of m1.1 r1, kit_ty (kit_isTy t d), k _ _ _ H1 m1.2 e1 s1 (.bl _)⟩
theorem atI_rep {B : Addr → Prop} {H : Hp} {xs : List V} {ds : List D} (t : Reps K B H xs ds) {i : Int} {d : D} (h : atI ds i = some d) : ∃ v, atI xs i = some v ∧ Rep K B H v d := by
  unfold atI at h ⊢
  rw [t.length]
  cases e : ixN ds.length i with
  | none => rw [e] at h; cases h
  | some j =>
    rw [e] at h
    exact t.get h
theorem ix_D : IxR X (rD2 X.K opIdx) := by
  intro value slice pins s σ H x y v u Q I rx ry h hs
  obtain ⟨_, d, e, c, P, Xp, hb, r1, r2, m, k⟩ := h
  cases r1 with
  | @tup a xs ds q t =>
    cases r2 with
    | int i =>
      have m' : (match L2.atI ds i with | some d => ret d | none => stuck) c P Xp := m
      cases ea : atI ds i with
      | none => rw [ea] at m'; exact m'.elim
      | some z =>
        rw [ea] at m'
        obtain ⟨w, h1, h2⟩ := atI_rep t ea
        exact ix_tup value slice pins s σ H _ _ v u Q I rx ry ⟨a, xs, i, w, rfl, rfl, q, h1, k _ _ H m' All.refl h2⟩ hs
    | _ => exact m.elim
  | @lst a xs ds q n t =>
    cases r2 with
    | int i =>
      have m' : (match L2.atI ds i with | some d => ret d | none => stuck) c P Xp := m
      cases ea : atI ds i with
      | none => rw [ea] at m'; exact m'.elim
      | some z =>
        rw [ea] at m'
        obtain ⟨w, h1, h2⟩ := atI_rep t ea
        exact ix_list value slice pins s σ H _ _ v u Q I rx ry ⟨a, xs, i, w, rfl, rfl, SqL.of q, h1, k _ _ H m' All.refl h2⟩ hs
    | _ => exact m.elim
  | _ => exact m.elim
theorem pd_ix {cb : Bool} {vb : Bool} (S : SitB cb vb X p k) {a b : Expr} {ma mb : XE} {pos : Pos} (ha : PD X p a ma) (hb : PD X p b mb) (hs : PlainIx b := by exact fun _ _ => rfl) : PD X p (.Subscript a b pos) (eIdx ma mb) := by
  obtain ⟨ta, a1, a2⟩ := ha.ex
  obtain ⟨tb, b1, b2⟩ := hb.ex
  exact ⟨_, pe_ix ix_D a1 b1 hs, ev_bnd S.ok (fun _ _ _ _ h => h) a2 b2⟩
structure PDO (X : Cx) (p : Par) (e : Option Expr) (m : XO) : Prop where
  ex : ∃ t, PO X e t ∧ ∀ (B : Addr → Prop) (H : Hp) (σ : L2.St) (E : Env) (c : Sx) (P : Option Int → Sx → Prop) (Q : Option Int → Hp → Prop), St0 p c B H → EnvR X.K p c B H σ E → m E c P p.XP → (∀ o c' H', P o c' → Ev p c H c' H' → p.SI c' H' → Q o H') → t σ H Q
theorem pdo_none : PDO X p none oNone := ⟨_, po_none, fun B H σ E c P Q s re m k => k none _ H m Ev.refl s.si⟩
theorem pdo_some {a : Expr} {m : XE} (ha : PD X p a m) : PDO X p (some a) (oSome m) := by
  obtain ⟨ta, a1, a2⟩ := ha.ex
  refine ⟨_, po_some a1, fun B H σ E c P Q s re m k => ?_⟩
  refine a2 B H σ E _ _ _ s re m fun d c1 v H1 m1 e1 s1 r1 => ?_
  cases r1 with
  | int i => exact ⟨i, rfl, k _ _ H1 m1 e1 s1⟩
  | _ => exact m1.elim
theorem Reps.cut {B : Addr → Prop} {H : Hp} {xs : List V} {ds : List D} (t : Reps K B H xs ds) (lo hi : Option Int) : Reps K B H (cutV xs lo hi) (DL.cut ds lo hi) := by
  unfold cutV DL.cut
  rw [t.length]
  exact (t.drop _).take _
theorem cut_whole (ds : List D) (lo hi : Option Int) (h1 : HT.sIx ds.length 0 lo = 0) (h2 : HT.sIx ds.length ds.length hi = ds.length) : DL.cut ds lo hi = ds := by
  unfold DL.cut
  rw [h1, h2]
  simp
def rCut (K : PySem.W.Frag) : V → Option Int → Option Int → Hp → VK → Prop := fun x lo hi H Q => rD1 K (fun d => opCut d lo hi) x H Q
theorem sl_D : SlR X (rCut X.K) := by
  intro pins s σ H x v vl vu lo hi sl Q I rx hs pl pu h
  obtain ⟨_, d, c, P, Xp, hb, r1, m, k⟩ := h
  cases r1 with
  | @tup a xs ds q t =>
    refine sl_tupA pins s σ H _ v vl vu lo hi sl Q I rx hs pl pu ⟨a, xs, rfl, q, fun ⟨h1, h2⟩ => ?_, fun _ w hw => k _ _ _ m (All.new hw) (rep_tup hw (t.cut lo hi))⟩
    rw [t.length] at h1 h2
    refine k _ _ H m All.refl ?_
    rw [cut_whole ds lo hi h1 h2]
    exact .tup q t
  | @lst a xs ds q n t =>
    exact sl_list pins s σ H _ v vl vu lo hi sl Q I rx hs pl pu ⟨a, xs, rfl, SqL.of q, fun w hw => k _ _ _ m (All.new hw) (rep_lst hb hw (t.cut lo hi))⟩
  | str x => exact sl_str pins s σ H _ v vl vu lo hi sl Q I rx hs pl pu ⟨x, rfl, small_line m.1, k _ _ H m.2 All.refl (.str _)⟩
  | _ => exact m.elim
theorem pd_cut {cb : Bool} {vb : Bool} (S : SitB cb vb X p k) {e : Expr} {lo hi : Option Expr} {m : XE} {ml mh : XO} {p2 pos : Pos} (he : PD X p e m) (hl : PDO X p lo ml) (hh : PDO X p hi mh) : PD X p (.Subscript e (.Slice lo hi none p2) pos) (eCut m ml mh) := by
  obtain ⟨ta, a1, a2⟩ := he.ex
  obtain ⟨tl, l1, l2⟩ := hl.ex
  obtain ⟨th, h1, h2⟩ := hh.ex
  refine ⟨_, pe_slice sl_D a1 l1 h1, fun B H σ E c P Q s re m k => ?_⟩
  refine a2 B H σ E _ _ _ s re m fun d c1 v H1 m1 e1 s1 r1 => ?_
  have st1 := s.go e1 s1
  refine l2 B H1 σ E _ _ _ st1 (re.go s e1) m1 fun o1 c2' H2 m2 e2 s2 => ?_
  have st2 := st1.go e2 s2
  refine h2 B H2 σ E _ _ _ st2 ((re.go s e1).go st1 e2) m2 fun o2 c3' H3 m3 e3 s3 => ?_
  have st3 := st2.go e3 s3
  exact ⟨_, d, _, P, p.XP, st3.trk, (r1.tr (st1.up e2)).tr (st2.up e3), m3, fun z v3 H4 pz a3 r3 => k z _ v3 H4 pz (e1.trans (e2.trans (e3.trans a3.ev))) (st3.all S.ok a3) r3⟩
end
end DL
end
section
namespace DL
open PySem PySem.Spec PyProof.Rows L2
section
variable {K : PySem.W.Frag} {p : Par} {B B' : Addr → Prop} {H H' : Hp} {σ : L2.St} {E : Env} {n : Sx}
theorem getElem?_set_cases {α : Type} {l : List α} {i j : Nat} {a b : α} (h : (l.set i a)[j]? = some b) : (i = j ∧ j < l.length ∧ a = b) ∨ (i ≠ j ∧ l[j]? = some b) := by
  by_cases e : i = j
  · subst e
    by_cases hl : i < l.length
    · rw [List.getElem?_set_self hl] at h
      exact .inl ⟨rfl, hl, Option.some.inj h⟩
    · rw [List.getElem?_eq_none (by rw [List.length_set]; omega)] at h
      cases h
  · rw [List.getElem?_set_ne e] at h
    exact .inr ⟨e, h⟩
theorem EnvR.put (r : EnvR K p n B H σ E) (hf : p.fx = none) (i : Nat) {s : Option V} {e : Ent} (h : Slot K p n B H s e) (no : ∀ ds, e ≠ .own ds) : EnvR K p n B H (σ.set i s) (E.set i e) := by
  refine ⟨by rw [List.length_set, List.length_set]; exact r.len, fun j e' q => ?_, fun a b x xs ys h1 h2 h3 h4 => ?_, .no hf, fun j a xs hp hj => ?_⟩
  · rcases getElem?_set_cases q with ⟨rfl, hl, rfl⟩ | ⟨ne, q⟩
    · exact ⟨s, List.getElem?_set_self (by rw [r.len]; exact hl), h⟩
    · rw [List.getElem?_set_ne ne]
      exact r.at_ j e' q
  · rcases getElem?_set_cases h1 with ⟨_, _, z⟩ | ⟨n1, h1⟩
    · exact absurd z (no xs)
    · rcases getElem?_set_cases h2 with ⟨_, _, z⟩ | ⟨n2, h2⟩
      · exact absurd z (no ys)
      · rw [List.getElem?_set_ne n1] at h3
        rw [List.getElem?_set_ne n2] at h4
        exact r.nd a b x xs ys h1 h2 h3 h4
  · rcases getElem?_set_cases hj with ⟨_, _, z⟩ | ⟨n1, hj⟩
    · exact absurd z (no xs)
    · rw [List.getElem?_set_ne n1]
      exact r.pn j a xs hp hj
theorem EnvR.unk (r : EnvR K p n B H σ E) (hf : p.fx = none) (i : Nat) (s : Option V) : EnvR K p n B H (σ.set i s) (E.set i .unk) := r.put hf i (.unk s) fun _ z => nomatch z
theorem EnvR.val (r : EnvR K p n B H σ E) (hf : p.fx = none) (i : Nat) {v : V} {d : D} (h : Rep K (bm p B n) H v d) : EnvR K p n B H (σ.set i (some v)) (E.set i (.val d)) := r.put hf i (.val h) fun _ z => nomatch z
theorem EnvR.wipe (r : EnvR K p n B H σ E) (hf : p.fx = none) : ∀ vs : List Nat, EnvR K p n B H (L2.wipe σ vs) (wipeE E vs)
  | [] => r
  | v :: vs => (r.wipe hf vs).unk hf v none
/-- other places -/
theorem Slot.grow (h : ∀ a, B' a → H a ≠ none → B a) (k : ∀ a, B a → B' a) {x : Option V} {y : Ent} (s : Slot K p n B H x y) : Slot K p n B' H x y := by
  cases s with
  | unk _ => exact .unk _
  | val r => exact .val (r.grow fun a z q => z.imp (fun z => h a z q) id)
  | own b n nc h0 hl r => exact .own (k _ b) n nc h0 hl (r.grow fun a z q => z.imp (fun z => h a z q) id)
  | stm => exact .stm
  | scr q => exact .scr q
theorem EnvR.grow (r : EnvR K p n B H σ E) (hf : p.fx = none) (h : ∀ a, B' a → H a ≠ none → B a) (k : ∀ a, B a → B' a) : EnvR K p n B' H σ E :=
  ⟨r.len, fun i e q => let ⟨s, h1, h2⟩ := r.at_ i e q; ⟨s, h1, h2.grow h k⟩, r.nd, .no hf, r.pn⟩
/-- the own list at i is a value from here on: its place is no more of B -/
def less (B : Addr → Prop) (q : Addr) : Addr → Prop := fun a => B a ∧ a ≠ q
theorem EnvR.rel (r : EnvR K p n B H σ E) (hf : p.fx = none) (st : St0 p n B H) {i : Nat} {ds : List D} (h : E[i]? = some (.own ds)) :
    ∃ q, EnvR K p n (less B q) H σ (E.set i (.val (.list ds))) ∧ St0 p n (less B q) H ∧ ¬ p.B0 n q ∧ ¬ p.Bc q ∧ B q := by
  obtain ⟨s, h1, h2⟩ := r.at_ i _ h
  have ls : ∀ q a, bm p (less B q) n a → bm p B n a := fun q a z => z.imp (fun z => z.1) id
  cases h2 with
  | @own q xs _ b nb nc h0 hl rs =>
    refine ⟨q, ⟨by rw [List.length_set]; exact r.len, fun j e he => ?_, fun a b x xs ys g1 g2 g3 g4 => ?_, .no hf, fun j a xs hp hj => ?_⟩, ⟨fun a z => (st.subc a z).imp (fun b => ⟨b, fun e => nc (e ▸ z)⟩) id, fun a z => st.trk a (ls q a z), st.si, st.ext⟩, nb, nc, b⟩
    · rcases getElem?_set_cases he with ⟨rfl, _, rfl⟩ | ⟨ne, he⟩
      · exact ⟨_, h1, .val (.lst hl (fun z => z.elim (fun z => z.2 rfl) nb) (rs.less (ls q)))⟩
      · obtain ⟨s', g1, g2⟩ := r.at_ j e he
        refine ⟨s', g1, ?_⟩
        cases g2 with
        | unk _ => exact .unk _
        | val z => exact .val (z.less (ls q))
        | own b' n' nc' h0' hl' rs' => exact .own ⟨b', fun z => ne (r.nd i j q _ _ h he h1 (z ▸ g1))⟩ n' nc' h0' hl' (rs'.less (ls q))
        | stm => exact .stm
        | scr q => exact .scr q
    · rcases getElem?_set_cases g1 with ⟨_, _, z⟩ | ⟨n1, g1⟩
      · cases z
      · rcases getElem?_set_cases g2 with ⟨_, _, z⟩ | ⟨n2, g2⟩
        · cases z
        · exact r.nd a b x xs ys g1 g2 g3 g4
    · rcases getElem?_set_cases hj with ⟨_, _, z⟩ | ⟨n1, hj⟩
      · cases z
      · exact r.pn j a xs hp hj
/-- a new list is owned -/
def more (B : Addr → Prop) (q : Addr) : Addr → Prop := fun a => B a ∨ a = q
theorem EnvR.own (r : EnvR K p n B H σ E) (hp : ∀ i, p.pin i = none) (hf : p.fx = none) (st : St0 p n B H) (i : Nat) {q : Addr} {xs : List V} {ds : List D} (hq : H q = some (.lst xs)) (nb : ¬ B q) (nb0 : ¬ p.B0 n q) (h0 : p.H0 q = none) (fr : ∀ a, B a → a ≠ q) (rs : Reps K (bm p (more B q) n) H xs ds)
    (old : ∀ (j : Nat) (v : V) (d : D), E[j]? = some (.val d) → j ≠ i → σ[j]? = some (some v) → Rep K (bm p (more B q) n) H v d)
    (olo : ∀ (j : Nat) (a : Addr) (ys : List V) (es : List D), E[j]? = some (.own es) → σ[j]? = some (some (.ref a)) → H a = some (.lst ys) → Reps K (bm p (more B q) n) H ys es) :
    EnvR K p n (more B q) H (σ.set i (some (.ref q))) (E.set i (.own ds)) ∧ St0 p n (more B q) H := by
  refine ⟨⟨by rw [List.length_set, List.length_set]; exact r.len, fun j e he => ?_, fun a b x xs' ys g1 g2 g3 g4 => ?_, .no hf, fun j a xs h _ => by rw [hp j] at h; cases h⟩, ⟨fun a z => (st.subc a z).imp .inl id, fun a z => ?_, st.si, st.ext⟩⟩
  · rcases getElem?_set_cases he with ⟨rfl, hl, rfl⟩ | ⟨ne, he⟩
    · exact ⟨_, List.getElem?_set_self (by rw [r.len]; exact hl), .own (.inr rfl) nb0 (fun z => (st.subc _ z).elim nb nb0) h0 hq rs⟩
    · rw [List.getElem?_set_ne ne]
      obtain ⟨s, g1, g2⟩ := r.at_ j e he
      refine ⟨s, g1, ?_⟩
      cases g2 with
      | unk _ => exact .unk _
      | val z => exact .val (old j _ _ he (Ne.symm ne) g1)
      | own b' n' nc' h0' hl' rs' => exact .own (.inl b') n' nc' h0' hl' (olo j _ _ _ he g1 hl')
      | stm => exact .stm
      | scr q => exact .scr q
  · rcases getElem?_set_cases g1 with ⟨e1, l1, z1⟩ | ⟨n1, g1⟩
    · rcases getElem?_set_cases g2 with ⟨e2, l2, z2⟩ | ⟨n2, g2⟩
      · rw [← e1, ← e2]
      · subst e1
        rw [List.getElem?_set_self (by rw [r.len]; exact l1)] at g3
        rw [List.getElem?_set_ne n2] at g4
        have ex : q = x := by
          have := Option.some.inj (Option.some.inj g3)
          cases this
          rfl
        subst ex
        obtain ⟨s, k1, k2⟩ := r.at_ b _ g2
        rw [g4] at k1
        cases k1
        cases k2 with
        | own b' _ _ _ _ _ => exact absurd b' nb
    · rcases getElem?_set_cases g2 with ⟨e2, l2, z2⟩ | ⟨n2, g2⟩
      · subst e2
        rw [List.getElem?_set_self (by rw [r.len]; exact l2)] at g4
        rw [List.getElem?_set_ne n1] at g3
        have ex : q = x := by
          have := Option.some.inj (Option.some.inj g4)
          cases this
          rfl
        subst ex
        obtain ⟨s, k1, k2⟩ := r.at_ a _ g1
        rw [g3] at k1
        cases k1
        cases k2 with
        | own b' _ _ _ _ _ => exact absurd b' nb
      · rw [List.getElem?_set_ne n1] at g3
        rw [List.getElem?_set_ne n2] at g4
        exact r.nd a b x xs' ys g1 g2 g3 g4
  · rcases z with (z | z) | z
    · exact st.trk a (.inl z)
    · rw [z, hq]
      exact fun z => nomatch z
    · exact st.trk a (.inr z)
end
def SR (K : PySem.W.Frag) (p : Par) (ts : TS) (m : XS) : Prop :=
  ∀ (B : Addr → Prop) (H : Hp) (σ : L2.St) (E : Env) (c : Sx) (P : Out → Sx → Prop) (Dn : Ends), St0 p c B H → EnvR K p c B H σ E → m E c P p.XP →
    (∀ E' c' B' σ' H', P (.nx E') c' → St0 p c' B' H' → Tr (bm p B c) H (bm p B' c') H' → EnvR K p c' B' H' σ' E' → Dn.nx σ' H') →
    (∀ d c' v H', P (.rt d) c' → p.SI c' H' → Ev p p.c0 p.H0 c' H' → Rep K (bm p p.Bc c') H' v d → Dn.rt v H') →
    (∀ E' c' B' σ' H', P (.bk E') c' → St0 p c' B' H' → Tr (bm p B c) H (bm p B' c') H' → EnvR K p c' B' H' σ' E' → Dn.bk σ' H') →
    (∀ E' c' B' σ' H', P (.ct E') c' → St0 p c' B' H' → Tr (bm p B c) H (bm p B' c') H' → EnvR K p c' B' H' σ' E' → Dn.ct σ' H') → ts Dn σ H
structure PSD (X : Cx) (p : Par) (st : Stmt) (m : XS) : Prop where
  ex : ∃ ts, PS X st ts ∧ SR X.K p ts m
structure PSSD (X : Cx) (p : Par) (sts : List Stmt) (m : XS) : Prop where
  ex : ∃ ts, PSs X sts ts ∧ SR X.K p ts m
section
variable {X : Cx} {p : Par} {k : Nat} {K : PySem.W.Frag}
theorem ssd_nil : PSSD X p [] sSkip := ⟨_, pss_nil, fun B H σ E c P Dn st r m nx rt bk ct => nx E _ B σ H m st .refl r⟩
theorem sr_seq {t u : TS} {a b : XS} (h1 : SR K p t a) (h2 : SR K p u b) : SR K p (tSeq t u) (sSeq a b) := by
  intro B H σ E c P Dn st r m nx rt bk ct
  refine h1 B H σ E _ _ _ st r m (fun E' c1 B' σ' H' m1 st1 t1 r1 => ?_) (fun d c1 v H' m1 => rt d c1 v H' m1) (fun E' c1 B' σ' H' m1 => bk E' c1 B' σ' H' m1) (fun E' c1 B' σ' H' m1 => ct E' c1 B' σ' H' m1)
  refine h2 B' H' σ' E' _ P Dn st1 r1 m1 (fun E2 c2' B2 σ2 H2 m2 st2 t2 r2 => nx E2 c2' B2 σ2 H2 m2 st2 (t1.trans t2) r2) rt (fun E2 c2' B2 σ2 H2 m2 st2 t2 r2 => bk E2 c2' B2 σ2 H2 m2 st2 (t1.trans t2) r2) (fun E2 c2' B2 σ2 H2 m2 st2 t2 r2 => ct E2 c2' B2 σ2 H2 m2 st2 (t1.trans t2) r2)
theorem ssd_cons {st : Stmt} {rest : List Stmt} {a b : XS} (h1 : PSD X p st a) (h2 : PSSD X p rest b) : PSSD X p (st :: rest) (sSeq a b) := by
  obtain ⟨t1, a1, a2⟩ := h1.ex
  obtain ⟨t2, b1, b2⟩ := h2.ex
  exact ⟨_, pss_cons a1 b1, sr_seq a2 b2⟩
theorem ssd_one {st : Stmt} {a : XS} (h1 : PSD X p st a) : PSSD X p [st] a := by
  obtain ⟨t1, a1, a2⟩ := h1.ex
  exact ⟨_, pss_one a1, a2⟩
theorem sd_ret {e : Expr} {m : XE} {pos : Pos} (he : PD X p e m) : PSD X p (.Return (some e) pos) (sRet m) := by
  obtain ⟨te, a1, a2⟩ := he.ex
  refine ⟨_, ps_ret a1, fun B H σ E c P Dn st r m nx rt bk ct => ?_⟩
  exact a2 B H σ E _ _ _ st r m fun d c1 v H1 m1 e1 s1 r1 => rt d _ v H1 m1 s1 (st.ext.trans e1) (r1.less (st.go e1 s1).bc)
theorem sd_if {c : Expr} {a b : List Stmt} {t : XT} {ma mb : XS} {pos : Pos} (hc : PDT X p c t) (ha : PSSD X p a ma) (hb : PSSD X p b mb) : PSD X p (.If c a b pos) (sIf t ma mb) := by
  obtain ⟨tc, c1, c2⟩ := hc.ex
  obtain ⟨ta, a1, a2⟩ := ha.ex
  obtain ⟨tb, b1, b2⟩ := hb.ex
  refine ⟨_, ps_if c1 a1 b1, fun B H σ E c P Dn st r m nx rt bk ct => ?_⟩
  refine c2 B H σ E _ _ _ st r m fun b c1 H1 m1 e1 s1 => ?_
  have st1 := st.go e1 s1
  have t1 : Tr (bm p B c) H (bm p B c1) H1 := st.up e1
  have r1 := r.go st e1
  cases b with
  | true => exact a2 B H1 σ E _ P Dn st1 r1 m1 (fun E2 c2' B2 σ2 H2 m2 st2 t2 r2 => nx E2 c2' B2 σ2 H2 m2 st2 (t1.trans t2) r2) rt (fun E2 c2' B2 σ2 H2 m2 st2 t2 r2 => bk E2 c2' B2 σ2 H2 m2 st2 (t1.trans t2) r2) (fun E2 c2' B2 σ2 H2 m2 st2 t2 r2 => ct E2 c2' B2 σ2 H2 m2 st2 (t1.trans t2) r2)
  | false => exact b2 B H1 σ E _ P Dn st1 r1 m1 (fun E2 c2' B2 σ2 H2 m2 st2 t2 r2 => nx E2 c2' B2 σ2 H2 m2 st2 (t1.trans t2) r2) rt (fun E2 c2' B2 σ2 H2 m2 st2 t2 r2 => bk E2 c2' B2 σ2 H2 m2 st2 (t1.trans t2) r2) (fun E2 c2' B2 σ2 H2 m2 st2 t2 r2 => ct E2 c2' B2 σ2 H2 m2 st2 (t1.trans t2) r2)
theorem sr_asg {te : TE} {m : XE} {i : Nat} (nf : p.fx = none) (h : EvR K p te m) : SR K p (tAsg te (gName i)) (sAsg i m) := by
  intro B H σ E c P Dn st r m nx rt bk ct
  exact h B H σ E _ _ _ st r m fun d c1 v H1 m1 e1 s1 r1 => nx _ _ B _ H1 m1 (st.go e1 s1) (st.up e1) ((r.go st e1).val nf i r1)
theorem sd_set {cb : Bool} (S : SitB cb true X p k) {i : Nat} {x : Str} {e : Expr} {m : XE} {pos pos' : Pos} (hi : X.N[i]? = some x) (hx : Loc X.env.scope x) (he : PD X p e m) (hs : swapsWith e (some (.Name x pos')) pos.line X.env = pure false := by rfl)
    (hf : X.fn x = true ∨ X.env.scope.names.lookup x = some .local := by first | exact .inl rfl | exact .inr rfl) : PSD X p (.Assign [.Name x pos'] e pos) (sAsg i m) := by
  obtain ⟨te, a1, a2⟩ := he.ex
  exact ⟨_, ps_set S.nd hi hx a1 hs hf, sr_asg S.nf a2⟩
end
end DL
end
section
namespace DL
open PySem PySem.Spec PyProof.Rows L2
def gNs : List Nat → TGs
  | [] => gNil
  | i :: is => gCons (gName i) (gNs is)
/-- (a, b, ..) = a tuple or a list of that length -/
def gTL (K : PySem.W.Frag) (n : Nat) (t : TGs) : TG := fun v σ H Q => gTup K n t v σ H Q ∨ gUnl K n t v σ H Q
theorem pg_tl {X : Cx} {pos : Pos} {es : List Expr} {k : Nat} {t : TGs} {n : Nat} (hc : X.calm = true) (h : PGs X es t)
    (hn : (assignEach es X.env).length = n := by rfl) (hst : (assignEach es X.env).findIdx? (·.1) = none := by rfl) : PG X (.Tuple es k pos) (gTL X.K n t) :=
  ⟨fun pins s σ H v u Q I r hw => hw.elim (fun q => (pg_tup hc h hn hst).run pins s σ H v u Q I r q) fun q => (pg_unl hc h hn hst).run pins s σ H v u Q I r q⟩
def gOf (K : PySem.W.Frag) : Tg → TG
  | .nm i => gName i
  | .tp is => gTL K is.length (gNs is)
  | .pr a b => gTL K 2 (gCons (gOf K a) (gCons (gOf K b) gNil))
def Tg.ix : Tg → List Nat
  | .nm i => [i]
  | .tp is => is
  | .pr a b => a.ix ++ b.ix
section
variable {K : PySem.W.Frag} {p : Par} {B B' : Addr → Prop} {H H' : Hp} {σ : L2.St} {E E' : Env} {n : Sx}
theorem gNs_put (nf : p.fx = none) : ∀ (is : List Nat) (vs : List V) (ds : List D) (σ : L2.St) (E : Env), EnvR K p n B H σ E → Reps K (bm p B n) H vs ds → setAll is ds E = some E' →
    ∀ Q : L2.St → Hp → Prop, (∀ σ', EnvR K p n B H σ' E' → σ'.length = σ.length → (∀ j, j ∉ is → σ'[j]? = σ[j]?) → Q σ' H) → gNs is vs σ H Q
  | [], vs, ds, σ, E, r, rs, h, Q, q => by
    cases rs with
    | nil =>
      have e : E = E' := Option.some.inj h
      subst e
      exact ⟨rfl, q σ r rfl fun _ _ => rfl⟩
    | cons _ _ => cases h
  | i :: is, vs, ds, σ, E, r, rs, h, Q, q => by
    cases rs with
    | nil => cases h
    | cons r1 rs =>
      refine ⟨_, _, rfl, gNs_put nf is _ _ _ _ (r.val nf i r1) rs h Q fun σ' g1 g2 g3 => q σ' g1 (by rw [g2, List.length_set]) fun j hj => ?_⟩
      rw [List.mem_cons, not_or] at hj
      rw [g3 j hj.2, List.getElem?_set_ne (Ne.symm hj.1)]
theorem gOf_put (nf : p.fx = none) {t : Tg} {v : V} {d : D} (r : EnvR K p n B H σ E) (rv : Rep K (bm p B n) H v d) (h : t.put d E = some E') (Q : L2.St → Hp → Prop)
    (q : ∀ σ', EnvR K p n B H σ' E' → σ'.length = σ.length → (∀ j, j ∉ t.ix → σ'[j]? = σ[j]?) → Q σ' H) : gOf K t v σ H Q := by
  induction t generalizing v d σ E E' Q with
  | nm i =>
    have e : E.set i (.val d) = E' := Option.some.inj h
    subst e
    exact q _ (r.val nf i rv) (List.length_set ..) fun j hj => List.getElem?_set_ne fun e => hj (by simp [Tg.ix, e])
  | tp is =>
    have hl : ∀ (is : List Nat) (ds : List D) (E E' : Env), setAll is ds E = some E' → ds.length = is.length := by
      intro is
      induction is with
      | nil => intro ds E E' h; cases ds with
        | nil => rfl
        | cons _ _ => cases h
      | cons i is ih => intro ds E E' h; cases ds with
        | nil => cases h
        | cons d ds => simp [ih ds _ _ h]
    cases rv with
    | @tup a xs ds hs rs =>
      have h' : setAll is ds E = some E' := h
      exact .inl ⟨a, xs, rfl, hs, by rw [rs.length]; exact hl _ _ _ _ h', gNs_put nf is xs ds σ E r rs h' Q q⟩
    | @lst a xs ds hs nb rs =>
      have h' : setAll is ds E = some E' := h
      exact .inr ⟨a, xs, rfl, SqL.of hs, by rw [rs.length]; exact hl _ _ _ _ h', gNs_put nf is xs ds σ E r rs h' Q q⟩
    | _ => exact nomatch (show none = some E' from h)
  | pr a b iha ihb =>
    cases rv with
    | @tup ad xs ds hs rs =>
      cases rs with
      | nil => exact nomatch (show none = some E' from h)
      | @cons v1 xs1 d1 ds1 r1 rs1 =>
        cases rs1 with
        | nil => exact nomatch (show none = some E' from h)
        | @cons v2 xs2 d2 ds2 r2 rs2 =>
          cases rs2 with
          | cons _ _ => exact nomatch (show none = some E' from h)
          | nil =>
            have h' : (match a.put d1 E with
              | some E1 => b.put d2 E1
              | none => none) = some E' := h
            cases h1 : a.put d1 E with
            | none => rw [h1] at h'; cases h'
            | some E1 =>
              rw [h1] at h'
              refine .inl ⟨ad, [v1, v2], rfl, hs, rfl, v1, [v2], rfl, iha r r1 h1 _ fun σ1 g1 g2 g3 => ?_⟩
              refine ⟨v2, [], rfl, ihb g1 r2 h' _ fun σ2 k1 k2 k3 => ?_⟩
              refine ⟨rfl, q σ2 k1 (k2.trans g2) fun j hj => ?_⟩
              have hj2 : j ∉ a.ix ++ b.ix := hj
              rw [List.mem_append, not_or] at hj2
              rw [k3 j hj2.2, g3 j hj2.1]
    | _ => exact nomatch (show none = some E' from h)
theorem wipe_get (σ : L2.St) : ∀ (vs : List Nat) (j : Nat), (L2.wipe σ vs)[j]? = if j ∈ vs then (if j < σ.length then some none else none) else σ[j]?
  | [], j => by simp [L2.wipe]
  | v :: vs, j => by
    unfold L2.wipe
    by_cases e : v = j
    · subst e
      rw [if_pos (List.mem_cons_self)]
      by_cases hl : v < σ.length
      · rw [if_pos hl, List.getElem?_set_self (by rw [L2.wipe_length]; exact hl)]
      · rw [if_neg hl, List.getElem?_eq_none (by rw [List.length_set, L2.wipe_length]; omega)]
    · rw [List.getElem?_set_ne e, wipe_get σ vs j]
      by_cases hm : j ∈ vs
      · rw [if_pos hm, if_pos (List.mem_cons_of_mem _ hm)]
      · rw [if_neg hm, if_neg fun z => by
          rcases List.mem_cons.mp z with z | z
          · exact e z.symm
          · exact hm z]
theorem wipe_same {σ σ' : L2.St} {vs : List Nat} (hl : σ'.length = σ.length) (h : ∀ j, j ∉ vs → σ'[j]? = σ[j]?) : L2.wipe σ' vs = L2.wipe σ vs := by
  apply List.ext_getElem?
  intro j
  rw [wipe_get, wipe_get, hl]
  by_cases hm : j ∈ vs
  · rw [if_pos hm, if_pos hm]
  · rw [if_neg hm, if_neg hm]
    exact h j hm
theorem wipe_wipe (σ : L2.St) (vs : List Nat) : L2.wipe (L2.wipe σ vs) vs = L2.wipe σ vs :=
  wipe_same (L2.wipe_length σ vs) fun j hj => by rw [wipe_get, if_neg hj]
end
structure WalkD (K : PySem.W.Frag) (B : Addr → Prop) (Hs : Hp) (J : It) (ds : List D) : Prop where
  ex : ∃ G : Hp → Prop, G Hs ∧ (∀ B1 H1, Tr B Hs B1 H1 → G H1) ∧
    Walk J ds.length G (fun i H x H' => All H H' ∧ ∀ B1, Tr B Hs B1 H → (∀ a, B1 a → H a ≠ none) → ∃ d, ds[i]? = some d ∧ Rep K B1 H' x d)
structure PDI (X : Cx) (p : Par) (tg e : Expr) (m : XA) : Prop where
  ex : ∃ wi, PI X tg e wi ∧ ∀ (B : Addr → Prop) (H : Hp) (σ : L2.St) (E : Env) (c : Sx) (P : List D → Sx → Prop) (R : It → Hp → Prop), St0 p c B H → EnvR X.K p c B H σ E → m E c P p.XP →
    (∀ ds c' J H', P ds c' → Ev p c H c' H' → p.SI c' H' → WalkD X.K (bm p B c') H' J ds → R J H') → wi σ H R
section
variable {X : Cx} {p : Par} {k : Nat} {K : PySem.W.Frag} {tg : Expr}
theorem Reps.at' {B : Addr → Prop} {H : Hp} : ∀ {vs : List V} {ds : List D}, Reps K B H vs ds → ∀ {i : Nat} {v : V}, vs[i]? = some v → ∃ d, ds[i]? = some d ∧ Rep K B H v d
  | _, _, .nil, i, v, e => by simp at e
  | _, _, .cons r t, 0, v, e => by
    have e' : _ = v := Option.some.inj e
    subst e'
    exact ⟨_, rfl, r⟩
  | _, _, .cons r t, i + 1, v, e => Reps.at' t (i := i) e
theorem walkD_list {B : Addr → Prop} {H : Hp} {a : Addr} {xs : List V} {ds : List D} (hl : H a = some (.lst xs)) (nb : ¬ B a) (rs : Reps K B H xs ds) : WalkD K B H (Itl K a) ds := by
  refine ⟨fun H => SqL K H a xs, SqL.of hl, fun B1 H1 t => SqL.of (t.ext.keep _ _ hl nb), ?_⟩
  rw [← rs.length]
  refine walk_list.mono (fun _ h => h) fun i H1 x H' hi hg y => ⟨fun b o e => by rw [y.1]; exact e, fun B1 t _ => ?_⟩
  obtain ⟨d, h1, h2⟩ := rs.at' y.2
  exact ⟨d, h1, by rw [y.1]; exact h2.tr t⟩
theorem walkD_tup {B : Addr → Prop} {H : Hp} {a : Addr} {xs : List V} {ds : List D} (hl : SqT K H a xs) (rs : Reps K B H xs ds) : WalkD K B H (Itt K a) ds := by
  refine ⟨fun H => SqT K H a xs, hl, fun B1 H1 t => t.ext.sqT hl, ?_⟩
  rw [← rs.length]
  refine walk_tup.mono (fun _ h => h) fun i H1 x H' hi hg y => ⟨fun b o e => by rw [y.1]; exact e, fun B1 t _ => ?_⟩
  obtain ⟨d, h1, h2⟩ := rs.at' y.2
  exact ⟨d, h1, by rw [y.1]; exact h2.tr t⟩
theorem rng_length (a b : Int) : (rng a b).length = (b - a).toNat := by
  unfold rng
  rw [List.length_map, List.length_range]
theorem rng_get (a b : Int) {i : Nat} (h : i < (b - a).toNat) : (rng a b)[i]? = some (.int (a + (i : Int))) := by
  unfold rng
  rw [List.getElem?_map, List.getElem?_range h]
  rfl
theorem walkD_rng {B : Addr → Prop} {H : Hp} {a b : Int} : WalkD K B H (Itr a (b - a).toNat) (rng a b) := by
  refine ⟨fun _ => True, True.intro, fun _ _ _ => True.intro, ?_⟩
  rw [rng_length]
  refine walk_range.mono (fun _ h => h) fun i H1 x H' hi hg y => ⟨fun b o e => by rw [y.1]; exact e, fun B1 t _ => ?_⟩
  refine ⟨_, rng_get a b hi, ?_⟩
  rw [y.2]
  exact .int _
def iLst (a : XE) : XA := fun E => bnd (a E) fun d => match d with | .list xs => ret xs | _ => stuck
theorem pi_lstD {e : Expr} {m : XE} (he : PD X p e m) : PDI X p tg e (iLst m) := by
  obtain ⟨te, a1, a2⟩ := he.ex
  refine ⟨_, pi_list a1, fun B H σ E c P R st r m k => ?_⟩
  refine a2 B H σ E _ _ _ st r m fun d c1 v H1 m1 e1 s1 r1 => ?_
  cases r1 with
  | lst q n t => exact ⟨_, rfl, ⟨_, SqL.of q⟩, k _ _ _ H1 m1 e1 s1 (walkD_list q n t)⟩
  | _ => exact m1.elim
theorem pi_rng1D {a : Expr} {m : XE} {pn pos : Pos} (ha : PD X p a m) (hm : X.mg "range" = none) (hg : Gl X "range" := by rfl) (hs : starEach [a] X.env = [(false, eval a X.env)] := by rfl) : PDI X p tg (.Call (.Name "range" pn) [a] [] pos) (iRng1 m) := by
  obtain ⟨ta, a1, a2⟩ := ha.ex
  refine ⟨_, pi_range1 hg hm (pa_cons a1 pa_nil (by rw [hs] <;> rfl)) hs, fun B H σ E c P R st r m k => ?_⟩
  refine a2 B H σ E _ _ _ st r m fun d c1 v H1 m1 e1 s1 r1 => ?_
  cases r1 with
  | int n =>
    obtain ⟨⟨h1, h2, h3, h4⟩, m1⟩ := m1
    refine ⟨n, rfl, by omega, by omega, k _ _ _ H1 m1 e1 s1 ?_⟩
    have w := walkD_rng (K := X.K) (B := bm p B c1) (H := H1) (a := 0) (b := n)
    rw [Int.sub_zero] at w
    exact w
  | _ => exact m1.elim
theorem pi_rng2D {a b : Expr} {m n : XE} {pn pos : Pos} (ha : PD X p a m) (hb : PD X p b n) (hm : X.mg "range" = none) (hg : Gl X "range" := by rfl) (hs : starEach [a, b] X.env = [(false, eval a X.env), (false, eval b X.env)] := by rfl) (hs2 : starEach [b] X.env = [(false, eval b X.env)] := by rfl) :
    PDI X p tg (.Call (.Name "range" pn) [a, b] [] pos) (iRng2 m n) := by
  obtain ⟨ta, a1, a2⟩ := ha.ex
  obtain ⟨tb, b1, b2⟩ := hb.ex
  refine ⟨_, pi_range2 hg hm (pa_cons a1 (pa_cons b1 pa_nil (by rw [hs2] <;> rfl)) (by rw [hs, hs2] <;> rfl)) hs hs2, fun B H σ E c P R st r m k => ?_⟩
  refine a2 B H σ E _ _ _ st r m fun d c1 v H1 m1 e1 s1 r1 => ?_
  refine b2 B H1 σ E _ _ _ (st.go e1 s1) (r.go st e1) m1 fun d2 c2' v2 H2 m2 e2 s2 r2 => ?_
  cases r1 with
  | int n =>
    cases r2 with
    | int n2 =>
      obtain ⟨⟨h1, h2, h3, h4⟩, m2⟩ := m2
      exact ⟨n, n2, rfl, ⟨by omega, by omega, by omega, by omega⟩, k _ _ _ H2 m2 (e1.trans e2) s2 walkD_rng⟩
    | _ => exact m2.elim
  | _ => exact m2.elim
theorem forL_drop {t : Tg} {s : XS} {ds : List D} {i : Nat} {d : D} (h : ds[i]? = some d) (E : Env) : forL t s (ds.drop i) E = match t.put d E with
    | none => stuck
    | some E1 => bnd (s E1) fun o => match o with
      | .nx E' => forL t s (ds.drop (i + 1)) E'
      | .ct E' => forL t s (ds.drop (i + 1)) E'
      | .bk E' => ret (.nx E')
      | .rt d => ret (.rt d) := by
  obtain ⟨hl, e⟩ := List.getElem?_eq_some_iff.mp h
  rw [List.drop_eq_getElem_cons hl, e]
  rfl
theorem sd_for (S : SitB true true X p k) {iter : Expr} {body : List Stmt} {mi : XA} {t : Tg} {mb : XS} {pos : Pos} (hi : PDI X p tg iter mi) (hg : PG X tg (gOf X.K t)) (hb : PSSD X p body mb)
    (hs : ∀ x, foldedSetIterable iter X.env x = pure x := by intro _; rfl) : PSD X p (.For tg iter body [] pos) (sFor mi t mb) := by
  obtain ⟨wi, a1, a2⟩ := hi.ex
  obtain ⟨tb, b1, b2⟩ := hb.ex
  refine ⟨_, ps_for S.po S.calm a1 hg b1 hs, fun B H σ E c P Dn st r m nx rt bk ct => ?_⟩
  refine a2 B H σ E _ _ _ st r m fun ds c1 J H1 m1 e1 s1 w => ?_
  obtain ⟨G, g0, g1, wk⟩ := w.ex
  have st1 := st.go e1 s1
  refine for_it wk (fun i σ' H' => ∃ B' E' c', St0 p c' B' H' ∧ Tr (bm p B c1) H1 (bm p B' c') H' ∧ EnvR X.K p c' B' H' σ' E' ∧ forL t mb (ds.drop i) E' c' P p.XP) ⟨B, E, _, st1, .refl, r.go st e1, m1⟩ (fun i σ' H' _ ⟨B', E', _, _, t', _, _⟩ => g1 _ H' t') ?_ ?_
  · rintro i x σ' H' H'' hi' ⟨B', E', c', st', t', r', m'⟩ ⟨al, y⟩
    obtain ⟨d, hd, rd⟩ := y _ t' st'.trk
    rw [forL_drop hd] at m'
    cases hp : t.put d E' with
    | none => rw [hp] at m'; exact m'.elim
    | some E1 =>
      rw [hp] at m'
      have st2 : St0 p c' B' H'' := st'.go al.ev (st'.all S.ok al)
      have r2 := r'.go st' al.ev
      refine gOf_put S.nf r2 rd hp _ fun σ2 r3 _ _ => ?_
      have t2 : Tr (bm p B' c') H' (bm p B' c') H'' := .of al.ext
      refine b2 B' H'' σ2 E1 _ _ _ st2 r3 m' (fun E3 c3' B3 σ3 H3 m3 st3 t3 r3 => ?_) (fun d c3' v H3 m3 => rt d c3' v H3 m3) (fun E3 c3' B3 σ3 H3 m3 st3 t3 r3 => ?_) (fun E3 c3' B3 σ3 H3 m3 st3 t3 r3 => ?_)
      · exact ⟨B3, E3, _, st3, (t'.trans t2).trans t3, r3, m3⟩
      · exact nx E3 _ B3 σ3 H3 m3 st3 ((((st.up e1).trans t').trans t2).trans t3) r3
      · exact ⟨B3, E3, _, st3, (t'.trans t2).trans t3, r3, m3⟩
  · rintro σ' H' ⟨B', E', c', st', t', r', m'⟩
    rw [List.drop_length] at m'
    exact nx E' _ B' σ' H' m' st' ((st.up e1).trans t') r'
theorem sd_while {cb : Bool} (S : SitB cb true X p k) {c : Expr} {body : List Stmt} {mt : XT} {mb : XS} {pos : Pos} (hc : PDT X p c mt) (hb : PSSD X p body mb) : PSD X p (.While c body [] pos) (sWhile mt mb) := by
  obtain ⟨tc, a1, a2⟩ := hc.ex
  obtain ⟨tb, b1, b2⟩ := hb.ex
  refine ⟨_, ps_while S.po a1 b1, fun B H σ E c P Dn st r m nx rt bk ct => ?_⟩
  obtain ⟨n0, m⟩ := m
  refine ⟨fun n σ' H' => ∃ B' E' c', St0 p c' B' H' ∧ Tr (bm p B c) H (bm p B' c') H' ∧ EnvR X.K p c' B' H' σ' E' ∧ whileL mt mb n E' c' P p.XP, ⟨n0, B, E, _, st, .refl, r, m⟩, ?_⟩
  rintro n σ' H' ⟨B', E', c', st', t', r', m'⟩
  cases n with
  | zero => exact m'.elim
  | succ n =>
    refine a2 B' H' σ' E' _ _ _ st' r' m' fun b c1 H1 m1 e1 s1 => ?_
    have st1 := st'.go e1 s1
    have t1 : Tr (bm p B c) H (bm p B' c1) H1 := t'.trans (st'.up e1)
    have r1 := r'.go st' e1
    cases b with
    | true =>
      refine ⟨fun σ2 H2 => ∃ B2 E2 c2', St0 p c2' B2 H2 ∧ Tr (bm p B c) H (bm p B2 c2') H2 ∧ EnvR X.K p c2' B2 H2 σ2 E2 ∧ whileL mt mb n E2 c2' P p.XP, fun σ2 H2 h => ⟨n, Nat.lt_succ_self n, h⟩, ?_⟩
      exact b2 B' H1 σ' E' _ _ _ st1 r1 m1 (fun E3 c3' B3 σ3 H3 m3 st3 t3 r3 => ⟨B3, E3, _, st3, t1.trans t3, r3, m3⟩) (fun d c3' v H3 m3 => rt d c3' v H3 m3) (fun E3 c3' B3 σ3 H3 m3 st3 t3 r3 => nx E3 _ B3 σ3 H3 m3 st3 (t1.trans t3) r3) (fun E3 c3' B3 σ3 H3 m3 st3 t3 r3 => ⟨B3, E3, _, st3, t1.trans t3, r3, m3⟩)
    | false => exact nx E' _ B' σ' H1 m1 st1 t1 r1
end
end DL
end
section
namespace DL
open PySem PySem.Spec PyProof.Rows L2
def teOf (K : PySem.W.Frag) (p : Par) (m : XE) : TE := fun σ H Q => ∃ (B : Addr → Prop) (E : Env) (c : Sx) (P : D → Sx → Prop), St0 p c B H ∧ EnvR K p c B H σ E ∧ m E c P p.XP ∧
  ∀ d c' v H', P d c' → Ev p c H c' H' → p.SI c' H' → Rep K (bm p B c') H' v d → Q v H'
def ttOf (K : PySem.W.Frag) (p : Par) (m : XT) : TT := fun σ H Q => ∃ (B : Addr → Prop) (E : Env) (c : Sx) (P : Bool → Sx → Prop), St0 p c B H ∧ EnvR K p c B H σ E ∧ m E c P p.XP ∧
  ∀ b c' H', P b c' → Ev p c H c' H' → p.SI c' H' → Q b H'
section
variable {X : Cx} {p : Par} {k : Nat} {K : PySem.W.Frag}
theorem PD.pe {e : Expr} {m : XE} (h : PD X p e m) : PE X e (teOf X.K p m) := by
  obtain ⟨te, a1, a2⟩ := h.ex
  exact ⟨fun pins s σ H Q I ⟨B, E, c, P, st, r, mm, kk⟩ => a1.run pins s σ H Q I (a2 B H σ E c P Q st r mm kk)⟩
theorem PDT.pt {e : Expr} {m : XT} (h : PDT X p e m) : PT X e (ttOf X.K p m) := by
  obtain ⟨te, a1, a2⟩ := h.ex
  exact ⟨fun pins s σ H Q I ⟨B, E, c, P, st, r, mm, kk⟩ => a1.run pins s σ H Q I (a2 B H σ E c P Q st r mm kk)⟩
structure PDTs (X : Cx) (p : Par) (ifs : List Expr) (m : XT) : Prop where
  pts : PTs X ifs (ttOf X.K p m)
theorem pdts_nil : PDTs X p [] tYes := ⟨⟨fun pins s σ H Q I ⟨B, E, c, P, st, r, mm, kk⟩ => pts_nil.run pins s σ H Q I (kk true c H mm Ev.refl st.si)⟩⟩
theorem pdts_one {e : Expr} {m : XT} (h : PDT X p e m) : PDTs X p [e] m := ⟨pts_one h.pt⟩
/-- as EvR, of a list that is just made -/
def EvF (K : PySem.W.Frag) (p : Par) (te : TE) (m : XE) : Prop :=
  ∀ (B : Addr → Prop) (H : Hp) (σ : L2.St) (E : Env) (c : Sx) (P : D → Sx → Prop) (Q : VK), St0 p c B H → EnvR K p c B H σ E → m E c P p.XP →
    (∀ ds c' q xs H', P (.list ds) c' → Ev p c H c' H' → p.SI c' H' → (H q = none ∧ ¬ p.B0 c' q) → H' q = some (.lst xs) → Reps K (bm p (more B q) c') H' xs ds → Q (.ref q) H') → te σ H Q
structure PDF (X : Cx) (p : Par) (e : Expr) (m : XE) : Prop where
  ex : ∃ te, PE X e te ∧ EvF X.K p te m
theorem EvF.ev {te : TE} {m : XE} (h : EvF K p te m) : EvR K p te m := fun B H σ E c P Q st r mm kk =>
  h B H σ E c P Q st r mm fun ds c' q xs H' m1 e1 s1 hq h1 rs => kk _ c' _ H' m1 e1 s1 (.lst h1 (fun z => z.elim (fun z => st.trk q (.inl z) hq.1) hq.2) (rs.less fun _ z => z.imp .inl id))
theorem PDF.pd {e : Expr} {m : XE} (h : PDF X p e m) : PD X p e m := by
  obtain ⟨te, a1, a2⟩ := h.ex
  exact ⟨te, a1, a2.ev⟩
theorem q_new {B : Addr → Prop} {c c1 : Sx} {H H1 : Hp} {q : Addr} (st1 : St0 p c1 B H1) (e1 : Ev p c H c1 H1) (hq : H1 q = none) : H q = none ∧ ¬ p.B0 c1 q :=
  ⟨by
    cases x : H q with
    | none => rfl
    | some o => exact absurd hq (e1.ext.dom q (some_ne x)), fun z => st1.trk q (.inr z) hq⟩
theorem ext_none {B : Addr → Prop} {H H' : Hp} (e : Ext B H H') {q : Addr} (h : H' q = none) : H q = none := by
  cases x : H q with
  | none => rfl
  | some o => exact absurd h (e.dom q (some_ne x))
theorem bm_new {B : Addr → Prop} {n : Sx} {H : Hp} {q : Addr} (hq : H q = none) : ∀ a, bm p (more B q) n a → H a ≠ none → bm p B n a := fun a z nn => by
  rcases z with (z | z) | z
  · exact .inl z
  · exact absurd (z ▸ hq) nn
  · exact .inr z
theorem reps_more {B : Addr → Prop} {n : Sx} {H : Hp} {q : Addr} {xs : List V} {ds : List D} (hq : H q = none) (r : Reps K (bm p B n) H xs ds) : Reps K (bm p (more B q) n) H xs ds := r.grow (bm_new hq)
theorem rep_more {B : Addr → Prop} {n : Sx} {H : Hp} {q : Addr} {v : V} {d : D} (hq : H q = none) (r : Rep K (bm p B n) H v d) : Rep K (bm p (more B q) n) H v d := r.grow (bm_new hq)
theorem pf_lst {cb : Bool} {vb : Bool} (S : SitB cb vb X p k) {es : List Expr} {pos : Pos} {m : XA} (h : PDA X p es m) : PDF X p (.List es pos) (eLst m) := by
  obtain ⟨ta, a1, a2⟩ := h.ex
  refine ⟨_, pe_lst a1, fun B H σ E c P Q s re m k => ?_⟩
  refine a2 B H σ E _ _ _ s re m fun ds c1 vs H1 m1 e1 s1 r1 => ?_
  have st1 := s.go e1 s1
  refine ⟨by rw [r1.length]; exact small_line m1.1, fun q hq => ?_⟩
  exact k _ _ q _ _ m1.2 (e1.trans (All.new hq).ev) (st1.all S.ok (All.new hq)) (q_new st1 e1 hq) upd_same ((reps_more hq r1).mono (All.new hq).ext)
/-- list(x) -/
theorem pf_list {cb : Bool} {vb : Bool} (S : SitB cb vb X p k) {a : Expr} {m : XE} {pn pos : Pos} (hm : X.mg "list" = none) (ha : PD X p a m) (hg : Gl X "list" := by rfl) (hs : starEach [a] X.env = (false, eval a X.env) :: starEach [] X.env := by rfl) : PDF X p (.Call (.Name "list" pn) [a] [] pos) (eB1 .list m) := by
  obtain ⟨ta, a1, a2⟩ := ha.ex
  refine ⟨_, pe_callTy call_list_of hg hm (by decide +kernel) (pa_cons a1 pa_nil hs) (by decide) (by decide) hs (by rfl), fun B H σ E c P Q s re m k => ?_⟩
  refine a2 B H σ E _ _ _ s re m fun d c1 v H1 m1 e1 s1 r1 => ?_
  have st1 := s.go e1 s1
  cases r1 with
  | lst e n t => exact ⟨_, _, rfl, .inl (SqL.of e), fun q hq => k _ _ q _ _ m1 (e1.trans (All.new hq).ev) (st1.all S.ok (All.new hq)) (q_new st1 e1 hq) upd_same ((reps_more hq t).mono (All.new hq).ext)⟩
  | tup e t => exact ⟨_, _, rfl, .inr e, fun q hq => k _ _ q _ _ m1 (e1.trans (All.new hq).ev) (st1.all S.ok (All.new hq)) (q_new st1 e1 hq) upd_same ((reps_more hq t).mono (All.new hq).ext)⟩
  | _ => exact m1.elim
/-- name = a new list, owned -/
theorem own_put {B : Addr → Prop} {H H' : Hp} {σ : L2.St} {E : Env} {n n' : Sx} {q : Addr} {xs : List V} {ds : List D} (hp : ∀ i, p.pin i = none) (nf : p.fx = none) (i : Nat) (r : EnvR K p n B H σ E) (st : St0 p n B H) (e : Ev p n H n' H') (si : p.SI n' H') (hq : H q = none ∧ ¬ p.B0 n' q) (h1 : H' q = some (.lst xs)) (rs : Reps K (bm p (more B q) n') H' xs ds) :
    EnvR K p n' (more B q) H' (σ.set i (some (.ref q))) (E.set i (.own ds)) ∧ St0 p n' (more B q) H' ∧ Tr (bm p B n) H (bm p (more B q) n') H' := by
  have st1 := st.go e si
  have r1 := r.go st e
  have nb : ¬ B q := fun z => st.trk q (.inl z) hq.1
  have em : Tr (bm p (more B q) n) H (bm p (more B q) n') H' := e.tr
  obtain ⟨g1, g2⟩ := r1.own hp nf st1 i h1 nb hq.2 (ext_none st.ext.ext hq.1) (fun a z e => nb (e ▸ z)) rs
    (fun j v d hj _ hs => by
      obtain ⟨s, k1, k2⟩ := r.at_ j _ hj
      rw [hs] at k1
      cases k1
      cases k2 with
      | val z => exact (rep_more hq.1 z).tr em)
    (fun j a ys es hj hs hl => by
      obtain ⟨s, k1, k2⟩ := r.at_ j _ hj
      rw [hs] at k1
      cases k1
      cases k2 with
      | own b n' nc h0 hl' z =>
        have := e.ext.keep _ _ hl' n'
        rw [hl] at this
        cases this
        exact (reps_more hq.1 z).tr em)
  refine ⟨g1, g2, (st.up e).ext, fun a z nn => ?_⟩
  rcases z with (z | z) | z
  · exact .inl z
  · exact absurd (z ▸ hq.1) nn
  · exact .inr (e.old a z nn)
theorem sd_own {cb : Bool} (S : SitB cb true X p k) {i : Nat} {x : Str} {e : Expr} {m : XE} {pos pos' : Pos} (hi : X.N[i]? = some x) (hx : Loc X.env.scope x) (he : PDF X p e m) (hs : swapsWith e (some (.Name x pos')) pos.line X.env = pure false := by rfl)
    (hf : X.fn x = true ∨ X.env.scope.names.lookup x = some .local := by first | exact .inl rfl | exact .inr rfl)  (hp : ∀ i, p.pin i = none := by assumption): PSD X p (.Assign [.Name x pos'] e pos) (sOwn i m) := by
  obtain ⟨te, a1, a2⟩ := he.ex
  refine ⟨_, ps_set S.nd hi hx a1 hs hf, fun B H σ E c P Dn st r m nx rt bk ct => ?_⟩
  refine a2 B H σ E _ _ _ st r m fun ds c1 q xs H1 m1 e1 s1 hq h1 rs => ?_
  obtain ⟨g1, g2, g3⟩ := own_put hp S.nf i r st e1 s1 hq h1 rs
  exact nx _ _ _ _ H1 m1 g2 g3 g1
/-- a, b = x, y -/
theorem sd_par (S : SitB true true X p k) {i j : Nat} {x y : Str} {a b : Expr} {ma mb : XE} {px py pt pos : Pos} {kt k2 pt2} (hi : X.N[i]? = some x) (hj : X.N[j]? = some y) (hij : i ≠ j) (hx : X.env.scope.names.lookup x = some .local) (hy : X.env.scope.names.lookup y = some .local)
    (ha : PD X p a ma) (hb : PD X p b mb) (hw : swappedStores [.Tuple [.Name x px, .Name y py] kt pt] (.Tuple [a, b] k2 pt2) X.env = pure (some [x, y])) (hs : swapsWithSole [.Tuple [.Name x px, .Name y py] kt pt] (.Tuple [a, b] k2 pt2) pos.line X.env = pure false := by rfl)
    (h1 : starEach [a, b] X.env = (false, eval a X.env) :: starEach [b] X.env := by rfl) (h2 : starEach [b] X.env = (false, eval b X.env) :: starEach [] X.env := by rfl) :
    PSD X p (.Assign [.Tuple [.Name x px, .Name y py] kt pt] (.Tuple [a, b] k2 pt2) pos) (sPar i j ma mb) := by
  obtain ⟨ta, a1, a2⟩ := ha.ex
  obtain ⟨tb, b1, b2⟩ := hb.ex
  refine ⟨_, ps_par S.calm S.nd hi hj hij hx hy (pa_cons a1 (pa_cons b1 pa_nil h2) h1) hw hs, fun B H σ E c P Dn st r m nx rt bk ct => ?_⟩
  refine a2 B H σ E _ _ _ st r m fun d c1 v H1 m1 e1 s1 r1 => ?_
  have st1 := st.go e1 s1
  refine b2 B H1 σ E _ _ _ st1 (r.go st e1) m1 fun d2 c2' v2 H2 m2 e2 s2 r2 => ?_
  have st2 := st1.go e2 s2
  exact ⟨v, v2, rfl, nx _ _ B _ H2 m2 st2 (st.up (e1.trans e2)) ((((r.go st e1).go st1 e2).val S.nf i (r1.tr (st1.up e2))).val S.nf j r2)⟩
/-- a, b = [..], y: the first one owned -/
def sParO (i j : Nat) (a b : XE) : XS := fun E => bnd (a E) fun x => bnd (b E) fun y => match x with
  | .list ds => ret (.nx ((E.set i (.own ds)).set j (.val y)))
  | _ => stuck
theorem sd_parO (S : SitB true true X p k) {i j : Nat} {x y : Str} {a b : Expr} {ma mb : XE} {px py pt pos : Pos} {kt k2 pt2} (hi : X.N[i]? = some x) (hj : X.N[j]? = some y) (hij : i ≠ j) (hx : X.env.scope.names.lookup x = some .local) (hy : X.env.scope.names.lookup y = some .local)
    (ha : PDF X p a ma) (hb : PD X p b mb) (hw : swappedStores [.Tuple [.Name x px, .Name y py] kt pt] (.Tuple [a, b] k2 pt2) X.env = pure (some [x, y])) (hs : swapsWithSole [.Tuple [.Name x px, .Name y py] kt pt] (.Tuple [a, b] k2 pt2) pos.line X.env = pure false := by rfl)
    (h1 : starEach [a, b] X.env = (false, eval a X.env) :: starEach [b] X.env := by rfl) (h2 : starEach [b] X.env = (false, eval b X.env) :: starEach [] X.env := by rfl)  (hp : ∀ i, p.pin i = none := by assumption):
    PSD X p (.Assign [.Tuple [.Name x px, .Name y py] kt pt] (.Tuple [a, b] k2 pt2) pos) (sParO i j ma mb) := by
  obtain ⟨ta, a1, a2⟩ := ha.ex
  obtain ⟨tb, b1, b2⟩ := hb.ex
  refine ⟨_, ps_par S.calm S.nd hi hj hij hx hy (pa_cons a1 (pa_cons b1 pa_nil h2) h1) hw hs, fun B H σ E c P Dn st r m nx rt bk ct => ?_⟩
  refine a2 B H σ E _ _ _ st r m fun ds c1 q xs H1 m1 e1 s1 hq h1 rs => ?_
  have st1 := st.go e1 s1
  have nq : ¬ p.B0 c1 q := hq.2
  -- the second is read while the first is known by its place
  have stm : St0 p c1 (more B q) H1 := by
    refine ⟨fun a z => (st1.subc a z).imp .inl id, fun a z => ?_, st1.si, st1.ext⟩
    rcases z with (z | z) | z
    · exact st1.trk a (.inl z)
    · rw [z, h1]
      exact fun z => nomatch z
    · exact st1.trk a (.inr z)
  have rm : EnvR X.K p c1 (more B q) H1 σ E := by
    have gr : ∀ a, more B q a → H a ≠ none → B a := fun a z n => by
      rcases z with z | z
      · exact z
      · exact absurd (z ▸ hq.1) n
    have r0 : EnvR X.K p c (more B q) H σ E := r.grow S.nf gr fun a z => .inl z
    exact ⟨r0.len, fun i' e' q' => let ⟨s, k1, k2⟩ := r0.at_ i' e' q'; ⟨s, k1, k2.go e1⟩, r0.nd, .no S.nf, r0.pn⟩
  refine b2 (more B q) H1 σ E _ _ _ stm rm m1 fun d2 c2' v2 H2 m2 e2 s2 r2 => ?_
  have st2 := stm.go e2 s2
  refine ⟨_, v2, rfl, ?_⟩
  obtain ⟨g1, g2, g3⟩ := own_put hp S.nf i r st (e1.trans e2) s2 ⟨hq.1, fun z => nq (e2.old _ z (some_ne h1))⟩ (e2.ext.keep _ _ h1 nq) (rs.tr (stm.up e2))
  exact nx _ _ _ _ H2 m2 g2 g3 (g1.val S.nf j r2)
end
section
variable {X : Cx} {p : Par} {k : Nat} {K : PySem.W.Frag}
/-- the own list at q is another one -/
theorem own_upd {B : Addr → Prop} {H : Hp} {σ : L2.St} {E : Env} {n : Sx} {i : Nat} {q : Addr} {xs ys : List V} {ds es : List D} (nf : p.fx = none) (ok : p.Ok K X.mg) (r : EnvR K p n B H σ E) (st : St0 p n B H) (hi : E[i]? = some (.own ds)) (hs : σ[i]? = some (some (.ref q))) (hq : H q = some (.lst xs))
    (rs : Reps K (bm p B n) H ys es) : EnvR K p n B (upd H q (.lst ys)) σ (E.set i (.own es)) ∧ St0 p n B (upd H q (.lst ys)) ∧ Tr (bm p B n) H (bm p B n) (upd H q (.lst ys)) := by
  obtain ⟨s, k1, k2⟩ := r.at_ i _ hi
  rw [hs] at k1
  cases k1
  cases k2 with
  | own b n' nc h0 hl z =>
    have ex : Ext (bm p B n) H (upd H q (.lst ys)) := by
      refine ⟨fun a o e nb => ?_, fun a o e im => ?_, fun a nn => ?_⟩
      · have ne : a ≠ q := fun z => nb (by rw [z]; exact .inl b)
        rw [upd_ne ne]
        exact e
      · have ne : a ≠ q := fun z => by
          subst z
          rw [hq] at e
          cases e
          exact im
        rw [upd_ne ne]
        exact e
      · by_cases z : a = q
        · rw [z, upd_same]
          exact fun z => nomatch z
        · rw [upd_ne z]
          exact nn
    refine ⟨⟨by rw [List.length_set]; exact r.len, fun j e he => ?_, fun a b' x zs ws g1 g2 g3 g4 => ?_, .no nf, fun j a zs hp hj => ?_⟩, ⟨st.subc, fun a z => ex.dom a (st.trk a z), ?_, ?_⟩, .of ex⟩
    · rcases getElem?_set_cases he with ⟨rfl, hl', rfl⟩ | ⟨ne, he⟩
      · exact ⟨_, hs, .own b n' nc h0 upd_same (rs.mono ex)⟩
      · obtain ⟨s', g1, g2⟩ := r.at_ j e he
        refine ⟨s', g1, ?_⟩
        cases g2 with
        | unk _ => exact .unk _
        | val z => exact .val (z.mono ex)
        | @own a2 _ _ b2 n2 nc2 h02 hl2 z2 =>
          have na : a2 ≠ q := fun z => ne (r.nd i j q _ _ hi he hs (by rw [← z]; exact g1))
          exact .own b2 n2 nc2 h02 (by rw [upd_ne na]; exact hl2) (z2.mono ex)
        | stm => exact .stm
        | scr z => exact .scr fun H2 hk => z H2 fun o ho him => hk o (ex.imm _ o ho him) him
    · rcases getElem?_set_cases g1 with ⟨rfl, _, _⟩ | ⟨n1, g1⟩
      · rcases getElem?_set_cases g2 with ⟨rfl, _, _⟩ | ⟨n2, g2⟩
        · rfl
        · exact r.nd _ _ x _ _ hi g2 g3 g4
      · rcases getElem?_set_cases g2 with ⟨rfl, _, _⟩ | ⟨n2, g2⟩
        · exact r.nd _ _ x _ _ g1 hi g3 g4
        · exact r.nd _ _ x _ _ g1 g2 g3 g4
    · rcases getElem?_set_cases hj with ⟨rfl, _, _⟩ | ⟨n1, hj⟩
      · exact r.pn _ a _ hp hi
      · exact r.pn j a zs hp hj
    · refine ok.stab n H _ st.si (fun a o ha e => ?_) ex.imm
      have na : a ≠ q := fun z => n' (by rw [← z]; exact ha)
      rw [upd_ne na]
      exact e
    · refine ⟨⟨fun a o e nb => ?_, fun a o e im => ex.imm a o (st.ext.ext.imm a o e im) im, fun a nn => ex.dom a (st.ext.ext.dom a nn)⟩, st.ext.up, st.ext.old, fun g a z => ex.dom a (st.ext.dom g a z)⟩
      have na : a ≠ q := fun z => by
        subst z
        rw [h0] at e
        cases e
      rw [upd_ne na]
      exact st.ext.ext.keep a o e nb
theorem own_at {B : Addr → Prop} {n : Sx} {H : Hp} {σ : L2.St} {E : Env} {i : Nat} {ds : List D} (r : EnvR K p n B H σ E) (hi : E[i]? = some (.own ds)) : ∃ q xs, σ[i]? = some (some (.ref q)) ∧ B q ∧ ¬ p.B0 n q ∧ H q = some (.lst xs) ∧ Reps K (bm p B n) H xs ds := by
  obtain ⟨s, k1, k2⟩ := r.at_ i _ hi
  cases k2 with
  | own b n nc h0 hl z => exact ⟨_, _, k1, b, n, hl, z⟩
/-- xs.append(e) -/
theorem sd_app {cb : Bool} (S : SitB cb true X p k) (i : Nat) {x : Str} {e : Expr} {me : XE} {px pa pc pos : Pos} (he : PD X p e me)
    (hpe : ∀ {te : TE}, PE X e te → PE X (.Call (.Attribute (.Name x px) "append" pa) [e] [] pc) (tBM X.K "list" rAppend (tVar i) (tCons te tNil)))
    (hs : swapsWith (.Call (.Attribute (.Name x px) "append" pa) [e] [] pc) none pos.line X.env = pure false := by rfl) :
    PSD X p (.Expr (.Call (.Attribute (.Name x px) "append" pa) [e] [] pc) pos) (sApp i me) := by
  obtain ⟨te, a1, a2⟩ := he.ex
  refine ⟨_, ps_expr (hpe a1) hs, fun B H σ E c P Dn st r m nx rt bk ct => ?_⟩
  have m' : (match E[i]? with | some (.own ds) => bnd (me E) fun d => grd (small ds.length) (ret (Out.nx (E.set i (.own (ds ++ [d]))))) | _ => stuck) c P p.XP := m
  cases h : E[i]? with
  | none => rw [h] at m'; exact m'.elim
  | some y =>
    rw [h] at m'
    cases y with
    | own ds =>
      obtain ⟨q, xs, hsq, hb, hn, hl, rs⟩ := own_at r h
      refine ⟨.ref q, hsq, .inl ⟨rfl, xs, SqL.of hl⟩, ?_⟩
      refine a2 B H σ E _ _ _ st r m' fun d c1 v H1 m1 e1 s1 r1 => ?_
      have st1 := st.go e1 s1
      have rr := r.go st e1
      have hl1 := e1.ext.keep _ _ hl hn
      have rs1 := rs.tr (st.up e1)
      obtain ⟨g1, g2, g3⟩ := own_upd (ys := xs ++ [v]) (es := ds ++ [d]) S.nf S.ok rr st1 h hsq hl1 (rs1.append (.cons r1 .nil))
      exact ⟨q, xs, v, rfl, rfl, hl1, by rw [rs.length]; exact small_lt m1.1, nx _ _ _ _ _ m1.2 g2 ((st.up e1).trans g3) g1⟩
    | _ => exact m'.elim
end
end DL
end
section
namespace DL
open PySem PySem.Spec PyProof.Rows L2
section
variable {X : Cx} {p : Par} {k : Nat} {K : PySem.W.Frag}
theorem sd_setI {cb : Bool} (S : SitB cb true X p k) (i : Nat) {x : Str} {a e : Expr} {ma me : XE} {px pt pos : Pos} (hg : PG X (.Subscript (.Name x px) a pt) (gSub (tVar i) (teOf X.K p ma) rSetL)) (he : PD X p e me)
    (hs : swapsWithSole [.Subscript (.Name x px) a pt] e pos.line X.env = pure false := by rfl) (hw : swappedStores [.Subscript (.Name x px) a pt] e X.env = pure none := by rfl) :
    PSD X p (.Assign [.Subscript (.Name x px) a pt] e pos) (sSet i ma me) := by
  obtain ⟨te, b1, b2⟩ := he.ex
  refine ⟨_, ps_asg b1 hg hs hw, fun B H σ E c P Dn st r m nx rt bk ct => ?_⟩
  have m' : (match E[i]? with | some (.own ds) => bnd (me E) fun d => bnd (ma E) fun n => (match n with | .int z => (match L2.ixN ds.length z with | some j => ret (Out.nx (E.set i (.own (ds.set j d)))) | none => stuck) | _ => stuck) | _ => stuck) c P p.XP := m
  cases h : E[i]? with
  | none => rw [h] at m'; exact m'.elim
  | some y =>
    rw [h] at m'
    cases y with
    | own ds =>
      obtain ⟨q, xs, hsq, hb, hn, hl, rs⟩ := own_at r h
      refine b2 B H σ E _ _ _ st r m' fun d c1 v H1 m1 e1 s1 r1 => ?_
      have st1 := st.go e1 s1
      refine ⟨.ref q, hsq, ?_⟩
      refine ⟨B, E, c1, _, st1, r.go st e1, m1, fun d2 c2' v2 H2 m2 e2 s2 r2 => ?_⟩
      have st2 := st1.go e2 s2
      cases r2 with
      | int z =>
        have m2' : (match L2.ixN ds.length z with | some j => ret (Out.nx (E.set i (.own (ds.set j d)))) | none => stuck) c2' P p.XP := m2
        cases hj : L2.ixN ds.length z with
        | none => rw [hj] at m2'; exact m2'.elim
        | some j =>
          rw [hj] at m2'
          have hl1 := e1.ext.keep _ _ hl hn
          have hl2 := e2.ext.keep _ _ hl1 fun z => hn (e1.old _ z (some_ne hl))
          have rs2 := (rs.tr (st.up e1)).tr (st1.up e2)
          obtain ⟨g1, g2, g3⟩ := own_upd (ys := xs.set j v) (es := ds.set j d) S.nf S.ok ((r.go st e1).go st1 e2) st2 h hsq hl2 (Reps.set (r1.tr (st1.up e2)) j rs2)
          exact ⟨q, xs, z, j, rfl, rfl, hl2, by rw [rs.length]; exact hj, nx _ _ _ _ _ m2' g2 ((st.up (e1.trans e2)).trans g3) g1⟩
      | _ => exact m2.elim
    | _ => exact m'.elim
theorem less_tr {B : Addr → Prop} {n : Sx} {H : Hp} {q : Addr} : Tr (bm p B n) H (bm p (less B q) n) H := ⟨Ext.refl, fun a z _ => z.imp (fun z => z.1) id⟩
theorem sd_rel {cb : Bool} (S : SitB cb true X p k) (i : Nat) {s : Stmt} {m : XS} (h : PSD X p s m) : PSD X p s (sRel i m) := by
  obtain ⟨ts, a1, a2⟩ := h.ex
  refine ⟨ts, a1, fun B H σ E c P Dn st r mm nx rt bk ct => ?_⟩
  have m' : (match E[i]? with | some (.own ds) => m (E.set i (.val (.list ds))) | _ => m E) c P p.XP := mm
  cases q : E[i]? with
  | none => rw [q] at m'; exact a2 B H σ E _ P Dn st r m' nx rt bk ct
  | some y =>
    rw [q] at m'
    cases y with
    | own ds =>
      obtain ⟨w, r1, st1, _, _, _⟩ := r.rel S.nf st q
      exact a2 (less B w) H σ _ _ P Dn st1 r1 m' (fun E2 c2' B2 σ2 H2 m2 st2 t2 r2 => nx E2 c2' B2 σ2 H2 m2 st2 (less_tr.trans t2) r2) rt (fun E2 c2' B2 σ2 H2 m2 st2 t2 r2 => bk E2 c2' B2 σ2 H2 m2 st2 (less_tr.trans t2) r2) (fun E2 c2' B2 σ2 H2 m2 st2 t2 r2 => ct E2 c2' B2 σ2 H2 m2 st2 (less_tr.trans t2) r2)
    | _ => exact a2 B H σ E _ P Dn st r m' nx rt bk ct
theorem pd_bor {cb : Bool} (S : SitB cb true X p k) (i : Nat) {e : Expr} {m : XE} (h : PD X p e m) : PD X p e (eBor i m) := by
  obtain ⟨te, a1, a2⟩ := h.ex
  refine ⟨te, a1, fun B H σ E c P Q st r mm kk => ?_⟩
  have m' : (match E[i]? with | some (.own ds) => bnd (m (E.set i (.val (.list ds)))) fun d => grd (flat d = true) (ret d) | _ => m E) c P p.XP := mm
  cases q : E[i]? with
  | none => rw [q] at m'; exact a2 B H σ E c P Q st r m' kk
  | some y =>
    rw [q] at m'
    cases y with
    | own ds =>
      obtain ⟨w, r1, st1, n0, _, hb⟩ := r.rel S.nf st q
      exact a2 (less B w) H σ _ _ _ Q st1 r1 m' fun d c1 v H1 m1 e1 s1 r1 => kk d c1 v H1 m1.2 e1 s1 (r1.flat m1.1)
    | _ => exact a2 B H σ E c P Q st r m' kk
theorem pt_bor {cb : Bool} (S : SitB cb true X p k) (i : Nat) {e : Expr} {m : XT} (h : PDT X p e m) : PDT X p e (tBor i m) := by
  obtain ⟨te, a1, a2⟩ := h.ex
  refine ⟨te, a1, fun B H σ E c P Q st r mm kk => ?_⟩
  have m' : (match E[i]? with | some (.own ds) => m (E.set i (.val (.list ds))) | _ => m E) c P p.XP := mm
  cases q : E[i]? with
  | none => rw [q] at m'; exact a2 B H σ E c P Q st r m' kk
  | some y =>
    rw [q] at m'
    cases y with
    | own ds =>
      obtain ⟨w, r1, st1, n0, _, hb⟩ := r.rel S.nf st q
      exact a2 (less B w) H σ _ _ _ Q st1 r1 m' fun d c1 H1 m1 e1 s1 => kk d c1 H1 m1 e1 s1
    | _ => exact a2 B H σ E c P Q st r m' kk
/-- within a comprehension: no error may leave -/
def Par.quiet (p : Par) : Par := { p with XP := fun _ _ => False, EK := fun _ _ _ _ => False, fx := none }
theorem EvB.quiet {c c' : Sx} {H H' : Hp} (e : Ev p c H c' H') : Ev p.quiet c H c' H' := ⟨e.ext, e.up, e.old, e.dom⟩
theorem EvB.loud {c c' : Sx} {H H' : Hp} (e : Ev p.quiet c H c' H') : Ev p c H c' H' := ⟨e.ext, e.up, e.old, e.dom⟩
theorem St0.quiet {n : Sx} {B : Addr → Prop} {H : Hp} (s : St0 p n B H) : St0 p.quiet n B H := ⟨s.subc, s.trk, s.si, s.ext.quiet⟩
theorem St0.loud {n : Sx} {B : Addr → Prop} {H : Hp} (s : St0 p.quiet n B H) : St0 p n B H := ⟨s.subc, s.trk, s.si, s.ext.loud⟩
theorem Slot.quiet {n : Sx} {B : Addr → Prop} {H : Hp} {x : Option V} {y : Ent} (s : Slot K p n B H x y) : Slot K p.quiet n B H x y := by
  cases s with
  | unk _ => exact .unk _
  | val r => exact .val r
  | own b n nc h0 hl r => exact .own b n nc h0 hl r
  | stm => exact .stm (p := p.quiet)
  | scr q => exact .scr q
theorem EnvR.quiet {n : Sx} {B : Addr → Prop} {H : Hp} {σ : L2.St} {E : Env} (r : EnvR K p n B H σ E) : EnvR K p.quiet n B H σ E :=
  ⟨r.len, fun i e q => let ⟨s, h1, h2⟩ := r.at_ i e q; ⟨s, h1, h2.quiet⟩, r.nd, .no rfl, r.pn⟩
theorem SitB.quiet {cb vb : Bool} (S : SitB cb vb X p k) {s : Shared} {H : Hp} {scope : Scope} {cenv : PySem.Env} {fp : List Addr} : SitB cb true (X.blk s H scope cenv fp) p.quiet k :=
  ⟨S.calm_, S.gd, S.rm, S.nd, ⟨S.ok.stab, fun _ _ _ _ _ _ _ _ _ _ _ h => h.elim⟩, PassesOwn.never, takes0, fun _ => rfl, S.sm⟩
theorem compL_drop {t : Tg} {mt : XT} {me : XE} {ds acc : List D} {i : Nat} {d : D} (h : ds[i]? = some d) (E : Env) : compL t mt me (ds.drop i) acc E = match t.put d E with
    | none => stuck
    | some E1 => bnd (mt E1) fun c => if c = true then bnd (me E1) fun y => grd (small acc.length) (compL t mt me (ds.drop (i + 1)) (acc ++ [y]) E) else compL t mt me (ds.drop (i + 1)) acc E := by
  obtain ⟨hl, e⟩ := List.getElem?_eq_some_iff.mp h
  rw [List.drop_eq_getElem_cons hl, e]
  rfl
/-- the state's places and one new place -/
def plusQ (p : Par) (n : Sx) (q : Addr) : Addr → Prop := fun a => p.B0 n a ∨ a = q
structure EvQ (p : Par) (q : Addr) (n : Sx) (H : Hp) (n' : Sx) (H' : Hp) : Prop where
  ext : Ext (plusQ p n q) H H'
  up : ∀ a, p.B0 n a → p.B0 n' a
  old : ∀ a, p.B0 n' a → H a ≠ none → p.B0 n a
  dom : (∀ a, p.B0 n a → H a ≠ none) → ∀ a, p.B0 n' a → H' a ≠ none
theorem EvB.q {n n' : Sx} {H H' : Hp} {q : Addr} (e : Ev p n H n' H') : EvQ p q n H n' H' := ⟨e.ext.more fun a z => .inl z, e.up, e.old, e.dom⟩
theorem EvQ.trans {c c' c'' : Sx} {H H' H'' : Hp} {q : Addr} (a : EvQ p q c H c' H') (b : EvQ p q c' H' c'' H'') : EvQ p q c H c'' H'' where
  ext := ⟨fun x o e n => b.ext.keep x o (a.ext.keep x o e n) fun z => n (z.imp (fun z => a.old x z (some_ne e)) id), fun x o e i => b.ext.imm x o (a.ext.imm x o e i) i, fun x n => b.ext.dom x (a.ext.dom x n)⟩
  up := fun x h => b.up x (a.up x h)
  old := fun x z n => a.old x (b.old x z (a.ext.dom x n)) n
  dom := fun q => b.dom (a.dom q)
theorem EvQ.of {n : Sx} {H H' : Hp} {q : Addr} (e : Ext (plusQ p n q) H H') : EvQ p q n H n H' := ⟨e, fun _ z => z, fun _ z _ => z, fun g a z => e.dom a (g a z)⟩
theorem EvQ.ev {n n' : Sx} {H H' : Hp} {q : Addr} (hq : H q = none) (e : EvQ p q n H n' H') : Ev p n H n' H' :=
  ⟨⟨fun a o h n => e.ext.keep a o h (fun z => z.elim n (fun z => absurd (z ▸ h) (by rw [hq]; exact fun z => nomatch z))), e.ext.imm, e.ext.dom⟩, e.up, e.old, e.dom⟩
theorem tr_q {n n' : Sx} {B : Addr → Prop} {H H' : Hp} {q : Addr} (_ : St0 p n B H) (hq : H q = none) (e : EvQ p q n H n' H') : Tr (bm p B n) H (bm p (more B q) n') H' :=
  ⟨(e.ev hq).tr.ext, fun a z nn => by
    rcases z with (z | z) | z
    · exact .inl z
    · exact absurd (z ▸ hq) nn
    · exact .inr (e.old a z nn)⟩
theorem st_q {n n' : Sx} {B : Addr → Prop} {H H' : Hp} {q : Addr} (st : St0 p n B H) (hq : H q = none) (e : EvQ p q n H n' H') (si : p.SI n' H') (hn : H' q ≠ none) : St0 p n' (more B q) H' := by
  have s' := st.go (e.ev hq) si
  refine ⟨fun a z => (s'.subc a z).imp .inl id, fun a z => ?_, si, s'.ext⟩
  rcases z with (z | z) | z
  · exact s'.trk a (.inl z)
  · rw [z]
    exact hn
  · exact s'.trk a (.inr z)
theorem env_q0 (nf : p.fx = none) {n n' : Sx} {B : Addr → Prop} {H H' : Hp} {q : Addr} {σ : L2.St} {E : Env} (r : EnvR K p n B H σ E) (st : St0 p n B H) (hq : H q = none) (e : EvQ p q n H n' H') : EnvR K p n' (more B q) H' σ E := by
  have em : Tr (bm p (more B q) n) H (bm p (more B q) n') H' := (e.ev hq).tr
  refine ⟨r.len, fun i x h => ?_, r.nd, .no nf, r.pn⟩
  obtain ⟨s, k1, k2⟩ := r.at_ i x h
  refine ⟨s, k1, ?_⟩
  cases k2 with
  | unk _ => exact .unk _
  | val z => exact .val ((rep_more hq z).tr em)
  | own b n' nc h0 hl z => exact .own (.inl b) (fun z => n' (e.old _ z (some_ne hl))) nc h0 ((e.ev hq).ext.keep _ _ hl n') ((reps_more hq z).tr em)
  | stm => exact .stm
  | scr z => exact .scr fun H2 hk => z H2 fun o ho hi => hk o (e.ext.imm _ o ho hi) hi
theorem env_q {n n' : Sx} {B : Addr → Prop} {H H' : Hp} {q : Addr} {σ : L2.St} {E : Env} (r : EnvR K p n B H σ E) (st : St0 p n B H) (hq : H q = none) (e : EvQ p q n H n' H') : EnvR K p.quiet n' (more B q) H' σ E :=
  env_q0 (p := p.quiet) rfl r.quiet st.quiet hq ⟨e.ext, e.up, e.old, e.dom⟩
theorem upd_q {B : Addr → Prop} {H : Hp} {q : Addr} {xs ys : List V} (b : B q) (hq : H q = some (.lst xs)) : Ext B H (upd H q (.lst ys)) := by
  refine ⟨fun a o e nb => ?_, fun a o e im => ?_, fun a nn => ?_⟩
  · have ne : a ≠ q := fun z => nb (by rw [z]; exact b)
    rw [upd_ne ne]
    exact e
  · have ne : a ≠ q := fun z => by
      subst z
      rw [hq] at e
      cases e
      exact im
    rw [upd_ne ne]
    exact e
  · by_cases z : a = q
    · rw [z, upd_same]
      exact fun z => nomatch z
    · rw [upd_ne z]
      exact nn
theorem ev_comp {cb : Bool} {vb : Bool} (S : SitB cb vb X p k) {wi : TI} {t : Tg} {mi : XA} {mt : XT} {me : XE} {vs : List Nat}
    (hi : ∀ (B : Addr → Prop) (H : Hp) (σ : L2.St) (E : Env) (c : Sx) (P : List D → Sx → Prop) (R : It → Hp → Prop), St0 p c B H → EnvR X.K p c B H σ E → mi E c P p.XP →
      (∀ ds c' J H', P ds c' → Ev p c H c' H' → p.SI c' H' → WalkD X.K (bm p B c') H' J ds → R J H') → wi σ H R) (hx : ∀ j ∈ t.ix, j ∈ vs) :
    EvF X.K p (tLc wi (gOf X.K t) (ttOf X.K p.quiet mt) (teOf X.K p.quiet me) vs) (eComp mi t mt me vs) := by
  intro B H σ E c P Q st r m kk
  refine hi B H σ E _ _ _ st r m fun ds c1 J H1 m1 e1 s1 w => ?_
  have st1 := st.go e1 s1
  intro q hq
  have q0 := q_new st1 e1 hq
  obtain ⟨G, g0, g1, wk⟩ := w.ex
  have r1 := r.go st e1
  have x0 : EvQ p q c1 H1 c1 (upd H1 q (.lst [])) := .of (All.new hq).ext
  refine lc_it wk (fun i H' => ∃ acc accD c', H' q = some (.lst acc) ∧ Reps X.K (bm p (more B q) c') H' acc accD ∧ p.SI c' H' ∧ (¬ p.B0 c' q ∧ EvQ p q c1 H1 c' H') ∧ compL t mt me (ds.drop i) accD (wipeE E vs) c' (fun ys n => P (.list ys) n) (fun _ _ => False))
    ⟨[], [], c1, upd_same, .nil, st1.all S.ok (All.new hq), ⟨q0.2, x0⟩, m1⟩ (fun i H' _ ⟨acc, accD, c', h1, h2, h3, h4, h5⟩ => g1 _ H' (tr_q st1 hq h4.2)) ?_ ?_
  · rintro i x H' H'' hi' ⟨acc, accD, c', h1, h2, h3, ⟨nq, h4⟩, h5⟩ ⟨al, y⟩
    have stq := st_q st1 hq h4 h3 (by rw [h1]; exact fun z => nomatch z)
    obtain ⟨d, hd, rd⟩ := y _ (tr_q st1 hq h4) stq.trk
    rw [compL_drop hd] at h5
    cases hp : t.put d (wipeE E vs) with
    | none => rw [hp] at h5; exact h5.elim
    | some E1 =>
      rw [hp] at h5
      have h4' : EvQ p q c1 H1 c' H'' := h4.trans (All.ev (Z := p.B0) al).q
      have s'' : p.SI c' H'' := stq.all S.ok al
      have hq'' : H'' q = some (.lst acc) := al q _ h1
      have stq2 := st_q st1 hq h4' s'' (by rw [hq'']; exact fun z => nomatch z)
      have rq2 := env_q r1 st1 hq h4'
      refine gOf_put rfl (rq2.wipe rfl vs) rd hp _ fun σ2 g2 gl gx => ?_
      refine ⟨?_, ?_⟩
      · exact (wipe_same gl fun j hj => gx j fun z => hj (hx j z)).trans (wipe_wipe σ vs)
      · refine ⟨more B q, E1, c', _, stq2.quiet, g2, h5, fun b c2 H3 m3 e3 s3 => ?_⟩
        have h43 : EvQ p q c1 H1 c2 H3 := h4'.trans e3.loud.q
        have nq3 : ¬ p.B0 c2 q := fun z => nq (e3.old q z (some_ne hq''))
        have hq3 : H3 q = some (.lst acc) := e3.ext.keep q _ hq'' nq
        have rs3 : Reps X.K (bm p (more B q) c2) H3 acc accD := (h2.mono al.ext).tr (stq2.up e3.loud)
        cases b with
        | false => exact ⟨acc, accD, c2, hq3, rs3, s3, ⟨nq3, h43⟩, m3⟩
        | true =>
          have stq3 := st_q st1 hq h43 s3 (by rw [hq3]; exact fun z => nomatch z)
          refine ⟨more B q, E1, c2, _, stq3.quiet, g2.go stq2.quiet e3, m3, fun y c4 v H4 m4 e4 s4 r4 => ?_⟩
          have h44 : EvQ p q c1 H1 c4 H4 := h43.trans e4.loud.q
          have nq4 : ¬ p.B0 c4 q := fun z => nq3 (e4.old q z (some_ne hq3))
          have hq4 : H4 q = some (.lst acc) := e4.ext.keep q _ hq3 nq3
          have rs4 := rs3.tr (stq3.up e4.loud)
          have x5 : Ext (plusQ p c4 q) H4 (upd H4 q (.lst (acc ++ [v]))) := upd_q (.inr rfl) hq4
          have x5' : Ext (bm p (more B q) c4) H4 (upd H4 q (.lst (acc ++ [v]))) := upd_q (.inl (.inr rfl)) hq4
          refine ⟨acc, hq4, by rw [rs4.length]; exact small_lt m4.1, acc ++ [v], accD ++ [y], c4, upd_same, (rs4.append (.cons r4 .nil)).mono x5', ?_, ⟨nq4, h44.trans (.of x5)⟩, m4.2⟩
          refine S.ok.stab c4 H4 _ s4 (fun a o ha e => ?_) x5.imm
          have na : a ≠ q := fun z => nq4 (by rw [← z]; exact ha)
          rw [upd_ne na]
          exact e
  · rintro H' ⟨acc, accD, c', h1, h2, h3, ⟨nq, h4⟩, h5⟩
    rw [List.drop_length] at h5
    exact kk accD c' q acc H' h5 (e1.trans (h4.ev hq)) h3 ⟨q0.1, nq⟩ h1 h2
theorem pf_comp {vb : Bool} (S : SitB true vb X p k) {elt tg iter : Expr} {ifs : List Expr} {scope : Scope} {pos : Pos} {t : Tg} {mi : XA} {mt : XT} {me : XE} (own : List (Str × Nat)) (hi : PDI X p tg iter mi) (ok : BlkOk X.N X.env.scope scope own) (hx : ∀ j ∈ t.ix, j ∈ own.map (·.2))
    (hg : ∀ (s : Shared) (H : Hp) (C : Addr) (cl : List (Str × Addr)) (fp : List Addr), PG (X.blk s H scope (compEnvC scope cl C X.env) fp) tg (gOf X.K t))
    (ht : ∀ (s : Shared) (H : Hp) (C : Addr) (cl : List (Str × Addr)) (fp : List Addr), Sit (X.blk s H scope (compEnvC scope cl C X.env) fp) p.quiet k → PDTs (X.blk s H scope (compEnvC scope cl C X.env) fp) p.quiet ifs mt)
    (he : ∀ (s : Shared) (H : Hp) (C : Addr) (cl : List (Str × Addr)) (fp : List Addr), Sit (X.blk s H scope (compEnvC scope cl C X.env) fp) p.quiet k → PD (X.blk s H scope (compEnvC scope cl C X.env) fp) p.quiet elt me)
    (hs : ∀ x, foldedSetIterable iter X.env x = pure x := by intro _; rfl) : PDF X p (.ListComp elt [⟨tg, iter, ifs, 0⟩] scope pos) (eComp mi t mt me (own.map (·.2))) := by
  obtain ⟨wi, a1, a2⟩ := hi.ex
  exact ⟨_, pe_lc (tt := ttOf X.K p.quiet mt) (te := teOf X.K p.quiet me) S.calm S.nd a1 ok hg (fun s H C cl fp => (ht s H C cl fp S.quiet).pts) (fun s H C cl fp => (he s H C cl fp S.quiet).pe) hs, ev_comp S a2 hx⟩
/-- name = [..]: the name a local; w: owned -/
theorem sd_comp (S : SitB true true X p k) {i : Nat} {y : Str} {py spos : Pos} {elt tg iter : Expr} {ifs : List Expr} {scope : Scope} {pos : Pos} {t : Tg} {mi : XA} {mt : XT} {me : XE} (own : List (Str × Nat)) (hy : X.N[i]? = some y) (hyl : X.env.scope.names.lookup y = some .local)
    (hsw : swapsWith (.ListComp elt [⟨tg, iter, ifs, 0⟩] scope pos) (some (.Name y py)) spos.line X.env = pure true) (hi : PDI X p tg iter mi) (ok : BlkOk X.N X.env.scope scope own) (hx : ∀ j ∈ t.ix, j ∈ own.map (·.2))
    (hg : ∀ (s : Shared) (H : Hp) (C : Addr) (cl : List (Str × Addr)) (fp : List Addr), PG (X.blk s H scope (compEnvC scope cl C X.env) fp) tg (gOf X.K t))
    (ht : ∀ (s : Shared) (H : Hp) (C : Addr) (cl : List (Str × Addr)) (fp : List Addr), Sit (X.blk s H scope (compEnvC scope cl C X.env) fp) p.quiet k → PDTs (X.blk s H scope (compEnvC scope cl C X.env) fp) p.quiet ifs mt)
    (he : ∀ (s : Shared) (H : Hp) (C : Addr) (cl : List (Str × Addr)) (fp : List Addr), Sit (X.blk s H scope (compEnvC scope cl C X.env) fp) p.quiet k → PD (X.blk s H scope (compEnvC scope cl C X.env) fp) p.quiet elt me)
    (hs : ∀ x, foldedSetIterable iter X.env x = pure x := by intro _; rfl) : PSD X p (.Assign [.Name y py] (.ListComp elt [⟨tg, iter, ifs, 0⟩] scope pos) spos) (sAsg i (eComp mi t mt me (own.map (·.2)))) := by
  obtain ⟨wi, a1, a2⟩ := hi.ex
  exact ⟨_, ps_setLc (tt := ttOf X.K p.quiet mt) (te := teOf X.K p.quiet me) S.calm S.nd hy hyl hsw a1 ok hg (fun s H C cl fp => (ht s H C cl fp S.quiet).pts) (fun s H C cl fp => (he s H C cl fp S.quiet).pe) hs, sr_asg S.nf (ev_comp S a2 hx).ev⟩
end
end DL
end
section
namespace DL
open PySem PySem.Spec PyProof.Rows L2
/-- a def of the module, without defaults -/
abbrev FnP (K : PySem.W.Frag) (x qual : Str) (st : Stmt) (f : Addr) (fd : FuncData) : Prop := FunD K x qual (defArgs st) (defBody st) (defScope st) [] [] f fd
/-- a def keeps its promise wherever no repr is under way -/
structure FnG (cb : Bool) (P : Program) (w : World) (K : PySem.W.Frag) (mg : Str → Option Value) (base : Heap) (k : Nat) (f : Addr) (fd : FuncData) (ps : List Str) (sp : Sp) : Prop where
  len : ∀ vs H Q E, sp vs H Q E → vs.length = ps.length
  go : ∀ (A : Around) (outer : List PySem.Env) (s : Shared) (H : Hp) (args : Args) (us : List Value) (vs : List V) (Q : VK) (E : XK), RoomB cb k A → A.guards = some [] → Env0 P w K mg base A outer s H →
    BindsTo s fd args (ps.zip us) → Vals vs us → sp vs H Q E → codeAny (model P w) A (.call (.ref f) args) (CR (L2.CX P w) outer P w H s Q E) s
section
variable {P : Program} {w : World} {K : PySem.W.Frag} {mg : Str → Option Value} {base : Heap} {cb : Bool}
theorem FnG.mono {j k : Nat} {f : Addr} {fd : FuncData} {ps : List Str} {sp : Sp} (F : FnG cb P w K mg base j f fd ps sp) (h : j ≤ k) : FnG cb P w K mg base k f fd ps sp :=
  ⟨F.len, fun A outer s H args us vs Q E hr => F.go A outer s H args us vs Q E (hr.mono h)⟩
/-- a body's context; cb: nothing is handled -/
abbrev bodyX (cb : Bool) (P : Program) (w : World) (K : PySem.W.Frag) (mg : Str → Option Value) (base : Heap) (N : List Str) (qual : Str) (st : Stmt) (f : Addr) (cdv : Value) (A : Around) (outer : List PySem.Env) (s : Shared) (H : Hp) (E : XK) : Cx :=
  { cxOf (L2.CX P w) P w K mg base N qual (defScope st) f cdv A outer s H E with calm := cb }
/-- .. at its start, also where something is handled -/
theorem inv_cool {cb : Bool} {A A' : Around} {N : List Str} {qual : Str} {st : Stmt} {f : Addr} {cdv : Value} {outer : List PySem.Env} {s s1 : Shared} {H : Hp} {E : XK} {σ : L2.St} (hc : cb = true → A.handled = none) (hf : A.frames = A'.frames)
    (I : Inv (cxOf (L2.CX P w) P w K mg base N qual (defScope st) f cdv A' outer s H E) [] σ H s1) : Inv (bodyX cb P w K mg base N qual st f cdv A outer s H E) [] σ H s1 := by
  have k := I.ok
  have fr : (A.deeper (envOfC qual (defScope st) s.heap.objs.size f cdv)).frames = some (envOfC qual (defScope st) s.heap.objs.size f cdv :: outer) := by
    have e1 : (A'.deeper (envOfC qual (defScope st) s.heap.objs.size f cdv)).frames = some (envOfC qual (defScope st) s.heap.objs.size f cdv :: outer) := k.frames
    have e2 : ∀ B : Around, (B.deeper (envOfC qual (defScope st) s.heap.objs.size f cdv)).frames = B.frames.map (envOfC qual (defScope st) s.heap.objs.size f cdv :: ·) := fun B => rfl
    rw [e2] at e1 ⊢
    rw [hf]
    exact e1
  exact ⟨⟨k.mod, k.kind, k.glob, k.blt, k.above, k.inj, k.has, k.cab, hc, fr, k.stk, k.exf, k.bs, k.bsz, k.noex, k.exfs, k.funs, k.frf⟩, I.os, I.bare, I.base, I.loc, I.cell, I.free, I.freeC, I.pin, I.hok, I.len⟩
/-- a def by its body -/
theorem fnG_body {x qual : Str} {st : Stmt} {f : Addr} {fd : FuncData} {N ps : List Str} {k : Nat} {sp : Sp} (F : FnP K x qual st f fd) (S : FnScope N ps (defScope st)) (len : ∀ vs H Q E, sp vs H Q E → vs.length = ps.length)
    (body : ∀ (cdv : Value) (A : Around) (outer : List PySem.Env) (s : Shared) (H : Hp) (vs : List V) (Q : VK) (E : XK), RoomB cb k (A.deeper (envOfC qual (defScope st) s.heap.objs.size f cdv)) → (A.deeper (envOfC qual (defScope st) s.heap.objs.size f cdv)).guards = some [] → sp vs H Q E →
      ∃ t, PSs (bodyX cb P w K mg base N qual st f cdv A outer s H E) (defBody st) t ∧ t { nx := fun _ H' => Q .non H', rt := Q } (L2.start N vs) H) : FnG cb P w K mg base (k + 1) f fd ps sp := by
  obtain ⟨oc, od, dV, kV, doc, pm, an, cdv, ct, osl, rfl, lk, hcd, _, _⟩ := F.ex
  refine ⟨len, fun A outer s H args us vs Q E hr hgd e0 hb rv hsp => ?_⟩
  have lengths := len vs H Q E hsp
  have inHeap : K.In s.heap := e0.mod.kin.keeps (fun b o q => (e0.bs b o q).1)
  have noLimit : s.heap.NoLimit := e0.mod.nolimit.keeps (fun b o q => (e0.bs b o q).1)
  refine codeAny_call_function hr.depth (inHeap f _ lk) rfl S.co S.gen rfl (PySem.W.codeRec_of inHeap hcd) (hb _ _ _ _ ?_)
  refine wpAny_newFunctionEnv_cells S.kind (fun y hy => ?_) (fun env henv s1 entered => ?_)
  · obtain ⟨n, v⟩ := y
    rcases S.par n (List.of_mem_zip hy).1 with hl | hc
    · exact Or.inl hl
    · exact Or.inr ⟨hc, PySem.W.cellsFrom_some _ _ _ (Or.inl hc)⟩
  · subst henv
    refine ⟨noLimit.keeps entered.toInCall.keep, codeAny_func ?_⟩
    obtain ⟨t, ht, hq⟩ := body cdv A outer s H vs Q E (hr.deeper _) hgd hsp
    have e1 : Env0 P w K mg base ({ A with handled := none }) outer s H := ⟨e0.frames, e0.mod, e0.bs, e0.bsz, e0.funs, e0.frf, e0.hok, e0.bare⟩
    have J0 := inv_cool (A := A) (cb := cb) hr.hd_ rfl (A' := { A with handled := none }) (inv_start (A := { A with handled := none }) (CX := L2.CX P w) (P := P) (w := w) (mg := mg) (base := base) (E := E) S rfl e1 lengths rv entered)
    refine wpAny_mono (ht.run [] s1 (L2.start N vs) H _ J0 hq) (fun fl s' done => ?_) (fun _ _ left => left)
    cases fl with
    | brk => obtain ⟨_, _, _, no⟩ := done; exact no.elim
    | cont => obtain ⟨_, _, _, no⟩ := done; exact no.elim
    | next =>
      obtain ⟨σ', H', J, q⟩ := done
      exact ⟨V.non, H', J.os, J.bare, J.base, J.hok, rfl, q⟩
    | ret u =>
      obtain ⟨v, σ', H', J, r, q⟩ := done
      exact ⟨v, H', J.os, J.bare, J.base, J.hok, r, q⟩
end
section
variable {X : Cx} {p : Par} {k : Nat} {cb vb : Bool}
/-- the callee runs; what it may let out is taken -/
theorem run_G {pins : List (Addr × Obj)} {σ : L2.St} {H : Hp} {s : Shared} {Q : VK} {us : List Value} {vs : List V} {f : Addr} {fd : FuncData} {ps : List Str} {sp : Sp} {E : XK} (F : FnG cb X.prog X.w X.K X.mg X.base k f fd ps sp) (hr : RoomB cb k X.A) (hg : X.A.guards = some []) (hb : Binds X.K fd ps [])
    (hx : PassesAt (L2.CX X.prog X.w) X σ E) (I : Inv X pins σ H s) (r : Vals vs us) (h : sp vs H Q E) : wpAny (model X.prog X.w) X.A (call (.ref f) us) (EP X pins σ Q) X.xe s := by
  have hl : us.length = ps.length := r.length.symm.trans (F.len vs H Q E h)
  have bound := hb s us I.kIn (by rw [List.append_nil]; exact hl)
  rw [List.append_nil] at bound
  refine wpAny_call (codeAny_mono (F.go X.A X.stack s H ⟨us, []⟩ us vs Q E hr hg I.env0 bound r h) (fun res s' hq => ?_))
  match res, hq with
  | .error e, hq => exact hx pins H s e s' I hq
  | .ok (.ret u), hq => exact I.after hq
  | .ok .next, hq => exact hq.elim
  | .ok .brk, hq => exact hq.elim
  | .ok .cont, hq => exact hq.elim
theorem pe_G {f : Addr} {fd : FuncData} {ps : List Str} {sp : Sp} {E : L2.St → XK} {x : Str} {pn pos : Pos} {e : Expr} {es : List Expr} {t : TA} (F : FnG cb X.prog X.w X.K X.mg X.base k f fd ps sp) (hr : RoomB cb k X.A) (hgd : X.A.guards = some []) (hm : X.mg x = some (.ref f)) (hk : PySem.W.keepIn X.K (.ref f) = true)
    (hb : Binds X.K fd ps []) (hx : ∀ σ, PassesAt (L2.CX X.prog X.w) X σ (E σ)) (ha : PA X (e :: es) t) (hg : Gl X x := by rfl) (hdb : (x == ("__debug__" : Str)) = false := by decide) (he : starEach (e :: es) X.env = (false, eval e X.env) :: starEach es X.env := by rfl)
    (hpl : (backTo pos (starEach es X.env)).any (·.1) = false := by rfl) : PE X (.Call (.Name x pn) (e :: es) [] pos) (tCallSD sp [] E t) := by
  refine ⟨fun pins s σ H Q I h => wpAny_Call_Name_kw (ld_glob I hg hm ?_ hdb)⟩
  refine PySem.W.callWith_K (h₀ := X.base) I.ok.mod.kin hk (thn (ha.run pos pins s σ H _ I h) ?_) he hpl
  rintro us s1 ⟨vs, H1, I1, r1, q1⟩
  rw [List.append_nil] at q1
  exact ⟨I1.kIn, run_G F hr hgd hb (hx σ) I1 r1 q1⟩
end
theorem exrep_go {K : PySem.W.Frag} {mg : Str → Option Value} {B B' : Addr → Prop} {H : Hp} {x : Exn} {c : Value} {d : Option Addr} (h : ∀ a, B' a → B a) (r : ExRep K mg B H x c d) : ExRep K mg B' H x c d := by
  obtain ⟨h1, h2, h3⟩ := r
  refine ⟨h1, h2, ?_⟩
  obtain ⟨xc, xf⟩ := x
  match xf, h3 with
  | [], h3 => exact h3
  | [(f, y)], ⟨dd, v, e1, e2, e4, e3⟩ => exact ⟨dd, v, e1, e2, fun z => e4 (h _ z), e3.less h⟩
  | _ :: _ :: _, h3 => exact h3
/-- a def that draws nothing: it does what m does of its arguments -/
def spF (K : PySem.W.Frag) (mg : Str → Option Value) (m : Fn) : Sp := fun vs H Q EK => ∃ (B : Addr → Prop) (ds : List D) (c : Sx) (P : D → Sx → Prop) (XP : Exn → Sx → Prop),
  (∀ a, B a → H a ≠ none) ∧ Reps K B H vs ds ∧ m ds c P XP ∧ (∀ d v H', P d c → All H H' → Rep K B H' v d → Q v H') ∧ ∀ x cl dd H', XP x c → All H H' → ExRep K mg B H' x cl dd → EK cl dd H'
/-- the stream at S: its large cells at L, its cells at C -/
def strB (S L C : Addr) : Addr → Prop := fun a => a = S ∨ a = L ∨ a = C
structure StrI (S L C : Addr) (c : Nat) (H : Hp) : Prop where
  sl : S ≠ L
  sc : S ≠ C
  lc : L ≠ C
  ex : ∃ (ls cs : List Int) (t : Nat), t ≤ c ∧ H S = some (.lst [.ref L, .ref C, .int t]) ∧ H L = some (.lst (ls.map V.int)) ∧ H C = some (.lst (cs.map V.int)) ∧ cs ≠ [] ∧ (∀ x ∈ ls, 0 ≤ x) ∧ (∀ x ∈ cs, 0 ≤ x) ∧ cs.length ≤ 1000
theorem StrI.at_ {S L C a : Addr} {c : Nat} {H : Hp} (h : StrI S L C c H) (b : strB S L C a) : H a ≠ none := by
  obtain ⟨ls, cs, t, _, h1, h2, h3, _⟩ := h.ex
  rcases b with rfl | rfl | rfl
  · rw [h1]; exact fun z => nomatch z
  · rw [h2]; exact fun z => nomatch z
  · rw [h3]; exact fun z => nomatch z
/-- what the text must say of a class whose objects have cells -/
structure ClsP (K : PySem.W.Frag) (n : Str) : Prop where
  cls : Cls K (He.ga K n)
  nat : ∀ f ∈ fldN, NoAttr K (He.ga K n) f
/-- what a cell is in the heap: its data holds no lists but cells -/
inductive CellAt (K : PySem.W.Frag) (H : Hp) (a : Addr) : Cell → Prop
  | lst {xs : List V} {ds : List D} : H a = some (.lst xs) → flatAll ds = true → Reps K (fun _ => False) H xs ds → CellAt K H a (.lst ds)
  | ins {n : Str} {dx : Addr} {xs : List (Str × V)} {fs : List (Str × D)} : ClsP K n → (∀ f ∈ fs.map (·.1), f ∈ fldN) → (fs.map (·.1)).Nodup → H a = some (.ins (He.ga K n) dx xs) → xs.map (·.1) = fs.map (·.1) → flatAll (fs.map (·.2)) = true → Reps K (fun _ => False) H (xs.map (·.2)) (fs.map (·.2)) → CellAt K H a (.ins n fs)
/-- the places of the state: the stream's, the cells -/
def cB (S L C : Addr) (c : Sx) : Addr → Prop := fun a => strB S L C a ∨ c.mu a ≠ none
structure StI (K : PySem.W.Frag) (S L C : Addr) (c : Sx) (H : Hp) : Prop where
  str : StrI S L C c.n H
  at_ : ∀ a x, c.mu a = some x → ¬ strB S L C a ∧ CellAt K H a x
theorem CellAt.there {K : PySem.W.Frag} {H : Hp} {a : Addr} {x : Cell} (h : CellAt K H a x) : H a ≠ none := by
  cases h with
  | lst e _ _ => exact some_ne e
  | ins _ _ _ e _ _ _ => exact some_ne e
theorem StI.there {K : PySem.W.Frag} {S L C a : Addr} {c : Sx} {H : Hp} (h : StI K S L C c H) (b : cB S L C c a) : H a ≠ none := by
  rcases b with b | b
  · exact h.str.at_ b
  · cases e : c.mu a with
    | none => exact absurd e b
    | some x => exact (h.at_ a x e).2.there
/-- data that holds no lists: what is locked is kept -/
def Kept (H H' : Hp) : Prop := ∀ a o, H a = some o → Imm o → H' a = some o
theorem Kept.sqT {K : PySem.W.Frag} {H H' : Hp} (h : Kept H H') {a : Addr} {xs : List V} (q : SqT K H a xs) : SqT K H' a xs := by
  rcases q with (q | ⟨o, q⟩) | q
  · exact .inl (.inl (h a _ q True.intro))
  · exact .inl (.inr ⟨o, h a _ q True.intro⟩)
  · exact .inr q
mutual
theorem Rep.kept {K : PySem.W.Frag} {B B' : Addr → Prop} {H H' : Hp} (h : Kept H H') : ∀ {v : V} {d : PyData}, DL.flat d = true → Rep K B H v d → Rep K B' H' v d
  | _, _, _, .non => .non
  | _, _, _, .bl b => .bl b
  | _, _, _, .int i => .int i
  | _, _, _, .str x => .str x
  | _, _, h, .lst _ _ _ => by simp [DL.flat] at h
  | _, _, g, .tup e r => .tup (h.sqT e) (Reps.kept h (by simpa [DL.flat] using g) r)
  | _, _, h, .dct0 _ _ => by simp [DL.flat] at h
  | _, _, h, .dct1 _ _ _ => by simp [DL.flat] at h
  | _, _, h, .exn0 _ _ _ => by simp [DL.flat, xD] at h
  | _, _, h, .exn1 _ _ _ _ _ _ => by simp [DL.flat, xD] at h
  | _, _, _, .rf a => .rf a
  | _, _, h, .wr _ _ _ => by simp [DL.flat, wD] at h
theorem Reps.kept {K : PySem.W.Frag} {B B' : Addr → Prop} {H H' : Hp} (h : Kept H H') : ∀ {vs : List V} {ds : List PyData}, DL.flatAll ds = true → Reps K B H vs ds → Reps K B' H' vs ds
  | _, _, _, .nil => .nil
  | _, _, g, .cons r t => by
    simp only [DL.flatAll, Bool.and_eq_true] at g
    exact .cons (Rep.kept h g.1 r) (Reps.kept h g.2 t)
end
theorem CellAt.go {K : PySem.W.Frag} {H H' : Hp} {a : Addr} {x : Cell} (h : CellAt K H a x) (k : Kept H H') (same : ∀ o, H a = some o → H' a = some o) : CellAt K H' a x := by
  cases h with
  | lst e f r => exact .lst (same _ e) f (r.kept k f)
  | ins h1 h2 h3 e q f r => exact .ins h1 h2 h3 (same _ e) q f (r.kept k f)
theorem StrI.same {S L C : Addr} {c : Nat} {H H' : Hp} (h : StrI S L C c H) (k : ∀ a o, strB S L C a → H a = some o → H' a = some o) : StrI S L C c H' := by
  obtain ⟨ls, cs, t, ht, h1, h2, h3, h4⟩ := h.ex
  exact ⟨h.sl, h.sc, h.lc, ls, cs, t, ht, k _ _ (.inl rfl) h1, k _ _ (.inr (.inl rfl)) h2, k _ _ (.inr (.inr rfl)) h3, h4⟩
theorem StI.same {K : PySem.W.Frag} {S L C : Addr} {c : Sx} {H H' : Hp} (h : StI K S L C c H) (k : ∀ a o, cB S L C c a → H a = some o → H' a = some o) (im : Kept H H') : StI K S L C c H' :=
  ⟨h.str.same fun a o b e => k a o (.inl b) e, fun a x e => ⟨(h.at_ a x e).1, (h.at_ a x e).2.go im fun o q => k a o (.inr (by rw [e]; exact fun z => nomatch z)) q⟩⟩
/-- the places of a caller and those of the state -/
def bc (B : Addr → Prop) (S L C : Addr) (c : Sx) : Addr → Prop := fun a => B a ∨ cB S L C c a
/-- a def that goes on from one state to another; the stream is its first argument (st), or it is not handed over -/
def spG (st : Bool) (K : PySem.W.Frag) (mg : Str → Option Value) (m : Fn) : Sp := fun vs H Q EK => ∃ (S L C : Addr) (ws : List V) (B : Addr → Prop) (ds : List D) (c : Sx) (P : D → Sx → Prop) (XP : Exn → Sx → Prop),
  vs = (if st = true then [.ref S] else []) ++ ws ∧ (∀ a, bc B S L C c a → H a ≠ none) ∧ StI K S L C c H ∧ Reps K (bc B S L C c) H ws ds ∧ m ds c P XP ∧
  (∀ d c' v H', P d c' → EvB (cB S L C) c H c' H' → StI K S L C c' H' → Rep K (bc B S L C c') H' v d → Q v H') ∧
  ∀ x c' cl dd H', XP x c' → EvB (cB S L C) c H c' H' → StI K S L C c' H' → ExRep K mg (bc B S L C c') H' x cl dd → EK cl dd H'
/-- a def whose first argument is the stream -/
abbrev spS := spG true
/-- a def that is not handed the stream -/
abbrev spC := spG false
section
variable {P : Program} {w : World} {K : PySem.W.Frag} {mg : Str → Option Value} {base : Heap} {cb : Bool}
/-- the body's par: a def that draws nothing -/
def parF (H : Hp) (B : Addr → Prop) (c : Sx) (XP : Exn → Sx → Prop) (EK : XK) : Par := ⟨fun _ _ => False, fun c' _ => c' = c, 0, H, c, B, XP, fun _ => EK, none, fun _ => none⟩
def parS (K : PySem.W.Frag) (S L C : Addr) (H : Hp) (c : Sx) (B : Addr → Prop) (XP : Exn → Sx → Prop) (EK : XK) : Par := ⟨cB S L C, StI K S L C, S, H, c, B, XP, fun _ => EK, none, fun _ => none⟩
theorem sit_body {qual : Str} {st : Stmt} {f : Addr} {N ps : List Str} {k : Nat} {p : Par} {cdv : Value} {A : Around} {outer : List PySem.Env} {s : Shared} {H : Hp} {E : XK} (S : FnScope N ps (defScope st))
    (hr : RoomB cb k (A.deeper (envOfC qual (defScope st) s.heap.objs.size f cdv))) (hg : (A.deeper (envOfC qual (defScope st) s.heap.objs.size f cdv)).guards = some []) (ok : p.Ok K mg) (hE : ∀ σ c d H, p.EK σ c d H → E c d H) (nf : p.fx = none) (sm : HasSm base) :
    SitB cb true (bodyX cb P w K mg base N qual st f cdv A outer s H E) p k where
  calm_ := fun h => h
  gd := hg
  rm := hr
  nd := S.nd
  ok := ok
  po := passes_of rfl
  tk := (takes_of (E := E) rfl rfl rfl rfl).imp fun c d σ H h => hE σ c d H h
  nf_ := fun _ => nf
  sm := sm
theorem env_start {p : Par} {n : Sx} {B : Addr → Prop} {H : Hp} {vs : List V} {E : Env} {N : List Str} (hl : vs.length ≤ N.length) (hE : vs.length = E.length) (r : ∀ (i : Nat) (e : Ent), E[i]? = some e → ∃ v, vs[i]? = some v ∧ Slot K p n B H (some v) e) (no : ∀ (i : Nat) (ds : List D), E[i]? ≠ some (.own ds)) (nf : p.fx = none) :
    EnvR K p n B H (L2.start N vs) (DL.start N.length E) := by
  have l1 : (L2.start N vs).length = N.length := by
    unfold L2.start
    rw [List.length_append, List.length_map, List.length_replicate]
    omega
  have l2 : (DL.start N.length E).length = N.length := by
    unfold DL.start
    rw [List.length_append, List.length_replicate]
    omega
  have own : ∀ (i : Nat) (ds : List D), (DL.start N.length E)[i]? ≠ some (.own ds) := by
    intro i ds h
    unfold DL.start at h
    by_cases hi : i < E.length
    · rw [List.getElem?_append_left hi] at h
      exact no i ds h
    · rw [List.getElem?_append_right (by omega), List.getElem?_replicate] at h
      split at h <;> cases h
  refine ⟨l1.trans l2.symm, fun i e h => ?_, fun i j a xs ys h => absurd h (own i xs), .no nf, fun i a xs _ h => absurd h (own i xs)⟩
  unfold DL.start at h
  by_cases hi : i < E.length
  · rw [List.getElem?_append_left hi] at h
    obtain ⟨v, h1, h2⟩ := r i e h
    refine ⟨some v, ?_, h2⟩
    unfold L2.start
    rw [List.getElem?_append_left (by rw [List.length_map]; omega), List.getElem?_map, h1]
    rfl
  · rw [List.getElem?_append_right (by omega), List.getElem?_replicate] at h
    split at h
    · cases h
      have : i < (L2.start N vs).length := by rw [l1]; omega
      exact ⟨_, List.getElem?_eq_getElem this, .unk _⟩
    · cases h
theorem vals_at {n : Sx} {B : Addr → Prop} {H : Hp} {p : Par} {vs : List V} {ds : List D} (r : Reps K (bm p B n) H vs ds) (i : Nat) (e : Ent) (h : (ds.map Ent.val)[i]? = some e) : ∃ v, vs[i]? = some v ∧ Slot K p n B H (some v) e := by
  rw [List.getElem?_map] at h
  cases q : ds[i]? with
  | none => rw [q] at h; cases h
  | some d =>
    rw [q] at h
    cases h
    obtain ⟨v, h1, h2⟩ := r.get q
    exact ⟨v, h1, .val h2⟩
theorem all_of {H H' : Hp} (e : Ext (fun _ => False) H H') : All H H' := fun a o h => e.keep a o h fun z => z
theorem bmF {H : Hp} {B B2 : Addr → Prop} {c c' : Sx} {XP : Exn → Sx → Prop} {EK : XK} : ∀ a, bm (parF H B c XP EK) B2 c' a → B2 a := fun a z => z.elim id fun z => z.elim
/-- a def that draws nothing, by its body's words -/
theorem fn_pure (sm : HasSm base) {x qual : Str} {st : Stmt} {f : Addr} {fd : FuncData} {N ps : List Str} {k : Nat} {m : XS} (F : FnP K x qual st f fd) (S : FnScope N ps (defScope st)) (hl : ps.length ≤ N.length)
    (body : ∀ (cdv : Value) (A : Around) (outer : List PySem.Env) (s : Shared) (H : Hp) (E : XK) (p : Par), SitB cb true (bodyX cb P w K mg base N qual st f cdv A outer s H E) p k → (∀ n n' H H', p.SI n H → p.SI n' H' → p.SI n H') → (∀ i, p.pin i = none) → PSSD (bodyX cb P w K mg base N qual st f cdv A outer s H E) p (defBody st) m) :
    FnG cb P w K mg base (k + 1) f fd ps (spF K mg (fn ps.length N.length m)) := by
  refine fnG_body F S (fun vs H Q E ⟨_, _, _, _, _, _, rs, mm, _⟩ => rs.length.trans mm.1) (fun cdv A outer s H vs Q E hr hg hsp => ?_)
  obtain ⟨B, ds, c, Pd, XP, trk, rs, ⟨hn, mm⟩, kq, ke⟩ := hsp
  have ok : (parF H B c XP E).Ok K mg := ⟨fun _ _ _ h _ _ => h, fun n n' x cl d B1 H1 H' σ st _ hx hs he hr => by
    have hc : n' = c := hs
    subst hc
    exact ke x cl d H' hx (all_of (st.ext.trans he).ext) (exrep_go (fun a z => bm_more he.up a (st.subc a z)) hr)⟩
  have S' := sit_body (P := P) (w := w) (base := base) (mg := mg) (f := f) (outer := outer) (H := H) (p := parF H B c XP E) (E := E) S hr hg ok (fun _ _ _ _ h => h) rfl sm
  obtain ⟨ts, a1, a2⟩ := (body cdv A outer s H E _ S' (fun n n' H1 H2 (h1 : n = c) _ => h1) fun _ => rfl).ex
  refine ⟨ts, a1, a2 B H _ (DL.start N.length (ds.map Ent.val)) c (fun o c' => endOf o c' Pd XP) _ ⟨fun _ z => .inl z, fun a z => trk a (bmF a z), rfl, Ev.refl⟩ ?_ mm ?_ ?_ ?_ ?_⟩
  · refine env_start (by rw [rs.length]; omega) (by rw [List.length_map]; exact rs.length) (fun i e h => vals_at (rs.less bmF) i e h) (fun i es h => ?_) rfl
    rw [List.getElem?_map] at h
    cases q : ds[i]? with
    | none => rw [q] at h; cases h
    | some d => rw [q] at h; cases h
  · intro E' c' B' σ' H' m1 st1 t1 r1
    have hc : c' = c := st1.si
    subst hc
    exact kq .none .non H' m1 (all_of st1.ext.ext) .non
  · intro d c' v H' m1 s1 e1 r1
    have hc : c' = c := s1
    subst hc
    exact kq d v H' m1 (all_of e1.ext) (r1.less fun _ z => .inl z)
  · intro E' c' B' σ' H' m1
    exact m1.elim
  · intro E' c' B' σ' H' m1
    exact m1.elim
/-- a def that goes on from one state to another, by its body's words; b: the stream is its first argument -/
def fnGo (b : Bool) (k n : Nat) (s : XS) : Fn := if b = true then fnS k n s else fn k n s
theorem fn_go {b : Bool} (sm : HasSm base) {x qual : Str} {st : Stmt} {f : Addr} {fd : FuncData} {N ps : List Str} {k : Nat} {m : XS} (F : FnP K x qual st f fd) (S : FnScope N ps (defScope st)) (hl : ps.length ≤ N.length)
    (body : ∀ (cdv : Value) (A : Around) (outer : List PySem.Env) (s : Shared) (H : Hp) (E : XK) (p : Par), SitB cb true (bodyX cb P w K mg base N qual st f cdv A outer s H E) p k → (∃ S L C, p.B0 = cB S L C ∧ p.SI = StI K S L C ∧ p.S = S) → (∀ i, p.pin i = none) → PSSD (bodyX cb P w K mg base N qual st f cdv A outer s H E) p (defBody st) m) :
    FnG cb P w K mg base (k + 1) f fd ps (spG b K mg (fnGo b ps.length N.length m)) := by
  have hlen : ∀ vs H Q E, spG b K mg (fnGo b ps.length N.length m) vs H Q E → vs.length = ps.length := by
    rintro vs H Q E ⟨_, _, _, ws, _, _, _, _, _, e, _, _, rs, mm, _⟩
    cases b with
    | true => rw [e, List.length_append, rs.length, Nat.add_comm]; exact mm.1
    | false => rw [e, List.length_append, rs.length, Nat.add_comm]; exact mm.1
  refine fnG_body F S hlen (fun cdv A outer s H vs Q E hr hg hsp => ?_)
  have hvl := hlen vs H Q E hsp
  obtain ⟨S1, L1, C1, ws, B, ds, c, Pd, XP, rfl, trk, si, rs, mm, kq, ke⟩ := hsp
  have hlw := rs.length
  have ok : (parS K S1 L1 C1 H c B XP E).Ok K mg :=
    ⟨fun n H1 H2 h hk im => StI.same h hk im, fun n n' x cl d B1 H1 H' σ st _ hx hs he hr => ke x n' cl d H' hx (st.ext.trans he) hs (exrep_go (fun a z => z.elim (fun z => bm_more he.up a (st.subc a z)) .inr) hr)⟩
  have S' := sit_body (P := P) (w := w) (base := base) (mg := mg) (f := f) (outer := outer) (H := H) (p := parS K S1 L1 C1 H c B XP E) (E := E) S hr hg ok (fun _ _ _ _ h => h) rfl sm
  obtain ⟨ts, a1, a2⟩ := (body cdv A outer s H E _ S' ⟨S1, L1, C1, rfl, rfl, rfl⟩ fun _ => rfl).ex
  have e0 : ((if b = true then [Ent.stm] else []) ++ ds.map Ent.val).length = ((if b = true then [V.ref S1] else []) ++ ws).length := by
    cases b <;> simp [hlw]
  have mm' : (m (DL.start N.length ((if b = true then [Ent.stm] else []) ++ ds.map Ent.val))) c (fun o c' => endOf o c' Pd XP) XP := by
    cases b with
    | true => exact mm.2
    | false => exact mm.2
  refine ⟨ts, a1, a2 B H _ (DL.start N.length ((if b = true then [Ent.stm] else []) ++ ds.map Ent.val)) c (fun o c' => endOf o c' Pd XP) _ ⟨fun _ z => .inl z, trk, si, Ev.refl⟩ ?_ mm' ?_ ?_ ?_ ?_⟩
  · refine env_start (by omega) e0.symm (fun i e h => ?_) (fun i es h => ?_) rfl
    · cases b with
      | true =>
        cases i with
        | zero =>
          cases h
          exact ⟨_, rfl, .stm (p := parS K S1 L1 C1 H c B XP E)⟩
        | succ i => exact vals_at rs i e h
      | false => exact vals_at rs i e h
    · have no : ∀ i, (ds.map Ent.val)[i]? ≠ some (Ent.own es) := fun i h' => by
        rw [List.getElem?_map] at h'
        cases q : ds[i]? with
        | none => rw [q] at h'; cases h'
        | some d => rw [q] at h'; cases h'
      cases b with
      | true =>
        cases i with
        | zero => cases h
        | succ i => exact no i h
      | false => exact no i h
  · intro E' c' B' σ' H' m1 st1 t1 r1
    exact kq .none c' .non H' m1 st1.ext st1.si .non
  · intro d c' v H' m1 s1 e1 r1
    exact kq d c' v H' m1 e1 s1 r1
  · intro E' c' B' σ' H' m1
    exact m1.elim
  · intro E' c' B' σ' H' m1
    exact m1.elim
/-- a def whose first argument is the stream -/
theorem fn_str (sm : HasSm base) {x qual : Str} {st : Stmt} {f : Addr} {fd : FuncData} {N ps : List Str} {k : Nat} {m : XS} (F : FnP K x qual st f fd) (S : FnScope N ps (defScope st)) (hl : ps.length ≤ N.length)
    (body : ∀ (cdv : Value) (A : Around) (outer : List PySem.Env) (s : Shared) (H : Hp) (E : XK) (p : Par), SitB cb true (bodyX cb P w K mg base N qual st f cdv A outer s H E) p k → (∃ S L C, p.B0 = cB S L C ∧ p.SI = StI K S L C ∧ p.S = S) → (∀ i, p.pin i = none) → PSSD (bodyX cb P w K mg base N qual st f cdv A outer s H E) p (defBody st) m) :
    FnG cb P w K mg base (k + 1) f fd ps (spS K mg (fnS ps.length N.length m)) := fn_go (b := true) sm F S hl body
end
section
variable {X : Cx} {p : Par} {k : Nat} {cb vb : Bool}
/-- what the caller knows of a def: where it stands, how it is called -/
structure Def (K : PySem.W.Frag) (mg : Str → Option Value) (x : Str) (f : Addr) (fd : FuncData) (ps : List Str) : Prop where
  mg : mg x = some (.ref f)
  kp : PySem.W.keepIn K (.ref f) = true
  bd : Binds K fd ps []
theorem pd_fn (S : SitB cb vb X p k) {j : Nat} {x : Str} {f : Addr} {fd : FuncData} {ps : List Str} {m : Fn} {e : Expr} {es : List Expr} {ma : XA} {pn pos : Pos} (F : FnG cb X.prog X.w X.K X.mg X.base j f fd ps (spF X.K X.mg m)) (hj : j ≤ k) (D : Def X.K X.mg x f fd ps) (ha : PDA X p (e :: es) ma)
    (hg : Gl X x := by rfl) (hdb : (x == ("__debug__" : Str)) = false := by decide) (he : starEach (e :: es) X.env = (false, eval e X.env) :: starEach es X.env := by rfl) (hpl : (backTo pos (starEach es X.env)).any (·.1) = false := by rfl) : PD X p (.Call (.Name x pn) (e :: es) [] pos) (eCall m ma) := by
  obtain ⟨ta, a1, a2⟩ := ha.ex
  refine ⟨_, pe_G F (S.rm.mono hj) S.gd D.mg D.kp D.bd S.ps a1 hg hdb he hpl, fun B H σ E c P Q st r mm kk => ?_⟩
  refine a2 B H σ E _ _ _ st r mm fun ds c1 vs H1 m1 e1 s1 r1 => ?_
  have st1 := st.go e1 s1
  rw [List.append_nil]
  refine ⟨_, ds, c1, P, p.XP, st1.trk, r1, m1, fun d v H2 pd al rd => kk d c1 v H2 pd (e1.trans al.ev) (st1.all S.ok al) rd, fun y cl dd H2 hx al hr => ?_⟩
  exact S.ok.exc c1 c1 y cl dd B H1 H2 σ st1 (r.go st e1).fx hx (st1.all S.ok al) al.ev hr
/-- the stream is what p says -/
def IsStr (K : PySem.W.Frag) (p : Par) : Prop := ∃ S L C, p.B0 = cB S L C ∧ p.SI = StI K S L C ∧ p.S = S
/-- what a callee that goes on from a state wants, of what the caller wants -/
theorem go_of {b : Bool} (S : SitB cb vb X p k) (Z : IsStr X.K p) {m : Fn} {B : Addr → Prop} {H H0 : Hp} {σ : L2.St} {c c0 : Sx} {P : D → Sx → Prop} {vs : List V} {ds : List D} {Q : VK} (st : St0 p c B H) (fx : Fix p c B H σ) (e0 : Ev p c0 H0 c H) (rs : Reps X.K (bm p B c) H vs ds) (mm : m ds c P p.XP)
    (kk : ∀ d c' v H', P d c' → Ev p c0 H0 c' H' → p.SI c' H' → Rep X.K (bm p B c') H' v d → Q v H') : spG b X.K X.mg m ((if b = true then [V.ref p.S] else []) ++ vs) H Q (p.EK σ) := by
  obtain ⟨S1, L1, C1, z1, z2, z3⟩ := Z
  have zb : ∀ c, bm p B c = bc B S1 L1 C1 c := fun c => by unfold bm bc; rw [z1]
  have si := st.si
  rw [z2] at si
  refine ⟨S1, L1, C1, vs, B, ds, c, P, p.XP, by rw [z3], by rw [← zb]; exact st.trk, si, by rw [← zb]; exact rs, mm, fun d c2 v H2 pd al s2 rd => ?_, fun y c2 cl dd H2 hx al s2 hr => ?_⟩
  · rw [← z1] at al
    rw [← z2] at s2
    rw [← zb] at rd
    exact kk d c2 v H2 pd (e0.trans al) s2 rd
  · rw [← z1] at al
    rw [← z2] at s2
    rw [← zb] at hr
    exact S.ok.exc c c2 y cl dd B H H2 σ st fx hx s2 al hr
theorem pd_fnS (S : SitB cb vb X p k) (Z : IsStr X.K p) {j i : Nat} {x y : Str} {f : Addr} {fd : FuncData} {ps : List Str} {m : Fn} {es : List Expr} {ma : XA} {py pn pos : Pos} (F : FnG cb X.prog X.w X.K X.mg X.base j f fd ps (spS X.K X.mg m)) (hj : j ≤ k) (D : Def X.K X.mg x f fd ps) (hy : PE X (.Name y py) (tVar i)) (ha : PDA X p es ma)
    (hg : Gl X x := by rfl) (hdb : (x == ("__debug__" : Str)) = false := by decide) (he : starEach (.Name y py :: es) X.env = (false, eval (.Name y py) X.env) :: starEach es X.env := by rfl) (hpl : (backTo pos (starEach es X.env)).any (·.1) = false := by rfl) : PD X p (.Call (.Name x pn) (.Name y py :: es) [] pos) (eCallS m i ma) := by
  obtain ⟨ta, a1, a2⟩ := ha.ex
  refine ⟨_, pe_G F (S.rm.mono hj) S.gd D.mg D.kp D.bd S.ps (pa_cons hy a1 he) hg hdb he hpl, fun B H σ E c P Q st r mm kk => ?_⟩
  have m' : (match E[i]? with | some .stm => bnd (ma E) m | _ => stuck) c P p.XP := mm
  cases h : E[i]? with
  | none => rw [h] at m'; exact m'.elim
  | some e =>
    rw [h] at m'
    cases e with
    | stm =>
      obtain ⟨s, h1, h2⟩ := r.at_ i _ h
      cases h2
      refine ⟨_, h1, ?_⟩
      refine a2 B H σ E _ _ _ st r m' fun ds c1 vs H1 m1 e1 s1 r1 => ?_
      have st1 := st.go e1 s1
      show spS X.K X.mg m ((V.ref p.S :: vs) ++ []) H1 Q (p.EK σ)
      rw [List.append_nil]
      exact go_of (b := true) S Z st1 (r.go st e1).fx e1 r1 m1 kk
    | _ => exact m'.elim
end
end DL
end
section
namespace DL
open PySem PySem.Spec PyProof.Rows L2
/-- the stream with its lists told -/
structure StrL (S L C : Addr) (ls cs : List Int) (t : Nat) (H : Hp) : Prop where
  sl : S ≠ L
  sc : S ≠ C
  lc : L ≠ C
  hs : H S = some (.lst [.ref L, .ref C, .int t])
  hl : H L = some (.lst (ls.map V.int))
  hc : H C = some (.lst (cs.map V.int))
  nc : cs ≠ []
  pl : ∀ x ∈ ls, 0 ≤ x
  pc : ∀ x ∈ cs, 0 ≤ x
  few : cs.length ≤ 1000
theorem StrL.str {S L C : Addr} {ls cs : List Int} {t c : Nat} {H : Hp} (h : StrL S L C ls cs t H) (ht : t ≤ c) : StrI S L C c H :=
  ⟨h.sl, h.sc, h.lc, ls, cs, t, ht, h.hs, h.hl, h.hc, h.nc, h.pl, h.pc, h.few⟩
theorem StrI.told {S L C : Addr} {c : Nat} {H : Hp} (h : StrI S L C c H) : ∃ (ls cs : List Int) (t : Nat), t ≤ c ∧ StrL S L C ls cs t H := by
  obtain ⟨ls, cs, t, ht, h1, h2, h3, h4, h5, h6, h7⟩ := h.ex
  exact ⟨ls, cs, t, ht, h.sl, h.sc, h.lc, h1, h2, h3, h4, h5, h6, h7⟩
theorem StrL.all {S L C : Addr} {ls cs : List Int} {t : Nat} {H H' : Hp} (h : StrL S L C ls cs t H) (e : All H H') : StrL S L C ls cs t H' :=
  ⟨h.sl, h.sc, h.lc, e _ _ h.hs, e _ _ h.hl, e _ _ h.hc, h.nc, h.pl, h.pc, h.few⟩
theorem upd_strB {S L C : Addr} {H : Hp} {a : Addr} {xs ys : List V} (b : strB S L C a) (hq : H a = some (.lst xs)) : Ext (strB S L C) H (upd H a (.lst ys)) := upd_q b hq
/-- no place may change -/
abbrev nB : Addr → Prop := fun _ => False
section
variable {K : PySem.W.Frag}
def tS (K : PySem.W.Frag) (i : Int) : TE := tOp (rIxL K) (tVar 0) (tC (.int i))
def tOpD (K : PySem.W.Frag) (o : Op) (a b : TE) : TE := tOp (rD2 K (opBin o)) a b
def tDrawTest (K : PySem.W.Frag) : TT := tTest (tOp (rD2 K (cmpD .ne)) (tS K 0) (tLst tNil))
def tDrawTurn (K : PySem.W.Frag) : TS := tSeq (tAsg (tOp (rD2 K opIdx) (tS K 0) (tC (.int 0))) (gName 2)) (tSeq (tIfS (tTest (tOp (rD2 K (cmpD .gt)) (tVar 2) (tC (.int 0))))
  (tSeq (tAsg (tOpD K .fdiv (tVar 2) (tVar 1)) (gSub (tS K 0) (tC (.int 0)) rSetL)) (tRet (tOpD K .mod (tVar 2) (tVar 1)))) tNext)
  (tDrop (tBM K "list" rPopAt (tS K 0) (tCons (tC (.int 0)) tNil))))
theorem s_at {S L C : Addr} {ls cs : List Int} {t : Nat} {H : Hp} {i : Int} {v : V} {Q : VK} {σ : L2.St} (h : StrL S L C ls cs t H) (h0 : σ[0]? = some (some (.ref S))) (hi : atI [V.ref L, V.ref C, V.int t] i = some v) (q : Q v H) : tS K i σ H Q :=
  ⟨_, h0, S, _, i, v, rfl, rfl, SqL.of h.hs, hi, q⟩
theorem rep_ints {B : Addr → Prop} {H : Hp} {a : Addr} {ns : List Int} (h : H a = some (.lst (ns.map V.int))) (hb : ¬ B a) : Rep K B H (.ref a) (.list (ns.map PyData.int)) :=
  .lst h hb (Reps.of_ints ns)
theorem ne_nil_int (x : Int) (ls : List Int) : PyData.eqv (.list (((x :: ls) : List Int).map PyData.int)) (.list []) = false := by rfl
theorem nil_nil_int : PyData.eqv (.list (([] : List Int).map PyData.int)) (.list []) = true := by rfl
theorem lay_ints : ∀ ns : List Int, PyData.canLayAll0 (ns.map PyData.int) = true
  | [] => rfl
  | a :: r => by
    show (PyData.canLay0 (.int a) && PyData.canLayAll0 (r.map PyData.int)) = true
    rw [lay_ints r]
    rfl
theorem shaped_ints (ns : List Int) : SeqAt.shaped (.list (ns.map PyData.int)) = true := by
  have e : PyData.depth (.list (ns.map PyData.int)) ≤ 64 := by
    simp only [PyData.depth, depth_ints]
    decide
  unfold SeqAt.shaped
  rw [decide_eq_true e, Bool.and_true]
  exact lay_ints ns
theorem ixN_zero (n : Nat) : ixN (n + 1) 0 = some 0 := by
  unfold ixN
  rw [if_pos (Int.le_refl 0), if_pos (by omega)]
  rfl
theorem atI_zero {α : Type} (x : α) (xs : List α) : atI (x :: xs) 0 = some x := by
  show (ixN (xs.length + 1) 0).bind _ = _
  rw [ixN_zero]
  rfl
theorem opIdx_zero (x : D) (xs : List D) (c : Sx) (P : D → Sx → Prop) (Xp : Exn → Sx → Prop) (h : P x c) : opIdx (.list (x :: xs)) (.int 0) c P Xp := by
  show (match L2.atI (x :: xs) 0 with | some d => ret d | none => stuck) c P Xp
  rw [atI_zero]
  exact h
theorem draw_while {S L C : Addr} {cs : List Int} {t : Nat} {many : Int} {H0 : Hp} {D : Ends} {x3 x4 x5 : Option V} (hm : 0 < many ∧ many < 9223372036854775808)
    (nx : ∀ x2 H, Ext (strB S L C) H0 H → StrL S L C [] cs t H → D.nx [some (.ref S), some (.int many), x2, x3, x4, x5] H)
    (rt : ∀ (r : Int) ls H, Ext (strB S L C) H0 H → StrL S L C ls cs t H → 0 ≤ r → r < many → D.rt (.int r) H)
    {x2 : Option V} {ls : List Int} (hS : StrL S L C ls cs t H0) : tWhile (tDrawTest K) (tDrawTurn K) D [some (.ref S), some (.int many), x2, x3, x4, x5] H0 := by
  refine ⟨fun n σ H => ∃ (x2 : Option V) (ls : List Int), σ = [some (.ref S), some (.int many), x2, x3, x4, x5] ∧ ls.length = n ∧ Ext (strB S L C) H0 H ∧ StrL S L C ls cs t H, ⟨_, x2, ls, rfl, rfl, Ext.refl, hS⟩, ?_⟩
  rintro n σ H ⟨x2, ls, rfl, hn, e, hL⟩
  refine s_at hL rfl rfl ⟨Nat.zero_le _, fun q hq => ?_⟩
  have h1 := hL.all (All.new (o := .lst []) hq)
  have e1 : Ext (strB S L C) H0 (upd H q (.lst [])) := e.trans (All.new hq).ext
  refine ⟨nB, .list (ls.map PyData.int), .list [], .z 0, fun d _ => d = .bool (!(PyData.eqv (.list (ls.map PyData.int)) (.list []))), fun _ _ => False, fun _ z => z.elim, rep_ints h1.hl id, .lst upd_same id .nil, ⟨eqOk_of (shaped_ints ls) rfl, rfl⟩, ?_⟩
  rintro z v H2 rfl a2 rv
  cases rv
  refine ⟨_, rfl, ?_⟩
  have h2 := h1.all a2
  have e2 := e1.trans (a2.ext (B := strB S L C))
  cases ls with
  | nil =>
    rw [nil_nil_int]
    exact nx x2 H2 e2 h2
  | cons x ls =>
    rw [ne_nil_int]
    refine (if_pos rfl).mpr ?_
    refine ⟨fun σ H => ∃ (x2 : Option V) (ls' : List Int), σ = [some (.ref S), some (.int many), x2, x3, x4, x5] ∧ ls' = ls ∧ Ext (strB S L C) H0 H ∧ StrL S L C ls' cs t H, ?_, ?_⟩
    · rintro σ' H' ⟨x2', ls', rfl, rfl, e', h'⟩
      exact ⟨ls'.length, by rw [← hn]; exact Nat.lt_succ_self _, x2', ls', rfl, rfl, e', h'⟩
    · refine s_at h2 rfl rfl ⟨nB, .list ((x :: ls).map PyData.int), .int 0, .z 0, fun d _ => d = .int x, fun _ _ => False, fun _ z => z.elim, rep_ints h2.hl id, .int 0, opIdx_zero _ _ _ _ _ rfl, ?_⟩
      rintro z v H3 rfl a3 rv
      cases rv
      have h3 := h2.all a3
      have e3 := e2.trans (a3.ext (B := strB S L C))
      refine ⟨_, rfl, nB, .int x, .int 0, .z 0, fun d _ => d = .bool (decide (0 < x)), fun _ _ => False, fun _ z => z.elim, .int _, .int _, rfl, ?_⟩
      rintro z v H4 rfl a4 rv
      cases rv
      have h4 := h3.all a4
      have e4 := e3.trans (a4.ext (B := strB S L C))
      refine ⟨_, rfl, ?_⟩
      by_cases hx : 0 < x
      · rw [decide_eq_true hx]
        refine (if_pos rfl).mpr ?_
        refine ⟨_, rfl, _, rfl, nB, .int x, .int many, .z 0, fun d _ => d = .int (x / many), fun _ _ => False, fun _ z => z.elim, .int _, .int _, ⟨hm, rfl⟩, ?_⟩
        rintro z v H5 rfl a5 rv
        cases rv
        have h5 := h4.all a5
        have e5 := e4.trans (a5.ext (B := strB S L C))
        refine s_at h5 rfl rfl ⟨L, _, 0, 0, rfl, rfl, h5.hl, ixN_zero _, ?_⟩
        have h6 : StrL S L C ((x / many) :: ls) cs t (upd H5 L (.lst (((x / many) :: ls).map V.int))) := by
          refine ⟨h5.sl, h5.sc, h5.lc, ?_, upd_same, ?_, h5.nc, fun y hy => ?_, h5.pc, h5.few⟩
          · rw [upd_ne h5.sl]; exact h5.hs
          · rw [upd_ne h5.lc.symm]; exact h5.hc
          · rcases List.mem_cons.mp hy with rfl | hy
            · exact Int.ediv_nonneg (Int.le_of_lt hx) (Int.le_of_lt hm.1)
            · exact h5.pl y (.tail _ hy)
        have e6 := e5.trans (upd_strB (ys := ((x / many) :: ls).map V.int) (.inr (.inl rfl)) h5.hl)
        refine ⟨_, rfl, _, rfl, nB, .int x, .int many, .z 0, fun d _ => d = .int (x % many), fun _ _ => False, fun _ z => z.elim, .int _, .int _, ⟨hm.1, rfl⟩, ?_⟩
        rintro z v H7 rfl a7 rv
        cases rv
        exact rt _ _ H7 (e6.trans a7.ext) (h6.all a7) (Int.emod_nonneg _ (by omega)) (Int.emod_lt_of_pos _ hm.1)
      · rw [decide_eq_false hx]
        refine (if_neg (by decide)).mpr ?_
        refine s_at h4 rfl rfl ⟨.inl ⟨rfl, _, SqL.of h4.hl⟩, ?_⟩
        refine ⟨L, _, 0, 0, V.int x, rfl, rfl, h4.hl, by decide, by decide, ?_, rfl, ?_⟩
        · simp [PySem.seqIndex?]
        · refine ⟨some (.int x), ls, rfl, rfl, e4.trans (upd_strB (.inr (.inl rfl)) h4.hl), ?_⟩
          refine ⟨h4.sl, h4.sc, h4.lc, ?_, upd_same, ?_, h4.nc, fun y hy => h4.pl y (.tail _ hy), h4.pc, h4.few⟩
          · rw [upd_ne h4.sl]; exact h4.hs
          · rw [upd_ne h4.lc.symm]; exact h4.hc
/-- in every later heap it gives that value, and makes at most new things -/
def Gives (te : TE) (σ : L2.St) (H : Hp) (v : V) : Prop := ∀ H1, All H H1 → ∀ Q : VK, (∀ H', All H1 H' → Q v H') → te σ H1 Q
variable {σ : L2.St} {H : Hp}
theorem gives_var {i : Nat} {v : V} (h : σ[i]? = some (some v)) : Gives (tVar i) σ H v := fun H1 _ Q q => ⟨v, h, q H1 All.refl⟩
theorem gives_c {v : V} : Gives (tC v) σ H v := fun H1 _ Q q => q H1 All.refl
theorem gives_op {ta tb : TE} {a b r : Int} (o : Op) (ha : Gives ta σ H (.int a)) (hb : Gives tb σ H (.int b)) (h : ∀ c (P : D → Sx → Prop) Xp, P (.int r) c → opBin o (.int a) (.int b) c P Xp) : Gives (tOpD K o ta tb) σ H (.int r) := by
  intro H1 e1 Q q
  refine ha H1 e1 _ fun H2 e2 => hb H2 (e1.trans e2) _ fun H3 e3 => ?_
  refine ⟨nB, .int a, .int b, .z 0, fun d _ => d = .int r, fun _ _ => False, fun _ z => z.elim, .int _, .int _, h _ _ _ rfl, ?_⟩
  rintro z v H4 rfl a4 rv
  cases rv
  exact q H4 (e2.trans (e3.trans a4))
theorem gives_s {S L C : Addr} {ls cs : List Int} {t : Nat} {i : Int} {v : V} (h : StrL S L C ls cs t H) (h0 : σ[0]? = some (some (.ref S))) (hi : atI [V.ref L, V.ref C, V.int t] i = some v) : Gives (tS K i) σ H v :=
  fun H1 e1 Q q => s_at (h.all e1) h0 hi (q H1 All.refl)
theorem gives_len {te : TE} {a : Addr} {ns : List Int} (h : Gives te σ H (.ref a)) (ha : H a = some (.lst (ns.map V.int))) : Gives (tCB (rC1 K (bi1 .len)) (tCons te tNil)) σ H (.int ns.length) := by
  intro H1 e1 Q q
  refine h H1 e1 _ fun H2 e2 => ?_
  refine ⟨_, rfl, nB, .list (ns.map PyData.int), .z 0, fun d _ => d = .int ns.length, fun _ _ => False, fun _ z => z.elim, rep_ints (e2 _ _ (e1 _ _ ha)) id, ?_, ?_⟩
  · show (.int ((ns.map PyData.int).length : Int) : D) = .int ns.length
    rw [List.length_map]
  · rintro z v H4 rfl a4 rv
    cases rv
    exact q H4 (e2.trans a4)
theorem gives_ix {ta tb : TE} {a : Addr} {ns : List Int} {i x : Int} (h : Gives ta σ H (.ref a)) (hb : Gives tb σ H (.int i)) (ha : H a = some (.lst (ns.map V.int))) (hx : atI ns i = some x) : Gives (tOp (rD2 K opIdx) ta tb) σ H (.int x) := by
  intro H1 e1 Q q
  refine h H1 e1 _ fun H2 e2 => hb H2 (e1.trans e2) _ fun H3 e3 => ?_
  refine ⟨nB, .list (ns.map PyData.int), .int i, .z 0, fun d _ => d = .int x, fun _ _ => False, fun _ z => z.elim, rep_ints (e3 _ _ (e2 _ _ (e1 _ _ ha))) id, .int _, ?_, ?_⟩
  · show (match L2.atI (ns.map PyData.int) i with | some d => ret d | none => stuck) (.z 0) _ _
    have e : L2.atI (ns.map PyData.int) i = some (.int x) := by
      unfold atI at hx ⊢
      rw [List.length_map]
      cases q : ixN ns.length i with
      | none => rw [q] at hx; cases hx
      | some j =>
        rw [q] at hx
        have hx' : ns[j]? = some x := hx
        show (ns.map PyData.int)[j]? = _
        rw [List.getElem?_map, hx']
        rfl
    rw [e]
    rfl
  · rintro z v H4 rfl a4 rv
    cases rv
    exact q H4 (e2.trans (e3.trans a4))
theorem asg_gives {te : TE} {i : Nat} {v : V} {D : Ends} (h : Gives te σ H v) (q : ∀ H', All H H' → D.nx (σ.set i (some v)) H') : tAsg te (gName i) D σ H := h H All.refl _ fun H' e => q H' e
def tDrawRest (K : PySem.W.Frag) : TS := tSeq (tAsg (tOpD K .add (tS K 2) (tC (.int 1))) (gName 3)) (tSeq (tAsg (tVar 3) (gSub (tVar 0) (tC (.int 2)) rSetL))
  (tSeq (tAsg (tOpD K .mod (tOp (rD2 K opIdx) (tS K 1) (tOpD K .mod (tVar 3) (tCB (rC1 K (bi1 .len)) (tCons (tS K 1) tNil)))) (tC (.int 2147483587))) (gName 4))
  (tSeq (tAsg (tOpD K .mod (tOpD K .add (tOpD K .add (tOpD K .mul (tVar 4) (tOpD K .add (tC (.int 16807)) (tOpD K .mul (tC (.int 69621)) (tVar 3)))) (tOpD K .mul (tOpD K .mul (tC (.int 40692)) (tVar 3)) (tVar 3))) (tC (.int 53))) (tC (.int 2147483647))) (gName 5))
  (tRet (tOpD K .mod (tOpD K .fdiv (tOpD K .mod (tOpD K .mul (tVar 5) (tVar 5)) (tC (.int 2147483629))) (tC (.int 16))) (tVar 1))))))
theorem g_add {ta tb : TE} {a b : Int} (ha : Gives ta σ H (.int a)) (hb : Gives tb σ H (.int b)) : Gives (tOpD K .add ta tb) σ H (.int (a + b)) := gives_op .add ha hb fun _ _ _ h => h
theorem g_mul {ta tb : TE} {a b : Int} (ha : Gives ta σ H (.int a)) (hb : Gives tb σ H (.int b)) (h : mulOk a b) : Gives (tOpD K .mul ta tb) σ H (.int (a * b)) := gives_op .mul ha hb fun _ _ _ q => ⟨h, q⟩
theorem g_mod {ta tb : TE} {a b : Int} (ha : Gives ta σ H (.int a)) (hb : Gives tb σ H (.int b)) (h : 0 < b) : Gives (tOpD K .mod ta tb) σ H (.int (a % b)) := gives_op .mod ha hb fun _ _ _ q => ⟨h, q⟩
theorem g_fdiv {ta tb : TE} {a b : Int} (ha : Gives ta σ H (.int a)) (hb : Gives tb σ H (.int b)) (h : 0 < b ∧ b < 9223372036854775808) : Gives (tOpD K .fdiv ta tb) σ H (.int (a / b)) := gives_op .fdiv ha hb fun _ _ _ q => ⟨h, q⟩
theorem draw_rest {S L C : Addr} {ls cs : List Int} {t : Nat} {many : Int} {H0 : Hp} {D : Ends} {x2 x3 x4 x5 : Option V} (hm : 0 < many ∧ many < 9223372036854775808) (ht : t < 2 ^ 40)
    (rt : ∀ (r : Int) H, Ext (strB S L C) H0 H → StrL S L C ls cs (t + 1) H → 0 ≤ r → r < many → D.rt (.int r) H)
    (hS : StrL S L C ls cs t H0) : tDrawRest K D [some (.ref S), some (.int many), x2, x3, x4, x5] H0 := by
  have ht' : (t : Int) < 2 ^ 40 := by exact_mod_cast ht
  have t0 : (0 : Int) ≤ t := Int.natCast_nonneg t
  refine asg_gives (g_add (gives_s hS rfl rfl) gives_c) fun H1 e1 => ?_
  have h1 := hS.all e1
  refine ⟨_, rfl, _, rfl, S, _, 2, 2, rfl, rfl, h1.hs, rfl, ?_⟩
  have x2' := (e1.ext (B := strB S L C)).trans (upd_strB (S := S) (L := L) (C := C) (ys := [.ref L, .ref C, .int ((t : Int) + 1)]) (.inl rfl) h1.hs)
  have h2 : StrL S L C ls cs (t + 1) (upd H1 S (.lst [.ref L, .ref C, .int ((t : Int) + 1)])) := by
    refine ⟨h1.sl, h1.sc, h1.lc, upd_same, ?_, ?_, h1.nc, h1.pl, h1.pc, h1.few⟩
    · rw [upd_ne h1.sl.symm]; exact h1.hl
    · rw [upd_ne h1.sc.symm]; exact h1.hc
  show tSeq _ _ D _ (upd H1 S (.lst [.ref L, .ref C, .int ((t : Int) + 1)]))
  generalize upd H1 S (.lst [.ref L, .ref C, .int ((t : Int) + 1)]) = H2 at x2' h2
  have hlen : 0 < cs.length := List.length_pos_iff.mpr h2.nc
  have hi0 : 0 ≤ ((t : Int) + 1) % (cs.length : Int) := Int.emod_nonneg _ (by omega)
  have hi1 : ((t : Int) + 1) % (cs.length : Int) < cs.length := Int.emod_lt_of_pos _ (by omega)
  obtain ⟨x, hx⟩ : ∃ x, atI cs (((t : Int) + 1) % (cs.length : Int)) = some x := by
    unfold atI ixN
    rw [if_pos hi0, if_pos hi1]
    exact ⟨_, List.getElem?_eq_getElem (by omega)⟩
  refine asg_gives (g_mod (gives_ix (gives_s h2 rfl rfl) (g_mod (gives_var rfl) (gives_len (gives_s h2 rfl rfl) h2.hc) (by omega)) h2.hc hx) gives_c (by decide)) fun H3 e3 => ?_
  have h3 := h2.all e3
  have c0 : 0 ≤ x % 2147483587 := Int.emod_nonneg _ (by decide)
  have c1 : x % 2147483587 < 2147483587 := Int.emod_lt_of_pos _ (by decide)
  refine asg_gives (g_mod (g_add (g_add (g_mul (gives_var rfl) (g_add gives_c (g_mul gives_c (gives_var rfl) (.inl (by decide)))) (.inl ⟨by omega, by omega⟩)) (g_mul (g_mul gives_c (gives_var rfl) (.inl (by decide))) (gives_var rfl) (.inr ⟨by omega, by omega⟩))) gives_c) gives_c (by decide)) fun H4 e4 => ?_
  have h4 := h3.all e4
  refine g_mod (g_fdiv (g_mod (g_mul (gives_var rfl) (gives_var rfl) (.inl ⟨?_, ?_⟩)) gives_c (by decide)) gives_c (by decide)) (gives_var rfl) hm.1 H4 All.refl _ fun H5 e5 => ?_
  · exact Int.lt_of_lt_of_le (by decide) (Int.emod_nonneg _ (by decide))
  · exact Int.lt_trans (Int.emod_lt_of_pos _ (by decide)) (by decide)
  · exact rt _ H5 (x2'.trans ((e3.trans (e4.trans e5)).ext)) (h4.all e5) (Int.emod_nonneg _ (by omega)) (Int.emod_lt_of_pos _ hm.1)
/-- the draw's body does what the draw says -/
theorem draw_sem {S L C : Addr} {c : Nat} {many : Int} {H0 : Hp} {D : Ends} (hm : 0 < many ∧ many < 9223372036854775808) (hc : c < 2 ^ 40) (hS : StrI S L C c H0)
    (rt : ∀ (r : Int) H, Ext (strB S L C) H0 H → StrI S L C (c + 1) H → 0 ≤ r → r < many → D.rt (.int r) H) :
    tSeq (tWhile (tDrawTest K) (tDrawTurn K)) (tDrawRest K) D [some (.ref S), some (.int many), none, none, none, none] H0 := by
  obtain ⟨ls, cs, t, ht, hL⟩ := hS.told
  show tWhile (tDrawTest K) (tDrawTurn K) { D with nx := tDrawRest K D } _ _
  refine draw_while (D := { D with nx := tDrawRest K D }) hm (fun x2 H e h => ?_) (fun r ls' H e h a b => rt r H e (h.str (by omega)) a b) hL
  exact draw_rest hm (by omega) (fun r H' e' h' a b => rt r H' (e.trans e') (h'.str (by omega)) a b) h
end
section
variable {P : Program} {w : World} {K : PySem.W.Frag} {mg : Str → Option Value} {base : Heap}
theorem fdraw_told {ds : List D} {c : Sx} {P : D → Sx → Prop} {XP : Exn → Sx → Prop} (h : fDraw ds c P XP) : ∃ many : Int, ds = [.int many] ∧ (0 < many ∧ many < 9223372036854775808 ∧ c.n < 2 ^ 40) ∧ ∀ r : Int, 0 ≤ r → r < many → P (.int r) c.up := by
  unfold fDraw at h
  split at h
  · rename_i many
    exact ⟨many, rfl, h.1, h.2⟩
  · exact h.elim
theorem fn_draw (sm : HasSm base) {x qual : Str} {st : Stmt} {f : Addr} {fd : FuncData} {N : List Str} {x0 x1 : Str} {k : Nat} (F : FnP K x qual st f fd) (S : FnScope N [x0, x1] (defScope st)) (hl : N.length = 6)
    (body : ∀ (cdv : Value) (A : Around) (outer : List PySem.Env) (s : Shared) (H : Hp) (E : XK) (p : Par), Sit (bodyX true P w K mg base N qual st f cdv A outer s H E) p k → PSs (bodyX true P w K mg base N qual st f cdv A outer s H E) (defBody st) (tSeq (tWhile (tDrawTest K) (tDrawTurn K)) (tDrawRest K))) :
    FnG true P w K mg base (k + 1) f fd [x0, x1] (spS K mg fDraw) := by
  refine fnG_body F S (fun vs H Q E ⟨_, _, _, ws, _, _, _, _, _, e, _, _, rs, mm, _⟩ => by
    obtain ⟨many, e2, _⟩ := fdraw_told mm
    rw [e, List.length_append, rs.length, e2]
    rfl) (fun cdv A outer s H vs Q E hr hg hsp => ?_)
  obtain ⟨S1, L1, C1, ws, B, ds, c, Pd, XP, rfl, trk, si, rs, mm, kq, ke⟩ := hsp
  obtain ⟨many, rfl, ⟨m1, m2, hc⟩, mr⟩ := fdraw_told mm
  have ok : (parS K S1 L1 C1 H c B XP E).Ok K mg :=
    ⟨fun n H1 H2 h hk im => StI.same h hk im, fun n n' x cl d B1 H1 H' σ st _ hx hs he hr => ke x n' cl d H' hx (st.ext.trans he) hs (exrep_go (fun a z => z.elim (fun z => bm_more he.up a (st.subc a z)) .inr) hr)⟩
  have S' := sit_body (P := P) (w := w) (base := base) (mg := mg) (f := f) (outer := outer) (H := H) (p := parS K S1 L1 C1 H c B XP E) (E := E) S hr hg ok (fun _ _ _ _ h => h) rfl sm
  refine ⟨_, body cdv A outer s H E _ S', ?_⟩
  cases rs with
  | cons r t =>
    cases t
    cases r
    have e : L2.start N ((if true = true then [V.ref S1] else []) ++ [V.int many]) = [some (.ref S1), some (.int many), none, none, none, none] := by
      show L2.start N [V.ref S1, V.int many] = _
      unfold L2.start
      rw [hl]
      rfl
    rw [e]
    refine draw_sem ⟨m1, m2⟩ hc si.str fun r H' e h a b => kq (.int r) c.up _ H' (mr r a b) ⟨e.more fun _ z => .inl z, fun _ z => z, fun _ z _ => z, fun g a z => e.dom a (g a z)⟩ ⟨h, fun a x q => ?_⟩ (.int r)
    have q1 := si.at_ a x q
    exact ⟨q1.1, q1.2.go e.imm fun o ho => e.keep a o ho q1.1⟩
end
section
variable {P : Program} {w : World} {K : PySem.W.Frag} {mg : Str → Option Value} {base : Heap} {X : Cx} {p : Par} {k : Nat}
/-- the script, walked -/
theorem pi_scr (i : Nat) {tg e : Expr} (he : PE X e (tVar i)) : PDI X p tg e (iScr i) := by
  refine ⟨_, pi_list he, fun B H σ E c P R st r m kk => ?_⟩
  have m' : (match E[i]? with | some (.scr ns) => ret (ns.map PyData.int) | _ => stuck) c P p.XP := m
  cases h : E[i]? with
  | none => rw [h] at m'; exact m'.elim
  | some y =>
    rw [h] at m'
    cases y with
    | scr ns =>
      obtain ⟨s, h1, h2⟩ := r.at_ i _ h
      cases h2 with
      | scr q =>
        rename_i a
        refine ⟨_, h1, a, rfl, ⟨_, q H fun o ho _ => ho⟩, kk _ c _ H m' Ev.refl st.si ?_⟩
        refine ⟨fun H' => SqL X.K H' a (ns.map V.int), q H fun o ho _ => ho, fun B1 H1 t => q H1 fun o ho hi => t.ext.imm a o ho hi, ?_⟩
        have wk := walk_list (K := X.K) (a := a) (xs := ns.map V.int)
        rw [List.length_map] at wk ⊢
        refine wk.mono (fun _ h => h) fun i H1 x H' hi hg y => ⟨fun b o e => by rw [y.1]; exact e, fun B1 t _ => ?_⟩
        obtain ⟨n, hn, rfl⟩ : ∃ n, ns[i]? = some n ∧ x = V.int n := by
          have y2 := y.2
          rw [List.getElem?_map] at y2
          cases e : ns[i]? with
          | none => rw [e] at y2; cases y2
          | some n => rw [e] at y2; exact ⟨n, rfl, (Option.some.inj y2).symm⟩
        exact ⟨.int n, by rw [List.getElem?_map, hn]; rfl, .int n⟩
    | _ => exact m'.elim
def spMake (K : PySem.W.Frag) : Sp := fun vs H Q EK => ∃ (a : Addr) (ns : List Int), vs = [.ref a] ∧ ns.length ≤ 63 ∧ (∀ H' : Hp, (∀ o, H a = some o → Imm o → H' a = some o) → SqL K H' a (ns.map V.int)) ∧
  ∀ (S L C : Addr) (H' : Hp), All H H' → StrI S L C 0 H' → Q (.ref S) H'
end
end DL
end
section
namespace DL
open PySem PySem.Spec PyProof.Rows L2
section
variable {P : Program} {w : World} {K : PySem.W.Frag} {mg : Str → Option Value} {base : Heap} {X : Cx} {p : Par} {k : Nat}
/-- the words of the stream's def -/
def mCells : XE := eComp (iScr 0) (.nm 2) tYes (eB1 .abs (eVar 2)) [2]
def mLarge : XE := eComp (iLst (eVar 1)) (.nm 2) (tBool (eCmp .ge (eVar 2) (eBin .pow (eCon (.int 10)) (eCon (.int 18))))) (eVar 2) [2]
def mSmall : XE := eIf (tBool (eCmp .ne (eVar 1) (eLst aNil))) (eVar 1) (eLst (aCons (eCon (.int 41)) aNil))
def absI (i : Int) : Int := if i < 0 then -i else i
theorem comp_abs (E : Env) (h : E.length = 3) : ∀ (ns : List Int) (acc : List D), acc.length + ns.length ≤ 1000 → compL (.nm 2) tYes (eB1 .abs (eVar 2)) (ns.map PyData.int) acc E = ret (acc ++ (ns.map absI).map PyData.int)
  | [], acc, _ => by simp [compL]
  | n :: ns, acc, hl => by
    simp only [List.length_cons] at hl
    have e : (E.set 2 (Ent.val (.int n)))[2]? = some (Ent.val (.int n)) := by rw [List.getElem?_set_self (by omega)]
    have hs : small acc.length := by unfold small; omega
    show bnd (tYes (E.set 2 (Ent.val (.int n)))) _ = _
    simp only [tYes, bnd_ret, if_true, eB1, eVar, e, bi1]
    rw [grd_pos hs, comp_abs E h ns _ (by rw [List.length_append]; simp only [List.length_singleton]; omega)]
    simp [absI]
theorem comp_large (E : Env) (h : E.length = 3) : ∀ (ns : List Int) (acc : List D), acc.length + ns.length ≤ 1000 → compL (.nm 2) (tBool (eCmp .ge (eVar 2) (eBin .pow (eCon (.int 10)) (eCon (.int 18))))) (eVar 2) (ns.map PyData.int) acc E =
      ret (acc ++ (ns.filter fun n => decide (10 ^ 18 ≤ n)).map PyData.int)
  | [], acc, _ => by simp [compL]
  | n :: ns, acc, hl => by
    simp only [List.length_cons] at hl
    have e : (E.set 2 (Ent.val (.int n)))[2]? = some (Ent.val (.int n)) := by rw [List.getElem?_set_self (by omega)]
    have hs : small acc.length := by unfold small; omega
    have hp : opPow (.int 10) (.int 18) = ret (.int (10 ^ 18)) := by
      show grd _ _ = _
      rw [grd_pos (by decide)]
      rfl
    show bnd (tBool _ (E.set 2 (Ent.val (.int n)))) _ = _
    simp only [tBool, eCmp, eBin, eCon, eVar, e, bnd_ret, opBin, hp, opCmp, opLe]
    by_cases hn : (10 : Int) ^ 18 ≤ n
    · rw [decide_eq_true hn, if_pos rfl, grd_pos hs, comp_large E h ns _ (by rw [List.length_append]; simp only [List.length_singleton]; omega), List.filter_cons_of_pos (by simpa using hn)]
      simp
    · rw [decide_eq_false hn, if_neg (by decide), comp_large E h ns _ (by omega), List.filter_cons_of_neg (by simpa using hn)]
/-- the body's par: a def that knows no state -/
def parN (H : Hp) (Q : XK) : Par := ⟨fun _ _ => False, fun _ _ => True, 0, H, .z 0, nB, fun _ _ => False, fun _ => Q, none, fun _ => none⟩
theorem bmN {H : Hp} {Q : XK} {B : Addr → Prop} {c : Sx} : ∀ a, bm (parN H Q) B c a → B a := fun a z => z.elim id fun z => z.elim
theorem st_triv {Q : XK} {H : Hp} : St0 (parN H Q) (.z 0) nB H := ⟨fun _ z => .inl z, fun a z => (bmN a z).elim, True.intro, Ev.refl⟩
theorem absI_nonneg (i : Int) : 0 ≤ absI i := by unfold absI; split <;> omega
theorem stream_sem {EK : XK} {H0 : Hp} {ts1 : TS} {te1 te2 : TE} {a : Addr} {ns : List Int} {D : Ends} (hl : ns.length ≤ 63) (hq : ∀ H' : Hp, (∀ o, H0 a = some o → Imm o → H' a = some o) → SqL K H' a (ns.map V.int))
    (a2 : SR K (parN H0 EK) ts1 (sAsg 1 mCells)) (b2 : EvF K (parN H0 EK) te1 mLarge) (c2 : EvR K (parN H0 EK) te2 mSmall)
    (q : ∀ (S L C : Addr) (H' : Hp), All H0 H' → StrI S L C 0 H' → D.rt (.ref S) H') :
    tSeq ts1 (tRet (tLst (tCons te1 (tCons te2 (tCons (tC (.int 0)) tNil))))) D [some (.ref a), none, none] H0 := by
  refine a2 nB H0 _ [.scr ns, .unk, .unk] (.z 0) (fun o _ => o = .nx [.scr ns, .val (.list ((ns.map absI).map PyData.int)), .unk]) _ st_triv ?_ ?_ ?_ ?_ ?_ ?_
  · refine ⟨rfl, fun i e h => ?_, fun i j b xs ys h => ?_, .no rfl, fun j a xs z _ => by cases z⟩
    · match i, h with
      | 0, h => cases h; exact ⟨_, rfl, .scr hq⟩
      | 1, h => cases h; exact ⟨_, rfl, .unk _⟩
      | 2, h => cases h; exact ⟨_, rfl, .unk _⟩
    · match i, h with
      | 0, h => cases h
      | 1, h => cases h
      | 2, h => cases h
  · show bnd (eComp (iScr 0) (.nm 2) tYes (eB1 .abs (eVar 2)) [2] [.scr ns, .unk, .unk]) _ (.z 0) _ _
    show bnd (bnd (ret (ns.map PyData.int)) _) _ (.z 0) _ _
    simp only [bnd_ret]
    rw [comp_abs _ rfl ns [] (by simp only [List.length_nil]; omega)]
    rfl
  · rintro E' c' B' σ' H' hE st' tr' r'
    cases hE
    refine b2 B' H' σ' _ c' (fun d _ => d = .list (((ns.map absI).filter fun n => decide (10 ^ 18 ≤ n)).map PyData.int)) _ st' r' ?_ ?_
    · show bnd (bnd (ret _) _) _ c' _ _
      show bnd (noX (compL (.nm 2) (tBool (eCmp .ge (eVar 2) (eBin .pow (eCon (.int 10)) (eCon (.int 18))))) (eVar 2) ((ns.map absI).map PyData.int) [] _)) _ c' _ _
      rw [comp_large _ rfl (ns.map absI) [] (by simp only [List.length_nil, List.length_map]; omega)]
      rfl
    · rintro ds c1 L xs H1 hds e1 _ hL h1 rs
      cases hds
      have hxs := rs.ints (ints?_map _)
      subst hxs
      have st1 := st_q st' hL.1 e1.q True.intro (some_ne h1) (n' := c1)
      have r1 := env_q0 rfl r' st' hL.1 e1.q
      refine c2 _ H1 σ' _ c1 (fun d _ => d = .list ((if ns = [] then [41] else ns.map absI).map PyData.int)) _ st1 r1 ?_ ?_
      · have he : opEq (.list ((ns.map absI).map PyData.int)) (.list []) = ret (decide (ns = [])) := by
          unfold opEq
          rw [grd_pos (eqOk_of (shaped_ints _) rfl)]
          cases ns with
          | nil => rfl
          | cons n r => rfl
        have g0 : small ([] : List PyData).length := Nat.zero_le _
        have g1 : small [PyData.int 41].length := by show 1 ≤ 1000000; omega
        simp only [mSmall, eIf, tBool, eCmp, eVar, eLst, aNil, aCons, eCon, List.getElem?_cons_succ, List.getElem?_cons_zero, bnd_ret, grd_pos g0, grd_pos g1, opCmp, he]
        by_cases hn : ns = []
        · rw [hn]
          rfl
        · rw [decide_eq_false hn, if_neg hn]
          rfl
      · rintro d c3 v H2 rfl e2 _ rv
        cases rv with
        | lst h2 nb rs2 =>
          rename_i C ys
          have hys := rs2.ints (ints?_map _)
          subst hys
          have hLC : L ≠ C := fun z => nb (.inl (.inr z.symm))
          have h1' : H2 L = some (.lst (((ns.map absI).filter fun n => decide (10 ^ 18 ≤ n)).map V.int)) := e2.ext.keep _ _ h1 fun z => z
          refine ⟨by rw [sizeLine_eq]; show 3 ≤ _; decide, fun S hS => ?_⟩
          have nL : S ≠ L := fun z => by rw [z, h1'] at hS; cases hS
          have nC : S ≠ C := fun z => by rw [z, h2] at hS; cases hS
          refine q S L C _ ((all_of st'.ext.ext).trans ((all_of e1.ext).trans ((all_of e2.ext).trans (All.new hS)))) ⟨nL, nC, hLC, (ns.map absI).filter fun n => decide (10 ^ 18 ≤ n), if ns = [] then [41] else ns.map absI, 0, Nat.le_refl 0, upd_same, ?_, ?_, ?_, ?_, ?_, ?_⟩
          · rw [upd_ne nL.symm]; exact h1'
          · rw [upd_ne nC.symm]; exact h2
          · split
            · exact fun z => nomatch z
            · rename_i hn
              exact fun z => hn (List.map_eq_nil_iff.mp z)
          · intro x hx
            obtain ⟨y, _, rfl⟩ := List.mem_map.mp (List.mem_filter.mp hx).1
            exact absI_nonneg y
          · intro x hx
            split at hx
            · rw [List.mem_singleton.mp hx]; decide
            · obtain ⟨y, _, rfl⟩ := List.mem_map.mp hx
              exact absI_nonneg y
          · split
            · decide
            · rw [List.length_map]; omega
  · rintro d c' v H' h; cases h
  · rintro E' c' B' σ' H' h; cases h
  · rintro E' c' B' σ' H' h; cases h
end
section
variable {P : Program} {w : World} {K : PySem.W.Frag} {mg : Str → Option Value} {base : Heap}
/-- the stream's def -/
theorem fn_stream (sm : HasSm base) {x qual : Str} {st : Stmt} {f : Addr} {fd : FuncData} {N : List Str} {x0 : Str} {k : Nat} (F : FnP K x qual st f fd) (S : FnScope N [x0] (defScope st)) (hl : N.length = 3)
    (body : ∀ (cdv : Value) (A : Around) (outer : List PySem.Env) (s : Shared) (H : Hp) (E : XK) (p : Par), Sit (bodyX true P w K mg base N qual st f cdv A outer s H E) p k →
      ∃ (s1 : Stmt) (e1 e2 : Expr), (∀ t1 te1 te2, PS (bodyX true P w K mg base N qual st f cdv A outer s H E) s1 t1 → PE (bodyX true P w K mg base N qual st f cdv A outer s H E) e1 te1 → PE (bodyX true P w K mg base N qual st f cdv A outer s H E) e2 te2 →
          PSs (bodyX true P w K mg base N qual st f cdv A outer s H E) (defBody st) (tSeq t1 (tRet (tLst (tCons te1 (tCons te2 (tCons (tC (.int 0)) tNil))))))) ∧
        PSD (bodyX true P w K mg base N qual st f cdv A outer s H E) p s1 (sAsg 1 mCells) ∧ PDF (bodyX true P w K mg base N qual st f cdv A outer s H E) p e1 mLarge ∧ PD (bodyX true P w K mg base N qual st f cdv A outer s H E) p e2 mSmall) :
    FnG true P w K mg base (k + 1) f fd [x0] (spMake K) := by
  refine fnG_body F S (fun vs H Q E ⟨_, _, e, _⟩ => by rw [e]; rfl) (fun cdv A outer s H vs Q E hr hg hsp => ?_)
  obtain ⟨a, ns, rfl, hn, hS, kq⟩ := hsp
  have ok : (parN H E).Ok K mg := ⟨fun _ _ _ _ _ _ => True.intro, fun _ _ _ _ _ _ _ _ _ _ _ z => z.elim⟩
  have S' := sit_body (P := P) (w := w) (base := base) (mg := mg) (f := f) (outer := outer) (H := H) (p := parN H E) (E := E) S hr hg ok (fun _ _ _ _ h => h) rfl sm
  obtain ⟨s1, e1, e2, mk, h1, h2, h3⟩ := body cdv A outer s H E _ S'
  obtain ⟨t1, a1, a2⟩ := h1.ex
  obtain ⟨t2, b1, b2⟩ := h2.ex
  obtain ⟨t3, c1, c2⟩ := h3.ex
  refine ⟨_, mk t1 t2 t3 a1 b1 c1, ?_⟩
  have e : L2.start N [V.ref a] = [some (.ref a), none, none] := by
    unfold L2.start
    rw [hl]
    rfl
  rw [e]
  exact stream_sem hn hS a2 b2 c2 fun S L C H' al si => kq S L C H' al si
theorem pss_any {X : Cx} {ss : List Stmt} : PSs X ss (fun D σ H => ∃ ts, PSs X ss ts ∧ ts D σ H) := ⟨fun pins s σ H D I ⟨_, h, q⟩ => h.run pins s σ H D I q⟩
/-- what the law is asked -/
def spLaw (K : PySem.W.Frag) : Sp := fun vs H Q _ => ∃ (a : Addr) (ns : List Int), vs = [.ref a] ∧ ns.length ≤ 63 ∧ (∀ H' : Hp, (∀ o, H a = some o → Imm o → H' a = some o) → SqL K H' a (ns.map V.int)) ∧ ∀ H', Q (.bl true) H'
/-- the law's own environment: the stream at i -/
def lawE (n i : Nat) : Env := (List.replicate n Ent.unk).set i .stm
theorem fn_law (sm : HasSm base) {x qual : Str} {st : Stmt} {f fM : Addr} {fd fdM : FuncData} {N : List Str} {x0 : Str} {j k i : Nat} {m : XS} (F : FnP K x qual st f fd) (S : FnScope N [x0] (defScope st)) (hi : i < N.length) (h0 : 0 < N.length)
    (G : FnG true P w K mg base j fM fdM [x0] (spMake K)) (hj : j ≤ k)
    (body : ∀ (cdv : Value) (A : Around) (outer : List PySem.Env) (s : Shared) (H : Hp) (E : XK), ∃ rest,
      (∀ ts, (RoomB true k (bodyX true P w K mg base N qual st f cdv A outer s H E).A → (bodyX true P w K mg base N qual st f cdv A outer s H E).A.guards = some [] → (∀ σ, PassesAt (L2.CX P w) (bodyX true P w K mg base N qual st f cdv A outer s H E) σ E) → PSs (bodyX true P w K mg base N qual st f cdv A outer s H E) rest ts →
        PSs (bodyX true P w K mg base N qual st f cdv A outer s H E) (defBody st) (tSeq (tAsg (tCallSD (spMake K) [] (fun _ => E) (tCons (tVar 0) tNil)) (gName i)) ts))) ∧
      ∀ (p : Par), Sit (bodyX true P w K mg base N qual st f cdv A outer s H E) p k → IsStr K p → (∀ i, p.pin i = none) → PSSD (bodyX true P w K mg base N qual st f cdv A outer s H E) p rest m)
    (math : m (lawE N.length i) (.z 0) (fun o _ => o = .rt (.bool true)) fun _ _ => False) : FnG true P w K mg base (k + 1) f fd [x0] (spLaw K) := by
  refine fnG_body F S (fun vs H Q E ⟨_, _, e, _⟩ => by rw [e]; rfl) (fun cdv A outer s H vs Q E hr hg hsp => ?_)
  obtain ⟨a, ns, rfl, hn, hS, kq⟩ := hsp
  obtain ⟨rest, mk, hb⟩ := body cdv A outer s H E
  refine ⟨_, mk _ hr hg (fun σ pins H s e s' I h => passes_call (E := E) (takes_of rfl rfl rfl rfl) (fun _ _ _ _ h => h) pins σ H s e s' I h) pss_any, ?_⟩
  have e0 : (L2.start N [V.ref a])[0]? = some (some (.ref a)) := rfl
  refine ⟨.ref a, e0, a, ns, rfl, hn, hS, fun S1 L1 C1 H1 al si => ?_⟩
  have okp : (parS K S1 L1 C1 H1 (.z 0) nB (fun _ _ => False) E).Ok K mg :=
    ⟨fun n Ha Hb h hk im => StI.same h hk im, fun _ _ _ _ _ _ _ _ _ _ _ z => z.elim⟩
  have sti : StI K S1 L1 C1 (.z 0) H1 := ⟨si, fun a x e => by cases e⟩
  have S' := sit_body (P := P) (w := w) (base := base) (mg := mg) (f := f) (outer := outer) (H := H) (p := parS K S1 L1 C1 H1 (.z 0) nB (fun _ _ => False) E) (E := E) S hr hg okp (fun _ _ _ _ h => h) rfl sm
  obtain ⟨ts, t1, t2⟩ := (hb _ S' ⟨S1, L1, C1, rfl, rfl, rfl⟩ fun _ => rfl).ex
  refine ⟨ts, t1, ?_⟩
  have l1 : (L2.start N [V.ref a]).length = N.length := by
    unfold L2.start
    rw [List.length_append, List.length_map, List.length_replicate, List.length_singleton]
    omega
  refine t2 nB H1 _ (lawE N.length i) (.z 0) (fun o _ => o = .rt (.bool true)) _ ⟨fun _ z => .inl z, fun a z => z.elim (fun z => z.elim) fun z => sti.there z, sti, Ev.refl⟩ ⟨?_, fun q e h => ?_, fun q r b xs ys h => ?_, .no rfl, fun j a xs z _ => by cases z⟩ math ?_ ?_ ?_ ?_
  · unfold lawE
    rw [List.length_set, List.length_set, l1, List.length_replicate]
  · unfold lawE at h
    rw [List.getElem?_set] at h ⊢
    by_cases hq : i = q
    · rw [if_pos hq] at h ⊢
      rw [List.length_replicate, if_pos hi] at h
      rw [l1, if_pos hi]
      cases h
      exact ⟨_, rfl, .stm (p := parS K S1 L1 C1 H1 (.z 0) nB (fun _ _ => False) E)⟩
    · rw [if_neg hq] at h ⊢
      rw [List.getElem?_replicate] at h
      split at h
      · cases h
        rename_i hlt
        exact ⟨_, List.getElem?_eq_getElem (by rw [l1]; exact hlt), .unk _⟩
      · cases h
  · unfold lawE at h
    rw [List.getElem?_set] at h
    by_cases hq : i = q
    · rw [if_pos hq] at h
      split at h <;> cases h
    · rw [if_neg hq, List.getElem?_replicate] at h
      split at h <;> cases h
  · rintro E' c' B' σ' H' h; cases h
  · intro d c' v H' h _ _ rv
    cases h
    cases rv
    exact kq H'
  · rintro E' c' B' σ' H' h; cases h
  · rintro E' c' B' σ' H' h; cases h
end
section
variable {P : Program} {w : World} {K : PySem.W.Frag} {mg mb : Str → Option Value}
theorem enter_law {k : Nat} {f a : Addr} {fd : FuncData} {x : Str} {s : Shared} {us : List Value} {ns : List Int} (inK : K.In s.heap) (g : s.heap.Ns mainGlobals mg) (b : s.heap.Ns builtinsNs mb) (bb : ∀ y : Str, y ≠ "__name__" → mb y = bootBuiltins y)
    (lim : s.heap.NoLimit) (noGens : s.gens = #[]) (hObj : s.heap.get? a = some { cls := .type "list", data := .seq us.toArray }) (isI : IntsAre us ns) (few : ns.length ≤ 63) (room : Room k callerA)
    (G : ∀ bh : Heap, K.In bh → bh.Ns mainGlobals mg → FnG true P w K mg bh k f fd [x] (spLaw K)) (binds : ∀ (t : Shared) (u : Value), BindsTo t fd ⟨[u], []⟩ [(x, u)]) :
    codeAny (model P w) callerA (.call (.ref f) ⟨[.ref a], []⟩) (fun r t => r = .ok (.ret (.bool true)) ∧ OldK s.heap t.heap ∧ t.os = s.os ∧ AllBare t.gens) s := by
  have vals := vals_ints isI
  have fewL : ns.length ≤ sizeLine := Nat.le_trans few (by rw [sizeLine_eq]; decide)
  have lens := isI.length
  classical
  let fz : HO := .frz { cls := .type "list", data := .seq us.toArray } (.lst (ns.map V.int))
  let H : Hp := fun c => if c = a ∧ K.lookup a = none then some fz else none
  have Hin : ∀ c o, H c = some o → c = a ∧ K.lookup a = none ∧ o = fz := fun c o h => by
    by_cases hc : c = a ∧ K.lookup a = none
    · have z := (if_pos hc).symm.trans h
      cases z
      exact ⟨hc.1, hc.2, rfl⟩
    · have z := (if_neg hc).symm.trans h
      cases z
  have Hno : ∀ c, (c ≠ a ∨ K.lookup a ≠ none) → H c = none := fun c h => if_neg fun z => h.elim (fun q => q z.1) fun q => q z.2
  have seqA : ∀ H' : Hp, (∀ o, H a = some o → Imm o → H' a = some o) → SqL K H' a (ns.map V.int) := by
    intro H' hk
    cases q : K.lookup a with
    | none => exact .inl (.inr ⟨_, hk fz (if_pos ⟨rfl, q⟩) True.intro⟩)
    | some o =>
      have e := inK a o q
      rw [hObj] at e
      cases e
      exact .inr ⟨_, us.toArray, _, q, rfl, rfl, rfl, by rw [List.size_toArray, lens]; exact fewL, by simpa using vals⟩
  have kept : ∀ {c : Addr} {o : Obj}, s.heap.get? c = some o → H c = none → (hidT s.heap H).get? c = some o := fun h1 h2 => hidT_get h1 h2
  have dictNo : ∀ {c : Addr} {o : Obj} {es : Array DictEntry} {n : Nat}, s.heap.get? c = some o → o.data = .dict es n → H c = none := fun {c o es n} h1 h2 => Hno c (.inl fun z => by
    rw [z, hObj] at h1
    cases h1
    have h3 : Data.seq us.toArray _ = Data.dict es n := h2
    cases h3)
  have nsTo : ∀ {c : Addr} {m : Str → Option Value}, s.heap.Ns c m → (hidT s.heap H).Ns c m := fun {c m} ⟨o, es, n, h1, h2, h3⟩ => ⟨o, es, n, kept h1 (dictNo h1 h2), h2, h3⟩
  have inB : K.In (hidT s.heap H) := fun c o h => kept (inK c o h) (Hno c (by
    by_cases z : c = a
    · exact .inr (by rw [← z, h]; exact fun q => nomatch q)
    · exact .inl z))
  have md : Mod K mg (hidT s.heap H) := ⟨inB, nsTo g, ⟨mb, nsTo b, bb⟩, let ⟨m2, y1, y2⟩ := lim; ⟨m2, nsTo y1, y2⟩⟩
  have good : HOk P w H s.heap := fun c o h => by
    obtain ⟨rfl, _, rfl⟩ := Hin c o h
    exact ⟨hObj, by rw [List.length_map]; exact fewL, us, _, vals, hObj⟩
  have start0 : Env0 P w K mg (hidT s.heap H) callerA [] s H := ⟨rfl, md, fun c o h => of_hidT h, Nat.le_of_eq (hidT_size _ _), trivial, fun c hc => (nomatch hc), good, .of_eq noGens⟩
  have asked : spLaw K [.ref a] H (fun v _ => v = .bl true) fun _ _ _ => False := ⟨a, ns, rfl, few, seqA, fun _ => rfl⟩
  have ran := (G _ inB (nsTo g)).go callerA [] s H ⟨[.ref a], []⟩ [.ref a] [.ref a] _ _ (.of room) rfl start0 (binds s (.ref a)) (.cons rfl .nil) asked
  refine codeAny_mono ran fun r t h => ?_
  match r, h with
  | .error e, h =>
    obtain ⟨_, _, _, _, _, _, _, _, _, _, _, _, no⟩ := h
    exact no.elim
  | .ok (.ret u), h =>
    obtain ⟨v, H2, os2, bare2, un2, ok2, rel2, veq⟩ := h
    have veq' : v = .bl true := veq
    rw [veq'] at rel2
    have ueq : u = Value.bool true := rel2
    rw [ueq]
    refine ⟨rfl, OldK.of_keep fun c o hc => ?_, os2, bare2⟩
    cases q : H c with
    | none => exact un2.keep c o hc q (fun z => (nomatch z)) (fun z => (nomatch z))
    | some o2 =>
      obtain ⟨rfl, _, rfl⟩ := Hin c o2 q
      obtain ⟨g1, _⟩ := good c _ q
      obtain ⟨g2, _⟩ := ok2 c _ (un2.frzs c _ _ q)
      rw [hc] at g1
      cases g1
      exact g2
  | .ok .next, h => exact h.elim
  | .ok .brk, h => exact h.elim
  | .ok .cont, h => exact h.elim
end
theorem walk_law {l : PySem.W.OpenLaw} {k : Nat} {q : Program} {loose : List Str} {XP : (Str → Option Value) → Heap → Prop} {YP : World → Heap → Prop} {d : DefRec} {x : Str} (hn : l.most = some 63) (hdf : d.params.defaults = []) (room : Room k callerA)
    (F : ∀ (w : World) (mg : Str → Option Value) (f : Addr) (h : Heap), YP w h → h.Ns mainGlobals mg → mg d.name = some (.ref f) →
      ∃ (K : PySem.W.Frag) (fd : FuncData), K.In h ∧ (∀ (t : Shared) (u : Value), BindsTo t fd ⟨[u], []⟩ [(x, u)]) ∧ ∀ bh : Heap, K.In bh → bh.Ns mainGlobals mg → FnG true l.prog w K mg bh k f fd [x] (spLaw K)) :
    PySem.W.WalkO q loose XP YP l.row.toRowW d [] (fun f vs => PySem.call f vs) := by
  refine Att.attach_call hn hdf fun w s0 s mg mb f o pm cd doc a us ns gr Y _ _ _ hmg hObj isI few noGens => ?_
  obtain ⟨K, fd, inK, bd, G⟩ := F w mg f _ Y gr.T.g hmg
  exact enter_law inK gr.T.g gr.T.b gr.T.builtins gr.T.nolimit noGens hObj isI few room G bd
end DL
end
section
namespace DL
open PySem PySem.Spec PyProof.Rows L2
section
variable {X : Cx} {p : Par} {k : Nat} {tg : Expr}
def wAny (K : PySem.W.Frag) (te : TE) : TI := fun σ H R => te σ H fun x H1 => ∃ a, x = .ref a ∧ ((∃ xs, SqL K H1 a xs ∧ R (Itl K a) H1) ∨ (∃ xs, SqT K H1 a xs ∧ R (Itt K a) H1))
theorem pi_any {e : Expr} {te : TE} (he : PE X e te) : PI X tg e (wAny X.K te) := by
  constructor
  intro pins s σ H R I h
  refine thn (he.run pins s σ H _ I h) fun v s2 ⟨x, H2, I2, rel, a, xe, alt⟩ => ?_
  subst xe
  cases rel
  have youngest : ∀ c, c ∈ [s2.heap.objs.size] → FpOk X pins H2 c := fun c hc => by
    rw [List.mem_singleton.mp hc]
    exact I2.fpOk (Nat.le_refl _) (I2.hok.fresh (Nat.le_refl _))
  rcases alt with ⟨xs, sq, r⟩ | ⟨xs, sq, r⟩
  · obtain ⟨its, vals, isl, _⟩ := I2.list sq
    exact wpAny_pyIter_list isl.isList ⟨s2.heap.objs.size, [s2.heap.objs.size], _, _, H2, rfl, I2.kept (t' := s2.toks) fun c o h => Heap.get?_push_of_some _ h, turn_list a _, ⟨_, Heap.get?_push_size _ rfl, rfl, rfl⟩, youngest, r⟩
  · obtain ⟨its, vals, ist, _⟩ := I2.tuple sq
    exact wpAny_pyIter_tuple (show s2.heap.IsTuple a its.toArray from ist) ⟨s2.heap.objs.size, [s2.heap.objs.size], _, _, H2, rfl, I2.kept (t' := s2.toks) fun c o h => Heap.get?_push_of_some _ h, turn_tuple a _, ⟨_, Heap.get?_push_size _ rfl, rfl, rfl⟩, youngest, r⟩
theorem pi_seq {e : Expr} {m : XE} (he : PD X p e m) : PDI X p tg e (iSeq m) := by
  obtain ⟨te, a1, a2⟩ := he.ex
  refine ⟨_, pi_any a1, fun B H σ E c P R st r m k => ?_⟩
  refine a2 B H σ E _ _ _ st r m fun d c1 v H1 m1 e1 s1 r1 => ?_
  cases r1 with
  | lst q n t => exact ⟨_, rfl, .inl ⟨_, SqL.of q, k _ _ _ H1 m1 e1 s1 (walkD_list q n t)⟩⟩
  | tup q t => exact ⟨_, rfl, .inr ⟨_, q, k _ _ _ H1 m1 e1 s1 (walkD_tup q t)⟩⟩
  | _ => exact m1.elim
/-- names = e -/
theorem sd_put {cb : Bool} (S : SitB cb true X p k) {e : Expr} {m : XE} {t : Tg} {pos : Pos} (hg : PG X tg (gOf X.K t)) (he : PD X p e m) (hs : swapsWithSole [tg] e pos.line X.env = pure false := by rfl) (hw : swappedStores [tg] e X.env = pure none := by rfl)
    (h1 : (assignEach [tg] X.env).map (·.2) = [assign tg X.env] := by rfl) : PSD X p (.Assign [tg] e pos) (sPut t m) := by
  obtain ⟨te, a1, a2⟩ := he.ex
  refine ⟨_, ps_asg a1 hg hs hw h1, fun B H σ E c P Dn st r m nx rt bk ct => ?_⟩
  refine a2 B H σ E _ _ _ st r m fun d c1 v H1 m1 e1 s1 r1 => ?_
  have m1' : (match t.put d E with | some E' => ret (Out.nx E') | none => stuck) c1 P p.XP := m1
  cases h : t.put d E with
  | none => rw [h] at m1'; exact m1'.elim
  | some E' =>
    rw [h] at m1'
    exact gOf_put S.nf (r.go st e1) r1 h _ fun σ' g _ _ => nx _ _ B _ H1 m1' (st.go e1 s1) ((st.up e1)) g
end
end DL
end
section
namespace DL
open PySem PySem.Spec PyProof.Rows L2
/-- a sequence, by its kind: a tuple, a list -/
def SqX (K : PySem.W.Frag) (t : Bool) (H : Hp) (a : Addr) (xs : List V) : Prop := if t = true then SqT K H a xs else SqL K H a xs
def ItX (t : Bool) (h : Heap) (it a : Addr) (i : Nat) : Prop := if t = true then h.IsTupleIter it a i else h.IsListIter it a i
def ObX (t : Bool) (h : Heap) (a : Addr) (its : List Value) : Prop := if t = true then h.IsTuple a its.toArray else h.IsList a its.toArray
def cellX (t : Bool) (a : Addr) : Obj := if t = true then { cls := .type "tuple_iterator", data := .fields #[.ref a, .int 0 0] } else { cls := .type "list_iterator", data := .fields #[.ref a, .int 0 0] }
theorem ItX.at_ {t : Bool} {h h' : Heap} {it a : Addr} {i : Nat} (x : ItX t h it a i) (e : ∀ o, h.get? it = some o → h'.get? it = some o) : ItX t h' it a i := by
  cases t
  · exact Heap.IsListIter.at (h := h) x e
  · exact Heap.IsTupleIter.at (h := h) x e
theorem ItX.get {t : Bool} {h : Heap} {it a : Addr} {i : Nat} (x : ItX t h it a i) : ∃ o vs, h.get? it = some o ∧ o.data = .fields vs := by
  cases t
  · obtain ⟨o, e, _, d⟩ := (show h.IsListIter it a i from x); exact ⟨o, _, e, d⟩
  · obtain ⟨o, e, _, d⟩ := (show h.IsTupleIter it a i from x); exact ⟨o, _, e, d⟩
theorem drawsX {P : Program} {w : World} {A : Around} (hh : A.handled = none) (t : Bool) (it a : Addr) (hne : a ≠ it) (its : List Value) :
    Draws P w A it [it, a] its.length (fun i v => its[i]? = some v) (fun i h => ItX t h it a i ∧ ObX t h a its) := by
  cases t
  · have := Draws.list (prog := P) (w := w) hh it a hne its.toArray
    simpa [ItX, ObX] using this
  · have := Draws.tuple (prog := P) (w := w) hh it a hne its.toArray
    simpa [ItX, ObX] using this
section
variable {X : Cx} {pins : List (Addr × Obj)} {σ : L2.St} {H : Hp} {s : Shared}
theorem inv_X {t : Bool} {a : Addr} {xs : List V} (I : Inv X pins σ H s) (h : SqX X.K t H a xs) : ∃ its : List Value, Vals xs its ∧ ObX t s.heap a its := by
  cases t
  · obtain ⟨its, r, p, _⟩ := I.list (show SqL X.K H a xs from h)
    exact ⟨its, r, p.isList⟩
  · obtain ⟨its, r, p, _⟩ := I.tuple (show SqT X.K H a xs from h)
    exact ⟨its, r, (show s.heap.IsTuple a its.toArray from p)⟩
theorem inj_X {t : Bool} {a : Addr} {xs ys : List V} (I : Inv X pins σ H s) (h : SqX X.K t H a xs) (h' : SqX X.K t H a ys) : xs = ys := by
  cases t
  · exact I.list_inj h h'
  · exact I.tuple_inj h h'
end
theorem obX_ne {t : Bool} {h : Heap} {a it : Addr} {its : List Value} {o : Obj} {vs : Array Value} (x : ObX t h a its) (e : h.get? it = some o) (d : o.data = .fields vs) : a ≠ it := by
  rintro rfl
  cases t
  · obtain ⟨o', e', _, n, d'⟩ := (show h.IsList a its.toArray from x)
    rw [e] at e'
    cases e'
    rw [d] at d'
    cases d'
  · obtain ⟨o', e', _, n, d'⟩ := (show h.IsTuple a its.toArray from x)
    rw [e] at e'
    cases e'
    rw [d] at d'
    cases d'
theorem beginsX (t : Bool) (a : Addr) (its : List Value) : Begins (.ref a) (cellX t a) fun h => ObX t h a its := by
  cases t
  · exact begins_list a its.toArray
  · exact begins_tuple a its.toArray
theorem itX_new {t : Bool} {h : Heap} {it a : Addr} (e : h.get? it = some (cellX t a)) : ItX t h it a 0 := by
  cases t <;> exact ⟨_, e, rfl, rfl⟩
end DL
end
section
namespace DL
open PySem PySem.Spec PyProof.Rows L2
end DL
end
section
namespace DL
open PySem PySem.Spec PyProof.Rows L2
/-- two sequences as they stand at each turn, their items in new pairs -/
def ItzX (K : PySem.W.Frag) (t u : Bool) (a b : Addr) : It :=
  ⟨fun i H => ∃ (xs ys : List V) (x y : V), SqX K t H a xs ∧ SqX K u H b ys ∧ xs[i]? = some x ∧ ys[i]? = some y,
   fun i H v H' => ∃ T x y, v = .ref T ∧ H T = none ∧ H' = upd H T (.tup [x, y]) ∧ (∀ xs, SqX K t H a xs → xs[i]? = some x) ∧ ∀ ys, SqX K u H b ys → ys[i]? = some y,
   fun i H => ∃ xs ys : List V, SqX K t H a xs ∧ SqX K u H b ys ∧ i = min xs.length ys.length⟩
theorem turn_zipX {P : Program} {w : World} {K : PySem.W.Frag} {elts : List Expr} {kk : Nat} {tpos : Pos} (t u : Bool) {a b z TI TO i1 i2 : Addr} (D : ZipSep2 z TI TO i1 i2 [i1, a] [i2, b]) :
    Turn P w K (.Tuple elts kk tpos) (ItzX K t u a b) [z, TI, TO, i1, i2] z
      (fun i h => IsZip h z TI TO .none ∧ IsTupOf2 h TI (.ref i1) (.ref i2) ∧ (∃ x y, IsTupOf2 h TO x y) ∧ ItX t h i1 a i ∧ ItX u h i2 b i) where
  mem := List.mem_cons_self ..
  obj := fun i h st c hc => by
    obtain ⟨hz, hTI, ⟨x, y, hTO⟩, h1, h2⟩ := st
    obtain ⟨o1, v1, e1, d1⟩ := h1.get
    obtain ⟨o2, v2, e2, d2⟩ := h2.get
    have cases5 : c = z ∨ c = TI ∨ c = TO ∨ c = i1 ∨ c = i2 := by simpa using hc
    rcases cases5 with q | q | q | q | q <;> rw [q]
    · exact ⟨_, hz, fun v q => nomatch q⟩
    · exact ⟨_, hTI, fun v q => nomatch q⟩
    · exact ⟨_, hTO, fun v q => nomatch q⟩
    · exact ⟨o1, e1, fun v q => by rw [d1] at q; cases q⟩
    · exact ⟨o2, e2, fun v q => by rw [d2] at q; cases q⟩
  keep := fun i h h' st k => by
    obtain ⟨hz, hTI, ⟨x, y, hTO⟩, h1, h2⟩ := st
    exact ⟨k z (by simp) _ hz, k TI (by simp) _ hTI, ⟨x, y, k TO (by simp) _ hTO⟩, h1.at_ fun o q => k i1 (by simp) o q, h2.at_ fun o q => k i2 (by simp) o q⟩
  item := by
    intro X hP hw hK calm i pins s σ H E I fresh st going
    subst hP hw hK
    obtain ⟨hz, hTI, ⟨x0, y0, hTO⟩, h1, h2⟩ := st
    obtain ⟨xs, ys, x, y, sx, sy, hx, hy⟩ := going
    obtain ⟨its1, vals1, ob1⟩ := inv_X I sx
    obtain ⟨its2, vals2, ob2⟩ := inv_X I sy
    obtain ⟨u1, hu1, ru1⟩ := vals1.get hx
    obtain ⟨u2, hu2, ru2⟩ := vals2.get hy
    obtain ⟨o1, v1, e1, d1⟩ := h1.get
    obtain ⟨o2, v2, e2, d2⟩ := h2.get
    have nh : X.A.in1.handled = none := I.ok.hd calm
    have D1 := drawsX (P := X.prog) (w := X.w) nh t i1 a (obX_ne ob1 e1 d1) its1
    have D2 := drawsX (P := X.prog) (w := X.w) nh u i2 b (obX_ne ob2 e2 d2) its2
    have zLt : z < s.heap.objs.size := Heap.lt_size hz
    refine wpAny_pyNext_zipD2_item D D1 D2 hz hTI hTO ⟨h1, ob1⟩ ⟨h2, ob2⟩ (List.getElem?_eq_some_iff.mp hu1).1 (List.getElem?_eq_some_iff.mp hu2).1 fun y1 y2 h' tk hy1 hy2 z' TO' st1 st2 hT hsz kept => ?_
    have q1 : y1 = u1 := Option.some.inj (hy1.symm.trans hu1)
    have q2 : y2 = u2 := Option.some.inj (hy2.symm.trans hu2)
    subst q1 q2
    refine ⟨_, rfl, wpAny_letOwnedTupleGo_zip (s := { s with heap := h', toks := tk }) z' fun h3 z3 same => ?_⟩
    have hT3 : h3.get? s.heap.objs.size = some { cls := .type "tuple", data := .seq #[y1, y2] } := (same.2 _ (Nat.ne_of_gt zLt)).trans hT
    have made : ObjOk X.prog X.w (upd H s.heap.objs.size (.tup [x, y])) h3 s.heap.objs.size (.tup [x, y]) :=
      ⟨by show 2 ≤ sizeLine; rw [sizeLine_eq]; decide, [y1, y2], .cons ru1 (.cons ru2 .nil), ⟨_, hT3, rfl, _, rfl⟩⟩
    have I3 : Inv X pins σ (upd H s.heap.objs.size (.tup [x, y])) { s with heap := h3, toks := tk } :=
      I.turnedNew (t' := tk) (ch := [z, TI, TO, i1, i2]) (fun c o hb q => (same.2 c (fun q' => hb (by simp [q']))).trans (kept c o (fun q' => hb (by simp [q'])) (fun q' => hb (by simp [q'])) (fun q' => hb (by simp [q'])) (fun q' => hb (by simp [q'])) q)) fresh (Nat.le_refl _) made
    have ni1 : i1 ≠ z := fun q => D.zi1 q.symm
    have ni2 : i2 ≠ z := fun q => D.zi2 q.symm
    refine ⟨.ref s.heap.objs.size, _, I3, rfl, ⟨_, x, y, rfl, I.hok.fresh (Nat.le_refl _), rfl, fun l hl => by rw [inj_X I hl sx]; exact hx, fun l hl => by rw [inj_X I hl sy]; exact hy⟩, ⟨z3, ?_, ⟨y1, y2, ?_⟩, ?_, ?_⟩, fun c hcm => ?_⟩
    · have TIi2 : TI ≠ i2 := D.TIi2
      exact (same.2 _ D.TIz).trans (kept _ _ D.TIz D.TITO D.TIi1 TIi2 hTI)
    · exact (same.2 _ D.TOz).trans TO'
    · exact st1.1.at_ fun o q => (same.2 _ ni1).trans q
    · exact st2.1.at_ fun o q => (same.2 _ ni2).trans q
    · have lt : c < s.heap.objs.size := by
        have cases5 : c = z ∨ c = TI ∨ c = TO ∨ c = i1 ∨ c = i2 := by simpa using hcm
        rcases cases5 with q | q | q | q | q <;> rw [q]
        · exact zLt
        · exact Heap.lt_size hTI
        · exact Heap.lt_size hTO
        · exact Heap.lt_size e1
        · exact Heap.lt_size e2
      rw [upd_ne (Nat.ne_of_lt lt)]
      exact (fresh c hcm).1
  done := by
    intro X hP hw hK calm i pins s σ H E I fresh st ending
    subst hP hw hK
    obtain ⟨hz, hTI, ⟨x0, y0, hTO⟩, h1, h2⟩ := st
    obtain ⟨xs, ys, sx, sy, hi⟩ := ending
    obtain ⟨its1, vals1, ob1⟩ := inv_X I sx
    obtain ⟨its2, vals2, ob2⟩ := inv_X I sy
    obtain ⟨o1, v1, e1, d1⟩ := h1.get
    obtain ⟨o2, v2, e2, d2⟩ := h2.get
    have nh : X.A.in1.handled = none := I.ok.hd calm
    have D1 := drawsX (P := X.prog) (w := X.w) nh t i1 a (obX_ne ob1 e1 d1) its1
    have D2 := drawsX (P := X.prog) (w := X.w) nh u i2 b (obX_ne ob2 e2 d2) its2
    have l1 := vals1.length
    have l2 := vals2.length
    exact wpAny_pyNext_zipD2_end D D1 D2 hz hTI hTO ⟨h1, ob1⟩ ⟨h2, ob2⟩ (by omega) (by omega) (by omega) fun h' tk kept => ⟨rfl, I.turnedL (t' := tk) (ch := [z, TI, TO, i1, i2]) (fun c o hb q =>
      kept c o (fun q' => hb (by simp [q'])) (fun q' => hb (by simp [q'])) (fun q' => hb (by simp [q'])) (fun q' => hb (by simp [q'])) q) fresh⟩
  self := fun A i s Q E st h => wpAny_pyIter_zip st.1 h
section
variable {X : Cx} {p : Par} {k : Nat}
def qZip (K : PySem.W.Frag) (R : It → Hp → Prop) (x y : V) (H1 : Hp) : Prop := ∃ a b t u xs ys, x = .ref a ∧ y = .ref b ∧ SqX K t H1 a xs ∧ SqX K u H1 b ys ∧ R (ItzX K t u a b) H1
def wZip (K : PySem.W.Frag) (te tf : TE) : TI := fun σ H R => te σ H fun x H1 => tf σ H1 fun y H2 => qZip K R x y H2
theorem obX_lt {t : Bool} {h : Heap} {a : Addr} {its : List Value} (x : ObX t h a its) : a < h.objs.size := by
  cases t
  · obtain ⟨o, e, _⟩ := (show h.IsList a its.toArray from x); exact Heap.lt_size e
  · obtain ⟨o, e, _⟩ := (show h.IsTuple a its.toArray from x); exact Heap.lt_size e
theorem pi_zipX {e f : Expr} {te tf : TE} {pn pos tpos : Pos} {elts : List Expr} {kk : Nat} (he : PE X e te) (hf : PE X f tf) (hm : X.mg "zip" = none) (hg : Gl X "zip" := by rfl)
    (hs : starEach [e, f] X.env = (false, eval e X.env) :: starEach [f] X.env := by rfl) (hs2 : starEach [f] X.env = (false, eval f X.env) :: starEach [] X.env := by rfl) (hpl : (backTo pos (starEach [f] X.env)).any (·.1) = false := by rfl) :
    PI X (.Tuple elts kk tpos) (.Call (.Name "zip" pn) [e, f] [] pos) (wZip X.K te tf) := by
  constructor
  intro pins s σ H R I h
  have arg : PA X [e, f] (tCons te (tCons tf tNil)) := pa_cons he (pa_cons hf pa_nil hs2) hs
  let Q1 : List V → Hp → Prop := fun vs H1 => match vs with | [x, y] => qZip X.K R x y H1 | _ => False
  have h1 : tCons te (tCons tf tNil) σ H Q1 := h
  refine Call_ (ld_blt I hg hm PyProof.Rows.boot_zip (PyProof.Rows.callWith_type1 (thn (arg.run pos pins s σ H _ I h1) fun us s1 ⟨vs, H1, I1, r1, q1⟩ => ?_) hs hpl))
  cases r1 with
  | nil => exact (show False from q1).elim
  | @cons x v vs2 us2 r rest =>
    cases rest with
    | nil => exact (show False from q1).elim
    | @cons y u vs3 us3 r' rest =>
      cases rest with
      | cons _ _ => exact (show False from q1).elim
      | nil =>
        obtain ⟨a, b, t, u', xs, ys, rfl, rfl, sx, sy, q⟩ := (show qZip X.K R x y H1 from q1)
        cases r
        cases r'
        obtain ⟨its1, _, ob1⟩ := inv_X I1 sx
        obtain ⟨its2, _, ob2⟩ := inv_X I1 sy
        refine zip_begins2 (beginsX t a its1) (beginsX u' b its2) ob1 ob2 fun h' hz hTI hTO hi1 hi2 hsz kept => wpAny_pyIter_zip hz ?_
        have I2 : Inv X pins σ H1 { s1 with heap := h' } := I1.kept (t' := s1.toks) kept
        have apart := zip_sep2 (N := s1.heap.objs.size) (fp1 := [a]) (fp2 := [b]) (fun c hc => by rw [List.mem_singleton.mp hc]; exact obX_lt ob1) (fun c hc => by rw [List.mem_singleton.mp hc]; exact obX_lt ob2)
        refine ⟨s1.heap.objs.size + 4, [s1.heap.objs.size + 4, s1.heap.objs.size + 2, s1.heap.objs.size + 3, s1.heap.objs.size, s1.heap.objs.size + 1], _, _, H1, rfl, I2, turn_zipX t u' apart, ⟨hz, hTI, ⟨_, _, hTO⟩, itX_new hi1, itX_new hi2⟩, fun c hc => ?_, q⟩
        have above : s1.heap.objs.size ≤ c := by
          have cases5 : c = s1.heap.objs.size + 4 ∨ c = s1.heap.objs.size + 2 ∨ c = s1.heap.objs.size + 3 ∨ c = s1.heap.objs.size ∨ c = s1.heap.objs.size + 1 := by simpa using hc
          rcases cases5 with z | z | z | z | z <;> rw [z]
          · exact Nat.le_add_right _ _
          · exact Nat.le_add_right _ _
          · exact Nat.le_add_right _ _
          · exact Nat.le_refl _
          · exact Nat.le_add_right _ _
        exact I1.fpOk above (I1.hok.fresh above)
/-- the pairs of two lists -/
def twos : List D → List D → List D
  | d :: ds, e :: es => .tuple [d, e] :: twos ds es
  | _, _ => []
theorem twos_get : ∀ (ds es : List D) (i : Nat) (d e : D), ds[i]? = some d → es[i]? = some e → (twos ds es)[i]? = some (.tuple [d, e])
  | [], _, _, _, _, h, _ => by simp at h
  | _ :: _, [], _, _, _, _, h => by simp at h
  | x :: ds, y :: es, 0, d, e, h, h2 => by cases h; cases h2; rfl
  | x :: ds, y :: es, i + 1, d, e, h, h2 => twos_get ds es i d e h h2
theorem twos_len : ∀ (ds es : List D), (twos ds es).length = min ds.length es.length
  | [], _ => by simp [twos]
  | _ :: _, [] => by simp [twos]
  | x :: ds, y :: es => by
    show (twos ds es).length + 1 = _
    rw [twos_len ds es, List.length_cons, List.length_cons]
    omega
def iTwos (a b : XE) : XA := fun E => bnd (a E) fun x => bnd (b E) fun y => bnd (itemsOf x) fun xs => bnd (itemsOf y) fun ys => ret (twos xs ys)
theorem walkD_zip {K : PySem.W.Frag} {B : Addr → Prop} {H : Hp} {a b : Addr} {t u : Bool} {xs ys : List V} {ds es : List D} (sx : SqX K t H a xs) (sy : SqX K u H b ys) (kx : ∀ B1 H1, Tr B H B1 H1 → SqX K t H1 a xs) (ky : ∀ B1 H1, Tr B H B1 H1 → SqX K u H1 b ys)
    (rx : Reps K B H xs ds) (ry : Reps K B H ys es) : WalkD K B H (ItzX K t u a b) (twos ds es) := by
  refine ⟨fun H => SqX K t H a xs ∧ SqX K u H b ys, ⟨sx, sy⟩, fun B1 H1 tr => ⟨kx B1 H1 tr, ky B1 H1 tr⟩, ?_⟩
  rw [twos_len, ← rx.length, ← ry.length]
  refine ⟨fun i _ hi q => ⟨xs, ys, xs[i], ys[i], q.1, q.2, List.getElem?_eq_getElem (by omega), List.getElem?_eq_getElem (by omega)⟩, fun _ q => ⟨xs, ys, q.1, q.2, rfl⟩, fun i H1 v H2 hi q y => ?_⟩
  obtain ⟨T, x, z, rfl, hT, rfl, hx, hy⟩ := y
  refine ⟨All.new hT, fun B1 tr _ => ?_⟩
  obtain ⟨d, hd, rd⟩ := rx.at' (hx xs q.1)
  obtain ⟨e, he, re⟩ := ry.at' (hy ys q.2)
  exact ⟨_, twos_get ds es i d e hd he, rep_tup hT (.cons (rd.tr tr) (.cons (re.tr tr) .nil))⟩
/-- a sequence's kind -/
theorem seq_kind {K : PySem.W.Frag} {B : Addr → Prop} {H : Hp} {v : V} {d : D} {ds : List D} {c : Sx} {P : List D → Sx → Prop} {Xp : Exn → Sx → Prop} (r : Rep K B H v d) (m : itemsOf d c P Xp) :
    ∃ a t xs ds, v = .ref a ∧ SqX K t H a xs ∧ (∀ B1 H1, Tr B H B1 H1 → SqX K t H1 a xs) ∧ Reps K B H xs ds ∧ itemsOf d = ret ds := by
  cases r with
  | lst q n t => exact ⟨_, false, _, _, rfl, SqL.of q, fun B1 H2 tr => SqL.of (tr.ext.keep _ _ q n), t, rfl⟩
  | tup q t => exact ⟨_, true, _, _, rfl, q, fun B1 H2 tr => tr.ext.sqT q, t, rfl⟩
  | _ => exact m.elim
theorem pi_zipD {cb : Bool} {vb : Bool} (S : SitB cb vb X p k) {e f : Expr} {m n : XE} {pn pos tpos : Pos} {elts : List Expr} {kk : Nat} (he : PD X p e m) (hf : PD X p f n) (hm : X.mg "zip" = none) (hg : Gl X "zip" := by rfl)
    (hs : starEach [e, f] X.env = (false, eval e X.env) :: starEach [f] X.env := by rfl) (hs2 : starEach [f] X.env = (false, eval f X.env) :: starEach [] X.env := by rfl) (hpl : (backTo pos (starEach [f] X.env)).any (·.1) = false := by rfl) :
    PDI X p (.Tuple elts kk tpos) (.Call (.Name "zip" pn) [e, f] [] pos) (iTwos m n) := by
  obtain ⟨te, a1, a2⟩ := he.ex
  obtain ⟨tf, b1, b2⟩ := hf.ex
  refine ⟨_, pi_zipX a1 b1 hm hg hs hs2 hpl, fun B H σ E c P R st r mm k => ?_⟩
  refine a2 B H σ E _ _ _ st r mm fun d c1 v H1 m1 e1 s1 r1 => ?_
  have st1 := st.go e1 s1
  refine b2 B H1 σ E _ _ _ st1 (r.go st e1) m1 fun d2 c2' v2 H2 m2 e2 s2 r2 => ?_
  have r1' := r1.tr (st1.up e2)
  obtain ⟨a, t, xs, ds, rfl, sx, kx, rx, ex⟩ := seq_kind (ds := []) r1' m2
  have m2' : bnd (itemsOf d) (fun xs => bnd (itemsOf d2) fun ys => ret (twos xs ys)) c2' P p.XP := m2
  rw [ex, bnd_ret] at m2'
  obtain ⟨b, u, ys, es, rfl, sy, ky, ry, ey⟩ := seq_kind (ds := []) r2 m2'
  rw [ey, bnd_ret] at m2'
  exact ⟨a, b, t, u, xs, ys, rfl, rfl, sx, sy, k _ c2' _ H2 m2' (e1.trans e2) s2 (walkD_zip sx sy kx ky rx ry)⟩
end
end DL
end
section
namespace DL
open PySem PySem.Spec PyProof.Rows L2
section
variable {X : Cx} {p : Par} {k : Nat}
theorem pda_star {e : Expr} {es : List Expr} {m : XE} {r : XA} {ps : Pos} (he : PD X p e m) (hr : PDA X p es r) (hs : starEach (.Starred e ps :: es) X.env = (true, eval e X.env) :: starEach es X.env := by rfl) : PDA X p (.Starred e ps :: es) (aStar m r) := by
  obtain ⟨te, a1, a2⟩ := he.ex
  obtain ⟨tr, b1, b2⟩ := hr.ex
  refine ⟨_, StX.pa_star a1 b1 hs, fun B H σ E c P Q st re mm kk => ?_⟩
  refine a2 B H σ E _ _ _ st re mm fun d c1 v H1 m1 e1 s1 r1 => ?_
  have st1 := st.go e1 s1
  have go : ∀ (a : Addr) (xs : List V) (ds : List D), itemsOf d = ret ds → Reps X.K (bm p B c1) H1 xs ds → (SqT X.K H1 a xs ∨ SqL X.K H1 a xs) → ∃ a' xs', V.ref a = V.ref a' ∧ (SqT X.K H1 a' xs' ∨ SqL X.K H1 a' xs') ∧ tr σ H1 fun vs H2 => Q (xs' ++ vs) H2 := by
    intro a xs ds hd rs sq
    have m1' : bnd (itemsOf d) (fun ys => bnd (r E) fun zs => ret (ys ++ zs)) c1 P p.XP := m1
    rw [hd, bnd_ret] at m1'
    refine ⟨a, xs, rfl, sq, ?_⟩
    exact b2 B H1 σ E _ _ _ st1 (re.go st e1) m1' fun es2 c2' vs H2 m2 e2 s2 r2 => kk _ c2' _ H2 m2 (e1.trans e2) s2 ((rs.tr (st1.up e2)).append r2)
  cases r1 with
  | lst q n t => exact go _ _ _ rfl t (.inr (SqL.of q))
  | tup q t => exact go _ _ _ rfl t (.inl q)
  | _ => exact m1.elim
end
end DL
end
section
namespace DL
open PySem PySem.Spec PyProof.Rows L2
end DL
end
section
namespace DL
open PySem PySem.Spec PyProof.Rows L2
end DL
end
section
namespace DL
open PySem PySem.Spec PyProof.Rows L2
section
variable {X : Cx} {pins : List (Addr × Obj)} {σ : L2.St} {H : Hp} {s : Shared}
/-- the exception a is looked at: sI is the state without it -/
structure Aloft (X : Cx) (pins : List (Addr × Obj)) (σ : L2.St) (H : Hp) (a : Addr) (cls : Value) (d : Option Addr) (B : Heap) (sI s : Shared) : Prop where
  J : Inv X pins σ H sI
  nb : ∀ b o, sI.heap.get? b = some o → b ∉ frs X.stack → B.get? b = some o
  up : sI.heap.UpToSlots s.heap
  fl : PySem.HandSPX.FlyingZ B (X.env :: X.outer) a (Zc cls d) s.heap
  na : H a = none
  os : s.os = sI.os
  ag : AllBare s.gens
section
variable {a : Addr} {cls : Value} {d : Option Addr} {B : Heap} {sI : Shared}
/-- more objects -/
theorem Aloft.grow {h' : Heap} {tk : Nat} (q : Aloft X pins σ H a cls d B sI s) (k : ∀ b o, s.heap.get? b = some o → h'.get? b = some o) : Aloft X pins σ H a cls d B sI { s with heap := h', toks := tk } := by
  obtain ⟨f1, f2, f3, oe, vs, T, oT, ts, e1, e2, e3, e4, e5, e6, e7, e8, e9⟩ := q.fl
  exact ⟨q.J, q.nb, q.up.trans (Heap.UpToSlots.of_keeps k), ⟨fun b o e => k b o (f1 b o e), f2, Heap.FunFrames.of_keeps (fun b o e _ => ⟨o, k b o e, rfl⟩) f3, oe, vs, T, oT, ts, k _ _ e1, e2, e3, e4, e5, e6, k _ _ e7, e8, e9⟩, q.na, q.os, q.ag⟩
theorem Aloft.set {h' : Heap} (q : Aloft X pins σ H a cls d B sI s) (f : PySem.HandSPX.FlyingZ B (X.env :: X.outer) a (Zc cls d) h') (up : s.heap.UpToSlots h') : Aloft X pins σ H a cls d B sI { s with heap := h' } :=
  ⟨q.J, q.nb, q.up.trans up, f, q.na, q.os, q.ag⟩
end
end
end DL
end
section
namespace DL
open PySem PySem.Spec PyProof.Rows L2
def xnOf : D → Option Str
  | .dict ((.none, .str n) :: _) => some n
  | _ => none
def fldOf (f : Str) : D → W D
  | .dict [(.none, .str _), (.str g, d)] => if f = g then ret d else stuck
  | _ => stuck
/-- e.f of an error -/
def eFld (a : XE) (f : Str) : XE := fun E => bnd (a E) (fldOf f)
def tyOf? (m : Str) : Option Ty :=
  if m == "int" then some .int else if m == "bool" then some .bool else if m == "tuple" then some .tuple else if m == "str" then some .str else if m == "list" then some .list else if m == "dict" then some .dict else none
def isTm (d : D) (m : Str) : Bool := match tyOf? m with | some t => isTy t d | none => false
/-- isinstance(a, classes) -/
def isC (ms : List Str) (d : D) : W D := match xnOf d with
  | some n => grd (ms.all (fun m => allN.contains m) = true) (ret (.bool (ms.any (subC n))))
  | none => grd (noXn d = true ∧ ms.all (fun m => (tyOf? m).isSome) = true) (ret (.bool (ms.any (isTm d))))
def eIsC (ms : List Str) (a : XE) : XE := fun E => bnd (a E) (isC ms)
/-- an error as data -/
def Exn.d (x : Exn) : D := xD x.cls x.fs
def eSetO (oi : Option Nat) (e : Ent) (E : Env) : Env := match oi with
  | none => E
  | some i => E.set i e
def Out.clear (oi : Option Nat) : Out → Out
  | .nx E => .nx (eSetO oi .unk E)
  | .bk E => .bk (eSetO oi .unk E)
  | .ct E => .ct (eSetO oi .unk E)
  | .rt d => .rt d
/-- an expression that names a class m -/
structure NmC (X : Cx) (m : Str) : Prop where
  all : allN.contains m = true
  here : here X.K m = true
  nm : Names X m (clsV X.K m)
section
variable {X : Cx}
theorem NmC.one {m n : Str} (h : NmC X m) (c : ErrC X.K n) : PySem.W.exmOne X.K (.ref (He.ga X.K n)) (clsV X.K m) = some (subC n m) ∧ PySem.W.kitOne X.K (.ref (He.ga X.K n)) (clsV X.K m) = some (subC n m) :=
  c.kn m (by simpa using h.all) h.here
end
section
variable {X : Cx} {p : Par} {k : Nat} {cb : Bool} {K : PySem.W.Frag}
theorem Slot.loud {p : Par} {n : Sx} {B : Addr → Prop} {H : Hp} {x : Option V} {y : Ent} (s : Slot K p.quiet n B H x y) : Slot K p n B H x y := by
  cases s with
  | unk _ => exact .unk _
  | val r => exact .val r
  | own b n nc h0 hl r => exact .own b n nc h0 hl r
  | stm => exact .stm (p := p)
  | scr q => exact .scr q
theorem EnvR.loud {p : Par} (nf : p.fx = none) {n : Sx} {B : Addr → Prop} {H : Hp} {σ : L2.St} {E : Env} (r : EnvR K p.quiet n B H σ E) : EnvR K p n B H σ E :=
  ⟨r.len, fun i e q => let ⟨s, h1, h2⟩ := r.at_ i e q; ⟨s, h1, h2.loud⟩, r.nd, .no nf, r.pn⟩
end
end DL
end
section
namespace DL
open PySem PySem.Spec PyProof.Rows L2
end DL
end
section
namespace DL
open PySem PySem.Spec PyProof.Rows L2
/-- the objects that are looked at -/
def asH (g : Addr → Option Obj) (n : Nat) : List Addr := sysModules :: He.asD g n
abbrev AlH : Type := He.AlD × Bool
def obsH (n : Nat) (fa : List He.Fa) (fn : List He.DefD) (ex : PySem.W.Frag → Bool) (g : Addr → Option Obj) : AlH := (He.obsD fa fn (He.frG g (asH g n)), ex (He.frG g (asH g n)))
structure SaysH (fa : List He.Fa) (fn : List He.DefD) (ex : PySem.W.Frag → Bool) (K : PySem.W.Frag) : Prop where
  d : He.SaysD fa fn K
  x : ex K = true
def hookH (n : Nat) (fa : List He.Fa) (fn : List He.DefD) (ex : PySem.W.Frag → Bool) : PySem.W.Hook where
  α := AlH
  obs := fun s => obsH n fa fn ex s.heap.get?
  val := fun _ => (He.valD fn, true)
  says := fun _ h => ∃ K : PySem.W.Frag, K.In h ∧ SaysH fa fn ex K
  of := fun _ _ e => ⟨_, He.frG_in, congrArg (fun z : AlH => z.1) e, congrArg (fun z : AlH => z.2) e⟩
  keeps := fun _ _ _ ⟨K, hK, c⟩ k => ⟨K, PySem.W.Frag.In.keeps hK k, c⟩
theorem obsH_eq {n : Nat} {fa : List He.Fa} {fn : List He.DefD} {ex : PySem.W.Frag → Bool} {g : Addr → Option Obj} {s : Shared} (h : ∀ a, g a = s.heap.get? a) : obsH n fa fn ex g = (hookH n fa fn ex).obs s := by
  have e : g = s.heap.get? := funext h
  rw [e] <;> rfl
/-- sys.modules is there -/
def smB (K : PySem.W.Frag) : Bool := (K.lookup sysModules).isSome
theorem smB_ok {K : PySem.W.Frag} {base : Heap} (h : smB K = true) (X : K.In base) : HasSm base := by
  obtain ⟨o, e⟩ := Option.isSome_iff_exists.mp h
  exact ⟨o, X _ _ e⟩
end DL
end
section
namespace DL
open PySem PySem.Spec PyProof.Rows L2
section
variable {X : Cx} {p : Par} {k : Nat} {cb vb : Bool} {K : PySem.W.Frag}
theorem reps_rg {B : Addr → Prop} {H : Hp} (a b : Int) : Reps K B H (rgV a b) (rng a b) := by
  have go : ∀ l : List Nat, Reps K B H (l.map fun i => V.int (a + (i : Nat))) (l.map fun (i : Nat) => PyData.int (a + (i : Int))) := by
    intro l
    induction l with
    | nil => exact .nil
    | cons x l ih => exact .cons (.int _) ih
  exact go _
theorem rgOk_of {a b : Int} (h : rngOk a b) (hs : small (rng a b).length) : RgOk a b := by
  have e : (rng a b).length = (b - a).toNat := by unfold rng; rw [List.length_map, List.length_range]
  rw [e] at hs
  obtain ⟨h1, h2, h3, h4⟩ := h
  unfold small at hs
  exact ⟨by omega, by omega, by omega, by omega, by omega⟩
/-- range(..) as an argument -/
structure PDRg (X : Cx) (p : Par) (e : Expr) (m : XA) : Prop where
  ex : ∃ te, PRg X e te ∧ ∀ (B : Addr → Prop) (H : Hp) (σ : L2.St) (E : Env) (c : Sx) (P : List D → Sx → Prop) (Q : Int → Int → Hp → Prop), St0 p c B H → EnvR X.K p c B H σ E → m E c P p.XP →
    (∀ a b c' H', rngOk a b → P (rng a b) c' → Ev p c H c' H' → p.SI c' H' → Q a b H') → te σ H Q
theorem pdrg_1 {a : Expr} {m : XE} {pn pos : Pos} (ha : PD X p a m) (hm : X.mg "range" = none) (hg : Gl X "range" := by rfl) (hs : starEach [a] X.env = (false, eval a X.env) :: starEach [] X.env := by rfl) : PDRg X p (.Call (.Name "range" pn) [a] [] pos) (iRng1 m) := by
  obtain ⟨ta, a1, a2⟩ := ha.ex
  refine ⟨_, prg_1 hg hm a1 hs, fun B H σ E c P Q st r mm k => ?_⟩
  refine a2 B H σ E _ _ _ st r mm fun d c1 v H1 m1 e1 s1 r1 => ?_
  cases r1 with
  | int n => exact ⟨n, rfl, k 0 n c1 H1 m1.1 m1.2 e1 s1⟩
  | _ => exact (show False from m1).elim
theorem pd_tupRg (S : SitB true vb X p k) {e : Expr} {m : XA} {pn pos : Pos} (he : PDRg X p e m) (hm : X.mg "tuple" = none) (hg : Gl X "tuple" := by rfl) (hs : starEach [e] X.env = (false, eval e X.env) :: starEach [] X.env := by rfl) : PD X p (.Call (.Name "tuple" pn) [e] [] pos) (eTupR m) := by
  obtain ⟨te, a1, a2⟩ := he.ex
  refine ⟨_, pe_tupRg S.calm hg hm a1 hs, fun B H σ E c P Q st r mm kk => ?_⟩
  refine a2 B H σ E c _ _ st r mm fun a b c1 H1 ok m1 e1 s1 => ?_
  refine ⟨rgOk_of ok m1.1, fun q hq => ?_⟩
  exact kk _ c1 _ _ m1.2 (e1.trans (All.new hq).ev) ((st.go e1 s1).all S.ok (All.new hq)) (rep_tup hq (reps_rg a b))
def isIn (neg : Bool) (x : D) (ys : List D) : D := .bool (neg != ys.any fun y => PyData.eqv y x)
def opIn (neg : Bool) : D → D → W D
  | x, .tuple ys => grd (SeqAt.shaped x = true ∧ SeqAt.shaped (.tuple ys) = true) (ret (isIn neg x ys))
  | x, .list ys => grd (SeqAt.shaped x = true ∧ SeqAt.shaped (.list ys) = true) (ret (isIn neg x ys))
  | _, _ => stuck
def eIn (neg : Bool) (a b : XE) : XE := fun E => bnd (a E) fun x => bnd (b E) fun y => opIn neg x y
theorem shp {d : D} (h : SeqAt.shaped d = true) : PyData.canLay0 d = true ∧ PyData.depth d ≤ 64 := by
  unfold SeqAt.shaped at h
  rw [Bool.and_eq_true, decide_eq_true_eq] at h
  exact h
theorem op_inA (hu : X.A.units + 66 < cLine) (neg : Bool) : OpR X (compareOp (if neg then .NotIn else .In)) (rD2 X.K (opIn neg)) := by
  intro pins s σ H x y v u Q I rx ry h
  obtain ⟨_, d, e, c, P, Xp, hb, r1, r2, m, kk⟩ := h
  have fin : ∀ ys : List D, P (isIn neg d ys) c → EP X pins σ Q (.bool (neg != ys.any fun y => PyData.eqv y d)) s := fun ys hm => ⟨.bl _, H, I, rfl, kk _ _ H hm All.refl (.bl _)⟩
  cases r2 with
  | @lst a xs ds q nb t =>
    obtain ⟨⟨h1, h2⟩, m⟩ := m
    obtain ⟨as, q1⟩ := Dp.reads I d x v (r1.dp (lay_of h1)) rx
    obtain ⟨bs, q2⟩ := Dp.reads I (.list ds) (.ref a) u (Rep.dp (lay_of h2) (.lst q nb t)) ry
    have l2 := (shp h2).1
    have hlen : X.A.units + 1 + min (PyData.depthAll ds) d.depth < cLine := by have := (shp h1).2; omega
    cases neg with
    | false => exact SeqAt.in_list_reads q2 q1 (by simpa [PyData.canLay0] using l2) (shp h1).1 hlen (by simpa using fin ds m)
    | true => exact SeqAt.notIn_list_reads q2 q1 (by simpa [PyData.canLay0] using l2) (shp h1).1 hlen (by simpa using fin ds m)
  | @tup a xs ds q t =>
    obtain ⟨⟨h1, h2⟩, m⟩ := m
    obtain ⟨as, q1⟩ := Dp.reads I d x v (r1.dp (lay_of h1)) rx
    obtain ⟨bs, q2⟩ := Dp.reads I (.tuple ds) (.ref a) u (Rep.dp (lay_of h2) (.tup q t)) ry
    have l2 := (shp h2).1
    have hlen : X.A.units + 1 + min (PyData.depthAll ds) d.depth < cLine := by have := (shp h1).2; omega
    cases neg with
    | false => exact SeqAt.in_tuple_reads q2 q1 (by simpa [PyData.canLay0] using l2) (shp h1).1 hlen (by simpa using fin ds m)
    | true => exact SeqAt.notIn_tuple_reads q2 q1 (by simpa [PyData.canLay0] using l2) (shp h1).1 hlen (by simpa using fin ds m)
  | _ => exact (show False from m).elim
theorem pd_notIn (S : SitB cb vb X p k) {a b : Expr} {ma mb : XE} {pos : Pos} (ha : PD X p a ma) (hb : PD X p b mb) (mk : behindInMarks .NotIn b = false := by first | exact nomark _ | rfl) : PD X p (.Compare a [.NotIn] [b] pos) (eIn true ma mb) := by
  obtain ⟨ta, a1, a2⟩ := ha.ex
  obtain ⟨tb, b1, b2⟩ := hb.ex
  exact ⟨_, pe_cmpR (op_inA (by have := S.rm.un; omega) true) a1 b1 mk, ev_bnd S.ok (f := opIn true) (fun _ _ _ _ h => h) a2 b2⟩
theorem pt_notInD (S : SitB cb vb X p k) {a b : Expr} {ma mb : XE} {pos : Pos} (ha : PD X p a ma) (hb : PD X p b mb) (mk : behindInMarks .NotIn b = false := by first | exact nomark _ | rfl) : PDT X p (.Compare a [.NotIn] [b] pos) (tBool (eIn true ma mb)) := by
  obtain ⟨ta, a1, a2⟩ := ha.ex
  obtain ⟨tb, b1, b2⟩ := hb.ex
  exact ⟨_, pt_cmpR (op_inA (by have := S.rm.un; omega) true) a1 b1 mk, et_bool (m := eIn true ma mb) (ev_bnd S.ok (f := opIn true) (fun _ _ _ _ h => h) a2 b2)⟩
def opCnt : D → D → W D
  | .list xs, .bool b => match bools? xs with | some bs => ret (.int (bs.count b : Nat)) | none => stuck
  | _, _ => stuck
def eCnt (a b : XE) : XE := fun E => bnd (a E) fun x => match x with | .list xs => bnd (b E) fun y => opCnt (.list xs) y | _ => stuck
end
end DL
end
section
namespace DL
open PySem PySem.Spec PyProof.Rows L2
end DL
end
section
namespace DL
open PySem PySem.Spec PyProof.Rows L2
def sExt (i : Nat) (e : XE) : XS := fun E => match E[i]? with
  | some (.own ds) => bnd (e E) fun d => match d with
    | .list zs => grd (small (ds.length + zs.length)) (ret (.nx (E.set i (.own (ds ++ zs)))))
    | _ => stuck
  | _ => stuck
section
variable {X : Cx} {p : Par} {k : Nat} {cb : Bool}
theorem pip_ext : PIp X .Add rExt2 := fun pins s σ H x y v u Q I rx ry h => iop_ext pins s σ H x y v u Q I rx ry h
theorem set_same {σ : L2.St} {i : Nat} {v : Option V} (h : σ[i]? = some v) : σ.set i v = σ := by
  refine List.ext_getElem? fun j => ?_
  by_cases e : i = j
  · subst e
    have hl := (List.getElem?_eq_some_iff.mp h).1
    rw [List.getElem?_set_self hl, h]
  · rw [List.getElem?_set_ne e]
theorem sd_ext (S : SitB cb true X p k) {i : Nat} {x : Str} {e : Expr} {m : XE} {pos pos' : Pos} (hi : X.N[i]? = some x) (hx : Loc X.env.scope x) (he : PD X p e m)
    (hf : X.fn x = true ∨ X.env.scope.names.lookup x = some .local := by first | exact .inl rfl | exact .inr rfl) : PSD X p (.AugAssign (.Name x pos') .Add e pos) (sExt i m) := by
  obtain ⟨te, a1, a2⟩ := he.ex
  refine ⟨_, ps_aug S.nd hi hx a1 pip_ext hf, fun B H σ E c P Dn st r mm nx rt bk ct => ?_⟩
  have m' : (match E[i]? with
    | some (.own ds) => bnd (m E) fun d => match d with
      | .list zs => grd (small (ds.length + zs.length)) (ret (Out.nx (E.set i (.own (ds ++ zs)))))
      | _ => stuck
    | _ => stuck) c P p.XP := mm
  cases h : E[i]? with
  | none => rw [h] at m'; exact m'.elim
  | some y =>
    rw [h] at m'
    cases y with
    | own ds =>
      obtain ⟨q, xs, hsq, hb, hn, hl, rs⟩ := own_at r h
      refine ⟨.ref q, hsq, ?_⟩
      refine a2 B H σ E _ _ _ st r m' fun d c1 v H1 m1 e1 s1 r1 => ?_
      have st1 := st.go e1 s1
      have rr := r.go st e1
      have hl1 := e1.ext.keep _ _ hl hn
      have rs1 := rs.tr (st.up e1)
      cases r1 with
      | @lst b zs es hz nz rz =>
        obtain ⟨g1, g2, g3⟩ := own_upd (ys := xs ++ zs) (es := ds ++ es) S.nf S.ok rr st1 h hsq hl1 (rs1.append rz)
        refine ⟨q, b, xs, zs, rfl, rfl, hl1, hz, by rw [rs.length, rz.length]; exact small_line m1.1, ?_⟩
        show Dn.nx (σ.set i (some (.ref q))) _
        rw [set_same hsq]
        exact nx _ _ _ _ _ m1.2 g2 (((st.up e1)).trans g3) g1
      | _ => exact m1.elim
    | _ => exact m'.elim
end
end DL
end
section
namespace DL
open PySem PySem.Spec PyProof.Rows L2
/-- two lists, one after the other: a new list -/
def eAddL (a b : XE) : XE := fun E => bnd (a E) fun x => bnd (b E) fun y => match x, y with
  | .list xs, .list ys => grd (small (xs.length + ys.length)) (ret (.list (xs ++ ys)))
  | _, _ => stuck
theorem Reps.erase {K : PySem.W.Frag} {B : Addr → Prop} {H : Hp} {vs : List V} {ds : List PyData} (j : Nat) (r : Reps K B H vs ds) : Reps K B H (vs.eraseIdx j) (ds.eraseIdx j) := by
  rw [List.eraseIdx_eq_take_drop_succ, List.eraseIdx_eq_take_drop_succ]
  exact (r.take j).append (r.drop (j + 1))
section
variable {X : Cx} {p : Par} {k : Nat} {cb : Bool}
theorem pf_add {vb : Bool} (S : SitB cb vb X p k) {a b : Expr} {ma mb : XE} {pos : Pos} (ha : PD X p a ma) (hb : PD X p b mb) : PDF X p (.BinOp a .Add b pos) (eAddL ma mb) := by
  obtain ⟨ta, a1, a2⟩ := ha.ex
  obtain ⟨tb, b1, b2⟩ := hb.ex
  refine ⟨_, pe_op op_cat a1 b1, fun B H σ E c P Q s re m k => ?_⟩
  refine a2 B H σ E _ _ _ s re m fun d c1 v H1 m1 e1 s1 r1 => ?_
  have st1 := s.go e1 s1
  refine b2 B H1 σ E _ _ _ st1 (re.go s e1) m1 fun d2 c2 v2 H2 m2 e2 s2 r2 => ?_
  have st2 := st1.go e2 s2
  have e12 := e1.trans e2
  have r1' := r1.tr (st1.up e2)
  cases r1' with
  | lst q1 n1 t1 =>
    cases r2 with
    | lst q2 n2 t2 =>
      obtain ⟨hz, m3⟩ := m2
      exact ⟨_, _, _, _, rfl, rfl, q1, q2, by rw [t1.length, t2.length]; exact small_line hz, fun q hq => k _ _ q _ _ m3 (e12.trans (All.new hq).ev) (st2.all S.ok (All.new hq)) (q_new st2 e12 hq) upd_same ((reps_more hq (t1.append t2)).mono (All.new hq).ext)⟩
    | _ => exact m2.elim
  | _ => exact m2.elim
end
end DL
end
section
namespace DL
open PySem
/-- sorted -/
def pair? : D → Option (Int × List Int)
  | .tuple [.int i, .tuple xs] => (ints? xs).map fun ns => (i, ns)
  | _ => none
def pairs? : List D → Option (List (Int × List Int))
  | [] => some []
  | d :: ds => match pair? d, pairs? ds with
    | some q, some qs => some (q :: qs)
    | _, _ => none
def pairD (q : Int × List Int) : D := .tuple [.int q.1, .tuple (q.2.map PyData.int)]
theorem pair?_eq : ∀ {d : D} {q : Int × List Int}, pair? d = some q → d = pairD q := by
  intro d q h
  unfold pair? at h
  split at h
  · cases hi : ints? _ with
    | none => rw [hi] at h; cases h
    | some ns =>
      rw [hi] at h
      cases h
      rw [ints?_eq hi]
      rfl
  · cases h
theorem pair?_of (q : Int × List Int) : pair? (pairD q) = some q := by
  show (ints? (q.2.map PyData.int)).map _ = _
  rw [ints?_map]
  rfl
theorem pairs?_eq : ∀ {ds : List D} {qs : List (Int × List Int)}, pairs? ds = some qs → ds = qs.map pairD
  | [], qs, h => by cases h; rfl
  | d :: ds, qs, h => by
    unfold pairs? at h
    split at h
    · rename_i q qs' h1 h2
      cases h
      rw [pair?_eq h1, pairs?_eq h2]
      rfl
    · cases h
theorem pairs?_of : ∀ qs : List (Int × List Int), pairs? (qs.map pairD) = some qs
  | [] => rfl
  | q :: qs => by
    show (match pair? (pairD q), pairs? (qs.map pairD) with | some q, some qs => some (q :: qs) | _, _ => none) = _
    rw [pair?_of, pairs?_of qs]
/-- sorted: of a list of ints, of a list of pairs of an int and a tuple of ints (their ints ascend) -/
def opSrt : D → W D
  | .list xs => match ints? xs with
    | some ns => fun n P _ => ∀ ms : List Int, ms.Perm ns → ms.Pairwise (· ≤ ·) → P (.list (ms.map PyData.int)) n
    | none => match pairs? xs with
      | some ps => grd (ps.length ≤ 100) fun n P _ => ∀ qs : List (Int × List Int), qs.Perm ps → qs.Pairwise (fun a b => a.1 ≤ b.1) → P (.list (qs.map pairD)) n
      | none => stuck
  | _ => stuck
def eSrt (a : XE) : XE := fun E => bnd (a E) opSrt
/-- few different ints -/
def setOk (ns : List Int) : Prop := ns.length ≤ 60 ∨ (ns.length ≤ 4000 ∧ ∀ k ∈ ns, 0 ≤ k ∧ k < 60)
/-- sorted(set(..)): of a list of ints -/
def opSrtSet : D → W D
  | .tuple xs => match ints? xs with
    | some ns => grd (setOk ns) fun n P _ => ∀ ms : List Int, ms.Pairwise (· < ·) → (∀ k, k ∈ ms ↔ k ∈ ns) → P (.list (ms.map PyData.int)) n
    | none => stuck
  | .list xs => match ints? xs with
    | some ns => grd (setOk ns) fun n P _ => ∀ ms : List Int, ms.Pairwise (· < ·) → (∀ k, k ∈ ms ↔ k ∈ ns) → P (.list (ms.map PyData.int)) n
    | none => stuck
  | _ => stuck
def eSrtSet (a : XE) : XE := fun E => bnd (a E) opSrtSet
/-- range(a, b, c), c a number that is not 0 -/
def rngN (a b c : Int) : Nat := if 0 < c then (if a < b then ((b - a - 1) / c + 1).toNat else 0) else (if b < a then ((a - b - 1) / (-c) + 1).toNat else 0)
def rngC (a b c : Int) : List D := (List.range (rngN a b c)).map fun (i : Nat) => PyData.int (a + (i : Int) * c)
def rngCOk (a b c : Int) : Prop := -(2 ^ 40) < a ∧ a < 2 ^ 40 ∧ -(2 ^ 40) < b ∧ b < 2 ^ 40 ∧ c ≠ 0 ∧ -1000 ≤ c ∧ c ≤ 1000
def iRng3 (a b c : XE) : XA := fun E => bnd (a E) fun x => bnd (b E) fun y => bnd (c E) fun z => bnd (asInt x) fun n => bnd (asInt y) fun m => bnd (asInt z) fun k => grd (rngCOk n m k) (ret (rngC n m k))
end DL
end
section
namespace DL
open PySem
def w_is_integer_0 : Fn := fn 3 3 (sRet (eAnd (eIs .int (eVar 0)) (eAnd (eNot (eIs .bool (eVar 0))) (eChain .le .le (eVar 1) (eVar 0) (eVar 2)))))
def w__law_row_drawn_0 : Fn := fnS 2 8 (sSeq (sPar 2 3 (eBin .add (eCon (.int 1)) (eCallS fDraw 0 (aCons (eVar 1) (aNil)))) (eCallS fDraw 0 (aCons (eCon (.int 6)) (aNil))))
    (sSeq (sAsg 4 (eIdx (eLst (aCons (eCon (.int 3)) (aCons (eCon (.int 60)) (aCons (eCon (.int 9)) (aCons (eCon (.int 2)) (aCons (eCon (.int 12)) (aCons (eCon (.int 5)) (aNil)))))))) (eVar 3)))
    (sSeq (sOwn 5 (eComp (iRng1 (eVar 2)) (.nm 7) (tYes) (eBin .add (eCon (.int 1)) (eCallS fDraw 0 (aCons (eVar 4) (aNil)))) [7]))
    (sSeq (sIf (DL.tOr (tBool (eCmp .eq (eVar 3) (eCon (.int 2)))) (tBool (eCmp .eq (eVar 3) (eCon (.int 3))))) (sSet 5 (eCallS fDraw 0 (aCons (eVar 2) (aNil))) (eBin .add (eCon (.int 1)) (eCallS fDraw 0 (aCons (eCon (.int 60)) (aNil))))) (sSkip))
    (sSeq (sIf (tBool (eCmp .eq (eVar 3) (eCon (.int 5)))) (sSeq (sAsg 6 (eBin .add (eCon (.int 1)) (eCallS fDraw 0 (aCons (eB2 .min (eVar 2) (eCon (.int 4))) (aNil)))))
    (sRel 5 (sOwn 5 (eComp (iRng1 (eVar 2)) (.nm 7) (tYes) (eIdx (eVar 5) (eBin .mod (eVar 7) (eVar 6))) [7])))) (sSkip))
    (sRel 5 (sRet (eB1 .tuple (eVar 5)))))))))
def w__law_greedy_0 : Fn := fn 2 5 (sSeq (sParO 2 3 (eLst (aCons (eCon (.int 0)) (aNil))) (eIdx (eVar 0) (eCon (.int 0))))
    (sSeq (sFor (iRng2 (eCon (.int 1)) (eB1 .len (eVar 0))) (.nm 4) (sSeq (sAsg 3 (eBin .add (eBin .add (eVar 3) (eCon (.int 1))) (eIdx (eVar 0) (eVar 4))))
    (sIf (tBool (eCmp .gt (eVar 3) (eVar 1))) (sSeq (sApp 2 (eVar 4))
    (sAsg 3 (eIdx (eVar 0) (eVar 4)))) (sSkip))))
    (sRel 2 (sRet (eB1 .tuple (eVar 2))))))
def w__law_width_drawn_0 : Fn := fnS 2 6 (sSeq (sAsg 2 (eCallS fDraw 0 (aCons (eB1 .len (eVar 1)) (aNil))))
    (sSeq (sAsg 3 (eBin .add (eVar 2) (eCallS fDraw 0 (aCons (eB2 .min (eBin .sub (eB1 .len (eVar 1)) (eVar 2)) (eCon (.int 6))) (aNil)))))
    (sSeq (sAsg 4 (eBin .sub (eBin .add (eB1 .sum (eCut (eVar 1) (oSome (eVar 2)) (oSome (eBin .add (eVar 3) (eCon (.int 1)))))) (eVar 3)) (eVar 2)))
    (sSeq (sAsg 5 (eLst (aCons (eB1 .max (eVar 1)) (aCons (eVar 4) (aCons (eBin .sub (eVar 4) (eCon (.int 1))) (aCons (eBin .add (eVar 4) (eCon (.int 1))) (aCons (eBin .sub (eBin .add (eB1 .sum (eVar 1)) (eB1 .len (eVar 1))) (eCon (.int 1))) (aCons (eBin .add (eCon (.int 1)) (eCallS fDraw 0 (aCons (eCon (.int 80)) (aNil)))) (aCons (eCon (.int 2000)) (aNil))))))))))
    (sRet (eB2 .max (eCon (.int 1)) (eIdx (eVar 5) (eCallS fDraw 0 (aCons (eCon (.int 7)) (aNil))))))))))
def w__law_is_int_0 : Fn := fn 3 3 (sRet (eAnd (eIs .int (eVar 0)) (eAnd (eNot (eIs .bool (eVar 0))) (eChain .le .le (eVar 1) (eVar 0) (eVar 2)))))
def w__law_seen_at_0 : Fn := fnS 2 5 (sSeq (sOwn 2 (eLst (aNil)))
    (sSeq (sFor (iRng1 (eBin .add (eCon (.int 1)) (eCallS fDraw 0 (aCons (eCon (.int 6)) (aNil))))) (.nm 3) (sApp 2 (eB2 .max (eB1 .max (eVar 1)) (eCallS w__law_width_drawn_0 0 (aCons (eVar 1) (aNil))))))
    (sRel 2 (sRet (eB1 .tuple (eComp (iSeq (eSrtSet (eVar 2))) (.nm 4) (tYes) (eTup (aCons (eVar 4) (aCons (eCall w__law_greedy_0 (aCons (eVar 1) (aCons (eVar 4) (aNil)))) (aNil)))) [4]))))))
def w__law_sightings_0 : Fn := fnS 2 13 (sSeq (sPar 2 3 (eCallS w__law_row_drawn_0 0 (aCons (eVar 1) (aNil))) (eCallS fDraw 0 (aCons (eCon (.int 6)) (aNil))))
    (sSeq (sParO 4 5 (eB1 .list (eCallS w__law_seen_at_0 0 (aCons (eVar 2) (aNil)))) (eB1 .len (eVar 2)))
    (sSeq (sAsg 6 (eBor 4 (eCallS fDraw 0 (aCons (eB1 .len (eVar 4)) (aNil)))))
    (sSeq (sPut (.tp [7, 8]) (eBor 4 (eIdx (eVar 4) (eVar 6))))
    (sSeq (sIf (DL.tAnd (tBool (eCmp .eq (eVar 3) (eCon (.int 2)))) (tBool (eCmp .gt (eVar 5) (eCon (.int 1))))) (sSeq (sAsg 9 (eBin .add (eCon (.int 1)) (eCallS fDraw 0 (aCons (eBin .sub (eVar 5) (eCon (.int 1))) (aNil)))))
    (sSeq (sAsg 10 (eBin .add (eComp (iSeq (eVar 8)) (.nm 11) (tBool (eCmp .ne (eVar 11) (eVar 9))) (eVar 11) [11]) (eBin .mul (eLst (aCons (eVar 9) (aNil))) (eB1 .int (eIn true (eVar 9) (eVar 8))))))
    (sSet 4 (eVar 6) (eTup (aCons (eVar 7) (aCons (eB1 .tuple (eSrt (eVar 10))) (aNil))))))) (sSkip))
    (sSeq (sIf (tBor 4 (DL.tAnd (tBool (eCmp .eq (eVar 3) (eCon (.int 3)))) (tBool (eIn true (eBin .sub (eVar 7) (eCon (.int 1))) (eComp (iSeq (eBor 4 (eVar 4))) (.nm 12) (tYes) (eIdx (eVar 12) (eCon (.int 0))) [12]))))) (sSet 4 (eVar 6) (eTup (aCons (eB2 .max (eCon (.int 1)) (eBin .sub (eVar 7) (eCon (.int 1)))) (aCons (eVar 8) (aNil))))) (sSkip))
    (sSeq (sIf (DL.tAnd (tBool (eCmp .eq (eVar 3) (eCon (.int 4)))) (tBool (eCmp .gt (eVar 6) (eCon (.int 0))))) (sSet 4 (eVar 6) (eBor 4 (eTup (aCons (eVar 7) (aCons (eIdx (eIdx (eVar 4) (eBin .sub (eVar 6) (eCon (.int 1)))) (eCon (.int 1))) (aNil)))))) (sSkip))
    (sSeq (sIf (tBool (eCmp .eq (eVar 3) (eCon (.int 5)))) (sSeq (sAsg 8 (eB1 .tuple (eBin .add (eLst (aCons (eCon (.int 0)) (aNil))) (eComp (iRng2 (eCon (.int 1)) (eVar 5)) (.nm 9) (tBool (eCmp .eq (eCallS fDraw 0 (aCons (eCon (.int 3)) (aNil))) (eCon (.int 0)))) (eVar 9) [9]))))
    (sSet 4 (eVar 6) (eTup (aCons (eVar 7) (aCons (eVar 8) (aNil)))))) (sSkip))
    (sRel 4 (sRet (eLst (aCons (eVar 5) (aCons (eB1 .tuple (eSrt (eVar 4))) (aNil))))))))))))))
def w__law_agrees_0 : Fn := fn 2 5 (sSeq (sAsg 2 (eComp (iSeq (eVar 1)) (.tp [3, 4]) (DL.tOr (tBool (eCmp .gt (eB1 .max (eVar 0)) (eVar 3))) (tBool (eCmp .ne (eCall w__law_greedy_0 (aCons (eVar 0) (aCons (eVar 3) (aNil)))) (eVar 4)))) (eCon (.int 1)) [3, 4]))
    (sRet (eCmp .eq (eVar 2) (eLst (aNil)))))
end DL
end
section
namespace DL
open PySem
/-- a def that is handed two lists and changes them: its value, what they hold then; x: the name that it returns -/
abbrev Fn3 := D → List D → List D → W (D × List D × List D)
def mutGet (x : Nat) (E : Env) : W (D × List D × List D) := match E[1]?, E[2]?, E[x]? with
  | some (Ent.own us), some (Ent.own ws), some (Ent.val r) => ret (r, us, ws)
  | _, _, _ => stuck
def mutEnd (x : Nat) : Out → W (D × List D × List D)
  | .nx E => mutGet x E
  | _ => stuck
def mutF (n x : Nat) (s : XS) : Fn3 := fun d us ws => bnd (s (.val d :: .own us :: .own ws :: List.replicate (n - 3) .unk)) (mutEnd x)
/-- name = f(e, u, w), u and w own lists that f changes -/
def callM (f : Fn3) (d : D) (u w : Nat) (E : Env) : W (D × Env) := match E[u]?, E[w]? with
  | some (Ent.own us), some (Ent.own ws) => bnd (noX (f d us ws)) fun q => ret (q.1, (E.set u (.own q.2.1)).set w (.own q.2.2))
  | _, _ => stuck
def sMut (i : Nat) (f : Fn3) (e : XE) (u w : Nat) : XS := fun E => bnd (e E) fun d => bnd (callM f d u w E) fun q => ret (.nx (q.2.set i (.val q.1)))
/-- a, b, c = [..], [..], z: the first two owned -/
def sPar3Q (i j l : Nat) (a b c : XE) : XS := fun E => bnd (a E) fun x => bnd (b E) fun y => bnd (c E) fun z => match x, y with
  | .list ds, .list es => ret (.nx (((E.set i (.own ds)).set j (.own es)).set l (.val z)))
  | _, _ => stuck
/-- a list so many times: a new list -/
def eMulL (a b : XE) : XE := fun E => bnd (a E) fun x => bnd (b E) fun y => match x, y with
  | .list xs, .int j => opMul (.list xs) (.int j)
  | _, _ => stuck
end DL
end
section
namespace DL
open PySem
def w_bounds_of_0 : Fn := fn 2 8 (sSeq (sOwn 2 (eLst (aNil)))
    (sSeq (sFor (iRng1 (eVar 0)) (.nm 3) (sExt 2 (eLst (aCons (eTup (aCons (eVar 3) (aCons (eBin .add (eVar 3) (eCon (.int 1))) (aCons (eBin .add (eCon (.int (60))) (eCon (.int 1))) (aNil))))) (aCons (eTup (aCons (eBin .add (eVar 3) (eCon (.int 1))) (aCons (eVar 3) (aCons (eNeg (eCon (.int 2))) (aNil))))) (aNil))))))
    (sSeq (sFor (iSeq (eVar 1)) (.tp [4, 5]) (sSeq (sExt 2 (eComp (iRng1 (eVar 0)) (.nm 3) (tYes) (eTup (aCons (eVar 3) (aCons (eBin .add (eVar 3) (eCon (.int 1))) (aCons (eBin .add (eVar 4) (eCon (.int 1))) (aNil))))) [3]))
    (sFor (iTwos (eVar 5) (eTup (aStar (eCut (eVar 5) (oSome (eCon (.int 1))) (oNone)) (aCons (eVar 0) (aNil))))) (.tp [6, 7]) (sSeq (sApp 2 (eTup (aCons (eVar 6) (aCons (eVar 7) (aCons (eBin .add (eVar 4) (eCon (.int 1))) (aNil))))))
    (sIf (tBool (eCmp .lt (eVar 7) (eVar 0))) (sApp 2 (eTup (aCons (eBin .add (eVar 7) (eCon (.int 1))) (aCons (eVar 6) (aCons (eBin .sub (eNeg (eCon (.int 2))) (eVar 4)) (aNil)))))) (sSkip))))))
    (sRel 2 (sRet (eVar 2))))))
def w_relax_0 : Fn3 := mutF 8 3 (sSeq (sAsg 3 (eCon .none))
    (sFor (iSeq (eVar 0)) (.nm 4) (sSeq (sPut (.tp [5, 6, 7]) (eVar 4))
    (sIf (tBor 1 (tBool (eCmp .lt (eBin .add (eIdx (eVar 1) (eVar 5)) (eVar 7)) (eIdx (eVar 1) (eVar 6))))) (sSeq (sSet 1 (eVar 6) (eBor 1 (eBin .add (eIdx (eVar 1) (eVar 5)) (eVar 7))))
    (sSeq (sSet 2 (eVar 6) (eVar 4))
    (sAsg 3 (eVar 6)))) (sSkip)))))
def w_ring_before_0 : Fn := fn 2 4 (sSeq (sFor (iRng1 (eB1 .len (eVar 0))) (.nm 2) (sAsg 1 (eIdx (eIdx (eVar 0) (eVar 1)) (eCon (.int 0)))))
    (sSeq (sAsg 3 (eLst (aCons (eIdx (eVar 0) (eVar 1)) (aNil))))
    (sSeq (sWhile (tBool (eCmp .ne (eIdx (eIdx (eVar 3) (eCon (.int 0))) (eCon (.int 0))) (eVar 1))) (sAsg 3 (eLst (aCons (eIdx (eVar 0) (eIdx (eIdx (eVar 3) (eCon (.int 0))) (eCon (.int 0)))) (aStar (eVar 3) (aNil))))))
    (sRet (eB1 .tuple (eVar 3))))))
def w_read_back_0 : Fn := fn 2 8 (sSeq (sAsg 2 (eCall w_bounds_of_0 (aCons (eVar 0) (aCons (eVar 1) (aNil)))))
    (sSeq (sPar3Q 3 4 5 (eMulL (eLst (aCons (eCon (.int 0)) (aNil))) (eBin .add (eVar 0) (eCon (.int 1)))) (eMulL (eLst (aCons (eCon .none) (aNil))) (eBin .add (eVar 0) (eCon (.int 1)))) (eCon (.int 0)))
    (sSeq (sFor (iRng1 (eBin .add (eVar 0) (eCon (.int 2)))) (.nm 6) (sMut 5 w_relax_0 (eVar 2) 3 4))
    (sSeq (sIf (tBool (eCmp .notN (eVar 5) (eCon .none))) (sRel 4 (sRet (eTup (aCons (eCon (.str "ring")) (aCons (eCall w_ring_before_0 (aCons (eVar 4) (aCons (eVar 5) (aNil)))) (aNil)))))) (sSkip))
    (sRel 3 (sRet (eTup (aCons (eCon (.str "row")) (aCons (eB1 .tuple (eComp (iRng1 (eVar 0)) (.nm 7) (tYes) (eBin .sub (eBin .sub (eIdx (eVar 3) (eBin .add (eVar 7) (eCon (.int 1)))) (eIdx (eVar 3) (eVar 7))) (eCon (.int 1))) [7])) (aNil))))))))))
def w__law_is_row_0 : Fn := fn 1 2 (sSeq (sIf (DL.tOr (tNot (tTru (eIs .tuple (eVar 0)))) (tNot (tBool (eChain .le .le (eCon (.int 1)) (eB1 .len (eVar 0)) (eCon (.int 24)))))) (sRet (eCon (.bool false))) (sSkip))
    (sRet (eCmp .eq (eComp (iSeq (eVar 0)) (.nm 1) (tNot (tTru (eCall w__law_is_int_0 (aCons (eVar 1) (aCons (eCon (.int 1)) (aCons (eCon (.int 60)) (aNil))))))) (eVar 1) [1]) (eLst (aNil)))))
end DL
end
section
namespace DL
open PySem
end DL
end
section
namespace DL
open PySem
end DL
end
section
namespace DL
open PySem
end DL
end
section
namespace DL
open PySem
end DL
end
section
namespace DL
open PySem PySem.Spec PyProof.Rows L2
end DL
end
section
namespace DL
open PySem PySem.Spec PyProof.Rows L2
end DL
end
section
namespace DL
open PySem PySem.Spec PyProof.Rows L2
section
variable {X : Cx} {p : Par} {k : Nat} {tg : Expr}
theorem rngC_size {a b c : Int} (h : rngCOk a b c) : L2.RgC a b c (rngC a b c).length := by
  obtain ⟨h1, h2, h3, h4, h5, h6, h7⟩ := h
  refine ⟨h5, by omega, ?_, ?_⟩
  · unfold Builtin.Range.small
    have hs : 0 ≤ Builtin.Range.rangeSize a b c ∧ Builtin.Range.rangeSize a b c ≤ 2 ^ 42 := by
      unfold Builtin.Range.rangeSize
      have hp : ∀ x c : Int, 0 < c → 0 ≤ x → 0 ≤ x / c ∧ x / c ≤ x := fun x c h1 h2 => ⟨Int.ediv_nonneg h2 (by omega), Int.ediv_le_self _ h2⟩
      split
      · split
        · have := hp (b - a - 1) c (by omega) (by omega)
          omega
        · omega
      · split
        · have := hp (a - b - 1) (-c) (by omega) (by omega)
          omega
        · omega
    generalize Builtin.Range.rangeSize a b c = z at hs
    simp only [Builtin.Range.rangeFitsLong, Bool.and_eq_true, Bool.or_eq_true, decide_eq_true_eq, beq_iff_eq]
    refine ⟨⟨⟨⟨⟨?_, ?_⟩, ⟨?_, ?_⟩⟩, ⟨?_, ?_⟩⟩, ⟨?_, ?_⟩⟩, .inr ?_⟩
    all_goals first
      | omega
      | (split <;> simp only [Bool.and_eq_true, decide_eq_true_eq] <;> omega)
  · unfold rngC
    rw [List.length_map, List.length_range]
    unfold Builtin.Range.rangeSize rngN
    have hp : ∀ x c : Int, 0 < c → 0 ≤ x → 0 ≤ x / c := fun x c h1 h2 => Int.ediv_nonneg h2 (by omega)
    by_cases hc : 0 < c
    · rw [if_pos hc, if_pos hc]
      by_cases hab : a < b
      · rw [if_pos hab, if_pos hab]
        have := hp (b - a - 1) c hc (by omega)
        omega
      · rw [if_neg hab, if_neg hab]
        rfl
    · rw [if_neg hc, if_neg hc]
      by_cases hab : b < a
      · rw [if_pos hab, if_pos hab]
        have := hp (a - b - 1) (-c) (by omega) (by omega)
        omega
      · rw [if_neg hab, if_neg hab]
        rfl
end
end DL
end
section
namespace DL
open PySem PySem.Spec PyProof.Rows L2
end DL
end
section
namespace DL
open PySem PySem.Spec PyProof.Rows L2
def twoB (q1 q2 : Addr) : Addr → Prop := fun a => a = q1 ∨ a = q2
def spM (K : PySem.W.Frag) (mm : Fn3) : Sp := fun vs H Q _ => ∃ (v0 : V) (q1 q2 : Addr) (xs1 xs2 : List V) (B : Addr → Prop) (d : D) (us ws : List D) (c : Sx) (P : D × List D × List D → Sx → Prop),
  vs = [v0, .ref q1, .ref q2] ∧ q1 ≠ q2 ∧ B q1 ∧ B q2 ∧ (∀ a, B a → H a ≠ none) ∧ H q1 = some (.lst xs1) ∧ H q2 = some (.lst xs2) ∧ Rep K B H v0 d ∧ Reps K B H xs1 us ∧ Reps K B H xs2 ws ∧ mm d us ws c P (fun _ _ => False) ∧
  ∀ (r : D) (us' ws' : List D) (v : V) (ys1 ys2 : List V) (H' : Hp), P (r, us', ws') c → Ext (twoB q1 q2) H H' → H' q1 = some (.lst ys1) → H' q2 = some (.lst ys2) → Rep K B H' v r → Reps K B H' ys1 us' → Reps K B H' ys2 ws' → Q v H'
def h0M (H : Hp) (q1 q2 : Addr) : Hp := fun a => if a = q1 ∨ a = q2 then none else H a
def parM (H : Hp) (B : Addr → Prop) (q1 q2 : Addr) (c : Sx) (EK : XK) : Par :=
  ⟨fun _ _ => False, fun c' _ => c' = c, 0, h0M H q1 q2, c, fun a => B a ∧ a ≠ q1 ∧ a ≠ q2, fun _ _ => False, fun _ => EK, none, fun i => if i = 1 then some q1 else if i = 2 then some q2 else none⟩
section
variable {P : Program} {w : World} {K : PySem.W.Frag} {mg : Str → Option Value} {base : Heap} {cb : Bool}
theorem bmM {H : Hp} {B B2 : Addr → Prop} {q1 q2 : Addr} {c c' : Sx} {EK : XK} : ∀ a, bm (parM H B q1 q2 c EK) B2 c' a → B2 a := fun a z => z.elim id fun z => z.elim
theorem h0_ext {H : Hp} {q1 q2 : Addr} : Ext (fun _ => False) (h0M H q1 q2) H := by
  have k : ∀ a o, h0M H q1 q2 a = some o → H a = some o := fun a o e => by
    unfold h0M at e
    split at e
    · cases e
    · exact e
  refine ⟨fun a o e _ => k a o e, fun a o e _ => k a o e, fun a n => ?_⟩
  cases h : h0M H q1 q2 a with
  | none => exact absurd h n
  | some o => rw [k a o h]; exact fun z => nomatch z
theorem env_mut {N : List Str} {H : Hp} {B : Addr → Prop} {q1 q2 : Addr} {c : Sx} {EK : XK} {v0 : V} {xs1 xs2 : List V} {d : D} {us ws : List D} (hl : 3 ≤ N.length) (ne : q1 ≠ q2) (b1 : B q1) (b2 : B q2) (h1 : H q1 = some (.lst xs1)) (h2 : H q2 = some (.lst xs2)) (r0 : Rep K B H v0 d) (r1 : Reps K B H xs1 us) (r2 : Reps K B H xs2 ws) :
    EnvR K (parM H B q1 q2 c EK) c B H (L2.start N [v0, .ref q1, .ref q2]) (.val d :: .own us :: .own ws :: List.replicate (N.length - 3) .unk) := by
  have n1 : h0M H q1 q2 q1 = none := by unfold h0M; rw [if_pos (.inl rfl)]
  have n2 : h0M H q1 q2 q2 = none := by unfold h0M; rw [if_pos (.inr rfl)]
  have own3 : ∀ (i : Nat) (xs : List D), (Ent.val d :: .own us :: .own ws :: List.replicate (N.length - 3) Ent.unk)[i]? = some (.own xs) → i = 1 ∨ i = 2 := fun i xs h => by
    match i, h with
    | 0, h => cases h
    | 1, _ => exact .inl rfl
    | 2, _ => exact .inr rfl
    | i + 3, h =>
      have h' : (List.replicate (N.length - 3) Ent.unk)[i]? = some (.own xs) := h
      rw [List.getElem?_replicate] at h'
      split at h' <;> cases h'
  refine ⟨?_, fun i e h => ?_, fun i j a xs ys g1 g2 g3 g4 => ?_, .no rfl, fun i a xs hp h => ?_⟩
  · unfold L2.start
    simp only [List.length_append, List.length_map, List.length_replicate, List.length_cons, List.length_nil]
    omega
  · match i, h with
    | 0, h => cases h; exact ⟨_, rfl, .val (r0.less bmM)⟩
    | 1, h => cases h; exact ⟨_, rfl, .own b1 (fun z => z) (fun z => z.2.1 rfl) n1 h1 (r1.less bmM)⟩
    | 2, h => cases h; exact ⟨_, rfl, .own b2 (fun z => z) (fun z => z.2.2 rfl) n2 h2 (r2.less bmM)⟩
    | i + 3, h =>
      have h' : (List.replicate (N.length - 3) Ent.unk)[i]? = some e := h
      rw [List.getElem?_replicate] at h'
      split at h'
      · rename_i hi
        cases h'
        refine ⟨none, ?_, .unk _⟩
        show (List.replicate (N.length - 3) none)[i]? = some none
        rw [List.getElem?_replicate, if_pos hi]
      · cases h'
  · rcases own3 i xs g1 with rfl | rfl <;> rcases own3 j ys g2 with rfl | rfl
    · rfl
    · cases g3
      cases g4
      exact absurd rfl ne
    · cases g3
      cases g4
      exact absurd rfl ne
    · rfl
  · rcases own3 i xs h with rfl | rfl
    · cases hp
      rfl
    · cases hp
      rfl
theorem mutGet_inv {x : Nat} {n : Sx} {E : Env} {P : D × List D × List D → Sx → Prop} {XP : Exn → Sx → Prop} (h : mutGet x E n P XP) : ∃ us ws r, E[1]? = some (.own us) ∧ E[2]? = some (.own ws) ∧ E[x]? = some (.val r) ∧ P (r, us, ws) n := by
  unfold mutGet at h
  generalize E[1]? = o1 at h ⊢
  generalize E[2]? = o2 at h ⊢
  generalize E[x]? = o3 at h ⊢
  split at h
  · exact ⟨_, _, _, rfl, rfl, rfl, h⟩
  · exact h.elim
theorem callM_inv {f : Fn3} {d : D} {u w : Nat} {n : Sx} {E : Env} {P : D × Env → Sx → Prop} {XP : Exn → Sx → Prop} (h : callM f d u w E n P XP) : ∃ us ws, E[u]? = some (.own us) ∧ E[w]? = some (.own ws) ∧ f d us ws n (fun q n => P (q.1, (E.set u (.own q.2.1)).set w (.own q.2.2)) n) fun _ _ => False := by
  unfold callM at h
  generalize E[u]? = o1 at h ⊢
  generalize E[w]? = o2 at h ⊢
  split at h
  · exact ⟨_, _, rfl, rfl, h⟩
  · exact h.elim
def afterM (m2 : XS) (ix : Nat) (Pd : D × List D × List D → Sx → Prop) : Out → Sx → Prop := fun o n => (match o with | .nx E' => m2 E' | o => ret o : W Out) n (fun o2 n2 => mutEnd ix o2 n2 Pd fun _ _ => False) fun _ _ => False
theorem fn_mut (sm : HasSm base) {x qual : Str} {st : Stmt} {f : Addr} {fd : FuncData} {N : List Str} {p0 p1 p2 : Str} {k : Nat} {m1 m2 : XS} {s1 s2 : Stmt} {y : Str} {py pos : Pos} {ix : Nat} (F : FnP K x qual st f fd) (S : FnScope N [p0, p1, p2] (defScope st)) (hl : 3 ≤ N.length) (hb : defBody st = [s1, s2, .Return (some (.Name y py)) pos])
    (hy : ∀ (cdv : Value) (A : Around) (outer : List PySem.Env) (s : Shared) (H : Hp) (E : XK), PE (bodyX cb P w K mg base N qual st f cdv A outer s H E) (.Name y py) (tVar ix))
    (b1 : ∀ (cdv : Value) (A : Around) (outer : List PySem.Env) (s : Shared) (H : Hp) (E : XK) (p : Par), SitB cb true (bodyX cb P w K mg base N qual st f cdv A outer s H E) p k → PSD (bodyX cb P w K mg base N qual st f cdv A outer s H E) p s1 m1)
    (b2 : ∀ (cdv : Value) (A : Around) (outer : List PySem.Env) (s : Shared) (H : Hp) (E : XK) (p : Par), SitB cb true (bodyX cb P w K mg base N qual st f cdv A outer s H E) p k → PSD (bodyX cb P w K mg base N qual st f cdv A outer s H E) p s2 m2) :
    FnG cb P w K mg base (k + 1) f fd [p0, p1, p2] (spM K (mutF N.length ix (sSeq m1 m2))) := by
  refine fnG_body F S (fun vs H Q E ⟨_, _, _, _, _, _, _, _, _, _, _, e, _⟩ => by rw [e]; rfl) (fun cdv A outer s H vs Q E hr hg hsp => ?_)
  obtain ⟨v0, q1, q2, xs1, xs2, B, d, us, ws, c, Pd, rfl, ne, bq1, bq2, trk, h1, h2, r0, r1, r2, mm, kq⟩ := hsp
  have ok : (parM H B q1 q2 c E).Ok K mg := ⟨fun _ _ _ h _ _ => h, fun _ _ _ _ _ _ _ _ _ _ _ z => z.elim⟩
  have S' := sit_body (P := P) (w := w) (base := base) (mg := mg) (f := f) (outer := outer) (H := H) (p := parM H B q1 q2 c E) (E := E) S hr hg ok (fun _ _ _ _ h => h) rfl sm
  obtain ⟨t1, a1, c1⟩ := (b1 cdv A outer s H E _ S').ex
  obtain ⟨t2, a2, c2⟩ := (b2 cdv A outer s H E _ S').ex
  refine ⟨tSeq t1 (tSeq t2 (tRet (tVar ix))), ?_, ?_⟩
  · rw [hb]
    exact pss_cons a1 (pss_cons a2 (pss_one (ps_ret (hy cdv A outer s H E))))
  have st0 : St0 (parM H B q1 q2 c E) c B H := ⟨fun _ z => .inl z.1, fun a z => trk a (bmM a z), rfl, ⟨h0_ext, fun _ z => z, fun _ z _ => z, fun _ _ z => z.elim⟩⟩
  have mm' : m1 (.val d :: .own us :: .own ws :: List.replicate (N.length - 3) .unk) c (afterM m2 ix Pd) (fun _ _ => False) := mm
  refine c1 B H _ (.val d :: .own us :: .own ws :: List.replicate (N.length - 3) .unk) c (afterM m2 ix Pd) _ st0 (env_mut hl ne bq1 bq2 h1 h2 r0 r1 r2) mm' ?_ (fun _ _ _ _ z => z.elim) (fun _ _ _ _ _ z => z.elim) (fun _ _ _ _ _ z => z.elim)
  intro E1 n1 B1 σ1 H1 m1' st1 _ e1
  refine c2 B1 H1 σ1 E1 n1 (fun o2 n2 => mutEnd ix o2 n2 Pd fun _ _ => False) _ st1 e1 m1' ?_ (fun _ _ _ _ z => z.elim) (fun _ _ _ _ _ z => z.elim) (fun _ _ _ _ _ z => z.elim)
  intro E2 n2 B2 σ2 H2 m2' st2 _ e2
  have hc : n2 = c := st2.si
  subst hc
  obtain ⟨us', ws', r, g1, g2, g3, m3⟩ := mutGet_inv (show mutGet ix E2 n2 Pd (fun _ _ => False) from m2')
  · skip
    obtain ⟨a1', ys1, k1, bb1, _, hh1, rr1⟩ := own_at e2 g1
    obtain ⟨a2', ys2, k2, bb2, _, hh2, rr2⟩ := own_at e2 g2
    obtain ⟨z3, k3, l3⟩ := e2.at_ ix _ g3
    have w1 := e2.pn 1 q1 us' rfl g1
    have w2 := e2.pn 2 q2 ws' rfl g2
    rw [w1] at k1
    rw [w2] at k2
    cases k1
    cases k2
    · skip
      · skip
        cases l3 with
        | @val v _ rv =>
          have sub : ∀ a, B a → B2 a := fun a ha => by
            by_cases x1 : a = q1
            · rw [x1]; exact bb1
            · by_cases x2 : a = q2
              · rw [x2]; exact bb2
              · exact bmM a (st2.subc a ⟨ha, x1, x2⟩)
          refine ⟨v, k3, kq r us' ws' v ys1 ys2 H2 m3 ⟨fun a o e n => ?_, fun a o e im => ?_, fun a n => ?_⟩ hh1 hh2 (rv.less fun a z => .inl (sub a z)) (rr1.less fun a z => .inl (sub a z)) (rr2.less fun a z => .inl (sub a z))⟩
          · refine st2.ext.ext.keep a o ?_ (fun z => z)
            show h0M H q1 q2 a = some o
            unfold h0M
            rw [if_neg (show ¬ (a = q1 ∨ a = q2) from n)]
            exact e
          · have n : ¬ (a = q1 ∨ a = q2) := fun z => by
              rcases z with rfl | rfl
              · rw [h1] at e; cases e; exact im
              · rw [h2] at e; cases e; exact im
            refine st2.ext.ext.imm a o ?_ im
            show h0M H q1 q2 a = some o
            unfold h0M
            rw [if_neg n]
            exact e
          · by_cases x1 : a = q1
            · rw [x1, hh1]; exact fun z => nomatch z
            · by_cases x2 : a = q2
              · rw [x2, hh2]; exact fun z => nomatch z
              · refine st2.ext.ext.dom a ?_
                show h0M H q1 q2 a ≠ none
                unfold h0M
                rw [if_neg (by rintro (z | z) <;> contradiction)]
                exact n
end
section
variable {X : Cx} {p : Par} {k : Nat} {K : PySem.W.Frag}
theorem own_mut {B : Addr → Prop} {H H' : Hp} {σ : L2.St} {E : Env} {n : Sx} {u w : Nat} {q1 q2 : Addr} {ys1 ys2 : List V} {us ws us' ws' : List D} (nf : p.fx = none) (ok : p.Ok K X.mg) (r : EnvR K p n B H σ E) (st : St0 p n B H) (hu : E[u]? = some (.own us)) (hw : E[w]? = some (.own ws)) (ne : u ≠ w)
    (s1 : σ[u]? = some (some (.ref q1))) (s2 : σ[w]? = some (some (.ref q2))) (e : Ext (twoB q1 q2) H H') (h1 : H' q1 = some (.lst ys1)) (h2 : H' q2 = some (.lst ys2)) (r1 : Reps K (bm p B n) H' ys1 us') (r2 : Reps K (bm p B n) H' ys2 ws') :
    EnvR K p n B H' σ ((E.set u (.own us')).set w (.own ws')) ∧ St0 p n B H' ∧ Tr (bm p B n) H (bm p B n) H' := by
  obtain ⟨z1, k1, l1⟩ := r.at_ u _ hu
  obtain ⟨z2, k2, l2⟩ := r.at_ w _ hw
  rw [s1] at k1
  rw [s2] at k2
  cases k1
  cases k2
  cases l1 with
  | own b1 n1 nc1 h01 hl1 rr1 =>
    cases l2 with
    | own b2 n2 nc2 h02 hl2 rr2 =>
      have ex : Ext (bm p B n) H H' := e.more fun a z => by
        rcases z with rfl | rfl
        · exact .inl b1
        · exact .inl b2
      have was : ∀ (i : Nat) (xs : List D), ((E.set u (.own us')).set w (.own ws'))[i]? = some (.own xs) → ∃ xs', E[i]? = some (.own xs') := fun i xs h => by
        rcases getElem?_set_cases h with ⟨rfl, _, _⟩ | ⟨_, h⟩
        · exact ⟨_, hw⟩
        · rcases getElem?_set_cases h with ⟨rfl, _, _⟩ | ⟨_, h⟩
          · exact ⟨_, hu⟩
          · exact ⟨_, h⟩
      refine ⟨⟨by rw [List.length_set, List.length_set]; exact r.len, fun j e' he => ?_, fun a b x xs ys g1 g2 g3 g4 => ?_, .no nf, fun j a xs hp hj => ?_⟩, ⟨st.subc, fun a z => ex.dom a (st.trk a z), ?_, ?_⟩, .of ex⟩
      · rcases getElem?_set_cases he with ⟨rfl, _, rfl⟩ | ⟨nw, he⟩
        · exact ⟨_, s2, .own b2 n2 nc2 h02 h2 r2⟩
        · rcases getElem?_set_cases he with ⟨rfl, _, rfl⟩ | ⟨nu, he⟩
          · exact ⟨_, s1, .own b1 n1 nc1 h01 h1 r1⟩
          · obtain ⟨s', g1, g2⟩ := r.at_ j e' he
            refine ⟨s', g1, ?_⟩
            cases g2 with
            | unk _ => exact .unk _
            | val z => exact .val (z.mono ex)
            | @own a3 _ _ b3 n3 nc3 h03 hl3 z3 =>
              have na : ¬ twoB q1 q2 a3 := fun z => by
                rcases z with rfl | rfl
                · exact nu (r.nd u j _ _ _ hu he s1 g1)
                · exact nw (r.nd w j _ _ _ hw he s2 g1)
              exact .own b3 n3 nc3 h03 (e.keep _ _ hl3 na) (z3.mono ex)
            | stm => exact .stm
            | scr z => exact .scr fun H2 hk => z H2 fun o ho him => hk o (ex.imm _ o ho him) him
      · obtain ⟨xs', f1⟩ := was a xs g1
        obtain ⟨ys', f2⟩ := was b ys g2
        exact r.nd a b x xs' ys' f1 f2 g3 g4
      · obtain ⟨xs', f1⟩ := was j xs hj
        exact r.pn j a xs' hp f1
      · refine ok.stab n H _ st.si (fun a o ha ho => e.keep a o ho fun z => ?_) fun a o e0 im => ex.imm a o e0 im
        rcases z with rfl | rfl
        · exact n1 ha
        · exact n2 ha
      · refine ⟨⟨fun a o e0 nb => e.keep a o (st.ext.ext.keep a o e0 nb) fun z => ?_, fun a o e0 im => e.imm a o (st.ext.ext.imm a o e0 im) im, fun a nn => e.dom a (st.ext.ext.dom a nn)⟩, st.ext.up, st.ext.old, fun g a z => e.dom a (st.ext.dom g a z)⟩
        rcases z with rfl | rfl
        · rw [h01] at e0; cases e0
        · rw [h02] at e0; cases e0
/-- the call itself -/
theorem call_mut {B : Addr → Prop} {H : Hp} {σ : L2.St} {E : Env} {c : Sx} {u w : Nat} {m : Fn3} {d : D} {v : V} {P : D × Env → Sx → Prop} {XP : Exn → Sx → Prop} {Q : VK} {EK : XK} (nf : p.fx = none) (ok : p.Ok K X.mg) (ne : u ≠ w) (r : EnvR K p c B H σ E) (st : St0 p c B H) (rv : Rep K (bm p B c) H v d) (mm : callM m d u w E c P XP)
    (kk : ∀ (x : D) (E' : Env) (v' : V) (H' : Hp), P (x, E') c → EnvR K p c B H' σ E' → St0 p c B H' → Tr (bm p B c) H (bm p B c) H' → Rep K (bm p B c) H' v' x → Q v' H') :
    ∃ q1 q2, σ[u]? = some (some (.ref q1)) ∧ σ[w]? = some (some (.ref q2)) ∧ spM K m [v, .ref q1, .ref q2] H Q EK := by
  obtain ⟨us, ws, g1, g2, mm⟩ := callM_inv mm
  · skip
    obtain ⟨z1, k1, l1⟩ := r.at_ u _ g1
    obtain ⟨z2, k2, l2⟩ := r.at_ w _ g2
    cases l1 with
    | @own q1 xs1 _ b1 n1 nc1 h01 hl1 rr1 =>
      cases l2 with
      | @own q2 xs2 _ b2 n2 nc2 h02 hl2 rr2 =>
        refine ⟨q1, q2, k1, k2, v, q1, q2, xs1, xs2, _, d, us, ws, c, fun q n => P (q.1, (E.set u (.own q.2.1)).set w (.own q.2.2)) n, rfl, fun z => ?_, .inl b1, .inl b2, st.trk, hl1, hl2, rv, rr1, rr2, mm, fun x us' ws' v' ys1 ys2 H' pd e h1 h2 rx r1 r2 => ?_⟩
        · subst z
          exact ne (r.nd u w _ _ _ g1 g2 k1 k2)
        · obtain ⟨a1, a2, a3⟩ := own_mut (X := X) nf ok r st g1 g2 ne k1 k2 e h1 h2 r1 r2
          exact kk x _ v' H' pd a1 a2 a3 rx
theorem sd_mut {cb : Bool} (S : SitB cb true X p k) {j i u w : Nat} {x y yu yw : Str} {f : Addr} {fd : FuncData} {ps : List Str} {m : Fn3} {ea : Expr} {me : XE} {pn pu pw pc pos pos' : Pos} (F : FnG cb X.prog X.w X.K X.mg X.base j f fd ps (spM X.K m)) (hj : j ≤ k) (D : Def X.K X.mg x f fd ps)
    (hi : X.N[i]? = some y) (hx : Loc X.env.scope y) (ha : PD X p ea me) (hu : PE X (.Name yu pu) (tVar u)) (hw : PE X (.Name yw pw) (tVar w)) (ne : u ≠ w)
    (hg : Gl X x := by rfl) (hdb : (x == ("__debug__" : Str)) = false := by decide) (he : starEach [ea, .Name yu pu, .Name yw pw] X.env = (false, eval ea X.env) :: starEach [.Name yu pu, .Name yw pw] X.env := by rfl) (he2 : starEach [.Name yu pu, .Name yw pw] X.env = (false, eval (.Name yu pu) X.env) :: starEach [.Name yw pw] X.env := by rfl)
    (he3 : starEach [.Name yw pw] X.env = (false, eval (.Name yw pw) X.env) :: starEach [] X.env := by rfl) (hpl : (backTo pc (starEach [.Name yu pu, .Name yw pw] X.env)).any (·.1) = false := by rfl) (hs : swapsWith (.Call (.Name x pn) [ea, .Name yu pu, .Name yw pw] [] pc) (some (.Name y pos')) pos.line X.env = pure false := by rfl)
    (hf : X.fn y = true ∨ X.env.scope.names.lookup y = some .local := by first | exact .inl rfl | exact .inr rfl) : PSD X p (.Assign [.Name y pos'] (.Call (.Name x pn) [ea, .Name yu pu, .Name yw pw] [] pc) pos) (sMut i m me u w) := by
  obtain ⟨ta, a1, a2⟩ := ha.ex
  refine ⟨_, ps_set S.nd hi hx (pe_G F (S.rm.mono hj) S.gd D.mg D.kp D.bd S.ps (pa_cons a1 (pa_cons hu (pa_cons hw pa_nil he3) he2) he) hg hdb he hpl) hs hf, fun B H σ E c P Dn st r mm nx rt bk ct => ?_⟩
  refine a2 B H σ E _ _ _ st r mm fun d c1 v H1 m1 e1 s1 r1 => ?_
  have st1 := st.go e1 s1
  have rr := r.go st e1
  obtain ⟨q1, q2, k1, k2, sp⟩ := call_mut (X := X) (EK := p.EK σ) (Q := fun v' H2 => gName i v' σ H2 Dn.nx) S.nf S.ok ne rr st1 r1 m1 fun x E' v' H' pd a1 a2 a3 rx => nx _ _ B _ H' pd a2 ((st.up e1).trans a3) (a1.val S.nf i rx)
  exact ⟨_, k1, _, k2, sp⟩
/-- a, b, c = [..], [..], z by way of a tuple: the first two owned -/
theorem sd_par3C (S : SitB true true X p k) {i j l : Nat} {x y z : Str} {a b c : Expr} {ma mb mc : XE} {px py pz pt pos : Pos} {kt k2 pt2} (hg : PGs X [.Name x px, .Name y py, .Name z pz] (gCons (gName i) (gCons (gName j) (gCons (gName l) gNil))))
    (ha : PDF X p a ma) (hb : PDF X p b mb) (hc : PD X p c mc)
    (hn : (assignEach [.Name x px, .Name y py, .Name z pz] X.env).length = 3 := by rfl) (hst : (assignEach [.Name x px, .Name y py, .Name z pz] X.env).findIdx? (·.1) = none := by rfl)
    (hs : swapsWithSole [.Tuple [.Name x px, .Name y py, .Name z pz] kt pt] (.Tuple [a, b, c] k2 pt2) pos.line X.env = pure false := by rfl) (hw : swappedStores [.Tuple [.Name x px, .Name y py, .Name z pz] kt pt] (.Tuple [a, b, c] k2 pt2) X.env = pure none := by rfl)
    (h0 : (assignEach [.Tuple [.Name x px, .Name y py, .Name z pz] kt pt] X.env).map (·.2) = [assign (.Tuple [.Name x px, .Name y py, .Name z pz] kt pt) X.env] := by rfl)
    (h1 : starEach [a, b, c] X.env = (false, eval a X.env) :: starEach [b, c] X.env := by rfl) (h2 : starEach [b, c] X.env = (false, eval b X.env) :: starEach [c] X.env := by rfl) (h3 : starEach [c] X.env = (false, eval c X.env) :: starEach [] X.env := by rfl) (hp : ∀ i, p.pin i = none := by assumption) :
    PSD X p (.Assign [.Tuple [.Name x px, .Name y py, .Name z pz] kt pt] (.Tuple [a, b, c] k2 pt2) pos) (sPar3Q i j l ma mb mc) := by
  obtain ⟨ta, a1, a2⟩ := ha.ex
  obtain ⟨tb, b1, b2⟩ := hb.ex
  obtain ⟨tc, c1, c2⟩ := hc.ex
  refine ⟨_, ps_asg (pe_tup (pa_cons a1 (pa_cons b1 (pa_cons c1 pa_nil h3) h2) h1)) (pg_tup S.calm hg hn hst) hs hw h0, fun B H σ E c0 P Dn st r m nx rt bk ct => ?_⟩
  refine a2 B H σ E _ _ _ st r m fun ds n1 q xs H1 m1 e1 s1 hq h1' rs => ?_
  have stm := st_q st hq.1 e1.q s1 (some_ne h1')
  have rm := env_q0 S.nf r st hq.1 e1.q
  refine b2 _ H1 σ E _ _ _ stm rm m1 fun es n2 q2 ys H2 m2 e2 s2 hq2 h2' rs2 => ?_
  have stm2 := st_q stm hq2.1 e2.q s2 (some_ne h2')
  have rm2 := env_q0 S.nf rm stm hq2.1 e2.q
  refine c2 _ H2 σ E _ _ _ stm2 rm2 m2 fun d3 n3 v3 H3 m3 e3 s3 r3 => ?_
  obtain ⟨g1, g2, g3⟩ := own_put hp S.nf i r st e1 s1 hq h1' rs
  obtain ⟨f1, f2, f3⟩ := own_put hp S.nf j g1 g2 e2 s2 hq2 h2' rs2
  have st3 := f2.go e3 s3
  refine ⟨by rw [sizeLine_eq]; simp, fun t ht => ?_⟩
  have al : All H3 (upd H3 t (.tup [.ref q, .ref q2, v3])) := All.new ht
  refine ⟨t, [.ref q, .ref q2, v3], rfl, SqT.of upd_same, rfl, _, _, rfl, _, _, rfl, _, _, rfl, rfl, ?_⟩
  exact nx _ _ _ _ _ m3 (st3.go al.ev (st3.all S.ok al)) (((g3.trans f3).trans (f2.up e3)).trans (.of al.ext)) (((f1.go f2 e3).go st3 al.ev).val S.nf l (r3.mono al.ext))
theorem pf_mulL {vb : Bool} {cb : Bool} (S : SitB cb vb X p k) {a b : Expr} {ma mb : XE} {pos : Pos} (ha : PD X p a ma) (hb : PD X p b mb) : PDF X p (.BinOp a .Mult b pos) (eMulL ma mb) := by
  obtain ⟨ta, a1, a2⟩ := ha.ex
  obtain ⟨tb, b1, b2⟩ := hb.ex
  refine ⟨_, pe_op op_rep a1 b1, fun B H σ E c P Q s re m k => ?_⟩
  refine a2 B H σ E _ _ _ s re m fun d c1 v H1 m1 e1 s1 r1 => ?_
  have st1 := s.go e1 s1
  refine b2 B H1 σ E _ _ _ st1 (re.go s e1) m1 fun d2 c2 v2 H2 m2 e2 s2 r2 => ?_
  have st2 := st1.go e2 s2
  have e12 := e1.trans e2
  have r1' := r1.tr (st1.up e2)
  cases r1' with
  | @lst l xs _ q1 n1 t1 =>
    cases r2 with
    | int j =>
      obtain ⟨⟨h0, h1, h2⟩, m3⟩ := m2
      have l1 := t1.length
      have hj : j.toNat ≤ 1000 := by omega
      have hm : xs.length * j.toNat ≤ 1000 * 1000 := Nat.mul_le_mul (by rw [l1]; exact h2) hj
      exact ⟨_, j, _, rfl, rfl, q1, by omega, by omega, Nat.le_trans hm (by rw [sizeLine_eq]; decide), fun q hq => k _ _ q _ _ m3 (e12.trans (All.new hq).ev) (st2.all S.ok (All.new hq)) (q_new st2 e12 hq) upd_same ((reps_more hq (t1.rep _)).mono (All.new hq).ext)⟩
    | _ => exact m2.elim
  | _ => exact m2.elim
end
end DL
end
section
namespace DL
open PySem PySem.Spec PyProof.Rows L2
end DL
end
section
namespace DL
open PySem PySem.Spec PyProof.Rows L2
end DL
end
section
namespace DL
open PySem PySem.Spec PyProof.Rows L2
section
variable {X : Cx} {p : Par} {k : Nat} {cb vb : Bool}
theorem RoomB.in1 {k : Nat} {A : Around} (r : RoomB cb (k + 1) A) : RoomB cb k A.in1 :=
  ⟨r.hd_, by have := r.dp; show A.depth + 3 * k + 5 < _; omega, by have := r.un; show A.units + 1 + 16 * k + 200 < _; omega⟩
end
end DL
end
section
namespace DL
open PySem PySem.Spec PyProof.Rows L2
end DL
end
section
namespace DL
open PySem PySem.Spec PyProof.Rows L2
/-- objects without fields stand in no data -/
def Bare (o : HO) : Prop := ∃ C dx, o = .ins C dx []
def Skips (H H' : Hp) : Prop := ∀ a o, H a = some o → ¬ Bare o → H' a = some o
theorem Skips.sqT {K : PySem.W.Frag} {H H' : Hp} (h : Skips H H') {a : Addr} {xs : List V} (q : SqT K H a xs) : SqT K H' a xs := by
  rcases q with (q | ⟨o, q⟩) | q
  · exact .inl (.inl (h a _ q fun ⟨_, _, z⟩ => nomatch z))
  · exact .inl (.inr ⟨o, h a _ q fun ⟨_, _, z⟩ => nomatch z⟩)
  · exact .inr q
end DL
end
section
namespace DL
open PySem
def Sx.set (c : Sx) (a : Nat) (x : Cell) : Sx := ⟨c.n, fun b => if b = a then some x else c.mu b⟩
/-- a method, a property: by the class -/
abbrev Tb := List (Str × Fn)
end DL
end
section
namespace DL
open PySem PySem.Spec PyProof.Rows L2
end DL
end
section
namespace DL
open PySem PySem.Spec PyProof.Rows L2
section
variable {X : Cx} {p : Par} {k : Nat} {cb vb : Bool}
theorem IsStr.quiet {K : PySem.W.Frag} (Z : IsStr K p) : IsStr K p.quiet := Z
/-- the method m of the class n does f -/
structure MetN (cb : Bool) (X : Cx) (k : Nat) (n m : Str) (f : Fn) : Prop where
  ex : ∃ (j : Nat) (g : Addr) (fd : FuncData) (ps : List Str), j ≤ k ∧ FnG cb X.prog X.w X.K X.mg X.base j g fd ps (spC X.K X.mg f) ∧ Meth X.K (He.ga X.K n) m g ∧ Binds X.K fd ps []
inductive MetT (cb : Bool) (X : Cx) (k : Nat) (m : Str) : Tb → Prop
  | nil : MetT cb X k m []
  | cons {n : Str} {f : Fn} {tb : Tb} (h : MetN cb X k n m f) (t : MetT cb X k m tb) : MetT cb X k m ((n, f) :: tb)
theorem MetT.at_ {m : Str} {n : Str} {f : Fn} : ∀ {tb : Tb}, MetT cb X k m tb → tb.lookup n = some f → MetN cb X k n m f
  | _, .nil, h => by cases h
  | _, .cons (n := n') (f := f') h t, e => by
    rw [List.lookup_cons] at e
    by_cases hn : (n == n') = true
    · rw [hn] at e
      cases e
      rw [beq_iff_eq] at hn
      subst hn
      exact h
    · rw [Bool.not_eq_true] at hn
      rw [hn] at e
      exact t.at_ e
end
end DL
end
section
namespace DL
open PySem PySem.Spec PyProof.Rows L2
section
variable {X : Cx} {p : Par} {k : Nat} {cb vb : Bool}
structure PropN (cb : Bool) (X : Cx) (k : Nat) (n m : Str) (f : Fn) : Prop where
  ex : ∃ (j : Nat) (q g : Addr) (fd : FuncData) (ps : List Str), j + 1 ≤ k ∧ FnG cb X.prog X.w X.K X.mg X.base j g fd ps (spC X.K X.mg f) ∧ PropOf X.K (He.ga X.K n) m q g ∧ Binds X.K fd ps []
inductive PropT (cb : Bool) (X : Cx) (k : Nat) (m : Str) : Tb → Prop
  | nil : PropT cb X k m []
  | cons {n : Str} {f : Fn} {tb : Tb} (h : PropN cb X k n m f) (t : PropT cb X k m tb) : PropT cb X k m ((n, f) :: tb)
theorem PropT.at_ {m : Str} {n : Str} {f : Fn} : ∀ {tb : Tb}, PropT cb X k m tb → tb.lookup n = some f → PropN cb X k n m f
  | _, .nil, h => by cases h
  | _, .cons (n := n') (f := f') h t, e => by
    rw [List.lookup_cons] at e
    by_cases hn : (n == n') = true
    · rw [hn] at e
      cases e
      rw [beq_iff_eq] at hn
      subst hn
      exact h
    · rw [Bool.not_eq_true] at hn
      rw [hn] at e
      exact t.at_ e
end
end DL
end
section
namespace DL
open PySem PySem.Spec PyProof.Rows L2
end DL
end
section
namespace DL
open PySem
end DL
end
section
namespace DL
open PySem PySem.Spec PyProof.Rows L2
end DL
end
section
namespace DL
open PySem PySem.Spec PyProof.Rows L2
/-- the name is a property at q whose setter is at s -/
structure PropSt (K : PySem.W.Frag) (C : Addr) (f : Str) (q s : Addr) : Prop where
  tk : PySem.W.takerIn K C f = some (some (.ref q))
  ty : PySem.W.typeIn K (.ref q) = some (.type "property")
  rec_ : ∃ a rest, PySem.W.recIn K q "property" = some (a :: .ref s :: rest)
section
variable {X : Cx} {p : Par} {k : Nat} {cb vb : Bool}
structure PropSN (cb : Bool) (X : Cx) (k : Nat) (n m : Str) (f : Fn) : Prop where
  ex : ∃ (j : Nat) (q g : Addr) (fd : FuncData) (ps : List Str), j + 2 ≤ k ∧ FnG cb X.prog X.w X.K X.mg X.base j g fd ps (spC X.K X.mg f) ∧ PropSt X.K (He.ga X.K n) m q g ∧ Binds X.K fd ps []
inductive PropST (cb : Bool) (X : Cx) (k : Nat) (m : Str) : Tb → Prop
  | nil : PropST cb X k m []
  | cons {n : Str} {f : Fn} {tb : Tb} (h : PropSN cb X k n m f) (t : PropST cb X k m tb) : PropST cb X k m ((n, f) :: tb)
theorem PropST.at_ {m : Str} {n : Str} {f : Fn} : ∀ {tb : Tb}, PropST cb X k m tb → tb.lookup n = some f → PropSN cb X k n m f
  | _, .nil, h => by cases h
  | _, .cons (n := n') (f := f') h t, e => by
    rw [List.lookup_cons] at e
    by_cases hn : (n == n') = true
    · rw [hn] at e
      cases e
      rw [beq_iff_eq] at hn
      subst hn
      exact h
    · rw [Bool.not_eq_true] at hn
      rw [hn] at e
      exact t.at_ e
end
end DL
end
section
namespace DL
open PySem
end DL
end
section
namespace DL
open PySem PySem.Spec PyProof.Rows L2
end DL
end
section
namespace DL
open PySem
end DL
end
section
namespace DL
open PySem PySem.Spec PyProof.Rows L2
end DL
end
section
namespace DL
open PySem
def w__law_bounds_0 : Fn := fn 2 9 (sSeq (sOwn 2 (eLst (aNil)))
    (sSeq (sFor (iRng1 (eVar 0)) (.nm 3) (sSeq (sRel 2 (sOwn 2 (eAddL (eVar 2) (eLst (aCons (eTup (aCons (eVar 3) (aCons (eBin .add (eVar 3) (eCon (.int 1))) (aCons (eCon (.int 61)) (aNil))))) (aCons (eTup (aCons (eBin .add (eVar 3) (eCon (.int 1))) (aCons (eVar 3) (aCons (eNeg (eCon (.int 2))) (aNil))))) (aNil)))))))
    (sRel 2 (sOwn 2 (eAddL (eVar 2) (eComp (iSeq (eVar 1)) (.tp [4, 5]) (tYes) (eTup (aCons (eVar 3) (aCons (eBin .add (eVar 3) (eCon (.int 1))) (aCons (eBin .add (eVar 4) (eCon (.int 1))) (aNil))))) [4, 5]))))))
    (sSeq (sFor (iSeq (eVar 1)) (.tp [4, 5]) (sSeq (sAsg 6 (eBin .add (eCut (eVar 5) (oSome (eCon (.int 1))) (oNone)) (eTup (aCons (eVar 0) (aNil)))))
    (sFor (iTwos (eVar 5) (eVar 6)) (.tp [7, 8]) (sSeq (sApp 2 (eTup (aCons (eVar 7) (aCons (eVar 8) (aCons (eBin .add (eVar 4) (eCon (.int 1))) (aNil))))))
    (sRel 2 (sOwn 2 (eAddL (eVar 2) (eBin .mul (eLst (aCons (eTup (aCons (eBin .add (eVar 8) (eCon (.int 1))) (aCons (eVar 7) (aCons (eBin .sub (eNeg (eCon (.int 2))) (eVar 4)) (aNil))))) (aNil))) (eB1 .int (eCmp .lt (eVar 8) (eVar 0)))))))))))
    (sRel 2 (sRet (eVar 2))))))
def w__law_is_ring_0 : Fn := fn 3 6 (sSeq (sAsg 3 (eComp (iSeq (eCall w__law_bounds_0 (aCons (eVar 0) (aCons (eVar 1) (aNil))))) (.nm 4) (tYes) (eB1 .repr (eVar 4)) [4]))
    (sSeq (sIf (DL.tOr (tNot (tTru (eIs .tuple (eVar 2)))) (DL.tOr (tBool (eCmp .eq (eVar 2) (eTup (aNil)))) (tBool (eCmp .ne (eComp (iSeq (eVar 2)) (.nm 4) (tBool (eIn true (eB1 .repr (eVar 4)) (eVar 3))) (eVar 4) [4]) (eLst (aNil)))))) (sRet (eCon (.bool false))) (sSkip))
    (sSeq (sIf (tBool (eCmp .ne (eComp (iRng1 (eB1 .len (eVar 2))) (.nm 5) (tBool (eCmp .ne (eIdx (eIdx (eVar 2) (eBin .sub (eVar 5) (eCon (.int 1)))) (eCon (.int 1))) (eIdx (eIdx (eVar 2) (eVar 5)) (eCon (.int 0))))) (eVar 5) [5]) (eLst (aNil)))) (sRet (eCon (.bool false))) (sSkip))
    (sRet (eCmp .lt (eB1 .sum (eComp (iSeq (eVar 2)) (.nm 4) (tYes) (eIdx (eVar 4) (eCon (.int 2))) [4])) (eCon (.int 0)))))))
end DL
end
section
namespace DL
open PySem
end DL
end
section
namespace DL
open PySem
end DL
end
section
namespace DL
open PySem
def w__law_right_6 : Fn := fn 2 5 (sSeq (sPar 2 3 (eB1 .repr (eVar 1)) (eCall w_read_back_0 (aCons (eVar 0) (aCons (eVar 1) (aNil)))))
    (sSeq (sIf (DL.tOr (tNot (tTru (eIs .tuple (eVar 3)))) (DL.tOr (tBool (eCmp .ne (eB1 .len (eVar 3)) (eCon (.int 2)))) (tNot (tTru (eIs .str (eIdx (eVar 3) (eCon (.int 0)))))))) (sRet (eCon (.bool false))) (sSkip))
    (sSeq (sIf (tBool (eCmp .eq (eIdx (eVar 3) (eCon (.int 0))) (eCon (.str "row")))) (sAsg 4 (eAnd (eCall w__law_is_row_0 (aCons (eIdx (eVar 3) (eCon (.int 1))) (aNil))) (eAnd (eCmp .eq (eB1 .len (eIdx (eVar 3) (eCon (.int 1)))) (eVar 0)) (eCall w__law_agrees_0 (aCons (eIdx (eVar 3) (eCon (.int 1))) (aCons (eVar 1) (aNil))))))) (sAsg 4 (eAnd (eCmp .eq (eIdx (eVar 3) (eCon (.int 0))) (eCon (.str "ring"))) (eCall w__law_is_ring_0 (aCons (eVar 0) (aCons (eVar 1) (aCons (eIdx (eVar 3) (eCon (.int 1))) (aNil))))))))
    (sRet (eAnd (eVar 4) (eAnd (eCmp .eq (eB1 .repr (eCall w_read_back_0 (aCons (eVar 0) (aCons (eVar 1) (aNil))))) (eB1 .repr (eVar 3))) (eCmp .eq (eB1 .repr (eVar 1)) (eVar 2))))))))
end DL
end
section
namespace Wk38
open PySem DL
def m_law : XS := sSeq (sFor (iRng1 (eCon (.int 10))) (.nm 2) (sSeq (sPut (.tp [3, 4]) (eCallS w__law_sightings_0 1 (aCons (eIdx (eLst (aCons (eCon (.int 24)) (aCons (eCon (.int 5)) (aCons (eCon (.int 3)) (aNil))))) (eBin .mod (eVar 2) (eCon (.int 3)))) (aNil))))
    (sIf (tNot (tTru (eCall w__law_right_6 (aCons (eVar 3) (aCons (eVar 4) (aNil)))))) (sRet (eCon (.bool false))) (sSkip))))
    (sSeq (sAsg 5 (eLst (aCons (eIdx (eCall w_read_back_0 (aCons (eCon (.int 2)) (aCons (eTup (aCons (eTup (aCons (eCon (.int 2)) (aCons (eTup (aCons (eCon (.int 0)) (aNil))) (aNil)))) (aNil))) (aNil)))) (eCon (.int 0))) (aCons (eIdx (eCall w_read_back_0 (aCons (eCon (.int 3)) (aCons (eTup (aCons (eTup (aCons (eCon (.int 9)) (aCons (eTup (aCons (eCon (.int 0)) (aCons (eCon (.int 1)) (aNil)))) (aNil)))) (aCons (eTup (aCons (eCon (.int 10)) (aCons (eTup (aCons (eCon (.int 0)) (aCons (eCon (.int 2)) (aNil)))) (aNil)))) (aNil)))) (aNil)))) (eCon (.int 0))) (aNil)))))
    (sSeq (sAsg 5 (eBin .add (eVar 5) (eLst (aCons (eIdx (eCall w_read_back_0 (aCons (eCon (.int 2)) (aCons (eTup (aCons (eTup (aCons (eCon (.int 60)) (aCons (eTup (aCons (eCon (.int 0)) (aCons (eCon (.int 1)) (aNil)))) (aNil)))) (aCons (eTup (aCons (eCon (.int 61)) (aCons (eTup (aCons (eCon (.int 0)) (aNil))) (aNil)))) (aNil)))) (aNil)))) (eCon (.int 0))) (aCons (eIdx (eCall w_read_back_0 (aCons (eCon (.int 1)) (aCons (eTup (aCons (eTup (aCons (eCon (.int 60)) (aCons (eTup (aCons (eCon (.int 0)) (aNil))) (aNil)))) (aCons (eTup (aCons (eCon (.int 2000)) (aCons (eTup (aCons (eCon (.int 0)) (aNil))) (aNil)))) (aNil)))) (aNil)))) (eCon (.int 0))) (aNil))))))
    (sSeq (sAsg 3 (eLst (aCons (eTupR (iRng1 (eCon (.int 24)))) (aCons (eTupR (iRng3 (eCon (.int 0)) (eCon (.int 24)) (eCon (.int 2)))) (aNil)))))
    (sSeq (sAsg 5 (eBin .add (eVar 5) (eLst (aCons (eIdx (eCall w_read_back_0 (aCons (eCon (.int 24)) (aCons (eTup (aCons (eTup (aCons (eCon (.int 1)) (aCons (eIdx (eVar 3) (eCon (.int 0))) (aNil)))) (aCons (eTup (aCons (eCon (.int 3)) (aCons (eIdx (eVar 3) (eCon (.int 1))) (aNil)))) (aNil)))) (aNil)))) (eCon (.int 0))) (aCons (eIdx (eCall w_read_back_0 (aCons (eCon (.int 24)) (aCons (eTup (aCons (eTup (aCons (eCon (.int 2)) (aCons (eIdx (eVar 3) (eCon (.int 0))) (aNil)))) (aCons (eTup (aCons (eCon (.int 3)) (aCons (eTup (aCons (eCon (.int 0)) (aNil))) (aNil)))) (aNil)))) (aNil)))) (eCon (.int 0))) (aNil))))))
    (sRet (eCmp .eq (eVar 5) (eLst (aCons (eCon (.str "ring")) (aCons (eCon (.str "row")) (aCons (eCon (.str "row")) (aCons (eCon (.str "row")) (aCons (eCon (.str "row")) (aCons (eCon (.str "ring")) (aNil))))))))))))))
end Wk38
end
section
namespace DL
open PySem PySem.Spec PyProof.Rows L2
section
variable {P : Program} {w : World} {A : Around} {E : Value → Shared → Prop} {s : Shared}
abbrev setE (w : World) : Obj := { cls := .type "set", dict := none, data := .set #[] 0 (.fresh 0 0 (!w.params.followText "set-order")) }
theorem set_ofL {l : Addr} {its : Array Value} (ns : List Int) {Q : Value → Shared → Prop} (cool : A.handled = none) (isl : s.heap.IsList l its) (ia : IntsAre its.toList ns) (few : ns.length + 1 < scanBound)
    (fin : ∀ (g : Heap) (tk c : Nat), SetR w g s.heap.objs.size (fun j => decide (j ∈ ns)) c → c ≤ ns.length → (∀ b o, s.heap.get? b = some o → g.get? b = some o) → Q (.ref s.heap.objs.size) { s with heap := g, toks := tk }) : wpAny (model P w) A (call (.type "set") [.ref l]) Q E s := by
  have sz : its.size = ns.length := by rw [← Array.length_toList]; exact IntsAre.length ia
  have vals : ∀ (i : Nat) (v : Value), its[i]? = some v → ∃ k t, ns[i]? = some k ∧ v = .int k t := by
    intro i v e
    have lt : i < ns.length := sz ▸ (Array.getElem?_eq_some_iff.mp e).1
    obtain ⟨t, q⟩ := PyProof.Rows.IntsAre.int_at ia i v (by rw [Array.getElem?_toList, e])
    refine ⟨ns[i], t, List.getElem?_eq_getElem lt, ?_⟩
    rw [List.getD_eq_getElem?_getD, List.getElem?_eq_getElem lt] at q
    exact q
  obtain ⟨c0, tl0, order⟩ := F.called_set.mro
  have z1 := F.called_set.made
  have z2 := F.called_set.sub
  refine wpAny_call (codeAny_of_tree ?_)
  show wpAny _ _ (callAny (.type "set") _) _ _ _
  refine wpAny_pure ⟨Code.quiet_builtin _ (by decide +kernel), ?_⟩
  refine codeAny_builtin F.entry_type_call ?_
  rw [Around.under_plain (weight_type_call_type "set" [.ref l] []) rfl]
  have z3 := F.called_set.notType
  have z4 := F.called_set.canCreate
  have z5 := F.typeCall_set_1 (.ref l)
  repeat (any_goals (first | assumption | wp_step))
  refine codeAny_mono (code_set_led1 (.ref l) (E := E) (Q₁ := fun obj s₁ => obj = .ref s.heap.objs.size ∧ s₁ = { s with heap := s.heap.push (setE w) }) ⟨rfl, rfl⟩) fun r s₁ hr => ?_
  match r, hr with
  | .error _, hr => exact hr
  | .ok .next, hr => exact hr.elim
  | .ok .brk, hr => exact hr.elim
  | .ok .cont, hr => exact hr.elim
  | .ok (.ret obj), hr =>
    obtain ⟨rfl, rfl⟩ := hr
    have atS : (s.heap.push (setE w)).get? s.heap.objs.size = some (setE w) := Heap.get?_push_size _ rfl
    have tyS : Shared.TypeIs { s with heap := s.heap.push (setE w) } (.ref s.heap.objs.size) "set" := ⟨_, atS, rfl⟩
    have z6 := F.called_set.init.lookup
    have z7 := F.called_set.init.bind (.ref s.heap.objs.size)
    repeat (any_goals (first | assumption | wp_step))
    refine codeAny_mono (codeAny_call_builtin (R := wants (fun r s₂ => r = .none ∧ ∃ g tk c, s₂ = { s with heap := g, toks := tk } ∧ SetR w g s.heap.objs.size (fun j => decide (j ∈ ns)) c ∧ c ≤ ns.length ∧ (∀ b o, s.heap.get? b = some o → g.get? b = some o)) E)
      F.called_set.init.plain F.entry_set_init (check_set_init_1 tyS ?_)) fun r₂ s₂ hr₂ => ?_
    · obtain ⟨⟨cl, di, da, sl⟩, e1, e2, nl, e3⟩ := isl
      simp only at e2 e3
      subst e2 e3
      have lS : l < s.heap.objs.size := Heap.lt_size e1
      have e1' : (s.heap.push (setE w)).get? l = some { cls := .type "list", dict := di, data := .seq its nl, slots := sl } := Heap.get?_push_of_some _ e1
      have isl1 : (s.heap.push (setE w)).IsList l its := ⟨_, e1', rfl, nl, rfl⟩
      have y1 := F.sub_list_set
      have y2 := F.sub_list_frozenset
      have y3 : (Value.type "list" == Value.type "dict") = false := by decide
      unfold Builtin.«set.__init__» noKeywords Builtin.Frozenset.updateFrom
      generalize hPI : pyIter = PI
      wp_walk
      subst hPI
      refine wpAny_pyIter_list isl1 (wpAny_bind (wpAny_runValue ?_))
      have cool3 : A.in1.in1.in1.handled = none := by simp [cool]
      have psz : (s.heap.push (setE w)).objs.size = s.heap.objs.size + 1 := Heap.size_push _ _
      have apart : l ≠ (s.heap.push (setE w)).objs.size := by rw [Heap.size_push]; exact Nat.ne_of_lt (Nat.lt_succ_of_lt lS)
      have out : s.heap.objs.size ∉ [(s.heap.push (setE w)).objs.size, l] := by
        rw [Heap.size_push]
        simp only [List.mem_cons, List.not_mem_nil, or_false, not_or]
        exact ⟨Nat.ne_of_lt (Nat.lt_succ_self _), Nat.ne_of_gt lS⟩
      refine set_update_ints ((Walks.list cool3 _ l apart its).toS) s.heap.objs.size out ns sz few vals its.size 0 _ (by omega) (Nat.zero_le _) ⟨⟨_, Heap.get?_push_size _ rfl, rfl, rfl⟩, isl1.push _⟩ ⟨0, Nat.le_refl 0, setR_new_at (Heap.get?_push_of_some _ atS)⟩ ?_
      intro s' c' mv le R
      obtain ⟨g, g2, d2, tk2, os2⟩ := s'
      obtain rfl : g2 = s.gens := mv.gens
      obtain rfl : d2 = s.drawn := mv.drawn
      obtain rfl : os2 = s.os := mv.os
      show wpAny _ _ _ _ _ _
      refine wpAny_pure ?_
      show wpAny _ _ (PySem.ret Value.none) _ _ _
      refine wpAny_pure ⟨rfl, g, tk2, c', rfl, R, sz ▸ le, fun b o e => ?_⟩
      have b0 : b < s.heap.objs.size := Heap.lt_size e
      refine mv.heap b o ?_ (Heap.get?_push_of_some _ (Heap.get?_push_of_some _ e))
      rw [Heap.size_push]
      simp only [List.mem_cons, List.not_mem_nil, or_false, not_or]
      exact ⟨Nat.ne_of_lt b0, Nat.ne_of_lt (Nat.lt_succ_of_lt b0)⟩
    · match r₂, hr₂ with
      | .error _, hr₂ => exact hr₂
      | .ok .next, hr₂ => exact hr₂.elim
      | .ok .brk, hr₂ => exact hr₂.elim
      | .ok .cont, hr₂ => exact hr₂.elim
      | .ok (.ret _), hr₂ =>
        obtain ⟨rfl, g, tk2, c', rfl, R, le, kp⟩ := hr₂
        repeat (any_goals (first | assumption | wp_step))
        exact fin _ _ _ R le kp
end
end DL
end
section
namespace DL
open PySem PySem.Spec PyProof.Rows L2
section
variable {X : Cx} {p : Par} {k : Nat} {cb vb : Bool}
theorem nd_sub : ∀ {ks ws : List Int}, ks.Nodup → (∀ x ∈ ks, x ∈ ws) → ks.length ≤ ws.length
  | [], ws, _, _ => Nat.zero_le _
  | a :: r, ws, h, hs => by
    have h1 := List.nodup_cons.mp h
    have ha := hs a (.head _)
    have := nd_sub (ks := r) (ws := ws.erase a) h1.2 fun x hx => (List.mem_erase_of_ne (show x ≠ a by intro e; rw [e] at hx; exact h1.1 hx)).mpr (hs x (.tail _ hx))
    rw [List.length_erase_of_mem ha] at this
    have : 0 < ws.length := List.length_pos_of_mem ha
    simp only [List.length_cons]
    omega
theorem setR_few {w : World} {h : Heap} {a : Addr} {ns : List Int} {c : Nat} (R : SetR w h a (fun j => decide (j ∈ ns)) c) (le : c ≤ ns.length) (ok : setOk ns) : c ≤ 60 := by
  rcases ok with h | ⟨_, h⟩
  · omega
  · obtain ⟨o, es, ep, t, _, _, _, _, nd, mem, _, _, sz, _⟩ := R
    have q := nd_sub (ws := (List.range 60).map fun n : Nat => (n : Int)) nd fun x hx => by
      have hx2 := (mem x).mpr hx
      have := h x (of_decide_eq_true hx2)
      exact List.mem_map.mpr ⟨x.toNat, List.mem_range.mpr (by omega), by omega⟩
    rw [List.length_map, List.length_map, List.length_range, Array.length_toList] at q
    omega
/-- set(xs), a list or a tuple of ints -/
def rSetL (K : PySem.W.Frag) (w : World) : List V → Hp → VK → Prop := fun xs H Q => ∃ (l : Addr) (ns : List Int), xs = [.ref l] ∧ (SqL K H l (ns.map V.int) ∨ SqT K H l (ns.map V.int)) ∧ setOk ns ∧ ∀ q c, H q = none → c ≤ 60 → Q (.ref q) (upd H q (SetO w q (fun j => decide (j ∈ ns)) c))
theorem cr_setL (hc : X.calm = true) : CallR X (.type "set") (rSetL X.K X.w) := by
  intro pins s σ H xs us Q I r h
  obtain ⟨l, ns, rfl, hq, few, q⟩ := h
  have sb : ns.length + 1 < scanBound := by
    unfold scanBound
    rcases few with f | ⟨f, _⟩ <;> omega
  rw [Vals.ref1 r]
  rcases hq with hq | hq
  · obtain ⟨its, rv, pl, _⟩ := I.list hq
    refine set_ofL ns (I.ok.hd hc) pl.isList (by simpa using rv.ints) sb fun g tk c R le kp => ?_
    exact ⟨.ref _, _, I.laid (t' := tk) kp (Nat.le_refl _) (setO_new R), rfl, q _ c (I.hok.fresh (Nat.le_refl _)) (setR_few R le few)⟩
  · obtain ⟨its, rv, pl, _⟩ := I.tuple hq
    refine call_set_tupI ns (I.ok.hd hc) pl (by simpa using rv.ints) sb fun g tk c R le kp => ?_
    exact ⟨.ref _, _, I.laid (t' := tk) kp (Nat.le_refl _) (setO_new R), rfl, q _ c (I.hok.fresh (Nat.le_refl _)) (setR_few R le few)⟩
theorem pd_srtSet (S : SitB true vb X p k) {a : Expr} {m : XE} {p1 p2 q1 q2 : Pos} (hm : X.mg "sorted" = none) (hm2 : X.mg "set" = none) (ha : PD X p a m) (hg : Gl X "sorted" := by rfl) (hg2 : Gl X "set" := by rfl)
    (he : starEach [a] X.env = (false, eval a X.env) :: starEach [] X.env := by rfl) (hpl : (backTo q2 (starEach [] X.env)).any (·.1) = false := by rfl)
    (he2 : starEach [.Call (.Name "set" p2) [a] [] q2] X.env = (false, eval (.Call (.Name "set" p2) [a] [] q2) X.env) :: starEach [] X.env := by rfl) (hpl2 : (backTo q1 (starEach [] X.env)).any (·.1) = false := by rfl) :
    PD X p (.Call (.Name "sorted" p1) [.Call (.Name "set" p2) [a] [] q2] [] q1) (eSrtSet m) := by
  obtain ⟨ta, a1, a2⟩ := ha.ex
  have inner := pe_callTy (p := p2) (pos := q2) (cr_setL S.calm) hg2 hm2 (by decide +kernel) (pa_cons a1 pa_nil he) (by decide) (by decide) he hpl
  refine ⟨_, pe_callB (pos := q1) (cr_sortedSet S.calm) hg hm (by decide +kernel) (pa_cons inner pa_nil he2) (by decide) (by decide) he2 hpl2, fun B H σ E c P Q s re mm kk => ?_⟩
  refine a2 B H σ E _ _ _ s re mm fun d c1 v H1 m1 e1 s1 r1 => ?_
  have st1 := s.go e1 s1
  have fin : ∀ (l : Addr) (ns : List Int), v = .ref l → (SqL X.K H1 l (ns.map V.int) ∨ SqT X.K H1 l (ns.map V.int)) → (grd (setOk ns) (fun n P _ => ∀ ms : List Int, ms.Pairwise (· < ·) → (∀ k, k ∈ ms ↔ k ∈ ns) → P (PyData.list (ms.map PyData.int)) n) : W D) c1 P p.XP →
      rSetL X.K X.w [v] H1 fun x H2 => rSortedSet X.w [x] H2 Q := by
    intro l ns hv hq m2
    obtain ⟨few, m3⟩ := m2
    refine ⟨l, ns, by rw [hv], hq, few, fun q n hn hl => ?_⟩
    refine ⟨q, _, n, rfl, upd_same, by omega, fun ms o sr mem hl2 hn2 => ?_⟩
    have al1 : All H1 (upd H1 q (SetO X.w q (fun j => decide (j ∈ ns)) n)) := All.new hn
    have al2 := al1.trans (All.new hn2 (o := .lst (ms.map V.int)))
    refine kk _ _ _ _ (m3 ms sr fun k => by rw [mem k, decide_eq_true_eq]) (e1.trans al2.ev) (st1.all S.ok al2) ?_
    exact .lst upd_same (fun z => absurd hn2 ((al1.ext (B := fun _ => False)).dom _ (st1.trk _ z))) (Reps.of_ints ms)
  cases r1 with
  | @lst l xs ds hq nb t =>
    have m1' : (opSrtSet (PyData.list ds)) c1 P p.XP := m1
    unfold opSrtSet at m1'
    cases hi : ints? ds with
    | none =>
      simp only [hi] at m1'
      exact m1'.elim
    | some ns =>
      simp only [hi] at m1'
      have ex := t.ints hi
      subst ex
      exact fin l ns rfl (.inl (SqL.of hq)) m1'
  | @tup l xs ds hq t =>
    have m1' : (opSrtSet (PyData.tuple ds)) c1 P p.XP := m1
    unfold opSrtSet at m1'
    cases hi : ints? ds with
    | none =>
      simp only [hi] at m1'
      exact m1'.elim
    | some ns =>
      simp only [hi] at m1'
      have ex := t.ints hi
      subst ex
      exact fin l ns rfl (.inr hq) m1'
  | _ => exact m1.elim
/-- sorted(xs), pairs of an int and a tuple of ints -/
def rSrtPr (K : PySem.W.Frag) : List V → Hp → VK → Prop := fun xs H Q => ∃ (l : Addr) (B : Addr → Prop) (vs : List V) (ps : List (Int × List Int)), xs = [.ref l] ∧ SqL K H l vs ∧ Reps K B H vs (ps.map pairD) ∧ ps.length ≤ 100 ∧
  ∀ (qs : List (Int × List Int)) (ys : List V) (o : Addr), qs.Perm ps → qs.Pairwise (fun a b => a.1 ≤ b.1) → Reps K B H ys (qs.map pairD) → H o = none → Q (.ref o) (upd H o (.lst ys))
theorem plain_ints : ∀ ns : List Int, plainAll (ns.map PyData.int) = true
  | [] => rfl
  | n :: ns => by
    show (plain (.int n) && plainAll (ns.map PyData.int)) = true
    rw [plain_ints ns]
    rfl
theorem plain_pair (q : Int × List Int) : plain (pairD q) = true := by
  simp [pairD, plain, plainAll, plain_ints]
theorem each_reps {K : PySem.W.Frag} {B : Addr → Prop} {H : Hp} : ∀ {vs : List V} {us : List Value} {ps : List (Int × List Int)}, Vals vs us → Reps K B H vs (ps.map pairD) → PySem.W.EachIs (fun u q => ∃ x, RelV x u ∧ Rep K B H x (pairD q)) us ps
  | _, _, [], rv, rs => by
    have rs' : Reps K B H _ [] := rs
    cases rs'
    cases rv
    exact .nil
  | _, _, q :: ps, rv, rs => by
    have rs' : Reps K B H _ (pairD q :: ps.map pairD) := rs
    cases rs' with
    | cons r1 r2 =>
      cases rv with
      | cons v1 v2 => exact .cons ⟨_, v1, r1⟩ (each_reps v2 r2)
theorem reps_each {K : PySem.W.Frag} {B : Addr → Prop} {H : Hp} : ∀ {us : List Value} {ps : List (Int × List Int)}, PySem.W.EachIs (fun u q => ∃ x, RelV x u ∧ Rep K B H x (pairD q)) us ps → ∃ vs, Vals vs us ∧ Reps K B H vs (ps.map pairD)
  | _, _, .nil => ⟨[], .nil, .nil⟩
  | _, _, .cons ⟨x, r1, r2⟩ t => by
    obtain ⟨vs, v1, v2⟩ := reps_each t
    exact ⟨x :: vs, .cons r1 v1, .cons r2 v2⟩
theorem le_pair {a b : Int × List Int} (h : PySem.W.dataLe false pairD a b = true) : a.1 ≤ b.1 := by
  rw [PySem.W.dataLe_eq] at h
  have h' : (!PySem.W.dataLt (pairD b) (pairD a)) = true := h
  unfold pairD at h'
  rw [PySem.W.dataLt_pair (by simp [PySem.W.alike]) (by simp [PySem.W.alike, PySem.W.alike_ints]), PySem.W.dataLt_int] at h'
  by_cases e : b.1 = a.1
  · omega
  · have ne : ¬ PyData.eqv (.int b.1) (.int a.1) = true := by simpa [PyData.eqv] using e
    rw [if_neg ne] at h'
    simp at h'
    exact h'
theorem cr_srtPr {cb vb : Bool} (S : SitB cb vb X p k) : CallR X (.builtin "sorted") (rSrtPr X.K) := by
  intro pins s σ H xs us Q I r h
  obtain ⟨l, B, vs, ps, rfl, hq, rs, few, q⟩ := h
  rw [Vals.ref1 r]
  obtain ⟨its, rv, pl, hz⟩ := I.list hq
  have e := each_reps rv rs
  have er : PySem.W.EachIs (fun u q => ∃ as, Reads s.heap u (pairD q) as) its ps := e.mono fun u q ⟨x, r1, r2⟩ => by
    obtain ⟨as, h, _⟩ := rep_reads I (sm_none S.sm I) (plain_pair q) r2 r1
    exact ⟨as, h⟩
  have hu : ∀ q : Int × List Int, q ∈ ps → X.A.units + 2 + (pairD q).depth < cLine := fun q _ => by
    have hd : (pairD q).depth ≤ 2 := by
      have e := PySem.W.depth_ints q.2
      simp [pairD, PyData.depth, PyData.depthAll, e]
    have := S.un
    omega
  refine PySem.W.sorted_data (enc := pairD) pl.isList e er (PySem.W.AllAlike.of fun a b => ?_) (PySem.W.Sortable.tuples fun _ => ⟨_, _, rfl⟩) (by rw [sizeLine_eq]; omega) hu fun out hl eo => ?_
  · simp [pairD, PySem.W.alike, PySem.W.alikeAll, PySem.W.alike_ints]
  · obtain ⟨ys, v1, v2⟩ := reps_each eo
    obtain ⟨ep, he'⟩ := PyProof.Rows.sortedAll_at s.heap its out.toArray
    have hlen : ys.length ≤ sizeLine := by
      rw [v1.length, hl, sizeLine_eq]
      omega
    refine ⟨.ref _, upd H (s.heap.objs.size + 1) (.lst ys), I.laid (t' := s.toks) (fun _ _ => PyProof.Rows.sortedAll_old) (Nat.le_succ _) ⟨hlen, out, ep, v1, he'⟩, rfl, q _ _ _ (List.mergeSort_perm _ _) ?_ v2 (I.hok.fresh (Nat.le_succ _))⟩
    have T : PySem.W.TotalLe (PySem.W.dataLe false pairD) := PySem.W.sortLe_total (PyProof.Rows.listOrd itemOrd) false fun b => PySem.W.keyToks (pairD b)
    exact (PySem.W.sort_pairwise T ps).imp fun h => le_pair h
theorem pd_srt {cb vb : Bool} (S : SitB cb vb X p k) {a : Expr} {m : XE} {p1 q1 : Pos} (hm : X.mg "sorted" = none) (ha : PD X p a m) (hg : Gl X "sorted" := by rfl)
    (he : starEach [a] X.env = (false, eval a X.env) :: starEach [] X.env := by rfl) (hpl : (backTo q1 (starEach [] X.env)).any (·.1) = false := by rfl) : PD X p (.Call (.Name "sorted" p1) [a] [] q1) (eSrt m) := by
  obtain ⟨ta, a1, a2⟩ := ha.ex
  have both : CallR X (.builtin "sorted") (fun xs H Q => rSortedI X.K xs H Q ∨ rSrtPr X.K xs H Q) := by
    intro pins s σ H xs us Q I r h
    rcases h with h | h
    · exact cr_sortedI pins s σ H xs us Q I r h
    · exact cr_srtPr S pins s σ H xs us Q I r h
  refine ⟨_, pe_callB (pos := q1) both hg hm (by decide +kernel) (pa_cons a1 pa_nil he) (by decide) (by decide) he hpl, fun B H σ E c P Q s re mm kk => ?_⟩
  refine a2 B H σ E _ _ _ s re mm fun d c1 v H1 m1 e1 s1 r1 => ?_
  have st1 := s.go e1 s1
  cases r1 with
  | @lst l xs ds hq nb t =>
    have m1' : (opSrt (PyData.list ds)) c1 P p.XP := m1
    unfold opSrt at m1'
    cases hi : ints? ds with
    | none =>
      cases hp : pairs? ds with
      | none =>
        simp only [hi, hp] at m1'
        exact m1'.elim
      | some ps =>
        simp only [hi, hp] at m1'
        have ex := pairs?_eq hp
        subst ex
        obtain ⟨few, m3⟩ := m1'
        refine .inr ⟨l, bm p B c1, xs, ps, rfl, SqL.of hq, t, few, fun qs ys o pm sr rs hn => ?_⟩
        have al : All H1 (upd H1 o (.lst ys)) := All.new hn
        exact kk _ _ _ _ (m3 qs pm sr) (e1.trans al.ev) (st1.all S.ok al) (.lst upd_same (fun z => absurd hn (st1.trk _ z)) (rs.tr (st1.up al.ev)))
    | some ns =>
      simp only [hi] at m1'
      have ex := t.ints hi
      subst ex
      refine .inl ⟨l, ns, rfl, SqL.of hq, fun ms o pm sr hn => ?_⟩
      have al : All H1 (upd H1 o (.lst (ms.map V.int))) := All.new hn
      exact kk _ _ _ _ (m1' ms pm sr) (e1.trans al.ev) (st1.all S.ok al) (.lst upd_same (fun z => absurd hn (st1.trk _ z)) (Reps.of_ints ms))
  | _ => exact m1.elim
end
end DL
end
section
namespace DL
open PySem PySem.Spec PyProof.Rows L2
section
variable {X : Cx} {p : Par} {k : Nat} {vb : Bool}
/-- range of three, as an argument -/
theorem range_of3 {a b d : Expr} {ta : TA} {pn pos : Pos} (hg : Gl X "range") (hm : X.mg "range" = none) (ha : PA X [a, b, d] ta)
    (hs : starEach [a, b, d] X.env = (false, eval a X.env) :: starEach [b, d] X.env) (hpl : (backTo pos (starEach [b, d] X.env)).any (·.1) = false)
    {pins : List (Addr × Obj)} {s : Shared} {σ : L2.St} {H : Hp} {Y : Int → Int → Int → Nat → Hp → Prop} (I : Inv X pins σ H s)
    (h : ta σ H fun vs H1 => ∃ (i j c : Int) (n : Nat), vs = [.int i, .int j, .int c] ∧ RgC i j c n ∧ Y i j c n H1) :
    wpAny (model X.prog X.w) X.A (eval (.Call (.Name "range" pn) [a, b, d] [] pos) X.env) (fun x s' => ∃ r i j c n t u v H', x = .ref r ∧ IsRange s'.heap r i j c t u v ∧ Inv X pins σ H' s' ∧ RgC i j c n ∧ Y i j c n H') X.xe s := by
  refine Call_ (ld_blt I hg hm boot_range (PyProof.Rows.callWith_type1 (thn (ha.run pos pins s σ H _ I h) fun us s1 ⟨vs, H1, I1, r1, q1⟩ => ?_) hs hpl))
  obtain ⟨i, j, c, n, rfl, hc, y⟩ := q1
  cases r1 with
  | cons v1 q1 =>
    cases q1 with
    | cons v2 q2 =>
      cases q2 with
      | cons v3 q3 =>
        cases q3
        obtain ⟨t1, rfl⟩ := v1
        obtain ⟨t2, rfl⟩ := v2
        obtain ⟨t3, rfl⟩ := v3
        exact call_range_3 hc.1 ⟨_, i, j, c, n, _, _, _, H1, rfl, IsRange.new .., I1.kept fun b o e => Heap.get?_push_of_some _ e, hc, y⟩ (.inl (PyProof.noPylong_small hc.2.1))
/-- i, i + c, .. -/
def stepV (i c : Int) (n : Nat) : List V := (List.range n).map fun q => V.int (i + (q : Nat) * c)
def tTupRg3 (ta : TA) : TE := fun σ H Q => ta σ H fun vs H1 => ∃ (i j c : Int) (n : Nat), vs = [.int i, .int j, .int c] ∧ RgC i j c n ∧ n ≤ 1000000 ∧ ∀ q, H1 q = none → Q (.ref q) (upd H1 q (.tup (stepV i c n)))
theorem pe_tupRg3 {a b d : Expr} {ta : TA} {pn p1 pos p2 : Pos} (calm : X.calm = true) (hg : Gl X "range") (hm : X.mg "range" = none) (hg2 : Gl X "tuple") (hm2 : X.mg "tuple" = none) (ha : PA X [a, b, d] ta)
    (hs : starEach [a, b, d] X.env = (false, eval a X.env) :: starEach [b, d] X.env) (hpl : (backTo pos (starEach [b, d] X.env)).any (·.1) = false)
    (hs2 : starEach [.Call (.Name "range" pn) [a, b, d] [] pos] X.env = (false, eval (.Call (.Name "range" pn) [a, b, d] [] pos) X.env) :: starEach [] X.env) :
    PE X (.Call (.Name "tuple" p1) [.Call (.Name "range" pn) [a, b, d] [] pos] [] p2) (tTupRg3 ta) := by
  constructor
  intro pins s σ H Q I h
  have inner := range_of3 (pn := pn) (Y := fun i j c n H1 => n ≤ 1000000 ∧ ∀ q, H1 q = none → Q (.ref q) (upd H1 q (.tup (stepV i c n)))) hg hm ha hs hpl I h
  refine Call_ (ld_blt I hg2 hm2 boot_tuple (PyProof.Rows.callWith_type1 (args_cons (thn inner fun x s1 ⟨r, i, j, c, n, t, u, v, H1, ex, hr, I1, hc, few, q⟩ => args_nil ?_) hs2) hs2))
  subst ex
  obtain ⟨c0, c1, c2, c3⟩ := hc
  refine call_tuple_range (n := n) (I1.ok.hd calm) hr c2 c3 (by omega) fun h' tk acc hk hi => ?_
  have J : Inv X pins σ H1 { s1 with heap := h', toks := tk } := I1.kept hk
  have el : acc.toList.length = n := by rw [Array.length_toList]; exact hi.1
  have vv : Vals (stepV i c n) acc.toList := by
    unfold stepV
    rw [← el]
    refine vals_of_get acc.toList _ fun m u hm => ?_
    obtain ⟨tt, rfl⟩ := hi.2 m u (by rw [← hm, Array.getElem?_toList])
    exact ⟨tt, rfl⟩
  refine ⟨.ref h'.objs.size, upd H1 h'.objs.size (.tup (stepV i c n)), J.laid (t' := tk) (fun b o e => Heap.get?_push_of_some _ e) (Nat.le_refl _) (show ObjOk X.prog X.w _ _ _ (.tup (stepV i c n)) from ⟨?_, acc.toList, vv, ?_⟩), rfl, q _ (J.hok.fresh (Nat.le_refl _))⟩
  · rw [vv.length, el, sizeLine_eq]
    omega
  · rw [Array.toArray_toList]
    exact IsTup.new _ _
theorem reps_step {K : PySem.W.Frag} {B : Addr → Prop} {H : Hp} (a b c : Int) : Reps K B H (stepV a c (rngC a b c).length) (rngC a b c) := by
  have e : (rngC a b c).length = rngN a b c := by unfold rngC; rw [List.length_map, List.length_range]
  rw [e]
  unfold stepV rngC
  generalize List.range (rngN a b c) = l
  induction l with
  | nil => exact .nil
  | cons x l ih => exact .cons (.int _) ih
theorem pd_tupRg3 (S : SitB true vb X p k) {a b d : Expr} {m n o : XE} {pn p1 pos p2 : Pos} (ha : PD X p a m) (hb : PD X p b n) (hd : PD X p d o) (hm : X.mg "range" = none) (hm2 : X.mg "tuple" = none) (hg : Gl X "range" := by rfl) (hg2 : Gl X "tuple" := by rfl)
    (hs : starEach [a, b, d] X.env = [(false, eval a X.env), (false, eval b X.env), (false, eval d X.env)] := by rfl) (hs2 : starEach [b, d] X.env = [(false, eval b X.env), (false, eval d X.env)] := by rfl) (hs3 : starEach [d] X.env = [(false, eval d X.env)] := by rfl)
    (hpl : (backTo pos (starEach [b, d] X.env)).any (·.1) = false := by rfl)
    (hs4 : starEach [.Call (.Name "range" pn) [a, b, d] [] pos] X.env = (false, eval (.Call (.Name "range" pn) [a, b, d] [] pos) X.env) :: starEach [] X.env := by rfl) :
    PD X p (.Call (.Name "tuple" p1) [.Call (.Name "range" pn) [a, b, d] [] pos] [] p2) (eTupR (DL.iRng3 m n o)) := by
  obtain ⟨ta, a1, a2⟩ := ha.ex
  obtain ⟨tb, b1, b2⟩ := hb.ex
  obtain ⟨td, d1, d2⟩ := hd.ex
  refine ⟨_, pe_tupRg3 S.calm hg hm hg2 hm2 (pa_cons a1 (pa_cons b1 (pa_cons d1 pa_nil (by rw [hs3] <;> rfl)) (by rw [hs2, hs3] <;> rfl)) (by rw [hs, hs2] <;> rfl)) (by rw [hs, hs2] <;> rfl) hpl hs4, fun B H σ E c P R st r mm kk => ?_⟩
  refine a2 B H σ E _ _ _ st r mm fun x1 c1 v H1 m1 e1 s1 r1 => ?_
  have st1 := st.go e1 s1
  have rr1 := r.go st e1
  refine b2 B H1 σ E _ _ _ st1 rr1 m1 fun x2 c2 v2 H2 m2 e2 s2 r2 => ?_
  have st2 := st1.go e2 s2
  refine d2 B H2 σ E _ _ _ st2 (rr1.go st1 e2) m2 fun x3 c3 v3 H3 m3 e3 s3 r3 => ?_
  have st3 := st2.go e3 s3
  cases r1 with
  | int i =>
    cases r2 with
    | int j =>
      cases r3 with
      | int l =>
        obtain ⟨hok, sml, m3⟩ := m3
        refine ⟨i, j, l, _, rfl, rngC_size hok, ?_, fun q hq => ?_⟩
        · unfold small at sml
          omega
        · have e := (e1.trans e2).trans e3
          exact kk _ c3 _ _ m3 (e.trans (All.new hq).ev) (st3.all S.ok (All.new hq)) (rep_tup hq (reps_step i j l))
      | _ => exact m3.elim
    | _ => exact m3.elim
  | _ => exact m3.elim
end
end DL
end
section
namespace Wk38
open PySem PySem.Spec PyProof.Rows DL
def top (i : Nat) : Stmt := PySem.Challenge.pw_wrapwidths_k38_rings_read_back.main.body.getD i (.Pass ⟨0, 0, 0, 0⟩)
abbrev s_bounds_of : Stmt := top 2
abbrev s_relax : Stmt := top 3
abbrev s_ring_before : Stmt := top 4
abbrev s_read_back : Stmt := top 5
abbrev s__law_stream : Stmt := top 7
abbrev s__law_draw : Stmt := top 8
abbrev s__law_is_int : Stmt := top 9
abbrev s__law_row_drawn : Stmt := top 10
abbrev s__law_width_drawn : Stmt := top 11
abbrev s__law_greedy : Stmt := top 12
abbrev s__law_seen_at : Stmt := top 13
abbrev s__law_sightings : Stmt := top 14
abbrev s__law_agrees : Stmt := top 15
abbrev s__law_bounds : Stmt := top 16
abbrev s__law_is_ring : Stmt := top 17
abbrev s__law_is_row : Stmt := top 18
abbrev s__law_right : Stmt := top 19
abbrev s_law : Stmt := top 20
theorem sc_bounds_of : L2.FnScope ["many", "sightings", "found", "place", "width", "starts", "start", "following"] ["many", "sightings"] (L2.defScope s_bounds_of) := ⟨rfl, rfl, rfl, by decide +kernel, rfl, by decide +kernel, by decide +kernel⟩
theorem sc_relax : L2.FnScope ["bounds", "columns", "givers", "changed", "bound", "first", "second", "most"] ["bounds", "columns", "givers"] (L2.defScope s_relax) := ⟨rfl, rfl, rfl, by decide +kernel, rfl, by decide +kernel, by decide +kernel⟩
theorem sc_ring_before : L2.FnScope ["givers", "place", "turn", "ring"] ["givers", "place"] (L2.defScope s_ring_before) := ⟨rfl, rfl, rfl, by decide +kernel, rfl, by decide +kernel, by decide +kernel⟩
theorem sc_read_back : L2.FnScope ["many", "sightings", "bounds", "columns", "givers", "changed", "turn", "place"] ["many", "sightings"] (L2.defScope s_read_back) := ⟨rfl, rfl, rfl, by decide +kernel, rfl, by decide +kernel, by decide +kernel⟩
theorem sc__law_stream : L2.FnScope ["_law_script", "_law_cells", "_law_cell"] ["_law_script"] (L2.defScope s__law_stream) := ⟨rfl, rfl, rfl, by decide +kernel, rfl, by decide +kernel, by decide +kernel⟩
theorem sc__law_draw : L2.FnScope ["_law_stream_here", "_law_many", "_law_rest", "_law_turn", "_law_cell", "_law_mixed"] ["_law_stream_here", "_law_many"] (L2.defScope s__law_draw) := ⟨rfl, rfl, rfl, by decide +kernel, rfl, by decide +kernel, by decide +kernel⟩
theorem sc__law_is_int : L2.FnScope ["_law_value", "_law_low", "_law_high"] ["_law_value", "_law_low", "_law_high"] (L2.defScope s__law_is_int) := ⟨rfl, rfl, rfl, by decide +kernel, rfl, by decide +kernel, by decide +kernel⟩
theorem sc__law_row_drawn : L2.FnScope ["_law_stream_here", "_law_most", "_law_size", "_law_way", "_law_top", "_law_found", "_law_part", "_law_k"] ["_law_stream_here", "_law_most"] (L2.defScope s__law_row_drawn) := ⟨rfl, rfl, rfl, by decide +kernel, rfl, by decide +kernel, by decide +kernel⟩
theorem sc__law_width_drawn : L2.FnScope ["_law_stream_here", "_law_row", "_law_first", "_law_last", "_law_wide", "_law_some"] ["_law_stream_here", "_law_row"] (L2.defScope s__law_width_drawn) := ⟨rfl, rfl, rfl, by decide +kernel, rfl, by decide +kernel, by decide +kernel⟩
theorem sc__law_greedy : L2.FnScope ["_law_row", "_law_width", "_law_starts", "_law_used", "_law_place"] ["_law_row", "_law_width"] (L2.defScope s__law_greedy) := ⟨rfl, rfl, rfl, by decide +kernel, rfl, by decide +kernel, by decide +kernel⟩
theorem sc__law_seen_at : L2.FnScope ["_law_stream_here", "_law_row", "_law_wide", "_law_k", "_law_width"] ["_law_stream_here", "_law_row"] (L2.defScope s__law_seen_at) := ⟨rfl, rfl, rfl, by decide +kernel, rfl, by decide +kernel, by decide +kernel⟩
theorem sc__law_sightings : L2.FnScope ["_law_stream_here", "_law_most", "_law_row", "_law_way", "_law_seen", "_law_many", "_law_spot", "_law_width", "_law_starts", "_law_place", "_law_rest", "_law_start", "_law_one"] ["_law_stream_here", "_law_most"] (L2.defScope s__law_sightings) := ⟨rfl, rfl, rfl, by decide +kernel, rfl, by decide +kernel, by decide +kernel⟩
theorem sc__law_agrees : L2.FnScope ["_law_row", "_law_sightings_here", "_law_wrong", "_law_width", "_law_starts"] ["_law_row", "_law_sightings_here"] (L2.defScope s__law_agrees) := ⟨rfl, rfl, rfl, by decide +kernel, rfl, by decide +kernel, by decide +kernel⟩
theorem sc__law_bounds : L2.FnScope ["_law_many", "_law_sightings_here", "_law_found", "_law_place", "_law_width", "_law_starts", "_law_ends", "_law_start", "_law_end"] ["_law_many", "_law_sightings_here"] (L2.defScope s__law_bounds) := ⟨rfl, rfl, rfl, by decide +kernel, rfl, by decide +kernel, by decide +kernel⟩
theorem sc__law_is_ring : L2.FnScope ["_law_many", "_law_sightings_here", "_law_value", "_law_known", "_law_bound", "_law_k"] ["_law_many", "_law_sightings_here", "_law_value"] (L2.defScope s__law_is_ring) := ⟨rfl, rfl, rfl, by decide +kernel, rfl, by decide +kernel, by decide +kernel⟩
theorem sc__law_is_row : L2.FnScope ["_law_value", "_law_item"] ["_law_value"] (L2.defScope s__law_is_row) := ⟨rfl, rfl, rfl, by decide +kernel, rfl, by decide +kernel, by decide +kernel⟩
theorem sc__law_right : L2.FnScope ["_law_many", "_law_seen", "_law_shown", "_law_found", "_law_is_right"] ["_law_many", "_law_seen"] (L2.defScope s__law_right) := ⟨rfl, rfl, rfl, by decide +kernel, rfl, by decide +kernel, by decide +kernel⟩
theorem sc_law : L2.FnScope ["_law_script", "_law_stream_here", "_law_turn", "_law_many", "_law_seen", "_law_told"] ["_law_script"] (L2.defScope s_law) := ⟨rfl, rfl, rfl, by decide +kernel, rfl, by decide +kernel, by decide +kernel⟩
structure Txt (K : PySem.W.Frag) (mg : Str → Option Value) where
  fd_bounds_of : FuncData
  F_bounds_of : FnP K "bounds_of" "bounds_of" s_bounds_of (He.ga K "bounds_of") fd_bounds_of
  D_bounds_of : Def K mg "bounds_of" (He.ga K "bounds_of") fd_bounds_of ["many", "sightings"]
  fd_relax : FuncData
  F_relax : FnP K "relax" "relax" s_relax (He.ga K "relax") fd_relax
  D_relax : Def K mg "relax" (He.ga K "relax") fd_relax ["bounds", "columns", "givers"]
  fd_ring_before : FuncData
  F_ring_before : FnP K "ring_before" "ring_before" s_ring_before (He.ga K "ring_before") fd_ring_before
  D_ring_before : Def K mg "ring_before" (He.ga K "ring_before") fd_ring_before ["givers", "place"]
  fd_read_back : FuncData
  F_read_back : FnP K "read_back" "read_back" s_read_back (He.ga K "read_back") fd_read_back
  D_read_back : Def K mg "read_back" (He.ga K "read_back") fd_read_back ["many", "sightings"]
  fd__law_stream : FuncData
  F__law_stream : FnP K "_law_stream" "_law_stream" s__law_stream (He.ga K "_law_stream") fd__law_stream
  D__law_stream : Def K mg "_law_stream" (He.ga K "_law_stream") fd__law_stream ["_law_script"]
  fd__law_draw : FuncData
  F__law_draw : FnP K "_law_draw" "_law_draw" s__law_draw (He.ga K "_law_draw") fd__law_draw
  D__law_draw : Def K mg "_law_draw" (He.ga K "_law_draw") fd__law_draw ["_law_stream_here", "_law_many"]
  fd__law_is_int : FuncData
  F__law_is_int : FnP K "_law_is_int" "_law_is_int" s__law_is_int (He.ga K "_law_is_int") fd__law_is_int
  D__law_is_int : Def K mg "_law_is_int" (He.ga K "_law_is_int") fd__law_is_int ["_law_value", "_law_low", "_law_high"]
  fd__law_row_drawn : FuncData
  F__law_row_drawn : FnP K "_law_row_drawn" "_law_row_drawn" s__law_row_drawn (He.ga K "_law_row_drawn") fd__law_row_drawn
  D__law_row_drawn : Def K mg "_law_row_drawn" (He.ga K "_law_row_drawn") fd__law_row_drawn ["_law_stream_here", "_law_most"]
  fd__law_width_drawn : FuncData
  F__law_width_drawn : FnP K "_law_width_drawn" "_law_width_drawn" s__law_width_drawn (He.ga K "_law_width_drawn") fd__law_width_drawn
  D__law_width_drawn : Def K mg "_law_width_drawn" (He.ga K "_law_width_drawn") fd__law_width_drawn ["_law_stream_here", "_law_row"]
  fd__law_greedy : FuncData
  F__law_greedy : FnP K "_law_greedy" "_law_greedy" s__law_greedy (He.ga K "_law_greedy") fd__law_greedy
  D__law_greedy : Def K mg "_law_greedy" (He.ga K "_law_greedy") fd__law_greedy ["_law_row", "_law_width"]
  fd__law_seen_at : FuncData
  F__law_seen_at : FnP K "_law_seen_at" "_law_seen_at" s__law_seen_at (He.ga K "_law_seen_at") fd__law_seen_at
  D__law_seen_at : Def K mg "_law_seen_at" (He.ga K "_law_seen_at") fd__law_seen_at ["_law_stream_here", "_law_row"]
  fd__law_sightings : FuncData
  F__law_sightings : FnP K "_law_sightings" "_law_sightings" s__law_sightings (He.ga K "_law_sightings") fd__law_sightings
  D__law_sightings : Def K mg "_law_sightings" (He.ga K "_law_sightings") fd__law_sightings ["_law_stream_here", "_law_most"]
  fd__law_agrees : FuncData
  F__law_agrees : FnP K "_law_agrees" "_law_agrees" s__law_agrees (He.ga K "_law_agrees") fd__law_agrees
  D__law_agrees : Def K mg "_law_agrees" (He.ga K "_law_agrees") fd__law_agrees ["_law_row", "_law_sightings_here"]
  fd__law_bounds : FuncData
  F__law_bounds : FnP K "_law_bounds" "_law_bounds" s__law_bounds (He.ga K "_law_bounds") fd__law_bounds
  D__law_bounds : Def K mg "_law_bounds" (He.ga K "_law_bounds") fd__law_bounds ["_law_many", "_law_sightings_here"]
  fd__law_is_ring : FuncData
  F__law_is_ring : FnP K "_law_is_ring" "_law_is_ring" s__law_is_ring (He.ga K "_law_is_ring") fd__law_is_ring
  D__law_is_ring : Def K mg "_law_is_ring" (He.ga K "_law_is_ring") fd__law_is_ring ["_law_many", "_law_sightings_here", "_law_value"]
  fd__law_is_row : FuncData
  F__law_is_row : FnP K "_law_is_row" "_law_is_row" s__law_is_row (He.ga K "_law_is_row") fd__law_is_row
  D__law_is_row : Def K mg "_law_is_row" (He.ga K "_law_is_row") fd__law_is_row ["_law_value"]
  fd__law_right : FuncData
  F__law_right : FnP K "_law_right" "_law_right" s__law_right (He.ga K "_law_right") fd__law_right
  D__law_right : Def K mg "_law_right" (He.ga K "_law_right") fd__law_right ["_law_many", "_law_seen"]
  fd_law : FuncData
  F_law : FnP K "law" "law" s_law (He.ga K "law") fd_law
  D_law : Def K mg "law" (He.ga K "law") fd_law ["_law_script"]
  g_abs : mg "abs" = none
  g_bool : mg "bool" = none
  g_int : mg "int" = none
  g_isinstance : mg "isinstance" = none
  g_len : mg "len" = none
  g_list : mg "list" = none
  g_max : mg "max" = none
  g_min : mg "min" = none
  g_range : mg "range" = none
  g_repr : mg "repr" = none
  g_set : mg "set" = none
  g_sorted : mg "sorted" = none
  g_str : mg "str" = none
  g_sum : mg "sum" = none
  g_tuple : mg "tuple" = none
  g_zip : mg "zip" = none
  g_MAX_LENGTH : ∃ t, mg "MAX_LENGTH" = some (.int (60) t)
section
variable {P : Program} {w : World} {K : PySem.W.Frag} {mg : Str → Option Value} {base : Heap}
theorem Txt.ok_bounds_of (T : Txt K mg) (sm : HasSm base) : FnG true P w K mg base 1 (He.ga K "bounds_of") T.fd_bounds_of ["many", "sightings"] (spF K mg w_bounds_of_0) :=
  fn_pure sm T.F_bounds_of sc_bounds_of (by decide) fun cdv A outer s H E p S Z hp => ssd_cons (sd_own S (i := 2) rfl (Or.inl rfl) (pf_lst S (pda_nil)))
    (ssd_cons (sd_for S (t := .nm 3) (pi_rng1D (pd_var 0) T.g_range) (L2.pg_name (i := 3) S.nd rfl (Or.inl rfl)) (ssd_one (sd_ext S (i := 2) rfl (Or.inl rfl) (pd_lst S (pda_cons (pd_tup S (pda_cons (pd_var 3) (pda_cons (pd_bin S .add (pd_var 3) (pd_int)) (pda_cons (pd_bin S .add (pd_glob T.g_MAX_LENGTH) (pd_int)) (pda_nil))))) (pda_cons (pd_tup S (pda_cons (pd_bin S .add (pd_var 3) (pd_int)) (pda_cons (pd_var 3) (pda_cons (pd_neg S (pd_int)) (pda_nil))))) (pda_nil)))))))
    (ssd_cons (sd_for S (t := .tp [4, 5]) (pi_seq (pd_var 1)) (pg_tl S.calm (L2.pgs_cons (L2.pg_name (i := 4) S.nd rfl (Or.inr rfl)) (L2.pgs_cons (L2.pg_name (i := 5) S.nd rfl (Or.inl rfl)) (L2.pgs_nil)))) (ssd_cons (sd_ext S (i := 2) rfl (Or.inl rfl) (PDF.pd (pf_comp S (t := .nm 3) [("place", 3)] (pi_rng1D (pd_var 0) T.g_range) (L2.blkOk_by (N := ["many", "sightings", "found", "place", "width", "starts", "start", "following"]) (sc := L2.defScope s_bounds_of) (by decide +kernel)) (by decide) (fun _ _ _ _ _ => L2.pg_name (i := 3) S.nd rfl (Or.inl rfl)) (fun _ _ _ _ _ S => pdts_nil) (fun _ _ _ _ _ S => pd_tup S (pda_cons (pd_var 3) (pda_cons (pd_bin S .add (pd_var 3) (pd_int)) (pda_cons (pd_bin S .add (pd_var 4) (pd_int)) (pda_nil))))))))
    (ssd_one (sd_for S (t := .tp [6, 7]) (pi_zipD S (pd_var 5) (pd_tup S (pda_star (pd_cut S (pd_var 5) (pdo_some (pd_int)) (pdo_none)) (pda_cons (pd_var 0) (pda_nil)))) T.g_zip) (pg_tl S.calm (L2.pgs_cons (L2.pg_name (i := 6) S.nd rfl (Or.inl rfl)) (L2.pgs_cons (L2.pg_name (i := 7) S.nd rfl (Or.inl rfl)) (L2.pgs_nil)))) (ssd_cons (sd_app S 2 (pd_tup S (pda_cons (pd_var 6) (pda_cons (pd_var 7) (pda_cons (pd_bin S .add (pd_var 4) (pd_int)) (pda_nil))))) (fun h => L2.pe_bm PySem.F.plainAttrs_list PySem.F.slot_list_append PySem.F.type_list_append L2.mt_append (L2.pv 2) (L2.pa_cons h L2.pa_nil)))
    (ssd_one (sd_if (pt_cmpD S .lt (pd_var 7) (pd_var 0)) (ssd_one (sd_app S 2 (pd_tup S (pda_cons (pd_bin S .add (pd_var 7) (pd_int)) (pda_cons (pd_var 6) (pda_cons (pd_bin S .sub (pd_neg S (pd_int)) (pd_var 4)) (pda_nil))))) (fun h => L2.pe_bm PySem.F.plainAttrs_list PySem.F.slot_list_append PySem.F.type_list_append L2.mt_append (L2.pv 2) (L2.pa_cons h L2.pa_nil)))) (ssd_nil))))))))
    (ssd_one (sd_rel S 2 (sd_ret (pd_var 2))))))
theorem Txt.ok_relax (T : Txt K mg) (sm : HasSm base) : FnG true P w K mg base 1 (He.ga K "relax") T.fd_relax ["bounds", "columns", "givers"] (spM K w_relax_0) :=
  fn_mut sm T.F_relax sc_relax (by decide) rfl (fun _ _ _ _ _ _ => L2.pv 3) (fun cdv A outer s H E p S => sd_set S (i := 3) rfl (Or.inl rfl) (pd_non)) (fun cdv A outer s H E p S => sd_for S (t := .nm 4) (pi_seq (pd_var 0)) (L2.pg_name (i := 4) S.nd rfl (Or.inl rfl)) (ssd_cons (sd_put S (t := .tp [5, 6, 7]) (pg_tl S.calm (L2.pgs_cons (L2.pg_name (i := 5) S.nd rfl (Or.inl rfl)) (L2.pgs_cons (L2.pg_name (i := 6) S.nd rfl (Or.inl rfl)) (L2.pgs_cons (L2.pg_name (i := 7) S.nd rfl (Or.inl rfl)) (L2.pgs_nil))))) (pd_var 4))
    (ssd_one (sd_if (pt_bor S 1 (pt_cmpD S .lt (pd_bin S .add (pd_ix S (pd_var 1) (pd_var 5)) (pd_var 7)) (pd_ix S (pd_var 1) (pd_var 6)))) (ssd_cons (sd_setI S 1 (L2.pg_sub (L2.pv 1) (PD.pe (pd_var 6)) L2.set_list) (pd_bor S 1 (pd_bin S .add (pd_ix S (pd_var 1) (pd_var 5)) (pd_var 7))))
    (ssd_cons (sd_setI S 2 (L2.pg_sub (L2.pv 2) (PD.pe (pd_var 6)) L2.set_list) (pd_var 4))
    (ssd_one (sd_set S (i := 3) rfl (Or.inl rfl) (pd_var 6))))) (ssd_nil)))))
theorem Txt.ok_ring_before (T : Txt K mg) (sm : HasSm base) : FnG true P w K mg base 1 (He.ga K "ring_before") T.fd_ring_before ["givers", "place"] (spF K mg w_ring_before_0) :=
  fn_pure sm T.F_ring_before sc_ring_before (by decide) fun cdv A outer s H E p S Z hp => ssd_cons (sd_for S (t := .nm 2) (pi_rng1D (pd_call1 S c_len T.g_len (pd_var 0)) T.g_range) (L2.pg_name (i := 2) S.nd rfl (Or.inl rfl)) (ssd_one (sd_set S (i := 1) rfl (Or.inl rfl) (pd_ix S (pd_ix S (pd_var 0) (pd_var 1)) (pd_int)))))
    (ssd_cons (sd_set S (i := 3) rfl (Or.inl rfl) (pd_lst S (pda_cons (pd_ix S (pd_var 0) (pd_var 1)) (pda_nil))))
    (ssd_cons (sd_while S (pt_cmpD S .ne (pd_ix S (pd_ix S (pd_var 3) (pd_int)) (pd_int)) (pd_var 1)) (ssd_one (sd_set S (i := 3) rfl (Or.inl rfl) (pd_lst S (pda_cons (pd_ix S (pd_var 0) (pd_ix S (pd_ix S (pd_var 3) (pd_int)) (pd_int))) (pda_star (pd_var 3) (pda_nil)))))))
    (ssd_one (sd_ret (pd_callT1 S c_tuple T.g_tuple (pd_var 3))))))
theorem Txt.ok__law_stream (T : Txt K mg) (sm : HasSm base) : FnG true P w K mg base 1 (He.ga K "_law_stream") T.fd__law_stream ["_law_script"] (spMake K) :=
  fn_stream sm T.F__law_stream sc__law_stream rfl fun cdv A outer s H E p S =>
    ⟨_, _, _, fun t1 te1 te2 h1 h2 h3 => L2.pss_cons h1 (L2.pss_one (L2.ps_ret (L2.pe_lst (L2.pa_cons h2 (L2.pa_cons h3 (L2.pa_cons L2.pe_int L2.pa_nil)))))),
      sd_comp S (i := 1) (t := .nm 2) [("_law_cell", 2)] rfl rfl (L2.sw_true rfl rfl rfl (by decide +kernel)) (pi_scr 0 (L2.pv 0)) (L2.blkOk_by (N := ["_law_script", "_law_cells", "_law_cell"]) (sc := L2.defScope s__law_stream) (by decide +kernel)) (by decide) (fun _ _ _ _ _ => L2.pg_name (i := 2) S.nd rfl (Or.inl rfl)) (fun _ _ _ _ _ S => pdts_nil) (fun _ _ _ _ _ S => pd_call1 S c_abs T.g_abs (pd_var 2)),
      pf_comp S (t := .nm 2) [("_law_cell", 2)] (pi_lstD (pd_var 1)) (L2.blkOk_by (N := ["_law_script", "_law_cells", "_law_cell"]) (sc := L2.defScope s__law_stream) (by decide +kernel)) (by decide) (fun _ _ _ _ _ => L2.pg_name (i := 2) S.nd rfl (Or.inl rfl)) (fun _ _ _ _ _ S => pdts_one (pt_cmpD S .ge (pd_var 2) (pd_bin S .pow pd_int pd_int))) (fun _ _ _ _ _ S => pd_var 2),
      pd_if (pt_cmpD S .ne (pd_var 1) (pd_lst S pda_nil)) (pd_var 1) (pd_lst S (pda_cons pd_int pda_nil))⟩
theorem Txt.ok__law_draw (T : Txt K mg) (sm : HasSm base) : FnG true P w K mg base 1 (He.ga K "_law_draw") T.fd__law_draw ["_law_stream_here", "_law_many"] (spS K mg fDraw) :=
  fn_draw sm T.F__law_draw sc__law_draw rfl fun cdv A outer s H E p S =>
    L2.pss_cons (L2.ps_while S.po (L2.pt_cmpR (op_cmpD S.un .ne) (L2.pe_ix L2.ix_list (L2.pv 0) L2.pe_int (fun _ _ => rfl)) (L2.pe_lst L2.pa_nil) (L2.nomark _))
      (L2.pss_cons (L2.ps_set (i := 2) S.nd rfl (Or.inl rfl) (L2.pe_ix ix_D (L2.pe_ix L2.ix_list (L2.pv 0) L2.pe_int (fun _ _ => rfl)) L2.pe_int (fun _ _ => rfl)))
        (L2.pss_cons (L2.ps_if (L2.pt_cmpR (op_cmpD S.un .gt) (L2.pv 2) L2.pe_int (L2.nomark _))
            (L2.pss_cons (L2.ps_asg (L2.pe_op (op_binD .fdiv) (L2.pv 2) (L2.pv 1)) (L2.pg_sub (L2.pe_ix L2.ix_list (L2.pv 0) L2.pe_int (fun _ _ => rfl)) L2.pe_int L2.set_list)) (L2.pss_one (L2.ps_ret (L2.pe_op (op_binD .mod) (L2.pv 2) (L2.pv 1))))) L2.pss_nil)
          (L2.pss_one (L2.ps_expr (L2.pe_bm PySem.F.plainAttrs_list PySem.F.slot_list_pop PySem.F.type_list_pop L2.mt_popAt (L2.pe_ix L2.ix_list (L2.pv 0) L2.pe_int (fun _ _ => rfl)) (L2.pa_cons L2.pe_int L2.pa_nil)))))))
    (L2.pss_cons (L2.ps_set (i := 3) S.nd rfl (Or.inl rfl) (L2.pe_op (op_binD .add) (L2.pe_ix L2.ix_list (L2.pv 0) L2.pe_int (fun _ _ => rfl)) L2.pe_int))
    (L2.pss_cons (L2.ps_asg (L2.pv 3) (L2.pg_sub (L2.pv 0) L2.pe_int L2.set_list))
    (L2.pss_cons (L2.ps_set (i := 4) S.nd rfl (Or.inl rfl) (L2.pe_op (op_binD .mod) (L2.pe_ix ix_D (L2.pe_ix L2.ix_list (L2.pv 0) L2.pe_int (fun _ _ => rfl)) (L2.pe_op (op_binD .mod) (L2.pv 3) (L2.pe_callB c_len rfl T.g_len (by decide +kernel) (L2.pa_cons (L2.pe_ix L2.ix_list (L2.pv 0) L2.pe_int (fun _ _ => rfl)) L2.pa_nil))) (fun _ _ => rfl)) L2.pe_int))
    (L2.pss_cons (L2.ps_set (i := 5) S.nd rfl (Or.inl rfl) (L2.pe_op (op_binD .mod) (L2.pe_op (op_binD .add) (L2.pe_op (op_binD .add) (L2.pe_op (op_binD .mul) (L2.pv 4) (L2.pe_op (op_binD .add) L2.pe_int (L2.pe_op (op_binD .mul) L2.pe_int (L2.pv 3)))) (L2.pe_op (op_binD .mul) (L2.pe_op (op_binD .mul) L2.pe_int (L2.pv 3)) (L2.pv 3))) L2.pe_int) L2.pe_int))
    (L2.pss_one (L2.ps_ret (L2.pe_op (op_binD .mod) (L2.pe_op (op_binD .fdiv) (L2.pe_op (op_binD .mod) (L2.pe_op (op_binD .mul) (L2.pv 5) (L2.pv 5)) L2.pe_int) L2.pe_int) (L2.pv 1))))))))
theorem Txt.ok__law_is_int (T : Txt K mg) (sm : HasSm base) : FnG true P w K mg base 1 (He.ga K "_law_is_int") T.fd__law_is_int ["_law_value", "_law_low", "_law_high"] (spF K mg w__law_is_int_0) :=
  fn_pure sm T.F__law_is_int sc__law_is_int (by decide) fun cdv A outer s H E p S Z hp => ssd_one (sd_ret (pd_and (pd_is S .int (pd_var 0) T.g_isinstance T.g_int) (pd_and (pd_not (pd_is S .bool (pd_var 0) T.g_isinstance T.g_bool)) (pd_one (pd_chain S .le .le (pd_var 1) (pd_var 0) (pd_var 2))))))
theorem Txt.ok__law_greedy (T : Txt K mg) (sm : HasSm base) : FnG true P w K mg base 1 (He.ga K "_law_greedy") T.fd__law_greedy ["_law_row", "_law_width"] (spF K mg w__law_greedy_0) :=
  fn_pure sm T.F__law_greedy sc__law_greedy (by decide) fun cdv A outer s H E p S Z hp => ssd_cons (sd_parO S (i := 2) (j := 3) rfl rfl (by decide) rfl rfl (pf_lst S (pda_cons (pd_int) (pda_nil))) (pd_ix S (pd_var 0) (pd_int)) rfl)
    (ssd_cons (sd_for S (t := .nm 4) (pi_rng2D (pd_int) (pd_call1 S c_len T.g_len (pd_var 0)) T.g_range) (L2.pg_name (i := 4) S.nd rfl (Or.inl rfl)) (ssd_cons (sd_set S (i := 3) rfl (Or.inl rfl) (pd_bin S .add (pd_bin S .add (pd_var 3) (pd_int)) (pd_ix S (pd_var 0) (pd_var 4))))
    (ssd_one (sd_if (pt_cmpD S .gt (pd_var 3) (pd_var 1)) (ssd_cons (sd_app S 2 (pd_var 4) (fun h => L2.pe_bm PySem.F.plainAttrs_list PySem.F.slot_list_append PySem.F.type_list_append L2.mt_append (L2.pv 2) (L2.pa_cons h L2.pa_nil)))
    (ssd_one (sd_set S (i := 3) rfl (Or.inl rfl) (pd_ix S (pd_var 0) (pd_var 4))))) (ssd_nil)))))
    (ssd_one (sd_rel S 2 (sd_ret (pd_callT1 S c_tuple T.g_tuple (pd_var 2))))))
theorem Txt.ok__law_bounds (T : Txt K mg) (sm : HasSm base) : FnG true P w K mg base 1 (He.ga K "_law_bounds") T.fd__law_bounds ["_law_many", "_law_sightings_here"] (spF K mg w__law_bounds_0) :=
  fn_pure sm T.F__law_bounds sc__law_bounds (by decide) fun cdv A outer s H E p S Z hp => ssd_cons (sd_own S (i := 2) rfl (Or.inl rfl) (pf_lst S (pda_nil)))
    (ssd_cons (sd_for S (t := .nm 3) (pi_rng1D (pd_var 0) T.g_range) (L2.pg_name (i := 3) S.nd rfl (Or.inr rfl)) (ssd_cons (sd_rel S 2 (sd_own S (i := 2) rfl (Or.inl rfl) (pf_add S (pd_var 2) (pd_lst S (pda_cons (pd_tup S (pda_cons (pd_var 3) (pda_cons (pd_bin S .add (pd_var 3) (pd_int)) (pda_cons (pd_int) (pda_nil))))) (pda_cons (pd_tup S (pda_cons (pd_bin S .add (pd_var 3) (pd_int)) (pda_cons (pd_var 3) (pda_cons (pd_neg S (pd_int)) (pda_nil))))) (pda_nil)))))))
    (ssd_one (sd_rel S 2 (sd_own S (i := 2) rfl (Or.inl rfl) (pf_add S (pd_var 2) (PDF.pd (pf_comp S (t := .tp [4, 5]) [("_law_width", 4), ("_law_starts", 5)] (pi_seq (pd_var 1)) (L2.blkOk_by (N := ["_law_many", "_law_sightings_here", "_law_found", "_law_place", "_law_width", "_law_starts", "_law_ends", "_law_start", "_law_end"]) (sc := L2.defScope s__law_bounds) (by decide +kernel)) (by decide) (fun _ _ _ _ _ => pg_tl S.calm (L2.pgs_cons (L2.pg_name (i := 4) S.nd rfl (Or.inl rfl)) (L2.pgs_cons (L2.pg_name (i := 5) S.nd rfl (Or.inl rfl)) (L2.pgs_nil)))) (fun _ _ _ _ _ S => pdts_nil) (fun _ _ _ _ _ S => pd_tup S (pda_cons (pd_var 3) (pda_cons (pd_bin S .add (pd_var 3) (pd_int)) (pda_cons (pd_bin S .add (pd_var 4) (pd_int)) (pda_nil)))))))))))))
    (ssd_cons (sd_for S (t := .tp [4, 5]) (pi_seq (pd_var 1)) (pg_tl S.calm (L2.pgs_cons (L2.pg_name (i := 4) S.nd rfl (Or.inl rfl)) (L2.pgs_cons (L2.pg_name (i := 5) S.nd rfl (Or.inl rfl)) (L2.pgs_nil)))) (ssd_cons (sd_set S (i := 6) rfl (Or.inl rfl) (pd_bin S .add (pd_cut S (pd_var 5) (pdo_some (pd_int)) (pdo_none)) (pd_tup S (pda_cons (pd_var 0) (pda_nil)))))
    (ssd_one (sd_for S (t := .tp [7, 8]) (pi_zipD S (pd_var 5) (pd_var 6) T.g_zip) (pg_tl S.calm (L2.pgs_cons (L2.pg_name (i := 7) S.nd rfl (Or.inl rfl)) (L2.pgs_cons (L2.pg_name (i := 8) S.nd rfl (Or.inl rfl)) (L2.pgs_nil)))) (ssd_cons (sd_app S 2 (pd_tup S (pda_cons (pd_var 7) (pda_cons (pd_var 8) (pda_cons (pd_bin S .add (pd_var 4) (pd_int)) (pda_nil))))) (fun h => L2.pe_bm PySem.F.plainAttrs_list PySem.F.slot_list_append PySem.F.type_list_append L2.mt_append (L2.pv 2) (L2.pa_cons h L2.pa_nil)))
    (ssd_one (sd_rel S 2 (sd_own S (i := 2) rfl (Or.inl rfl) (pf_add S (pd_var 2) (pd_bin S .mul (pd_lst S (pda_cons (pd_tup S (pda_cons (pd_bin S .add (pd_var 8) (pd_int)) (pda_cons (pd_var 7) (pda_cons (pd_bin S .sub (pd_neg S (pd_int)) (pd_var 4)) (pda_nil))))) (pda_nil))) (pd_callT1 S c_int T.g_int (pd_cmp S .lt (pd_var 8) (pd_var 0)))))))))))))
    (ssd_one (sd_rel S 2 (sd_ret (pd_var 2))))))
theorem Txt.ok_read_back (T : Txt K mg) (sm : HasSm base) : FnG true P w K mg base 2 (He.ga K "read_back") T.fd_read_back ["many", "sightings"] (spF K mg w_read_back_0) :=
  fn_pure sm T.F_read_back sc_read_back (by decide) fun cdv A outer s H E p S Z hp => ssd_cons (sd_set S (i := 2) rfl (Or.inl rfl) (pd_fn S (T.ok_bounds_of sm) (by decide) T.D_bounds_of (pda_cons (pd_var 0) (pda_cons (pd_var 1) (pda_nil)))))
    (ssd_cons (sd_par3C S (L2.pgs_cons (L2.pg_name (i := 3) S.nd rfl (Or.inr rfl)) (L2.pgs_cons (L2.pg_name (i := 4) S.nd rfl (Or.inl rfl)) (L2.pgs_cons (L2.pg_name (i := 5) S.nd rfl (Or.inl rfl)) L2.pgs_nil))) (pf_mulL S (pd_lst S (pda_cons (pd_int) (pda_nil))) (pd_bin S .add (pd_var 0) (pd_int))) (pf_mulL S (pd_lst S (pda_cons (pd_non) (pda_nil))) (pd_bin S .add (pd_var 0) (pd_int))) (pd_int))
    (ssd_cons (sd_for S (t := .nm 6) (pi_rng1D (pd_bin S .add (pd_var 0) (pd_int)) T.g_range) (L2.pg_name (i := 6) S.nd rfl (Or.inl rfl)) (ssd_one (sd_mut S (i := 5) (T.ok_relax sm) (by decide) T.D_relax rfl (Or.inl rfl) (pd_var 2) (L2.pv 3) (L2.pv 4) (by decide))))
    (ssd_cons (sd_if (pt_cmpD S .notN (pd_var 5) (pd_non)) (ssd_one (sd_rel S 4 (sd_ret (pd_tup S (pda_cons (pd_str) (pda_cons (pd_fn S (T.ok_ring_before sm) (by decide) T.D_ring_before (pda_cons (pd_var 4) (pda_cons (pd_var 5) (pda_nil)))) (pda_nil))))))) (ssd_nil))
    (ssd_one (sd_rel S 3 (sd_ret (pd_tup S (pda_cons (pd_str) (pda_cons (pd_callT1 S c_tuple T.g_tuple (PDF.pd (pf_comp S (t := .nm 7) [("place", 7)] (pi_rng1D (pd_var 0) T.g_range) (L2.blkOk_by (N := ["many", "sightings", "bounds", "columns", "givers", "changed", "turn", "place"]) (sc := L2.defScope s_read_back) (by decide +kernel)) (by decide) (fun _ _ _ _ _ => L2.pg_name (i := 7) S.nd rfl (Or.inl rfl)) (fun _ _ _ _ _ S => pdts_nil) (fun _ _ _ _ _ S => pd_bin S .sub (pd_bin S .sub (pd_ix S (pd_var 3) (pd_bin S .add (pd_var 7) (pd_int))) (pd_ix S (pd_var 3) (pd_var 7))) (pd_int))))) (pda_nil))))))))))
theorem Txt.ok__law_row_drawn (T : Txt K mg) (sm : HasSm base) : FnG true P w K mg base 2 (He.ga K "_law_row_drawn") T.fd__law_row_drawn ["_law_stream_here", "_law_most"] (spS K mg w__law_row_drawn_0) :=
  fn_str sm T.F__law_row_drawn sc__law_row_drawn (by decide) fun cdv A outer s H E p S Z hp => ssd_cons (sd_par S (i := 2) (j := 3) rfl rfl (by decide) rfl rfl (pd_bin S .add (pd_int) (pd_fnS S Z (T.ok__law_draw sm) (by decide) T.D__law_draw (L2.pv 0) (pda_cons (pd_var 1) (pda_nil)))) (pd_fnS S Z (T.ok__law_draw sm) (by decide) T.D__law_draw (L2.pv 0) (pda_cons (pd_int) (pda_nil))) rfl)
    (ssd_cons (sd_set S (i := 4) rfl (Or.inr rfl) (pd_ix S (pd_lst S (pda_cons (pd_int) (pda_cons (pd_int) (pda_cons (pd_int) (pda_cons (pd_int) (pda_cons (pd_int) (pda_cons (pd_int) (pda_nil)))))))) (pd_var 3)))
    (ssd_cons (sd_own S (i := 5) rfl (Or.inr rfl) (pf_comp S (t := .nm 7) [("_law_k", 7)] (pi_rng1D (pd_var 2) T.g_range) (L2.blkOk_by (N := ["_law_stream_here", "_law_most", "_law_size", "_law_way", "_law_top", "_law_found", "_law_part", "_law_k"]) (sc := L2.defScope s__law_row_drawn) (by decide +kernel)) (by decide) (fun _ _ _ _ _ => L2.pg_name (i := 7) S.nd rfl (Or.inl rfl)) (fun _ _ _ _ _ S => pdts_nil) (fun _ _ _ _ _ S => pd_bin S .add (pd_int) (pd_fnS S Z (T.ok__law_draw sm) (by decide) T.D__law_draw (L2.pv 0) (pda_cons (pd_var 4) (pda_nil))))))
    (ssd_cons (sd_if (PDW.pt (pw_orD (pt_cmpD S .eq (pd_var 3) (pd_int)) (pw_or1D (pt_cmpD S .eq (pd_var 3) (pd_int))))) (ssd_one (sd_setI S 5 (L2.pg_sub (L2.pv 5) (PD.pe (pd_fnS S Z (T.ok__law_draw sm) (by decide) T.D__law_draw (L2.pv 0) (pda_cons (pd_var 2) (pda_nil)))) L2.set_list) (pd_bin S .add (pd_int) (pd_fnS S Z (T.ok__law_draw sm) (by decide) T.D__law_draw (L2.pv 0) (pda_cons (pd_int) (pda_nil)))))) (ssd_nil))
    (ssd_cons (sd_if (pt_cmpD S .eq (pd_var 3) (pd_int)) (ssd_cons (sd_set S (i := 6) rfl (Or.inr rfl) (pd_bin S .add (pd_int) (pd_fnS S Z (T.ok__law_draw sm) (by decide) T.D__law_draw (L2.pv 0) (pda_cons (pd_call2 S (c_min2 S.calm) T.g_min (pd_var 2) (pd_int)) (pda_nil)))))
    (ssd_one (sd_rel S 5 (sd_own S (i := 5) rfl (Or.inr rfl) (pf_comp S (t := .nm 7) [("_law_k", 7)] (pi_rng1D (pd_var 2) T.g_range) (L2.blkOk_by (N := ["_law_stream_here", "_law_most", "_law_size", "_law_way", "_law_top", "_law_found", "_law_part", "_law_k"]) (sc := L2.defScope s__law_row_drawn) (by decide +kernel)) (by decide) (fun _ _ _ _ _ => L2.pg_name (i := 7) S.nd rfl (Or.inl rfl)) (fun _ _ _ _ _ S => pdts_nil) (fun _ _ _ _ _ S => pd_ix S (pd_var 5) (pd_bin S .mod (pd_var 7) (pd_var 6)))))))) (ssd_nil))
    (ssd_one (sd_rel S 5 (sd_ret (pd_callT1 S c_tuple T.g_tuple (pd_var 5)))))))))
theorem Txt.ok__law_width_drawn (T : Txt K mg) (sm : HasSm base) : FnG true P w K mg base 2 (He.ga K "_law_width_drawn") T.fd__law_width_drawn ["_law_stream_here", "_law_row"] (spS K mg w__law_width_drawn_0) :=
  fn_str sm T.F__law_width_drawn sc__law_width_drawn (by decide) fun cdv A outer s H E p S Z hp => ssd_cons (sd_set S (i := 2) rfl (Or.inl rfl) (pd_fnS S Z (T.ok__law_draw sm) (by decide) T.D__law_draw (L2.pv 0) (pda_cons (pd_call1 S c_len T.g_len (pd_var 1)) (pda_nil))))
    (ssd_cons (sd_set S (i := 3) rfl (Or.inl rfl) (pd_bin S .add (pd_var 2) (pd_fnS S Z (T.ok__law_draw sm) (by decide) T.D__law_draw (L2.pv 0) (pda_cons (pd_call2 S (c_min2 S.calm) T.g_min (pd_bin S .sub (pd_call1 S c_len T.g_len (pd_var 1)) (pd_var 2)) (pd_int)) (pda_nil)))))
    (ssd_cons (sd_set S (i := 4) rfl (Or.inl rfl) (pd_bin S .sub (pd_bin S .add (pd_call1 S (c_sum S.calm) T.g_sum (pd_cut S (pd_var 1) (pdo_some (pd_var 2)) (pdo_some (pd_bin S .add (pd_var 3) (pd_int))))) (pd_var 3)) (pd_var 2)))
    (ssd_cons (sd_set S (i := 5) rfl (Or.inl rfl) (pd_lst S (pda_cons (pd_call1 S (c_max S) T.g_max (pd_var 1)) (pda_cons (pd_var 4) (pda_cons (pd_bin S .sub (pd_var 4) (pd_int)) (pda_cons (pd_bin S .add (pd_var 4) (pd_int)) (pda_cons (pd_bin S .sub (pd_bin S .add (pd_call1 S (c_sum S.calm) T.g_sum (pd_var 1)) (pd_call1 S c_len T.g_len (pd_var 1))) (pd_int)) (pda_cons (pd_bin S .add (pd_int) (pd_fnS S Z (T.ok__law_draw sm) (by decide) T.D__law_draw (L2.pv 0) (pda_cons (pd_int) (pda_nil)))) (pda_cons (pd_int) (pda_nil))))))))))
    (ssd_one (sd_ret (pd_call2 S (c_max2 S.calm) T.g_max (pd_int) (pd_ix S (pd_var 5) (pd_fnS S Z (T.ok__law_draw sm) (by decide) T.D__law_draw (L2.pv 0) (pda_cons (pd_int) (pda_nil))))))))))
theorem Txt.ok__law_agrees (T : Txt K mg) (sm : HasSm base) : FnG true P w K mg base 2 (He.ga K "_law_agrees") T.fd__law_agrees ["_law_row", "_law_sightings_here"] (spF K mg w__law_agrees_0) :=
  fn_pure sm T.F__law_agrees sc__law_agrees (by decide) fun cdv A outer s H E p S Z hp => ssd_cons (sd_comp S (i := 2) (t := .tp [3, 4]) [("_law_width", 3), ("_law_starts", 4)] rfl rfl (L2.sw_true rfl rfl rfl (by decide +kernel)) (pi_seq (pd_var 1)) (L2.blkOk_by (N := ["_law_row", "_law_sightings_here", "_law_wrong", "_law_width", "_law_starts"]) (sc := L2.defScope s__law_agrees) (by decide +kernel)) (by decide) (fun _ _ _ _ _ => pg_tl S.calm (L2.pgs_cons (L2.pg_name (i := 3) S.nd rfl (Or.inl rfl)) (L2.pgs_cons (L2.pg_name (i := 4) S.nd rfl (Or.inl rfl)) (L2.pgs_nil)))) (fun _ _ _ _ _ S => pdts_one (PDW.pt (pw_orD (pt_cmpD S .gt (pd_call1 S (c_max S) T.g_max (pd_var 0)) (pd_var 3)) (pw_or1D (pt_cmpD S .ne (pd_fn S (T.ok__law_greedy sm) (by decide) T.D__law_greedy (pda_cons (pd_var 0) (pda_cons (pd_var 3) (pda_nil)))) (pd_var 4)))))) (fun _ _ _ _ _ S => pd_int))
    (ssd_one (sd_ret (pd_cmp S .eq (pd_var 2) (pd_lst S (pda_nil)))))
theorem Txt.ok__law_is_ring (T : Txt K mg) (sm : HasSm base) : FnG true P w K mg base 2 (He.ga K "_law_is_ring") T.fd__law_is_ring ["_law_many", "_law_sightings_here", "_law_value"] (spF K mg w__law_is_ring_0) :=
  fn_pure sm T.F__law_is_ring sc__law_is_ring (by decide) fun cdv A outer s H E p S Z hp => ssd_cons (sd_set S (i := 3) rfl (Or.inr rfl) (PDF.pd (pf_comp S (t := .nm 4) [("_law_bound", 4)] (pi_seq (pd_fn S (T.ok__law_bounds sm) (by decide) T.D__law_bounds (pda_cons (pd_var 0) (pda_cons (pd_var 1) (pda_nil))))) (L2.blkOk_by (N := ["_law_many", "_law_sightings_here", "_law_value", "_law_known", "_law_bound", "_law_k"]) (sc := L2.defScope s__law_is_ring) (by decide +kernel)) (by decide) (fun _ _ _ _ _ => L2.pg_name (i := 4) S.nd rfl (Or.inl rfl)) (fun _ _ _ _ _ S => pdts_nil) (fun _ _ _ _ _ S => pd_call1 S (c_repr S) T.g_repr (pd_var 4)))))
    (ssd_cons (sd_if (PDW.pt (pw_orD (pt_notD (pt_tru (pd_is S .tuple (pd_var 2) T.g_isinstance T.g_tuple))) (pw_orD (pt_cmpD S .eq (pd_var 2) (pd_tup S (pda_nil))) (pw_or1D (pt_cmpD S .ne (PDF.pd (pf_comp S (t := .nm 4) [("_law_bound", 4)] (pi_seq (pd_var 2)) (L2.blkOk_by (N := ["_law_many", "_law_sightings_here", "_law_value", "_law_known", "_law_bound", "_law_k"]) (sc := L2.defScope s__law_is_ring) (by decide +kernel)) (by decide) (fun _ _ _ _ _ => L2.pg_name (i := 4) S.nd rfl (Or.inl rfl)) (fun _ _ _ _ _ S => pdts_one (pt_notInD S (pd_call1 S (c_repr S) T.g_repr (pd_var 4)) (pd_var 3))) (fun _ _ _ _ _ S => pd_var 4))) (pd_lst S (pda_nil))))))) (ssd_one (sd_ret (pd_bl))) (ssd_nil))
    (ssd_cons (sd_if (pt_cmpD S .ne (PDF.pd (pf_comp S (t := .nm 5) [("_law_k", 5)] (pi_rng1D (pd_call1 S c_len T.g_len (pd_var 2)) T.g_range) (L2.blkOk_by (N := ["_law_many", "_law_sightings_here", "_law_value", "_law_known", "_law_bound", "_law_k"]) (sc := L2.defScope s__law_is_ring) (by decide +kernel)) (by decide) (fun _ _ _ _ _ => L2.pg_name (i := 5) S.nd rfl (Or.inl rfl)) (fun _ _ _ _ _ S => pdts_one (pt_cmpD S .ne (pd_ix S (pd_ix S (pd_var 2) (pd_bin S .sub (pd_var 5) (pd_int))) (pd_int)) (pd_ix S (pd_ix S (pd_var 2) (pd_var 5)) (pd_int)))) (fun _ _ _ _ _ S => pd_var 5))) (pd_lst S (pda_nil))) (ssd_one (sd_ret (pd_bl))) (ssd_nil))
    (ssd_one (sd_ret (pd_cmp S .lt (pd_call1 S (c_sum S.calm) T.g_sum (PDF.pd (pf_comp S (t := .nm 4) [("_law_bound", 4)] (pi_seq (pd_var 2)) (L2.blkOk_by (N := ["_law_many", "_law_sightings_here", "_law_value", "_law_known", "_law_bound", "_law_k"]) (sc := L2.defScope s__law_is_ring) (by decide +kernel)) (by decide) (fun _ _ _ _ _ => L2.pg_name (i := 4) S.nd rfl (Or.inl rfl)) (fun _ _ _ _ _ S => pdts_nil) (fun _ _ _ _ _ S => pd_ix S (pd_var 4) (pd_int))))) (pd_int))))))
theorem Txt.ok__law_is_row (T : Txt K mg) (sm : HasSm base) : FnG true P w K mg base 2 (He.ga K "_law_is_row") T.fd__law_is_row ["_law_value"] (spF K mg w__law_is_row_0) :=
  fn_pure sm T.F__law_is_row sc__law_is_row (by decide) fun cdv A outer s H E p S Z hp => ssd_cons (sd_if (PDW.pt (pw_orD (pt_notD (pt_tru (pd_is S .tuple (pd_var 0) T.g_isinstance T.g_tuple))) (pw_or1D (pt_notD (pt_chainD S .le .le (pd_int) (pd_call1 S c_len T.g_len (pd_var 0)) (pd_int)))))) (ssd_one (sd_ret (pd_bl))) (ssd_nil))
    (ssd_one (sd_ret (pd_cmp S .eq (PDF.pd (pf_comp S (t := .nm 1) [("_law_item", 1)] (pi_seq (pd_var 0)) (L2.blkOk_by (N := ["_law_value", "_law_item"]) (sc := L2.defScope s__law_is_row) (by decide +kernel)) (by decide) (fun _ _ _ _ _ => L2.pg_name (i := 1) S.nd rfl (Or.inl rfl)) (fun _ _ _ _ _ S => pdts_one (pt_notD (pt_tru (pd_fn S (T.ok__law_is_int sm) (by decide) T.D__law_is_int (pda_cons (pd_var 1) (pda_cons (pd_int) (pda_cons (pd_int) (pda_nil)))))))) (fun _ _ _ _ _ S => pd_var 1))) (pd_lst S (pda_nil)))))
theorem Txt.ok__law_seen_at (T : Txt K mg) (sm : HasSm base) : FnG true P w K mg base 3 (He.ga K "_law_seen_at") T.fd__law_seen_at ["_law_stream_here", "_law_row"] (spS K mg w__law_seen_at_0) :=
  fn_str sm T.F__law_seen_at sc__law_seen_at (by decide) fun cdv A outer s H E p S Z hp => ssd_cons (sd_own S (i := 2) rfl (Or.inl rfl) (pf_lst S (pda_nil)))
    (ssd_cons (sd_for S (t := .nm 3) (pi_rng1D (pd_bin S .add (pd_int) (pd_fnS S Z (T.ok__law_draw sm) (by decide) T.D__law_draw (L2.pv 0) (pda_cons (pd_int) (pda_nil)))) T.g_range) (L2.pg_name (i := 3) S.nd rfl (Or.inl rfl)) (ssd_one (sd_app S 2 (pd_call2 S (c_max2 S.calm) T.g_max (pd_call1 S (c_max S) T.g_max (pd_var 1)) (pd_fnS S Z (T.ok__law_width_drawn sm) (by decide) T.D__law_width_drawn (L2.pv 0) (pda_cons (pd_var 1) (pda_nil)))) (fun h => L2.pe_bm PySem.F.plainAttrs_list PySem.F.slot_list_append PySem.F.type_list_append L2.mt_append (L2.pv 2) (L2.pa_cons h L2.pa_nil)))))
    (ssd_one (sd_rel S 2 (sd_ret (pd_callT1 S c_tuple T.g_tuple (PDF.pd (pf_comp S (t := .nm 4) [("_law_width", 4)] (pi_seq (pd_srtSet S T.g_sorted T.g_set (pd_var 2))) (L2.blkOk_by (N := ["_law_stream_here", "_law_row", "_law_wide", "_law_k", "_law_width"]) (sc := L2.defScope s__law_seen_at) (by decide +kernel)) (by decide) (fun _ _ _ _ _ => L2.pg_name (i := 4) S.nd rfl (Or.inl rfl)) (fun _ _ _ _ _ S => pdts_nil) (fun _ _ _ _ _ S => pd_tup S (pda_cons (pd_var 4) (pda_cons (pd_fn S (T.ok__law_greedy sm) (by decide) T.D__law_greedy (pda_cons (pd_var 1) (pda_cons (pd_var 4) (pda_nil)))) (pda_nil)))))))))))
theorem Txt.ok__law_right (T : Txt K mg) (sm : HasSm base) : FnG true P w K mg base 3 (He.ga K "_law_right") T.fd__law_right ["_law_many", "_law_seen"] (spF K mg w__law_right_6) :=
  fn_pure sm T.F__law_right sc__law_right (by decide) fun cdv A outer s H E p S Z hp => ssd_cons (sd_par S (i := 2) (j := 3) rfl rfl (by decide) rfl rfl (pd_call1 S (c_repr S) T.g_repr (pd_var 1)) (pd_fn S (T.ok_read_back sm) (by decide) T.D_read_back (pda_cons (pd_var 0) (pda_cons (pd_var 1) (pda_nil)))) rfl)
    (ssd_cons (sd_if (PDW.pt (pw_orD (pt_notD (pt_tru (pd_is S .tuple (pd_var 3) T.g_isinstance T.g_tuple))) (pw_orD (pt_cmpD S .ne (pd_call1 S c_len T.g_len (pd_var 3)) (pd_int)) (pw_or1D (pt_notD (pt_tru (pd_is S .str (pd_ix S (pd_var 3) (pd_int)) T.g_isinstance T.g_str))))))) (ssd_one (sd_ret (pd_bl))) (ssd_nil))
    (ssd_cons (sd_if (pt_cmpD S .eq (pd_ix S (pd_var 3) (pd_int)) (pd_str)) (ssd_one (sd_set S (i := 4) rfl (Or.inl rfl) (pd_and (pd_fn S (T.ok__law_is_row sm) (by decide) T.D__law_is_row (pda_cons (pd_ix S (pd_var 3) (pd_int)) (pda_nil))) (pd_and (pd_cmp S .eq (pd_call1 S c_len T.g_len (pd_ix S (pd_var 3) (pd_int))) (pd_var 0)) (pd_one (pd_fn S (T.ok__law_agrees sm) (by decide) T.D__law_agrees (pda_cons (pd_ix S (pd_var 3) (pd_int)) (pda_cons (pd_var 1) (pda_nil))))))))) (ssd_one (sd_set S (i := 4) rfl (Or.inl rfl) (pd_and (pd_cmp S .eq (pd_ix S (pd_var 3) (pd_int)) (pd_str)) (pd_one (pd_fn S (T.ok__law_is_ring sm) (by decide) T.D__law_is_ring (pda_cons (pd_var 0) (pda_cons (pd_var 1) (pda_cons (pd_ix S (pd_var 3) (pd_int)) (pda_nil))))))))))
    (ssd_one (sd_ret (pd_and (pd_var 4) (pd_and (pd_cmp S .eq (pd_call1 S (c_repr S) T.g_repr (pd_fn S (T.ok_read_back sm) (by decide) T.D_read_back (pda_cons (pd_var 0) (pda_cons (pd_var 1) (pda_nil))))) (pd_call1 S (c_repr S) T.g_repr (pd_var 3))) (pd_one (pd_cmp S .eq (pd_call1 S (c_repr S) T.g_repr (pd_var 1)) (pd_var 2)))))))))
theorem Txt.ok__law_sightings (T : Txt K mg) (sm : HasSm base) : FnG true P w K mg base 4 (He.ga K "_law_sightings") T.fd__law_sightings ["_law_stream_here", "_law_most"] (spS K mg w__law_sightings_0) :=
  fn_str sm T.F__law_sightings sc__law_sightings (by decide) fun cdv A outer s H E p S Z hp => ssd_cons (sd_par S (i := 2) (j := 3) rfl rfl (by decide) rfl rfl (pd_fnS S Z (T.ok__law_row_drawn sm) (by decide) T.D__law_row_drawn (L2.pv 0) (pda_cons (pd_var 1) (pda_nil))) (pd_fnS S Z (T.ok__law_draw sm) (by decide) T.D__law_draw (L2.pv 0) (pda_cons (pd_int) (pda_nil))) rfl)
    (ssd_cons (sd_parO S (i := 4) (j := 5) rfl rfl (by decide) rfl rfl (pf_list S T.g_list (pd_fnS S Z (T.ok__law_seen_at sm) (by decide) T.D__law_seen_at (L2.pv 0) (pda_cons (pd_var 2) (pda_nil)))) (pd_call1 S c_len T.g_len (pd_var 2)) rfl)
    (ssd_cons (sd_set S (i := 6) rfl (Or.inl rfl) (pd_bor S 4 (pd_fnS S Z (T.ok__law_draw sm) (by decide) T.D__law_draw (L2.pv 0) (pda_cons (pd_call1 S c_len T.g_len (pd_var 4)) (pda_nil)))))
    (ssd_cons (sd_put S (t := .tp [7, 8]) (pg_tl S.calm (L2.pgs_cons (L2.pg_name (i := 7) S.nd rfl (Or.inl rfl)) (L2.pgs_cons (L2.pg_name (i := 8) S.nd rfl (Or.inl rfl)) (L2.pgs_nil)))) (pd_bor S 4 (pd_ix S (pd_var 4) (pd_var 6))))
    (ssd_cons (sd_if (PDW.pt (pw_andD (pt_cmpD S .eq (pd_var 3) (pd_int)) (pw_and1D (pt_cmpD S .gt (pd_var 5) (pd_int))))) (ssd_cons (sd_set S (i := 9) rfl (Or.inr rfl) (pd_bin S .add (pd_int) (pd_fnS S Z (T.ok__law_draw sm) (by decide) T.D__law_draw (L2.pv 0) (pda_cons (pd_bin S .sub (pd_var 5) (pd_int)) (pda_nil)))))
    (ssd_cons (sd_set S (i := 10) rfl (Or.inl rfl) (pd_bin S .add (PDF.pd (pf_comp S (t := .nm 11) [("_law_start", 11)] (pi_seq (pd_var 8)) (L2.blkOk_by (N := ["_law_stream_here", "_law_most", "_law_row", "_law_way", "_law_seen", "_law_many", "_law_spot", "_law_width", "_law_starts", "_law_place", "_law_rest", "_law_start", "_law_one"]) (sc := L2.defScope s__law_sightings) (by decide +kernel)) (by decide) (fun _ _ _ _ _ => L2.pg_name (i := 11) S.nd rfl (Or.inl rfl)) (fun _ _ _ _ _ S => pdts_one (pt_cmpD S .ne (pd_var 11) (pd_var 9))) (fun _ _ _ _ _ S => pd_var 11))) (pd_bin S .mul (pd_lst S (pda_cons (pd_var 9) (pda_nil))) (pd_callT1 S c_int T.g_int (pd_notIn S (pd_var 9) (pd_var 8))))))
    (ssd_one (sd_setI S 4 (L2.pg_sub (L2.pv 4) (PD.pe (pd_var 6)) L2.set_list) (pd_tup S (pda_cons (pd_var 7) (pda_cons (pd_callT1 S c_tuple T.g_tuple (pd_srt S T.g_sorted (pd_var 10))) (pda_nil)))))))) (ssd_nil))
    (ssd_cons (sd_if (pt_bor S 4 (PDW.pt (pw_andD (pt_cmpD S .eq (pd_var 3) (pd_int)) (pw_and1D (pt_notInD S (pd_bin S .sub (pd_var 7) (pd_int)) (PDF.pd (pf_comp S (t := .nm 12) [("_law_one", 12)] (pi_seq (pd_bor S 4 (pd_var 4))) (L2.blkOk_by (N := ["_law_stream_here", "_law_most", "_law_row", "_law_way", "_law_seen", "_law_many", "_law_spot", "_law_width", "_law_starts", "_law_place", "_law_rest", "_law_start", "_law_one"]) (sc := L2.defScope s__law_sightings) (by decide +kernel)) (by decide) (fun _ _ _ _ _ => L2.pg_name (i := 12) S.nd rfl (Or.inl rfl)) (fun _ _ _ _ _ S => pdts_nil) (fun _ _ _ _ _ S => pd_ix S (pd_var 12) (pd_int))))))))) (ssd_one (sd_setI S 4 (L2.pg_sub (L2.pv 4) (PD.pe (pd_var 6)) L2.set_list) (pd_tup S (pda_cons (pd_call2 S (c_max2 S.calm) T.g_max (pd_int) (pd_bin S .sub (pd_var 7) (pd_int))) (pda_cons (pd_var 8) (pda_nil)))))) (ssd_nil))
    (ssd_cons (sd_if (PDW.pt (pw_andD (pt_cmpD S .eq (pd_var 3) (pd_int)) (pw_and1D (pt_cmpD S .gt (pd_var 6) (pd_int))))) (ssd_one (sd_setI S 4 (L2.pg_sub (L2.pv 4) (PD.pe (pd_var 6)) L2.set_list) (pd_bor S 4 (pd_tup S (pda_cons (pd_var 7) (pda_cons (pd_ix S (pd_ix S (pd_var 4) (pd_bin S .sub (pd_var 6) (pd_int))) (pd_int)) (pda_nil))))))) (ssd_nil))
    (ssd_cons (sd_if (pt_cmpD S .eq (pd_var 3) (pd_int)) (ssd_cons (sd_set S (i := 8) rfl (Or.inl rfl) (pd_callT1 S c_tuple T.g_tuple (pd_bin S .add (pd_lst S (pda_cons (pd_int) (pda_nil))) (PDF.pd (pf_comp S (t := .nm 9) [("_law_place", 9)] (pi_rng2D (pd_int) (pd_var 5) T.g_range) (L2.blkOk_by (N := ["_law_stream_here", "_law_most", "_law_row", "_law_way", "_law_seen", "_law_many", "_law_spot", "_law_width", "_law_starts", "_law_place", "_law_rest", "_law_start", "_law_one"]) (sc := L2.defScope s__law_sightings) (by decide +kernel)) (by decide) (fun _ _ _ _ _ => L2.pg_name (i := 9) S.nd rfl (Or.inl rfl)) (fun _ _ _ _ _ S => pdts_one (pt_cmpD S .eq (pd_fnS S Z (T.ok__law_draw sm) (by decide) T.D__law_draw (L2.pv 0) (pda_cons (pd_int) (pda_nil))) (pd_int))) (fun _ _ _ _ _ S => pd_var 9))))))
    (ssd_one (sd_setI S 4 (L2.pg_sub (L2.pv 4) (PD.pe (pd_var 6)) L2.set_list) (pd_tup S (pda_cons (pd_var 7) (pda_cons (pd_var 8) (pda_nil))))))) (ssd_nil))
    (ssd_one (sd_rel S 4 (sd_ret (pd_lst S (pda_cons (pd_var 5) (pda_cons (pd_callT1 S c_tuple T.g_tuple (pd_srt S T.g_sorted (pd_var 4))) (pda_nil))))))))))))))
theorem Txt.ok_law (T : Txt K mg) (sm : HasSm base) (math : m_law (lawE 6 1) (.z 0) (fun o _ => o = .rt (.bool true)) fun _ _ => False) : FnG true P w K mg base 5 (He.ga K "law") T.fd_law ["_law_script"] (spLaw K) :=
  fn_law sm (i := 1) T.F_law sc_law (by decide) (by decide) (T.ok__law_stream sm) (by decide : 1 ≤ 4) (fun cdv A outer s H E => ⟨_, fun ts hr hg hx h => L2.pss_cons (L2.ps_set (i := 1) sc_law.nd rfl (Or.inl rfl) (pe_G (T.ok__law_stream sm) (hr.mono (by decide)) hg T.D__law_stream.mg T.D__law_stream.kp T.D__law_stream.bd hx (L2.pa_cons (L2.pv 0) L2.pa_nil))) h, fun p S Z hp => ssd_cons (sd_for S (t := .nm 2) (pi_rng1D (pd_int) T.g_range) (L2.pg_name (i := 2) S.nd rfl (Or.inl rfl)) (ssd_cons (sd_put S (t := .tp [3, 4]) (pg_tl S.calm (L2.pgs_cons (L2.pg_name (i := 3) S.nd rfl (Or.inl rfl)) (L2.pgs_cons (L2.pg_name (i := 4) S.nd rfl (Or.inl rfl)) (L2.pgs_nil)))) (pd_fnS S Z (T.ok__law_sightings sm) (by decide) T.D__law_sightings (L2.pv 1) (pda_cons (pd_ix S (pd_lst S (pda_cons (pd_int) (pda_cons (pd_int) (pda_cons (pd_int) (pda_nil))))) (pd_bin S .mod (pd_var 2) (pd_int))) (pda_nil))))
    (ssd_one (sd_if (pt_notD (pt_tru (pd_fn S (T.ok__law_right sm) (by decide) T.D__law_right (pda_cons (pd_var 3) (pda_cons (pd_var 4) (pda_nil)))))) (ssd_one (sd_ret (pd_bl))) (ssd_nil)))))
    (ssd_cons (sd_set S (i := 5) rfl (Or.inl rfl) (pd_lst S (pda_cons (pd_ix S (pd_fn S (T.ok_read_back sm) (by decide) T.D_read_back (pda_cons (pd_int) (pda_cons (pd_tup S (pda_cons (pd_tup S (pda_cons (pd_int) (pda_cons (pd_tup S (pda_cons (pd_int) (pda_nil))) (pda_nil)))) (pda_nil))) (pda_nil)))) (pd_int)) (pda_cons (pd_ix S (pd_fn S (T.ok_read_back sm) (by decide) T.D_read_back (pda_cons (pd_int) (pda_cons (pd_tup S (pda_cons (pd_tup S (pda_cons (pd_int) (pda_cons (pd_tup S (pda_cons (pd_int) (pda_cons (pd_int) (pda_nil)))) (pda_nil)))) (pda_cons (pd_tup S (pda_cons (pd_int) (pda_cons (pd_tup S (pda_cons (pd_int) (pda_cons (pd_int) (pda_nil)))) (pda_nil)))) (pda_nil)))) (pda_nil)))) (pd_int)) (pda_nil)))))
    (ssd_cons (sd_set S (i := 5) rfl (Or.inl rfl) (pd_bin S .add (pd_var 5) (pd_lst S (pda_cons (pd_ix S (pd_fn S (T.ok_read_back sm) (by decide) T.D_read_back (pda_cons (pd_int) (pda_cons (pd_tup S (pda_cons (pd_tup S (pda_cons (pd_int) (pda_cons (pd_tup S (pda_cons (pd_int) (pda_cons (pd_int) (pda_nil)))) (pda_nil)))) (pda_cons (pd_tup S (pda_cons (pd_int) (pda_cons (pd_tup S (pda_cons (pd_int) (pda_nil))) (pda_nil)))) (pda_nil)))) (pda_nil)))) (pd_int)) (pda_cons (pd_ix S (pd_fn S (T.ok_read_back sm) (by decide) T.D_read_back (pda_cons (pd_int) (pda_cons (pd_tup S (pda_cons (pd_tup S (pda_cons (pd_int) (pda_cons (pd_tup S (pda_cons (pd_int) (pda_nil))) (pda_nil)))) (pda_cons (pd_tup S (pda_cons (pd_int) (pda_cons (pd_tup S (pda_cons (pd_int) (pda_nil))) (pda_nil)))) (pda_nil)))) (pda_nil)))) (pd_int)) (pda_nil))))))
    (ssd_cons (sd_set S (i := 3) rfl (Or.inl rfl) (pd_lst S (pda_cons (pd_tupRg S (pdrg_1 (pd_int) T.g_range) T.g_tuple) (pda_cons (pd_tupRg3 S (pd_int) (pd_int) (pd_int) T.g_range T.g_tuple) (pda_nil)))))
    (ssd_cons (sd_set S (i := 5) rfl (Or.inl rfl) (pd_bin S .add (pd_var 5) (pd_lst S (pda_cons (pd_ix S (pd_fn S (T.ok_read_back sm) (by decide) T.D_read_back (pda_cons (pd_int) (pda_cons (pd_tup S (pda_cons (pd_tup S (pda_cons (pd_int) (pda_cons (pd_ix S (pd_var 3) (pd_int)) (pda_nil)))) (pda_cons (pd_tup S (pda_cons (pd_int) (pda_cons (pd_ix S (pd_var 3) (pd_int)) (pda_nil)))) (pda_nil)))) (pda_nil)))) (pd_int)) (pda_cons (pd_ix S (pd_fn S (T.ok_read_back sm) (by decide) T.D_read_back (pda_cons (pd_int) (pda_cons (pd_tup S (pda_cons (pd_tup S (pda_cons (pd_int) (pda_cons (pd_ix S (pd_var 3) (pd_int)) (pda_nil)))) (pda_cons (pd_tup S (pda_cons (pd_int) (pda_cons (pd_tup S (pda_cons (pd_int) (pda_nil))) (pda_nil)))) (pda_nil)))) (pda_nil)))) (pd_int)) (pda_nil))))))
    (ssd_one (sd_ret (pd_cmp S .eq (pd_var 5) (pd_lst S (pda_cons (pd_str) (pda_cons (pd_str) (pda_cons (pd_str) (pda_cons (pd_str) (pda_cons (pd_str) (pda_cons (pd_str) (pda_nil)))))))))))))))⟩) math
end
def d_bounds_of : He.DefD := ⟨("bounds_of", none), "bounds_of", "bounds_of", L2.defArgs s_bounds_of, L2.defBody s_bounds_of, L2.defScope s_bounds_of, [], []⟩
def d_relax : He.DefD := ⟨("relax", none), "relax", "relax", L2.defArgs s_relax, L2.defBody s_relax, L2.defScope s_relax, [], []⟩
def d_ring_before : He.DefD := ⟨("ring_before", none), "ring_before", "ring_before", L2.defArgs s_ring_before, L2.defBody s_ring_before, L2.defScope s_ring_before, [], []⟩
def d_read_back : He.DefD := ⟨("read_back", none), "read_back", "read_back", L2.defArgs s_read_back, L2.defBody s_read_back, L2.defScope s_read_back, [], []⟩
def d__law_stream : He.DefD := ⟨("_law_stream", none), "_law_stream", "_law_stream", L2.defArgs s__law_stream, L2.defBody s__law_stream, L2.defScope s__law_stream, [], []⟩
def d__law_draw : He.DefD := ⟨("_law_draw", none), "_law_draw", "_law_draw", L2.defArgs s__law_draw, L2.defBody s__law_draw, L2.defScope s__law_draw, [], []⟩
def d__law_is_int : He.DefD := ⟨("_law_is_int", none), "_law_is_int", "_law_is_int", L2.defArgs s__law_is_int, L2.defBody s__law_is_int, L2.defScope s__law_is_int, [], []⟩
def d__law_row_drawn : He.DefD := ⟨("_law_row_drawn", none), "_law_row_drawn", "_law_row_drawn", L2.defArgs s__law_row_drawn, L2.defBody s__law_row_drawn, L2.defScope s__law_row_drawn, [], []⟩
def d__law_width_drawn : He.DefD := ⟨("_law_width_drawn", none), "_law_width_drawn", "_law_width_drawn", L2.defArgs s__law_width_drawn, L2.defBody s__law_width_drawn, L2.defScope s__law_width_drawn, [], []⟩
def d__law_greedy : He.DefD := ⟨("_law_greedy", none), "_law_greedy", "_law_greedy", L2.defArgs s__law_greedy, L2.defBody s__law_greedy, L2.defScope s__law_greedy, [], []⟩
def d__law_seen_at : He.DefD := ⟨("_law_seen_at", none), "_law_seen_at", "_law_seen_at", L2.defArgs s__law_seen_at, L2.defBody s__law_seen_at, L2.defScope s__law_seen_at, [], []⟩
def d__law_sightings : He.DefD := ⟨("_law_sightings", none), "_law_sightings", "_law_sightings", L2.defArgs s__law_sightings, L2.defBody s__law_sightings, L2.defScope s__law_sightings, [], []⟩
def d__law_agrees : He.DefD := ⟨("_law_agrees", none), "_law_agrees", "_law_agrees", L2.defArgs s__law_agrees, L2.defBody s__law_agrees, L2.defScope s__law_agrees, [], []⟩
def d__law_bounds : He.DefD := ⟨("_law_bounds", none), "_law_bounds", "_law_bounds", L2.defArgs s__law_bounds, L2.defBody s__law_bounds, L2.defScope s__law_bounds, [], []⟩
def d__law_is_ring : He.DefD := ⟨("_law_is_ring", none), "_law_is_ring", "_law_is_ring", L2.defArgs s__law_is_ring, L2.defBody s__law_is_ring, L2.defScope s__law_is_ring, [], []⟩
def d__law_is_row : He.DefD := ⟨("_law_is_row", none), "_law_is_row", "_law_is_row", L2.defArgs s__law_is_row, L2.defBody s__law_is_row, L2.defScope s__law_is_row, [], []⟩
def d__law_right : He.DefD := ⟨("_law_right", none), "_law_right", "_law_right", L2.defArgs s__law_right, L2.defBody s__law_right, L2.defScope s__law_right, [], []⟩
def d_law : He.DefD := ⟨("law", none), "law", "law", L2.defArgs s_law, L2.defBody s_law, L2.defScope s_law, [], []⟩
def fnl : List He.DefD := [d_bounds_of, d_relax, d_ring_before, d_read_back, d__law_stream, d__law_draw, d__law_is_int, d__law_row_drawn, d__law_width_drawn, d__law_greedy, d__law_seen_at, d__law_sightings, d__law_agrees, d__law_bounds, d__law_is_ring, d__law_is_row, d__law_right, d_law]
def exl (K : PySem.W.Frag) : Bool := smB K
def fal : List He.Fa := [.glo "bounds_of", .glo "relax", .glo "ring_before", .glo "read_back", .glo "_law_stream", .glo "_law_draw", .glo "_law_is_int", .glo "_law_row_drawn", .glo "_law_width_drawn", .glo "_law_greedy", .glo "_law_seen_at", .glo "_law_sightings", .glo "_law_agrees", .glo "_law_bounds", .glo "_law_is_ring", .glo "_law_is_row", .glo "_law_right", .glo "law", .free "abs", .free "bool", .free "int", .free "isinstance", .free "len", .free "list", .free "max", .free "min", .free "range", .free "repr", .free "set", .free "sorted", .free "str", .free "sum", .free "tuple", .free "zip", .int "MAX_LENGTH" (60)]
abbrev R : PySem.W.OpenRow := PySem.W.OpenLaw.row PySem.Challenge.rw_wrapwidths_k38_rings_read_back
abbrev hk : PySem.W.Hook := hookH 4 fal fnl exl
def ob (s : PySem.W.SharedT) : AlH := obsH 4 fal fnl exl (HandSHeadRun.getT s)
theorem ob_eq (s : PySem.W.SharedT) : ob s = hk.obs s.abs := obsH_eq (HandSHeadRun.getT_eq s)
theorem run (w : World) : HandSHeadRun.RunEq R (PySem.W.view R.prog [20]) hk ob 6000 ["MAX_LENGTH", "bounds_of", "relax", "ring_before", "read_back", "_law_stream", "_law_draw", "_law_is_int", "_law_row_drawn", "_law_width_drawn", "_law_greedy", "_law_seen_at", "_law_sightings", "_law_agrees", "_law_bounds", "_law_is_ring", "_law_is_row", "_law_right"] w := by
  intro os
  kernel_rfl
theorem facts {P : Program} {w : World} {K : PySem.W.Frag} {h : Heap} {mg : Str → Option Value} {f : Addr} (X : K.In h) (G : h.Ns mainGlobals mg) (hfa : mg ("law" : Str) = some (.ref f)) (ch : SaysH fal fnl exl K)
    (math : m_law (lawE 6 1) (.z 0) (fun o _ => o = .rt (.bool true)) fun _ _ => False) :
    ∃ fd : FuncData, (∀ (s : Shared) (v : Value), BindsTo s fd ⟨[v], []⟩ [("_law_script", v)]) ∧ ∀ base : Heap, K.In base → base.Ns mainGlobals mg → FnG true P w K mg base 5 f fd ["_law_script"] (spLaw K) := by
  have c := ch.d
  have hx := ch.x
  obtain ⟨fd_bounds_of, F_bounds_of⟩ := c.def_ 0 (d := d_bounds_of) rfl
  have G_bounds_of : mg "bounds_of" = some (.ref (He.ga K "bounds_of")) := He.glo_ok X G (c.fact 0 (f := .glo "bounds_of") rfl)
  have B_bounds_of : L2.Binds K fd_bounds_of ["many", "sightings"] [] := L2.FunD.bindsN F_bounds_of fun _ _ _ _ _ _ us hl => match us, hl with | [_, _], _ => rfl
  obtain ⟨fd_relax, F_relax⟩ := c.def_ 1 (d := d_relax) rfl
  have G_relax : mg "relax" = some (.ref (He.ga K "relax")) := He.glo_ok X G (c.fact 1 (f := .glo "relax") rfl)
  have B_relax : L2.Binds K fd_relax ["bounds", "columns", "givers"] [] := L2.FunD.bindsN F_relax fun _ _ _ _ _ _ us hl => match us, hl with | [_, _, _], _ => rfl
  obtain ⟨fd_ring_before, F_ring_before⟩ := c.def_ 2 (d := d_ring_before) rfl
  have G_ring_before : mg "ring_before" = some (.ref (He.ga K "ring_before")) := He.glo_ok X G (c.fact 2 (f := .glo "ring_before") rfl)
  have B_ring_before : L2.Binds K fd_ring_before ["givers", "place"] [] := L2.FunD.bindsN F_ring_before fun _ _ _ _ _ _ us hl => match us, hl with | [_, _], _ => rfl
  obtain ⟨fd_read_back, F_read_back⟩ := c.def_ 3 (d := d_read_back) rfl
  have G_read_back : mg "read_back" = some (.ref (He.ga K "read_back")) := He.glo_ok X G (c.fact 3 (f := .glo "read_back") rfl)
  have B_read_back : L2.Binds K fd_read_back ["many", "sightings"] [] := L2.FunD.bindsN F_read_back fun _ _ _ _ _ _ us hl => match us, hl with | [_, _], _ => rfl
  obtain ⟨fd__law_stream, F__law_stream⟩ := c.def_ 4 (d := d__law_stream) rfl
  have G__law_stream : mg "_law_stream" = some (.ref (He.ga K "_law_stream")) := He.glo_ok X G (c.fact 4 (f := .glo "_law_stream") rfl)
  have B__law_stream : L2.Binds K fd__law_stream ["_law_script"] [] := L2.FunD.bindsN F__law_stream fun _ _ _ _ _ _ us hl => match us, hl with | [_], _ => rfl
  obtain ⟨fd__law_draw, F__law_draw⟩ := c.def_ 5 (d := d__law_draw) rfl
  have G__law_draw : mg "_law_draw" = some (.ref (He.ga K "_law_draw")) := He.glo_ok X G (c.fact 5 (f := .glo "_law_draw") rfl)
  have B__law_draw : L2.Binds K fd__law_draw ["_law_stream_here", "_law_many"] [] := L2.FunD.bindsN F__law_draw fun _ _ _ _ _ _ us hl => match us, hl with | [_, _], _ => rfl
  obtain ⟨fd__law_is_int, F__law_is_int⟩ := c.def_ 6 (d := d__law_is_int) rfl
  have G__law_is_int : mg "_law_is_int" = some (.ref (He.ga K "_law_is_int")) := He.glo_ok X G (c.fact 6 (f := .glo "_law_is_int") rfl)
  have B__law_is_int : L2.Binds K fd__law_is_int ["_law_value", "_law_low", "_law_high"] [] := L2.FunD.bindsN F__law_is_int fun _ _ _ _ _ _ us hl => match us, hl with | [_, _, _], _ => rfl
  obtain ⟨fd__law_row_drawn, F__law_row_drawn⟩ := c.def_ 7 (d := d__law_row_drawn) rfl
  have G__law_row_drawn : mg "_law_row_drawn" = some (.ref (He.ga K "_law_row_drawn")) := He.glo_ok X G (c.fact 7 (f := .glo "_law_row_drawn") rfl)
  have B__law_row_drawn : L2.Binds K fd__law_row_drawn ["_law_stream_here", "_law_most"] [] := L2.FunD.bindsN F__law_row_drawn fun _ _ _ _ _ _ us hl => match us, hl with | [_, _], _ => rfl
  obtain ⟨fd__law_width_drawn, F__law_width_drawn⟩ := c.def_ 8 (d := d__law_width_drawn) rfl
  have G__law_width_drawn : mg "_law_width_drawn" = some (.ref (He.ga K "_law_width_drawn")) := He.glo_ok X G (c.fact 8 (f := .glo "_law_width_drawn") rfl)
  have B__law_width_drawn : L2.Binds K fd__law_width_drawn ["_law_stream_here", "_law_row"] [] := L2.FunD.bindsN F__law_width_drawn fun _ _ _ _ _ _ us hl => match us, hl with | [_, _], _ => rfl
  obtain ⟨fd__law_greedy, F__law_greedy⟩ := c.def_ 9 (d := d__law_greedy) rfl
  have G__law_greedy : mg "_law_greedy" = some (.ref (He.ga K "_law_greedy")) := He.glo_ok X G (c.fact 9 (f := .glo "_law_greedy") rfl)
  have B__law_greedy : L2.Binds K fd__law_greedy ["_law_row", "_law_width"] [] := L2.FunD.bindsN F__law_greedy fun _ _ _ _ _ _ us hl => match us, hl with | [_, _], _ => rfl
  obtain ⟨fd__law_seen_at, F__law_seen_at⟩ := c.def_ 10 (d := d__law_seen_at) rfl
  have G__law_seen_at : mg "_law_seen_at" = some (.ref (He.ga K "_law_seen_at")) := He.glo_ok X G (c.fact 10 (f := .glo "_law_seen_at") rfl)
  have B__law_seen_at : L2.Binds K fd__law_seen_at ["_law_stream_here", "_law_row"] [] := L2.FunD.bindsN F__law_seen_at fun _ _ _ _ _ _ us hl => match us, hl with | [_, _], _ => rfl
  obtain ⟨fd__law_sightings, F__law_sightings⟩ := c.def_ 11 (d := d__law_sightings) rfl
  have G__law_sightings : mg "_law_sightings" = some (.ref (He.ga K "_law_sightings")) := He.glo_ok X G (c.fact 11 (f := .glo "_law_sightings") rfl)
  have B__law_sightings : L2.Binds K fd__law_sightings ["_law_stream_here", "_law_most"] [] := L2.FunD.bindsN F__law_sightings fun _ _ _ _ _ _ us hl => match us, hl with | [_, _], _ => rfl
  obtain ⟨fd__law_agrees, F__law_agrees⟩ := c.def_ 12 (d := d__law_agrees) rfl
  have G__law_agrees : mg "_law_agrees" = some (.ref (He.ga K "_law_agrees")) := He.glo_ok X G (c.fact 12 (f := .glo "_law_agrees") rfl)
  have B__law_agrees : L2.Binds K fd__law_agrees ["_law_row", "_law_sightings_here"] [] := L2.FunD.bindsN F__law_agrees fun _ _ _ _ _ _ us hl => match us, hl with | [_, _], _ => rfl
  obtain ⟨fd__law_bounds, F__law_bounds⟩ := c.def_ 13 (d := d__law_bounds) rfl
  have G__law_bounds : mg "_law_bounds" = some (.ref (He.ga K "_law_bounds")) := He.glo_ok X G (c.fact 13 (f := .glo "_law_bounds") rfl)
  have B__law_bounds : L2.Binds K fd__law_bounds ["_law_many", "_law_sightings_here"] [] := L2.FunD.bindsN F__law_bounds fun _ _ _ _ _ _ us hl => match us, hl with | [_, _], _ => rfl
  obtain ⟨fd__law_is_ring, F__law_is_ring⟩ := c.def_ 14 (d := d__law_is_ring) rfl
  have G__law_is_ring : mg "_law_is_ring" = some (.ref (He.ga K "_law_is_ring")) := He.glo_ok X G (c.fact 14 (f := .glo "_law_is_ring") rfl)
  have B__law_is_ring : L2.Binds K fd__law_is_ring ["_law_many", "_law_sightings_here", "_law_value"] [] := L2.FunD.bindsN F__law_is_ring fun _ _ _ _ _ _ us hl => match us, hl with | [_, _, _], _ => rfl
  obtain ⟨fd__law_is_row, F__law_is_row⟩ := c.def_ 15 (d := d__law_is_row) rfl
  have G__law_is_row : mg "_law_is_row" = some (.ref (He.ga K "_law_is_row")) := He.glo_ok X G (c.fact 15 (f := .glo "_law_is_row") rfl)
  have B__law_is_row : L2.Binds K fd__law_is_row ["_law_value"] [] := L2.FunD.bindsN F__law_is_row fun _ _ _ _ _ _ us hl => match us, hl with | [_], _ => rfl
  obtain ⟨fd__law_right, F__law_right⟩ := c.def_ 16 (d := d__law_right) rfl
  have G__law_right : mg "_law_right" = some (.ref (He.ga K "_law_right")) := He.glo_ok X G (c.fact 16 (f := .glo "_law_right") rfl)
  have B__law_right : L2.Binds K fd__law_right ["_law_many", "_law_seen"] [] := L2.FunD.bindsN F__law_right fun _ _ _ _ _ _ us hl => match us, hl with | [_, _], _ => rfl
  obtain ⟨fd_law, F_law⟩ := c.def_ 17 (d := d_law) rfl
  have G_law : mg "law" = some (.ref (He.ga K "law")) := He.glo_ok X G (c.fact 17 (f := .glo "law") rfl)
  have B_law : L2.Binds K fd_law ["_law_script"] [] := L2.FunD.bindsN F_law fun _ _ _ _ _ _ us hl => match us, hl with | [_], _ => rfl
  simp only [exl, Bool.and_eq_true] at hx
  have h0 := hx
  have T : Txt K mg := ⟨fd_bounds_of, F_bounds_of, ⟨G_bounds_of, F_bounds_of.kp, B_bounds_of⟩, fd_relax, F_relax, ⟨G_relax, F_relax.kp, B_relax⟩, fd_ring_before, F_ring_before, ⟨G_ring_before, F_ring_before.kp, B_ring_before⟩, fd_read_back, F_read_back, ⟨G_read_back, F_read_back.kp, B_read_back⟩, fd__law_stream, F__law_stream, ⟨G__law_stream, F__law_stream.kp, B__law_stream⟩, fd__law_draw, F__law_draw, ⟨G__law_draw, F__law_draw.kp, B__law_draw⟩, fd__law_is_int, F__law_is_int, ⟨G__law_is_int, F__law_is_int.kp, B__law_is_int⟩, fd__law_row_drawn, F__law_row_drawn, ⟨G__law_row_drawn, F__law_row_drawn.kp, B__law_row_drawn⟩, fd__law_width_drawn, F__law_width_drawn, ⟨G__law_width_drawn, F__law_width_drawn.kp, B__law_width_drawn⟩, fd__law_greedy, F__law_greedy, ⟨G__law_greedy, F__law_greedy.kp, B__law_greedy⟩, fd__law_seen_at, F__law_seen_at, ⟨G__law_seen_at, F__law_seen_at.kp, B__law_seen_at⟩, fd__law_sightings, F__law_sightings, ⟨G__law_sightings, F__law_sightings.kp, B__law_sightings⟩, fd__law_agrees, F__law_agrees, ⟨G__law_agrees, F__law_agrees.kp, B__law_agrees⟩, fd__law_bounds, F__law_bounds, ⟨G__law_bounds, F__law_bounds.kp, B__law_bounds⟩, fd__law_is_ring, F__law_is_ring, ⟨G__law_is_ring, F__law_is_ring.kp, B__law_is_ring⟩, fd__law_is_row, F__law_is_row, ⟨G__law_is_row, F__law_is_row.kp, B__law_is_row⟩, fd__law_right, F__law_right, ⟨G__law_right, F__law_right.kp, B__law_right⟩, fd_law, F_law, ⟨G_law, F_law.kp, B_law⟩, He.free_ok X G (c.fact 18 (f := .free "abs") rfl), He.free_ok X G (c.fact 19 (f := .free "bool") rfl), He.free_ok X G (c.fact 20 (f := .free "int") rfl), He.free_ok X G (c.fact 21 (f := .free "isinstance") rfl), He.free_ok X G (c.fact 22 (f := .free "len") rfl), He.free_ok X G (c.fact 23 (f := .free "list") rfl), He.free_ok X G (c.fact 24 (f := .free "max") rfl), He.free_ok X G (c.fact 25 (f := .free "min") rfl), He.free_ok X G (c.fact 26 (f := .free "range") rfl), He.free_ok X G (c.fact 27 (f := .free "repr") rfl), He.free_ok X G (c.fact 28 (f := .free "set") rfl), He.free_ok X G (c.fact 29 (f := .free "sorted") rfl), He.free_ok X G (c.fact 30 (f := .free "str") rfl), He.free_ok X G (c.fact 31 (f := .free "sum") rfl), He.free_ok X G (c.fact 32 (f := .free "tuple") rfl), He.free_ok X G (c.fact 33 (f := .free "zip") rfl), He.int_ok X G (c.fact 34 (f := .int "MAX_LENGTH" (60)) rfl)⟩
  have e := hfa.symm.trans T.D_law.mg
  cases e
  have b := L2.FunD.bindsA (ps := ["_law_script"]) T.F_law fun _ _ _ _ _ _ us hl => match us, hl with | [_], _ => rfl
  exact ⟨T.fd_law, fun s v => b s [v] rfl, fun base XB _ => T.ok_law (smB_ok h0 XB) math⟩
end Wk38
open PySem PySem.W PySem.Calls PyProof.Rows
theorem Wk38.end_ (math : Wk38.m_law (DL.lawE 6 1) (.z 0) (fun o _ => o = .rt (.bool true)) fun _ _ => False) : PySem.Challenge.rw_wrapwidths_k38_rings_read_back.Holds := by
  w_on; o_law
  refine HandSHeadRun.head_any (r := OpenLaw.row PySem.Challenge.rw_wrapwidths_k38_rings_read_back) (q := view (OpenLaw.row PySem.Challenge.rw_wrapwidths_k38_rings_read_back).prog [20]) (H := Wk38.hk) (ob := Wk38.ob) (M := 6000) (loose := ["MAX_LENGTH", "bounds_of", "relax", "ring_before", "read_back", "_law_stream", "_law_draw", "_law_is_int", "_law_row_drawn", "_law_width_drawn", "_law_greedy", "_law_seen_at", "_law_sightings", "_law_agrees", "_law_bounds", "_law_is_ring", "_law_is_row", "_law_right"])
    (d := HandSHeadRun.topDef (OpenLaw.row PySem.Challenge.rw_wrapwidths_k38_rings_read_back).prog 20) (kwd := []) Wk38.ob_eq
    (by kernel_rfl) (fun s => by kernel_rfl) Wk38.run (by kernel_rfl) (by kernel_rfl) (by kernel_rfl) (by rfl) (by first | assumption | decide +kernel) (by decide +kernel) ⟨rfl, rfl, rfl, rfl, rfl, by decide +kernel⟩ ?hw ?hc
  case hw => w_witness2
  case hc =>
    refine DL.walk_law (l := PySem.Challenge.rw_wrapwidths_k38_rings_read_back) (k := 5) (x := "_law_script") rfl (by kernel_rfl) ⟨rfl, by decide, by decide⟩ ?F
    intro w mg f h Y G hmg0
    obtain ⟨K, KX, c⟩ := Y
    have hmg : mg ("law" : PySem.Str) = some (.ref f) := by
      have e : (HandSHeadRun.topDef (OpenLaw.row PySem.Challenge.rw_wrapwidths_k38_rings_read_back).prog 20).name = ("law" : PySem.Str) := by kernel_rfl
      rw [← e]
      exact hmg0
    obtain ⟨fd, hb, hF⟩ := Wk38.facts (P := (PySem.Challenge.rw_wrapwidths_k38_rings_read_back).prog) (w := w) KX G hmg c math
    exact ⟨K, fd, KX, hb, hF⟩
end
section
namespace DL
open PySem
/-- (u, v, m): column v is at most m greater than column u -/
abbrev Bnd := Nat × Nat × Int
abbrev Cols := Nat → Int
def updF {α : Type} (f : Nat → α) (k : Nat) (y : α) : Nat → α := fun j => if j = k then y else f j
theorem updF_same {α : Type} (f : Nat → α) (k : Nat) (y : α) : updF f k y k = y := if_pos rfl
theorem updF_ne {α : Type} {f : Nat → α} {k j : Nat} {y : α} (h : j ≠ k) : updF f k y j = f j := if_neg h
structure RS where
  chg : Option Nat
  x : Cols
  g : Nat → Option Bnd
def relS (s : RS) (b : Bnd) : RS := if s.x b.1 + b.2.2 < s.x b.2.1 then ⟨some b.2.1, updF s.x b.2.1 (s.x b.1 + b.2.2), updF s.g b.2.1 (some b)⟩ else s
def relR (bs : List Bnd) (s : RS) : RS := bs.foldl relS s
def Sol (bs : List Bnd) (y : Cols) : Prop := ∀ b ∈ bs, y b.2.1 ≤ y b.1 + b.2.2
def rnd (bs : List Bnd) (s : RS) : RS := relR bs { s with chg := none }
def rnds (bs : List Bnd) (s : RS) : Nat → RS
  | 0 => s
  | i + 1 => rnd bs (rnds bs s i)
theorem relS_le (s : RS) (b : Bnd) (k : Nat) : (relS s b).x k ≤ s.x k := by
  unfold relS
  split
  · rename_i h
    show updF s.x b.2.1 _ k ≤ _
    by_cases e : k = b.2.1
    · subst e; rw [updF_same]; omega
    · rw [updF_ne e]; exact Int.le_refl _
  · exact Int.le_refl _
theorem relR_le : ∀ (bs : List Bnd) (s : RS) (k : Nat), (relR bs s).x k ≤ s.x k
  | [], _, _ => Int.le_refl _
  | b :: bs, s, k => Int.le_trans (relR_le bs (relS s b) k) (relS_le s b k)
/-- nodes below n; the bounds are between them -/
def In (n : Nat) (bs : List Bnd) : Prop := ∀ b ∈ bs, b.1 < n ∧ b.2.1 < n
theorem relS_ge {n : Nat} {y : Cols} {s : RS} {b : Bnd} (hb : b.1 < n ∧ b.2.1 < n) (hy : y b.2.1 ≤ y b.1 + b.2.2) (h : ∀ k, k < n → y k ≤ s.x k) : ∀ k, k < n → y k ≤ (relS s b).x k := fun k hk => by
  unfold relS
  split
  · show _ ≤ updF s.x b.2.1 _ k
    by_cases e : k = b.2.1
    · subst e; rw [updF_same]; have := h b.1 hb.1; omega
    · rw [updF_ne e]; exact h k hk
  · exact h k hk
theorem relR_ge {n : Nat} {y : Cols} : ∀ {bs : List Bnd} {s : RS}, In n bs → Sol bs y → (∀ k, k < n → y k ≤ s.x k) → ∀ k, k < n → y k ≤ (relR bs s).x k
  | [], _, _, _, h => h
  | b :: bs, s, hi, hy, h => relR_ge (bs := bs) (fun b hb => hi b (.tail _ hb)) (fun b hb => hy b (.tail _ hb)) (relS_ge (hi b (.head _)) (hy b (.head _)) h)
theorem relS_chg {s : RS} {b : Bnd} (h : (relS s b).chg = none) : relS s b = s ∧ s.x b.2.1 ≤ s.x b.1 + b.2.2 := by
  unfold relS at h ⊢
  by_cases c : s.x b.1 + b.2.2 < s.x b.2.1
  · rw [if_pos c] at h; cases h
  · rw [if_neg c]; exact ⟨rfl, by omega⟩
theorem relR_none : ∀ {bs : List Bnd} {s : RS}, (relR bs s).chg = none → relR bs s = s ∧ Sol bs s.x ∧ s.chg = none
  | [], s, h => ⟨rfl, (fun b hb => by cases hb), h⟩
  | b :: bs, s, h => by
    have h' : (relR bs (relS s b)).chg = none := h
    obtain ⟨h1, h2, h3⟩ := relR_none h'
    obtain ⟨e1, e2⟩ := relS_chg h3
    rw [e1] at h1 h2 h3
    refine ⟨?_, fun b' hb => ?_, h3⟩
    · show relR bs (relS s b) = s
      rw [e1, h1]
    · rcases List.mem_cons.mp hb with rfl | hb
      · exact e2
      · exact h2 b' hb
theorem relR_sol : ∀ {bs : List Bnd} {s : RS}, Sol bs s.x → relR bs s = s
  | [], _, _ => rfl
  | b :: bs, s, h => by
    have e : relS s b = s := by
      unfold relS
      rw [if_neg (by have := h b (.head _); omega)]
    show relR bs (relS s b) = s
    rw [e]
    exact relR_sol fun b hb => h b (.tail _ hb)
theorem rnds_le (bs : List Bnd) (s : RS) (k i : Nat) : (rnds bs s (i + 1)).x k ≤ (rnds bs s i).x k := relR_le bs _ k
theorem rnds_ge {n : Nat} {bs : List Bnd} {y : Cols} {s : RS} (hi : In n bs) (hy : Sol bs y) (h : ∀ k, k < n → y k ≤ s.x k) : ∀ i k, k < n → y k ≤ (rnds bs s i).x k
  | 0, k, hk => h k hk
  | i + 1, k, hk => relR_ge (s := { rnds bs s i with chg := none }) hi hy (fun k hk => rnds_ge hi hy h i k hk) k hk
/-- what is changed is smaller somewhere below n -/
theorem relR_sum {n : Nat} : ∀ {bs : List Bnd} {s : RS}, In n bs → (relR bs s).chg ≠ s.chg ∨ (relR bs s).chg ≠ none → (∃ k, k < n ∧ (relR bs s).x k < s.x k) ∨ ((relR bs s).chg = s.chg)
  | [], s, _, _ => .inr rfl
  | b :: bs, s, hi, h => by
    by_cases c : s.x b.1 + b.2.2 < s.x b.2.1
    · refine .inl ⟨b.2.1, (hi b (.head _)).2, Int.lt_of_le_of_lt (relR_le bs (relS s b) _) ?_⟩
      unfold relS
      rw [if_pos c]
      show updF s.x b.2.1 _ b.2.1 < _
      rw [updF_same]
      exact c
    · have e : relS s b = s := by unfold relS; rw [if_neg c]
      have e2 : relR (b :: bs) s = relR bs s := by show relR bs (relS s b) = _; rw [e]
      rw [e2] at h ⊢
      exact relR_sum (fun b hb => hi b (.tail _ hb)) h
theorem rnd_down {n : Nat} {bs : List Bnd} {s : RS} (hi : In n bs) (h : (rnd bs s).chg ≠ none) : ∃ k, k < n ∧ (rnd bs s).x k < s.x k := by
  rcases relR_sum (s := { s with chg := none }) hi (.inr h) with r | r
  · exact r
  · exact absurd r h
def dist (x y : Cols) : Nat → Nat
  | 0 => 0
  | n + 1 => dist x y n + (x n - y n).toNat
theorem dist_le {x x' y : Cols} : ∀ {n : Nat}, (∀ k, k < n → x' k ≤ x k) → dist x' y n ≤ dist x y n
  | 0, _ => Nat.le_refl _
  | n + 1, h => by
    have := dist_le (n := n) (y := y) fun k hk => h k (by omega)
    have := h n (by omega)
    show dist x' y n + (x' n - y n).toNat ≤ dist x y n + (x n - y n).toNat
    omega
theorem dist_lt {x x' y : Cols} {k : Nat} : ∀ {n : Nat}, (∀ k, k < n → x' k ≤ x k) → k < n → x' k < x k → y k ≤ x' k → dist x' y n < dist x y n
  | 0, _, hk, _, _ => by omega
  | n + 1, h, hk, h1, h2 => by
    have h0 := h n (by omega)
    show dist x' y n + (x' n - y n).toNat < dist x y n + (x n - y n).toNat
    by_cases e : k = n
    · subst e
      have := dist_le (n := k) (y := y) fun j hj => h j (by omega)
      omega
    · have := dist_lt (n := n) (fun j hj => h j (by omega)) (show k < n by omega) h1 h2
      omega
theorem rnds_stop {n : Nat} {bs : List Bnd} {y : Cols} (hi : In n bs) (hy : Sol bs y) : ∀ (d : Nat) (s : RS), dist s.x y n ≤ d → (∀ k, k < n → y k ≤ s.x k) → ∃ T, Sol bs (rnds bs s T).x
  | d, s, hd, h => by
    by_cases c : (rnd bs s).chg = none
    · obtain ⟨e, so, _⟩ := relR_none c
      exact ⟨0, so⟩
    · obtain ⟨k, hk, lt⟩ := rnd_down hi c
      have ge : ∀ k, k < n → y k ≤ (rnd bs s).x k := relR_ge (s := { s with chg := none }) hi hy h
      have dl := dist_lt (y := y) (fun j _ => relR_le bs { s with chg := none } j) hk lt (ge k hk)
      have dl' : dist (rnd bs s).x y n < dist s.x y n := dl
      match d, hd with
      | 0, hd => omega
      | d + 1, hd =>
        obtain ⟨T, hT⟩ := rnds_stop hi hy d (rnd bs s) (by omega) ge
        refine ⟨T + 1, ?_⟩
        have e : ∀ i, rnds bs (rnd bs s) i = rnds bs s (i + 1) := fun i => by
          induction i with
          | zero => rfl
          | succ i ih => show rnd bs (rnds bs (rnd bs s) i) = rnd bs (rnds bs s (i + 1)); rw [ih]
        rw [← e]
        exact hT
theorem cnt_up {p q : Nat → Bool} : ∀ {l : List Nat}, (∀ k ∈ l, p k = true → q k = true) → l.countP p ≤ l.countP q
  | [], _ => Nat.le_refl _
  | a :: l, h => by
    have ih := cnt_up (l := l) fun k hk => h k (.tail _ hk)
    rw [List.countP_cons, List.countP_cons]
    have := h a (.head _)
    cases hp : p a with
    | false => cases q a <;> simp <;> omega
    | true => rw [this hp]; simp; omega
theorem cnt_more {p q : Nat → Bool} {v : Nat} : ∀ {l : List Nat}, (∀ k ∈ l, p k = true → q k = true) → v ∈ l → p v = false → q v = true → l.countP p + 1 ≤ l.countP q
  | [], _, hv, _, _ => by cases hv
  | a :: l, h, hv, h1, h2 => by
    rw [List.countP_cons, List.countP_cons]
    rcases List.mem_cons.mp hv with rfl | hv
    · have ih := cnt_up (l := l) fun k hk => h k (.tail _ hk)
      rw [h1, h2]
      simp
      omega
    · have ih := cnt_more (l := l) (fun k hk => h k (.tail _ hk)) hv h1 h2
      have := h a (.head _)
      cases hp : p a with
      | false => cases q a <;> simp <;> omega
      | true => rw [this hp]; simp; omega
/-- when a bound is met whose first column is already at its end, so is the second one behind it -/
theorem relR_fin {n : Nat} {z : Cols} {b : Bnd} : ∀ {bs : List Bnd} {s : RS}, In n bs → Sol bs z → (∀ k, k < n → z k ≤ s.x k) → b ∈ bs → s.x b.1 = z b.1 → z b.2.1 = z b.1 + b.2.2 → (relR bs s).x b.2.1 = z b.2.1
  | [], _, _, _, _, hb, _, _ => by cases hb
  | c :: bs, s, hi, hz, h, hb, h1, h2 => by
    have ge := relS_ge (s := s) (hi c (.head _)) (hz c (.head _)) h
    have hi' : In n bs := fun b hb => hi b (.tail _ hb)
    have hz' : Sol bs z := fun b hb => hz b (.tail _ hb)
    rcases List.mem_cons.mp hb with rfl | hb
    · have e : (relS s b).x b.2.1 ≤ z b.2.1 := by
        unfold relS
        by_cases c : s.x b.1 + b.2.2 < s.x b.2.1
        · rw [if_pos c]
          show updF s.x b.2.1 _ b.2.1 ≤ _
          rw [updF_same]
          omega
        · rw [if_neg c]
          omega
      have l := relR_le bs (relS s b) b.2.1
      have g := relR_ge hi' hz' ge b.2.1 (hi b (.head _)).2
      show (relR bs (relS s b)).x b.2.1 = _
      omega
    · have bn := (hi b (.tail _ hb)).1
      have e1 : (relS s c).x b.1 = z b.1 := by
        have := relS_le s c b.1
        have := ge b.1 bn
        omega
      exact relR_fin (bs := bs) (s := relS s c) hi' hz' ge hb e1 h2
/-- the columns at their end: what no bounds make smaller -/
theorem rnds_all {n : Nat} {bs : List Bnd} {y : Cols} {s : RS} (hn : 0 < n) (hi : In n bs) (hy : Sol bs y) (h0 : ∀ k, k < n → s.x k = 0) (hy0 : ∀ k, k < n → y k ≤ 0) : (rnds bs s (n + 1)).chg = none ∧ Sol bs (rnds bs s (n + 1)).x := by
  obtain ⟨T, hT⟩ := rnds_stop hi hy _ s (Nat.le_refl _) (fun k hk => by rw [h0 k hk]; exact hy0 k hk)
  -- the greatest solution below 0
  generalize hz : (rnds bs s T).x = z at hT
  have zle : ∀ k, k < n → z k ≤ 0 := fun k hk => by
    rw [← hz, ← h0 k hk]
    have : ∀ i, (rnds bs s i).x k ≤ s.x k := fun i => by
      induction i with
      | zero => exact Int.le_refl _
      | succ i ih => exact Int.le_trans (rnds_le bs s k i) ih
    exact this T
  have top : ∀ u : Cols, Sol bs u → (∀ k, k < n → u k ≤ 0) → ∀ k, k < n → u k ≤ z k := fun u hu u0 k hk => by
    rw [← hz]
    exact rnds_ge hi hu (fun k hk => by rw [h0 k hk]; exact u0 k hk) T k hk
  have zx : ∀ i k, k < n → z k ≤ (rnds bs s i).x k := fun i k hk => rnds_ge hi hT (fun k hk => by rw [h0 k hk]; exact zle k hk) i k hk
  let p : Nat → Nat → Bool := fun i k => decide ((rnds bs s i).x k = z k)
  have keep : ∀ i k, k < n → p i k = true → p (i + 1) k = true := fun i k hk h => by
    have h := of_decide_eq_true h
    have := rnds_le bs s k i
    have := zx (i + 1) k hk
    exact decide_eq_true (by omega)
  have grow : ∀ i, i + 1 ≤ (List.range n).countP (p i) ∨ (List.range n).countP (p i) = n := fun i => by
    induction i with
    | zero =>
      left
      by_cases c : ∃ k, k < n ∧ z k = 0
      · obtain ⟨k, hk, ek⟩ := c
        exact List.countP_pos_iff.mpr ⟨k, List.mem_range.mpr hk, decide_eq_true (by rw [ek]; exact h0 k hk)⟩
      · have := top (fun k => z k + 1) (fun b hb => by have := hT b hb; show z b.2.1 + 1 ≤ z b.1 + 1 + b.2.2; omega) (fun k hk => by have := zle k hk; have : z k ≠ 0 := fun e => c ⟨k, hk, e⟩; show z k + 1 ≤ 0; omega) 0 hn
        have : z 0 + 1 ≤ z 0 := this
        omega
    | succ i ih =>
      have mono := cnt_up (p := p i) (q := p (i + 1)) (l := List.range n) fun k hk => keep i k (List.mem_range.mp hk)
      have cl : (List.range n).countP (p (i + 1)) ≤ n := by
        have := List.countP_le_length (p := p (i + 1)) (l := List.range n)
        rw [List.length_range] at this
        exact this
      rcases ih with ih | ih
      · by_cases c : ∃ b ∈ bs, p i b.1 = true ∧ p i b.2.1 = false ∧ z b.2.1 = z b.1 + b.2.2
        · obtain ⟨b, hb, c1, c2, c3⟩ := c
          have fin := relR_fin (s := { rnds bs s i with chg := none }) hi hT (zx i) hb (of_decide_eq_true c1) c3
          have := cnt_more (p := p i) (q := p (i + 1)) (v := b.2.1) (l := List.range n) (fun k hk => keep i k (List.mem_range.mp hk)) (List.mem_range.mpr (hi b hb).2) c2 (decide_eq_true fin)
          left
          omega
        · -- no such bound: all are at their end
          right
          have all : ∀ k, k < n → p i k = true := fun k hk => by
            by_cases e : p i k = true
            · exact e
            · have so : Sol bs fun k => if p i k = true then z k else z k + 1 := fun b hb => by
                have hb' := hT b hb
                show (if p i b.2.1 = true then z b.2.1 else z b.2.1 + 1) ≤ (if p i b.1 = true then z b.1 else z b.1 + 1) + b.2.2
                by_cases e1 : p i b.1 = true
                · by_cases e2 : p i b.2.1 = true
                  · rw [if_pos e1, if_pos e2]; exact hb'
                  · rw [if_pos e1, if_neg e2]
                    have : z b.2.1 ≠ z b.1 + b.2.2 := fun e3 => c ⟨b, hb, e1, by simpa using e2, e3⟩
                    omega
                · by_cases e2 : p i b.2.1 = true
                  · rw [if_neg e1, if_pos e2]; omega
                  · rw [if_neg e1, if_neg e2]; omega
              have le0 : ∀ k, k < n → (if p i k = true then z k else z k + 1) ≤ 0 := fun k hk => by
                by_cases e : p i k = true
                · rw [if_pos e]; exact zle k hk
                · rw [if_neg e]
                  have e : (rnds bs s i).x k ≠ z k := by simpa [p] using e
                  have := zx i k hk
                  have : (rnds bs s i).x k ≤ 0 := by
                    have : ∀ i, (rnds bs s i).x k ≤ s.x k := fun i => by
                      induction i with
                      | zero => exact Int.le_refl _
                      | succ i ih => exact Int.le_trans (rnds_le bs s k i) ih
                    have := this i
                    rw [h0 k hk] at this
                    exact this
                  omega
              have t : (if p i k = true then z k else z k + 1) ≤ z k := top _ so le0 k hk
              rw [if_neg e] at t
              omega
          have full : (List.range n).countP (p i) = (List.range n).length := List.countP_eq_length.mpr fun k hk => all k (List.mem_range.mp hk)
          rw [List.length_range] at full
          omega
      · right
        omega
  have full : (List.range n).countP (p n) = n := by
    have cl : (List.range n).countP (p n) ≤ n := by
      have := List.countP_le_length (p := p n) (l := List.range n)
      rw [List.length_range] at this
      exact this
    rcases grow n with h | h <;> omega
  have eq : ∀ k, k < n → (rnds bs s n).x k = z k := fun k hk => by
    have := List.countP_eq_length.mp (by rw [full, List.length_range] : (List.range n).countP (p n) = (List.range n).length) k (List.mem_range.mpr hk)
    exact of_decide_eq_true this
  have so : Sol bs (rnds bs s n).x := fun b hb => by
    have := hT b hb
    rw [eq _ (hi b hb).1, eq _ (hi b hb).2]
    exact this
  have e : rnds bs s (n + 1) = { rnds bs s n with chg := none } := relR_sol (s := { rnds bs s n with chg := none }) so
  rw [e]
  exact ⟨rfl, so⟩
end DL
end
section
namespace DL
open PySem
/-- with the time at which each column was changed last -/
structure TS where
  s : RS
  t : Nat → Nat
  c : Nat
def stT (q : TS) (b : Bnd) : TS := if q.s.x b.1 + b.2.2 < q.s.x b.2.1 then ⟨relS q.s b, updF q.t b.2.1 (q.c + 1), q.c + 1⟩ else q
theorem stT_s (q : TS) (b : Bnd) : (stT q b).s = relS q.s b := by
  unfold stT
  split
  · rfl
  · rename_i h
    unfold relS
    rw [if_neg h]
def stR (bs : List Bnd) (q : TS) : TS := bs.foldl stT q
theorem stR_s : ∀ (bs : List Bnd) (q : TS), (stR bs q).s = relR bs q.s
  | [], _ => rfl
  | b :: bs, q => by
    show (stR bs (stT q b)).s = relR bs (relS q.s b)
    rw [stR_s bs, stT_s]
def stRnd (bs : List Bnd) (q : TS) : TS := stR bs { q with s := { q.s with chg := none } }
theorem stRnd_s (bs : List Bnd) (q : TS) : (stRnd bs q).s = rnd bs q.s := stR_s bs _
def stRnds (bs : List Bnd) (q : TS) : Nat → TS
  | 0 => q
  | i + 1 => stRnd bs (stRnds bs q i)
theorem stRnds_s (bs : List Bnd) (q : TS) : ∀ i, (stRnds bs q i).s = rnds bs q.s i
  | 0 => rfl
  | i + 1 => by
    show (stRnd bs (stRnds bs q i)).s = rnd bs (rnds bs q.s i)
    rw [stRnd_s, stRnds_s bs q i]
/-- who gave last: when, and how much -/
structure Giv (bs : List Bnd) (q : TS) : Prop where
  le : ∀ v, q.t v ≤ q.c
  no : ∀ v, q.s.g v = none → q.t v = 0
  yes : ∀ v b, q.s.g v = some b → 0 < q.t v ∧ b.2.1 = v ∧ b ∈ bs ∧ ((q.t b.1 < q.t v ∧ q.s.x v = q.s.x b.1 + b.2.2) ∨ (q.t v < q.t b.1 ∧ q.s.x b.1 + b.2.2 < q.s.x v))
def Apart2 (bs : List Bnd) : Prop := ∀ b ∈ bs, b.1 ≠ b.2.1
theorem stT_giv {bs : List Bnd} {q : TS} {b : Bnd} (ha : Apart2 bs) (hb : b ∈ bs) (h : Giv bs q) : Giv bs (stT q b) := by
  unfold stT
  split
  · rename_i hc
    have hne := ha b hb
    have es : relS q.s b = ⟨some b.2.1, updF q.s.x b.2.1 (q.s.x b.1 + b.2.2), updF q.s.g b.2.1 (some b)⟩ := by unfold relS; rw [if_pos hc]
    rw [es]
    refine ⟨fun v => ?_, fun v hv => ?_, fun v b' hv => ?_⟩
    · show updF q.t b.2.1 (q.c + 1) v ≤ q.c + 1
      by_cases e : v = b.2.1
      · rw [e, updF_same]; exact Nat.le_refl _
      · rw [updF_ne e]; have := h.le v; omega
    · have hv : updF q.s.g b.2.1 (some b) v = none := hv
      show updF q.t b.2.1 (q.c + 1) v = 0
      by_cases e : v = b.2.1
      · rw [e, updF_same] at hv; cases hv
      · rw [updF_ne e] at hv ⊢; exact h.no v hv
    · have hv : updF q.s.g b.2.1 (some b) v = some b' := hv
      show 0 < updF q.t b.2.1 (q.c + 1) v ∧ b'.2.1 = v ∧ b' ∈ bs ∧ ((updF q.t b.2.1 (q.c + 1) b'.1 < updF q.t b.2.1 (q.c + 1) v ∧ updF q.s.x b.2.1 (q.s.x b.1 + b.2.2) v = updF q.s.x b.2.1 (q.s.x b.1 + b.2.2) b'.1 + b'.2.2) ∨
        (updF q.t b.2.1 (q.c + 1) v < updF q.t b.2.1 (q.c + 1) b'.1 ∧ updF q.s.x b.2.1 (q.s.x b.1 + b.2.2) b'.1 + b'.2.2 < updF q.s.x b.2.1 (q.s.x b.1 + b.2.2) v))
      by_cases e : v = b.2.1
      · subst e
        rw [updF_same] at hv
        cases hv
        rw [updF_same, updF_same, updF_ne hne, updF_ne hne]
        have := h.le b.1
        exact ⟨Nat.succ_pos _, rfl, hb, .inl ⟨by omega, rfl⟩⟩
      · rw [updF_ne e] at hv
        obtain ⟨h1, h2, h3, h4⟩ := h.yes v b' hv
        rw [updF_ne e, updF_ne e]
        refine ⟨h1, h2, h3, ?_⟩
        by_cases e2 : b'.1 = b.2.1
        · rw [e2, updF_same, updF_same]
          rw [e2] at h4
          have := h.le v
          refine .inr ⟨by omega, ?_⟩
          rcases h4 with ⟨_, h4⟩ | ⟨_, h4⟩ <;> omega
        · rw [updF_ne e2, updF_ne e2]
          exact h4
  · exact h
theorem stT_c (q : TS) (b : Bnd) : q.c ≤ (stT q b).c ∧ ∀ v, q.t v ≤ q.c → q.t v ≤ (stT q b).t v := by
  unfold stT
  split
  · refine ⟨Nat.le_succ _, fun v hv => ?_⟩
    show _ ≤ updF q.t b.2.1 (q.c + 1) v
    by_cases e : v = b.2.1
    · rw [e, updF_same]; rw [e] at hv; omega
    · rw [updF_ne e]; exact Nat.le_refl _
  · exact ⟨Nat.le_refl _, fun v _ => Nat.le_refl _⟩
theorem stR_giv {bs : List Bnd} (ha : Apart2 bs) : ∀ {cs : List Bnd} {q : TS}, (∀ b ∈ cs, b ∈ bs) → Giv bs q → Giv bs (stR cs q)
  | [], _, _, h => h
  | b :: cs, q, hs, h => stR_giv ha (cs := cs) (fun b hb => hs b (.tail _ hb)) (stT_giv ha (hs b (.head _)) h)
theorem stR_c {bs : List Bnd} (ha : Apart2 bs) : ∀ {cs : List Bnd} {q : TS}, (∀ b ∈ cs, b ∈ bs) → Giv bs q → q.c ≤ (stR cs q).c ∧ ∀ v, q.t v ≤ (stR cs q).t v
  | [], _, _, _ => ⟨Nat.le_refl _, fun _ => Nat.le_refl _⟩
  | b :: cs, q, hs, h => by
    have g := stT_giv ha (hs b (.head _)) h
    obtain ⟨h1, h2⟩ := stR_c ha (cs := cs) (q := stT q b) (fun b hb => hs b (.tail _ hb)) g
    obtain ⟨k1, k2⟩ := stT_c q b
    exact ⟨Nat.le_trans k1 h1, fun v => Nat.le_trans (k2 v (h.le v)) (h2 v)⟩
/-- a bound holds, or its first column was changed after T -/
def Late (T : Nat) (q : TS) (b : Bnd) : Prop := q.s.x b.2.1 ≤ q.s.x b.1 + b.2.2 ∨ T < q.t b.1
theorem stT_late {T : Nat} {q : TS} {b b' : Bnd} (hT : T ≤ q.c) (h : Late T q b') : Late T (stT q b) b' := by
  unfold stT
  split
  · rename_i hc
    have es : relS q.s b = ⟨some b.2.1, updF q.s.x b.2.1 (q.s.x b.1 + b.2.2), updF q.s.g b.2.1 (some b)⟩ := by unfold relS; rw [if_pos hc]
    rw [es]
    show updF q.s.x b.2.1 (q.s.x b.1 + b.2.2) b'.2.1 ≤ updF q.s.x b.2.1 (q.s.x b.1 + b.2.2) b'.1 + b'.2.2 ∨ T < updF q.t b.2.1 (q.c + 1) b'.1
    by_cases e : b'.1 = b.2.1
    · right
      rw [e, updF_same]
      omega
    · rw [updF_ne e, updF_ne e]
      rcases h with h | h
      · left
        by_cases e2 : b'.2.1 = b.2.1
        · rw [e2, updF_same]; rw [e2] at h; omega
        · rw [updF_ne e2]; exact h
      · exact .inr h
  · exact h
theorem stT_late0 {T : Nat} {q : TS} {b : Bnd} (hne : b.1 ≠ b.2.1) : Late T (stT q b) b := by
  unfold stT
  split
  · rename_i hc
    have es : relS q.s b = ⟨some b.2.1, updF q.s.x b.2.1 (q.s.x b.1 + b.2.2), updF q.s.g b.2.1 (some b)⟩ := by unfold relS; rw [if_pos hc]
    rw [es]
    left
    show updF q.s.x b.2.1 (q.s.x b.1 + b.2.2) b.2.1 ≤ updF q.s.x b.2.1 (q.s.x b.1 + b.2.2) b.1 + b.2.2
    rw [updF_same, updF_ne hne]
    exact Int.le_refl _
  · left
    omega
theorem stR_late {T : Nat} {b' : Bnd} : ∀ {cs : List Bnd} {q : TS}, T ≤ q.c → Late T q b' → Late T (stR cs q) b'
  | [], _, _, h => h
  | b :: cs, q, hT, h => stR_late (cs := cs) (Nat.le_trans hT (stT_c q b).1) (stT_late hT h)
theorem stR_lateAll {T : Nat} : ∀ {cs : List Bnd} {q : TS}, (∀ b ∈ cs, b.1 ≠ b.2.1) → T ≤ q.c → ∀ b ∈ cs, Late T (stR cs q) b
  | [], _, _, _, _, hb => by cases hb
  | c :: cs, q, hne, hT, b, hb => by
    have hT2 := Nat.le_trans hT (stT_c q c).1
    rcases List.mem_cons.mp hb with rfl | hb
    · exact stR_late (cs := cs) hT2 (stT_late0 (hne _ (.head _)))
    · exact stR_lateAll (cs := cs) (fun b hb => hne b (.tail _ hb)) hT2 b hb
/-- the sources of what is changed: with bounds that are late since T, each new giver's source is later than T -/
theorem stR_src {bs : List Bnd} (ha : Apart2 bs) {T C : Nat} : ∀ {cs : List Bnd} {q : TS}, (∀ b ∈ cs, b ∈ bs) → Giv bs q → T ≤ q.c → (∀ b ∈ cs, Late T q b) → (∀ v b, q.s.g v = some b → C < q.t v → T < q.t b.1) →
    ∀ v b, (stR cs q).s.g v = some b → C < (stR cs q).t v → T < (stR cs q).t b.1
  | [], _, _, _, _, _, h => h
  | c :: cs, q, hs, hg, hT, hl, h => by
    have g' := stT_giv ha (hs c (.head _)) hg
    refine stR_src ha (cs := cs) (q := stT q c) (fun b hb => hs b (.tail _ hb)) g' (Nat.le_trans hT (stT_c q c).1) (fun b hb => stT_late hT (hl b (.tail _ hb))) fun v b hv hC => ?_
    have mono := (stT_c q c).2
    by_cases hc : q.s.x c.1 + c.2.2 < q.s.x c.2.1
    · have es : stT q c = ⟨⟨some c.2.1, updF q.s.x c.2.1 (q.s.x c.1 + c.2.2), updF q.s.g c.2.1 (some c)⟩, updF q.t c.2.1 (q.c + 1), q.c + 1⟩ := by unfold stT relS; rw [if_pos hc, if_pos hc]
      rw [es] at hv hC
      have hv : updF q.s.g c.2.1 (some c) v = some b := hv
      have hC : C < updF q.t c.2.1 (q.c + 1) v := hC
      by_cases e : v = c.2.1
      · rw [e, updF_same] at hv
        cases hv
        rcases hl c (.head _) with l | l
        · omega
        · exact Nat.lt_of_lt_of_le l (mono _ (hg.le _))
      · rw [updF_ne e] at hv hC
        exact Nat.lt_of_lt_of_le (h v b hv hC) (mono _ (hg.le _))
    · have es : stT q c = q := by unfold stT; rw [if_neg hc]
      rw [es] at hv hC ⊢
      exact h v b hv hC
theorem stR_chg : ∀ {cs : List Bnd} {q : TS} {v : Nat}, (stR cs q).s.chg = some v → q.s.chg = some v ∨ q.c < (stR cs q).t v
  | [], _, _, h => .inl h
  | c :: cs, q, v, h => by
    have h' : (stR cs (stT q c)).s.chg = some v := h
    show _ ∨ q.c < (stR cs (stT q c)).t v
    have hc := (stT_c q c).1
    rcases stR_chg h' with h2 | h2
    · by_cases f : q.s.x c.1 + c.2.2 < q.s.x c.2.1
      · have es : stT q c = ⟨⟨some c.2.1, updF q.s.x c.2.1 (q.s.x c.1 + c.2.2), updF q.s.g c.2.1 (some c)⟩, updF q.t c.2.1 (q.c + 1), q.c + 1⟩ := by unfold stT relS; rw [if_pos f, if_pos f]
        have e1 : (stT q c).s.chg = some c.2.1 := by rw [es]
        rw [e1] at h2
        cases h2
        right
        have t1 : (stT q c).t c.2.1 = q.c + 1 := by rw [es]; exact updF_same _ _ _
        have mono : ∀ (cs : List Bnd) (q : TS) (v : Nat), q.t v ≤ q.c → q.t v ≤ (stR cs q).t v := by
          intro cs
          induction cs with
          | nil => intro q v _; exact Nat.le_refl _
          | cons d cs ih =>
            intro q v hv
            have m := (stT_c q d).2 v hv
            refine Nat.le_trans m (ih (stT q d) v ?_)
            unfold stT
            split
            · show updF q.t d.2.1 (q.c + 1) v ≤ q.c + 1
              by_cases e : v = d.2.1
              · rw [e, updF_same]; exact Nat.le_refl _
              · rw [updF_ne e]; omega
            · exact hv
        have cc : (stT q c).c = q.c + 1 := by rw [es]
        have := mono cs (stT q c) c.2.1 (by rw [t1, cc]; exact Nat.le_refl _)
        rw [t1] at this
        exact this
      · have es : stT q c = q := by unfold stT; rw [if_neg f]
        rw [es] at h2
        exact .inl h2
    · right
      omega
section
variable {bs : List Bnd} {q : TS}
theorem giv_chg {r : RS} (h : Giv bs q) (e1 : r.x = q.s.x) (e2 : r.g = q.s.g) : Giv bs { q with s := r } :=
  ⟨h.le, fun v hv => h.no v (by rw [← e2]; exact hv), fun v b hv => by
    have := h.yes v b (by rw [← e2]; exact hv)
    show _ ∧ _ ∧ _ ∧ ((_ ∧ r.x v = r.x b.1 + b.2.2) ∨ (_ ∧ r.x b.1 + b.2.2 < r.x v))
    rw [e1]
    exact this⟩
theorem rnds_giv (ha : Apart2 bs) (h : Giv bs q) : ∀ i, Giv bs (stRnds bs q i)
  | 0 => h
  | i + 1 => stR_giv ha (fun _ hb => hb) (giv_chg (rnds_giv ha h i) rfl rfl)
theorem rnds_c (ha : Apart2 bs) (h : Giv bs q) (i : Nat) : (stRnds bs q i).c ≤ (stRnds bs q (i + 1)).c ∧ ∀ v, (stRnds bs q i).t v ≤ (stRnds bs q (i + 1)).t v :=
  stR_c ha (cs := bs) (q := { stRnds bs q i with s := { (stRnds bs q i).s with chg := none } }) (fun _ hb => hb) (giv_chg (rnds_giv ha h i) rfl rfl)
theorem rnds_cm (ha : Apart2 bs) (h : Giv bs q) : ∀ {i j : Nat}, i ≤ j → (stRnds bs q i).c ≤ (stRnds bs q j).c
  | i, 0, hij => by
    obtain rfl : i = 0 := by omega
    exact Nat.le_refl _
  | i, j + 1, hij => by
    by_cases e : i = j + 1
    · rw [e]; exact Nat.le_refl _
    · exact Nat.le_trans (rnds_cm ha h (show i ≤ j by omega)) (rnds_c ha h j).1
theorem rnds_src (ha : Apart2 bs) (h : Giv bs q) : ∀ (k j : Nat), ∀ v b, (stRnds bs q k).s.g v = some b → (stRnds bs q (j + 1)).c < (stRnds bs q k).t v → (stRnds bs q j).c < (stRnds bs q k).t b.1
  | 0, j, v, b, hv, hC => by
    have := (rnds_giv ha h 0).le v
    have := rnds_cm ha h (show 0 ≤ j + 1 by omega)
    omega
  | k + 1, j, v, b, hv, hC => by
    have gk := rnds_giv ha h k
    by_cases hj : k < j + 1
    · have l1 := (rnds_giv ha h (k + 1)).le v
      have := rnds_cm ha h (show k + 1 ≤ j + 1 by omega)
      omega
    · -- the round before this one
      obtain ⟨k', rfl⟩ : ∃ k', k = k' + 1 := ⟨k - 1, by omega⟩
      have late : ∀ b ∈ bs, Late (stRnds bs q j).c (stRnds bs q (k' + 1)) b := fun b hb => by
        have gj := rnds_cm ha h (show j ≤ k' by omega)
        exact stR_lateAll (cs := bs) (T := (stRnds bs q j).c) (q := { stRnds bs q k' with s := { (stRnds bs q k').s with chg := none } }) (fun b hb => ha b hb) gj b hb
      exact stR_src ha (T := (stRnds bs q j).c) (C := (stRnds bs q (j + 1)).c) (cs := bs) (q := { stRnds bs q (k' + 1) with s := { (stRnds bs q (k' + 1)).s with chg := none } }) (fun _ hb => hb) (giv_chg gk rfl rfl)
        (rnds_cm ha h (show j ≤ k' + 1 by omega)) late (fun v b hv hC => rnds_src ha h (k' + 1) j v b hv hC) v b hv hC
theorem rnds_chg (i v : Nat) (hc : (stRnds bs q (i + 1)).s.chg = some v) : (stRnds bs q i).c < (stRnds bs q (i + 1)).t v := by
  rcases stR_chg (cs := bs) (q := { stRnds bs q i with s := { (stRnds bs q i).s with chg := none } }) hc with z | z
  · cases z
  · exact z
end
section
variable {g : Nat → Option Bnd} {n : Nat}
/-- the column that gave last -/
def src1 (g : Nat → Option Bnd) (v : Nat) : Nat := match g v with
  | some b => b.1
  | none => v
def way (g : Nat → Option Bnd) (v : Nat) : Nat → Nat
  | 0 => v
  | i + 1 => src1 g (way g v i)
theorem way_add (v i : Nat) : ∀ j, way g v (i + j) = way g (way g v i) j
  | 0 => rfl
  | j + 1 => congrArg (src1 g) (way_add v i j)
/-- among n + 1 steps below n, two are alike -/
theorem pigeonR (f : Nat → Nat) : ∀ n, (∀ i ≤ n, f i < n) → ∃ i j, i < j ∧ j ≤ n ∧ f i = f j
  | 0, h => absurd (h 0 (Nat.le_refl _)) (Nat.not_lt_zero _)
  | n + 1, h => by
    by_cases c : ∃ i, i < n + 1 ∧ f i = f (n + 1)
    · obtain ⟨i, hi, e⟩ := c
      exact ⟨i, n + 1, hi, Nat.le_refl _, e⟩
    · -- replace the greatest value
      have c' : ∀ i, i < n + 1 → f i ≠ f (n + 1) := fun i hi e => c ⟨i, hi, e⟩
      obtain ⟨i, j, h1, h2, h3⟩ := pigeonR (fun i => if f i = n then f (n + 1) else f i) n fun i hi => by
        have a := h i (by omega)
        have b := h (n + 1) (Nat.le_refl _)
        have d := c' i (by omega)
        show (if f i = n then f (n + 1) else f i) < n
        split <;> omega
      refine ⟨i, j, h1, by omega, ?_⟩
      have h3 : (if f i = n then f (n + 1) else f i) = if f j = n then f (n + 1) else f j := h3
      have d1 := c' i (by omega)
      have d2 := c' j (by omega)
      split at h3 <;> split at h3 <;> omega
end
section
variable {bs : List Bnd} {n : Nat} {q : TS}
/-- the columns on the way back from one that was changed in the last of n + 1 rounds: each has a giver -/
theorem way_giv (ha : Apart2 bs) (h : Giv bs q) (h0 : q.c = 0) {k v : Nat} (hc : (stRnds bs q k).c < (stRnds bs q (k + 1)).t v) : ∀ i, i ≤ k → (stRnds bs q (k - i)).c < (stRnds bs q (k + 1)).t (way (stRnds bs q (k + 1)).s.g v i) ∧ ∃ b, (stRnds bs q (k + 1)).s.g (way (stRnds bs q (k + 1)).s.g v i) = some b
  | 0, _ => by
    refine ⟨hc, ?_⟩
    cases e : (stRnds bs q (k + 1)).s.g v with
    | some b => exact ⟨b, e⟩
    | none =>
      have := (rnds_giv ha h (k + 1)).no v e
      omega
  | i + 1, hi => by
    obtain ⟨h1, b, h2⟩ := way_giv ha h h0 hc i (by omega)
    have e : way (stRnds bs q (k + 1)).s.g v (i + 1) = b.1 := by
      show src1 _ (way (stRnds bs q (k + 1)).s.g v i) = _
      unfold src1
      rw [h2]
    have s := rnds_src ha h (k + 1) (k - (i + 1)) _ b h2 (by
      rw [show k - (i + 1) + 1 = k - i by omega]
      exact h1)
    rw [e]
    refine ⟨s, ?_⟩
    cases e2 : (stRnds bs q (k + 1)).s.g b.1 with
    | some b' => exact ⟨b', rfl⟩
    | none =>
      have := (rnds_giv ha h (k + 1)).no b.1 e2
      omega
end
/-- ring k: the givers of the columns w 0 .. w k, the last one ahead -/
def ringB (G : Nat → Bnd) (w : Nat → Nat) : Nat → List Bnd
  | 0 => [G (w 0)]
  | k + 1 => G (w (k + 1)) :: ringB G w k
theorem ringB_len (G : Nat → Bnd) (w : Nat → Nat) : ∀ k, (ringB G w k).length = k + 1
  | 0 => rfl
  | k + 1 => congrArg (· + 1) (ringB_len G w k)
theorem ringB_mem {G : Nat → Bnd} {w : Nat → Nat} {b : Bnd} : ∀ {k : Nat}, b ∈ ringB G w k → ∃ i, i ≤ k ∧ b = G (w i)
  | 0, h => ⟨0, Nat.le_refl _, List.mem_singleton.mp h⟩
  | k + 1, h => by
    rcases List.mem_cons.mp h with rfl | h
    · exact ⟨k + 1, Nat.le_refl _, rfl⟩
    · obtain ⟨i, hi, e⟩ := ringB_mem h
      exact ⟨i, by omega, e⟩
/-- each begins where the one before it ends -/
def Chained : List Bnd → Prop
  | [] => True
  | [_] => True
  | b :: c :: r => b.2.1 = c.1 ∧ Chained (c :: r)
def sumB (l : List Bnd) : Int := (l.map fun b => b.2.2).sum
structure Ring (bs : List Bnd) (l : List Bnd) : Prop where
  ne : l ≠ []
  there : ∀ b ∈ l, b ∈ bs
  chain : Chained l
  shut : ∀ b c, l.head? = some b → l.getLast? = some c → c.2.1 = b.1
  less : sumB l < 0
theorem ringB_chain {G : Nat → Bnd} {w : Nat → Nat} : ∀ k, (∀ i, i ≤ k → (G (w i)).2.1 = w i) → (∀ i, i ≤ k → (G (w i)).1 = w (i + 1)) → Chained (ringB G w k)
  | 0, _, _ => True.intro
  | 1, h1, h2 => ⟨by rw [h1 1 (by omega), h2 0 (by omega)], True.intro⟩
  | k + 2, h1, h2 => ⟨by rw [h1 (k + 2) (by omega), h2 (k + 1) (by omega)], ringB_chain (k + 1) (fun i hi => h1 i (by omega)) fun i hi => h2 i (by omega)⟩
theorem ringB_head (G : Nat → Bnd) (w : Nat → Nat) : ∀ k, (ringB G w k).head? = some (G (w k))
  | 0 => rfl
  | _ + 1 => rfl
theorem ringB_last (G : Nat → Bnd) (w : Nat → Nat) : ∀ k, (ringB G w k).getLast? = some (G (w 0))
  | 0 => rfl
  | k + 1 => by
    have := ringB_last G w k
    show (G (w (k + 1)) :: ringB G w k).getLast? = _
    cases e : ringB G w k with
    | nil => rw [e] at this; cases this
    | cons a l => rw [e] at this; rw [List.getLast?_cons_cons]; exact this
theorem ringB_sum {G : Nat → Bnd} {w : Nat → Nat} {x : Cols} : ∀ k, (∀ i, i ≤ k → x (w (i + 1)) + (G (w i)).2.2 ≤ x (w i)) → x (w (k + 1)) + sumB (ringB G w k) ≤ x (w 0)
  | 0, h => by
    have e1 : x (w 1) + (G (w 0)).2.2 ≤ x (w 0) := h 0 (Nat.le_refl _)
    show x (w 1) + ((G (w 0)).2.2 + 0) ≤ _
    omega
  | k + 1, h => by
    have a := ringB_sum k fun i hi => h i (by omega)
    have b : x (w (k + 2)) + (G (w (k + 1))).2.2 ≤ x (w (k + 1)) := h (k + 1) (Nat.le_refl _)
    show x (w (k + 2)) + ((G (w (k + 1))).2.2 + sumB (ringB G w k)) ≤ _
    omega
theorem ringB_sumS {G : Nat → Bnd} {w : Nat → Nat} {x : Cols} : ∀ k, (∀ i, i ≤ k → x (w (i + 1)) + (G (w i)).2.2 ≤ x (w i)) → (∃ i, i ≤ k ∧ x (w (i + 1)) + (G (w i)).2.2 < x (w i)) → x (w (k + 1)) + sumB (ringB G w k) < x (w 0)
  | 0, h, ⟨i, hi, hs⟩ => by
    obtain rfl : i = 0 := by omega
    have e1 : x (w 1) + (G (w 0)).2.2 < x (w 0) := hs
    show x (w 1) + ((G (w 0)).2.2 + 0) < _
    omega
  | k + 1, h, ⟨i, hi, hs⟩ => by
    have a := ringB_sum k fun i hi => h i (by omega)
    have b : x (w (k + 2)) + (G (w (k + 1))).2.2 ≤ x (w (k + 1)) := h (k + 1) (Nat.le_refl _)
    show x (w (k + 2)) + ((G (w (k + 1))).2.2 + sumB (ringB G w k)) < _
    by_cases c : i = k + 1
    · subst c
      have hs' : x (w (k + 2)) + (G (w (k + 1))).2.2 < x (w (k + 1)) := hs
      omega
    · have := ringB_sumS k (fun i hi => h i (by omega)) ⟨i, by omega, hs⟩
      omega
/-- times along a ring cannot fall all the way -/
theorem no_fall {t : Nat → Nat} {w : Nat → Nat} : ∀ k, (∀ i, i ≤ k → t (w (i + 1)) < t (w i)) → t (w (k + 1)) < t (w 0)
  | 0, h => h 0 (Nat.le_refl _)
  | k + 1, h => Nat.lt_trans (h (k + 1) (Nat.le_refl _)) (no_fall k fun i hi => h i (by omega))
end DL
end
section
namespace DL
open PySem
/-- m gives what Q says, drawing at most n times -/
def Ok {α : Type} (m : W α) (n : Nat) (Q : α → Prop) : Prop := ∀ (c : Sx) (P : α → Sx → Prop) (X : Exn → Sx → Prop), c.n + n < 2 ^ 40 → (∀ a c', (c'.n ≤ c.n + n ∧ c'.mu = c.mu) → Q a → P a c') → m c P X
section
variable {α β : Type} {m : W α} {n n' k : Nat} {Q R : α → Prop}
theorem Ok.ret {a : α} (h : Q a) : Ok (ret a) n Q := fun c P X _ k => k a c ⟨by omega, rfl⟩ h
theorem Ok.bnd {f : α → W β} {S : β → Prop} (h : Ok m n Q) (hf : ∀ a, Q a → Ok (f a) k S) : Ok (bnd m f) (n + k) S := fun c P X hc kk =>
  h c _ X (by omega) fun a c' hc' q => hf a q c' P X (by have := hc'.1; omega) fun b c'' h2 s => kk b c'' ⟨by have := hc'.1; have := h2.1; omega, h2.2.trans hc'.2⟩ s
theorem Ok.bnd' {f : α → W β} {S : β → Prop} (t : Nat) (h : Ok m n Q) (hn : n ≤ t) (hf : ∀ a, Q a → Ok (f a) (t - n) S) : Ok (DL.bnd m f) t S := by
  have := Ok.bnd h hf
  rw [Nat.add_sub_cancel' hn] at this
  exact this
theorem Ok.mono (h : Ok m n Q) (hn : n ≤ n') (hq : ∀ a, Q a → R a) : Ok m n' R := fun c P X hc kk => h c P X (by omega) fun a c' h1 h2 => kk a c' ⟨by have := h1.1; omega, h1.2⟩ (hq a h2)
theorem Ok.le (h : Ok m n Q) (hn : n ≤ n') : Ok m n' Q := h.mono hn fun _ h => h
theorem Ok.imp (h : Ok m n Q) (hq : ∀ a, Q a → R a) : Ok m n R := h.mono (Nat.le_refl _) hq
theorem Ok.grd {c : Prop} (hc : c) (h : Ok m n Q) : Ok (grd c m) n Q := by rw [grd_pos hc]; exact h
theorem Ok.eq {m' : W α} (e : m = m') (h : Ok m' n Q) : Ok m n Q := by rw [e]; exact h
theorem Ok.run {P : α → Prop} {X : Exn → Sx → Prop} (h : Ok m n Q) (hn : n < 2 ^ 40) (hq : ∀ a, Q a → P a) : m (.z 0) (fun a _ => P a) X := h (.z 0) _ X (by show 0 + n < _; omega) fun a _ _ q => hq a q
theorem Ok.draw {many : Int} (h0 : 0 < many) (h1 : many < 9223372036854775808) : Ok (fDraw [.int many]) (n + 1) (fun d => ∃ r : Int, d = .int r ∧ 0 ≤ r ∧ r < many) := fun c P X hc k =>
  ⟨⟨h0, h1, by omega⟩, fun r a b => k _ _ ⟨by show c.n + 1 ≤ _; omega, rfl⟩ ⟨r, rfl, a, b⟩⟩
theorem Ok.drawB {many : Int} {f : D → W β} {S : β → Prop} (h0 : 0 < many) (h1 : many < 9223372036854775808) (hf : ∀ r : Int, 0 ≤ r → r < many → Ok (f (.int r)) n S) : Ok (DL.bnd (fDraw [.int many]) f) (n + 1) S := by
  refine Ok.bnd' (n + 1) (Ok.draw (n := 0) h0 h1) (by omega) ?_
  rintro a ⟨r, rfl, h2, h3⟩
  exact hf r h2 h3
theorem Ok.noX (h : Ok m n Q) : Ok (noX m) n Q := fun c P X hc k => h c P _ hc k
theorem Ok.ite {c : Prop} [Decidable c] {a b : W α} (ha : c → Ok a n Q) (hb : ¬ c → Ok b n Q) : Ok (if c then a else b) n Q := by
  split
  · exact ha ‹_›
  · exact hb ‹_›
theorem bnd_ite {c : Prop} [Decidable c] (a b : W α) (f : α → W β) : DL.bnd (if c then a else b) f = if c then DL.bnd a f else DL.bnd b f := by split <;> rfl
theorem bnd_assoc {γ : Type} (m : W α) (f : α → W β) (g : β → W γ) : DL.bnd (DL.bnd m f) g = DL.bnd m fun a => DL.bnd (f a) g := id rfl
end
/-- a walk: the invariant by the turn -/
theorem forL_ok {tg : Tg} {s : XS} {b : Nat} {Q : Out → Prop} (I : Nat → Env → Prop) : ∀ (ds : List D) (i : Nat) (E : Env), I i E →
    (∀ j d E, ds[j]? = some d → I (i + j) E → ∃ E1, tg.put d E = some E1 ∧ Ok (s E1) b fun o => match o with | .nx E' => I (i + j + 1) E' | .ct E' => I (i + j + 1) E' | .bk E' => Q (.nx E') | .rt d => Q (.rt d)) →
    (∀ E, I (i + ds.length) E → Q (.nx E)) → Ok (forL tg s ds E) (ds.length * b) Q
  | [], i, E, h0, _, hd => by
    show Ok (ret (Out.nx E)) _ _
    exact Ok.ret (hd E h0)
  | d :: ds, i, E, h0, hs, hd => by
    obtain ⟨E1, e1, h1⟩ := hs 0 d E rfl h0
    show Ok (match tg.put d E with | none => stuck | some E1 => bnd (s E1) fun o => match o with
      | .nx E' => forL tg s ds E' | .ct E' => forL tg s ds E' | .bk E' => ret (.nx E') | .rt d => ret (.rt d)) _ _
    rw [e1, List.length_cons, Nat.succ_mul, Nat.add_comm]
    have rest : ∀ E', I (i + 1) E' → Ok (forL tg s ds E') (ds.length * b) Q := fun E' h' => forL_ok I ds (i + 1) E' h'
      (fun j d E hj hI => by
        have e : i + 1 + j = i + (j + 1) := by omega
        rw [e] at hI ⊢
        exact hs (j + 1) d E hj hI) fun E hI => hd E (by
        have e : i + 1 + ds.length = i + (d :: ds).length := by simp only [List.length_cons]; omega
        rw [← e]; exact hI)
    refine Ok.bnd h1 fun o ho => ?_
    cases o with
    | nx E' => exact rest E' ho
    | ct E' => exact rest E' ho
    | bk E' => exact Ok.ret ho
    | rt d => exact Ok.ret ho
theorem for_ok {tg : Tg} {s : XS} {ds : List D} {E : Env} {b t : Nat} {Q : Out → Prop} (I : Nat → Env → Prop) (h0 : I 0 E) (ht : ds.length * b ≤ t)
    (hs : ∀ j d E, ds[j]? = some d → I j E → ∃ E1, tg.put d E = some E1 ∧ Ok (s E1) b fun o => match o with | .nx E' => I (j + 1) E' | .ct E' => I (j + 1) E' | .bk E' => Q (.nx E') | .rt d => Q (.rt d))
    (hd : ∀ E, I ds.length E → Q (.nx E)) : Ok (forL tg s ds E) t Q :=
  (forL_ok (b := b) (Q := Q) I ds 0 E h0 (fun j d E h1 h2 => by rw [Nat.zero_add] at h2 ⊢; exact hs j d E h1 h2) fun E h => hd E (by rw [Nat.zero_add] at h; exact h)).le ht
/-- the new list: each item's own words -/
theorem comp_ok {tg : Tg} {t : XT} {e : XE} {b : Nat} {E : Env} {G : D → Prop} : ∀ (ds acc : List D), acc.length + ds.length ≤ 1000000 → (∀ d ∈ acc, G d) →
    (∀ d ∈ ds, ∃ E1, tg.put d E = some E1 ∧ t E1 = ret true ∧ Ok (e E1) b G) → Ok (compL tg t e ds acc E) (ds.length * b) fun ys => ys.length = acc.length + ds.length ∧ ∀ d ∈ ys, G d
  | [], acc, _, ha, _ => Ok.ret ⟨rfl, ha⟩
  | d :: ds, acc, hl, ha, hs => by
    obtain ⟨E1, e1, e2, h1⟩ := hs d (.head _)
    show Ok (match tg.put d E with | none => stuck | some E1 => bnd (t E1) fun c => if c = true then bnd (e E1) fun y => grd (small acc.length) (compL tg t e ds (acc ++ [y]) E) else compL tg t e ds acc E) _ _
    simp only [e1, e2, bnd_ret, if_true]
    rw [List.length_cons, Nat.succ_mul, Nat.add_comm]
    simp only [List.length_cons] at hl
    refine Ok.bnd h1 fun y hy => Ok.grd (by unfold small; omega) ?_
    refine (comp_ok ds (acc ++ [y]) (by rw [List.length_append, List.length_singleton]; omega) ?_ fun d hd => hs d (.tail _ hd)).imp ?_
    · intro d hd
      rcases List.mem_append.mp hd with h | h
      · exact ha d h
      · rw [List.mem_singleton.mp h]; exact hy
    · rintro ys ⟨h2, h3⟩
      exact ⟨by rw [h2, List.length_append, List.length_cons, List.length_nil]; omega, h3⟩
/-- .. all items pure: the list itself -/
theorem comp_map {tg : Tg} {t : XT} {e : XE} {E : Env} (f : D → D) : ∀ (ds acc : List D), acc.length + ds.length ≤ 1000000 →
    (∀ d ∈ ds, ∃ E1, tg.put d E = some E1 ∧ t E1 = ret true ∧ e E1 = ret (f d)) → compL tg t e ds acc E = ret (acc ++ ds.map f)
  | [], acc, _, _ => by simp [compL]
  | d :: ds, acc, hl, hs => by
    obtain ⟨E1, e1, e2, e3⟩ := hs d (.head _)
    simp only [List.length_cons] at hl
    have hs' : small acc.length := by unfold small; omega
    show (match tg.put d E with | none => stuck | some E1 => bnd (t E1) fun c => if c = true then bnd (e E1) fun y => grd (small acc.length) (compL tg t e ds (acc ++ [y]) E) else compL tg t e ds acc E) = _
    simp only [e1, e2, e3, bnd_ret, if_true, grd_pos hs']
    rw [comp_map f ds (acc ++ [f d]) (by simp only [List.length_append, List.length_singleton]; omega) fun d hd => hs d (.tail _ hd)]
    simp
/-- .. with a test -/
theorem comp_filt {tg : Tg} {t : XT} {e : XE} {E : Env} (q : D → Bool) (f : D → D) : ∀ (ds acc : List D), acc.length + ds.length ≤ 1000000 →
    (∀ d ∈ ds, ∃ E1, tg.put d E = some E1 ∧ t E1 = ret (q d) ∧ (q d = true → e E1 = ret (f d))) → compL tg t e ds acc E = ret (acc ++ (ds.filter q).map f)
  | [], acc, _, _ => by simp [compL]
  | d :: ds, acc, hl, hs => by
    obtain ⟨E1, e1, e2, e3⟩ := hs d (.head _)
    simp only [List.length_cons] at hl
    have hs' : small acc.length := by unfold small; omega
    show (match tg.put d E with | none => stuck | some E1 => bnd (t E1) fun c => if c = true then bnd (e E1) fun y => grd (small acc.length) (compL tg t e ds (acc ++ [y]) E) else compL tg t e ds acc E) = _
    simp only [e1, e2, bnd_ret]
    cases hq : q d with
    | true =>
      simp only [if_true, e3 hq, bnd_ret, grd_pos hs']
      rw [comp_filt q f ds (acc ++ [f d]) (by simp only [List.length_append, List.length_singleton]; omega) fun d hd => hs d (.tail _ hd), List.filter_cons_of_pos hq]
      simp
    | false =>
      rw [if_neg (by decide), comp_filt q f ds acc (by omega) fun d hd => hs d (.tail _ hd), List.filter_cons_of_neg (by rw [hq]; decide)]
section
variable {E : Env}
theorem x_var (i : Nat) : eVar i E = match E[i]? with | some (.val d) => ret d | _ => stuck := id rfl
theorem x_con (d : D) : eCon d E = ret d := id rfl
theorem x_bin (o : Op) (a b : XE) : eBin o a b E = bnd (a E) fun x => bnd (b E) fun y => opBin o x y := id rfl
theorem x_neg (a : XE) : eNeg a E = bnd (a E) opNeg := id rfl
theorem x_cmp (o : Cmp) (a b : XE) : eCmp o a b E = bnd (a E) fun x => bnd (b E) fun y => bnd (opCmp o x y) fun c => ret (.bool c) := id rfl
theorem x_chain (o o' : Cmp) (a b c : XE) : eChain o o' a b c E = bnd (a E) fun x => bnd (b E) fun y => bnd (opCmp o x y) fun k => if k = true then bnd (c E) fun z => bnd (opCmp o' y z) fun k' => ret (.bool k') else ret (.bool false) := id rfl
theorem x_tTru (a : XE) : tTru a E = bnd (a E) tru := id rfl
theorem x_tNot (t : XT) : tNot t E = bnd (t E) fun c => ret (!c) := id rfl
theorem x_tAnd (t u : XT) : tAnd t u E = bnd (t E) fun c => if c = true then u E else ret false := id rfl
theorem x_tOr (t u : XT) : tOr t u E = bnd (t E) fun c => if c = true then ret true else u E := id rfl
theorem x_tBool (a : XE) : tBool a E = bnd (a E) fun d => match d with | .bool b => ret b | _ => stuck := id rfl
theorem x_tYes : tYes E = ret true := id rfl
theorem x_not (a : XE) : eNot a E = bnd (a E) fun x => bnd (tru x) fun c => ret (.bool (!c)) := id rfl
theorem x_and (a b : XE) : eAnd a b E = bnd (a E) fun x => bnd (tru x) fun c => if c = true then b E else ret x := id rfl
theorem x_or (a b : XE) : eOr a b E = bnd (a E) fun x => bnd (tru x) fun c => if c = true then ret x else b E := id rfl
theorem x_if (t : XT) (a b : XE) : eIf t a b E = bnd (t E) fun c => if c = true then a E else b E := id rfl
theorem x_b1 (f : B1) (a : XE) : eB1 f a E = bnd (a E) (bi1 f) := id rfl
theorem x_b2 (f : B2) (a b : XE) : eB2 f a b E = bnd (a E) fun x => bnd (b E) fun y => bi2 f x y := id rfl
theorem x_is (t : Ty) (a : XE) : eIs t a E = bnd (a E) fun x => grd (noXn x = true) (ret (.bool (isTy t x))) := id rfl
theorem x_isC (ms : List Str) (a : XE) : eIsC ms a E = bnd (a E) (isC ms) := id rfl
theorem x_fld (a : XE) (f : Str) : eFld a f E = bnd (a E) (fldOf f) := id rfl
theorem x_in (n : Bool) (a b : XE) : eIn n a b E = bnd (a E) fun x => bnd (b E) fun y => opIn n x y := id rfl
theorem x_count (a b : XE) : eCnt a b E = bnd (a E) fun x => match x with | .list xs => bnd (b E) fun y => opCnt (.list xs) y | _ => stuck := id rfl
theorem x_lstR (a : XA) : eLstR a E = bnd (a E) fun xs => grd (small xs.length) (ret (.list xs)) := id rfl
theorem x_tupR (a : XA) : eTupR a E = bnd (a E) fun xs => grd (small xs.length) (ret (.tuple xs)) := id rfl
theorem x_raise (n : Str) (fs : List Str) (a : XA) : sRaise n fs a E = bnd (a E) fun xs => thr ⟨n, fs.zip xs⟩ := id rfl
theorem x_star (a : XE) (r : XA) : aStar a r E = bnd (a E) fun x => bnd (itemsOf x) fun ys => bnd (r E) fun xs => ret (ys ++ xs) := id rfl
theorem x_idx (a b : XE) : eIdx a b E = bnd (a E) fun x => bnd (b E) fun y => opIdx x y := id rfl
theorem x_oNone : oNone E = ret none := id rfl
theorem x_oSome (a : XE) : oSome a E = bnd (a E) fun x => bnd (asInt x) fun i => ret (some i) := id rfl
theorem x_cut (a : XE) (lo hi : XO) : eCut a lo hi E = bnd (a E) fun x => bnd (lo E) fun l => bnd (hi E) fun h => opCut x l h := id rfl
theorem x_aNil : aNil E = ret [] := id rfl
theorem x_aCons (a : XE) (r : XA) : aCons a r E = bnd (a E) fun x => bnd (r E) fun xs => ret (x :: xs) := id rfl
theorem x_tup (a : XA) : eTup a E = bnd (a E) fun xs => grd (small xs.length) (ret (.tuple xs)) := id rfl
theorem x_lst (a : XA) : eLst a E = bnd (a E) fun xs => grd (small xs.length) (ret (.list xs)) := id rfl
theorem x_call (f : Fn) (a : XA) : eCall f a E = bnd (a E) f := id rfl
theorem x_callS (f : Fn) (s : Nat) (a : XA) : eCallS f s a E = match E[s]? with | some .stm => bnd (a E) f | _ => stuck := id rfl
theorem x_iSeq (a : XE) : iSeq a E = bnd (a E) itemsOf := id rfl
theorem x_iRng1 (a : XE) : iRng1 a E = bnd (a E) fun x => bnd (asInt x) fun n => grd (rngOk 0 n) (ret (rng 0 n)) := id rfl
theorem x_iRng2 (a b : XE) : iRng2 a b E = bnd (a E) fun x => bnd (b E) fun y => bnd (asInt x) fun n => bnd (asInt y) fun m => grd (rngOk n m) (ret (rng n m)) := id rfl
theorem x_comp (it : XA) (tg : Tg) (t : XT) (e : XE) (vs : List Nat) : eComp it tg t e vs E = bnd (it E) fun ds => bnd (noX (compL tg t e ds [] (wipeE E vs))) fun ys => ret (.list ys) := id rfl
theorem x_bor (i : Nat) (e : XE) : eBor i e E = match E[i]? with | some (.own ds) => bnd (e (E.set i (.val (.list ds)))) fun d => grd (flat d = true) (ret d) | _ => e E := id rfl
theorem x_tBor (i : Nat) (t : XT) : tBor i t E = match E[i]? with | some (.own ds) => t (E.set i (.val (.list ds))) | _ => t E := id rfl
theorem x_seq (a b : XS) : sSeq a b E = bnd (a E) fun o => match o with | .nx E' => b E' | o => ret o := id rfl
theorem x_skip : sSkip E = ret (.nx E) := id rfl
theorem x_asg (i : Nat) (e : XE) : sAsg i e E = bnd (e E) fun d => ret (.nx (E.set i (.val d))) := id rfl
theorem x_put (tg : Tg) (e : XE) : sPut tg e E = bnd (e E) fun d => match tg.put d E with | some E' => ret (.nx E') | none => stuck := id rfl
theorem x_par (i j : Nat) (a b : XE) : sPar i j a b E = bnd (a E) fun x => bnd (b E) fun y => ret (.nx ((E.set i (.val x)).set j (.val y))) := id rfl
theorem x_parO (i j : Nat) (a b : XE) : sParO i j a b E = bnd (a E) fun x => bnd (b E) fun y => match x with | .list ds => ret (.nx ((E.set i (.own ds)).set j (.val y))) | _ => stuck := id rfl
theorem x_own (i : Nat) (e : XE) : sOwn i e E = bnd (e E) fun d => match d with | .list ds => ret (.nx (E.set i (.own ds))) | _ => stuck := id rfl
theorem x_rel (i : Nat) (s : XS) : sRel i s E = match E[i]? with | some (.own ds) => s (E.set i (.val (.list ds))) | _ => s E := id rfl
theorem x_app (i : Nat) (e : XE) : sApp i e E = match E[i]? with | some (.own ds) => bnd (e E) fun d => grd (small ds.length) (ret (.nx (E.set i (.own (ds ++ [d]))))) | _ => stuck := id rfl
theorem x_setI (i : Nat) (k e : XE) : sSet i k e E = match E[i]? with
  | some (.own ds) => bnd (e E) fun d => bnd (k E) fun n => match n with
    | .int z => match L2.ixN ds.length z with
      | some j => ret (.nx (E.set i (.own (ds.set j d))))
      | none => stuck
    | _ => stuck
  | _ => stuck := id rfl
theorem x_sIf (t : XT) (a b : XS) : sIf t a b E = bnd (t E) fun c => if c = true then a E else b E := id rfl
theorem x_for (it : XA) (tg : Tg) (s : XS) : sFor it tg s E = bnd (it E) fun ds => forL tg s ds E := id rfl
theorem x_ret (e : XE) : sRet e E = bnd (e E) fun d => ret (.rt d) := id rfl
theorem x_retN : sRetN E = ret (.rt .none) := id rfl
theorem x_expr (e : XE) : sExpr e E = bnd (e E) fun _ => ret (.nx E) := id rfl
theorem x_brk : sBreak E = ret (.bk E) := id rfl
theorem x_cnt : sCont E = ret (.ct E) := id rfl
theorem x_fnS (k n : Nat) (s : XS) (ds : List D) : fnS k n s ds = grd (ds.length + 1 = k) (bnd (s (start n (.stm :: ds.map .val))) endOf) := id rfl
theorem x_put1 (i : Nat) (d : D) (E : Env) : Tg.put (.nm i) d E = some (E.set i (.val d)) := id rfl
end
theorem grd_tt {α : Type} (m : W α) : grd (true = true) m = m := grd_pos rfl m
theorem nx_int (i : Int) : noXn (.int i) = true := id rfl
theorem nx_bool (i : Bool) : noXn (.bool i) = true := id rfl
theorem nx_str (i : Str) : noXn (.str i) = true := id rfl
theorem nx_none : noXn .none = true := id rfl
theorem nx_tup (i : List D) : noXn (.tuple i) = true := id rfl
theorem nx_lst (i : List D) : noXn (.list i) = true := id rfl
theorem nx_plain : ∀ {d : D}, plain d = true → noXn d = true
  | .none, _ => rfl
  | .bool _, _ => rfl
  | .int _, _ => rfl
  | .str _, _ => rfl
  | .tuple _, _ => rfl
  | .list _, _ => rfl
  | .dict [], _ => rfl
  | .dict ((.none, _) :: _), h => by simp [plain] at h
  | .dict ((.bool _, _) :: _), _ => rfl
  | .dict ((.int _, _) :: _), _ => rfl
  | .dict ((.str _, _) :: _), _ => rfl
  | .dict ((.list _, _) :: _), _ => rfl
  | .dict ((.tuple _, _) :: _), _ => rfl
  | .dict ((.dict _, _) :: _), _ => rfl
theorem fld_x (n f : Str) (d : D) : fldOf f (xD n [(f, d)]) = ret d := by
  show (if f = f then ret d else stuck) = _
  rw [if_pos rfl]
theorem exn_d (n : Str) (fs : List (Str × D)) : Exn.d ⟨n, fs⟩ = xD n fs := id rfl
/-- ints -/
theorem o_add (a b : Int) : opBin .add (.int a) (.int b) = ret (.int (a + b)) := id rfl
theorem o_sub (a b : Int) : opBin .sub (.int a) (.int b) = ret (.int (a - b)) := id rfl
theorem o_mod (a b : Int) : opBin .mod (.int a) (.int b) = grd (0 < b) (ret (.int (a % b))) := id rfl
theorem o_neg (a : Int) : opNeg (.int a) = ret (.int (-a)) := id rfl
theorem eqv_int (a b : Int) : opEq (.int a) (.int b) = ret (decide (a = b)) := by
  unfold opEq
  rw [grd_pos (eqOk_of rfl rfl)]
  rfl
theorem o_eq (a b : Int) : opCmp .eq (.int a) (.int b) = ret (decide (a = b)) := eqv_int a b
theorem o_ne (a b : Int) : opCmp .ne (.int a) (.int b) = ret (!decide (a = b)) := by
  show bnd (opEq _ _) _ = _
  rw [eqv_int]
  rfl
theorem o_lt (a b : Int) : opCmp .lt (.int a) (.int b) = ret (decide (a < b)) := id rfl
theorem o_le (a b : Int) : opCmp .le (.int a) (.int b) = ret (decide (a ≤ b)) := id rfl
theorem o_gt (a b : Int) : opCmp .gt (.int a) (.int b) = ret (decide (b < a)) := id rfl
theorem o_ge (a b : Int) : opCmp .ge (.int a) (.int b) = ret (decide (b ≤ a)) := id rfl
theorem eqv_str (a b : Str) : opEq (.str a) (.str b) = ret (decide (a = b)) := by
  unfold opEq
  rw [grd_pos (show eqOk (.str a) (.str b) from True.intro)]
  show ret (a == b) = _
  have e : (a == b) = decide (a = b) := by
    rw [Bool.eq_iff_iff]
    simp
  rw [e]
theorem o_eqS (a b : Str) : opCmp .eq (.str a) (.str b) = ret (decide (a = b)) := eqv_str a b
theorem o_neS (a b : Str) : opCmp .ne (.str a) (.str b) = ret (!decide (a = b)) := by
  show bnd (opEq _ _) _ = _
  rw [eqv_str]
  rfl
end DL
end
section
namespace DL
open PySem
/-- tame data, to be shown: at most n items in all, k deep, its ints of at most 45 digits -/
structure Tame (n k : Nat) (d : D) : Prop where
  short : PyData.leavesShort 48 d = true
  able : PyData.showable d = true
  bulk : PyData.bulk d ≤ n
  deep : PyData.depth d ≤ k
  pln : plain d = true
theorem Tame.mono {n k n' k' : Nat} {d : D} (h : Tame n k d) (hn : n ≤ n') (hk : k ≤ k') : Tame n' k' d := ⟨h.short, h.able, Nat.le_trans h.bulk hn, Nat.le_trans h.deep hk, h.pln⟩
theorem tame_int {i : Int} (h : i.natAbs < 10 ^ 45) : Tame 0 0 (.int i) := by
  refine ⟨?_, ?_, Nat.zero_le _, Nat.zero_le _, rfl⟩
  · have e : (PyData.shown (.int i)).length ≤ 46 := by
      have e := int_text_length_le10 (k := 45) (a := i) (by decide) h
      show (Str.ofString (toString i)).length ≤ 46
      rw [ofString_length]
      exact e
    simp only [PyData.leavesShort, decide_eq_true_eq]
    omega
  · simp only [PyData.showable, decide_eq_true_eq]
    by_cases h0 : i.natAbs = 0
    · rw [h0]; decide
    · have h2 : i.natAbs < 2 ^ 150 := Nat.lt_trans h (by decide)
      exact Nat.lt_of_lt_of_le ((Nat.log2_lt h0).mpr h2) (by decide)
theorem tame_str {x : Str} (h : x.cps.toList.all (fun c => decide (c < 16 ^ 8)) = true) {n : Nat} (hn : x.cps.size ≤ n) : Tame n 0 (.str x) := ⟨by simpa only [PyData.leavesShort] using h, rfl, hn, Nat.zero_le _, rfl⟩
structure TameAll (n k : Nat) (ds : List D) : Prop where
  short : PyData.leavesShortAll 48 ds = true
  able : PyData.showableAll ds = true
  bulk : PyData.bulkAll ds ≤ n
  deep : PyData.depthAll ds ≤ k
  pln : plainAll ds = true
theorem tame_nil : TameAll 0 0 [] := ⟨rfl, rfl, Nat.zero_le _, Nat.zero_le _, rfl⟩
theorem TameAll.mono {n k n' k' : Nat} {ds : List D} (h : TameAll n k ds) (hn : n ≤ n') (hk : k ≤ k') : TameAll n' k' ds := ⟨h.short, h.able, Nat.le_trans h.bulk hn, Nat.le_trans h.deep hk, h.pln⟩
theorem tame_cons {n m k j : Nat} {d : D} {ds : List D} (h : Tame n k d) (t : TameAll m j ds) : TameAll (n + 1 + m) (max k j) (d :: ds) := by
  refine ⟨?_, ?_, ?_, ?_, ?_⟩
  · simp only [PyData.leavesShortAll, h.short, t.short, Bool.and_self]
  · simp only [PyData.showableAll, h.able, t.able, Bool.and_self]
  · simp only [PyData.bulkAll]
    have := h.bulk; have := t.bulk
    omega
  · simp only [PyData.depthAll]
    have := h.deep; have := t.deep
    omega
  · simp only [plainAll, h.pln, t.pln, Bool.and_self]
theorem tame_tup {n k : Nat} {ds : List D} (h : TameAll n k ds) : Tame n (k + 1) (.tuple ds) := by
  refine ⟨?_, ?_, ?_, ?_, ?_⟩
  · simp only [PyData.leavesShort, h.short]
  · simp only [PyData.showable, h.able]
  · simp only [PyData.bulk]; exact h.bulk
  · simp only [PyData.depth]; have := h.deep; omega
  · simp only [plain, h.pln]
theorem tame_all {n k : Nat} : ∀ (ds : List D), (∀ d ∈ ds, Tame n k d) → TameAll (ds.length * (n + 1)) k ds
  | [], _ => tame_nil.mono (Nat.zero_le _) (Nat.zero_le _)
  | d :: ds, h => by
    have := tame_cons (h d (.head _)) (tame_all ds fun x hx => h x (.tail _ hx))
    rw [List.length_cons, Nat.succ_mul, Nat.add_comm]
    rw [Nat.max_self] at this
    exact this
theorem tame_ints {ns : List Int} (h : ∀ x ∈ ns, x.natAbs < 10 ^ 45) : TameAll ns.length 0 (ns.map PyData.int) := by
  have := tame_all (n := 0) (k := 0) (ns.map PyData.int) fun d hd => by
    obtain ⟨x, hx, rfl⟩ := List.mem_map.mp hd
    exact tame_int (h x hx)
  rw [List.length_map, Nat.zero_add, Nat.mul_one] at this
  exact this
theorem Tame.show {n k : Nat} {d : D} (h : Tame n k d) (hn : n ≤ 15000) (hk : k ≤ 40) : showOk d := by
  refine ⟨h.able, Nat.le_trans h.deep hk, ?_, h.pln⟩
  have e := PyData.shown_le_bulk 48 (by decide) d h.short
  have := h.bulk
  have : (48 + 2) * d.bulk ≤ 50 * 15000 := Nat.mul_le_mul_left _ (by omega)
  omega
theorem x_repr {n k : Nat} {d : D} (h : Tame n k d) (hn : n ≤ 15000) (hk : k ≤ 40) : bi1 .repr d = ret (.str (PyData.shown d)) := by
  show grd (showOk d) _ = _
  rw [grd_pos (h.show hn hk)]
theorem deep_ints : ∀ ns : List Int, PyData.depthAll (ns.map PyData.int) = 0
  | [] => rfl
  | _ :: r => by rw [List.map_cons, PyData.depthAll, deep_ints r]; rfl
theorem eqvAll_ints : ∀ a b : List Int, PyData.eqvAll (a.map PyData.int) (b.map PyData.int) = decide (a = b)
  | [], [] => rfl
  | [], _ :: _ => rfl
  | _ :: _, [] => rfl
  | x :: a, y :: b => by
    rw [List.map_cons, List.map_cons, PyData.eqvAll, eqvAll_ints a b]
    have e : PyData.eqv (.int x) (.int y) = decide (x = y) := rfl
    rw [e]
    simp
theorem shp_ints (ns : List Int) : SeqAt.shaped (.tuple (ns.map PyData.int)) = true := by
  unfold SeqAt.shaped
  simp [PyData.canLay0, lay_ints, PyData.depth, deep_ints]
theorem shp_intsL (ns : List Int) : SeqAt.shaped (.list (ns.map PyData.int)) = true := by
  unfold SeqAt.shaped
  simp [PyData.canLay0, lay_ints, PyData.depth, deep_ints]
theorem eq_ints (a b : List Int) : opEq (.tuple (a.map PyData.int)) (.tuple (b.map PyData.int)) = ret (decide (a = b)) := by
  unfold opEq
  rw [grd_pos (eqOk_of (shp_ints a) (shp_ints b))]
  show ret (PyData.eqvAll _ _) = _
  rw [eqvAll_ints]
theorem o_neT (a b : List Int) : opCmp .ne (.tuple (a.map PyData.int)) (.tuple (b.map PyData.int)) = ret (!decide (a = b)) := by
  show bnd (opEq _ _) _ = _
  rw [eq_ints]
  rfl
theorem eq_nilT {ds : List D} (h : SeqAt.shaped (.tuple ds) = true) : opEq (.tuple ds) (.tuple []) = ret ds.isEmpty := by
  unfold opEq
  rw [grd_pos (eqOk_of h (by decide +kernel))]
  cases ds <;> rfl
theorem shp_of {d : D} (h : PyData.canLay0 d = true) (k : PyData.depth d ≤ 64) : SeqAt.shaped d = true := by
  unfold SeqAt.shaped
  rw [h, decide_eq_true k]
  rfl
section
variable {E : Env} {n k : Nat} {Q : Out → Prop}
theorem Ok.seq {a b : XS} (t : Nat) (R : Env → Prop) (h : Ok (a E) n fun o => match o with | .nx E' => R E' | .rt d => Q (.rt d) | .bk E' => Q (.bk E') | .ct E' => Q (.ct E')) (hn : n ≤ t) (hb : ∀ E', R E' → Ok (b E') (t - n) Q) : Ok (sSeq a b E) t Q := by
  refine Ok.bnd' t h hn fun o ho => ?_
  cases o with
  | nx E' => exact hb E' ho
  | rt d => exact Ok.ret ho
  | bk E' => exact Ok.ret ho
  | ct E' => exact Ok.ret ho
theorem Ok.fn {s : XS} {Q : D → Prop} (h : Ok (s E) n fun o => match o with | .rt d => Q d | .nx _ => Q .none | _ => False) : Ok (DL.bnd (s E) endOf) n Q := by
  refine Ok.bnd' n h (Nat.le_refl _) fun o ho => ?_
  cases o with
  | nx E' => exact Ok.ret ho
  | rt d => exact Ok.ret ho
  | bk E' => exact ho.elim
  | ct E' => exact ho.elim
theorem s_asg (i : Nat) (e : XE) (b : XS) : sSeq (sAsg i e) b E = bnd (e E) fun d => b (E.set i (.val d)) := id rfl
theorem s_par (i j : Nat) (x y : XE) (b : XS) : sSeq (sPar i j x y) b E = bnd (x E) fun v => bnd (y E) fun w => b ((E.set i (.val v)).set j (.val w)) := id rfl
theorem s_own (i : Nat) (e : XE) (b : XS) : sSeq (sOwn i e) b E = bnd (e E) fun d => match d with | .list ds => b (E.set i (.own ds)) | _ => stuck := by
  show bnd (bnd (e E) _) _ = _
  rw [bnd_assoc]
  congr 1
  funext d
  cases d <;> rfl
theorem s_parO (i j : Nat) (x y : XE) (b : XS) : sSeq (sParO i j x y) b E = bnd (x E) fun v => bnd (y E) fun w => match v with | .list ds => b ((E.set i (.own ds)).set j (.val w)) | _ => stuck := by
  show bnd (bnd (x E) _) _ = _
  rw [bnd_assoc]
  congr 1
  funext v
  rw [bnd_assoc]
  congr 1
  funext w
  cases v <;> rfl
theorem s_app (i : Nat) (e : XE) (b : XS) {ds : List D} (h : E[i]? = some (.own ds)) : sSeq (sApp i e) b E = bnd (e E) fun d => grd (small ds.length) (b (E.set i (.own (ds ++ [d])))) := by
  show bnd (sApp i e E) _ = _
  rw [x_app, h]
  rfl
theorem s_put (tg : Tg) (e : XE) (b : XS) : sSeq (sPut tg e) b E = bnd (e E) fun d => match tg.put d E with | some E' => b E' | none => stuck := by
  show bnd (bnd (e E) _) _ = _
  rw [bnd_assoc]
  congr 1
  funext d
  cases tg.put d E <;> rfl
theorem s_expr (e : XE) (b : XS) : sSeq (sExpr e) b E = bnd (e E) fun _ => b E := id rfl
theorem s_ret (e : XE) (b : XS) : sSeq (sRet e) b E = bnd (e E) fun d => ret (.rt d) := id rfl
theorem s_skip (b : XS) : sSeq sSkip b E = b E := id rfl
theorem s_seq (a b c : XS) : sSeq (sSeq a b) c E = sSeq a (sSeq b c) E := by
  show bnd (bnd (a E) _) _ = bnd (a E) _
  rw [bnd_assoc]
  congr 1
  funext o
  cases o <;> rfl
theorem s_if (t : XT) (x y b : XS) : sSeq (sIf t x y) b E = bnd (t E) fun c => if c = true then sSeq x b E else sSeq y b E := by
  show bnd (bnd (t E) _) _ = _
  rw [bnd_assoc]
  congr 1
  funext c
  cases c <;> rfl
theorem s_rel (i : Nat) (s b : XS) : sSeq (sRel i s) b E = match E[i]? with | some (.own ds) => sSeq s b (E.set i (.val (.list ds))) | _ => sSeq s b E := by
  show bnd (sRel i s E) _ = _
  rw [x_rel]
  cases h : E[i]? with
  | none => rfl
  | some y => cases y <;> rfl
theorem b1_if {α β : Type} (c : Bool) (x y : W α) (f : α → W β) : bnd (if c = true then x else y) f = if c = true then bnd x f else bnd y f := by cases c <;> rfl
end
theorem idx_list {ds : List D} {i : Int} (h0 : 0 ≤ i) (h1 : i < ds.length) : opIdx (.list ds) (.int i) = ret (ds[i.toNat]'(by omega)) := by
  show (match L2.atI ds i with | some d => ret d | none => stuck) = _
  have e : L2.atI ds i = some (ds[i.toNat]'(by omega)) := by
    unfold L2.atI L2.ixN
    rw [if_pos h0, if_pos h1]
    exact List.getElem?_eq_getElem _
  rw [e]
theorem idx_tup {ds : List D} {i : Int} (h0 : 0 ≤ i) (h1 : i < ds.length) : opIdx (.tuple ds) (.int i) = ret (ds[i.toNat]'(by omega)) := by
  show (match L2.atI ds i with | some d => ret d | none => stuck) = _
  have e : L2.atI ds i = some (ds[i.toNat]'(by omega)) := by
    unfold L2.atI L2.ixN
    rw [if_pos h0, if_pos h1]
    exact List.getElem?_eq_getElem _
  rw [e]
theorem idx_ints {ns : List Int} {i : Int} (h0 : 0 ≤ i) (h1 : i < ns.length) : opIdx (.tuple (ns.map PyData.int)) (.int i) = ret (.int (ns[i.toNat]'(by omega))) := by
  rw [idx_tup h0 (by rw [List.length_map]; exact h1), List.getElem_map]
theorem idx_intsL {ns : List Int} {i : Int} (h0 : 0 ≤ i) (h1 : i < ns.length) : opIdx (.list (ns.map PyData.int)) (.int i) = ret (.int (ns[i.toNat]'(by omega))) := by
  rw [idx_list h0 (by rw [List.length_map]; exact h1), List.getElem_map]
theorem ixN_ok {n : Nat} {i : Int} (h0 : 0 ≤ i) (h1 : i < n) : L2.ixN n i = some i.toNat := by
  unfold L2.ixN
  rw [if_pos h0, if_pos h1]
theorem ok_comp {β : Type} {it : XA} {tg : Tg} {t : XT} {e : XE} {vs : List Nat} {E : Env} {ds : List D} {b T : Nat} {G : D → Prop} {f : D → W β} {Q : β → Prop} (hit : it E = ret ds) (hl : ds.length ≤ 1000000)
    (hs : ∀ d ∈ ds, ∃ E1, tg.put d (wipeE E vs) = some E1 ∧ t E1 = ret true ∧ Ok (e E1) b G) (hT : ds.length * b ≤ T)
    (hf : ∀ ys : List D, ys.length = ds.length → (∀ d ∈ ys, G d) → Ok (f (.list ys)) (T - ds.length * b) Q) : Ok (DL.bnd (eComp it tg t e vs E) f) T Q := by
  rw [x_comp, hit, bnd_ret, bnd_assoc]
  refine Ok.bnd' T (Ok.noX (comp_ok (G := G) (b := b) ds [] (by simp only [List.length_nil]; omega) (fun d hd => (nomatch hd)) hs)) hT ?_
  rintro ys ⟨h1, h2⟩
  rw [bnd_ret]
  exact hf ys (by rw [h1, List.length_nil, Nat.zero_add]) h2
theorem ints_of {Q : Int → Prop} : ∀ {ds : List D}, (∀ d ∈ ds, ∃ x : Int, d = .int x ∧ Q x) → ∃ ns : List Int, ds = ns.map PyData.int ∧ ∀ x ∈ ns, Q x
  | [], _ => ⟨[], rfl, fun _ h => (nomatch h)⟩
  | d :: ds, h => by
    obtain ⟨x, rfl, hx⟩ := h d (.head _)
    obtain ⟨ns, rfl, hn⟩ := ints_of fun d hd => h d (.tail _ hd)
    refine ⟨x :: ns, rfl, fun y hy => ?_⟩
    rcases List.mem_cons.mp hy with rfl | hy
    · exact hx
    · exact hn y hy
theorem rng_len (a b : Int) : (rng a b).length = (b - a).toNat := by
  unfold rng
  rw [List.length_map, List.length_range]
theorem rng_mem {a b : Int} {d : D} (h : d ∈ rng a b) : ∃ i : Int, d = .int i ∧ a ≤ i ∧ i < b := by
  unfold rng at h
  obtain ⟨i, hi, rfl⟩ := List.mem_map.mp h
  exact ⟨_, rfl, by omega, by have := List.mem_range.mp hi; omega⟩
theorem rng_at {a b : Int} {j : Nat} {d : D} (h : (rng a b)[j]? = some d) : d = .int (a + j) ∧ a + j < b := by
  unfold rng at h
  rw [List.getElem?_map] at h
  cases e : (List.range (b - a).toNat)[j]? with
  | none => rw [e] at h; cases h
  | some i =>
    rw [e] at h
    obtain ⟨h1, h2⟩ := List.getElem?_eq_some_iff.mp e
    rw [List.getElem_range] at h2
    rw [List.length_range] at h1
    subst h2
    cases h
    exact ⟨rfl, by omega⟩
theorem f_fn {k n : Nat} {s : XS} {ds : List D} (h : ds.length = k) : fn k n s ds = bnd (s (start n (ds.map .val))) endOf := grd_pos h _
end DL
end
section
namespace DL
open PySem
/-- a row of words -/
def RowD (most : Int) (d : D) : Prop := ∃ ns : List Int, d = .tuple (ns.map PyData.int) ∧ 1 ≤ ns.length ∧ (ns.length : Int) ≤ most ∧ ∀ x ∈ ns, 1 ≤ x ∧ x ≤ 60
theorem row_drawn_0 {most : Int} (h : 1 ≤ most ∧ most ≤ 24) : Ok (w__law_row_drawn_0 [.int most]) 60 (RowD most) := by
  unfold w__law_row_drawn_0
  rw [x_fnS]
  refine Ok.grd rfl (Ok.fn ?_)
  simp only [x_var, x_con, x_bin, x_neg, x_cmp, x_chain, x_tTru, x_tNot, x_tAnd, x_tOr, x_tBool, x_tYes, x_not, x_and, x_or, x_if, x_b1, x_b2, x_is, x_idx, x_oNone, x_oSome, x_cut, x_aNil, x_aCons, x_tup, x_lst, x_call, x_callS,
    x_iSeq, x_iRng1, x_iRng2, x_bor, x_tBor, x_put1, List.map_cons, List.map_nil, List.cons_append, List.nil_append, List.length_cons, List.length_nil, Nat.zero_add, Nat.reduceAdd, Nat.reduceSub, List.reduceReplicate, start,
    List.getElem?_cons_zero, List.getElem?_cons_succ, List.set_cons_zero, List.set_cons_succ, bnd_ret, bnd_assoc, bnd_grd, b1_if, bnd_ite, small, Nat.reduceLeDiff, grd_true, o_add, o_sub, o_neg, o_eq, o_ne, o_lt, o_le, o_gt, o_ge, o_eqS, o_neS,
    decide_eq_true_eq, reduceIte, decide_true, decide_false, Bool.not_true, Bool.not_false, Bool.false_eq_true, itemsOf, asInt, bi2, endOf, isTy,
    grd_tt, nx_int, nx_bool, nx_str, nx_none, nx_tup, nx_lst, x_isC, x_fld, x_in, x_count, x_lstR, x_tupR, x_raise, x_star, bnd_thr, noX_ret, fld_x, exn_d, eSetO, Out.clear, List.zip_cons_cons, List.zip_nil_left, List.zip_nil_right, s_asg, s_par, s_own, s_parO, s_put, s_expr, s_ret, s_skip, s_seq, s_rel, x_asg, x_par, x_own, x_parO, x_put, x_expr, x_ret, x_retN, x_skip, x_rel, x_app, x_setI, x_sIf, x_for, x_brk, x_cnt]
  refine Ok.drawB (n := 59) (by omega) (by omega) fun r h0 h1 => ?_
  simp only [o_add, bnd_ret]
  refine Ok.drawB (n := 58) (by omega) (by omega) fun way h2 h3 => ?_
  have top : ∃ z : Int, opIdx (PyData.list [PyData.int 3, PyData.int 60, PyData.int 9, PyData.int 2, PyData.int 12, PyData.int 5]) (.int way) = ret (.int z) ∧ 1 ≤ z ∧ z ≤ 60 := by
    obtain rfl | rfl | rfl | rfl | rfl | rfl : way = 0 ∨ way = 1 ∨ way = 2 ∨ way = 3 ∨ way = 4 ∨ way = 5 := by omega
    · exact ⟨3, rfl, by decide⟩
    · exact ⟨60, rfl, by decide⟩
    · exact ⟨9, rfl, by decide⟩
    · exact ⟨2, rfl, by decide⟩
    · exact ⟨12, rfl, by decide⟩
    · exact ⟨5, rfl, by decide⟩
  obtain ⟨z, e, z0, z1⟩ := top
  rw [e, bnd_ret]
  refine ok_comp (ds := rng 0 (1 + r)) (b := 1) (G := fun d => ∃ x : Int, d = .int x ∧ 1 ≤ x ∧ x ≤ 60) ?_ (by rw [rng_len]; omega) ?_ (by rw [rng_len]; omega) ?_
  · simp only [x_var, x_con, x_bin, x_neg, x_cmp, x_chain, x_tTru, x_tNot, x_tAnd, x_tOr, x_tBool, x_tYes, x_not, x_and, x_or, x_if, x_b1, x_b2, x_is, x_idx, x_oNone, x_oSome, x_cut, x_aNil, x_aCons, x_tup, x_lst, x_call, x_callS,
    x_iSeq, x_iRng1, x_iRng2, x_bor, x_tBor, x_put1, List.map_cons, List.map_nil, List.cons_append, List.nil_append, List.length_cons, List.length_nil, Nat.zero_add, Nat.reduceAdd, Nat.reduceSub, List.reduceReplicate, start,
    List.getElem?_cons_zero, List.getElem?_cons_succ, List.set_cons_zero, List.set_cons_succ, bnd_ret, bnd_assoc, bnd_grd, b1_if, bnd_ite, small, Nat.reduceLeDiff, grd_true, o_add, o_sub, o_neg, o_eq, o_ne, o_lt, o_le, o_gt, o_ge, o_eqS, o_neS,
    decide_eq_true_eq, reduceIte, decide_true, decide_false, Bool.not_true, Bool.not_false, Bool.false_eq_true, itemsOf, asInt, bi2, endOf, isTy,
    grd_tt, nx_int, nx_bool, nx_str, nx_none, nx_tup, nx_lst, x_isC, x_fld, x_in, x_count, x_lstR, x_tupR, x_raise, x_star, bnd_thr, noX_ret, fld_x, exn_d, eSetO, Out.clear, List.zip_cons_cons, List.zip_nil_left, List.zip_nil_right]
    exact grd_pos (by unfold rngOk; omega) _
  · intro d hd
    refine ⟨_, rfl, rfl, ?_⟩
    simp only [x_var, x_con, x_bin, x_neg, x_cmp, x_chain, x_tTru, x_tNot, x_tAnd, x_tOr, x_tBool, x_tYes, x_not, x_and, x_or, x_if, x_b1, x_b2, x_is, x_idx, x_oNone, x_oSome, x_cut, x_aNil, x_aCons, x_tup, x_lst, x_call, x_callS,
    x_iSeq, x_iRng1, x_iRng2, x_bor, x_tBor, x_put1, List.map_cons, List.map_nil, List.cons_append, List.nil_append, List.length_cons, List.length_nil, Nat.zero_add, Nat.reduceAdd, Nat.reduceSub, List.reduceReplicate, start,
    List.getElem?_cons_zero, List.getElem?_cons_succ, List.set_cons_zero, List.set_cons_succ, bnd_ret, bnd_assoc, bnd_grd, b1_if, bnd_ite, small, Nat.reduceLeDiff, grd_true, o_add, o_sub, o_neg, o_eq, o_ne, o_lt, o_le, o_gt, o_ge, o_eqS, o_neS,
    decide_eq_true_eq, reduceIte, decide_true, decide_false, Bool.not_true, Bool.not_false, Bool.false_eq_true, itemsOf, asInt, bi2, endOf, isTy,
    grd_tt, nx_int, nx_bool, nx_str, nx_none, nx_tup, nx_lst, x_isC, x_fld, x_in, x_count, x_lstR, x_tupR, x_raise, x_star, bnd_thr, noX_ret, fld_x, exn_d, eSetO, Out.clear, List.zip_cons_cons, List.zip_nil_left, List.zip_nil_right, wipeE]
    refine Ok.drawB (n := 0) (by omega) (by omega) fun x h4 h5 => ?_
    exact Ok.ret ⟨_, rfl, by omega, by omega⟩
  · intro ys hy hG
    obtain ⟨ns, rfl, hn⟩ := ints_of hG
    rw [List.length_map, rng_len] at hy
    rw [rng_len]
    simp only
    refine Ok.seq _ (fun E => ∃ ms : List Int, E = [.stm, .val (.int most), .val (.int (1 + r)), .val (.int way), .val (.int z), .own (ms.map PyData.int), .unk, .unk] ∧ ms.length = (1 + r).toNat ∧ ∀ x ∈ ms, 1 ≤ x ∧ x ≤ 60) (n := 2) ?_ (by omega) ?_
    · simp only [x_var, x_con, x_bin, x_neg, x_cmp, x_chain, x_tTru, x_tNot, x_tAnd, x_tOr, x_tBool, x_tYes, x_not, x_and, x_or, x_if, x_b1, x_b2, x_is, x_idx, x_oNone, x_oSome, x_cut, x_aNil, x_aCons, x_tup, x_lst, x_call, x_callS,
    x_iSeq, x_iRng1, x_iRng2, x_bor, x_tBor, x_put1, List.map_cons, List.map_nil, List.cons_append, List.nil_append, List.length_cons, List.length_nil, Nat.zero_add, Nat.reduceAdd, Nat.reduceSub, List.reduceReplicate, start,
    List.getElem?_cons_zero, List.getElem?_cons_succ, List.set_cons_zero, List.set_cons_succ, bnd_ret, bnd_assoc, bnd_grd, b1_if, bnd_ite, small, Nat.reduceLeDiff, grd_true, o_add, o_sub, o_neg, o_eq, o_ne, o_lt, o_le, o_gt, o_ge, o_eqS, o_neS,
    decide_eq_true_eq, reduceIte, decide_true, decide_false, Bool.not_true, Bool.not_false, Bool.false_eq_true, itemsOf, asInt, bi2, endOf, isTy,
    grd_tt, nx_int, nx_bool, nx_str, nx_none, nx_tup, nx_lst, x_isC, x_fld, x_in, x_count, x_lstR, x_tupR, x_raise, x_star, bnd_thr, noX_ret, fld_x, exn_d, eSetO, Out.clear, List.zip_cons_cons, List.zip_nil_left, List.zip_nil_right, x_sIf, x_skip]
      have stay : Ok (ret (Out.nx [Ent.stm, .val (.int most), .val (.int (1 + r)), .val (.int way), .val (.int z), .own (ns.map PyData.int), .unk, .unk])) 2 fun o => match o with
        | .nx E' => ∃ ms : List Int, E' = [Ent.stm, .val (.int most), .val (.int (1 + r)), .val (.int way), .val (.int z), .own (ms.map PyData.int), .unk, .unk] ∧ ms.length = (1 + r).toNat ∧ ∀ x ∈ ms, 1 ≤ x ∧ x ≤ 60
        | .rt d => RowD most d
        | .bk _ => False
        | .ct _ => False := Ok.ret ⟨ns, rfl, by omega, hn⟩
      have chg : ∀ E, E = [Ent.stm, .val (.int most), .val (.int (1 + r)), .val (.int way), .val (.int z), .own (ns.map PyData.int), .unk, .unk] → Ok (sSet 5 (eCallS fDraw 0 (aCons (eVar 2) aNil)) (eBin Op.add (eCon (PyData.int 1)) (eCallS fDraw 0 (aCons (eCon (PyData.int 60)) aNil))) E) 2 fun o => match o with
        | .nx E' => ∃ ms : List Int, E' = [Ent.stm, .val (.int most), .val (.int (1 + r)), .val (.int way), .val (.int z), .own (ms.map PyData.int), .unk, .unk] ∧ ms.length = (1 + r).toNat ∧ ∀ x ∈ ms, 1 ≤ x ∧ x ≤ 60
        | .rt d => RowD most d
        | .bk _ => False
        | .ct _ => False := by
        rintro E rfl
        simp only [x_var, x_con, x_bin, x_neg, x_cmp, x_chain, x_tTru, x_tNot, x_tAnd, x_tOr, x_tBool, x_tYes, x_not, x_and, x_or, x_if, x_b1, x_b2, x_is, x_idx, x_oNone, x_oSome, x_cut, x_aNil, x_aCons, x_tup, x_lst, x_call, x_callS,
    x_iSeq, x_iRng1, x_iRng2, x_bor, x_tBor, x_put1, List.map_cons, List.map_nil, List.cons_append, List.nil_append, List.length_cons, List.length_nil, Nat.zero_add, Nat.reduceAdd, Nat.reduceSub, List.reduceReplicate, start,
    List.getElem?_cons_zero, List.getElem?_cons_succ, List.set_cons_zero, List.set_cons_succ, bnd_ret, bnd_assoc, bnd_grd, b1_if, bnd_ite, small, Nat.reduceLeDiff, grd_true, o_add, o_sub, o_neg, o_eq, o_ne, o_lt, o_le, o_gt, o_ge, o_eqS, o_neS,
    decide_eq_true_eq, reduceIte, decide_true, decide_false, Bool.not_true, Bool.not_false, Bool.false_eq_true, itemsOf, asInt, bi2, endOf, isTy,
    grd_tt, nx_int, nx_bool, nx_str, nx_none, nx_tup, nx_lst, x_isC, x_fld, x_in, x_count, x_lstR, x_tupR, x_raise, x_star, bnd_thr, noX_ret, fld_x, exn_d, eSetO, Out.clear, List.zip_cons_cons, List.zip_nil_left, List.zip_nil_right, s_asg, s_par, s_own, s_parO, s_put, s_expr, s_ret, s_skip, s_seq, s_rel, x_asg, x_par, x_own, x_parO, x_put, x_expr, x_ret, x_retN, x_skip, x_rel, x_app, x_setI, x_sIf, x_for, x_brk, x_cnt]
        refine Ok.drawB (n := 1) (by omega) (by omega) fun u hu0 hu1 => ?_
        simp only [x_var, x_con, x_bin, x_neg, x_cmp, x_chain, x_tTru, x_tNot, x_tAnd, x_tOr, x_tBool, x_tYes, x_not, x_and, x_or, x_if, x_b1, x_b2, x_is, x_idx, x_oNone, x_oSome, x_cut, x_aNil, x_aCons, x_tup, x_lst, x_call, x_callS,
    x_iSeq, x_iRng1, x_iRng2, x_bor, x_tBor, x_put1, List.map_cons, List.map_nil, List.cons_append, List.nil_append, List.length_cons, List.length_nil, Nat.zero_add, Nat.reduceAdd, Nat.reduceSub, List.reduceReplicate, start,
    List.getElem?_cons_zero, List.getElem?_cons_succ, List.set_cons_zero, List.set_cons_succ, bnd_ret, bnd_assoc, bnd_grd, b1_if, bnd_ite, small, Nat.reduceLeDiff, grd_true, o_add, o_sub, o_neg, o_eq, o_ne, o_lt, o_le, o_gt, o_ge, o_eqS, o_neS,
    decide_eq_true_eq, reduceIte, decide_true, decide_false, Bool.not_true, Bool.not_false, Bool.false_eq_true, itemsOf, asInt, bi2, endOf, isTy,
    grd_tt, nx_int, nx_bool, nx_str, nx_none, nx_tup, nx_lst, x_isC, x_fld, x_in, x_count, x_lstR, x_tupR, x_raise, x_star, bnd_thr, noX_ret, fld_x, exn_d, eSetO, Out.clear, List.zip_cons_cons, List.zip_nil_left, List.zip_nil_right, s_asg, s_par, s_own, s_parO, s_put, s_expr, s_ret, s_skip, s_seq, s_rel, x_asg, x_par, x_own, x_parO, x_put, x_expr, x_ret, x_retN, x_skip, x_rel, x_app, x_setI, x_sIf, x_for, x_brk, x_cnt]
        refine Ok.drawB (n := 0) (by omega) (by omega) fun i hi0 hi1 => ?_
        simp only [x_var, x_con, x_bin, x_neg, x_cmp, x_chain, x_tTru, x_tNot, x_tAnd, x_tOr, x_tBool, x_tYes, x_not, x_and, x_or, x_if, x_b1, x_b2, x_is, x_idx, x_oNone, x_oSome, x_cut, x_aNil, x_aCons, x_tup, x_lst, x_call, x_callS,
    x_iSeq, x_iRng1, x_iRng2, x_bor, x_tBor, x_put1, List.map_cons, List.map_nil, List.cons_append, List.nil_append, List.length_cons, List.length_nil, Nat.zero_add, Nat.reduceAdd, Nat.reduceSub, List.reduceReplicate, start,
    List.getElem?_cons_zero, List.getElem?_cons_succ, List.set_cons_zero, List.set_cons_succ, bnd_ret, bnd_assoc, bnd_grd, b1_if, bnd_ite, small, Nat.reduceLeDiff, grd_true, o_add, o_sub, o_neg, o_eq, o_ne, o_lt, o_le, o_gt, o_ge, o_eqS, o_neS,
    decide_eq_true_eq, reduceIte, decide_true, decide_false, Bool.not_true, Bool.not_false, Bool.false_eq_true, itemsOf, asInt, bi2, endOf, isTy,
    grd_tt, nx_int, nx_bool, nx_str, nx_none, nx_tup, nx_lst, x_isC, x_fld, x_in, x_count, x_lstR, x_tupR, x_raise, x_star, bnd_thr, noX_ret, fld_x, exn_d, eSetO, Out.clear, List.zip_cons_cons, List.zip_nil_left, List.zip_nil_right, s_asg, s_par, s_own, s_parO, s_put, s_expr, s_ret, s_skip, s_seq, s_rel, x_asg, x_par, x_own, x_parO, x_put, x_expr, x_ret, x_retN, x_skip, x_rel, x_app, x_setI, x_sIf, x_for, x_brk, x_cnt]
        rw [ixN_ok hi0 (by rw [List.length_map, hy]; omega)]
        refine Ok.ret ⟨ns.set i.toNat (1 + u), by rw [List.map_set], by rw [List.length_set]; omega, fun x hx => ?_⟩
        rcases List.mem_or_eq_of_mem_set hx with h | h
        · exact hn x h
        · omega
      refine Ok.ite (fun _ => ?_) fun _ => ?_
      · exact chg _ rfl
      · refine Ok.ite (fun _ => ?_) fun _ => ?_
        · exact chg _ rfl
        · exact stay
    · rintro E ⟨ms, rfl, hl, hm⟩
      refine Ok.seq _ (fun E => ∃ (ms : List Int) (e6 e7 : Ent), E = [.stm, .val (.int most), .val (.int (1 + r)), .val (.int way), .val (.int z), .own (ms.map PyData.int), e6, e7] ∧ ms.length = (1 + r).toNat ∧ ∀ x ∈ ms, 1 ≤ x ∧ x ≤ 60) (n := 1) ?_ (by omega) ?_
      · simp only [x_var, x_con, x_bin, x_neg, x_cmp, x_chain, x_tTru, x_tNot, x_tAnd, x_tOr, x_tBool, x_tYes, x_not, x_and, x_or, x_if, x_b1, x_b2, x_is, x_idx, x_oNone, x_oSome, x_cut, x_aNil, x_aCons, x_tup, x_lst, x_call, x_callS,
    x_iSeq, x_iRng1, x_iRng2, x_bor, x_tBor, x_put1, List.map_cons, List.map_nil, List.cons_append, List.nil_append, List.length_cons, List.length_nil, Nat.zero_add, Nat.reduceAdd, Nat.reduceSub, List.reduceReplicate, start,
    List.getElem?_cons_zero, List.getElem?_cons_succ, List.set_cons_zero, List.set_cons_succ, bnd_ret, bnd_assoc, bnd_grd, b1_if, bnd_ite, small, Nat.reduceLeDiff, grd_true, o_add, o_sub, o_neg, o_eq, o_ne, o_lt, o_le, o_gt, o_ge, o_eqS, o_neS,
    decide_eq_true_eq, reduceIte, decide_true, decide_false, Bool.not_true, Bool.not_false, Bool.false_eq_true, itemsOf, asInt, bi2, endOf, isTy,
    grd_tt, nx_int, nx_bool, nx_str, nx_none, nx_tup, nx_lst, x_isC, x_fld, x_in, x_count, x_lstR, x_tupR, x_raise, x_star, bnd_thr, noX_ret, fld_x, exn_d, eSetO, Out.clear, List.zip_cons_cons, List.zip_nil_left, List.zip_nil_right, s_asg, s_par, s_own, s_parO, s_put, s_expr, s_ret, s_skip, s_seq, s_rel, x_asg, x_par, x_own, x_parO, x_put, x_expr, x_ret, x_retN, x_skip, x_rel, x_app, x_setI, x_sIf, x_for, x_brk, x_cnt]
        refine Ok.ite (fun _ => ?_) fun _ => Ok.ret ⟨ms, _, _, rfl, hl, hm⟩
        refine Ok.drawB (n := 0) (by split <;> omega) (by split <;> omega) fun u hu0 hu1 => ?_
        simp only [x_var, x_con, x_bin, x_neg, x_cmp, x_chain, x_tTru, x_tNot, x_tAnd, x_tOr, x_tBool, x_tYes, x_not, x_and, x_or, x_if, x_b1, x_b2, x_is, x_idx, x_oNone, x_oSome, x_cut, x_aNil, x_aCons, x_tup, x_lst, x_call, x_callS,
    x_iSeq, x_iRng1, x_iRng2, x_bor, x_tBor, x_put1, List.map_cons, List.map_nil, List.cons_append, List.nil_append, List.length_cons, List.length_nil, Nat.zero_add, Nat.reduceAdd, Nat.reduceSub, List.reduceReplicate, start,
    List.getElem?_cons_zero, List.getElem?_cons_succ, List.set_cons_zero, List.set_cons_succ, bnd_ret, bnd_assoc, bnd_grd, b1_if, bnd_ite, small, Nat.reduceLeDiff, grd_true, o_add, o_sub, o_neg, o_eq, o_ne, o_lt, o_le, o_gt, o_ge, o_eqS, o_neS,
    decide_eq_true_eq, reduceIte, decide_true, decide_false, Bool.not_true, Bool.not_false, Bool.false_eq_true, itemsOf, asInt, bi2, endOf, isTy,
    grd_tt, nx_int, nx_bool, nx_str, nx_none, nx_tup, nx_lst, x_isC, x_fld, x_in, x_count, x_lstR, x_tupR, x_raise, x_star, bnd_thr, noX_ret, fld_x, exn_d, eSetO, Out.clear, List.zip_cons_cons, List.zip_nil_left, List.zip_nil_right, s_asg, s_par, s_own, s_parO, s_put, s_expr, s_ret, s_skip, s_seq, s_rel, x_asg, x_par, x_own, x_parO, x_put, x_expr, x_ret, x_retN, x_skip, x_rel, x_app, x_setI, x_sIf, x_for, x_brk, x_cnt]
        refine ok_comp (ds := rng 0 (1 + r)) (b := 0) (G := fun d => ∃ x : Int, d = .int x ∧ 1 ≤ x ∧ x ≤ 60) ?_ (by rw [rng_len]; omega) ?_ (Nat.le_refl _) ?_
        · simp only [x_var, x_con, x_bin, x_neg, x_cmp, x_chain, x_tTru, x_tNot, x_tAnd, x_tOr, x_tBool, x_tYes, x_not, x_and, x_or, x_if, x_b1, x_b2, x_is, x_idx, x_oNone, x_oSome, x_cut, x_aNil, x_aCons, x_tup, x_lst, x_call, x_callS,
    x_iSeq, x_iRng1, x_iRng2, x_bor, x_tBor, x_put1, List.map_cons, List.map_nil, List.cons_append, List.nil_append, List.length_cons, List.length_nil, Nat.zero_add, Nat.reduceAdd, Nat.reduceSub, List.reduceReplicate, start,
    List.getElem?_cons_zero, List.getElem?_cons_succ, List.set_cons_zero, List.set_cons_succ, bnd_ret, bnd_assoc, bnd_grd, b1_if, bnd_ite, small, Nat.reduceLeDiff, grd_true, o_add, o_sub, o_neg, o_eq, o_ne, o_lt, o_le, o_gt, o_ge, o_eqS, o_neS,
    decide_eq_true_eq, reduceIte, decide_true, decide_false, Bool.not_true, Bool.not_false, Bool.false_eq_true, itemsOf, asInt, bi2, endOf, isTy,
    grd_tt, nx_int, nx_bool, nx_str, nx_none, nx_tup, nx_lst, x_isC, x_fld, x_in, x_count, x_lstR, x_tupR, x_raise, x_star, bnd_thr, noX_ret, fld_x, exn_d, eSetO, Out.clear, List.zip_cons_cons, List.zip_nil_left, List.zip_nil_right]
          exact grd_pos (by unfold rngOk; omega) _
        · intro d hd
          obtain ⟨i, rfl, hi0, hi1⟩ := rng_mem hd
          refine ⟨_, rfl, rfl, ?_⟩
          simp only [x_var, x_con, x_bin, x_neg, x_cmp, x_chain, x_tTru, x_tNot, x_tAnd, x_tOr, x_tBool, x_tYes, x_not, x_and, x_or, x_if, x_b1, x_b2, x_is, x_idx, x_oNone, x_oSome, x_cut, x_aNil, x_aCons, x_tup, x_lst, x_call, x_callS,
    x_iSeq, x_iRng1, x_iRng2, x_bor, x_tBor, x_put1, List.map_cons, List.map_nil, List.cons_append, List.nil_append, List.length_cons, List.length_nil, Nat.zero_add, Nat.reduceAdd, Nat.reduceSub, List.reduceReplicate, start,
    List.getElem?_cons_zero, List.getElem?_cons_succ, List.set_cons_zero, List.set_cons_succ, bnd_ret, bnd_assoc, bnd_grd, b1_if, bnd_ite, small, Nat.reduceLeDiff, grd_true, o_add, o_sub, o_neg, o_eq, o_ne, o_lt, o_le, o_gt, o_ge, o_eqS, o_neS,
    decide_eq_true_eq, reduceIte, decide_true, decide_false, Bool.not_true, Bool.not_false, Bool.false_eq_true, itemsOf, asInt, bi2, endOf, isTy,
    grd_tt, nx_int, nx_bool, nx_str, nx_none, nx_tup, nx_lst, x_isC, x_fld, x_in, x_count, x_lstR, x_tupR, x_raise, x_star, bnd_thr, noX_ret, fld_x, exn_d, eSetO, Out.clear, List.zip_cons_cons, List.zip_nil_left, List.zip_nil_right, wipeE, o_mod]
          refine Ok.grd (by omega) ?_
          have hlt : i % (1 + u) < ms.length := by
            have := Int.emod_lt_of_pos i (show 0 < 1 + u by omega)
            have hb : 1 + u ≤ 1 + r := by split at hu1 <;> omega
            omega
          rw [idx_intsL (Int.emod_nonneg _ (by omega)) hlt]
          exact Ok.ret ⟨_, rfl, hm _ (List.getElem_mem _)⟩
        · intro ys hy2 hG2
          obtain ⟨ms2, rfl, hm2⟩ := ints_of hG2
          rw [List.length_map, rng_len] at hy2
          exact Ok.ret ⟨ms2, _, _, rfl, by omega, hm2⟩
      · rintro E ⟨ms, e6, e7, rfl, hl, hm⟩
        simp only [x_var, x_con, x_bin, x_neg, x_cmp, x_chain, x_tTru, x_tNot, x_tAnd, x_tOr, x_tBool, x_tYes, x_not, x_and, x_or, x_if, x_b1, x_b2, x_is, x_idx, x_oNone, x_oSome, x_cut, x_aNil, x_aCons, x_tup, x_lst, x_call, x_callS,
    x_iSeq, x_iRng1, x_iRng2, x_bor, x_tBor, x_put1, List.map_cons, List.map_nil, List.cons_append, List.nil_append, List.length_cons, List.length_nil, Nat.zero_add, Nat.reduceAdd, Nat.reduceSub, List.reduceReplicate, start,
    List.getElem?_cons_zero, List.getElem?_cons_succ, List.set_cons_zero, List.set_cons_succ, bnd_ret, bnd_assoc, bnd_grd, b1_if, bnd_ite, small, Nat.reduceLeDiff, grd_true, o_add, o_sub, o_neg, o_eq, o_ne, o_lt, o_le, o_gt, o_ge, o_eqS, o_neS,
    decide_eq_true_eq, reduceIte, decide_true, decide_false, Bool.not_true, Bool.not_false, Bool.false_eq_true, itemsOf, asInt, bi2, endOf, isTy,
    grd_tt, nx_int, nx_bool, nx_str, nx_none, nx_tup, nx_lst, x_isC, x_fld, x_in, x_count, x_lstR, x_tupR, x_raise, x_star, bnd_thr, noX_ret, fld_x, exn_d, eSetO, Out.clear, List.zip_cons_cons, List.zip_nil_left, List.zip_nil_right, s_asg, s_par, s_own, s_parO, s_put, s_expr, s_ret, s_skip, s_seq, s_rel, x_asg, x_par, x_own, x_parO, x_put, x_expr, x_ret, x_retN, x_skip, x_rel, x_app, x_setI, x_sIf, x_for, x_brk, x_cnt]
        exact Ok.ret ⟨ms, rfl, by omega, by omega, hm⟩
end DL
end
section
namespace DL
open PySem
/-- the extent of a stretch -/
def ext (ns : List Int) (i j : Nat) : Int := ((ns.drop i).take (j + 1 - i)).sum + j - i
theorem cut_nat (ds : List D) (i j : Nat) (hi : i ≤ ds.length) (hj : j ≤ ds.length) : DL.cut ds (some (i : Int)) (some (j : Int)) = (ds.drop i).take (j - i) := by
  unfold DL.cut
  rw [HT.sIx_nat, HT.sIx_nat, Nat.min_eq_left hi, Nat.min_eq_left hj]
theorem sum_ints (ns : List Int) : bi1 .sum (.tuple (ns.map PyData.int)) = ret (.int ns.sum) := by
  show bnd (intsOf (.tuple (ns.map PyData.int))) _ = _
  simp only [intsOf, itemsOf, bnd_ret, ints?_map]
theorem ext_self {ns : List Int} {i : Nat} {x : Int} (h : ns[i]? = some x) : ext ns i i = x := by
  unfold ext
  obtain ⟨hl, e⟩ := List.getElem?_eq_some_iff.mp h
  rw [show i + 1 - i = 1 by omega, List.drop_eq_getElem_cons hl, e]
  simp
theorem ext_next {ns : List Int} {i j : Nat} {x : Int} (hij : i ≤ j) (h : ns[j + 1]? = some x) : ext ns i (j + 1) = ext ns i j + 1 + x := by
  unfold ext
  have e : ((ns.drop i).take (j + 1 + 1 - i)) = (ns.drop i).take (j + 1 - i) ++ [x] := by
    rw [show j + 1 + 1 - i = (j + 1 - i) + 1 by omega, List.take_succ, List.getElem?_drop, show i + (j + 1 - i) = j + 1 by omega, h]
    rfl
  rw [e, List.sum_append]
  simp
  omega
theorem sum_bound : ∀ {ns : List Int} {b : Int}, 0 ≤ b → (∀ x ∈ ns, 0 ≤ x ∧ x ≤ b) → 0 ≤ ns.sum ∧ ns.sum ≤ b * ns.length
  | [], b, _, _ => by simp
  | x :: ns, b, hb, h => by
    have := sum_bound hb fun y hy => h y (.tail _ hy)
    have hx := h x (.head _)
    rw [List.sum_cons, List.length_cons]
    have e : b * ((ns.length + 1 : Nat) : Int) = b * ns.length + b := by rw [Int.natCast_add, Int.mul_add]; simp
    omega
end DL
end
section
namespace DL
open PySem
/-- a while that draws nothing: so many turns, from here to there -/
inductive Runs (t : XT) (s : XS) : Nat → Env → Env → Prop
  | stop {E : Env} : t E = ret false → Runs t s 0 E E
  | turn {k : Nat} {E E' E2 : Env} : t E = ret true → s E = ret (.nx E') → Runs t s k E' E2 → Runs t s (k + 1) E E2
theorem Runs.at_ {t : XT} {s : XS} : ∀ {k : Nat} {E E2 : Env}, Runs t s k E E2 → ∀ n, whileL t s n E = if k < n then ret (.nx E2) else stuck
  | _, _, _, _, 0 => by simp [whileL]
  | _, E, _, .stop h, n + 1 => by
    show bnd (t E) _ = _
    rw [h, bnd_ret, if_neg (by decide), if_pos (Nat.succ_pos n)]
  | _, E, _, .turn (k := k) (E' := E') h1 h2 r, n + 1 => by
    show bnd (t E) _ = _
    rw [h1, bnd_ret, if_pos rfl, h2, bnd_ret]
    show whileL t s n E' = _
    rw [Runs.at_ r n]
    by_cases h : k < n
    · rw [if_pos h, if_pos (by omega)]
    · rw [if_neg h, if_neg (by omega)]
theorem Runs.eq {t : XT} {s : XS} {k : Nat} {E E2 : Env} (r : Runs t s k E E2) : sWhile t s E = ret (.nx E2) := by
  funext c P X
  show (∃ n, whileL t s n E c P X) = _
  refine propext ⟨fun ⟨n, h⟩ => ?_, fun h => ⟨k + 1, ?_⟩⟩
  · rw [r.at_ n] at h
    split at h
    · exact h
    · exact h.elim
  · rw [r.at_ (k + 1), if_pos (Nat.lt_succ_self k)]
    exact h
/-- the least place from j on whose stretch from i on is too long, or the end -/
def nxFrom (ns : List Int) (w : Int) (i : Nat) : Nat → Nat → Nat
  | 0, j => j
  | f + 1, j => if j < ns.length ∧ ext ns i j ≤ w then nxFrom ns w i f (j + 1) else j
def nx (ns : List Int) (w : Int) (i : Nat) : Nat := nxFrom ns w i (ns.length - i) (i + 1)
theorem nxFrom_ge (ns : List Int) (w : Int) (i : Nat) : ∀ f j, j ≤ nxFrom ns w i f j
  | 0, _ => Nat.le_refl _
  | f + 1, j => by
    unfold nxFrom
    split
    · exact Nat.le_trans (Nat.le_succ j) (nxFrom_ge ns w i f (j + 1))
    · exact Nat.le_refl _
theorem nx_gt (ns : List Int) (w : Int) (i : Nat) : i < nx ns w i := nxFrom_ge ns w i _ (i + 1)
/-- the starts from j on -/
def restF (ns : List Int) (w : Int) : Nat → Nat → List Nat
  | 0, _ => []
  | f + 1, j => if j < ns.length then j :: restF ns w f (nx ns w j) else []
def starts (ns : List Int) (w : Int) : List Nat := 0 :: restF ns w ns.length (nx ns w 0)
def natsD (l : List Nat) : List D := l.map fun (n : Nat) => PyData.int (n : Int)
theorem nxFrom_eq {ns : List Int} {w : Int} {i m : Nat} (hm : m ≤ ns.length) (ho : m < ns.length → w < ext ns i m) : ∀ f j, j ≤ m → m ≤ j + f → (∀ k, j ≤ k → k < m → ext ns i k ≤ w) → nxFrom ns w i f j = m
  | 0, j, h1, h2, _ => by
    show j = m
    omega
  | f + 1, j, h1, h2, hk => by
    show (if j < ns.length ∧ ext ns i j ≤ w then nxFrom ns w i f (j + 1) else j) = m
    by_cases e : j = m
    · subst e
      rw [if_neg]
      rintro ⟨h3, h4⟩
      have := ho h3
      omega
    · rw [if_pos ⟨by omega, hk j (Nat.le_refl _) (by omega)⟩]
      exact nxFrom_eq hm ho f (j + 1) (by omega) (by omega) fun k a b => hk k (by omega) b
theorem nx_eq {ns : List Int} {w : Int} {i m : Nat} (hi : i < m) (hm : m ≤ ns.length) (hk : ∀ k, i < k → k < m → ext ns i k ≤ w) (ho : m < ns.length → w < ext ns i m) : nx ns w i = m :=
  nxFrom_eq hm ho _ _ hi (by omega) fun k a b => hk k a b
theorem nx_le (ns : List Int) (w : Int) (i : Nat) (hi : i < ns.length) : nx ns w i ≤ ns.length := by
  have go : ∀ f j, j ≤ ns.length → nxFrom ns w i f j ≤ ns.length := by
    intro f
    induction f with
    | zero => intro j h; exact h
    | succ f ih =>
      intro j h
      unfold nxFrom
      split
      · exact ih (j + 1) (by omega)
      · exact h
  exact go _ _ hi
/-- a walk over the words: the starts so far, the last of them, what the line holds -/
structure Greedy (ns : List Int) (w : Int) (acc : List Nat) (last p : Nat) : Prop where
  fits : ∀ k, last < k → k ≤ p → ext ns last k ≤ w
  le : last ≤ p
  rest : ∃ f, ns.length ≤ last + f ∧ starts ns w = acc ++ restF ns w f (nx ns w last)
theorem Greedy.new {ns : List Int} {w : Int} {acc : List Nat} {last p : Nat} (g : Greedy ns w acc last p) (hp : p + 1 < ns.length) (h : w < ext ns last (p + 1)) : Greedy ns w (acc ++ [p + 1]) (p + 1) (p + 1) := by
  have hle := g.le
  obtain ⟨f, hf, hs⟩ := g.rest
  have e : nx ns w last = p + 1 := nx_eq (by omega) (by omega) (fun k a b => g.fits k a (by omega)) fun _ => h
  refine ⟨fun k a b => by omega, Nat.le_refl _, ?_⟩
  cases f with
  | zero => omega
  | succ f =>
    refine ⟨f, by omega, ?_⟩
    rw [hs, e]
    show acc ++ (if p + 1 < ns.length then (p + 1) :: restF ns w f (nx ns w (p + 1)) else []) = _
    rw [if_pos hp]
    simp
theorem Greedy.same {ns : List Int} {w : Int} {acc : List Nat} {last p : Nat} (g : Greedy ns w acc last p) (h : ext ns last (p + 1) ≤ w) : Greedy ns w acc last (p + 1) := by
  refine ⟨fun k a b => ?_, Nat.le_succ_of_le g.le, g.rest⟩
  by_cases e : k = p + 1
  · rw [e]; exact h
  · exact g.fits k a (by omega)
theorem Greedy.all {ns : List Int} {w : Int} {acc : List Nat} {last p : Nat} (g : Greedy ns w acc last p) (hp : p + 1 = ns.length) : acc = starts ns w := by
  have hle := g.le
  obtain ⟨f, hf, hs⟩ := g.rest
  have e : nx ns w last = ns.length := nx_eq (by omega) (Nat.le_refl _) (fun k a b => g.fits k a (by omega)) fun h => by omega
  rw [hs, e]
  cases f with
  | zero => simp [restF]
  | succ f => simp [restF]
theorem Greedy.start (ns : List Int) (w : Int) : Greedy ns w [0] 0 0 := ⟨fun k a b => by omega, Nat.le_refl _, ns.length, by omega, rfl⟩
/-- a walk that draws nothing, by what holds at each turn -/
theorem forL_inv {tg : Tg} {s : XS} (I : Nat → Env → Prop) : ∀ (ds : List D) (i : Nat) (E : Env), I i E → (∀ j d E, ds[j]? = some d → I (i + j) E → ∃ E1 E2, tg.put d E = some E1 ∧ s E1 = ret (.nx E2) ∧ I (i + j + 1) E2) →
    ∃ E', forL tg s ds E = ret (.nx E') ∧ I (i + ds.length) E'
  | [], i, E, h, _ => ⟨E, rfl, h⟩
  | d :: ds, i, E, h, hs => by
    obtain ⟨E1, E2, e1, e2, h2⟩ := hs 0 d E rfl h
    obtain ⟨E', e3, h3⟩ := forL_inv (tg := tg) (s := s) I ds (i + 1) E2 h2 fun j d E hj hI => by
      have := hs (j + 1) d E hj
      rw [show i + (j + 1) = i + 1 + j by omega] at this
      exact this hI
    refine ⟨E', ?_, ?_⟩
    · show (match tg.put d E with | none => stuck | some E1 => bnd (s E1) fun o => match o with
        | .nx E' => forL tg s ds E' | .ct E' => forL tg s ds E' | .bk E' => ret (.nx E') | .rt d => ret (.rt d)) = _
      rw [e1]
      simp only [e2, bnd_ret]
      exact e3
    · rw [List.length_cons, show i + (ds.length + 1) = i + 1 + ds.length by omega]
      exact h3
theorem law_greedy_0 {ns : List Int} {w : Int} (h1 : 0 < ns.length) (h2 : ns.length ≤ 900) : w__law_greedy_0 [.tuple (ns.map PyData.int), .int w] = ret (.tuple (natsD (starts ns w))) := by
  unfold w__law_greedy_0
  refine (f_fn (by rfl)).trans ?_
  simp only [x_var, x_con, x_bin, x_neg, x_cmp, x_chain, x_tTru, x_tNot, x_tAnd, x_tOr, x_tBool, x_tYes, x_not, x_and, x_or, x_if, x_b1, x_b2, x_is, x_idx, x_oNone, x_oSome, x_cut, x_aNil, x_aCons, x_tup, x_lst, x_call, x_callS,
    x_iSeq, x_iRng1, x_iRng2, x_bor, x_tBor, x_put1, List.map_cons, List.map_nil, List.cons_append, List.nil_append, List.length_cons, List.length_nil, Nat.zero_add, Nat.reduceAdd, Nat.reduceSub, List.reduceReplicate, start,
    List.getElem?_cons_zero, List.getElem?_cons_succ, List.set_cons_zero, List.set_cons_succ, bnd_ret, bnd_assoc, bnd_grd, b1_if, bnd_ite, small, Nat.reduceLeDiff, grd_true, o_add, o_sub, o_neg, o_eq, o_ne, o_lt, o_le, o_gt, o_ge, o_eqS, o_neS,
    decide_eq_true_eq, reduceIte, decide_true, decide_false, Bool.not_true, Bool.not_false, Bool.false_eq_true, itemsOf, asInt, bi2, endOf, isTy,
    grd_tt, nx_int, nx_bool, nx_str, nx_none, nx_tup, nx_lst, x_isC, x_fld, x_in, x_count, x_lstR, x_tupR, x_raise, x_star, bnd_thr, noX_ret, fld_x, exn_d, eSetO, Out.clear, List.zip_cons_cons, List.zip_nil_left, List.zip_nil_right, s_asg, s_par, s_own, s_parO, s_put, s_expr, s_ret, s_skip, s_seq, s_rel, x_asg, x_par, x_own, x_parO, x_put, x_expr, x_ret, x_retN, x_skip, x_rel, x_app, x_setI, x_sIf, x_for, x_brk, x_cnt]
  rw [idx_ints (i := 0) (by omega) (by omega)]
  simp only [x_var, x_con, x_bin, x_neg, x_cmp, x_chain, x_tTru, x_tNot, x_tAnd, x_tOr, x_tBool, x_tYes, x_not, x_and, x_or, x_if, x_b1, x_b2, x_is, x_idx, x_oNone, x_oSome, x_cut, x_aNil, x_aCons, x_tup, x_lst, x_call, x_callS,
    x_iSeq, x_iRng1, x_iRng2, x_bor, x_tBor, x_put1, List.map_cons, List.map_nil, List.cons_append, List.nil_append, List.length_cons, List.length_nil, Nat.zero_add, Nat.reduceAdd, Nat.reduceSub, List.reduceReplicate, start,
    List.getElem?_cons_zero, List.getElem?_cons_succ, List.set_cons_zero, List.set_cons_succ, bnd_ret, bnd_assoc, bnd_grd, b1_if, bnd_ite, small, Nat.reduceLeDiff, grd_true, o_add, o_sub, o_neg, o_eq, o_ne, o_lt, o_le, o_gt, o_ge, o_eqS, o_neS,
    decide_eq_true_eq, reduceIte, decide_true, decide_false, Bool.not_true, Bool.not_false, Bool.false_eq_true, itemsOf, asInt, bi2, endOf, isTy,
    grd_tt, nx_int, nx_bool, nx_str, nx_none, nx_tup, nx_lst, x_isC, x_fld, x_in, x_count, x_lstR, x_tupR, x_raise, x_star, bnd_thr, noX_ret, fld_x, exn_d, eSetO, Out.clear, List.zip_cons_cons, List.zip_nil_left, List.zip_nil_right, s_asg, s_par, s_own, s_parO, s_put, s_expr, s_ret, s_skip, s_seq, s_rel, x_asg, x_par, x_own, x_parO, x_put, x_expr, x_ret, x_retN, x_skip, x_rel, x_app, x_setI, x_sIf, x_for, x_brk, x_cnt, bi1, List.length_map]
  have hx0 : ns[0]? = some (ns[(0 : Int).toNat]'(by simpa using h1)) := List.getElem?_eq_getElem _
  have walk := forL_inv (tg := .nm 4) (s := sSeq (sAsg 3 (eBin .add (eBin .add (eVar 3) (eCon (.int 1))) (eIdx (eVar 0) (eVar 4))))
      (sIf (tBool (eCmp .gt (eVar 3) (eVar 1))) (sSeq (sApp 2 (eVar 4)) (sAsg 3 (eIdx (eVar 0) (eVar 4)))) sSkip))
    (fun p E => ∃ acc last e4, E = [.val (.tuple (ns.map PyData.int)), .val (.int w), .own (natsD acc), .val (.int (ext ns last p)), e4] ∧ Greedy ns w acc last p ∧ acc.length ≤ p + 1)
    (rng 1 ns.length) 0 [.val (.tuple (ns.map PyData.int)), .val (.int w), .own [.int 0], .val (.int (ns[(0 : Int).toNat]'(by simpa using h1))), .unk]
    ⟨[0], 0, .unk, by rw [ext_self hx0]; rfl, Greedy.start ns w, by simp⟩ (by
      rintro j d E hj ⟨acc, last, e4, rfl, g, ha⟩
      obtain ⟨rfl, hj2⟩ := rng_at hj
      rw [Nat.zero_add] at g ha ⊢
      have hlt : j + 1 < ns.length := by omega
      have hx : ns[j + 1]? = some (ns[j + 1]'hlt) := List.getElem?_eq_getElem _
      have hn := ext_next g.le hx
      have ei : ((1 : Int) + j).toNat = j + 1 := by omega
      have hi2 : opIdx (.tuple (ns.map PyData.int)) (.int (1 + (j : Int))) = ret (.int (ns[j + 1]'hlt)) := by
        rw [idx_ints (by omega) (by omega)]
        simp only [ei]
      have hs : small (natsD acc).length := by unfold natsD small; rw [List.length_map]; omega
      have ej : (1 + (j : Int)) = ((j + 1 : Nat) : Int) := by omega
      by_cases hw : w < ext ns last (j + 1)
      · refine ⟨_, [.val (.tuple (ns.map PyData.int)), .val (.int w), .own (natsD (acc ++ [j + 1])), .val (.int (ext ns (j + 1) (j + 1))), .val (.int ((j + 1 : Nat) : Int))], rfl, ?_, acc ++ [j + 1], j + 1, _, rfl, g.new hlt hw, by rw [List.length_append, List.length_singleton]; omega⟩
        simp only [x_var, x_con, x_bin, x_neg, x_cmp, x_chain, x_tTru, x_tNot, x_tAnd, x_tOr, x_tBool, x_tYes, x_not, x_and, x_or, x_if, x_b1, x_b2, x_is, x_idx, x_oNone, x_oSome, x_cut, x_aNil, x_aCons, x_tup, x_lst, x_call, x_callS,
    x_iSeq, x_iRng1, x_iRng2, x_bor, x_tBor, x_put1, List.map_cons, List.map_nil, List.cons_append, List.nil_append, List.length_cons, List.length_nil, Nat.zero_add, Nat.reduceAdd, Nat.reduceSub, List.reduceReplicate, start,
    List.getElem?_cons_zero, List.getElem?_cons_succ, List.set_cons_zero, List.set_cons_succ, bnd_ret, bnd_assoc, bnd_grd, b1_if, bnd_ite, small, Nat.reduceLeDiff, grd_true, o_add, o_sub, o_neg, o_eq, o_ne, o_lt, o_le, o_gt, o_ge, o_eqS, o_neS,
    decide_eq_true_eq, reduceIte, decide_true, decide_false, Bool.not_true, Bool.not_false, Bool.false_eq_true, itemsOf, asInt, bi2, endOf, isTy,
    grd_tt, nx_int, nx_bool, nx_str, nx_none, nx_tup, nx_lst, x_isC, x_fld, x_in, x_count, x_lstR, x_tupR, x_raise, x_star, bnd_thr, noX_ret, fld_x, exn_d, eSetO, Out.clear, List.zip_cons_cons, List.zip_nil_left, List.zip_nil_right, s_asg, s_par, s_own, s_parO, s_put, s_expr, s_ret, s_skip, s_seq, s_rel, x_asg, x_par, x_own, x_parO, x_put, x_expr, x_ret, x_retN, x_skip, x_rel, x_app, x_setI, x_sIf, x_for, x_brk, x_cnt, hi2, ← hn]
        rw [if_pos hw, s_app 2 (eVar 4) _ (ds := natsD acc) rfl]
        simp only [x_var, List.getElem?_cons_zero, List.getElem?_cons_succ, bnd_ret, grd_pos hs]
        simp only [x_var, x_con, x_bin, x_neg, x_cmp, x_chain, x_tTru, x_tNot, x_tAnd, x_tOr, x_tBool, x_tYes, x_not, x_and, x_or, x_if, x_b1, x_b2, x_is, x_idx, x_oNone, x_oSome, x_cut, x_aNil, x_aCons, x_tup, x_lst, x_call, x_callS,
    x_iSeq, x_iRng1, x_iRng2, x_bor, x_tBor, x_put1, List.map_cons, List.map_nil, List.cons_append, List.nil_append, List.length_cons, List.length_nil, Nat.zero_add, Nat.reduceAdd, Nat.reduceSub, List.reduceReplicate, start,
    List.getElem?_cons_zero, List.getElem?_cons_succ, List.set_cons_zero, List.set_cons_succ, bnd_ret, bnd_assoc, bnd_grd, b1_if, bnd_ite, small, Nat.reduceLeDiff, grd_true, o_add, o_sub, o_neg, o_eq, o_ne, o_lt, o_le, o_gt, o_ge, o_eqS, o_neS,
    decide_eq_true_eq, reduceIte, decide_true, decide_false, Bool.not_true, Bool.not_false, Bool.false_eq_true, itemsOf, asInt, bi2, endOf, isTy,
    grd_tt, nx_int, nx_bool, nx_str, nx_none, nx_tup, nx_lst, x_isC, x_fld, x_in, x_count, x_lstR, x_tupR, x_raise, x_star, bnd_thr, noX_ret, fld_x, exn_d, eSetO, Out.clear, List.zip_cons_cons, List.zip_nil_left, List.zip_nil_right, s_asg, s_par, s_own, s_parO, s_put, s_expr, s_ret, s_skip, s_seq, s_rel, x_asg, x_par, x_own, x_parO, x_put, x_expr, x_ret, x_retN, x_skip, x_rel, x_app, x_setI, x_sIf, x_for, x_brk, x_cnt, hi2]
        rw [ext_self hx, ej, show natsD (acc ++ [j + 1]) = natsD acc ++ [PyData.int ((j + 1 : Nat) : Int)] by simp [natsD]]
      · refine ⟨_, [.val (.tuple (ns.map PyData.int)), .val (.int w), .own (natsD acc), .val (.int (ext ns last (j + 1))), .val (.int ((j + 1 : Nat) : Int))], rfl, ?_, acc, last, _, rfl, g.same (by omega), by omega⟩
        simp only [x_var, x_con, x_bin, x_neg, x_cmp, x_chain, x_tTru, x_tNot, x_tAnd, x_tOr, x_tBool, x_tYes, x_not, x_and, x_or, x_if, x_b1, x_b2, x_is, x_idx, x_oNone, x_oSome, x_cut, x_aNil, x_aCons, x_tup, x_lst, x_call, x_callS,
    x_iSeq, x_iRng1, x_iRng2, x_bor, x_tBor, x_put1, List.map_cons, List.map_nil, List.cons_append, List.nil_append, List.length_cons, List.length_nil, Nat.zero_add, Nat.reduceAdd, Nat.reduceSub, List.reduceReplicate, start,
    List.getElem?_cons_zero, List.getElem?_cons_succ, List.set_cons_zero, List.set_cons_succ, bnd_ret, bnd_assoc, bnd_grd, b1_if, bnd_ite, small, Nat.reduceLeDiff, grd_true, o_add, o_sub, o_neg, o_eq, o_ne, o_lt, o_le, o_gt, o_ge, o_eqS, o_neS,
    decide_eq_true_eq, reduceIte, decide_true, decide_false, Bool.not_true, Bool.not_false, Bool.false_eq_true, itemsOf, asInt, bi2, endOf, isTy,
    grd_tt, nx_int, nx_bool, nx_str, nx_none, nx_tup, nx_lst, x_isC, x_fld, x_in, x_count, x_lstR, x_tupR, x_raise, x_star, bnd_thr, noX_ret, fld_x, exn_d, eSetO, Out.clear, List.zip_cons_cons, List.zip_nil_left, List.zip_nil_right, s_asg, s_par, s_own, s_parO, s_put, s_expr, s_ret, s_skip, s_seq, s_rel, x_asg, x_par, x_own, x_parO, x_put, x_expr, x_ret, x_retN, x_skip, x_rel, x_app, x_setI, x_sIf, x_for, x_brk, x_cnt, hi2, ← hn]
        rw [if_neg hw, ej])
  obtain ⟨E', e, acc, last, e4, rfl, g, _⟩ := walk
  have gl : acc = starts ns w := g.all (by rw [rng_len]; omega)
  rw [x_seq, x_for, x_iRng2]
  simp only [x_var, x_con, x_bin, x_neg, x_cmp, x_chain, x_tTru, x_tNot, x_tAnd, x_tOr, x_tBool, x_tYes, x_not, x_and, x_or, x_if, x_b1, x_b2, x_is, x_idx, x_oNone, x_oSome, x_cut, x_aNil, x_aCons, x_tup, x_lst, x_call, x_callS,
    x_iSeq, x_iRng1, x_iRng2, x_bor, x_tBor, x_put1, List.map_cons, List.map_nil, List.cons_append, List.nil_append, List.length_cons, List.length_nil, Nat.zero_add, Nat.reduceAdd, Nat.reduceSub, List.reduceReplicate, start,
    List.getElem?_cons_zero, List.getElem?_cons_succ, List.set_cons_zero, List.set_cons_succ, bnd_ret, bnd_assoc, bnd_grd, b1_if, bnd_ite, small, Nat.reduceLeDiff, grd_true, o_add, o_sub, o_neg, o_eq, o_ne, o_lt, o_le, o_gt, o_ge, o_eqS, o_neS,
    decide_eq_true_eq, reduceIte, decide_true, decide_false, Bool.not_true, Bool.not_false, Bool.false_eq_true, itemsOf, asInt, bi2, endOf, isTy,
    grd_tt, nx_int, nx_bool, nx_str, nx_none, nx_tup, nx_lst, x_isC, x_fld, x_in, x_count, x_lstR, x_tupR, x_raise, x_star, bnd_thr, noX_ret, fld_x, exn_d, eSetO, Out.clear, List.zip_cons_cons, List.zip_nil_left, List.zip_nil_right, bi1, List.length_map]
  rw [grd_pos (by unfold rngOk; omega), e]
  simp only [x_var, x_con, x_bin, x_neg, x_cmp, x_chain, x_tTru, x_tNot, x_tAnd, x_tOr, x_tBool, x_tYes, x_not, x_and, x_or, x_if, x_b1, x_b2, x_is, x_idx, x_oNone, x_oSome, x_cut, x_aNil, x_aCons, x_tup, x_lst, x_call, x_callS,
    x_iSeq, x_iRng1, x_iRng2, x_bor, x_tBor, x_put1, List.map_cons, List.map_nil, List.cons_append, List.nil_append, List.length_cons, List.length_nil, Nat.zero_add, Nat.reduceAdd, Nat.reduceSub, List.reduceReplicate, start,
    List.getElem?_cons_zero, List.getElem?_cons_succ, List.set_cons_zero, List.set_cons_succ, bnd_ret, bnd_assoc, bnd_grd, b1_if, bnd_ite, small, Nat.reduceLeDiff, grd_true, o_add, o_sub, o_neg, o_eq, o_ne, o_lt, o_le, o_gt, o_ge, o_eqS, o_neS,
    decide_eq_true_eq, reduceIte, decide_true, decide_false, Bool.not_true, Bool.not_false, Bool.false_eq_true, itemsOf, asInt, bi2, endOf, isTy,
    grd_tt, nx_int, nx_bool, nx_str, nx_none, nx_tup, nx_lst, x_isC, x_fld, x_in, x_count, x_lstR, x_tupR, x_raise, x_star, bnd_thr, noX_ret, fld_x, exn_d, eSetO, Out.clear, List.zip_cons_cons, List.zip_nil_left, List.zip_nil_right, s_asg, s_par, s_own, s_parO, s_put, s_expr, s_ret, s_skip, s_seq, s_rel, x_asg, x_par, x_own, x_parO, x_put, x_expr, x_ret, x_retN, x_skip, x_rel, x_app, x_setI, x_sIf, x_for, x_brk, x_cnt, bi1, gl]
end DL
end
section
namespace DL
open PySem
theorem x_forc (tg : Tg) (s : XS) (d : D) (ds : List D) (E : Env) : forL tg s (d :: ds) E = match tg.put d E with | none => stuck | some E1 => bnd (s E1) fun o => match o with
        | .nx E' => forL tg s ds E' | .ct E' => forL tg s ds E' | .bk E' => ret (.nx E') | .rt d => ret (.rt d) := id rfl
/-- no word is longer than the line, or there is a first one that is -/
inductive Long (ns : List Int) (w : Int) : Option Nat → Prop
  | no : (∀ (j : Nat) (x : Int), ns[j]? = some x → x ≤ w) → Long ns w none
  | yes {j : Nat} {x : Int} : ns[j]? = some x → w < x → (∀ (k : Nat) (y : Int), k < j → ns[k]? = some y → y ≤ w) → Long ns w (some j)
theorem Long.cases (w : Int) : ∀ ns : List Int, ∃ o, Long ns w o
  | [] => ⟨none, .no fun j x h => by simp at h⟩
  | a :: ns => by
    by_cases h : w < a
    · exact ⟨some 0, .yes (x := a) rfl h fun k y hk => by omega⟩
    · obtain ⟨o, ho⟩ := Long.cases w ns
      cases ho with
      | no g =>
        refine ⟨none, .no fun j x hj => ?_⟩
        cases j with
        | zero => simp at hj; omega
        | succ j => exact g j x hj
      | yes g1 g2 g3 =>
        refine ⟨some _, .yes (j := _ + 1) g1 g2 fun k y hk hy => ?_⟩
        cases k with
        | zero => simp at hy; omega
        | succ k => exact g3 k y (by omega) hy
theorem Long.lt {ns : List Int} {w : Int} {j : Nat} (h : Long ns w (some j)) : j < ns.length := by
  cases h with
  | yes g1 g2 g3 => exact (List.getElem?_eq_some_iff.mp g1).1
theorem natsD_ints (l : List Nat) : natsD l = (l.map fun n : Nat => (n : Int)).map PyData.int := by
  unfold natsD
  rw [List.map_map]
  rfl
theorem restF_lt {ns : List Int} {w : Int} : ∀ (f j : Nat), ∀ n ∈ restF ns w f j, n < ns.length
  | 0, j, n, h => by cases h
  | f + 1, j, n, h => by
    unfold restF at h
    split at h
    · cases h with
      | head => assumption
      | tail _ h => exact restF_lt f _ n h
    · cases h
theorem restF_len {ns : List Int} {w : Int} : ∀ (f j : Nat), (restF ns w f j).length ≤ f
  | 0, j => Nat.le_refl _
  | f + 1, j => by
    unfold restF
    split
    · exact Nat.succ_le_succ (restF_len f _)
    · exact Nat.zero_le _
theorem starts_lt {ns : List Int} {w : Int} (h : 0 < ns.length) : ∀ n ∈ starts ns w, n < ns.length := fun n hn => by
  cases hn with
  | head => exact h
  | tail _ hn => exact restF_lt _ _ n hn
theorem starts_len (ns : List Int) (w : Int) : (starts ns w).length ≤ ns.length + 1 := Nat.succ_le_succ (restF_len _ _)
theorem max_ints {ns : List Int} (h : 0 < ns.length) : ∃ m, bi1 .max (.tuple (ns.map PyData.int)) = ret (.int m) ∧ m ∈ ns := by
  match ns, h with
  | a :: r, _ =>
    refine ⟨greatest a r, ?_, ?_⟩
    · show bnd (intsOf (.tuple ((a :: r).map PyData.int))) _ = _
      simp only [intsOf, itemsOf, bnd_ret, ints?_map]
    · have go : ∀ (r : List Int) (a : Int), r.foldl max a = a ∨ r.foldl max a ∈ r := by
        intro r
        induction r with
        | nil => intro a; exact .inl rfl
        | cons b r ih =>
          intro a
          rw [List.foldl_cons]
          rcases ih (max a b) with h | h
          · rw [h]
            by_cases hb : b ≤ a
            · exact .inl (Int.max_eq_left hb)
            · rw [Int.max_eq_right (by omega)]
              exact .inr (.head _)
          · exact .inr (.tail _ h)
      rcases go r a with h | h
      · unfold greatest; rw [h]; exact .head _
      · exact .tail _ h
theorem b_lenT (xs : List D) : bi1 .len (.tuple xs) = ret (.int xs.length) := id rfl
theorem b_lenL (xs : List D) : bi1 .len (.list xs) = ret (.int xs.length) := id rfl
theorem b_tupL (xs : List D) : bi1 .tuple (.list xs) = ret (.tuple xs) := id rfl
theorem b_tupT (xs : List D) : bi1 .tuple (.tuple xs) = ret (.tuple xs) := id rfl
theorem b_max2 (i j : Int) : bi2 .max (.int i) (.int j) = ret (.int (if j > i then j else i)) := id rfl
theorem b_min2 (i j : Int) : bi2 .min (.int i) (.int j) = ret (.int (if j < i then j else i)) := id rfl
theorem o_addL (xs ys : List D) : opBin .add (.list xs) (.list ys) = grd (small (xs.length + ys.length)) (ret (.list (xs ++ ys))) := id rfl
theorem o_addT (xs ys : List D) : opBin .add (.tuple xs) (.tuple ys) = grd (small (xs.length + ys.length)) (ret (.tuple (xs ++ ys))) := id rfl
theorem cut_ints {ns : List Int} {i j : Int} (h0 : 0 ≤ i) (h1 : i ≤ ns.length) (h2 : 0 ≤ j) (h3 : j ≤ ns.length) : opCut (.tuple (ns.map PyData.int)) (some i) (some j) = ret (.tuple (((ns.drop i.toNat).take (j.toNat - i.toNat)).map PyData.int)) := by
  obtain ⟨a, rfl⟩ := Int.eq_ofNat_of_zero_le h0
  obtain ⟨b, rfl⟩ := Int.eq_ofNat_of_zero_le h2
  show ret (PyData.tuple (DL.cut (ns.map PyData.int) (some (a : Int)) (some (b : Int)))) = _
  rw [cut_nat _ a b (by rw [List.length_map]; omega) (by rw [List.length_map]; omega), ← List.map_drop, ← List.map_take]
  rfl
theorem sum_part {ns : List Int} {i k : Nat} (hn : ∀ x ∈ ns, 1 ≤ x ∧ x ≤ 60) (h2 : ns.length ≤ 24) : 0 ≤ ((ns.drop i).take k).sum ∧ ((ns.drop i).take k).sum ≤ 1440 := by
  have := sum_bound (ns := (ns.drop i).take k) (b := 60) (by decide) fun x hx => by
    have := hn x (List.mem_of_mem_drop (List.mem_of_mem_take hx))
    omega
  have hl2 : ((ns.drop i).take k).length ≤ 24 := by
    rw [List.length_take, List.length_drop]; omega
  omega
theorem s_chk (t : XT) (a : XE) (b : XS) (E : Env) : sSeq (sIf t (sRet a) sSkip) b E = bnd (t E) fun c => if c = true then bnd (a E) (fun d => ret (.rt d)) else b E := by
  rw [s_if]
  refine congrArg (bnd (t E)) (funext fun c => ?_)
  cases c <;> rfl
theorem s_brk (b : XS) (E : Env) : sSeq sBreak b E = ret (.bk E) := id rfl
theorem s_cnt (b : XS) (E : Env) : sSeq sCont b E = ret (.ct E) := id rfl
theorem s_retN (b : XS) (E : Env) : sSeq sRetN b E = ret (.rt .none) := id rfl
theorem t_bool (b : Bool) : tru (.bool b) = ret b := id rfl
theorem s_for (it : XA) (tg : Tg) (s b : XS) (E : Env) : sSeq (sFor it tg s) b E = bnd (it E) fun ds => bnd (forL tg s ds E) fun o => match o with | .nx E' => b E' | o => ret o := id rfl
theorem g_rng {α : Type} {a b : Int} {m : W α} (h0 : -1000000 ≤ a) (h1 : a ≤ 1000000) (h2 : -1000000 ≤ b) (h3 : b ≤ 1000000) : grd (rngOk a b) m = m := grd_pos (by unfold rngOk; omega) m
theorem g_le {α : Type} {a b : Nat} {m : W α} (h : a ≤ b) : grd (a ≤ b) m = m := grd_pos h m
theorem width_drawn_0 {ns : List Int} (h1 : 1 ≤ ns.length) (h2 : ns.length ≤ 24) (hn : ∀ x ∈ ns, 1 ≤ x ∧ x ≤ 60) : Ok (w__law_width_drawn_0 [.tuple (ns.map PyData.int)]) 4 fun d => ∃ w : Int, d = .int w ∧ 1 ≤ w ∧ w ≤ 2000 := by
  unfold w__law_width_drawn_0
  rw [x_fnS]
  refine Ok.grd rfl (Ok.fn ?_)
  simp only [x_var, x_con, x_bin, x_neg, x_cmp, x_chain, x_tTru, x_tNot, x_tAnd, x_tOr, x_tBool, x_tYes, x_not, x_and, x_or, x_if, x_b1, x_b2, x_is, x_idx, x_oNone, x_oSome, x_cut, x_aNil, x_aCons, x_tup, x_lst, x_call, x_callS,
    x_iSeq, x_iRng1, x_iRng2, x_bor, x_tBor, x_put1, List.map_cons, List.map_nil, List.cons_append, List.nil_append, List.length_cons, List.length_nil, Nat.zero_add, Nat.reduceAdd, Nat.reduceSub, List.reduceReplicate, start,
    List.getElem?_cons_zero, List.getElem?_cons_succ, List.set_cons_zero, List.set_cons_succ, bnd_ret, bnd_assoc, bnd_grd, b1_if, bnd_ite, small, Nat.reduceLeDiff, grd_true, o_add, o_sub, o_neg, o_eq, o_ne, o_lt, o_le, o_gt, o_ge, o_eqS, o_neS,
    decide_eq_true_eq, reduceIte, decide_true, decide_false, Bool.not_true, Bool.not_false, Bool.false_eq_true, itemsOf, asInt, endOf, isTy,
    grd_tt, nx_int, nx_bool, nx_str, nx_none, nx_tup, nx_lst, x_isC, x_fld, x_in, x_count, x_lstR, x_tupR, x_raise, x_star, bnd_thr, noX_ret, fld_x, exn_d, eSetO, Out.clear, List.zip_cons_cons, List.zip_nil_left, List.zip_nil_right, s_asg, s_par, s_own, s_parO, s_put, s_expr, s_ret, s_skip, s_seq, s_rel, x_asg, x_par, x_own, x_parO, x_put, x_expr, x_ret, x_retN, x_skip, x_rel, x_app, x_setI, x_sIf, x_for, x_brk, x_cnt, b_lenT, b_lenL, b_tupL, b_tupT, b_max2, b_min2, o_addL, o_addT, cut_ints, sum_ints, s_chk, s_for, s_brk, s_cnt, s_retN, t_bool, g_rng, g_le, List.length_map]
  refine Ok.drawB (n := 3) (by omega) (by omega) fun i h0 h1 => ?_
  simp only [x_var, x_con, x_bin, x_neg, x_cmp, x_chain, x_tTru, x_tNot, x_tAnd, x_tOr, x_tBool, x_tYes, x_not, x_and, x_or, x_if, x_b1, x_b2, x_is, x_idx, x_oNone, x_oSome, x_cut, x_aNil, x_aCons, x_tup, x_lst, x_call, x_callS,
    x_iSeq, x_iRng1, x_iRng2, x_bor, x_tBor, x_put1, List.map_cons, List.map_nil, List.cons_append, List.nil_append, List.length_cons, List.length_nil, Nat.zero_add, Nat.reduceAdd, Nat.reduceSub, List.reduceReplicate, start,
    List.getElem?_cons_zero, List.getElem?_cons_succ, List.set_cons_zero, List.set_cons_succ, bnd_ret, bnd_assoc, bnd_grd, b1_if, bnd_ite, small, Nat.reduceLeDiff, grd_true, o_add, o_sub, o_neg, o_eq, o_ne, o_lt, o_le, o_gt, o_ge, o_eqS, o_neS,
    decide_eq_true_eq, reduceIte, decide_true, decide_false, Bool.not_true, Bool.not_false, Bool.false_eq_true, itemsOf, asInt, endOf, isTy,
    grd_tt, nx_int, nx_bool, nx_str, nx_none, nx_tup, nx_lst, x_isC, x_fld, x_in, x_count, x_lstR, x_tupR, x_raise, x_star, bnd_thr, noX_ret, fld_x, exn_d, eSetO, Out.clear, List.zip_cons_cons, List.zip_nil_left, List.zip_nil_right, s_asg, s_par, s_own, s_parO, s_put, s_expr, s_ret, s_skip, s_seq, s_rel, x_asg, x_par, x_own, x_parO, x_put, x_expr, x_ret, x_retN, x_skip, x_rel, x_app, x_setI, x_sIf, x_for, x_brk, x_cnt, b_lenT, b_lenL, b_tupL, b_tupT, b_max2, b_min2, o_addL, o_addT, cut_ints, sum_ints, s_chk, s_for, s_brk, s_cnt, s_retN, t_bool, g_rng, g_le, List.length_map]
  refine Ok.drawB (n := 2) (by split <;> omega) (by split <;> omega) fun k h3 h4 => ?_
  have hk : i + k < ns.length := by split at h4 <;> omega
  obtain ⟨m, em, hm⟩ := max_ints (show 0 < ns.length by omega)
  simp (disch := omega) only [x_var, x_con, x_bin, x_neg, x_cmp, x_chain, x_tTru, x_tNot, x_tAnd, x_tOr, x_tBool, x_tYes, x_not, x_and, x_or, x_if, x_b1, x_b2, x_is, x_idx, x_oNone, x_oSome, x_cut, x_aNil, x_aCons, x_tup, x_lst, x_call, x_callS,
    x_iSeq, x_iRng1, x_iRng2, x_bor, x_tBor, x_put1, List.map_cons, List.map_nil, List.cons_append, List.nil_append, List.length_cons, List.length_nil, Nat.zero_add, Nat.reduceAdd, Nat.reduceSub, List.reduceReplicate, start,
    List.getElem?_cons_zero, List.getElem?_cons_succ, List.set_cons_zero, List.set_cons_succ, bnd_ret, bnd_assoc, bnd_grd, b1_if, bnd_ite, small, Nat.reduceLeDiff, grd_true, o_add, o_sub, o_neg, o_eq, o_ne, o_lt, o_le, o_gt, o_ge, o_eqS, o_neS,
    decide_eq_true_eq, reduceIte, decide_true, decide_false, Bool.not_true, Bool.not_false, Bool.false_eq_true, itemsOf, asInt, endOf, isTy,
    grd_tt, nx_int, nx_bool, nx_str, nx_none, nx_tup, nx_lst, x_isC, x_fld, x_in, x_count, x_lstR, x_tupR, x_raise, x_star, bnd_thr, noX_ret, fld_x, exn_d, eSetO, Out.clear, List.zip_cons_cons, List.zip_nil_left, List.zip_nil_right, s_asg, s_par, s_own, s_parO, s_put, s_expr, s_ret, s_skip, s_seq, s_rel, x_asg, x_par, x_own, x_parO, x_put, x_expr, x_ret, x_retN, x_skip, x_rel, x_app, x_setI, x_sIf, x_for, x_brk, x_cnt, b_lenT, b_lenL, b_tupL, b_tupT, b_max2, b_min2, o_addL, o_addT, cut_ints, sum_ints, s_chk, s_for, s_brk, s_cnt, s_retN, t_bool, g_rng, g_le, List.length_map, em]
  refine Ok.drawB (n := 1) (by omega) (by omega) fun u hu0 hu1 => ?_
  simp only [x_var, x_con, x_bin, x_neg, x_cmp, x_chain, x_tTru, x_tNot, x_tAnd, x_tOr, x_tBool, x_tYes, x_not, x_and, x_or, x_if, x_b1, x_b2, x_is, x_idx, x_oNone, x_oSome, x_cut, x_aNil, x_aCons, x_tup, x_lst, x_call, x_callS,
    x_iSeq, x_iRng1, x_iRng2, x_bor, x_tBor, x_put1, List.map_cons, List.map_nil, List.cons_append, List.nil_append, List.length_cons, List.length_nil, Nat.zero_add, Nat.reduceAdd, Nat.reduceSub, List.reduceReplicate, start,
    List.getElem?_cons_zero, List.getElem?_cons_succ, List.set_cons_zero, List.set_cons_succ, bnd_ret, bnd_assoc, bnd_grd, b1_if, bnd_ite, small, Nat.reduceLeDiff, grd_true, o_add, o_sub, o_neg, o_eq, o_ne, o_lt, o_le, o_gt, o_ge, o_eqS, o_neS,
    decide_eq_true_eq, reduceIte, decide_true, decide_false, Bool.not_true, Bool.not_false, Bool.false_eq_true, itemsOf, asInt, endOf, isTy,
    grd_tt, nx_int, nx_bool, nx_str, nx_none, nx_tup, nx_lst, x_isC, x_fld, x_in, x_count, x_lstR, x_tupR, x_raise, x_star, bnd_thr, noX_ret, fld_x, exn_d, eSetO, Out.clear, List.zip_cons_cons, List.zip_nil_left, List.zip_nil_right, s_asg, s_par, s_own, s_parO, s_put, s_expr, s_ret, s_skip, s_seq, s_rel, x_asg, x_par, x_own, x_parO, x_put, x_expr, x_ret, x_retN, x_skip, x_rel, x_app, x_setI, x_sIf, x_for, x_brk, x_cnt, b_lenT, b_lenL, b_tupL, b_tupT, b_max2, b_min2, o_addL, o_addT, cut_ints, sum_ints, s_chk, s_for, s_brk, s_cnt, s_retN, t_bool, g_rng, g_le, List.length_map]
  refine Ok.drawB (n := 0) (by omega) (by omega) fun v hv0 hv1 => ?_
  have s1 := sum_part (i := i.toNat) (k := (i + k + 1).toNat - i.toNat) hn h2
  have s2 := sum_part (i := 0) (k := 24) hn h2
  rw [List.drop_zero, List.take_of_length_le h2] at s2
  generalize ((ns.drop i.toNat).take ((i + k + 1).toNat - i.toNat)).sum = s at s1 ⊢
  have hm2 := hn m hm
  have fin : ∀ z : Int, z ≤ 2000 → Ok (bnd (ret (PyData.int z)) fun a => bnd (bi2 .max (.int 1) a) fun d => ret (Out.rt d)) 0 fun o => match o with | .rt d => ∃ w : Int, d = .int w ∧ 1 ≤ w ∧ w ≤ 2000 | .nx E => ∃ w : Int, PyData.none = .int w ∧ 1 ≤ w ∧ w ≤ 2000 | _ => False := fun z hz => by
    simp only [bnd_ret, b_max2]
    refine Ok.ret ⟨_, rfl, ?_, ?_⟩ <;> split <;> omega
  obtain rfl | rfl | rfl | rfl | rfl | rfl | rfl : v = 0 ∨ v = 1 ∨ v = 2 ∨ v = 3 ∨ v = 4 ∨ v = 5 ∨ v = 6 := by omega
  · exact fin m (by omega)
  · exact fin _ (by omega)
  · exact fin _ (by omega)
  · exact fin _ (by omega)
  · exact fin _ (by omega)
  · exact fin _ (by omega)
  · exact fin _ (by omega)
end DL
end
section
namespace DL
open PySem
theorem x_iTwos (a b : XE) (E : Env) : iTwos a b E = bnd (a E) fun x => bnd (b E) fun y => bnd (itemsOf x) fun xs => bnd (itemsOf y) fun ys => ret (twos xs ys) := id rfl
def cutN (ns : List Int) (a b : Nat) : List Int := (ns.drop a).take (b - a)
def part (ns : List Int) (a b : Nat) : D := .tuple ((cutN ns a b).map PyData.int)
/-- the lines that begin at the given places and end at e -/
def parts (ns : List Int) : List Nat → Nat → List D
  | [], _ => []
  | [a], e => [part ns a e]
  | a :: b :: r, e => part ns a b :: parts ns (b :: r) e
theorem cut_tail (ds : List D) : DL.cut ds (some 1) none = ds.tail := by
  cases ds with
  | nil => rfl
  | cons d ds =>
    unfold DL.cut
    rw [show (1 : Int) = ((1 : Nat) : Int) from rfl, HT.sIx_nat, show HT.sIx (d :: ds).length (d :: ds).length none = (d :: ds).length from rfl, List.length_cons, Nat.min_eq_left (by omega)]
    simp
theorem cut_tailT (ds : List D) : opCut (.tuple ds) (some 1) none = ret (.tuple ds.tail) := by rw [← cut_tail]; rfl
theorem natsD_tail (l : List Nat) : (natsD l).tail = natsD l.tail := by cases l <;> rfl
theorem atI_last (xs : List D) (x : D) : L2.atI (xs ++ [x]) (-1) = some x := by
  unfold L2.atI L2.ixN
  rw [if_neg (by decide), List.length_append, List.length_singleton, if_pos (by omega)]
  show (xs ++ [x])[(-1 + ((xs.length + 1 : Nat) : Int)).toNat]? = _
  rw [show (-1 + ((xs.length + 1 : Nat) : Int)).toNat = xs.length by omega]
  simp
theorem flat_ints : ∀ ns : List Int, flat (.tuple (ns.map PyData.int)) = true
  | [] => rfl
  | _ :: ns => flat_ints ns
end DL
end
section
namespace DL
open PySem
end DL
end
section
namespace DL
open PySem
structure Thin (n k : Nat) (d : D) : Prop where
  short : PyData.leavesShort 8 d = true
  able : PyData.showable d = true
  bulk : PyData.bulk d ≤ n
  deep : PyData.depth d ≤ k
  pln : plain d = true
theorem Thin.mono {n k n' k' : Nat} {d : D} (h : Thin n k d) (hn : n ≤ n') (hk : k ≤ k') : Thin n' k' d := ⟨h.short, h.able, Nat.le_trans h.bulk hn, Nat.le_trans h.deep hk, h.pln⟩
structure ThinAll (n k : Nat) (ds : List D) : Prop where
  short : PyData.leavesShortAll 8 ds = true
  able : PyData.showableAll ds = true
  bulk : PyData.bulkAll ds ≤ n
  deep : PyData.depthAll ds ≤ k
  pln : plainAll ds = true
theorem ThinAll.mono {n k n' k' : Nat} {ds : List D} (h : ThinAll n k ds) (hn : n ≤ n') (hk : k ≤ k') : ThinAll n' k' ds := ⟨h.short, h.able, Nat.le_trans h.bulk hn, Nat.le_trans h.deep hk, h.pln⟩
theorem Thin.show {n k : Nat} {d : D} (h : Thin n k d) (hn : n ≤ 90000) (hk : k ≤ 40) : showOk d := by
  refine ⟨h.able, Nat.le_trans h.deep hk, ?_, h.pln⟩
  have e := PyData.shown_le_bulk 8 (by decide) d h.short
  have := h.bulk
  have : (8 + 2) * d.bulk ≤ 10 * 90000 := Nat.mul_le_mul_left _ (by omega)
  omega
end DL
end
section
namespace DL
open PySem
theorem nxFrom_spec (ns : List Int) (w : Int) (i : Nat) : ∀ f j, j ≤ ns.length → ns.length ≤ j + f → nxFrom ns w i f j ≤ ns.length ∧ (∀ k, j ≤ k → k < nxFrom ns w i f j → ext ns i k ≤ w) ∧ (nxFrom ns w i f j < ns.length → w < ext ns i (nxFrom ns w i f j))
  | 0, j, h1, h2 => by
    refine ⟨h1, fun k a b => ?_, fun h => ?_⟩
    · have : k < j := b; omega
    · have : j < ns.length := h; omega
  | f + 1, j, h1, h2 => by
    unfold nxFrom
    by_cases h : j < ns.length ∧ ext ns i j ≤ w
    · rw [if_pos h]
      obtain ⟨a, b, c⟩ := nxFrom_spec ns w i f (j + 1) (by omega) (by omega)
      refine ⟨a, fun k k1 k2 => ?_, c⟩
      by_cases e : k = j
      · rw [e]; exact h.2
      · exact b k (by omega) k2
    · rw [if_neg h]
      refine ⟨h1, fun k a b => by omega, fun hl => ?_⟩
      have : ¬ ext ns i j ≤ w := fun z => h ⟨hl, z⟩
      omega
theorem nx_spec {ns : List Int} {w : Int} {i : Nat} (hi : i < ns.length) : i < nx ns w i ∧ nx ns w i ≤ ns.length ∧ (∀ k, i < k → k < nx ns w i → ext ns i k ≤ w) ∧ (nx ns w i < ns.length → w < ext ns i (nx ns w i)) := by
  obtain ⟨a, b, c⟩ := nxFrom_spec ns w i (ns.length - i) (i + 1) (by omega) (by omega)
  exact ⟨nx_gt ns w i, a, fun k k1 k2 => b k k1 k2, c⟩
/-- the starts of the lines at width w, from one on -/
def Chain (ns : List Int) (w : Int) : List Nat → Prop
  | [] => False
  | [a] => a < ns.length ∧ nx ns w a = ns.length
  | a :: b :: r => a < ns.length ∧ nx ns w a = b ∧ Chain ns w (b :: r)
theorem Chain.lt {ns : List Int} {w : Int} : ∀ {a : Nat} {r : List Nat}, Chain ns w (a :: r) → a < ns.length
  | _, [], h => h.1
  | _, _ :: _, h => h.1
theorem chain_rest {ns : List Int} {w : Int} : ∀ f j, ns.length ≤ j + f → j < ns.length → Chain ns w (j :: restF ns w f (nx ns w j))
  | 0, j, h1, h2 => by omega
  | f + 1, j, h1, h2 => by
    have g := nx_gt ns w j
    have l := nx_le ns w j h2
    by_cases h : nx ns w j < ns.length
    · rw [show restF ns w (f + 1) (nx ns w j) = nx ns w j :: restF ns w f (nx ns w (nx ns w j)) from if_pos h]
      exact ⟨h2, rfl, chain_rest f _ (by omega) h⟩
    · rw [show restF ns w (f + 1) (nx ns w j) = [] from if_neg h]
      exact ⟨h2, by omega⟩
theorem starts_chain {ns : List Int} (w : Int) (h : 0 < ns.length) : Chain ns w (starts ns w) := chain_rest _ 0 (by omega) h
theorem chain_unique {ns : List Int} {w : Int} : ∀ (l : List Nat) (a f : Nat), Chain ns w (a :: l) → ns.length ≤ a + f → restF ns w f (nx ns w a) = l
  | [], a, f, h, hf => by
    rw [h.2]
    cases f with
    | zero => rfl
    | succ f => exact if_neg (by omega)
  | b :: r, a, f, h, hf => by
    obtain ⟨h1, h2, h3⟩ := h
    have g := nx_gt ns w a
    have hb := h3.lt
    rw [h2] at g ⊢
    cases f with
    | zero => omega
    | succ f =>
      rw [show restF ns w (f + 1) b = b :: restF ns w f (nx ns w b) from if_pos hb, chain_unique r b f h3 (by omega)]
theorem starts_unique {ns : List Int} {w : Int} {l : List Nat} (h : Chain ns w (0 :: l)) : starts ns w = 0 :: l := congrArg (0 :: ·) (chain_unique l 0 _ h (by omega))
/-- how wide each line with the next word would be -/
def exts (ns : List Int) : List Nat → List Int
  | [] => []
  | [_] => []
  | a :: b :: r => ext ns a b :: exts ns (b :: r)
theorem chain_keep {ns : List Int} {w v : Int} (hv : w ≤ v) : ∀ {l : List Nat}, Chain ns w l → (∀ e ∈ exts ns l, v < e) → Chain ns v l
  | [a], h, _ => by
    obtain ⟨h1, h2⟩ := h
    obtain ⟨s1, s2, s3, s4⟩ := nx_spec (w := w) h1
    rw [h2] at s1 s3
    exact ⟨h1, nx_eq h1 (Nat.le_refl _) (fun k a b => Int.le_trans (s3 k a b) hv) fun z => by omega⟩
  | a :: b :: r, h, he => by
    obtain ⟨h1, h2, h3⟩ := h
    obtain ⟨s1, s2, s3, s4⟩ := nx_spec (w := w) h1
    rw [h2] at s1 s2 s3
    exact ⟨h1, nx_eq s1 s2 (fun k a b => Int.le_trans (s3 k a b) hv) fun z => he _ (.head _), chain_keep hv h3 fun e x => he e (.tail _ x)⟩
theorem chain_gt {ns : List Int} {w : Int} : ∀ {l : List Nat}, Chain ns w l → ∀ e ∈ exts ns l, w < e
  | [a], h, e, he => by cases he
  | a :: b :: r, h, e, he => by
    obtain ⟨h1, h2, h3⟩ := h
    cases he with
    | head =>
      obtain ⟨s1, s2, s3, s4⟩ := nx_spec (w := w) h1
      rw [h2] at s4
      exact s4 h3.lt
    | tail _ he => exact chain_gt h3 e he
theorem sum_sub : ∀ {ns : List Int} {i k : Nat}, (∀ x ∈ ns, 0 ≤ x) → ((ns.drop i).take k).sum ≤ ns.sum
  | ns, i, k, h => by
    have pos : ∀ l : List Int, (∀ x ∈ l, 0 ≤ x) → 0 ≤ l.sum := fun l hl => by
      induction l with
      | nil => simp
      | cons a l ih =>
        have := hl a (.head _)
        have := ih fun x hx => hl x (.tail _ hx)
        rw [List.sum_cons]; omega
    have e1 : ns.sum = (ns.take i).sum + (ns.drop i).sum := by rw [← List.sum_append, List.take_append_drop]
    have e2 : (ns.drop i).sum = ((ns.drop i).take k).sum + ((ns.drop i).drop k).sum := by rw [← List.sum_append, List.take_append_drop]
    have p1 := pos (ns.take i) fun x hx => h x (List.mem_of_mem_take hx)
    have p2 := pos ((ns.drop i).drop k) fun x hx => h x (List.mem_of_mem_drop (List.mem_of_mem_drop hx))
    omega
theorem exts_le {ns : List Int} (hn : ∀ x ∈ ns, 0 ≤ x) : ∀ {l : List Nat}, (∀ a ∈ l, a < ns.length) → ∀ e ∈ exts ns l, e ≤ ns.sum + ns.length - 1
  | [], _, e, he => by cases he
  | [a], _, e, he => by cases he
  | a :: b :: r, h, e, he => by
    cases he with
    | head =>
      have := h b (.tail _ (.head _))
      have := sum_sub (i := a) (k := b + 1 - a) hn
      unfold ext
      omega
    | tail _ he => exact exts_le hn (fun x hx => h x (.tail _ hx)) e he
def nextW (ns : List Int) (l : List Nat) : Option Int := match exts ns l with
  | [] => none
  | a :: r => some (least a r)
theorem least_mem : ∀ (r : List Int) (a : Int), least a r ∈ a :: r := by
  intro r
  induction r with
  | nil => intro a; exact .head _
  | cons b r ih =>
    intro a
    show r.foldl min (min a b) ∈ _
    have := ih (min a b)
    unfold least at this
    rcases List.mem_cons.mp this with e | h
    · rw [e]
      by_cases h : a ≤ b
      · rw [Int.min_eq_left h]; exact .head _
      · rw [Int.min_eq_right (by omega)]; exact .tail _ (.head _)
    · exact .tail _ (.tail _ h)
theorem least_le : ∀ (r : List Int) (a : Int), ∀ x ∈ a :: r, least a r ≤ x := by
  intro r
  induction r with
  | nil => intro a x hx; cases hx with
    | head => exact Int.le_refl _
    | tail _ h => cases h
  | cons b r ih =>
    intro a x hx
    show r.foldl min (min a b) ≤ x
    have := ih (min a b)
    unfold least at this
    cases hx with
    | head => exact Int.le_trans (this _ (.head _)) (Int.min_le_left _ _)
    | tail _ hx =>
      cases hx with
      | head => exact Int.le_trans (this _ (.head _)) (Int.min_le_right _ _)
      | tail _ hx => exact this x (.tail _ hx)
theorem nextW_some {ns : List Int} {l : List Nat} {v : Int} (h : nextW ns l = some v) : v ∈ exts ns l ∧ ∀ e ∈ exts ns l, v ≤ e := by
  unfold nextW at h
  split at h
  · cases h
  · next a r e =>
    rw [e]
    cases h
    exact ⟨least_mem r a, least_le r a⟩
theorem nextW_none {ns : List Int} {l : List Nat} (h : nextW ns l = none) : exts ns l = [] := by
  unfold nextW at h
  split at h
  · assumption
  · cases h
def bookF (ns : List Int) : Nat → Int → List (Int × List Nat)
  | 0, _ => []
  | f + 1, w => (w, starts ns w) :: match nextW ns (starts ns w) with
    | none => []
    | some v => bookF ns f v
def entD (p : Int × List Nat) : D := .tuple [.int p.1, .tuple (natsD p.2)]
end DL
end
section
namespace DL
open PySem
structure Shp (k : Nat) (d : D) : Prop where
  lay : PyData.canLay0 d = true
  deep : PyData.depth d ≤ k
theorem Shp.ok {k : Nat} {d : D} (h : Shp k d) (hk : k ≤ 64) : SeqAt.shaped d = true := shp_of h.lay (Nat.le_trans h.deep hk)
theorem Shp.mono {k k' : Nat} {d : D} (h : Shp k d) (hk : k ≤ k') : Shp k' d := ⟨h.lay, Nat.le_trans h.deep hk⟩
theorem shp_int (i : Int) : Shp 0 (.int i) := ⟨rfl, Nat.le_refl _⟩
theorem shp_all {k : Nat} : ∀ {ds : List D}, (∀ d ∈ ds, Shp k d) → PyData.canLayAll0 ds = true ∧ PyData.depthAll ds ≤ k
  | [], _ => ⟨rfl, Nat.zero_le _⟩
  | d :: ds, h => by
    obtain ⟨a, b⟩ := shp_all fun x hx => h x (.tail _ hx)
    have c := h d (.head _)
    have := c.deep
    refine ⟨?_, ?_⟩
    · simp only [PyData.canLayAll0, a, c.lay, Bool.and_self]
    · simp only [PyData.depthAll]; omega
theorem shp_tup {k : Nat} {ds : List D} (h : ∀ d ∈ ds, Shp k d) : Shp (k + 1) (.tuple ds) := by
  obtain ⟨a, b⟩ := shp_all h
  exact ⟨by simp only [PyData.canLay0, a], by simp only [PyData.depth]; omega⟩
theorem shp_lst {k : Nat} {ds : List D} (h : ∀ d ∈ ds, Shp k d) : Shp (k + 1) (.list ds) := by
  obtain ⟨a, b⟩ := shp_all h
  exact ⟨by simp only [PyData.canLay0, a], by simp only [PyData.depth]; omega⟩
theorem o_neN (a b : List Nat) : opCmp .ne (.tuple (natsD a)) (.tuple (natsD b)) = ret (!decide (a = b)) := by
  rw [natsD_ints, natsD_ints, o_neT]
  have inj : (a.map (fun n : Nat => (n : Int)) = b.map fun n : Nat => (n : Int)) ↔ a = b := by
    constructor
    · intro h
      exact List.map_inj_right (fun x y h => Int.ofNat.inj h) |>.mp h
    · rintro rfl; rfl
  rw [decide_eq_decide.mpr inj]
def push {β : Type} [DecidableEq β] (acc : List (Int × β)) (p : Int × β) : List (Int × β) := match acc.getLast? with
  | none => acc ++ [p]
  | some q => if q.2 = p.2 then acc else acc ++ [p]
def scanA {β : Type} [DecidableEq β] (S : Int → β) (m : Int) : Nat → List (Int × β)
  | 0 => []
  | n + 1 => push (scanA S m n) (m + n, S (m + n))
theorem push_snoc {β : Type} [DecidableEq β] (P : List (Int × β)) (q p : Int × β) : push (P ++ [q]) p = if q.2 = p.2 then P ++ [q] else P ++ [q] ++ [p] := by
  unfold push
  rw [List.getLast?_concat]
theorem scanA_mem {β : Type} [DecidableEq β] {S : Int → β} {m : Int} : ∀ {n : Nat} {p : Int × β}, p ∈ scanA S m n → p.2 = S p.1 ∧ m ≤ p.1 ∧ p.1 < m + n
  | 0, p, h => by cases h
  | n + 1, p, h => by
    have old : p ∈ scanA S m n → p.2 = S p.1 ∧ m ≤ p.1 ∧ p.1 < m + (n + 1 : Nat) := fun h => by
      obtain ⟨a, b, c⟩ := scanA_mem h
      exact ⟨a, b, by omega⟩
    have new : p ∈ scanA S m n ++ [(m + (n : Int), S (m + n))] → p.2 = S p.1 ∧ m ≤ p.1 ∧ p.1 < m + (n + 1 : Nat) := fun h => by
      rcases List.mem_append.mp h with h | h
      · exact old h
      · rw [List.mem_singleton] at h
        subst h
        exact ⟨rfl, by show m ≤ m + (n : Int); omega, by show m + (n : Int) < _; omega⟩
    unfold scanA push at h
    split at h
    · exact new h
    · split at h
      · exact old h
      · exact new h
theorem book_scan {ns : List Int} {m B : Int} (h1 : 0 < ns.length) (hn : ∀ x ∈ ns, 0 ≤ x) (hb : ns.sum + ns.length - 1 ≤ B) (hm : m ≤ B) {F : Nat} (hF : B < m + F) : ∀ n : Nat, 1 ≤ n →
    ∃ P w f, scanA (starts ns) m n = P ++ [(w, starts ns w)] ∧ P ++ bookF ns f w = bookF ns F m ∧ w ≤ m + n - 1 ∧ w ≤ B ∧ B < w + (f : Nat) ∧ ∀ e ∈ exts ns (starts ns w), m + n - 1 < e
  | 0, h => by omega
  | 1, _ => by
    refine ⟨[], m, F, ?_, rfl, by omega, hm, hF, fun e he => ?_⟩
    · show push [] (m + (0 : Nat), starts ns (m + (0 : Nat))) = _
      rw [show m + ((0 : Nat) : Int) = m by omega]
      rfl
    · have := chain_gt (starts_chain m h1) e he
      omega
  | n + 2, _ => by
    obtain ⟨P, w, f, e1, e2, e3, e4, e5, e6⟩ := book_scan h1 hn hb hm hF (n + 1) (by omega)
    have step : scanA (starts ns) m (n + 2) = push (P ++ [(w, starts ns w)]) (m + (n + 1 : Nat), starts ns (m + (n + 1 : Nat))) := by
      rw [← e1]; rfl
    rw [step, push_snoc]
    by_cases h : starts ns w = starts ns (m + (n + 1 : Nat))
    · rw [if_pos h]
      refine ⟨P, w, f, rfl, e2, by omega, e4, e5, fun e he => ?_⟩
      have g := chain_gt (starts_chain (m + (n + 1 : Nat)) h1)
      rw [← h] at g
      have := g e he
      omega
    · rw [if_neg h]
      have hx : ∃ v, nextW ns (starts ns w) = some v ∧ v = m + (n + 1 : Nat) := by
        cases hx : nextW ns (starts ns w) with
        | none =>
          exfalso
          have k := chain_keep (v := m + (n + 1 : Nat)) (by omega) (starts_chain w h1) (by rw [nextW_none hx]; intro e he; cases he)
          exact h (starts_unique k).symm
        | some v =>
          obtain ⟨m1, m2⟩ := nextW_some hx
          refine ⟨v, rfl, ?_⟩
          have := e6 v m1
          by_cases hlt : m + ((n + 1 : Nat) : Int) < v
          · exfalso
            have k := chain_keep (v := m + (n + 1 : Nat)) (by omega) (starts_chain w h1) fun e he => by have := m2 e he; omega
            exact h (starts_unique k).symm
          · omega
      obtain ⟨v, hv, rfl⟩ := hx
      have hv2 := exts_le hn (starts_lt h1) _ (nextW_some hv).1
      cases f with
      | zero => omega
      | succ f =>
        refine ⟨P ++ [(w, starts ns w)], _, f, rfl, ?_, by omega, by omega, by omega, fun e he => ?_⟩
        · rw [← e2]
          have e : bookF ns (f + 1) w = (w, starts ns w) :: bookF ns f (m + (n + 1 : Nat)) := by
            show (w, starts ns w) :: (match nextW ns (starts ns w) with | none => [] | some v => bookF ns f v) = _
            rw [hv]
          rw [e]
          simp
        · have := chain_gt (starts_chain _ h1) e he
          omega
theorem book_all {ns : List Int} {m B : Int} (h1 : 0 < ns.length) (hn : ∀ x ∈ ns, 0 ≤ x) (hb : ns.sum + ns.length - 1 ≤ B) (hm : m ≤ B) {F : Nat} (hF : B < m + F) {n : Nat} (h : B < m + n) (hp : 1 ≤ n) : scanA (starts ns) m n = bookF ns F m := by
  obtain ⟨P, w, f, e1, e2, e3, e4, e5, e6⟩ := book_scan h1 hn hb hm hF n hp
  have hx : exts ns (starts ns w) = [] := by
    cases he : exts ns (starts ns w) with
    | nil => rfl
    | cons e r =>
      rw [he] at e6
      have a := e6 e (.head _)
      have b := exts_le hn (starts_lt (w := w) h1) e (by rw [he]; exact .head _)
      omega
  rw [e1, ← e2]
  cases f with
  | zero => omega
  | succ f =>
    show _ = P ++ ((w, starts ns w) :: (match nextW ns (starts ns w) with | none => [] | some v => bookF ns f v))
    unfold nextW
    rw [hx]
/-- the book of a row whose longest word is m -/
def bookN (ns : List Int) (m : Int) : List (Int × List Nat) := scanA (starts ns) m (ns.sum + ns.length + 2 - m).toNat
theorem o_eqR {a : D} (h : SeqAt.shaped a = true) (he : PyData.eqv a a = true) : opCmp .eq a a = ret true := by
  show opEq a a = _
  unfold opEq
  rw [grd_pos (eqOk_of h h), he]
end DL
end
section
namespace DL
open PySem
/-- keep what is new -/
def keep {β : Type} [DecidableEq β] (l : List (Int × β)) : List (Int × β) := l.foldl push []
end DL
end
section
namespace DL
open PySem
theorem ex_first {P : Nat → Prop} [DecidablePred P] : ∀ n, P n → ∃ k, k ≤ n ∧ P k ∧ ∀ j, j < k → ¬ P j
  | 0, h => ⟨0, Nat.le_refl _, h, fun j hj => by omega⟩
  | n + 1, h => by
    by_cases e : ∃ j, j < n + 1 ∧ P j
    · obtain ⟨j, hj, hp⟩ := e
      obtain ⟨k, k1, k2, k3⟩ := ex_first j hp
      exact ⟨k, by omega, k2, k3⟩
    · exact ⟨n + 1, Nat.le_refl _, h, fun j hj hp => e ⟨j, hj, hp⟩⟩
termination_by n => n
decreasing_by omega
theorem starts_one {ns : List Int} {w : Int} (h1 : 0 < ns.length) (hn : ∀ x ∈ ns, 0 ≤ x) (hw : ns.sum + ns.length - 1 ≤ w) : starts ns w = [0] := by
  have c := starts_chain w h1
  cases hr : restF ns w ns.length (nx ns w 0) with
  | nil => unfold starts; rw [hr]
  | cons b r =>
    have e : starts ns w = 0 :: b :: r := by unfold starts; rw [hr]
    have g := chain_gt c (ext ns 0 b) (by rw [e]; exact .head _)
    have l := exts_le hn (starts_lt (w := w) h1) (ext ns 0 b) (by rw [e]; exact .head _)
    omega
/-- the least width, from m on, for at most c lines -/
structure Least (ns : List Int) (m : Int) (c : Nat) (k : Nat) : Prop where
  fits : (starts ns (m + k)).length ≤ c
  first : ∀ j : Nat, j < k → c < (starts ns (m + j)).length
  most : m + k ≤ ns.sum + ns.length
theorem Least.ex {ns : List Int} {m : Int} {c : Nat} (h1 : 0 < ns.length) (hn : ∀ x ∈ ns, 0 ≤ x) (hm : m ≤ ns.sum) (hc : 1 ≤ c) : ∃ k, Least ns m c k := by
  obtain ⟨k, k1, k2, k3⟩ := ex_first (P := fun k => (starts ns (m + k)).length ≤ c) (ns.sum + ns.length - m).toNat (by
    rw [starts_one h1 hn (by omega)]
    exact hc)
  exact ⟨k, k2, fun j hj => by have := k3 j hj; omega, by omega⟩
theorem natsD_len (l : List Nat) : (natsD l).length = l.length := by unfold natsD; rw [List.length_map]
end DL
end
section
namespace DL
open PySem
theorem o_eqNil0 (ds : List D) : opCmp .eq (.list ds) (.list []) = ret ds.isEmpty := by
  show grd True (ret (PyData.eqv (.list ds) (.list []))) = _
  rw [grd_true]
  cases ds <;> rfl
theorem o_neNil0 (ds : List D) : opCmp .ne (.list ds) (.list []) = ret (!ds.isEmpty) := by
  show bnd (grd True (ret (PyData.eqv (.list ds) (.list [])))) _ = _
  rw [grd_true]
  cases ds <;> rfl
/-- a value of any kind, short enough to be shown -/
def Odd (d : D) : Prop := Tame 8 2 d
theorem Odd.nx {d : D} (h : Odd d) : noXn d = true := nx_plain h.pln
/-- an int, no truth value, of a range -/
def intIn (lo hi : Int) : D → Bool
  | .int i => decide (lo ≤ i ∧ i ≤ hi)
  | _ => false
theorem is_integer_d {lo hi : Int} {d : D} (h : noXn d = true) : w_is_integer_0 [d, .int lo, .int hi] = ret (.bool (intIn lo hi d)) := by
  unfold w_is_integer_0
  refine (f_fn (by rfl)).trans ?_
  cases d with
  | int i =>
    simp only [x_var, x_con, x_bin, x_neg, x_cmp, x_chain, x_tTru, x_tNot, x_tAnd, x_tOr, x_tBool, x_tYes, x_not, x_and, x_or, x_if, x_b1, x_b2, x_is, x_idx, x_oNone, x_oSome, x_cut, x_aNil, x_aCons, x_tup, x_lst, x_call, x_callS,
    x_iSeq, x_iRng1, x_iRng2, x_bor, x_tBor, x_put1, List.map_cons, List.map_nil, List.cons_append, List.nil_append, List.length_cons, List.length_nil, Nat.zero_add, Nat.reduceAdd, Nat.reduceSub, List.reduceReplicate, start,
    List.getElem?_cons_zero, List.getElem?_cons_succ, List.set_cons_zero, List.set_cons_succ, bnd_ret, bnd_assoc, bnd_grd, b1_if, bnd_ite, small, Nat.reduceLeDiff, grd_true, o_add, o_sub, o_neg, o_eq, o_ne, o_lt, o_le, o_gt, o_ge, o_eqS, o_neS,
    decide_eq_true_eq, reduceIte, decide_true, decide_false, Bool.not_true, Bool.not_false, Bool.false_eq_true, itemsOf, asInt, endOf, isTy,
    grd_tt, nx_int, nx_bool, nx_str, nx_none, nx_tup, nx_lst, x_isC, x_fld, x_in, x_count, x_lstR, x_tupR, x_raise, x_star, bnd_thr, noX_ret, fld_x, exn_d, eSetO, Out.clear, List.zip_cons_cons, List.zip_nil_left, List.zip_nil_right, s_asg, s_par, s_own, s_parO, s_put, s_expr, s_ret, s_skip, s_seq, s_rel, x_asg, x_par, x_own, x_parO, x_put, x_expr, x_ret, x_retN, x_skip, x_rel, x_app, x_setI, x_sIf, x_for, x_brk, x_cnt, b_lenT, b_lenL, b_tupL, b_tupT, b_max2, b_min2, o_addL, o_addT, cut_ints, sum_ints, s_chk, s_for, s_brk, s_cnt, s_retN, t_bool, g_rng, g_le, List.length_map]
    unfold intIn
    by_cases h : lo ≤ i
    · simp [h]
    · simp [h]
  | _ =>
    simp only [x_var, x_con, x_bin, x_neg, x_cmp, x_chain, x_tTru, x_tNot, x_tAnd, x_tOr, x_tBool, x_tYes, x_not, x_and, x_or, x_if, x_b1, x_b2, x_is, x_idx, x_oNone, x_oSome, x_cut, x_aNil, x_aCons, x_tup, x_lst, x_call, x_callS,
    x_iSeq, x_iRng1, x_iRng2, x_bor, x_tBor, x_put1, List.map_cons, List.map_nil, List.cons_append, List.nil_append, List.length_cons, List.length_nil, Nat.zero_add, Nat.reduceAdd, Nat.reduceSub, List.reduceReplicate, start,
    List.getElem?_cons_zero, List.getElem?_cons_succ, List.set_cons_zero, List.set_cons_succ, bnd_ret, bnd_assoc, bnd_grd, b1_if, bnd_ite, small, Nat.reduceLeDiff, grd_true, o_add, o_sub, o_neg, o_eq, o_ne, o_lt, o_le, o_gt, o_ge, o_eqS, o_neS,
    decide_eq_true_eq, reduceIte, decide_true, decide_false, Bool.not_true, Bool.not_false, Bool.false_eq_true, itemsOf, asInt, endOf, isTy,
    grd_tt, nx_int, nx_bool, nx_str, nx_none, nx_tup, nx_lst, x_isC, x_fld, x_in, x_count, x_lstR, x_tupR, x_raise, x_star, bnd_thr, noX_ret, fld_x, exn_d, eSetO, Out.clear, List.zip_cons_cons, List.zip_nil_left, List.zip_nil_right, s_asg, s_par, s_own, s_parO, s_put, s_expr, s_ret, s_skip, s_seq, s_rel, x_asg, x_par, x_own, x_parO, x_put, x_expr, x_ret, x_retN, x_skip, x_rel, x_app, x_setI, x_sIf, x_for, x_brk, x_cnt, b_lenT, b_lenL, b_tupL, b_tupT, b_max2, b_min2, o_addL, o_addT, cut_ints, sum_ints, s_chk, s_for, s_brk, s_cnt, s_retN, t_bool, g_rng, g_le, List.length_map, h]
    try rfl
theorem law_is_int_0 {lo hi : Int} {d : D} (h : noXn d = true) : w__law_is_int_0 [d, .int lo, .int hi] = ret (.bool (intIn lo hi d)) := is_integer_d h
end DL
end
section
namespace DL
open PySem
end DL
end
section
namespace DL
open PySem
end DL
end
section
namespace DL
open PySem
end DL
end
section
namespace DL
open PySem
end DL
end
section
namespace DL
open PySem
end DL
end
section
namespace DL
open PySem
theorem scan_last {β : Type} [DecidableEq β] (S : Int → β) (m : Int) : ∀ k : Nat, 1 ≤ k → ∃ P lo, scanA S m k = P ++ [(lo, S lo)] ∧ m ≤ lo ∧ lo ≤ m + k - 1 ∧ (∀ v, lo ≤ v → v ≤ m + k - 1 → S v = S lo) ∧ (lo = m ∨ S (lo - 1) ≠ S lo)
  | 0, h => by omega
  | 1, _ => by
    refine ⟨[], m, ?_, Int.le_refl _, by omega, fun v a b => by rw [show v = m by omega], .inl rfl⟩
    show push [] (m + (0 : Nat), S (m + (0 : Nat))) = _
    rw [show m + ((0 : Nat) : Int) = m by omega]
    rfl
  | k + 2, _ => by
    obtain ⟨P, lo, e1, e2, e3, e4, e5⟩ := scan_last S m (k + 1) (by omega)
    have step : scanA S m (k + 2) = push (P ++ [(lo, S lo)]) (m + (k + 1 : Nat), S (m + (k + 1 : Nat))) := by rw [← e1]; rfl
    rw [step, push_snoc]
    by_cases h : S lo = S (m + (k + 1 : Nat))
    · rw [if_pos h]
      refine ⟨P, lo, rfl, e2, by omega, fun v a b => ?_, e5⟩
      by_cases hv : v ≤ m + (k + 1 : Nat) - 1
      · exact e4 v a hv
      · rw [show v = m + (k + 1 : Nat) by omega, h]
    · rw [if_neg h]
      refine ⟨P ++ [(lo, S lo)], m + (k + 1 : Nat), rfl, by omega, by omega, fun v a b => by rw [show v = m + (k + 1 : Nat) by omega], .inr fun z => h ?_⟩
      rw [← z, e4 (m + (k + 1 : Nat) - 1) (by omega) (by omega)]
/-- what a scan finds after the width a -/
inductive More {β : Type} (S : Int → β) (a : Int) (i : Nat) : List (Int × β) → Prop
  | nil : (∀ v, a ≤ v → v ≤ a + i → S v = S a) → More S a i []
  | cons {q : Int × β} {r : List (Int × β)} : a < q.1 → S q.1 ≠ S a → (∀ v, a ≤ v → v < q.1 → S v = S a) → (∀ p ∈ r, a < p.1) → More S a i (q :: r)
theorem scan_more {β : Type} [DecidableEq β] (S : Int → β) (m : Int) {k : Nat} (hk : 1 ≤ k) : ∀ i : Nat, ∃ R, scanA S m (k + i) = scanA S m k ++ R ∧ More S (m + k - 1) i R
  | 0 => ⟨[], by simp, .nil fun v a b => by rw [show v = m + k - 1 by omega]⟩
  | i + 1 => by
    obtain ⟨R, e, h⟩ := scan_more S m hk i
    obtain ⟨P, lo, e1, e2, e3, e4, e5⟩ := scan_last S m (k + i) (by omega)
    have step : scanA S m (k + (i + 1)) = push (scanA S m (k + i)) (m + (k + i : Nat), S (m + (k + i : Nat))) := rfl
    have hlast : S (m + k - 1 + i) = S lo := e4 _ (by omega) (by omega)
    have hp : push (scanA S m (k + i)) (m + (k + i : Nat), S (m + (k + i : Nat))) = if S lo = S (m + (k + i : Nat)) then scanA S m (k + i) else scanA S m (k + i) ++ [(m + (k + i : Nat), S (m + (k + i : Nat)))] := by
      rw [e1, push_snoc]
    rw [step, hp, e]
    by_cases c : S lo = S (m + (k + i : Nat))
    · rw [if_pos c]
      refine ⟨R, rfl, ?_⟩
      cases h with
      | nil g =>
        refine .nil fun v a b => ?_
        by_cases hv : v ≤ m + k - 1 + i
        · exact g v a hv
        · rw [show v = m + (k + i : Nat) by omega, ← c, ← hlast]
          exact g _ (by omega) (by omega)
      | cons g1 g2 g3 g4 => exact .cons g1 g2 g3 g4
    · rw [if_neg c]
      refine ⟨R ++ [(m + (k + i : Nat), S (m + (k + i : Nat)))], by rw [List.append_assoc], ?_⟩
      cases h with
      | nil g =>
        refine .cons (by show m + (k : Int) - 1 < m + (k + i : Nat); omega) (fun z => c ?_) (fun v a b => g v a (by have : v < m + (k + i : Nat) := b; omega)) fun p hp => by cases hp
        rw [← hlast, g _ (by omega) (by omega)]
        exact z.symm
      | cons g1 g2 g3 g4 =>
        refine .cons g1 g2 g3 fun p hp => ?_
        rcases List.mem_append.mp hp with hp | hp
        · exact g4 p hp
        · rw [List.mem_singleton] at hp
          rw [hp]
          show m + (k : Int) - 1 < m + (k + i : Nat)
          omega
theorem bookN_any {ns : List Int} {m : Int} (h1 : 0 < ns.length) (hn : ∀ x ∈ ns, 0 ≤ x) (hm : m ≤ ns.sum) {n : Nat} (h : (ns.sum + ns.length + 2 - m).toNat ≤ n) : bookN ns m = scanA (starts ns) m n := by
  have a := book_all (ns := ns) (m := m) (B := ns.sum + ns.length - 1) (F := (ns.sum + ns.length - m).toNat) (n := (ns.sum + ns.length + 2 - m).toNat) h1 hn (Int.le_refl _) (by omega) (by omega) (by omega) (by omega)
  have b := book_all (ns := ns) (m := m) (B := ns.sum + ns.length - 1) (F := (ns.sum + ns.length - m).toNat) (n := n) h1 hn (Int.le_refl _) (by omega) (by omega) (by omega) (by omega)
  unfold bookN
  rw [a, b]
theorem one_stays {ns : List Int} {w v : Int} (h1 : 0 < ns.length) (h : (starts ns w).length ≤ 1) (hv : w ≤ v) : starts ns v = starts ns w := by
  have c := starts_chain w h1
  unfold starts at c h ⊢
  have hr : restF ns w ns.length (nx ns w 0) = [] := by
    cases e : restF ns w ns.length (nx ns w 0) with
    | nil => rfl
    | cons _ _ => rw [e] at h; simp at h
  rw [hr] at c ⊢
  exact starts_unique (chain_keep hv c fun e he => by cases he)
/-- the span of the width w: its book's entry, the next one -/
structure Span (ns : List Int) (m w : Int) (P : List (Int × List Nat)) (lo : Int) (R : List (Int × List Nat)) : Prop where
  book : bookN ns m = P ++ (lo, starts ns lo) :: R
  low : m ≤ lo
  le : lo ≤ w
  same : ∀ v, lo ≤ v → v ≤ w → starts ns v = starts ns lo
  least : lo = m ∨ starts ns (lo - 1) ≠ starts ns lo
  before : ∀ p ∈ P, p.1 ≤ w
  after : match R with
    | [] => (starts ns w).length = 1
    | q :: r => w < q.1 ∧ 1 < (starts ns w).length ∧ starts ns q.1 ≠ starts ns w ∧ (∀ v, w ≤ v → v < q.1 → starts ns v = starts ns w) ∧ ∀ p ∈ r, w < p.1
theorem Span.ex {ns : List Int} {m w : Int} (h1 : 0 < ns.length) (hn : ∀ x ∈ ns, 0 ≤ x) (hm : m ≤ ns.sum) (hw : m ≤ w) : ∃ P lo R, Span ns m w P lo R := by
  have hk : 1 ≤ (w - m + 1).toNat := by omega
  have ek : m + ((w - m + 1).toNat : Int) - 1 = w := by omega
  obtain ⟨P, lo, e1, e2, e3, e4, e5⟩ := scan_last (starts ns) m (w - m + 1).toNat hk
  obtain ⟨R, e6, hR⟩ := scan_more (starts ns) m hk (ns.sum + ns.length + 2 - m).toNat
  rw [ek] at e3 e4 hR
  have bk := bookN_any h1 hn hm (n := (w - m + 1).toNat + (ns.sum + ns.length + 2 - m).toNat) (by omega)
  refine ⟨P, lo, R, by rw [bk, e6, e1]; simp, e2, e3, e4, e5, fun p hp => ?_, ?_⟩
  · have hp2 : p ∈ scanA (starts ns) m (w - m + 1).toNat := by rw [e1]; exact List.mem_append_left _ hp
    have := (scanA_mem hp2).2.2
    omega
  · have pos : 1 ≤ (starts ns w).length := by unfold starts; simp
    cases hR with
    | nil g =>
      have z := g (w + (ns.sum + ns.length + 2 - m).toNat) (by omega) (Int.le_refl _)
      rw [starts_one h1 hn (by omega)] at z
      show (starts ns w).length = 1
      rw [← z]
      rfl
    | @cons q r g1 g2 g3 g4 =>
      refine ⟨g1, ?_, g2, g3, g4⟩
      by_cases h : (starts ns w).length ≤ 1
      · exact absurd (one_stays h1 h (Int.le_of_lt g1)) g2
      · omega
end DL
end
section
namespace DL
open PySem
end DL
end
section
namespace DL
open PySem
theorem x_addL (a b : XE) (E : Env) : eAddL a b E = bnd (a E) fun x => bnd (b E) fun y => match x, y with
  | .list xs, .list ys => grd (small (xs.length + ys.length)) (ret (.list (xs ++ ys)))
  | _, _ => stuck := id rfl
/-- a row of one word at least, of 24 at most -/
structure RowN (ms : List Int) : Prop where
  one : 1 ≤ ms.length
  most : ms.length ≤ 24
  words : ∀ x ∈ ms, 1 ≤ x ∧ x ≤ 60
end DL
end
section
namespace DL
open PySem
end DL
end
section
namespace DL
open PySem
theorem x_srt (a : XE) (E : Env) : eSrt a E = bnd (a E) opSrt := id rfl
theorem x_srtSet (a : XE) (E : Env) : eSrtSet a E = bnd (a E) opSrtSet := id rfl
def asc (x : Str) : Bool := x.cps.toList.all fun c => decide (c < 128)
mutual
/-- leaves: short ints, plain texts; dicts of one entry at most -/
def lf (u : Nat) : D → Bool
  | .none => true
  | .bool _ => true
  | .int i => decide (i.natAbs ≤ 10 ^ 39 + u)
  | .str x => asc x
  | .tuple xs => lfAll u xs
  | .list xs => lfAll u xs
  | .dict [] => true
  | .dict [(.str a, d)] => asc a && lf u d
  | .dict _ => false
def lfAll (u : Nat) : List D → Bool
  | [] => true
  | x :: xs => lf u x && lfAll u xs
end
mutual
theorem lf_plain {u : Nat} : ∀ {d : D}, lf u d = true → plain d = true
  | .none, _ => rfl
  | .bool _, _ => rfl
  | .int _, _ => rfl
  | .str _, _ => rfl
  | .tuple xs, h => by unfold lf at h; unfold plain; exact lf_plainA h
  | .list xs, h => by unfold lf at h; unfold plain; exact lf_plainA h
  | .dict [], _ => rfl
  | .dict [(.str a, d)], h => by
    unfold lf at h
    rw [Bool.and_eq_true] at h
    unfold plain
    exact lf_plain h.2
  | .dict ((.none, _) :: _), h => by simp [lf] at h
  | .dict ((.bool _, _) :: _), h => by simp [lf] at h
  | .dict ((.int _, _) :: _), h => by simp [lf] at h
  | .dict ((.list _, _) :: _), h => by simp [lf] at h
  | .dict ((.tuple _, _) :: _), h => by simp [lf] at h
  | .dict ((.dict _, _) :: _), h => by simp [lf] at h
  | .dict ((.str _, _) :: _ :: _), h => by simp [lf] at h
theorem lf_plainA {u : Nat} : ∀ {ds : List D}, lfAll u ds = true → plainAll ds = true
  | [], _ => rfl
  | x :: xs, h => by
    unfold lfAll at h
    rw [Bool.and_eq_true] at h
    unfold plainAll
    rw [lf_plain h.1, lf_plainA h.2]
    rfl
end
mutual
theorem lf_mono {u v : Nat} (h : u ≤ v) : ∀ {d : D}, lf u d = true → lf v d = true
  | .none, _ => rfl
  | .bool _, _ => rfl
  | .int i, q => by
    unfold lf at q ⊢
    exact decide_eq_true (Nat.le_trans (of_decide_eq_true q) (by omega))
  | .str x, q => by unfold lf at q ⊢; exact q
  | .tuple xs, q => by unfold lf at q ⊢; exact lf_monoA h q
  | .list xs, q => by unfold lf at q ⊢; exact lf_monoA h q
  | .dict [], _ => rfl
  | .dict [(.str a, d)], q => by
    unfold lf at q ⊢
    rw [Bool.and_eq_true] at q ⊢
    exact ⟨q.1, lf_mono h q.2⟩
  | .dict ((.none, _) :: _), h => by simp [lf] at h
  | .dict ((.bool _, _) :: _), h => by simp [lf] at h
  | .dict ((.int _, _) :: _), h => by simp [lf] at h
  | .dict ((.list _, _) :: _), h => by simp [lf] at h
  | .dict ((.tuple _, _) :: _), h => by simp [lf] at h
  | .dict ((.dict _, _) :: _), h => by simp [lf] at h
  | .dict ((.str _, _) :: _ :: _), h => by simp [lf] at h
theorem lf_monoA {u v : Nat} (h : u ≤ v) : ∀ {ds : List D}, lfAll u ds = true → lfAll v ds = true
  | [], _ => rfl
  | x :: xs, q => by
    unfold lfAll at q ⊢
    rw [Bool.and_eq_true] at q ⊢
    exact ⟨lf_mono h q.1, lf_monoA h q.2⟩
end
/-- small data -/
structure Bd (u n k : Nat) (d : D) : Prop where
  lf : DL.lf u d = true
  bulk : PyData.bulk d ≤ n
  deep : PyData.depth d ≤ k
structure BdA (u n k : Nat) (ds : List D) : Prop where
  lf : lfAll u ds = true
  bulk : PyData.bulkAll ds ≤ n
  deep : PyData.depthAll ds ≤ k
section
variable {u n k u' n' k' m j : Nat} {d : D} {ds es : List D}
theorem Bd.mono (h : Bd u n k d) (a : u ≤ u') (b : n ≤ n') (c : k ≤ k') : Bd u' n' k' d := ⟨lf_mono a h.lf, Nat.le_trans h.bulk b, Nat.le_trans h.deep c⟩
theorem BdA.mono (h : BdA u n k ds) (a : u ≤ u') (b : n ≤ n') (c : k ≤ k') : BdA u' n' k' ds := ⟨lf_monoA a h.lf, Nat.le_trans h.bulk b, Nat.le_trans h.deep c⟩
theorem Bd.nx (h : Bd u n k d) : noXn d = true := nx_plain (lf_plain h.lf)
theorem bd_int {i : Int} (h : i.natAbs ≤ 10 ^ 39 + u) : Bd u 0 0 (.int i) := ⟨by unfold DL.lf; exact decide_eq_true h, Nat.zero_le _, Nat.zero_le _⟩
theorem bda_nil : BdA u 0 0 [] := ⟨rfl, Nat.zero_le _, Nat.zero_le _⟩
theorem bda_cons (h : Bd u n k d) (t : BdA u m j ds) : BdA u (n + 1 + m) (max k j) (d :: ds) := by
  refine ⟨?_, ?_, ?_⟩
  · unfold lfAll; rw [h.lf, t.lf]; rfl
  · simp only [PyData.bulkAll]; have := h.bulk; have := t.bulk; omega
  · simp only [PyData.depthAll]; have := h.deep; have := t.deep; omega
theorem bd_tup (h : BdA u n k ds) : Bd u n (k + 1) (.tuple ds) := by
  refine ⟨by unfold DL.lf; exact h.lf, by unfold PyData.bulk; exact h.bulk, ?_⟩
  simp only [PyData.depth]; have := h.deep; omega
theorem lfA_app : ∀ (ds es : List D), lfAll u (ds ++ es) = (lfAll u ds && lfAll u es)
  | [], es => by simp [lfAll]
  | d :: ds, es => by simp only [List.cons_append, lfAll, lfA_app ds es, Bool.and_assoc]
theorem bulkA_app : ∀ (ds es : List D), PyData.bulkAll (ds ++ es) = PyData.bulkAll ds + PyData.bulkAll es
  | [], es => by simp [PyData.bulkAll]
  | d :: ds, es => by simp only [List.cons_append, PyData.bulkAll, bulkA_app ds es]; omega
theorem depthA_app : ∀ (ds es : List D), PyData.depthAll (ds ++ es) = max (PyData.depthAll ds) (PyData.depthAll es)
  | [], es => by simp [PyData.depthAll]
  | d :: ds, es => by simp only [List.cons_append, PyData.depthAll, depthA_app ds es]; omega
theorem BdA.parts (h : BdA u n k (ds ++ es)) : BdA u n k ds ∧ BdA u n k es := by
  have h1 := h.lf
  have h2 := h.bulk
  have h3 := h.deep
  rw [lfA_app, Bool.and_eq_true] at h1
  rw [bulkA_app] at h2
  rw [depthA_app] at h3
  exact ⟨⟨h1.1, by omega, by omega⟩, ⟨h1.2, by omega, by omega⟩⟩
theorem BdA.take (h : BdA u n k ds) (i : Nat) : BdA u n k (ds.take i) := by
  rw [← List.take_append_drop i ds] at h
  exact h.parts.1
theorem BdA.drop (h : BdA u n k ds) (i : Nat) : BdA u n k (ds.drop i) := by
  rw [← List.take_append_drop i ds] at h
  exact h.parts.2
theorem BdA.cut (h : BdA u n k ds) (lo hi : Option Int) : BdA u n k (DL.cut ds lo hi) := (h.drop _).take _
theorem BdA.mem (h : BdA u n k ds) {x : D} (hx : x ∈ ds) : Bd u n k x := by
  obtain ⟨a, b, rfl⟩ := List.append_of_mem hx
  have h1 := h.parts.2
  have h2 := h1.lf
  have h3 := h1.bulk
  have h4 := h1.deep
  simp only [lfAll, Bool.and_eq_true] at h2
  simp only [PyData.bulkAll] at h3
  simp only [PyData.depthAll] at h4
  exact ⟨h2.1, by omega, by omega⟩
theorem len_bulk : ∀ ds : List D, ds.length ≤ PyData.bulkAll ds
  | [] => Nat.le_refl _
  | d :: ds => by
    have := len_bulk ds
    simp only [List.length_cons, PyData.bulkAll]
    omega
theorem BdA.len (h : BdA u n k ds) : ds.length ≤ n := Nat.le_trans (len_bulk ds) h.bulk
theorem bda_all (h : ∀ d ∈ ds, Bd u n k d) : BdA u (ds.length * (n + 1)) k ds := by
  induction ds with
  | nil => exact bda_nil.mono (Nat.le_refl _) (Nat.zero_le _) (Nat.zero_le _)
  | cons d ds ih =>
    have := bda_cons (h d (.head _)) (ih fun x hx => h x (.tail _ hx))
    refine this.mono (Nat.le_refl _) ?_ (by omega)
    rw [List.length_cons, Nat.succ_mul]
    omega
theorem bda_ints {ns : List Int} (h : ∀ x ∈ ns, x.natAbs ≤ 10 ^ 39 + u) : BdA u ns.length 0 (ns.map PyData.int) := by
  have := bda_all (u := u) (n := 0) (k := 0) (ds := ns.map PyData.int) fun d hd => by
    obtain ⟨x, hx, rfl⟩ := List.mem_map.mp hd
    exact bd_int (h x hx)
  rw [List.length_map, Nat.zero_add, Nat.mul_one] at this
  exact this
end
end DL
end
section
namespace DL
open PySem
theorem add_lst (xs ys : List D) : opBin .add (.list xs) (.list ys) = grd (small (xs.length + ys.length)) (ret (.list (xs ++ ys))) := id rfl
theorem list_tup (xs : List D) : bi1 .list (.tuple xs) = ret (.list xs) := id rfl
end DL
end
section
namespace DL
open PySem
end DL
end
section
namespace DL
open PySem
theorem max_long {ns : List Int} {m w : Int} (h : bi1 .max (.tuple (ns.map PyData.int)) = ret (.int m)) (hm : m ≤ w) : Long ns w none := .no fun j x hj => by
  have hx := List.mem_of_getElem? hj
  match ns, hx, h with
  | a :: r, hx, h =>
    have e : bi1 .max (.tuple ((a :: r).map PyData.int)) = ret (.int (greatest a r)) := by
      show bnd (intsOf (.tuple ((a :: r).map PyData.int))) _ = _
      simp only [intsOf, itemsOf, bnd_ret, ints?_map]
    rw [e] at h
    have e2 : PyData.int (greatest a r) = .int m := by
      have := congrFun (congrFun (congrFun h (.z 0)) fun d _ => d = .int m) fun _ _ => False
      exact this.mpr rfl
    have e3 : greatest a r = m := PyData.int.inj e2
    have go : ∀ (r : List Int) (a : Int), a ≤ r.foldl max a ∧ ∀ y ∈ r, y ≤ r.foldl max a := by
      intro r
      induction r with
      | nil => intro a; exact ⟨Int.le_refl _, fun y hy => by cases hy⟩
      | cons b r ih =>
        intro a
        obtain ⟨g1, g2⟩ := ih (max a b)
        refine ⟨Int.le_trans (Int.le_max_left a b) g1, fun y hy => ?_⟩
        cases hy with
        | head => exact Int.le_trans (Int.le_max_right a b) g1
        | tail _ hy => exact g2 y hy
    obtain ⟨g1, g2⟩ := go r a
    unfold greatest at e3
    rw [e3] at g1 g2
    cases hx with
    | head => omega
    | tail _ hx => have := g2 x hx; omega
def pD (q : Nat × Nat) : D := .tuple [.int q.1, .int q.2]
/-- neighbours -/
def adjN : List Nat → List (Nat × Nat)
  | a :: b :: r => (a, b) :: adjN (b :: r)
  | _ => []
/-- each with what comes next, at last e -/
def endN (e : Nat) : List Nat → List (Nat × Nat)
  | [] => []
  | [a] => [(a, e)]
  | a :: b :: r => (a, b) :: endN e (b :: r)
theorem twos_end (e : Nat) : ∀ l : List Nat, twos (natsD l) (natsD l.tail ++ [.int (e : Int)]) = (endN e l).map pD
  | [] => rfl
  | [_] => rfl
  | a :: b :: r => congrArg (_ :: ·) (twos_end e (b :: r))
theorem end_len (e : Nat) : ∀ l : List Nat, (endN e l).length ≤ l.length
  | [] => Nat.le_refl _
  | [_] => Nat.le_refl _
  | a :: b :: r => Nat.succ_le_succ (end_len e (b :: r))
theorem adj_mem : ∀ {l : List Nat} {q : Nat × Nat}, q ∈ adjN l → q.1 ∈ l ∧ q.2 ∈ l
  | a :: b :: r, q, h => by
    cases h with
    | head => exact ⟨.head _, .tail _ (.head _)⟩
    | tail _ h => exact ⟨.tail _ (adj_mem h).1, .tail _ (adj_mem h).2⟩
  | [_], q, h => by cases h
  | [], q, h => by cases h
theorem end_mem {e : Nat} : ∀ {l : List Nat} {q : Nat × Nat}, q ∈ endN e l → q.1 ∈ l ∧ (q.2 ∈ l ∨ q.2 = e)
  | a :: b :: r, q, h => by
    cases h with
    | head => exact ⟨.head _, .inl (.tail _ (.head _))⟩
    | tail _ h => exact ⟨.tail _ (end_mem h).1, (end_mem h).2.imp (fun z => .tail _ z) id⟩
  | [a], q, h => by
    cases h with
    | head => exact ⟨.head _, .inr rfl⟩
    | tail _ h => cases h
  | [], q, h => by cases h
/-- ascending -/
def ascN (l : List Nat) : Bool := (adjN l).all fun q => decide (q.1 < q.2)
theorem asc_adj {l : List Nat} (h : ascN l = true) {q : Nat × Nat} (hq : q ∈ adjN l) : q.1 < q.2 := by
  unfold ascN at h
  simpa using List.all_eq_true.mp h q hq
theorem asc_end {e : Nat} {l : List Nat} (h : ascN l = true) (he : ∀ a ∈ l, a < e) {q : Nat × Nat} (hq : q ∈ endN e l) : q.1 < q.2 := by
  match l, h, he, hq with
  | a :: b :: r, h, he, hq =>
    cases hq with
    | head => exact asc_adj h (.head _)
    | tail _ hq =>
      refine asc_end (l := b :: r) ?_ (fun x hx => he x (.tail _ hx)) hq
      unfold ascN at h ⊢
      simp only [adjN, List.all_cons, Bool.and_eq_true] at h
      exact h.2
  | [a], h, he, hq =>
    cases hq with
    | head => exact he a (.head _)
    | tail _ h => cases h
  | [], _, _, hq => cases hq
def fitN (ns : List Int) (w : Int) (l : List Nat) : Bool := (endN ns.length l).all fun q => decide (ext ns q.1 (q.2 - 1) ≤ w)
def barN (ns : List Int) (w : Int) (l : List Nat) : Bool := (adjN l).all fun q => decide (w < ext ns q.1 q.2)
theorem filt_empty {α : Type} {p : α → Bool} (l : List α) : ((l.filter p).map fun _ => PyData.int 1).isEmpty = l.all fun x => !p x := by
  induction l with
  | nil => rfl
  | cons a l ih =>
    cases h : p a with
    | true => simp [List.filter_cons_of_pos h, h]
    | false => rw [List.filter_cons_of_neg (by rw [h]; decide), ih, List.all_cons, h]; rfl
theorem ext_sum {ns : List Int} {a b : Nat} (h : a < b) : ((ns.drop a).take (b - a)).sum + (b : Int) - (a : Int) - 1 = ext ns a (b - 1) := by
  unfold ext
  rw [show b - 1 + 1 - a = b - a by omega]
  omega
end DL
end
section
namespace DL
open PySem
theorem Ok.srtSet {ns : List Int} {α : Type} {f : D → W α} {n : Nat} {Q : α → Prop} (hl : ns.length ≤ 60) (hf : ∀ ms : List Int, ms.Pairwise (· < ·) → (∀ k, k ∈ ms ↔ k ∈ ns) → Ok (f (.list (ms.map PyData.int))) n Q) : Ok (DL.bnd (opSrtSet (.list (ns.map PyData.int))) f) n Q := by
  intro c P X hc k
  show opSrtSet (.list (ns.map PyData.int)) c (fun a n' => f a n' P X) X
  unfold opSrtSet
  simp only [ints?_map]
  exact ⟨.inl hl, fun ms h1 h2 => hf ms h1 h2 c P X hc k⟩
/-- a tuple of few small ints -/
def FewI (d : D) : Prop := ∃ is : List Int, d = .tuple (is.map PyData.int) ∧ is.length ≤ 60 ∧ ∀ x ∈ is, 0 ≤ x ∧ x < 60
theorem FewI.bd {d : D} (h : FewI d) : Bd 0 60 1 d := by
  obtain ⟨is, rfl, h1, h2⟩ := h
  exact (bd_tup (bda_ints fun x hx => by have := h2 x hx; omega)).mono (Nat.le_refl _) h1 (by omega)
end DL
end
section
namespace DL
open PySem
end DL
end
section
namespace DL
open PySem
theorem ext_left {ns : List Int} {i j : Nat} (h : i < j) (hj : j < ns.length) : ext ns i j = ns[i] + 1 + ext ns (i + 1) j := by
  unfold ext
  rw [List.drop_eq_getElem_cons (by omega : i < ns.length), show j + 1 - i = (j - i) + 1 by omega, List.take_succ_cons, List.sum_cons, show j + 1 - (i + 1) = j - i by omega]
  omega
theorem ext_right {ns : List Int} {i j : Nat} (h : i ≤ j) (hj : j + 1 < ns.length) : ext ns i (j + 1) = ext ns i j + 1 + ns[j + 1] := ext_next h (List.getElem?_eq_getElem hj)
section
variable {ns : List Int} {w : Int}
theorem ext_mono_r (hp : ∀ x ∈ ns, 1 ≤ x) {i j : Nat} (h : i ≤ j) : ∀ k : Nat, j ≤ k → k < ns.length → ext ns i j ≤ ext ns i k
  | 0, hk, _ => by rw [show j = 0 by omega]; exact Int.le_refl _
  | k + 1, hk, hl => by
    by_cases e : j = k + 1
    · rw [e]; exact Int.le_refl _
    · have h1 := ext_mono_r hp h k (by omega) (by omega)
      have h2 := ext_right (ns := ns) (i := i) (j := k) (by omega) hl
      have := hp _ (List.getElem_mem hl)
      omega
theorem ext_mono_l (hp : ∀ x ∈ ns, 1 ≤ x) {j : Nat} (hj : j < ns.length) : ∀ (k i : Nat), i + k ≤ j → ext ns (i + k) j ≤ ext ns i j
  | 0, i, _ => Int.le_refl _
  | k + 1, i, h => by
    have h1 := ext_mono_l hp hj k (i + 1) (by omega)
    have h2 := ext_left (ns := ns) (i := i) (j := j) (by omega) hj
    have := hp _ (List.getElem_mem (show i < ns.length by omega))
    rw [show i + (k + 1) = i + 1 + k by omega]
    omega
theorem ext_one {i : Nat} (h : i < ns.length) : ext ns i i = ns[i] := ext_self (List.getElem?_eq_getElem h)
theorem nx_mono (hp : ∀ x ∈ ns, 1 ≤ x) {a b : Nat} (h : a ≤ b) (hb : b < ns.length) : nx ns w a ≤ nx ns w b := by
  obtain ⟨a1, a2, a3, a4⟩ := nx_spec (w := w) (show a < ns.length by omega)
  obtain ⟨b1, b2, b3, b4⟩ := nx_spec (w := w) hb
  by_cases e : nx ns w b = ns.length
  · omega
  · have h1 := b4 (by omega)
    have h2 := ext_mono_l hp (show nx ns w b < ns.length by omega) (b - a) a (by omega)
    rw [show a + (b - a) = b by omega] at h2
    by_cases h3 : nx ns w b < nx ns w a
    · have := a3 (nx ns w b) (by omega) h3
      omega
    · omega
/-- the greedy starts, one after another; behind the last one the row's end -/
def gr (ns : List Int) (w : Int) : Nat → Nat
  | 0 => 0
  | k + 1 => if gr ns w k < ns.length then nx ns w (gr ns w k) else ns.length
theorem gr_step {k : Nat} (h : gr ns w k < ns.length) : gr ns w (k + 1) = nx ns w (gr ns w k) := if_pos h
theorem gr_le : ∀ k, gr ns w k ≤ ns.length
  | 0 => Nat.zero_le _
  | k + 1 => by
    unfold gr
    split
    · exact nx_le _ _ _ ‹_›
    · exact Nat.le_refl _
theorem gr_lt {k : Nat} (h : gr ns w k < ns.length) : gr ns w k < gr ns w (k + 1) := by
  rw [gr_step h]
  exact nx_gt _ _ _
theorem gr_mono : ∀ {k j : Nat}, k ≤ j → gr ns w k ≤ gr ns w j
  | k, 0, h => by rw [show k = 0 by omega]; exact Nat.le_refl _
  | k, j + 1, h => by
    by_cases e : k = j + 1
    · rw [e]; exact Nat.le_refl _
    · refine Nat.le_trans (gr_mono (show k ≤ j by omega)) ?_
      by_cases hl : gr ns w j < ns.length
      · exact Nat.le_of_lt (gr_lt hl)
      · have := gr_le (ns := ns) (w := w) j
        have e2 : gr ns w (j + 1) = ns.length := if_neg hl
        omega
theorem chain_gr : ∀ (l : List Nat) (a k : Nat), Chain ns w (a :: l) → a = gr ns w k → (∀ i b, (a :: l)[i]? = some b → b = gr ns w (k + i) ∧ b < ns.length) ∧ gr ns w (k + l.length + 1) = ns.length
  | [], a, k, h, e => by
    obtain ⟨h1, h2⟩ := h
    refine ⟨fun i b hb => ?_, ?_⟩
    · cases i with
      | zero => cases hb; exact ⟨e, h1⟩
      | succ i => cases hb
    · show gr ns w (k + 1) = _
      rw [gr_step (by rw [← e]; exact h1), ← e, h2]
  | b :: r, a, k, h, e => by
    obtain ⟨h1, h2, h3⟩ := h
    have e2 : b = gr ns w (k + 1) := by rw [gr_step (by rw [← e]; exact h1), ← e, h2]
    obtain ⟨i1, i2⟩ := chain_gr r b (k + 1) h3 e2
    refine ⟨fun i c hc => ?_, ?_⟩
    · cases i with
      | zero => cases hc; exact ⟨e, h1⟩
      | succ i =>
        have := i1 i c hc
        rw [show k + (i + 1) = k + 1 + i by omega]
        exact this
    · rw [List.length_cons, show k + (r.length + 1) + 1 = k + 1 + r.length + 1 by omega]
      exact i2
/-- the number of greedy lines -/
def many (ns : List Int) (w : Int) : Nat := (starts ns w).length
theorem many_pos : 1 ≤ many ns w := by unfold many starts; simp
theorem starts_at {i b : Nat} (h1 : 0 < ns.length) (h : (starts ns w)[i]? = some b) : b = gr ns w i ∧ b < ns.length := by
  have := (chain_gr (restF ns w ns.length (nx ns w 0)) 0 0 (starts_chain w h1) rfl).1 i b h
  rwa [Nat.zero_add] at this
theorem gr_end (h1 : 0 < ns.length) : gr ns w (many ns w) = ns.length := by
  have := (chain_gr (restF ns w ns.length (nx ns w 0)) 0 0 (starts_chain w h1) rfl).2
  rw [Nat.zero_add] at this
  exact this
theorem gr_in (h1 : 0 < ns.length) {k : Nat} (hk : k < many ns w) : gr ns w k < ns.length := by
  have := (starts_at h1 (List.getElem?_eq_getElem (l := starts ns w) hk)).1
  have h2 := (starts_at h1 (List.getElem?_eq_getElem (l := starts ns w) hk)).2
  omega
theorem gr_in_iff (h1 : 0 < ns.length) {k : Nat} : gr ns w k < ns.length ↔ k < many ns w := by
  refine ⟨fun h => ?_, gr_in h1⟩
  by_cases e : k < many ns w
  · exact e
  · have := gr_mono (ns := ns) (w := w) (show many ns w ≤ k by omega)
    rw [gr_end h1] at this
    omega
theorem starts_gr (h1 : 0 < ns.length) : starts ns w = (List.range (many ns w)).map (gr ns w) := by
  refine List.ext_getElem (by simp [many]) fun i h2 h3 => ?_
  have := (starts_at h1 (List.getElem?_eq_getElem h2)).1
  rw [this]
  simp
theorem adj_at : ∀ {l : List Nat} {k a b : Nat}, l[k]? = some a → l[k + 1]? = some b → (a, b) ∈ adjN l
  | x :: y :: r, 0, a, b, h1, h2 => by cases h1; cases h2; exact .head _
  | x :: y :: r, k + 1, a, b, h1, h2 => .tail _ (adj_at (l := y :: r) (k := k) h1 h2)
  | [x], k, a, b, h1, h2 => by simp at h2
  | [], k, a, b, h1, h2 => by simp at h1
theorem end_at {e : Nat} : ∀ {l : List Nat} {k a b : Nat}, l[k]? = some a → l[k + 1]? = some b → (a, b) ∈ endN e l
  | x :: y :: r, 0, a, b, h1, h2 => by cases h1; cases h2; exact .head _
  | x :: y :: r, k + 1, a, b, h1, h2 => .tail _ (end_at (l := y :: r) (k := k) h1 h2)
  | [x], k, a, b, h1, h2 => by simp at h2
  | [], k, a, b, h1, h2 => by simp at h1
theorem end_last {e : Nat} : ∀ {l : List Nat} {k a : Nat}, l[k]? = some a → k + 1 = l.length → (a, e) ∈ endN e l
  | [x], k, a, h1, h2 => by
    have : k = 0 := by simpa using h2
    subst this
    cases h1
    exact .head _
  | x :: y :: r, 0, a, h1, h2 => by simp at h2
  | x :: y :: r, k + 1, a, h1, h2 => .tail _ (end_last (l := y :: r) (k := k) h1 (by simpa using h2))
  | [], k, a, h1, h2 => by simp at h1
theorem adj_ix : ∀ {l : List Nat} {q : Nat × Nat}, q ∈ adjN l → ∃ k, l[k]? = some q.1 ∧ l[k + 1]? = some q.2
  | a :: b :: r, q, h => by
    cases h with
    | head => exact ⟨0, rfl, rfl⟩
    | tail _ h => obtain ⟨k, h1, h2⟩ := adj_ix h; exact ⟨k + 1, h1, h2⟩
  | [_], q, h => by cases h
  | [], q, h => by cases h
theorem end_ix {e : Nat} : ∀ {l : List Nat} {q : Nat × Nat}, q ∈ endN e l → ∃ k, l[k]? = some q.1 ∧ (l[k + 1]? = some q.2 ∨ (k + 1 = l.length ∧ q.2 = e))
  | a :: b :: r, q, h => by
    cases h with
    | head => exact ⟨0, rfl, .inl rfl⟩
    | tail _ h =>
      obtain ⟨k, h1, h2⟩ := end_ix h
      exact ⟨k + 1, h1, h2.imp id fun z => ⟨by simpa using z.1, z.2⟩⟩
  | [a], q, h => by
    cases h with
    | head => exact ⟨0, rfl, .inr ⟨rfl, rfl⟩⟩
    | tail _ h => cases h
  | [], q, h => by cases h
/-- a breaking: starts from 0 on, ascending, lines that fit -/
structure Brk (ns : List Int) (w : Int) (l : List Nat) : Prop where
  ne : l ≠ []
  zero : l[0]? = some 0
  asc : ascN l = true
  lt : ∀ a ∈ l, a < ns.length
  fit : fitN ns w l = true
theorem Brk.fits {l : List Nat} (h : Brk ns w l) {q : Nat × Nat} (hq : q ∈ endN ns.length l) : q.1 < q.2 ∧ q.2 ≤ ns.length ∧ ext ns q.1 (q.2 - 1) ≤ w := by
  have h1 := asc_end h.asc h.lt hq
  refine ⟨h1, ?_, ?_⟩
  · rcases (end_mem hq).2 with z | z
    · exact Nat.le_of_lt (h.lt _ z)
    · omega
  · have := h.fit
    unfold fitN at this
    simpa using List.all_eq_true.mp this q hq
theorem Brk.len {l : List Nat} (h : Brk ns w l) : 1 ≤ l.length := List.length_pos_iff.mpr h.ne
/-- no start is later than the greedy one -/
theorem Brk.le (hp : ∀ x ∈ ns, 1 ≤ x) {l : List Nat} (h : Brk ns w l) : ∀ (k a : Nat), l[k]? = some a → a ≤ gr ns w k
  | 0, a, ha => by
    rw [h.zero] at ha
    cases ha
    exact Nat.zero_le _
  | k + 1, a, ha => by
    have hk : k < l.length := by have := (List.getElem?_eq_some_iff.mp ha).1; omega
    have hb := List.getElem?_eq_getElem hk
    have ih := Brk.le hp h k _ hb
    obtain ⟨f1, f2, f3⟩ := h.fits (end_at hb ha)
    have lt := h.lt _ (List.mem_of_getElem? ha)
    have ltb := h.lt _ (List.getElem_mem hk)
    obtain ⟨n1, n2, n3, n4⟩ := nx_spec (w := w) ltb
    have step : a ≤ nx ns w l[k] := by
      by_cases e : a ≤ nx ns w l[k]
      · exact e
      · have h4 := n4 (by omega)
        have h5 := ext_mono_r hp (i := l[k]) (j := nx ns w l[k]) (by omega) (a - 1) (by omega) (by omega)
        simp only at f3
        omega
    by_cases hg : gr ns w k < ns.length
    · rw [gr_step hg]
      exact Nat.le_trans step (nx_mono hp ih hg)
    · have e2 : gr ns w (k + 1) = ns.length := if_neg hg
      omega
/-- no breaking has fewer lines -/
theorem Brk.many (hp : ∀ x ∈ ns, 1 ≤ x) (h1 : 0 < ns.length) {l : List Nat} (h : Brk ns w l) : DL.many ns w ≤ l.length := by
  have hl := h.len
  have hk : l.length - 1 < l.length := by omega
  have hb := List.getElem?_eq_getElem hk
  have le := h.le hp _ _ hb
  obtain ⟨f1, f2, f3⟩ := h.fits (end_last hb (by omega))
  have ltb := h.lt _ (List.getElem_mem hk)
  by_cases e : DL.many ns w ≤ l.length
  · exact e
  · have hg := gr_in (w := w) h1 (k := l.length) (by omega)
    have hg0 : gr ns w (l.length - 1) < ns.length := gr_in h1 (show l.length - 1 < DL.many ns w by omega)
    have st := gr_step hg0
    rw [show l.length - 1 + 1 = l.length by omega] at st
    have mono := nx_mono (w := w) hp le hg0
    obtain ⟨n1, n2, n3, n4⟩ := nx_spec (w := w) ltb
    have h4 := n4 (by omega)
    have h5 := ext_mono_r hp (i := l[l.length - 1]) (j := nx ns w l[l.length - 1]) (by omega) (ns.length - 1) (by omega) (by omega)
    simp only at f3
    omega
/-- the greedy starts are a breaking of a row that fits -/
theorem brk_starts (h1 : 0 < ns.length) (hw : ∀ x ∈ ns, x ≤ w) : Brk ns w (starts ns w) := by
  have at_ : ∀ {i b}, (starts ns w)[i]? = some b → b = gr ns w i ∧ b < ns.length := fun h => DL.starts_at h1 h
  refine ⟨by unfold starts; simp, rfl, ?_, fun a ha => starts_lt h1 a ha, ?_⟩
  · unfold ascN
    refine List.all_eq_true.mpr fun q hq => ?_
    obtain ⟨k, h2, h3⟩ := adj_ix hq
    obtain ⟨e1, l1⟩ := at_ h2
    obtain ⟨e2, l2⟩ := at_ h3
    have := gr_lt (ns := ns) (w := w) (k := k) (by omega)
    simp
    omega
  · unfold fitN
    refine List.all_eq_true.mpr fun q hq => ?_
    obtain ⟨k, h2, h3⟩ := end_ix hq
    obtain ⟨e1, l1⟩ := at_ h2
    have nxe : q.2 = nx ns w q.1 := by
      rw [e1, ← gr_step (by omega)]
      rcases h3 with h3 | ⟨h3, h4⟩
      · exact (at_ h3).1
      · rw [h4, h3]
        exact (gr_end h1).symm
    obtain ⟨n1, n2, n3, n4⟩ := nx_spec (w := w) l1
    simp only [decide_eq_true_eq]
    rw [nxe]
    by_cases e : nx ns w q.1 - 1 = q.1
    · rw [e, ext_one l1]
      exact hw _ (List.getElem_mem l1)
    · exact n3 _ (by omega) (by omega)
/-- bars: ascending places, two neighbours of which do not fit one line -/
structure Bar (ns : List Int) (w : Int) (l : List Nat) : Prop where
  ne : l ≠ []
  asc : ascN l = true
  lt : ∀ a ∈ l, a < ns.length
  far : barN ns w l = true
theorem Bar.fars {l : List Nat} (h : Bar ns w l) {q : Nat × Nat} (hq : q ∈ adjN l) : q.1 < q.2 ∧ q.2 < ns.length ∧ w < ext ns q.1 q.2 := by
  refine ⟨asc_adj h.asc hq, h.lt _ (adj_mem hq).2, ?_⟩
  have := h.far
  unfold barN at this
  simpa using List.all_eq_true.mp this q hq
theorem Bar.ge (hp : ∀ x ∈ ns, 1 ≤ x) {l : List Nat} (h : Bar ns w l) : ∀ (k a : Nat), l[k]? = some a → gr ns w k ≤ a
  | 0, a, ha => Nat.zero_le _
  | k + 1, a, ha => by
    have hk : k < l.length := by have := (List.getElem?_eq_some_iff.mp ha).1; omega
    have hb := List.getElem?_eq_getElem hk
    have ih := Bar.ge hp h k _ hb
    obtain ⟨f1, f2, f3⟩ := h.fars (adj_at hb ha)
    simp only at f1 f2 f3
    have ltb := h.lt _ (List.getElem_mem hk)
    have hg : gr ns w k < ns.length := by omega
    rw [gr_step hg]
    refine Nat.le_trans (nx_mono hp ih ltb) ?_
    obtain ⟨n1, n2, n3, n4⟩ := nx_spec (w := w) ltb
    by_cases e : nx ns w l[k] ≤ a
    · exact e
    · have := n3 a f1 (by omega)
      omega
/-- no bars have more items than there are greedy lines -/
theorem Bar.many (hp : ∀ x ∈ ns, 1 ≤ x) (h1 : 0 < ns.length) {l : List Nat} (h : Bar ns w l) : l.length ≤ DL.many ns w := by
  have hl : 1 ≤ l.length := List.length_pos_iff.mpr h.ne
  have hk : l.length - 1 < l.length := by omega
  have := h.ge hp _ _ (List.getElem?_eq_getElem hk)
  have lt := h.lt _ (List.getElem_mem hk)
  have := (gr_in_iff (w := w) h1 (k := l.length - 1)).mp (by omega)
  omega
theorem bar_starts (h1 : 0 < ns.length) : Bar ns w (starts ns w) := by
  have at_ : ∀ {i b}, (starts ns w)[i]? = some b → b = gr ns w i ∧ b < ns.length := fun h => DL.starts_at h1 h
  refine ⟨by unfold starts; simp, ?_, fun a ha => starts_lt h1 a ha, ?_⟩
  · unfold ascN
    refine List.all_eq_true.mpr fun q hq => ?_
    obtain ⟨k, h2, h3⟩ := adj_ix hq
    obtain ⟨e1, l1⟩ := at_ h2
    obtain ⟨e2, l2⟩ := at_ h3
    have := gr_lt (ns := ns) (w := w) (k := k) (by omega)
    simp
    omega
  · unfold barN
    refine List.all_eq_true.mpr fun q hq => ?_
    obtain ⟨k, h2, h3⟩ := adj_ix hq
    obtain ⟨e1, l1⟩ := at_ h2
    obtain ⟨e2, l2⟩ := at_ h3
    obtain ⟨n1, n2, n3, n4⟩ := nx_spec (w := w) l1
    have e3 : q.2 = nx ns w q.1 := by rw [e1, ← gr_step (by omega)]; exact e2
    simp only [decide_eq_true_eq]
    rw [e3]
    exact n4 (by omega)
end
end DL
end
section
namespace DL
open PySem
section
variable {ns : List Int} {w : Int}
theorem asc_of {l : List Nat} (h : ∀ (k a b : Nat), l[k]? = some a → l[k + 1]? = some b → a < b) : ascN l = true := by
  unfold ascN
  refine List.all_eq_true.mpr fun q hq => ?_
  obtain ⟨k, h2, h3⟩ := adj_ix hq
  exact decide_eq_true (h k _ _ h2 h3)
theorem Brk.of {l : List Nat} (h0 : l[0]? = some 0) (hl : ∀ a ∈ l, a < ns.length) (h : ∀ (k a b : Nat), l[k]? = some a → (l[k + 1]? = some b ∨ (k + 1 = l.length ∧ b = ns.length)) → a < b ∧ ext ns a (b - 1) ≤ w) : Brk ns w l := by
  refine ⟨(fun z => by rw [z] at h0; cases h0), h0, asc_of fun k a b h1 h2 => (h k a b h1 (.inl h2)).1, hl, ?_⟩
  unfold fitN
  refine List.all_eq_true.mpr fun q hq => ?_
  obtain ⟨k, h2, h3⟩ := end_ix hq
  exact decide_eq_true (h k _ _ h2 h3).2
theorem Bar.of {l : List Nat} (h0 : l ≠ []) (hl : ∀ a ∈ l, a < ns.length) (h : ∀ (k a b : Nat), l[k]? = some a → l[k + 1]? = some b → a < b ∧ w < ext ns a b) : Bar ns w l := by
  refine ⟨h0, asc_of fun k a b h1 h2 => (h k a b h1 h2).1, hl, ?_⟩
  unfold barN
  refine List.all_eq_true.mpr fun q hq => ?_
  obtain ⟨k, h2, h3⟩ := adj_ix hq
  exact decide_eq_true (h k _ _ h2 h3).2
theorem Bar.step {l : List Nat} (h : Bar ns w l) {k a b : Nat} (h1 : l[k]? = some a) (h2 : l[k + 1]? = some b) : a < b ∧ b < ns.length ∧ w < ext ns a b := h.fars (adj_at h1 h2)
/-- bars with one place left out are bars -/
theorem Bar.less (hp : ∀ x ∈ ns, 1 ≤ x) {l : List Nat} (h : Bar ns w l) (h2 : 1 < l.length) (r : Nat) (hr : r < l.length) : Bar ns w (l.take r ++ l.drop (r + 1)) := by
  have len : (l.take r ++ l.drop (r + 1)).length = l.length - 1 := by
    rw [List.length_append, List.length_take, List.length_drop]; omega
  have at_ : ∀ k, (l.take r ++ l.drop (r + 1))[k]? = if k < r then l[k]? else l[k + 1]? := fun k => by
    by_cases hk : k < r
    · rw [if_pos hk, List.getElem?_append_left (by rw [List.length_take]; omega), List.getElem?_take, if_pos hk]
    · rw [if_neg hk, List.getElem?_append_right (by rw [List.length_take]; omega), List.getElem?_drop, List.length_take]
      congr 1
      omega
  refine .of (fun z => by rw [z] at len; simp at len; omega) (fun a ha => ?_) fun k a b h3 h4 => ?_
  · rcases List.mem_append.mp ha with z | z
    · exact h.lt a (List.mem_of_mem_take z)
    · exact h.lt a (List.mem_of_mem_drop z)
  · rw [at_] at h3 h4
    by_cases c1 : k + 1 < r
    · rw [if_pos (by omega)] at h3
      rw [if_pos c1] at h4
      have := h.step h3 h4
      exact ⟨this.1, this.2.2⟩
    · rw [if_neg c1] at h4
      by_cases c2 : k < r
      · rw [if_pos c2] at h3
        have hm : k + 1 < l.length := by omega
        have s1 := h.step h3 (List.getElem?_eq_getElem hm)
        have s2 := h.step (List.getElem?_eq_getElem hm) h4
        have := ext_mono_r hp (i := a) (j := l[k + 1]) (by omega) b (by omega) s2.2.1
        exact ⟨by omega, by omega⟩
      · rw [if_neg c2] at h3
        have := h.step h3 h4
        exact ⟨this.1, this.2.2⟩
end
theorem comp_filtE {it : XA} {tg : Tg} {t : XT} {e : XE} {vs : List Nat} {E : Env} {ds : List D} {p : D → Bool} {f : D → D} (hit : it E = ret ds) (hl : ds.length ≤ 1000000)
    (hs : ∀ d ∈ ds, ∃ E1, tg.put d (wipeE E vs) = some E1 ∧ t E1 = ret (p d) ∧ (p d = true → e E1 = ret (f d))) : eComp it tg t e vs E = ret (.list ((ds.filter p).map f)) := by
  rw [x_comp, hit, bnd_ret, comp_filt p f ds [] (by simp only [List.length_nil]; omega) hs, noX_ret, bnd_ret, List.nil_append]
theorem comp_mapE {it : XA} {tg : Tg} {t : XT} {e : XE} {vs : List Nat} {E : Env} {ds : List D} {f : D → D} (hit : it E = ret ds) (hl : ds.length ≤ 1000000)
    (hs : ∀ d ∈ ds, ∃ E1, tg.put d (wipeE E vs) = some E1 ∧ t E1 = ret true ∧ e E1 = ret (f d)) : eComp it tg t e vs E = ret (.list (ds.map f)) := by
  rw [x_comp, hit, bnd_ret, comp_map f ds [] (by simp only [List.length_nil]; omega) hs, noX_ret, bnd_ret, List.nil_append]
theorem long_all {ns : List Int} {w : Int} (h : Long ns w none) : ∀ x ∈ ns, x ≤ w := fun x hx => by
  cases h with
  | no h =>
    obtain ⟨j, hj, e⟩ := List.getElem_of_mem hx
    exact h j x (by rw [List.getElem?_eq_getElem hj, e])
end DL
end
section
namespace DL
open PySem
def seenD (ns : List Int) (ws : List Int) : List D := ws.map fun w => entD (w, starts ns w)
def entF (ns : List Int) (d : D) : D := match d with
  | .int w => entD (w, starts ns w)
  | _ => .none
def agB (os ns : List Int) (m : Int) (d : D) : Bool := match d with
  | .tuple [.int w, _] => decide (m ≤ w) && decide (starts os w = starts ns w)
  | _ => false
def SeenW (m : Int) (ws : List Int) : Prop := ws.length ≤ 6 ∧ ∀ w ∈ ws, m ≤ w ∧ w ≤ 2000
def agreesN (os ns : List Int) (m : Int) (ws : List Int) : Bool := ws.all fun w => decide (m ≤ w) && decide (starts os w = starts ns w)
theorem asc_sub : ∀ {ks ws : List Int}, ks.Pairwise (· < ·) → (∀ x ∈ ks, x ∈ ws) → ks.length ≤ ws.length
  | [], _, _, _ => Nat.zero_le _
  | a :: r, ws, h, hs => by
    have h1 := (List.pairwise_cons.mp h)
    have ha := hs a (.head _)
    have := asc_sub (ks := r) (ws := ws.erase a) h1.2 fun x hx => by
      have : a < x := h1.1 x hx
      exact (List.mem_erase_of_ne (by omega)).mpr (hs x (.tail _ hx))
    rw [List.length_erase_of_mem ha] at this
    have : 0 < ws.length := List.length_pos_of_mem ha
    simp only [List.length_cons]
    omega
theorem seen_at_1 {ns : List Int} {m : Int} (em : bi1 .max (.tuple (ns.map PyData.int)) = ret (.int m)) (h1 : 1 ≤ ns.length) (h2 : ns.length ≤ 24) (hn : ∀ x ∈ ns, 1 ≤ x ∧ x ≤ 60) (hm : m ≤ 60) : Ok (w__law_seen_at_0 [.tuple (ns.map PyData.int)]) 25 fun d => ∃ ws, d = .tuple (seenD ns ws) ∧ SeenW m ws ∧ ws ≠ [] ∧ ws.Pairwise (· < ·) := by
  unfold w__law_seen_at_0
  rw [x_fnS]
  refine Ok.grd rfl (Ok.fn ?_)
  try simp (disch := omega) only [x_var, x_con, x_bin, x_neg, x_cmp, x_chain, x_tTru, x_tNot, x_tAnd, x_tOr, x_tBool, x_tYes, x_not, x_and, x_or, x_if, x_b1, x_b2, x_is, x_idx, x_oNone, x_oSome, x_cut, x_aNil, x_aCons, x_tup, x_lst, x_call, x_callS,
    x_iSeq, x_iRng1, x_iRng2, x_bor, x_tBor, x_put1, List.map_cons, List.map_nil, List.cons_append, List.nil_append, List.length_cons, List.length_nil, Nat.zero_add, Nat.reduceAdd, Nat.reduceSub, List.reduceReplicate, start,
    List.getElem?_cons_zero, List.getElem?_cons_succ, List.set_cons_zero, List.set_cons_succ, bnd_ret, bnd_assoc, bnd_grd, b1_if, bnd_ite, small, Nat.reduceLeDiff, grd_true, o_add, o_sub, o_neg, o_eq, o_ne, o_lt, o_le, o_gt, o_ge, o_eqS, o_neS,
    decide_eq_true_eq, reduceIte, decide_true, decide_false, Bool.not_true, Bool.not_false, Bool.false_eq_true, itemsOf, asInt, endOf, isTy,
    grd_tt, nx_int, nx_bool, nx_str, nx_none, nx_tup, nx_lst, x_isC, x_fld, x_in, x_count, x_lstR, x_tupR, x_raise, x_star, bnd_thr, noX_ret, fld_x, exn_d, eSetO, Out.clear, List.zip_cons_cons, List.zip_nil_left, List.zip_nil_right, s_asg, s_par, s_own, s_parO, s_put, s_expr, s_ret, s_skip, s_seq, s_rel, x_asg, x_par, x_own, x_parO, x_put, x_expr, x_ret, x_retN, x_skip, x_rel, x_app, x_setI, x_sIf, x_for, x_brk, x_cnt, b_lenT, b_lenL, b_tupL, b_tupT, b_max2, b_min2, o_addL, o_addT, cut_ints, sum_ints, s_chk, s_for, s_brk, s_cnt, s_retN, t_bool, g_rng, g_le, List.length_map]
  refine Ok.drawB (n := 24) (by omega) (by omega) fun r r0 r1 => ?_
  try simp (disch := omega) only [x_var, x_con, x_bin, x_neg, x_cmp, x_chain, x_tTru, x_tNot, x_tAnd, x_tOr, x_tBool, x_tYes, x_not, x_and, x_or, x_if, x_b1, x_b2, x_is, x_idx, x_oNone, x_oSome, x_cut, x_aNil, x_aCons, x_tup, x_lst, x_call, x_callS,
    x_iSeq, x_iRng1, x_iRng2, x_bor, x_tBor, x_put1, List.map_cons, List.map_nil, List.cons_append, List.nil_append, List.length_cons, List.length_nil, Nat.zero_add, Nat.reduceAdd, Nat.reduceSub, List.reduceReplicate, start,
    List.getElem?_cons_zero, List.getElem?_cons_succ, List.set_cons_zero, List.set_cons_succ, bnd_ret, bnd_assoc, bnd_grd, b1_if, bnd_ite, small, Nat.reduceLeDiff, grd_true, o_add, o_sub, o_neg, o_eq, o_ne, o_lt, o_le, o_gt, o_ge, o_eqS, o_neS,
    decide_eq_true_eq, reduceIte, decide_true, decide_false, Bool.not_true, Bool.not_false, Bool.false_eq_true, itemsOf, asInt, endOf, isTy,
    grd_tt, nx_int, nx_bool, nx_str, nx_none, nx_tup, nx_lst, x_isC, x_fld, x_in, x_count, x_lstR, x_tupR, x_raise, x_star, bnd_thr, noX_ret, fld_x, exn_d, eSetO, Out.clear, List.zip_cons_cons, List.zip_nil_left, List.zip_nil_right, s_asg, s_par, s_own, s_parO, s_put, s_expr, s_ret, s_skip, s_seq, s_rel, x_asg, x_par, x_own, x_parO, x_put, x_expr, x_ret, x_retN, x_skip, x_rel, x_app, x_setI, x_sIf, x_for, x_brk, x_cnt, b_lenT, b_lenL, b_tupL, b_tupT, b_max2, b_min2, o_addL, o_addT, cut_ints, sum_ints, s_chk, s_for, s_brk, s_cnt, s_retN, t_bool, g_rng, g_le, List.length_map]
  refine Ok.bnd' 24 (n := 24) (Q := fun o => ∃ (ws : List Int) (e3 e4 : Ent), o = .nx [.stm, .val (.tuple (ns.map PyData.int)), .own (ws.map PyData.int), e3, e4] ∧ SeenW m ws ∧ 0 < ws.length) ?_ (Nat.le_refl _) ?_
  · refine for_ok (b := 4) (fun i E => ∃ (ws : List Int) (e3 e4 : Ent), E = [.stm, .val (.tuple (ns.map PyData.int)), .own (ws.map PyData.int), e3, e4] ∧ ws.length = i ∧ ∀ w ∈ ws, m ≤ w ∧ w ≤ 2000) ⟨[], _, _, rfl, by simp, by simp⟩ (by rw [rng_len]; omega) ?_ ?_
    · rintro i d E hi ⟨ws, e3, e4, rfl, l1, hw⟩
      obtain ⟨rfl, hi2⟩ := rng_at hi
      refine ⟨_, rfl, ?_⟩
      try simp (disch := omega) only [x_var, x_con, x_bin, x_neg, x_cmp, x_chain, x_tTru, x_tNot, x_tAnd, x_tOr, x_tBool, x_tYes, x_not, x_and, x_or, x_if, x_b1, x_b2, x_is, x_idx, x_oNone, x_oSome, x_cut, x_aNil, x_aCons, x_tup, x_lst, x_call, x_callS,
    x_iSeq, x_iRng1, x_iRng2, x_bor, x_tBor, x_put1, List.map_cons, List.map_nil, List.cons_append, List.nil_append, List.length_cons, List.length_nil, Nat.zero_add, Nat.reduceAdd, Nat.reduceSub, List.reduceReplicate, start,
    List.getElem?_cons_zero, List.getElem?_cons_succ, List.set_cons_zero, List.set_cons_succ, bnd_ret, bnd_assoc, bnd_grd, b1_if, bnd_ite, small, Nat.reduceLeDiff, grd_true, o_add, o_sub, o_neg, o_eq, o_ne, o_lt, o_le, o_gt, o_ge, o_eqS, o_neS,
    decide_eq_true_eq, reduceIte, decide_true, decide_false, Bool.not_true, Bool.not_false, Bool.false_eq_true, itemsOf, asInt, endOf, isTy,
    grd_tt, nx_int, nx_bool, nx_str, nx_none, nx_tup, nx_lst, x_isC, x_fld, x_in, x_count, x_lstR, x_tupR, x_raise, x_star, bnd_thr, noX_ret, fld_x, exn_d, eSetO, Out.clear, List.zip_cons_cons, List.zip_nil_left, List.zip_nil_right, s_asg, s_par, s_own, s_parO, s_put, s_expr, s_ret, s_skip, s_seq, s_rel, x_asg, x_par, x_own, x_parO, x_put, x_expr, x_ret, x_retN, x_skip, x_rel, x_app, x_setI, x_sIf, x_for, x_brk, x_cnt, b_lenT, b_lenL, b_tupL, b_tupT, b_max2, b_min2, o_addL, o_addT, cut_ints, sum_ints, s_chk, s_for, s_brk, s_cnt, s_retN, t_bool, g_rng, g_le, List.length_map, em]
      refine Ok.bnd' 4 (width_drawn_0 h1 h2 hn) (by decide) ?_
      rintro wd ⟨v, rfl, v1, v2⟩
      try simp (disch := omega) only [x_var, x_con, x_bin, x_neg, x_cmp, x_chain, x_tTru, x_tNot, x_tAnd, x_tOr, x_tBool, x_tYes, x_not, x_and, x_or, x_if, x_b1, x_b2, x_is, x_idx, x_oNone, x_oSome, x_cut, x_aNil, x_aCons, x_tup, x_lst, x_call, x_callS,
    x_iSeq, x_iRng1, x_iRng2, x_bor, x_tBor, x_put1, List.map_cons, List.map_nil, List.cons_append, List.nil_append, List.length_cons, List.length_nil, Nat.zero_add, Nat.reduceAdd, Nat.reduceSub, List.reduceReplicate, start,
    List.getElem?_cons_zero, List.getElem?_cons_succ, List.set_cons_zero, List.set_cons_succ, bnd_ret, bnd_assoc, bnd_grd, b1_if, bnd_ite, small, Nat.reduceLeDiff, grd_true, o_add, o_sub, o_neg, o_eq, o_ne, o_lt, o_le, o_gt, o_ge, o_eqS, o_neS,
    decide_eq_true_eq, reduceIte, decide_true, decide_false, Bool.not_true, Bool.not_false, Bool.false_eq_true, itemsOf, asInt, endOf, isTy,
    grd_tt, nx_int, nx_bool, nx_str, nx_none, nx_tup, nx_lst, x_isC, x_fld, x_in, x_count, x_lstR, x_tupR, x_raise, x_star, bnd_thr, noX_ret, fld_x, exn_d, eSetO, Out.clear, List.zip_cons_cons, List.zip_nil_left, List.zip_nil_right, s_asg, s_par, s_own, s_parO, s_put, s_expr, s_ret, s_skip, s_seq, s_rel, x_asg, x_par, x_own, x_parO, x_put, x_expr, x_ret, x_retN, x_skip, x_rel, x_app, x_setI, x_sIf, x_for, x_brk, x_cnt, b_lenT, b_lenL, b_tupL, b_tupT, b_max2, b_min2, o_addL, o_addT, cut_ints, sum_ints, s_chk, s_for, s_brk, s_cnt, s_retN, t_bool, g_rng, g_le, List.length_map]
      refine Ok.ret ⟨ws ++ [if v > m then v else m], .val (.int (0 + (i : Int))), e4, ?_, by simp; omega, fun w hw2 => ?_⟩
      · rw [List.map_append]; rfl
      · rcases List.mem_append.mp hw2 with q | q
        · exact hw w q
        · rw [List.mem_singleton] at q
          subst q
          split <;> omega
    · rintro E ⟨ws, e3, e4, rfl, l1, hw⟩
      rw [rng_len] at l1
      exact ⟨ws, _, _, rfl, ⟨by omega, hw⟩, by omega⟩
  · rintro o ⟨ws, e3, e4, rfl, ⟨l1, hw⟩, l0⟩
    try simp (disch := omega) only [x_var, x_con, x_bin, x_neg, x_cmp, x_chain, x_tTru, x_tNot, x_tAnd, x_tOr, x_tBool, x_tYes, x_not, x_and, x_or, x_if, x_b1, x_b2, x_is, x_idx, x_oNone, x_oSome, x_cut, x_aNil, x_aCons, x_tup, x_lst, x_call, x_callS,
    x_iSeq, x_iRng1, x_iRng2, x_bor, x_tBor, x_put1, List.map_cons, List.map_nil, List.cons_append, List.nil_append, List.length_cons, List.length_nil, Nat.zero_add, Nat.reduceAdd, Nat.reduceSub, List.reduceReplicate, start,
    List.getElem?_cons_zero, List.getElem?_cons_succ, List.set_cons_zero, List.set_cons_succ, bnd_ret, bnd_assoc, bnd_grd, b1_if, bnd_ite, small, Nat.reduceLeDiff, grd_true, o_add, o_sub, o_neg, o_eq, o_ne, o_lt, o_le, o_gt, o_ge, o_eqS, o_neS,
    decide_eq_true_eq, reduceIte, decide_true, decide_false, Bool.not_true, Bool.not_false, Bool.false_eq_true, itemsOf, asInt, endOf, isTy,
    grd_tt, nx_int, nx_bool, nx_str, nx_none, nx_tup, nx_lst, x_isC, x_fld, x_in, x_count, x_lstR, x_tupR, x_raise, x_star, bnd_thr, noX_ret, fld_x, exn_d, eSetO, Out.clear, List.zip_cons_cons, List.zip_nil_left, List.zip_nil_right, s_asg, s_par, s_own, s_parO, s_put, s_expr, s_ret, s_skip, s_seq, s_rel, x_asg, x_par, x_own, x_parO, x_put, x_expr, x_ret, x_retN, x_skip, x_rel, x_app, x_setI, x_sIf, x_for, x_brk, x_cnt, b_lenT, b_lenL, b_tupL, b_tupT, b_max2, b_min2, o_addL, o_addT, cut_ints, sum_ints, s_chk, s_for, s_brk, s_cnt, s_retN, t_bool, g_rng, g_le, List.length_map, x_srtSet]
    rw [x_comp, x_iSeq, x_srtSet]
    try simp (disch := omega) only [x_var, x_con, x_bin, x_neg, x_cmp, x_chain, x_tTru, x_tNot, x_tAnd, x_tOr, x_tBool, x_tYes, x_not, x_and, x_or, x_if, x_b1, x_b2, x_is, x_idx, x_oNone, x_oSome, x_cut, x_aNil, x_aCons, x_tup, x_lst, x_call, x_callS,
    x_iSeq, x_iRng1, x_iRng2, x_bor, x_tBor, x_put1, List.map_cons, List.map_nil, List.cons_append, List.nil_append, List.length_cons, List.length_nil, Nat.zero_add, Nat.reduceAdd, Nat.reduceSub, List.reduceReplicate, start,
    List.getElem?_cons_zero, List.getElem?_cons_succ, List.set_cons_zero, List.set_cons_succ, bnd_ret, bnd_assoc, bnd_grd, b1_if, bnd_ite, small, Nat.reduceLeDiff, grd_true, o_add, o_sub, o_neg, o_eq, o_ne, o_lt, o_le, o_gt, o_ge, o_eqS, o_neS,
    decide_eq_true_eq, reduceIte, decide_true, decide_false, Bool.not_true, Bool.not_false, Bool.false_eq_true, itemsOf, asInt, endOf, isTy,
    grd_tt, nx_int, nx_bool, nx_str, nx_none, nx_tup, nx_lst, x_isC, x_fld, x_in, x_count, x_lstR, x_tupR, x_raise, x_star, bnd_thr, noX_ret, fld_x, exn_d, eSetO, Out.clear, List.zip_cons_cons, List.zip_nil_left, List.zip_nil_right, s_asg, s_par, s_own, s_parO, s_put, s_expr, s_ret, s_skip, s_seq, s_rel, x_asg, x_par, x_own, x_parO, x_put, x_expr, x_ret, x_retN, x_skip, x_rel, x_app, x_setI, x_sIf, x_for, x_brk, x_cnt, b_lenT, b_lenL, b_tupL, b_tupT, b_max2, b_min2, o_addL, o_addT, cut_ints, sum_ints, s_chk, s_for, s_brk, s_cnt, s_retN, t_bool, g_rng, g_le, List.length_map]
    refine Ok.srtSet (by omega) fun ks k1 k2 => ?_
    have kl : ks.length ≤ 6 := Nat.le_trans (asc_sub k1 fun x hx => (k2 x).mp hx) l1
    have lg : ∀ w, w__law_greedy_0 [.tuple (ns.map PyData.int), .int w] = ret (.tuple (natsD (starts ns w))) := fun w => law_greedy_0 h1 (by omega)
    try simp only [x_var, x_con, x_bin, x_neg, x_cmp, x_chain, x_tTru, x_tNot, x_tAnd, x_tOr, x_tBool, x_tYes, x_not, x_and, x_or, x_if, x_b1, x_b2, x_is, x_idx, x_oNone, x_oSome, x_cut, x_aNil, x_aCons, x_tup, x_lst, x_call, x_callS,
    x_iSeq, x_iRng1, x_iRng2, x_bor, x_tBor, x_put1, List.map_cons, List.map_nil, List.cons_append, List.nil_append, List.length_cons, List.length_nil, Nat.zero_add, Nat.reduceAdd, Nat.reduceSub, List.reduceReplicate, start,
    List.getElem?_cons_zero, List.getElem?_cons_succ, List.set_cons_zero, List.set_cons_succ, bnd_ret, bnd_assoc, bnd_grd, b1_if, bnd_ite, small, Nat.reduceLeDiff, grd_true, o_add, o_sub, o_neg, o_eq, o_ne, o_lt, o_le, o_gt, o_ge, o_eqS, o_neS,
    decide_eq_true_eq, reduceIte, decide_true, decide_false, Bool.not_true, Bool.not_false, Bool.false_eq_true, itemsOf, asInt, endOf, isTy,
    grd_tt, nx_int, nx_bool, nx_str, nx_none, nx_tup, nx_lst, x_isC, x_fld, x_in, x_count, x_lstR, x_tupR, x_raise, x_star, bnd_thr, noX_ret, fld_x, exn_d, eSetO, Out.clear, List.zip_cons_cons, List.zip_nil_left, List.zip_nil_right, s_asg, s_par, s_own, s_parO, s_put, s_expr, s_ret, s_skip, s_seq, s_rel, x_asg, x_par, x_own, x_parO, x_put, x_expr, x_ret, x_retN, x_skip, x_rel, x_app, x_setI, x_sIf, x_for, x_brk, x_cnt, b_lenT, b_lenL, b_tupL, b_tupT, b_max2, b_min2, o_addL, o_addT, cut_ints, sum_ints, s_chk, s_for, s_brk, s_cnt, s_retN, t_bool, g_rng, g_le, List.length_map]
    rw [comp_map (entF ns) (ks.map PyData.int) [] (by rw [List.length_map, List.length_nil]; omega) ?hs]
    case hs =>
      intro d hd
      obtain ⟨w, _, rfl⟩ := List.mem_map.mp hd
      refine ⟨_, rfl, rfl, ?_⟩
      try simp (disch := omega) only [x_var, x_con, x_bin, x_neg, x_cmp, x_chain, x_tTru, x_tNot, x_tAnd, x_tOr, x_tBool, x_tYes, x_not, x_and, x_or, x_if, x_b1, x_b2, x_is, x_idx, x_oNone, x_oSome, x_cut, x_aNil, x_aCons, x_tup, x_lst, x_call, x_callS,
    x_iSeq, x_iRng1, x_iRng2, x_bor, x_tBor, x_put1, List.map_cons, List.map_nil, List.cons_append, List.nil_append, List.length_cons, List.length_nil, Nat.zero_add, Nat.reduceAdd, Nat.reduceSub, List.reduceReplicate, start,
    List.getElem?_cons_zero, List.getElem?_cons_succ, List.set_cons_zero, List.set_cons_succ, bnd_ret, bnd_assoc, bnd_grd, b1_if, bnd_ite, small, Nat.reduceLeDiff, grd_true, o_add, o_sub, o_neg, o_eq, o_ne, o_lt, o_le, o_gt, o_ge, o_eqS, o_neS,
    decide_eq_true_eq, reduceIte, decide_true, decide_false, Bool.not_true, Bool.not_false, Bool.false_eq_true, itemsOf, asInt, endOf, isTy,
    grd_tt, nx_int, nx_bool, nx_str, nx_none, nx_tup, nx_lst, x_isC, x_fld, x_in, x_count, x_lstR, x_tupR, x_raise, x_star, bnd_thr, noX_ret, fld_x, exn_d, eSetO, Out.clear, List.zip_cons_cons, List.zip_nil_left, List.zip_nil_right, s_asg, s_par, s_own, s_parO, s_put, s_expr, s_ret, s_skip, s_seq, s_rel, x_asg, x_par, x_own, x_parO, x_put, x_expr, x_ret, x_retN, x_skip, x_rel, x_app, x_setI, x_sIf, x_for, x_brk, x_cnt, b_lenT, b_lenL, b_tupL, b_tupT, b_max2, b_min2, o_addL, o_addT, cut_ints, sum_ints, s_chk, s_for, s_brk, s_cnt, s_retN, t_bool, g_rng, g_le, List.length_map, wipeE, lg]
      rfl
    have e : (ks.map PyData.int).map (entF ns) = seenD ns ks := by
      unfold seenD
      rw [List.map_map]
      rfl
    rw [e]
    try simp only [x_var, x_con, x_bin, x_neg, x_cmp, x_chain, x_tTru, x_tNot, x_tAnd, x_tOr, x_tBool, x_tYes, x_not, x_and, x_or, x_if, x_b1, x_b2, x_is, x_idx, x_oNone, x_oSome, x_cut, x_aNil, x_aCons, x_tup, x_lst, x_call, x_callS,
    x_iSeq, x_iRng1, x_iRng2, x_bor, x_tBor, x_put1, List.map_cons, List.map_nil, List.cons_append, List.nil_append, List.length_cons, List.length_nil, Nat.zero_add, Nat.reduceAdd, Nat.reduceSub, List.reduceReplicate, start,
    List.getElem?_cons_zero, List.getElem?_cons_succ, List.set_cons_zero, List.set_cons_succ, bnd_ret, bnd_assoc, bnd_grd, b1_if, bnd_ite, small, Nat.reduceLeDiff, grd_true, o_add, o_sub, o_neg, o_eq, o_ne, o_lt, o_le, o_gt, o_ge, o_eqS, o_neS,
    decide_eq_true_eq, reduceIte, decide_true, decide_false, Bool.not_true, Bool.not_false, Bool.false_eq_true, itemsOf, asInt, endOf, isTy,
    grd_tt, nx_int, nx_bool, nx_str, nx_none, nx_tup, nx_lst, x_isC, x_fld, x_in, x_count, x_lstR, x_tupR, x_raise, x_star, bnd_thr, noX_ret, fld_x, exn_d, eSetO, Out.clear, List.zip_cons_cons, List.zip_nil_left, List.zip_nil_right, s_asg, s_par, s_own, s_parO, s_put, s_expr, s_ret, s_skip, s_seq, s_rel, x_asg, x_par, x_own, x_parO, x_put, x_expr, x_ret, x_retN, x_skip, x_rel, x_app, x_setI, x_sIf, x_for, x_brk, x_cnt, b_lenT, b_lenL, b_tupL, b_tupT, b_max2, b_min2, o_addL, o_addT, cut_ints, sum_ints, s_chk, s_for, s_brk, s_cnt, s_retN, t_bool, g_rng, g_le, List.length_map, List.nil_append]
    have kne : ks ≠ [] := by
      rintro rfl
      cases ws with
      | nil => cases l0
      | cons x r => exact absurd ((k2 x).mpr (.head _)) (by simp)
    exact Ok.ret ⟨ks, rfl, ⟨kl, fun w hw2 => hw w ((k2 w).mp hw2)⟩, kne, k1⟩
theorem law_agrees_0 {os ns ws : List Int} {m : Int} (em : bi1 .max (.tuple (os.map PyData.int)) = ret (.int m)) (h1 : 0 < os.length) (h2 : os.length ≤ 900) (hl : ws.length ≤ 1000) : w__law_agrees_0 [.tuple (os.map PyData.int), .tuple (seenD ns ws)] = ret (.bool (agreesN os ns m ws)) := by
  unfold w__law_agrees_0
  refine (f_fn (by rfl)).trans ?_
  have so : ∀ w, w__law_greedy_0 [.tuple (os.map PyData.int), .int w] = ret (.tuple (natsD (starts os w))) := fun w => law_greedy_0 h1 h2
  try simp only [x_var, x_con, x_bin, x_neg, x_cmp, x_chain, x_tTru, x_tNot, x_tAnd, x_tOr, x_tBool, x_tYes, x_not, x_and, x_or, x_if, x_b1, x_b2, x_is, x_idx, x_oNone, x_oSome, x_cut, x_aNil, x_aCons, x_tup, x_lst, x_call, x_callS,
    x_iSeq, x_iRng1, x_iRng2, x_bor, x_tBor, x_put1, List.map_cons, List.map_nil, List.cons_append, List.nil_append, List.length_cons, List.length_nil, Nat.zero_add, Nat.reduceAdd, Nat.reduceSub, List.reduceReplicate, start,
    List.getElem?_cons_zero, List.getElem?_cons_succ, List.set_cons_zero, List.set_cons_succ, bnd_ret, bnd_assoc, bnd_grd, b1_if, bnd_ite, small, Nat.reduceLeDiff, grd_true, o_add, o_sub, o_neg, o_eq, o_ne, o_lt, o_le, o_gt, o_ge, o_eqS, o_neS,
    decide_eq_true_eq, reduceIte, decide_true, decide_false, Bool.not_true, Bool.not_false, Bool.false_eq_true, itemsOf, asInt, endOf, isTy,
    grd_tt, nx_int, nx_bool, nx_str, nx_none, nx_tup, nx_lst, x_isC, x_fld, x_in, x_count, x_lstR, x_tupR, x_raise, x_star, bnd_thr, noX_ret, fld_x, exn_d, eSetO, Out.clear, List.zip_cons_cons, List.zip_nil_left, List.zip_nil_right, s_asg, s_par, s_own, s_parO, s_put, s_expr, s_ret, s_skip, s_seq, s_rel, x_asg, x_par, x_own, x_parO, x_put, x_expr, x_ret, x_retN, x_skip, x_rel, x_app, x_setI, x_sIf, x_for, x_brk, x_cnt, b_lenT, b_lenL, b_tupL, b_tupT, b_max2, b_min2, o_addL, o_addT, cut_ints, sum_ints, s_chk, s_for, s_brk, s_cnt, s_retN, t_bool, g_rng, g_le, List.length_map]
  rw [comp_filtE (ds := seenD ns ws) (p := fun d => !agB os ns m d) (f := fun _ => .int 1) rfl (by unfold seenD; rw [List.length_map]; omega) ?hs]
  case hs =>
    intro d hd
    obtain ⟨w, _, rfl⟩ := List.mem_map.mp hd
    refine ⟨_, rfl, ?_, fun _ => rfl⟩
    show _ = ret (!(decide (m ≤ w) && decide (starts os w = starts ns w)))
    try simp (disch := omega) only [x_var, x_con, x_bin, x_neg, x_cmp, x_chain, x_tTru, x_tNot, x_tAnd, x_tOr, x_tBool, x_tYes, x_not, x_and, x_or, x_if, x_b1, x_b2, x_is, x_idx, x_oNone, x_oSome, x_cut, x_aNil, x_aCons, x_tup, x_lst, x_call, x_callS,
    x_iSeq, x_iRng1, x_iRng2, x_bor, x_tBor, x_put1, List.map_cons, List.map_nil, List.cons_append, List.nil_append, List.length_cons, List.length_nil, Nat.zero_add, Nat.reduceAdd, Nat.reduceSub, List.reduceReplicate, start,
    List.getElem?_cons_zero, List.getElem?_cons_succ, List.set_cons_zero, List.set_cons_succ, bnd_ret, bnd_assoc, bnd_grd, b1_if, bnd_ite, small, Nat.reduceLeDiff, grd_true, o_add, o_sub, o_neg, o_eq, o_ne, o_lt, o_le, o_gt, o_ge, o_eqS, o_neS,
    decide_eq_true_eq, reduceIte, decide_true, decide_false, Bool.not_true, Bool.not_false, Bool.false_eq_true, itemsOf, asInt, endOf, isTy,
    grd_tt, nx_int, nx_bool, nx_str, nx_none, nx_tup, nx_lst, x_isC, x_fld, x_in, x_count, x_lstR, x_tupR, x_raise, x_star, bnd_thr, noX_ret, fld_x, exn_d, eSetO, Out.clear, List.zip_cons_cons, List.zip_nil_left, List.zip_nil_right, s_asg, s_par, s_own, s_parO, s_put, s_expr, s_ret, s_skip, s_seq, s_rel, x_asg, x_par, x_own, x_parO, x_put, x_expr, x_ret, x_retN, x_skip, x_rel, x_app, x_setI, x_sIf, x_for, x_brk, x_cnt, b_lenT, b_lenL, b_tupL, b_tupT, b_max2, b_min2, o_addL, o_addT, cut_ints, sum_ints, s_chk, s_for, s_brk, s_cnt, s_retN, t_bool, g_rng, g_le, List.length_map, wipeE, em, so, o_neN]
    by_cases c : m ≤ w
    · try simp only [x_var, x_con, x_bin, x_neg, x_cmp, x_chain, x_tTru, x_tNot, x_tAnd, x_tOr, x_tBool, x_tYes, x_not, x_and, x_or, x_if, x_b1, x_b2, x_is, x_idx, x_oNone, x_oSome, x_cut, x_aNil, x_aCons, x_tup, x_lst, x_call, x_callS,
    x_iSeq, x_iRng1, x_iRng2, x_bor, x_tBor, x_put1, List.map_cons, List.map_nil, List.cons_append, List.nil_append, List.length_cons, List.length_nil, Nat.zero_add, Nat.reduceAdd, Nat.reduceSub, List.reduceReplicate, start,
    List.getElem?_cons_zero, List.getElem?_cons_succ, List.set_cons_zero, List.set_cons_succ, bnd_ret, bnd_assoc, bnd_grd, b1_if, bnd_ite, small, Nat.reduceLeDiff, grd_true, o_add, o_sub, o_neg, o_eq, o_ne, o_lt, o_le, o_gt, o_ge, o_eqS, o_neS,
    decide_eq_true_eq, reduceIte, decide_true, decide_false, Bool.not_true, Bool.not_false, Bool.false_eq_true, itemsOf, asInt, endOf, isTy,
    grd_tt, nx_int, nx_bool, nx_str, nx_none, nx_tup, nx_lst, x_isC, x_fld, x_in, x_count, x_lstR, x_tupR, x_raise, x_star, bnd_thr, noX_ret, fld_x, exn_d, eSetO, Out.clear, List.zip_cons_cons, List.zip_nil_left, List.zip_nil_right, s_asg, s_par, s_own, s_parO, s_put, s_expr, s_ret, s_skip, s_seq, s_rel, x_asg, x_par, x_own, x_parO, x_put, x_expr, x_ret, x_retN, x_skip, x_rel, x_app, x_setI, x_sIf, x_for, x_brk, x_cnt, b_lenT, b_lenL, b_tupL, b_tupT, b_max2, b_min2, o_addL, o_addT, cut_ints, sum_ints, s_chk, s_for, s_brk, s_cnt, s_retN, t_bool, g_rng, g_le, List.length_map, c, show ¬ w < m by omega, if_false, Bool.true_and]
    · try simp only [x_var, x_con, x_bin, x_neg, x_cmp, x_chain, x_tTru, x_tNot, x_tAnd, x_tOr, x_tBool, x_tYes, x_not, x_and, x_or, x_if, x_b1, x_b2, x_is, x_idx, x_oNone, x_oSome, x_cut, x_aNil, x_aCons, x_tup, x_lst, x_call, x_callS,
    x_iSeq, x_iRng1, x_iRng2, x_bor, x_tBor, x_put1, List.map_cons, List.map_nil, List.cons_append, List.nil_append, List.length_cons, List.length_nil, Nat.zero_add, Nat.reduceAdd, Nat.reduceSub, List.reduceReplicate, start,
    List.getElem?_cons_zero, List.getElem?_cons_succ, List.set_cons_zero, List.set_cons_succ, bnd_ret, bnd_assoc, bnd_grd, b1_if, bnd_ite, small, Nat.reduceLeDiff, grd_true, o_add, o_sub, o_neg, o_eq, o_ne, o_lt, o_le, o_gt, o_ge, o_eqS, o_neS,
    decide_eq_true_eq, reduceIte, decide_true, decide_false, Bool.not_true, Bool.not_false, Bool.false_eq_true, itemsOf, asInt, endOf, isTy,
    grd_tt, nx_int, nx_bool, nx_str, nx_none, nx_tup, nx_lst, x_isC, x_fld, x_in, x_count, x_lstR, x_tupR, x_raise, x_star, bnd_thr, noX_ret, fld_x, exn_d, eSetO, Out.clear, List.zip_cons_cons, List.zip_nil_left, List.zip_nil_right, s_asg, s_par, s_own, s_parO, s_put, s_expr, s_ret, s_skip, s_seq, s_rel, x_asg, x_par, x_own, x_parO, x_put, x_expr, x_ret, x_retN, x_skip, x_rel, x_app, x_setI, x_sIf, x_for, x_brk, x_cnt, b_lenT, b_lenL, b_tupL, b_tupT, b_max2, b_min2, o_addL, o_addT, cut_ints, sum_ints, s_chk, s_for, s_brk, s_cnt, s_retN, t_bool, g_rng, g_le, List.length_map, c, show w < m by omega, if_true, Bool.false_and, Bool.not_false]
  have e : ((seenD ns ws).filter fun d => !agB os ns m d).map (fun _ => PyData.int 1) = (ws.filter fun w => !(decide (m ≤ w) && decide (starts os w = starts ns w))).map fun _ => PyData.int 1 := by
    unfold seenD
    rw [List.filter_map, List.map_map]
    rfl
  rw [e]
  try simp only [x_var, x_con, x_bin, x_neg, x_cmp, x_chain, x_tTru, x_tNot, x_tAnd, x_tOr, x_tBool, x_tYes, x_not, x_and, x_or, x_if, x_b1, x_b2, x_is, x_idx, x_oNone, x_oSome, x_cut, x_aNil, x_aCons, x_tup, x_lst, x_call, x_callS,
    x_iSeq, x_iRng1, x_iRng2, x_bor, x_tBor, x_put1, List.map_cons, List.map_nil, List.cons_append, List.nil_append, List.length_cons, List.length_nil, Nat.zero_add, Nat.reduceAdd, Nat.reduceSub, List.reduceReplicate, start,
    List.getElem?_cons_zero, List.getElem?_cons_succ, List.set_cons_zero, List.set_cons_succ, bnd_ret, bnd_assoc, bnd_grd, b1_if, bnd_ite, small, Nat.reduceLeDiff, grd_true, o_add, o_sub, o_neg, o_eq, o_ne, o_lt, o_le, o_gt, o_ge, o_eqS, o_neS,
    decide_eq_true_eq, reduceIte, decide_true, decide_false, Bool.not_true, Bool.not_false, Bool.false_eq_true, itemsOf, asInt, endOf, isTy,
    grd_tt, nx_int, nx_bool, nx_str, nx_none, nx_tup, nx_lst, x_isC, x_fld, x_in, x_count, x_lstR, x_tupR, x_raise, x_star, bnd_thr, noX_ret, fld_x, exn_d, eSetO, Out.clear, List.zip_cons_cons, List.zip_nil_left, List.zip_nil_right, s_asg, s_par, s_own, s_parO, s_put, s_expr, s_ret, s_skip, s_seq, s_rel, x_asg, x_par, x_own, x_parO, x_put, x_expr, x_ret, x_retN, x_skip, x_rel, x_app, x_setI, x_sIf, x_for, x_brk, x_cnt, b_lenT, b_lenL, b_tupL, b_tupT, b_max2, b_min2, o_addL, o_addT, cut_ints, sum_ints, s_chk, s_for, s_brk, s_cnt, s_retN, t_bool, g_rng, g_le, List.length_map, o_eqNil0, filt_empty, Bool.not_not]
  rfl
end DL
end
section
namespace DL
open PySem
section
variable {as bs : List Int} {w : Int}
theorem Brk.last {ns : List Int} {l : List Nat} (h : Brk ns w l) {k a : Nat} (h1 : l[k]? = some a) (h2 : k + 1 = l.length) : a < ns.length ∧ ext ns a (ns.length - 1) ≤ w := by
  have := h.fits (end_last h1 h2)
  exact ⟨this.1, this.2.2⟩
theorem Brk.mid {ns : List Int} {l : List Nat} (h : Brk ns w l) {k a b : Nat} (h1 : l[k]? = some a) (h2 : l[k + 1]? = some b) : a < b ∧ b < ns.length ∧ ext ns a (b - 1) ≤ w := by
  have := h.fits (end_at h1 h2)
  exact ⟨this.1, h.lt b (List.mem_of_getElem? h2), this.2.2⟩
theorem nx_uniq {ns : List Int} (hp : ∀ x ∈ ns, 1 ≤ x) {a b : Nat} (h : a < b) (hb : b ≤ ns.length) (h1 : b = a + 1 ∨ ext ns a (b - 1) ≤ w) (h2 : b < ns.length → w < ext ns a b) : nx ns w a = b := by
  obtain ⟨n1, n2, n3, n4⟩ := nx_spec (w := w) (show a < ns.length by omega)
  by_cases c : nx ns w a < b
  · have e1 := n4 (by omega)
    have e2 := ext_mono_r hp (i := a) (j := nx ns w a) (by omega) (b - 1) (by omega) (by omega)
    rcases h1 with h1 | h1
    · omega
    · omega
  · by_cases c2 : b < nx ns w a
    · have := n3 b h c2
      have := h2 (by omega)
      omega
    · omega
end
end DL
end
section
namespace DL
open PySem
def bndD (b : Bnd) : D := .tuple [.int (b.1 : Int), .int (b.2.1 : Int), .int b.2.2]
def optD : Option Bnd → D
  | none => .none
  | some b => bndD b
def lastD : Option Nat → D
  | none => .none
  | some v => .int (v : Int)
def colsD (n : Nat) (x : Cols) : List D := (List.range n).map fun k => PyData.int (x k)
def givD (n : Nat) (g : Nat → Option Bnd) : List D := (List.range n).map fun k => optD (g k)
theorem range_set {α β : Type} {n v : Nat} {f : Nat → α} {h : α → β} {y : α} (hv : v < n) : ((List.range n).map fun k => h (f k)).set v (h y) = (List.range n).map fun k => h (updF f v y k) := by
  refine List.ext_getElem? fun i => ?_
  rw [List.getElem?_set, List.getElem?_map, List.getElem?_map, List.length_map, List.length_range]
  by_cases e : v = i
  · subst e
    rw [if_pos rfl, if_pos hv, List.getElem?_range hv]
    show some (h y) = some (h (updF f v y v))
    rw [updF_same]
  · rw [if_neg e]
    by_cases hi : i < n
    · rw [List.getElem?_range hi]
      show some (h (f i)) = some (h (updF f v y i))
      rw [updF_ne (fun z => e z.symm)]
    · rw [List.getElem?_eq_none (by rw [List.length_range]; omega)]
      rfl
theorem colsD_len (n : Nat) (x : Cols) : (colsD n x).length = n := by unfold colsD; rw [List.length_map, List.length_range]
theorem givD_len (n : Nat) (g : Nat → Option Bnd) : (givD n g).length = n := by unfold givD; rw [List.length_map, List.length_range]
theorem cols_at {n u : Nat} {x : Cols} (h : u < n) : opIdx (.list (colsD n x)) (.int (u : Int)) = ret (.int (x u)) := by
  rw [idx_list (by omega) (by rw [colsD_len]; omega)]
  unfold colsD
  simp
def rlxBody : XS := sSeq (sPut (.tp [5, 6, 7]) (eVar 4))
    (sIf (tBor 1 (tBool (eCmp .lt (eBin .add (eIdx (eVar 1) (eVar 5)) (eVar 7)) (eIdx (eVar 1) (eVar 6))))) (sSeq (sSet 1 (eVar 6) (eBor 1 (eBin .add (eIdx (eVar 1) (eVar 5)) (eVar 7))))
    (sSeq (sSet 2 (eVar 6) (eVar 4))
    (sAsg 3 (eVar 6)))) (sSkip))
theorem rlx_step {n : Nat} {B : Ent} {s : RS} {b : Bnd} {e5 e6 e7 : Ent} (h : b.1 < n ∧ b.2.1 < n) :
    rlxBody [B, .own (colsD n s.x), .own (givD n s.g), .val (lastD s.chg), .val (bndD b), e5, e6, e7] = ret (.nx [B, .own (colsD n (relS s b).x), .own (givD n (relS s b).g), .val (lastD (relS s b).chg), .val (bndD b), .val (.int (b.1 : Int)), .val (.int (b.2.1 : Int)), .val (.int b.2.2)]) := by
  unfold rlxBody
  have pt : ∀ E : Env, (Tg.tp [5, 6, 7]).put (bndD b) E = some (((E.set 5 (.val (.int (b.1 : Int)))).set 6 (.val (.int (b.2.1 : Int)))).set 7 (.val (.int b.2.2))) := fun _ => rfl
  have i1 := cols_at (x := s.x) h.1
  have i2 := cols_at (x := s.x) h.2
  have ff : ∀ i : Int, flat (PyData.int i) = true := fun _ => rfl
  have x1 : L2.ixN (colsD n s.x).length (b.2.1 : Int) = some b.2.1 := by rw [ixN_ok (by omega) (by rw [colsD_len]; omega)]; rfl
  have x2 : L2.ixN (givD n s.g).length (b.2.1 : Int) = some b.2.1 := by rw [ixN_ok (by omega) (by rw [givD_len]; omega)]; rfl
  have s1 : ∀ y : Int, (colsD n s.x).set b.2.1 (.int y) = colsD n (updF s.x b.2.1 y) := fun y => range_set (h := PyData.int) h.2
  have s2 : (givD n s.g).set b.2.1 (bndD b) = givD n (updF s.g b.2.1 (some b)) := range_set (h := optD) (y := some b) h.2
  unfold relS
  by_cases c : s.x b.1 + b.2.2 < s.x b.2.1
  · try simp only [x_var, x_con, x_bin, x_neg, x_cmp, x_chain, x_tTru, x_tNot, x_tAnd, x_tOr, x_tBool, x_tYes, x_not, x_and, x_or, x_if, x_b1, x_b2, x_is, x_idx, x_oNone, x_oSome, x_cut, x_aNil, x_aCons, x_tup, x_lst, x_call, x_callS,
    x_iSeq, x_iRng1, x_iRng2, x_bor, x_tBor, x_put1, List.map_cons, List.map_nil, List.cons_append, List.nil_append, List.length_cons, List.length_nil, Nat.zero_add, Nat.reduceAdd, Nat.reduceSub, List.reduceReplicate, start,
    List.getElem?_cons_zero, List.getElem?_cons_succ, List.set_cons_zero, List.set_cons_succ, bnd_ret, bnd_assoc, bnd_grd, b1_if, bnd_ite, small, Nat.reduceLeDiff, grd_true, o_add, o_sub, o_neg, o_eq, o_ne, o_lt, o_le, o_gt, o_ge, o_eqS, o_neS,
    decide_eq_true_eq, reduceIte, decide_true, decide_false, Bool.not_true, Bool.not_false, Bool.false_eq_true, itemsOf, asInt, endOf, isTy,
    grd_tt, nx_int, nx_bool, nx_str, nx_none, nx_tup, nx_lst, x_isC, x_fld, x_in, x_count, x_lstR, x_tupR, x_raise, x_star, bnd_thr, noX_ret, fld_x, exn_d, eSetO, Out.clear, List.zip_cons_cons, List.zip_nil_left, List.zip_nil_right, s_asg, s_par, s_own, s_parO, s_put, s_expr, s_ret, s_skip, s_seq, s_rel, x_asg, x_par, x_own, x_parO, x_put, x_expr, x_ret, x_retN, x_skip, x_rel, x_app, x_setI, x_sIf, x_for, x_brk, x_cnt, b_lenT, b_lenL, b_tupL, b_tupT, b_max2, b_min2, o_addL, o_addT, cut_ints, sum_ints, s_chk, s_for, s_brk, s_cnt, s_retN, t_bool, g_rng, g_le, List.length_map, pt, i1, i2, c]
    rw [x_seq, x_setI]
    try simp only [x_var, x_con, x_bin, x_neg, x_cmp, x_chain, x_tTru, x_tNot, x_tAnd, x_tOr, x_tBool, x_tYes, x_not, x_and, x_or, x_if, x_b1, x_b2, x_is, x_idx, x_oNone, x_oSome, x_cut, x_aNil, x_aCons, x_tup, x_lst, x_call, x_callS,
    x_iSeq, x_iRng1, x_iRng2, x_bor, x_tBor, x_put1, List.map_cons, List.map_nil, List.cons_append, List.nil_append, List.length_cons, List.length_nil, Nat.zero_add, Nat.reduceAdd, Nat.reduceSub, List.reduceReplicate, start,
    List.getElem?_cons_zero, List.getElem?_cons_succ, List.set_cons_zero, List.set_cons_succ, bnd_ret, bnd_assoc, bnd_grd, b1_if, bnd_ite, small, Nat.reduceLeDiff, grd_true, o_add, o_sub, o_neg, o_eq, o_ne, o_lt, o_le, o_gt, o_ge, o_eqS, o_neS,
    decide_eq_true_eq, reduceIte, decide_true, decide_false, Bool.not_true, Bool.not_false, Bool.false_eq_true, itemsOf, asInt, endOf, isTy,
    grd_tt, nx_int, nx_bool, nx_str, nx_none, nx_tup, nx_lst, x_isC, x_fld, x_in, x_count, x_lstR, x_tupR, x_raise, x_star, bnd_thr, noX_ret, fld_x, exn_d, eSetO, Out.clear, List.zip_cons_cons, List.zip_nil_left, List.zip_nil_right, s_asg, s_par, s_own, s_parO, s_put, s_expr, s_ret, s_skip, s_seq, s_rel, x_asg, x_par, x_own, x_parO, x_put, x_expr, x_ret, x_retN, x_skip, x_rel, x_app, x_setI, x_sIf, x_for, x_brk, x_cnt, b_lenT, b_lenL, b_tupL, b_tupT, b_max2, b_min2, o_addL, o_addT, cut_ints, sum_ints, s_chk, s_for, s_brk, s_cnt, s_retN, t_bool, g_rng, g_le, List.length_map, i1, ff, x1, s1]
    rw [x_seq, x_setI]
    try simp only [x_var, x_con, x_bin, x_neg, x_cmp, x_chain, x_tTru, x_tNot, x_tAnd, x_tOr, x_tBool, x_tYes, x_not, x_and, x_or, x_if, x_b1, x_b2, x_is, x_idx, x_oNone, x_oSome, x_cut, x_aNil, x_aCons, x_tup, x_lst, x_call, x_callS,
    x_iSeq, x_iRng1, x_iRng2, x_bor, x_tBor, x_put1, List.map_cons, List.map_nil, List.cons_append, List.nil_append, List.length_cons, List.length_nil, Nat.zero_add, Nat.reduceAdd, Nat.reduceSub, List.reduceReplicate, start,
    List.getElem?_cons_zero, List.getElem?_cons_succ, List.set_cons_zero, List.set_cons_succ, bnd_ret, bnd_assoc, bnd_grd, b1_if, bnd_ite, small, Nat.reduceLeDiff, grd_true, o_add, o_sub, o_neg, o_eq, o_ne, o_lt, o_le, o_gt, o_ge, o_eqS, o_neS,
    decide_eq_true_eq, reduceIte, decide_true, decide_false, Bool.not_true, Bool.not_false, Bool.false_eq_true, itemsOf, asInt, endOf, isTy,
    grd_tt, nx_int, nx_bool, nx_str, nx_none, nx_tup, nx_lst, x_isC, x_fld, x_in, x_count, x_lstR, x_tupR, x_raise, x_star, bnd_thr, noX_ret, fld_x, exn_d, eSetO, Out.clear, List.zip_cons_cons, List.zip_nil_left, List.zip_nil_right, s_asg, s_par, s_own, s_parO, s_put, s_expr, s_ret, s_skip, s_seq, s_rel, x_asg, x_par, x_own, x_parO, x_put, x_expr, x_ret, x_retN, x_skip, x_rel, x_app, x_setI, x_sIf, x_for, x_brk, x_cnt, b_lenT, b_lenL, b_tupL, b_tupT, b_max2, b_min2, o_addL, o_addT, cut_ints, sum_ints, s_chk, s_for, s_brk, s_cnt, s_retN, t_bool, g_rng, g_le, List.length_map, x2, s2]
    rfl
  · try simp only [x_var, x_con, x_bin, x_neg, x_cmp, x_chain, x_tTru, x_tNot, x_tAnd, x_tOr, x_tBool, x_tYes, x_not, x_and, x_or, x_if, x_b1, x_b2, x_is, x_idx, x_oNone, x_oSome, x_cut, x_aNil, x_aCons, x_tup, x_lst, x_call, x_callS,
    x_iSeq, x_iRng1, x_iRng2, x_bor, x_tBor, x_put1, List.map_cons, List.map_nil, List.cons_append, List.nil_append, List.length_cons, List.length_nil, Nat.zero_add, Nat.reduceAdd, Nat.reduceSub, List.reduceReplicate, start,
    List.getElem?_cons_zero, List.getElem?_cons_succ, List.set_cons_zero, List.set_cons_succ, bnd_ret, bnd_assoc, bnd_grd, b1_if, bnd_ite, small, Nat.reduceLeDiff, grd_true, o_add, o_sub, o_neg, o_eq, o_ne, o_lt, o_le, o_gt, o_ge, o_eqS, o_neS,
    decide_eq_true_eq, reduceIte, decide_true, decide_false, Bool.not_true, Bool.not_false, Bool.false_eq_true, itemsOf, asInt, endOf, isTy,
    grd_tt, nx_int, nx_bool, nx_str, nx_none, nx_tup, nx_lst, x_isC, x_fld, x_in, x_count, x_lstR, x_tupR, x_raise, x_star, bnd_thr, noX_ret, fld_x, exn_d, eSetO, Out.clear, List.zip_cons_cons, List.zip_nil_left, List.zip_nil_right, s_asg, s_par, s_own, s_parO, s_put, s_expr, s_ret, s_skip, s_seq, s_rel, x_asg, x_par, x_own, x_parO, x_put, x_expr, x_ret, x_retN, x_skip, x_rel, x_app, x_setI, x_sIf, x_for, x_brk, x_cnt, b_lenT, b_lenL, b_tupL, b_tupT, b_max2, b_min2, o_addL, o_addT, cut_ints, sum_ints, s_chk, s_for, s_brk, s_cnt, s_retN, t_bool, g_rng, g_le, List.length_map, pt, i1, i2, c]
theorem rlx_loop {n : Nat} {B : Ent} : ∀ (bs : List Bnd) (s : RS) (e4 e5 e6 e7 : Ent), In n bs → ∃ e4' e5' e6' e7', forL (.nm 4) rlxBody (bs.map bndD) [B, .own (colsD n s.x), .own (givD n s.g), .val (lastD s.chg), e4, e5, e6, e7] = ret (.nx [B, .own (colsD n (relR bs s).x), .own (givD n (relR bs s).g), .val (lastD (relR bs s).chg), e4', e5', e6', e7'])
  | [], s, e4, e5, e6, e7, _ => ⟨_, _, _, _, rfl⟩
  | b :: bs, s, e4, e5, e6, e7, hi => by
    obtain ⟨a4, a5, a6, a7, ih⟩ := rlx_loop (B := B) bs (relS s b) (.val (bndD b)) (.val (.int (b.1 : Int))) (.val (.int (b.2.1 : Int))) (.val (.int b.2.2)) (fun b hb => hi b (.tail _ hb))
    refine ⟨a4, a5, a6, a7, ?_⟩
    rw [List.map_cons, x_forc]
    show DL.bnd (rlxBody [B, .own (colsD n s.x), .own (givD n s.g), .val (lastD s.chg), .val (bndD b), e5, e6, e7]) _ = _
    rw [rlx_step (hi b (.head _)), bnd_ret]
    exact ih
theorem relax_0 {n : Nat} {bs : List Bnd} {s : RS} (hi : In n bs) : w_relax_0 (.list (bs.map bndD)) (colsD n s.x) (givD n s.g) = ret (lastD (rnd bs s).chg, colsD n (rnd bs s).x, givD n (rnd bs s).g) := by
  have e : w_relax_0 = mutF 8 3 (sSeq (sAsg 3 (eCon .none)) (sFor (iSeq (eVar 0)) (.nm 4) rlxBody)) := rfl
  rw [e]
  unfold mutF
  obtain ⟨a4, a5, a6, a7, lp⟩ := rlx_loop (n := n) (B := .val (.list (bs.map bndD))) bs { s with chg := none } .unk .unk .unk .unk hi
  have lp' : forL (.nm 4) rlxBody (bs.map bndD) [.val (.list (bs.map bndD)), .own (colsD n s.x), .own (givD n s.g), .val .none, .unk, .unk, .unk, .unk] = _ := lp
  show DL.bnd (sSeq (sAsg 3 (eCon .none)) (sFor (iSeq (eVar 0)) (.nm 4) rlxBody) [.val (.list (bs.map bndD)), .own (colsD n s.x), .own (givD n s.g), .unk, .unk, .unk, .unk, .unk]) (mutEnd 3) = _
  rw [s_asg, x_con, bnd_ret, x_for]
  simp only [x_var, x_con, x_bin, x_neg, x_cmp, x_chain, x_tTru, x_tNot, x_tAnd, x_tOr, x_tBool, x_tYes, x_not, x_and, x_or, x_if, x_b1, x_b2, x_is, x_idx, x_oNone, x_oSome, x_cut, x_aNil, x_aCons, x_tup, x_lst, x_call, x_callS,
    x_iSeq, x_iRng1, x_iRng2, x_bor, x_tBor, x_put1, List.map_cons, List.map_nil, List.cons_append, List.nil_append, List.length_cons, List.length_nil, Nat.zero_add, Nat.reduceAdd, Nat.reduceSub, List.reduceReplicate, start,
    List.getElem?_cons_zero, List.getElem?_cons_succ, List.set_cons_zero, List.set_cons_succ, bnd_ret, bnd_assoc, bnd_grd, b1_if, bnd_ite, small, Nat.reduceLeDiff, grd_true, o_add, o_sub, o_neg, o_eq, o_ne, o_lt, o_le, o_gt, o_ge, o_eqS, o_neS,
    decide_eq_true_eq, reduceIte, decide_true, decide_false, Bool.not_true, Bool.not_false, Bool.false_eq_true, itemsOf, asInt, bi2, endOf, isTy,
    grd_tt, nx_int, nx_bool, nx_str, nx_none, nx_tup, nx_lst, x_isC, x_fld, x_in, x_count, x_lstR, x_tupR, x_raise, x_star, bnd_thr, noX_ret, fld_x, exn_d, eSetO, Out.clear, List.zip_cons_cons, List.zip_nil_left, List.zip_nil_right, lp']
  rfl
end DL
end
section
namespace DL
open PySem
def isI (i : Int) : D → Bool
  | .int v => decide (v = i)
  | _ => false
end DL
end
section
namespace DL
open PySem
end DL
end
section
namespace DL
open PySem
section
variable {w : Int}
variable {ns : List Int}
theorem alone_line (hp : ∀ x ∈ ns, 1 ≤ x) (hw : ∀ x ∈ ns, x ≤ w) (h1 : 0 < ns.length) : many ns w = 1 ↔ ext ns 0 (ns.length - 1) ≤ w := by
  have e1 : gr ns w 1 = nx ns w 0 := gr_step (k := 0) h1
  have m1 := many_pos (ns := ns) (w := w)
  obtain ⟨n1, n2, n3, n4⟩ := nx_spec (w := w) h1
  constructor
  · intro h
    have := gr_end (w := w) h1
    rw [h, e1] at this
    by_cases c : ns.length = 1
    · have := ext_one h1
      rw [show ns.length - 1 = 0 by omega, this]
      exact hw _ (List.getElem_mem h1)
    · exact n3 _ (by omega) (by omega)
  · intro h
    have := nx_uniq (w := w) hp h1 (Nat.le_refl _) (.inr h) (fun z => absurd z (Nat.lt_irrefl _))
    have g := gr_in_iff (w := w) h1 (k := 1)
    omega
end
end DL
end
section
namespace DL
open PySem
/-- the first starts of a breaking -/
structure Pre (ns : List Int) (w : Int) (l : List Nat) : Prop where
  ne : l ≠ []
  zero : l[0]? = some 0
  lt : ∀ a ∈ l, a < ns.length
  len : ∀ (k a : Nat), l[k]? = some a → k ≤ a
  fit : ∀ (k a b : Nat), l[k]? = some a → l[k + 1]? = some b → a < b ∧ ext ns a (b - 1) ≤ w
section
variable {ns : List Int} {w : Int}
theorem Pre.push {l : List Nat} {a e : Nat} (h : Pre ns w (l ++ [a])) (h1 : a < e) (h2 : e < ns.length) (h3 : ext ns a (e - 1) ≤ w) : Pre ns w (l ++ [a] ++ [e]) := by
  have ha : (l ++ [a])[l.length]? = some a := by simp
  have hl := h.len _ _ ha
  refine ⟨by simp, ?_, ?_, ?_, ?_⟩
  · rw [List.getElem?_append_left (by simp)]; exact h.zero
  · intro x hx
    rcases List.mem_append.mp hx with z | z
    · exact h.lt x z
    · rw [List.mem_singleton] at z; omega
  · intro k x hx
    by_cases c : k < (l ++ [a]).length
    · rw [List.getElem?_append_left c] at hx; exact h.len _ _ hx
    · have hk := (List.getElem?_eq_some_iff.mp hx).1
      rw [List.length_append, List.length_singleton] at hk
      have : k = (l ++ [a]).length := by omega
      subst this
      simp at hx
      simp
      omega
  · intro k x y hx hy
    by_cases c : k + 1 < (l ++ [a]).length
    · rw [List.getElem?_append_left (by omega)] at hx
      rw [List.getElem?_append_left c] at hy
      exact h.fit _ _ _ hx hy
    · have hk := (List.getElem?_eq_some_iff.mp hy).1
      rw [List.length_append, List.length_singleton] at hk
      have e1 : k + 1 = (l ++ [a]).length := by omega
      rw [List.getElem?_append_left (by omega)] at hx
      have e2 : k = l.length := by rw [List.length_append, List.length_singleton] at e1; omega
      subst e2
      rw [ha] at hx
      rw [e1] at hy
      simp at hy
      cases hx
      subst hy
      exact ⟨h1, h3⟩
theorem Pre.brk {l : List Nat} {a : Nat} (h : Pre ns w (l ++ [a])) (h3 : ext ns a (ns.length - 1) ≤ w) : Brk ns w (l ++ [a]) := by
  have ha : (l ++ [a])[l.length]? = some a := by simp
  refine .of h.zero h.lt fun k x y hx hy => ?_
  rcases hy with hy | ⟨hy, rfl⟩
  · exact h.fit _ _ _ hx hy
  · rw [List.length_append, List.length_singleton] at hy
    have : k = l.length := by omega
    subst this
    rw [ha] at hx
    cases hx
    exact ⟨h.lt a (by simp), h3⟩
end
end DL
end
section
namespace DL
open PySem
section
variable {ns : List Int} {w : Int}
theorem Brk.wide {v : Int} {l : List Nat} (h : Brk ns w l) (hv : w ≤ v) : Brk ns v l := by
  refine .of h.zero h.lt fun k a b h1 h2 => ?_
  rcases h2 with h2 | ⟨h2, rfl⟩
  · have := h.mid h1 h2
    exact ⟨this.1, by omega⟩
  · have := h.last h1 h2
    exact ⟨this.1, by omega⟩
theorem Brk.ixs {l : List Nat} (h : Brk ns w l) : ∀ (k a : Nat), l[k]? = some a → k ≤ a
  | 0, _, _ => Nat.zero_le _
  | k + 1, b, hb => by
    have hk := (List.getElem?_eq_some_iff.mp hb).1
    have ha := List.getElem?_eq_getElem (l := l) (show k < l.length by omega)
    have := h.ixs k _ ha
    have := h.mid ha hb
    omega
theorem Brk.few {l : List Nat} (h : Brk ns w l) : l.length ≤ ns.length := by
  have l0 := h.len
  have ha := List.getElem?_eq_getElem (l := l) (show l.length - 1 < l.length by omega)
  have := h.ixs _ _ ha
  have := h.lt _ (List.mem_of_getElem? ha)
  omega
end
end DL
end
section
namespace DL
open PySem
theorem many_mono {ns : List Int} {v w : Int} (hp : ∀ x ∈ ns, 1 ≤ x) (h1 : 0 < ns.length) (hv : ∀ x ∈ ns, x ≤ v) (h : v ≤ w) : many ns w ≤ many ns v := ((brk_starts h1 hv).wide h).many hp h1
end DL
end
section
namespace DL
open PySem
section
variable {ns : List Int} {m : Int} {c k : Nat}
theorem Least.iff (h : Least ns m c k) (hp : ∀ x ∈ ns, 1 ≤ x) (h1 : 0 < ns.length) (hm : ∀ x ∈ ns, x ≤ m) {v : Int} (hv : m ≤ v) : many ns v ≤ c ↔ m + k ≤ v := by
  constructor
  · intro hc
    by_cases g : m + (k : Int) ≤ v
    · exact g
    · have := h.first (v - m).toNat (by omega)
      rw [show m + ((v - m).toNat : Int) = v by omega] at this
      unfold many at hc
      omega
  · intro g
    have a := many_mono (v := m + k) hp h1 (fun x hx => by have := hm x hx; omega) g
    have b := h.fits
    unfold many at *
    omega
theorem Least.zero (h : Least ns m c k) (hp : ∀ x ∈ ns, 1 ≤ x) (h1 : 0 < ns.length) (hm : ∀ x ∈ ns, x ≤ m) (hc : ns.length ≤ c) : k = 0 := by
  have := (brk_starts (w := m) h1 hm).few
  have := (h.iff hp h1 hm (v := m) (Int.le_refl _)).mp (by unfold many; omega)
  omega
theorem Least.one (h : Least ns m 1 k) (hp : ∀ x ∈ ns, 1 ≤ x) (h1 : 0 < ns.length) (hm : ∀ x ∈ ns, x ≤ m) (hin : m ∈ ns) : m + k = ext ns 0 (ns.length - 1) := by
  have al : ∀ v, m ≤ v → (many ns v ≤ 1 ↔ ext ns 0 (ns.length - 1) ≤ v) := fun v hv => by
    rw [← alone_line hp (fun x hx => Int.le_trans (hm x hx) hv) h1]
    have := many_pos (ns := ns) (w := v)
    omega
  have a := (al (m + k) (by omega)).mp ((h.iff hp h1 hm (by omega)).mpr (Int.le_refl _))
  obtain ⟨i, hi, e⟩ := List.getElem_of_mem hin
  have e1 := ext_one hi
  have e2 := ext_mono_r hp (i := i) (j := i) (Nat.le_refl _) (ns.length - 1) (by omega) (by omega)
  have e3 := ext_mono_l hp (j := ns.length - 1) (by omega) i 0 (by omega)
  rw [Nat.zero_add] at e3
  have b := (h.iff hp h1 hm (v := ext ns 0 (ns.length - 1)) (by omega)).mp ((al _ (by omega)).mpr (Int.le_refl _))
  omega
theorem Bar.take {w : Int} {l : List Nat} (h : Bar ns w l) {j : Nat} (hj : 1 ≤ j) : Bar ns w (l.take j) := by
  refine .of (fun z => ?_) (fun a ha => h.lt a (List.mem_of_mem_take ha)) fun i a b ha hb => ?_
  · have := congrArg List.length z
    rw [List.length_take, List.length_nil] at this
    have := List.length_pos_iff.mpr h.ne
    omega
  · rw [List.getElem?_take] at ha hb
    split at ha
    · split at hb
      · have := h.step ha hb
        exact ⟨this.1, this.2.2⟩
      · cases hb
    · cases ha
end
end DL
end
section
namespace DL
open PySem
def iv : D → Int
  | .int i => i
  | _ => 0
end DL
end
section
namespace DL
open PySem
theorem x_sExt (i : Nat) (e : XE) (E : Env) : sExt i e E = match E[i]? with
  | some (.own ds) => bnd (e E) fun d => match d with
    | .list zs => grd (small (ds.length + zs.length)) (ret (.nx (E.set i (.own (ds ++ zs)))))
    | _ => stuck
  | _ => stuck := id rfl
theorem rng0 (L : Nat) : rng 0 (L : Int) = natsD (List.range L) := by
  unfold rng natsD
  rw [show ((L : Int) - 0).toNat = L by omega]
  exact List.map_congr_left fun i _ => by rw [Int.zero_add]
def fb1 (p : Nat) : List Bnd := [(p, p + 1, 61), (p + 1, p, -2)]
def fb2 (w : Int) (p : Nat) : Bnd := (p, p + 1, w + 1)
def fb3 (L : Nat) (w : Int) (e : Nat × Nat) : List Bnd := (e.1, e.2, w + 1) :: if e.2 < L then [(e.2 + 1, e.1, -2 - w)] else []
def fbQ (L : Nat) (q : Int × List Nat) : List Bnd := (List.range L).map (fb2 q.1) ++ (endN L q.2).flatMap (fb3 L q.1)
def bndsOf (L : Nat) (qs : List (Int × List Nat)) : List Bnd := (List.range L).flatMap fb1 ++ qs.flatMap (fbQ L)
def bo1 : XS := sExt 2 (eLst (aCons (eTup (aCons (eVar 3) (aCons (eBin .add (eVar 3) (eCon (.int 1))) (aCons (eBin .add (eCon (.int (60))) (eCon (.int 1))) (aNil))))) (aCons (eTup (aCons (eBin .add (eVar 3) (eCon (.int 1))) (aCons (eVar 3) (aCons (eNeg (eCon (.int 2))) (aNil))))) (aNil))))
def bo3 : XS := sSeq (sApp 2 (eTup (aCons (eVar 6) (aCons (eVar 7) (aCons (eBin .add (eVar 4) (eCon (.int 1))) (aNil))))))
    (sIf (tBool (eCmp .lt (eVar 7) (eVar 0))) (sApp 2 (eTup (aCons (eBin .add (eVar 7) (eCon (.int 1))) (aCons (eVar 6) (aCons (eBin .sub (eNeg (eCon (.int 2))) (eVar 4)) (aNil)))))) (sSkip))
def bo2 : XS := sSeq (sExt 2 (eComp (iRng1 (eVar 0)) (.nm 3) (tYes) (eTup (aCons (eVar 3) (aCons (eBin .add (eVar 3) (eCon (.int 1))) (aCons (eBin .add (eVar 4) (eCon (.int 1))) (aNil))))) [3]))
    (sFor (iTwos (eVar 5) (eTup (aStar (eCut (eVar 5) (oSome (eCon (.int 1))) (oNone)) (aCons (eVar 0) (aNil))))) (.tp [6, 7]) bo3)
theorem b_mapLen (l : List Bnd) : (l.map bndD).length = l.length := List.length_map _
theorem bo1_loop {L Q e4 e5 e6 e7 : Ent} : ∀ (ps : List Nat) (acc : List Bnd) (e3 : Ent), acc.length + 2 * ps.length ≤ 900000 → ∃ e3', forL (.nm 3) bo1 (natsD ps) [L, Q, .own (acc.map bndD), e3, e4, e5, e6, e7] = ret (.nx [L, Q, .own ((acc ++ ps.flatMap fb1).map bndD), e3', e4, e5, e6, e7])
  | [], acc, e3, _ => ⟨e3, by rw [List.flatMap_nil, List.append_nil]; rfl⟩
  | p :: ps, acc, e3, h => by
    simp only [List.length_cons] at h
    obtain ⟨e3', ih⟩ := bo1_loop (L := L) (Q := Q) (e4 := e4) (e5 := e5) (e6 := e6) (e7 := e7) ps (acc ++ fb1 p) (.val (.int (p : Int))) (by rw [List.length_append]; show acc.length + 2 + 2 * ps.length ≤ _; omega)
    refine ⟨e3', ?_⟩
    rw [show natsD (p :: ps) = .int (p : Int) :: natsD ps from rfl, x_forc]
    show DL.bnd (bo1 [L, Q, .own (acc.map bndD), .val (.int (p : Int)), e4, e5, e6, e7]) _ = _
    have st : bo1 [L, Q, .own (acc.map bndD), .val (.int (p : Int)), e4, e5, e6, e7] = ret (.nx [L, Q, .own ((acc ++ fb1 p).map bndD), .val (.int (p : Int)), e4, e5, e6, e7]) := by
      unfold bo1
      rw [x_sExt]
      simp only [x_var, x_con, x_bin, x_neg, x_cmp, x_chain, x_tTru, x_tNot, x_tAnd, x_tOr, x_tBool, x_tYes, x_not, x_and, x_or, x_if, x_b1, x_b2, x_is, x_idx, x_oNone, x_oSome, x_cut, x_aNil, x_aCons, x_tup, x_lst, x_call, x_callS,
    x_iSeq, x_iRng1, x_iRng2, x_bor, x_tBor, x_put1, List.map_cons, List.map_nil, List.cons_append, List.nil_append, List.length_cons, List.length_nil, Nat.zero_add, Nat.reduceAdd, Nat.reduceSub, List.reduceReplicate, start,
    List.getElem?_cons_zero, List.getElem?_cons_succ, List.set_cons_zero, List.set_cons_succ, bnd_ret, bnd_assoc, bnd_grd, b1_if, bnd_ite, small, Nat.reduceLeDiff, grd_true, o_add, o_sub, o_neg, o_eq, o_ne, o_lt, o_le, o_gt, o_ge, o_eqS, o_neS,
    decide_eq_true_eq, reduceIte, decide_true, decide_false, Bool.not_true, Bool.not_false, Bool.false_eq_true, itemsOf, asInt, bi2, endOf, isTy,
    grd_tt, nx_int, nx_bool, nx_str, nx_none, nx_tup, nx_lst, x_isC, x_fld, x_in, x_count, x_lstR, x_tupR, x_raise, x_star, bnd_thr, noX_ret, fld_x, exn_d, eSetO, Out.clear, List.zip_cons_cons, List.zip_nil_left, List.zip_nil_right, b_mapLen]
      rw [grd_pos (by omega)]
      rw [List.map_append]
      rfl
    rw [st, bnd_ret, List.flatMap_cons, ← List.append_assoc]
    exact ih
theorem bo3_loop {L : Nat} {w : Int} {Q e3 e5 : Ent} : ∀ (es : List (Nat × Nat)) (acc : List Bnd) (e6 e7 : Ent), acc.length + 2 * es.length ≤ 900000 → ∃ e6' e7', forL (.tp [6, 7]) bo3 (es.map pD) [.val (.int (L : Int)), Q, .own (acc.map bndD), e3, .val (.int w), e5, e6, e7] = ret (.nx [.val (.int (L : Int)), Q, .own ((acc ++ es.flatMap (fb3 L w)).map bndD), e3, .val (.int w), e5, e6', e7'])
  | [], acc, e6, e7, _ => ⟨e6, e7, by rw [List.flatMap_nil, List.append_nil]; rfl⟩
  | e :: es, acc, e6, e7, h => by
    simp only [List.length_cons] at h
    have fl : (fb3 L w e).length ≤ 2 := by unfold fb3; split <;> simp
    obtain ⟨e6', e7', ih⟩ := bo3_loop (L := L) (w := w) (Q := Q) (e3 := e3) (e5 := e5) es (acc ++ fb3 L w e) (.val (.int (e.1 : Int))) (.val (.int (e.2 : Int))) (by rw [List.length_append]; omega)
    refine ⟨e6', e7', ?_⟩
    rw [List.map_cons, x_forc]
    show DL.bnd (bo3 [.val (.int (L : Int)), Q, .own (acc.map bndD), e3, .val (.int w), e5, .val (.int (e.1 : Int)), .val (.int (e.2 : Int))]) _ = _
    have st : bo3 [.val (.int (L : Int)), Q, .own (acc.map bndD), e3, .val (.int w), e5, .val (.int (e.1 : Int)), .val (.int (e.2 : Int))] = ret (.nx [.val (.int (L : Int)), Q, .own ((acc ++ fb3 L w e).map bndD), e3, .val (.int w), e5, .val (.int (e.1 : Int)), .val (.int (e.2 : Int))]) := by
      unfold bo3
      rw [s_app 2 _ _ rfl]
      simp only [x_var, x_con, x_bin, x_neg, x_cmp, x_chain, x_tTru, x_tNot, x_tAnd, x_tOr, x_tBool, x_tYes, x_not, x_and, x_or, x_if, x_b1, x_b2, x_is, x_idx, x_oNone, x_oSome, x_cut, x_aNil, x_aCons, x_tup, x_lst, x_call, x_callS,
    x_iSeq, x_iRng1, x_iRng2, x_bor, x_tBor, x_put1, List.map_cons, List.map_nil, List.cons_append, List.nil_append, List.length_cons, List.length_nil, Nat.zero_add, Nat.reduceAdd, Nat.reduceSub, List.reduceReplicate, start,
    List.getElem?_cons_zero, List.getElem?_cons_succ, List.set_cons_zero, List.set_cons_succ, bnd_ret, bnd_assoc, bnd_grd, b1_if, bnd_ite, small, Nat.reduceLeDiff, grd_true, o_add, o_sub, o_neg, o_eq, o_ne, o_lt, o_le, o_gt, o_ge, o_eqS, o_neS,
    decide_eq_true_eq, reduceIte, decide_true, decide_false, Bool.not_true, Bool.not_false, Bool.false_eq_true, itemsOf, asInt, bi2, endOf, isTy,
    grd_tt, nx_int, nx_bool, nx_str, nx_none, nx_tup, nx_lst, x_isC, x_fld, x_in, x_count, x_lstR, x_tupR, x_raise, x_star, bnd_thr, noX_ret, fld_x, exn_d, eSetO, Out.clear, List.zip_cons_cons, List.zip_nil_left, List.zip_nil_right, b_mapLen]
      rw [grd_pos (by omega), x_sIf]
      unfold fb3
      by_cases c : e.2 < L
      · have c2 : (e.2 : Int) < (L : Int) := by omega
        simp only [x_var, x_con, x_bin, x_neg, x_cmp, x_chain, x_tTru, x_tNot, x_tAnd, x_tOr, x_tBool, x_tYes, x_not, x_and, x_or, x_if, x_b1, x_b2, x_is, x_idx, x_oNone, x_oSome, x_cut, x_aNil, x_aCons, x_tup, x_lst, x_call, x_callS,
    x_iSeq, x_iRng1, x_iRng2, x_bor, x_tBor, x_put1, List.map_cons, List.map_nil, List.cons_append, List.nil_append, List.length_cons, List.length_nil, Nat.zero_add, Nat.reduceAdd, Nat.reduceSub, List.reduceReplicate, start,
    List.getElem?_cons_zero, List.getElem?_cons_succ, List.set_cons_zero, List.set_cons_succ, bnd_ret, bnd_assoc, bnd_grd, b1_if, bnd_ite, small, Nat.reduceLeDiff, grd_true, o_add, o_sub, o_neg, o_eq, o_ne, o_lt, o_le, o_gt, o_ge, o_eqS, o_neS,
    decide_eq_true_eq, reduceIte, decide_true, decide_false, Bool.not_true, Bool.not_false, Bool.false_eq_true, itemsOf, asInt, bi2, endOf, isTy,
    grd_tt, nx_int, nx_bool, nx_str, nx_none, nx_tup, nx_lst, x_isC, x_fld, x_in, x_count, x_lstR, x_tupR, x_raise, x_star, bnd_thr, noX_ret, fld_x, exn_d, eSetO, Out.clear, List.zip_cons_cons, List.zip_nil_left, List.zip_nil_right, c2, x_app, List.length_append, b_mapLen]
        rw [grd_pos (by omega), if_pos c, List.map_append]
        rw [List.append_assoc]
        rfl
      · have c2 : ¬ (e.2 : Int) < (L : Int) := by omega
        simp only [x_var, x_con, x_bin, x_neg, x_cmp, x_chain, x_tTru, x_tNot, x_tAnd, x_tOr, x_tBool, x_tYes, x_not, x_and, x_or, x_if, x_b1, x_b2, x_is, x_idx, x_oNone, x_oSome, x_cut, x_aNil, x_aCons, x_tup, x_lst, x_call, x_callS,
    x_iSeq, x_iRng1, x_iRng2, x_bor, x_tBor, x_put1, List.map_cons, List.map_nil, List.cons_append, List.nil_append, List.length_cons, List.length_nil, Nat.zero_add, Nat.reduceAdd, Nat.reduceSub, List.reduceReplicate, start,
    List.getElem?_cons_zero, List.getElem?_cons_succ, List.set_cons_zero, List.set_cons_succ, bnd_ret, bnd_assoc, bnd_grd, b1_if, bnd_ite, small, Nat.reduceLeDiff, grd_true, o_add, o_sub, o_neg, o_eq, o_ne, o_lt, o_le, o_gt, o_ge, o_eqS, o_neS,
    decide_eq_true_eq, reduceIte, decide_true, decide_false, Bool.not_true, Bool.not_false, Bool.false_eq_true, itemsOf, asInt, bi2, endOf, isTy,
    grd_tt, nx_int, nx_bool, nx_str, nx_none, nx_tup, nx_lst, x_isC, x_fld, x_in, x_count, x_lstR, x_tupR, x_raise, x_star, bnd_thr, noX_ret, fld_x, exn_d, eSetO, Out.clear, List.zip_cons_cons, List.zip_nil_left, List.zip_nil_right, c2, x_skip]
        rw [if_neg c, List.map_append]
        rfl
    rw [st, bnd_ret, List.flatMap_cons, ← List.append_assoc]
    exact ih
theorem bo2_loop {L : Nat} {Q : Ent} (hL : L ≤ 900) : ∀ (qs : List (Int × List Nat)) (acc : List Bnd) (e3 e4 e5 e6 e7 : Ent), (∀ q ∈ qs, q.2.length ≤ 1000) → acc.length + 3000 * qs.length ≤ 800000 → ∃ e3' e4' e5' e6' e7', forL (.tp [4, 5]) bo2 (qs.map entD) [.val (.int (L : Int)), Q, .own (acc.map bndD), e3, e4, e5, e6, e7] = ret (.nx [.val (.int (L : Int)), Q, .own ((acc ++ qs.flatMap (fbQ L)).map bndD), e3', e4', e5', e6', e7'])
  | [], acc, e3, e4, e5, e6, e7, _, _ => ⟨e3, e4, e5, e6, e7, by rw [List.flatMap_nil, List.append_nil]; rfl⟩
  | q :: qs, acc, e3, e4, e5, e6, e7, hq, h => by
    simp only [List.length_cons] at h
    have q1 := hq q (.head _)
    have el := end_len L q.2
    have fl : ((List.range L).map (fb2 q.1)).length = L := by rw [List.length_map, List.length_range]
    obtain ⟨e6', e7', lp⟩ := bo3_loop (L := L) (w := q.1) (Q := Q) (e3 := e3) (e5 := .val (.tuple (natsD q.2))) (endN L q.2) (acc ++ (List.range L).map (fb2 q.1)) e6 e7 (by rw [List.length_append, fl]; omega)
    have ml : ((endN L q.2).flatMap (fb3 L q.1)).length ≤ 2 * (endN L q.2).length := by
      generalize endN L q.2 = es
      induction es with
      | nil => simp
      | cons e es ih =>
        rw [List.flatMap_cons, List.length_append, List.length_cons]
        have : (fb3 L q.1 e).length ≤ 2 := by unfold fb3; split <;> simp
        omega
    obtain ⟨a3, a4, a5, a6, a7, ih⟩ := bo2_loop (Q := Q) hL qs (acc ++ fbQ L q) e3 (.val (.int q.1)) (.val (.tuple (natsD q.2))) e6' e7' (fun x hx => hq x (.tail _ hx)) (by
      unfold fbQ
      rw [List.length_append, List.length_append, fl]
      omega)
    refine ⟨a3, a4, a5, a6, a7, ?_⟩
    rw [List.map_cons, x_forc]
    show DL.bnd (bo2 [.val (.int (L : Int)), Q, .own (acc.map bndD), e3, .val (.int q.1), .val (.tuple (natsD q.2)), e6, e7]) _ = _
    have st : bo2 [.val (.int (L : Int)), Q, .own (acc.map bndD), e3, .val (.int q.1), .val (.tuple (natsD q.2)), e6, e7] = ret (.nx [.val (.int (L : Int)), Q, .own ((acc ++ fbQ L q).map bndD), e3, .val (.int q.1), .val (.tuple (natsD q.2)), e6', e7']) := by
      unfold bo2
      rw [x_seq, x_sExt]
      have cm : ∀ E : Env, E = [.val (.int (L : Int)), Q, .own (acc.map bndD), e3, .val (.int q.1), .val (.tuple (natsD q.2)), e6, e7] → eComp (iRng1 (eVar 0)) (.nm 3) tYes (eTup (aCons (eVar 3) (aCons (eBin .add (eVar 3) (eCon (.int 1))) (aCons (eBin .add (eVar 4) (eCon (.int 1))) aNil)))) [3] E = ret (.list (((List.range L).map (fb2 q.1)).map bndD)) := by
        rintro E rfl
        rw [comp_mapE (ds := rng 0 L) (f := fun d => .tuple [d, .int (iv d + 1), .int (q.1 + 1)]) (by simp (disch := omega) only [x_var, x_con, x_bin, x_neg, x_cmp, x_chain, x_tTru, x_tNot, x_tAnd, x_tOr, x_tBool, x_tYes, x_not, x_and, x_or, x_if, x_b1, x_b2, x_is, x_idx, x_oNone, x_oSome, x_cut, x_aNil, x_aCons, x_tup, x_lst, x_call, x_callS,
    x_iSeq, x_iRng1, x_iRng2, x_bor, x_tBor, x_put1, List.map_cons, List.map_nil, List.cons_append, List.nil_append, List.length_cons, List.length_nil, Nat.zero_add, Nat.reduceAdd, Nat.reduceSub, List.reduceReplicate, start,
    List.getElem?_cons_zero, List.getElem?_cons_succ, List.set_cons_zero, List.set_cons_succ, bnd_ret, bnd_assoc, bnd_grd, b1_if, bnd_ite, small, Nat.reduceLeDiff, grd_true, o_add, o_sub, o_neg, o_eq, o_ne, o_lt, o_le, o_gt, o_ge, o_eqS, o_neS,
    decide_eq_true_eq, reduceIte, decide_true, decide_false, Bool.not_true, Bool.not_false, Bool.false_eq_true, itemsOf, asInt, endOf, isTy,
    grd_tt, nx_int, nx_bool, nx_str, nx_none, nx_tup, nx_lst, x_isC, x_fld, x_in, x_count, x_lstR, x_tupR, x_raise, x_star, bnd_thr, noX_ret, fld_x, exn_d, eSetO, Out.clear, List.zip_cons_cons, List.zip_nil_left, List.zip_nil_right, s_asg, s_par, s_own, s_parO, s_put, s_expr, s_ret, s_skip, s_seq, s_rel, x_asg, x_par, x_own, x_parO, x_put, x_expr, x_ret, x_retN, x_skip, x_rel, x_app, x_setI, x_sIf, x_for, x_brk, x_cnt, b_lenT, b_lenL, b_tupL, b_tupT, b_max2, b_min2, o_addL, o_addT, cut_ints, sum_ints, s_chk, s_for, s_brk, s_cnt, s_retN, t_bool, g_rng, g_le, List.length_map]) (by rw [rng_len]; omega) fun d hd => by
          obtain ⟨r, rfl, r0, r1⟩ := rng_mem hd
          exact ⟨_, rfl, rfl, by simp only [x_var, x_con, x_bin, x_neg, x_cmp, x_chain, x_tTru, x_tNot, x_tAnd, x_tOr, x_tBool, x_tYes, x_not, x_and, x_or, x_if, x_b1, x_b2, x_is, x_idx, x_oNone, x_oSome, x_cut, x_aNil, x_aCons, x_tup, x_lst, x_call, x_callS,
    x_iSeq, x_iRng1, x_iRng2, x_bor, x_tBor, x_put1, List.map_cons, List.map_nil, List.cons_append, List.nil_append, List.length_cons, List.length_nil, Nat.zero_add, Nat.reduceAdd, Nat.reduceSub, List.reduceReplicate, start,
    List.getElem?_cons_zero, List.getElem?_cons_succ, List.set_cons_zero, List.set_cons_succ, bnd_ret, bnd_assoc, bnd_grd, b1_if, bnd_ite, small, Nat.reduceLeDiff, grd_true, o_add, o_sub, o_neg, o_eq, o_ne, o_lt, o_le, o_gt, o_ge, o_eqS, o_neS,
    decide_eq_true_eq, reduceIte, decide_true, decide_false, Bool.not_true, Bool.not_false, Bool.false_eq_true, itemsOf, asInt, endOf, isTy,
    grd_tt, nx_int, nx_bool, nx_str, nx_none, nx_tup, nx_lst, x_isC, x_fld, x_in, x_count, x_lstR, x_tupR, x_raise, x_star, bnd_thr, noX_ret, fld_x, exn_d, eSetO, Out.clear, List.zip_cons_cons, List.zip_nil_left, List.zip_nil_right, s_asg, s_par, s_own, s_parO, s_put, s_expr, s_ret, s_skip, s_seq, s_rel, x_asg, x_par, x_own, x_parO, x_put, x_expr, x_ret, x_retN, x_skip, x_rel, x_app, x_setI, x_sIf, x_for, x_brk, x_cnt, b_lenT, b_lenL, b_tupL, b_tupT, b_max2, b_min2, o_addL, o_addT, cut_ints, sum_ints, s_chk, s_for, s_brk, s_cnt, s_retN, t_bool, g_rng, g_le, List.length_map, wipeE, iv]⟩]
        rw [rng0]
        unfold natsD
        rw [List.map_map, List.map_map]
        congr 2
      simp only [x_var, x_con, x_bin, x_neg, x_cmp, x_chain, x_tTru, x_tNot, x_tAnd, x_tOr, x_tBool, x_tYes, x_not, x_and, x_or, x_if, x_b1, x_b2, x_is, x_idx, x_oNone, x_oSome, x_cut, x_aNil, x_aCons, x_tup, x_lst, x_call, x_callS,
    x_iSeq, x_iRng1, x_iRng2, x_bor, x_tBor, x_put1, List.map_cons, List.map_nil, List.cons_append, List.nil_append, List.length_cons, List.length_nil, Nat.zero_add, Nat.reduceAdd, Nat.reduceSub, List.reduceReplicate, start,
    List.getElem?_cons_zero, List.getElem?_cons_succ, List.set_cons_zero, List.set_cons_succ, bnd_ret, bnd_assoc, bnd_grd, b1_if, bnd_ite, small, Nat.reduceLeDiff, grd_true, o_add, o_sub, o_neg, o_eq, o_ne, o_lt, o_le, o_gt, o_ge, o_eqS, o_neS,
    decide_eq_true_eq, reduceIte, decide_true, decide_false, Bool.not_true, Bool.not_false, Bool.false_eq_true, itemsOf, asInt, bi2, endOf, isTy,
    grd_tt, nx_int, nx_bool, nx_str, nx_none, nx_tup, nx_lst, x_isC, x_fld, x_in, x_count, x_lstR, x_tupR, x_raise, x_star, bnd_thr, noX_ret, fld_x, exn_d, eSetO, Out.clear, List.zip_cons_cons, List.zip_nil_left, List.zip_nil_right, cm _ rfl, b_mapLen, fl]
      rw [grd_pos (by omega)]
      rw [← List.map_append]
      show sFor _ _ _ [.val (.int (L : Int)), Q, .own ((acc ++ (List.range L).map (fb2 q.1)).map bndD), e3, .val (.int q.1), .val (.tuple (natsD q.2)), e6, e7] = _
      rw [x_for, x_iTwos]
      simp only [x_var, x_con, x_bin, x_neg, x_cmp, x_chain, x_tTru, x_tNot, x_tAnd, x_tOr, x_tBool, x_tYes, x_not, x_and, x_or, x_if, x_b1, x_b2, x_is, x_idx, x_oNone, x_oSome, x_cut, x_aNil, x_aCons, x_tup, x_lst, x_call, x_callS,
    x_iSeq, x_iRng1, x_iRng2, x_bor, x_tBor, x_put1, List.map_cons, List.map_nil, List.cons_append, List.nil_append, List.length_cons, List.length_nil, Nat.zero_add, Nat.reduceAdd, Nat.reduceSub, List.reduceReplicate, start,
    List.getElem?_cons_zero, List.getElem?_cons_succ, List.set_cons_zero, List.set_cons_succ, bnd_ret, bnd_assoc, bnd_grd, b1_if, bnd_ite, small, Nat.reduceLeDiff, grd_true, o_add, o_sub, o_neg, o_eq, o_ne, o_lt, o_le, o_gt, o_ge, o_eqS, o_neS,
    decide_eq_true_eq, reduceIte, decide_true, decide_false, Bool.not_true, Bool.not_false, Bool.false_eq_true, itemsOf, asInt, bi2, endOf, isTy,
    grd_tt, nx_int, nx_bool, nx_str, nx_none, nx_tup, nx_lst, x_isC, x_fld, x_in, x_count, x_lstR, x_tupR, x_raise, x_star, bnd_thr, noX_ret, fld_x, exn_d, eSetO, Out.clear, List.zip_cons_cons, List.zip_nil_left, List.zip_nil_right, cut_tailT, natsD_tail]
      have sm : (natsD q.2.tail ++ [PyData.int (L : Int)]).length ≤ 1000000 := by rw [List.length_append, natsD_len, List.length_tail, List.length_singleton]; omega
      simp only [x_var, x_con, x_bin, x_neg, x_cmp, x_chain, x_tTru, x_tNot, x_tAnd, x_tOr, x_tBool, x_tYes, x_not, x_and, x_or, x_if, x_b1, x_b2, x_is, x_idx, x_oNone, x_oSome, x_cut, x_aNil, x_aCons, x_tup, x_lst, x_call, x_callS,
    x_iSeq, x_iRng1, x_iRng2, x_bor, x_tBor, x_put1, List.map_cons, List.map_nil, List.cons_append, List.nil_append, List.length_cons, List.length_nil, Nat.zero_add, Nat.reduceAdd, Nat.reduceSub, List.reduceReplicate, start,
    List.getElem?_cons_zero, List.getElem?_cons_succ, List.set_cons_zero, List.set_cons_succ, bnd_ret, bnd_assoc, bnd_grd, b1_if, bnd_ite, small, Nat.reduceLeDiff, grd_true, o_add, o_sub, o_neg, o_eq, o_ne, o_lt, o_le, o_gt, o_ge, o_eqS, o_neS,
    decide_eq_true_eq, reduceIte, decide_true, decide_false, Bool.not_true, Bool.not_false, Bool.false_eq_true, itemsOf, asInt, bi2, endOf, isTy,
    grd_tt, nx_int, nx_bool, nx_str, nx_none, nx_tup, nx_lst, x_isC, x_fld, x_in, x_count, x_lstR, x_tupR, x_raise, x_star, bnd_thr, noX_ret, fld_x, exn_d, eSetO, Out.clear, List.zip_cons_cons, List.zip_nil_left, List.zip_nil_right, grd_pos sm, twos_end]
      rw [lp]
      unfold fbQ
      rw [List.append_assoc]
    rw [st, bnd_ret, List.flatMap_cons, ← List.append_assoc]
    exact ih
theorem bounds_of_0 {L : Nat} {qs : List (Int × List Nat)} (hL : L ≤ 900) (hq : ∀ q ∈ qs, q.2.length ≤ 1000) (hl : qs.length ≤ 100) : w_bounds_of_0 [.int (L : Int), .tuple (qs.map entD)] = ret (.list ((bndsOf L qs).map bndD)) := by
  have e : w_bounds_of_0 = fn 2 8 (sSeq (sOwn 2 (eLst (aNil))) (sSeq (sFor (iRng1 (eVar 0)) (.nm 3) bo1) (sSeq (sFor (iSeq (eVar 1)) (.tp [4, 5]) bo2) (sRel 2 (sRet (eVar 2)))))) := rfl
  rw [e]
  refine (f_fn (by rfl)).trans ?_
  obtain ⟨e3, l1⟩ := bo1_loop (L := .val (.int (L : Int))) (Q := .val (.tuple (qs.map entD))) (e4 := .unk) (e5 := .unk) (e6 := .unk) (e7 := .unk) (List.range L) [] .unk (by rw [List.length_range]; simp; omega)
  have f1 : ((List.range L).flatMap fb1).length = 2 * L := by
    generalize hn : L = n
    clear hn
    induction n with
    | zero => rfl
    | succ n ih => rw [List.range_succ, List.flatMap_append, List.length_append, ih]; simp [fb1]; omega
  obtain ⟨a3, a4, a5, a6, a7, l2⟩ := bo2_loop (Q := .val (.tuple (qs.map entD))) hL qs ((List.range L).flatMap fb1) e3 .unk .unk .unk .unk hq (by rw [f1]; omega)
  rw [s_own]
  simp only [x_var, x_con, x_bin, x_neg, x_cmp, x_chain, x_tTru, x_tNot, x_tAnd, x_tOr, x_tBool, x_tYes, x_not, x_and, x_or, x_if, x_b1, x_b2, x_is, x_idx, x_oNone, x_oSome, x_cut, x_aNil, x_aCons, x_tup, x_lst, x_call, x_callS,
    x_iSeq, x_iRng1, x_iRng2, x_bor, x_tBor, x_put1, List.map_cons, List.map_nil, List.cons_append, List.nil_append, List.length_cons, List.length_nil, Nat.zero_add, Nat.reduceAdd, Nat.reduceSub, List.reduceReplicate, start,
    List.getElem?_cons_zero, List.getElem?_cons_succ, List.set_cons_zero, List.set_cons_succ, bnd_ret, bnd_assoc, bnd_grd, b1_if, bnd_ite, small, Nat.reduceLeDiff, grd_true, o_add, o_sub, o_neg, o_eq, o_ne, o_lt, o_le, o_gt, o_ge, o_eqS, o_neS,
    decide_eq_true_eq, reduceIte, decide_true, decide_false, Bool.not_true, Bool.not_false, Bool.false_eq_true, itemsOf, asInt, bi2, endOf, isTy,
    grd_tt, nx_int, nx_bool, nx_str, nx_none, nx_tup, nx_lst, x_isC, x_fld, x_in, x_count, x_lstR, x_tupR, x_raise, x_star, bnd_thr, noX_ret, fld_x, exn_d, eSetO, Out.clear, List.zip_cons_cons, List.zip_nil_left, List.zip_nil_right]
  rw [s_for]
  have ir : ∀ E : Env, E[0]? = some (.val (.int (L : Int))) → iRng1 (eVar 0) E = ret (natsD (List.range L)) := fun E h => by
    rw [← rng0, x_iRng1, x_var, h]
    exact grd_pos (by unfold rngOk; omega) _
  rw [ir _ rfl, bnd_ret]
  have l1' : forL (.nm 3) bo1 (natsD (List.range L)) [.val (.int (L : Int)), .val (.tuple (qs.map entD)), .own [], .unk, .unk, .unk, .unk, .unk] = _ := l1
  rw [l1', bnd_ret]
  simp only [List.nil_append]
  rw [s_for]
  simp only [x_var, x_con, x_bin, x_neg, x_cmp, x_chain, x_tTru, x_tNot, x_tAnd, x_tOr, x_tBool, x_tYes, x_not, x_and, x_or, x_if, x_b1, x_b2, x_is, x_idx, x_oNone, x_oSome, x_cut, x_aNil, x_aCons, x_tup, x_lst, x_call, x_callS,
    x_iSeq, x_iRng1, x_iRng2, x_bor, x_tBor, x_put1, List.map_cons, List.map_nil, List.cons_append, List.nil_append, List.length_cons, List.length_nil, Nat.zero_add, Nat.reduceAdd, Nat.reduceSub, List.reduceReplicate, start,
    List.getElem?_cons_zero, List.getElem?_cons_succ, List.set_cons_zero, List.set_cons_succ, bnd_ret, bnd_assoc, bnd_grd, b1_if, bnd_ite, small, Nat.reduceLeDiff, grd_true, o_add, o_sub, o_neg, o_eq, o_ne, o_lt, o_le, o_gt, o_ge, o_eqS, o_neS,
    decide_eq_true_eq, reduceIte, decide_true, decide_false, Bool.not_true, Bool.not_false, Bool.false_eq_true, itemsOf, asInt, bi2, endOf, isTy,
    grd_tt, nx_int, nx_bool, nx_str, nx_none, nx_tup, nx_lst, x_isC, x_fld, x_in, x_count, x_lstR, x_tupR, x_raise, x_star, bnd_thr, noX_ret, fld_x, exn_d, eSetO, Out.clear, List.zip_cons_cons, List.zip_nil_left, List.zip_nil_right, l2]
  rfl
end DL
end
section
namespace DL
open PySem
/-- how far the first k words reach, with a space behind each -/
def pre (ns : List Int) (k : Nat) : Int := (ns.take k).sum + k
theorem pre_ext {ns : List Int} {a b : Nat} (h : a < b) : ext ns a (b - 1) = pre ns b - pre ns a - 1 := by
  rw [← ext_sum h]
  unfold pre
  have e : (ns.take b).sum = (ns.take a).sum + ((ns.drop a).take (b - a)).sum := by
    have : ns.take b = ns.take a ++ (ns.drop a).take (b - a) := by
      rw [← List.take_add, Nat.add_sub_cancel' (Nat.le_of_lt h)]
    rw [this, List.sum_append]
  omega
theorem pre_succ {ns : List Int} {k : Nat} (h : k < ns.length) : pre ns (k + 1) = pre ns k + ns[k] + 1 := by
  unfold pre
  rw [List.take_succ_eq_append_getElem h, List.sum_append]
  simp
  omega
def rowOf (L : Nat) (x : Cols) : List Int := (List.range L).map fun k => x (k + 1) - x k - 1
theorem rowOf_len (L : Nat) (x : Cols) : (rowOf L x).length = L := by unfold rowOf; rw [List.length_map, List.length_range]
theorem rowOf_at {L k : Nat} {x : Cols} (h : k < (rowOf L x).length) : (rowOf L x)[k] = x (k + 1) - x k - 1 := by
  have h2 : k < ((List.range L).map fun k => x (k + 1) - x k - 1).length := h
  show ((List.range L).map fun k => x (k + 1) - x k - 1)[k]'h2 = _
  rw [List.getElem_map, List.getElem_range]
theorem pre_rowOf {L : Nat} {x : Cols} : ∀ k, k ≤ L → pre (rowOf L x) k = x k - x 0
  | 0, _ => by unfold pre; simp
  | k + 1, h => by
    have hk : k < (rowOf L x).length := by rw [rowOf_len]; omega
    rw [pre_succ hk, pre_rowOf k (by omega), rowOf_at hk]
    omega
theorem brk_bar_eq {ns : List Int} {w : Int} {l : List Nat} (hp : ∀ x ∈ ns, 1 ≤ x) (h1 : 0 < ns.length) (b : Brk ns w l) (c : Bar ns w l) : l = starts ns w := by
  have m1 := b.many hp h1
  have m2 := c.many hp h1
  rw [starts_gr h1]
  refine List.ext_getElem? fun k => ?_
  rw [List.getElem?_map]
  by_cases hk : k < l.length
  · have e := List.getElem?_eq_getElem hk
    rw [e, List.getElem?_range (by omega)]
    have := b.le hp k _ e
    have := c.ge hp k _ e
    show some l[k] = some (gr ns w k)
    congr 1
    omega
  · rw [List.getElem?_eq_none (by omega), List.getElem?_eq_none (by rw [List.length_range]; omega)]
    rfl
/-- looks of a row, as sightings -/
def looks (ns : List Int) (ws : List Int) : List (Int × List Nat) := ws.map fun w => (w, starts ns w)
theorem in_bnds {n : Nat} {ns : List Int} {ws : List Int} (h1 : 0 < ns.length) : In (ns.length + 1) (bndsOf ns.length (looks ns ws)) := fun b hb => by
  unfold bndsOf at hb
  rcases List.mem_append.mp hb with hb | hb
  · obtain ⟨p, hp, hb⟩ := List.mem_flatMap.mp hb
    have hp := List.mem_range.mp hp
    simp only [fb1, List.mem_cons, List.not_mem_nil, or_false] at hb
    rcases hb with rfl | rfl
    · exact ⟨by show p < _; omega, by show p + 1 < _; omega⟩
    · exact ⟨by show p + 1 < _; omega, by show p < _; omega⟩
  · obtain ⟨q, hq, hb⟩ := List.mem_flatMap.mp hb
    obtain ⟨w, hw, rfl⟩ := List.mem_map.mp hq
    unfold fbQ at hb
    rcases List.mem_append.mp hb with hb | hb
    · obtain ⟨p, hp, rfl⟩ := List.mem_map.mp hb
      have hp := List.mem_range.mp hp
      exact ⟨by show p < _; omega, by show p + 1 < _; omega⟩
    · obtain ⟨e, he, hb⟩ := List.mem_flatMap.mp hb
      obtain ⟨m1, m2⟩ := end_mem he
      have s1 : e.1 < ns.length := starts_lt h1 _ m1
      have s2 : e.2 ≤ ns.length := by
        rcases m2 with m2 | m2
        · exact Nat.le_of_lt (starts_lt h1 _ m2)
        · omega
      unfold fb3 at hb
      rcases List.mem_cons.mp hb with rfl | hb
      · exact ⟨by show e.1 < _; omega, by show e.2 < _; omega⟩
      · split at hb
        · rw [List.mem_singleton.mp hb]
          exact ⟨by show e.2 + 1 < _; omega, by show e.1 < _; omega⟩
        · cases hb
theorem end_adj {L : Nat} : ∀ {l : List Nat} {e : Nat × Nat}, e ∈ endN L l → e.2 ∈ l ∨ e.2 = L → e.2 < L → e ∈ adjN l
  | [a], e, h, _, lt => by
    have : e = (a, L) := by simpa [endN] using h
    rw [this] at lt
    exact absurd lt (Nat.lt_irrefl _)
  | a :: b :: r, e, h, m, lt => by
    have h' : e ∈ (a, b) :: endN L (b :: r) := h
    rcases List.mem_cons.mp h' with rfl | h'
    · exact .head _
    · exact .tail _ (end_adj h' (end_mem h').2 lt)
/-- a row that was seen keeps the bounds -/
theorem sol_row {ns : List Int} {ws : List Int} (h1 : 0 < ns.length) (hn : ∀ x ∈ ns, 1 ≤ x ∧ x ≤ 60) (hw : ∀ w ∈ ws, ∀ x ∈ ns, x ≤ w) : Sol (bndsOf ns.length (looks ns ws)) fun k => pre ns k - pre ns ns.length := fun b hb => by
  have stp : ∀ p (h : p < ns.length), pre ns (p + 1) = pre ns p + ns[p] + 1 := fun p h => pre_succ h
  show pre ns b.2.1 - pre ns ns.length ≤ pre ns b.1 - pre ns ns.length + b.2.2
  unfold bndsOf at hb
  rcases List.mem_append.mp hb with hb | hb
  · obtain ⟨p, hp, hb⟩ := List.mem_flatMap.mp hb
    have hp := List.mem_range.mp hp
    have s := stp p hp
    have r := hn _ (List.getElem_mem hp)
    simp only [fb1, List.mem_cons, List.not_mem_nil, or_false] at hb
    rcases hb with rfl | rfl
    · show pre ns (p + 1) - _ ≤ pre ns p - _ + 61
      omega
    · show pre ns p - _ ≤ pre ns (p + 1) - _ + -2
      omega
  · obtain ⟨q, hq, hb⟩ := List.mem_flatMap.mp hb
    obtain ⟨w, hww, rfl⟩ := List.mem_map.mp hq
    unfold fbQ at hb
    rcases List.mem_append.mp hb with hb | hb
    · obtain ⟨p, hp, rfl⟩ := List.mem_map.mp hb
      have hp := List.mem_range.mp hp
      have s := stp p hp
      have r := hw w hww _ (List.getElem_mem hp)
      show pre ns (p + 1) - _ ≤ pre ns p - _ + (w + 1)
      omega
    · obtain ⟨e, he, hb⟩ := List.mem_flatMap.mp hb
      have bf := (brk_starts (w := w) h1 (hw w hww)).fits he
      have pe := pre_ext (ns := ns) bf.1
      unfold fb3 at hb
      rcases List.mem_cons.mp hb with rfl | hb
      · show pre ns e.2 - _ ≤ pre ns e.1 - _ + (w + 1)
        omega
      · split at hb
        · rename_i lt
          rw [List.mem_singleton.mp hb]
          have fa := (bar_starts (w := w) h1).fars (end_adj he (end_mem he).2 lt)
          have pe2 := pre_ext (ns := ns) (a := e.1) (b := e.2 + 1) (by omega)
          rw [Nat.add_sub_cancel] at pe2
          show pre ns e.1 - _ ≤ pre ns (e.2 + 1) - _ + (-2 - w)
          omega
        · cases hb
theorem end_atL {L : Nat} : ∀ {l : List Nat} {k a b : Nat}, l[k]? = some a → (l[k + 1]? = some b ∨ (k + 1 = l.length ∧ b = L)) → (a, b) ∈ endN L l
  | [x], 0, a, b, h, h2 => by
    cases h
    rcases h2 with h2 | ⟨_, rfl⟩
    · cases h2
    · exact .head _
  | [x], k + 1, a, b, h, _ => by cases h
  | x :: y :: r, 0, a, b, h, h2 => by
    cases h
    rcases h2 with h2 | ⟨h2, _⟩
    · cases h2
      exact .head _
    · simp at h2
  | x :: y :: r, k + 1, a, b, h, h2 => .tail _ (end_atL (l := y :: r) (k := k) h (by
    rcases h2 with h2 | ⟨h2, h3⟩
    · exact .inl h2
    · exact .inr ⟨by simp only [List.length_cons] at h2 ⊢; omega, h3⟩))
/-- columns that keep the bounds give a row with the looks -/
theorem row_sol {ns ws : List Int} {x : Cols} (h1 : 0 < ns.length) (hn : ∀ x ∈ ns, 1 ≤ x ∧ x ≤ 60) (hw : ∀ w ∈ ws, ∀ x ∈ ns, x ≤ w) (so : Sol (bndsOf ns.length (looks ns ws)) x) :
    (∀ y ∈ rowOf ns.length x, 1 ≤ y ∧ y ≤ 60) ∧ (∀ w ∈ ws, ∀ y ∈ rowOf ns.length x, y ≤ w) ∧ ∀ w ∈ ws, starts (rowOf ns.length x) w = starts ns w := by
  have f1 : ∀ p, p < ns.length → ∀ b ∈ fb1 p, b ∈ bndsOf ns.length (looks ns ws) := fun p hp b hb => List.mem_append.mpr (.inl (List.mem_flatMap.mpr ⟨p, List.mem_range.mpr hp, hb⟩))
  have fq : ∀ w ∈ ws, ∀ b ∈ fbQ ns.length (w, starts ns w), b ∈ bndsOf ns.length (looks ns ws) := fun w hww b hb => List.mem_append.mpr (.inr (List.mem_flatMap.mpr ⟨_, List.mem_map.mpr ⟨w, hww, rfl⟩, hb⟩))
  have ones : ∀ y ∈ rowOf ns.length x, 1 ≤ y ∧ y ≤ 60 := fun y hy => by
    obtain ⟨p, hp, rfl⟩ := List.mem_map.mp hy
    have hp := List.mem_range.mp hp
    have a := so _ (f1 p hp (p, p + 1, 61) (.head _))
    have b := so _ (f1 p hp (p + 1, p, -2) (.tail _ (.head _)))
    have a : x (p + 1) ≤ x p + 61 := a
    have b : x p ≤ x (p + 1) + -2 := b
    omega
  refine ⟨ones, fun w hww y hy => ?_, fun w hww => ?_⟩
  · obtain ⟨p, hp, rfl⟩ := List.mem_map.mp hy
    have a := so _ (fq w hww (fb2 w p) (List.mem_append.mpr (.inl (List.mem_map.mpr ⟨p, hp, rfl⟩))))
    have a : x (p + 1) ≤ x p + (w + 1) := a
    omega
  · have rl := rowOf_len ns.length x
    have B := brk_starts (w := w) h1 (hw w hww)
    have C := bar_starts (w := w) h1
    have e3 : ∀ e ∈ endN ns.length (starts ns w), ∀ b ∈ fb3 ns.length w e, b ∈ bndsOf ns.length (looks ns ws) := fun e he b hb => fq w hww b (List.mem_append.mpr (.inr (List.mem_flatMap.mpr ⟨e, he, hb⟩)))
    symm
    refine brk_bar_eq (fun y hy => (ones y hy).1) (by rw [rl]; exact h1) (Brk.of B.zero (fun a ha => by rw [rl]; exact B.lt a ha) fun k a b ha hb => ?_) (Bar.of B.ne (fun a ha => by rw [rl]; exact B.lt a ha) fun k a b ha hb => ?_)
    · rw [rl] at hb
      have he := end_atL ha hb
      have f := B.fits he
      have f1 : a < b := f.1
      have f2 : b ≤ ns.length := f.2.1
      have c := so _ (e3 _ he (a, b, w + 1) (.head _))
      have c : x b ≤ x a + (w + 1) := c
      refine ⟨f1, ?_⟩
      rw [pre_ext f1, pre_rowOf b f2, pre_rowOf a (by omega)]
      omega
    · have st := C.step ha hb
      have he := end_atL (L := ns.length) ha (.inl hb)
      have c := so _ (e3 _ he (b + 1, a, -2 - w) (by unfold fb3; rw [if_pos st.2.1]; exact .tail _ (.head _)))
      have c : x a ≤ x (b + 1) + (-2 - w) := c
      refine ⟨st.1, ?_⟩
      have pe := pre_ext (ns := rowOf ns.length x) (a := a) (b := b + 1) (by have := st.1; omega)
      rw [Nat.add_sub_cancel, pre_rowOf (b + 1) (by have := st.2.1; omega), pre_rowOf a (by have := st.1; have := st.2.1; omega)] at pe
      omega
end DL
end
section
namespace DL
open PySem
theorem rnds_shift (bs : List Bnd) (s : RS) : ∀ i, rnds bs (rnd bs s) i = rnds bs s (i + 1)
  | 0 => rfl
  | i + 1 => by
    show rnd bs (rnds bs (rnd bs s) i) = rnd bs (rnds bs s (i + 1))
    rw [rnds_shift bs s i]
def rbBody : XS := sMut 5 w_relax_0 (eVar 2) 3 4
theorem x_sMut (i : Nat) (f : Fn3) (e : XE) (u w : Nat) (E : Env) : sMut i f e u w E = bnd (e E) fun d => bnd (callM f d u w E) fun q => ret (.nx (q.2.set i (.val q.1))) := id rfl
theorem rb_step {n : Nat} {bs : List Bnd} {s : RS} {a q e5 e6 e7 : Ent} (hi : In n bs) : rbBody [a, q, .val (.list (bs.map bndD)), .own (colsD n s.x), .own (givD n s.g), e5, e6, e7] = ret (.nx [a, q, .val (.list (bs.map bndD)), .own (colsD n (rnd bs s).x), .own (givD n (rnd bs s).g), .val (lastD (rnd bs s).chg), e6, e7]) := by
  have r := relax_0 (n := n) (bs := bs) (s := s) hi
  unfold rbBody
  rw [x_sMut, x_var]
  simp only [List.getElem?_cons_succ, List.getElem?_cons_zero, bnd_ret]
  have cm : callM w_relax_0 (.list (bs.map bndD)) 3 4 [a, q, .val (.list (bs.map bndD)), .own (colsD n s.x), .own (givD n s.g), e5, e6, e7] = ret (lastD (rnd bs s).chg, [a, q, .val (.list (bs.map bndD)), .own (colsD n (rnd bs s).x), .own (givD n (rnd bs s).g), e5, e6, e7]) := by
    show DL.bnd (noX (w_relax_0 (.list (bs.map bndD)) (colsD n s.x) (givD n s.g))) _ = _
    rw [r, noX_ret, bnd_ret]
    rfl
  rw [cm, bnd_ret]
  rfl
theorem rb_loop {n : Nat} {bs : List Bnd} {a q e7 : Ent} (hi : In n bs) : ∀ (ps : List Nat) (p : Nat) (s : RS) (e5 e6 : Ent), ∃ e6', forL (.nm 6) rbBody (natsD (p :: ps)) [a, q, .val (.list (bs.map bndD)), .own (colsD n s.x), .own (givD n s.g), e5, e6, e7] = ret (.nx [a, q, .val (.list (bs.map bndD)), .own (colsD n (rnds bs s (ps.length + 1)).x), .own (givD n (rnds bs s (ps.length + 1)).g), .val (lastD (rnds bs s (ps.length + 1)).chg), e6', e7])
  | [], p, s, e5, e6 => by
    refine ⟨.val (.int (p : Int)), ?_⟩
    rw [show natsD [p] = .int (p : Int) :: [] from rfl, x_forc]
    show DL.bnd (rbBody [a, q, .val (.list (bs.map bndD)), .own (colsD n s.x), .own (givD n s.g), e5, .val (.int (p : Int)), e7]) _ = _
    rw [rb_step hi, bnd_ret]
    rfl
  | p2 :: ps, p, s, e5, e6 => by
    obtain ⟨e6', ih⟩ := rb_loop (a := a) (q := q) (e7 := e7) hi ps p2 (rnd bs s) (.val (lastD (rnd bs s).chg)) (.val (.int (p : Int)))
    refine ⟨e6', ?_⟩
    rw [show natsD (p :: p2 :: ps) = .int (p : Int) :: natsD (p2 :: ps) from rfl, x_forc]
    show DL.bnd (rbBody [a, q, .val (.list (bs.map bndD)), .own (colsD n s.x), .own (givD n s.g), e5, .val (.int (p : Int)), e7]) _ = _
    rw [rb_step hi, bnd_ret]
    rw [rnds_shift] at ih
    exact ih
theorem rep_const (k : Nat) (d : D) : rep (k : Int) [d] = (List.range k).map fun _ => d := by
  unfold rep
  rw [Int.toNat_natCast]
  have : ∀ m : Nat, (List.replicate m [d]).flatten = List.replicate m d := fun m => by
    induction m with
    | zero => rfl
    | succ m ih => rw [List.replicate_succ, List.flatten_cons, ih, List.replicate_succ]; rfl
  rw [this, List.map_const', List.length_range]
def s0R : RS := ⟨none, fun _ => 0, fun _ => none⟩
theorem x_mulL (a b : XE) (E : Env) : eMulL a b E = bnd (a E) fun x => bnd (b E) fun y => match x, y with
  | .list xs, .int j => opMul (.list xs) (.int j)
  | _, _ => stuck := id rfl
theorem x_par3Q (i j l : Nat) (a b c : XE) (E : Env) : sPar3Q i j l a b c E = bnd (a E) fun x => bnd (b E) fun y => bnd (c E) fun z => match x, y with
  | .list ds, .list es => ret (.nx (((E.set i (.own ds)).set j (.own es)).set l (.val z)))
  | _, _ => stuck := id rfl
theorem mul_one0 (L : Nat) (hL : L ≤ 900) (d : D) : opMul (.list [d]) (.int ((L : Int) + 1)) = ret (.list ((List.range (L + 1)).map fun _ => d)) := by
  rw [show (L : Int) + 1 = ((L + 1 : Nat) : Int) by omega]
  refine (grd_pos ⟨by omega, by omega, by simp⟩ _).trans ?_
  rw [rep_const]
theorem read_back_0 {ns ws : List Int} (h1 : 0 < ns.length) (h2 : ns.length ≤ 900) (hn : ∀ x ∈ ns, 1 ≤ x ∧ x ≤ 60) (hw : ∀ w ∈ ws, ∀ x ∈ ns, x ≤ w) (hl : ws.length ≤ 100) :
    ∃ r : List Int, w_read_back_0 [.int (ns.length : Int), .tuple (seenD ns ws)] = ret (.tuple [.str "row", .tuple (r.map PyData.int)]) ∧ r.length = ns.length ∧ (∀ y ∈ r, 1 ≤ y ∧ y ≤ 60) ∧ (∀ w ∈ ws, ∀ y ∈ r, y ≤ w) ∧ ∀ w ∈ ws, starts r w = starts ns w := by
  have hi := in_bnds (ws := ws) (n := ns.length + 1) h1
  have sr := sol_row (ws := ws) h1 hn hw
  have mono : ∀ k, k ≤ ns.length → pre ns k ≤ pre ns ns.length := fun k hk => by
    obtain ⟨d, hd⟩ : ∃ d, ns.length = k + d := ⟨ns.length - k, by omega⟩
    have : ∀ d, k + d ≤ ns.length → pre ns k ≤ pre ns (k + d) := fun d => by
      induction d with
      | zero => intro _; exact Int.le_refl _
      | succ d ih =>
        intro h
        have lt : k + d < ns.length := by omega
        have := ih (by omega)
        have s := pre_succ lt
        have := hn _ (List.getElem_mem lt)
        show _ ≤ pre ns (k + d + 1)
        omega
    have := this d (by omega)
    rw [← hd] at this
    exact this
  obtain ⟨c1, so⟩ := rnds_all (n := ns.length + 1) (s := s0R) (by omega) hi sr (fun _ _ => rfl) (fun k hk => by have := mono k (by omega); show pre ns k - pre ns ns.length ≤ 0; omega)
  obtain ⟨p1, p2, p3⟩ := row_sol h1 hn hw so
  refine ⟨_, ?_, rowOf_len _ _, p1, p2, p3⟩
  have sd : seenD ns ws = (looks ns ws).map entD := by unfold seenD looks; rw [List.map_map]; rfl
  have bo := bounds_of_0 (L := ns.length) (qs := looks ns ws) (by omega) (fun q hq => by
    obtain ⟨w, _, rfl⟩ := List.mem_map.mp hq
    have := starts_len ns w
    show (starts ns w).length ≤ _
    omega) (by unfold looks; rw [List.length_map]; exact hl)
  rw [sd]
  have e : w_read_back_0 = fn 2 8 (sSeq (sAsg 2 (eCall w_bounds_of_0 (aCons (eVar 0) (aCons (eVar 1) (aNil)))))
    (sSeq (sPar3Q 3 4 5 (eMulL (eLst (aCons (eCon (.int 0)) (aNil))) (eBin .add (eVar 0) (eCon (.int 1)))) (eMulL (eLst (aCons (eCon .none) (aNil))) (eBin .add (eVar 0) (eCon (.int 1)))) (eCon (.int 0)))
    (sSeq (sFor (iRng1 (eBin .add (eVar 0) (eCon (.int 2)))) (.nm 6) rbBody)
    (sSeq (sIf (tBool (eCmp .notN (eVar 5) (eCon .none))) (sRel 4 (sRet (eTup (aCons (eCon (.str "ring")) (aCons (eCall w_ring_before_0 (aCons (eVar 4) (aCons (eVar 5) (aNil)))) (aNil)))))) (sSkip))
    (sRel 3 (sRet (eTup (aCons (eCon (.str "row")) (aCons (eB1 .tuple (eComp (iRng1 (eVar 0)) (.nm 7) (tYes) (eBin .sub (eBin .sub (eIdx (eVar 3) (eBin .add (eVar 7) (eCon (.int 1)))) (eIdx (eVar 3) (eVar 7))) (eCon (.int 1))) [7])) (aNil)))))))))) := rfl
  rw [e]
  refine (f_fn (by rfl)).trans ?_
  generalize hbs : bndsOf ns.length (looks ns ws) = bs at *
  generalize ns.length = L at *
  simp only [x_var, x_con, x_bin, x_neg, x_cmp, x_chain, x_tTru, x_tNot, x_tAnd, x_tOr, x_tBool, x_tYes, x_not, x_and, x_or, x_if, x_b1, x_b2, x_is, x_idx, x_oNone, x_oSome, x_cut, x_aNil, x_aCons, x_tup, x_lst, x_call, x_callS,
    x_iSeq, x_iRng1, x_iRng2, x_bor, x_tBor, x_put1, List.map_cons, List.map_nil, List.cons_append, List.nil_append, List.length_cons, List.length_nil, Nat.zero_add, Nat.reduceAdd, Nat.reduceSub, List.reduceReplicate, start,
    List.getElem?_cons_zero, List.getElem?_cons_succ, List.set_cons_zero, List.set_cons_succ, bnd_ret, bnd_assoc, bnd_grd, b1_if, bnd_ite, small, Nat.reduceLeDiff, grd_true, o_add, o_sub, o_neg, o_eq, o_ne, o_lt, o_le, o_gt, o_ge, o_eqS, o_neS,
    decide_eq_true_eq, reduceIte, decide_true, decide_false, Bool.not_true, Bool.not_false, Bool.false_eq_true, itemsOf, asInt, bi2, endOf, isTy,
    grd_tt, nx_int, nx_bool, nx_str, nx_none, nx_tup, nx_lst, x_isC, x_fld, x_in, x_count, x_lstR, x_tupR, x_raise, x_star, bnd_thr, noX_ret, fld_x, exn_d, eSetO, Out.clear, List.zip_cons_cons, List.zip_nil_left, List.zip_nil_right, s_asg, bo]
  rw [x_seq, x_par3Q]
  simp only [x_var, x_con, x_bin, x_neg, x_cmp, x_chain, x_tTru, x_tNot, x_tAnd, x_tOr, x_tBool, x_tYes, x_not, x_and, x_or, x_if, x_b1, x_b2, x_is, x_idx, x_oNone, x_oSome, x_cut, x_aNil, x_aCons, x_tup, x_lst, x_call, x_callS,
    x_iSeq, x_iRng1, x_iRng2, x_bor, x_tBor, x_put1, List.map_cons, List.map_nil, List.cons_append, List.nil_append, List.length_cons, List.length_nil, Nat.zero_add, Nat.reduceAdd, Nat.reduceSub, List.reduceReplicate, start,
    List.getElem?_cons_zero, List.getElem?_cons_succ, List.set_cons_zero, List.set_cons_succ, bnd_ret, bnd_assoc, bnd_grd, b1_if, bnd_ite, small, Nat.reduceLeDiff, grd_true, o_add, o_sub, o_neg, o_eq, o_ne, o_lt, o_le, o_gt, o_ge, o_eqS, o_neS,
    decide_eq_true_eq, reduceIte, decide_true, decide_false, Bool.not_true, Bool.not_false, Bool.false_eq_true, itemsOf, asInt, bi2, endOf, isTy,
    grd_tt, nx_int, nx_bool, nx_str, nx_none, nx_tup, nx_lst, x_isC, x_fld, x_in, x_count, x_lstR, x_tupR, x_raise, x_star, bnd_thr, noX_ret, fld_x, exn_d, eSetO, Out.clear, List.zip_cons_cons, List.zip_nil_left, List.zip_nil_right, x_mulL, mul_one0 L h2]
  obtain ⟨e6, lp⟩ := rb_loop (n := L + 1) (bs := bs) (a := .val (.int (L : Int))) (q := .val (.tuple ((looks ns ws).map entD))) (e7 := .unk) hi ((List.range (L + 1)).map fun k => k + 1) 0 s0R (.val (.int 0)) .unk
  have nt : natsD (0 :: (List.range (L + 1)).map fun k => k + 1) = rng 0 ((L : Int) + 2) := by
    rw [show (L : Int) + 2 = ((L + 2 : Nat) : Int) by omega, rng0, show List.range (L + 2) = 0 :: (List.range (L + 1)).map Nat.succ from List.range_succ_eq_map]
  rw [nt, List.length_map, List.length_range, c1] at lp
  rw [s_for]
  have ir : rngOk 0 ((L : Int) + 2) := by unfold rngOk; omega
  simp only [x_var, x_con, x_bin, x_neg, x_cmp, x_chain, x_tTru, x_tNot, x_tAnd, x_tOr, x_tBool, x_tYes, x_not, x_and, x_or, x_if, x_b1, x_b2, x_is, x_idx, x_oNone, x_oSome, x_cut, x_aNil, x_aCons, x_tup, x_lst, x_call, x_callS,
    x_iSeq, x_iRng1, x_iRng2, x_bor, x_tBor, x_put1, List.map_cons, List.map_nil, List.cons_append, List.nil_append, List.length_cons, List.length_nil, Nat.zero_add, Nat.reduceAdd, Nat.reduceSub, List.reduceReplicate, start,
    List.getElem?_cons_zero, List.getElem?_cons_succ, List.set_cons_zero, List.set_cons_succ, bnd_ret, bnd_assoc, bnd_grd, b1_if, bnd_ite, small, Nat.reduceLeDiff, grd_true, o_add, o_sub, o_neg, o_eq, o_ne, o_lt, o_le, o_gt, o_ge, o_eqS, o_neS,
    decide_eq_true_eq, reduceIte, decide_true, decide_false, Bool.not_true, Bool.not_false, Bool.false_eq_true, itemsOf, asInt, bi2, endOf, isTy,
    grd_tt, nx_int, nx_bool, nx_str, nx_none, nx_tup, nx_lst, x_isC, x_fld, x_in, x_count, x_lstR, x_tupR, x_raise, x_star, bnd_thr, noX_ret, fld_x, exn_d, eSetO, Out.clear, List.zip_cons_cons, List.zip_nil_left, List.zip_nil_right, grd_pos ir]
  have lp' : forL (.nm 6) rbBody (rng 0 ((L : Int) + 2)) [.val (.int (L : Int)), .val (.tuple ((looks ns ws).map entD)), .val (.list (bs.map bndD)), .own ((List.range (L + 1)).map fun _ => .int 0), .own ((List.range (L + 1)).map fun _ => .none), .val (.int 0), .unk, .unk] = _ := lp
  rw [lp', bnd_ret]
  generalize (rnds bs s0R (L + 1 + 1)).x = x at *
  have nn : opCmp .notN .none .none = ret false := notN_none .none
  simp only
  rw [s_if]
  try simp only [x_var, x_con, x_bin, x_neg, x_cmp, x_chain, x_tTru, x_tNot, x_tAnd, x_tOr, x_tBool, x_tYes, x_not, x_and, x_or, x_if, x_b1, x_b2, x_is, x_idx, x_oNone, x_oSome, x_cut, x_aNil, x_aCons, x_tup, x_lst, x_call, x_callS,
    x_iSeq, x_iRng1, x_iRng2, x_bor, x_tBor, x_put1, List.map_cons, List.map_nil, List.cons_append, List.nil_append, List.length_cons, List.length_nil, Nat.zero_add, Nat.reduceAdd, Nat.reduceSub, List.reduceReplicate, start,
    List.getElem?_cons_zero, List.getElem?_cons_succ, List.set_cons_zero, List.set_cons_succ, bnd_ret, bnd_assoc, bnd_grd, b1_if, bnd_ite, small, Nat.reduceLeDiff, grd_true, o_add, o_sub, o_neg, o_eq, o_ne, o_lt, o_le, o_gt, o_ge, o_eqS, o_neS,
    decide_eq_true_eq, reduceIte, decide_true, decide_false, Bool.not_true, Bool.not_false, Bool.false_eq_true, itemsOf, asInt, endOf, isTy,
    grd_tt, nx_int, nx_bool, nx_str, nx_none, nx_tup, nx_lst, x_isC, x_fld, x_in, x_count, x_lstR, x_tupR, x_raise, x_star, bnd_thr, noX_ret, fld_x, exn_d, eSetO, Out.clear, List.zip_cons_cons, List.zip_nil_left, List.zip_nil_right, s_asg, s_par, s_own, s_parO, s_put, s_expr, s_ret, s_skip, s_seq, s_rel, x_asg, x_par, x_own, x_parO, x_put, x_expr, x_ret, x_retN, x_skip, x_rel, x_app, x_setI, x_sIf, x_for, x_brk, x_cnt, b_lenT, b_lenL, b_tupL, b_tupT, b_max2, b_min2, o_addL, o_addT, cut_ints, sum_ints, s_chk, s_for, s_brk, s_cnt, s_retN, t_bool, g_rng, g_le, List.length_map, lastD, nn]
  rw [comp_mapE (ds := rng 0 L) (f := fun d => .int (x ((iv d).toNat + 1) - x (iv d).toNat - 1)) (by simp (disch := omega) only [x_var, x_con, x_bin, x_neg, x_cmp, x_chain, x_tTru, x_tNot, x_tAnd, x_tOr, x_tBool, x_tYes, x_not, x_and, x_or, x_if, x_b1, x_b2, x_is, x_idx, x_oNone, x_oSome, x_cut, x_aNil, x_aCons, x_tup, x_lst, x_call, x_callS,
    x_iSeq, x_iRng1, x_iRng2, x_bor, x_tBor, x_put1, List.map_cons, List.map_nil, List.cons_append, List.nil_append, List.length_cons, List.length_nil, Nat.zero_add, Nat.reduceAdd, Nat.reduceSub, List.reduceReplicate, start,
    List.getElem?_cons_zero, List.getElem?_cons_succ, List.set_cons_zero, List.set_cons_succ, bnd_ret, bnd_assoc, bnd_grd, b1_if, bnd_ite, small, Nat.reduceLeDiff, grd_true, o_add, o_sub, o_neg, o_eq, o_ne, o_lt, o_le, o_gt, o_ge, o_eqS, o_neS,
    decide_eq_true_eq, reduceIte, decide_true, decide_false, Bool.not_true, Bool.not_false, Bool.false_eq_true, itemsOf, asInt, endOf, isTy,
    grd_tt, nx_int, nx_bool, nx_str, nx_none, nx_tup, nx_lst, x_isC, x_fld, x_in, x_count, x_lstR, x_tupR, x_raise, x_star, bnd_thr, noX_ret, fld_x, exn_d, eSetO, Out.clear, List.zip_cons_cons, List.zip_nil_left, List.zip_nil_right, s_asg, s_par, s_own, s_parO, s_put, s_expr, s_ret, s_skip, s_seq, s_rel, x_asg, x_par, x_own, x_parO, x_put, x_expr, x_ret, x_retN, x_skip, x_rel, x_app, x_setI, x_sIf, x_for, x_brk, x_cnt, b_lenT, b_lenL, b_tupL, b_tupT, b_max2, b_min2, o_addL, o_addT, cut_ints, sum_ints, s_chk, s_for, s_brk, s_cnt, s_retN, t_bool, g_rng, g_le, List.length_map]) (by rw [rng_len]; omega) fun d hd => by
    obtain ⟨r, rfl, r0, r1⟩ := rng_mem hd
    obtain ⟨k, rfl⟩ := Int.eq_ofNat_of_zero_le r0
    have i1 := cols_at (n := L + 1) (x := x) (u := k) (by omega)
    have i2 := cols_at (n := L + 1) (x := x) (u := k + 1) (by omega)
    rw [show ((k + 1 : Nat) : Int) = (k : Int) + 1 by omega] at i2
    exact ⟨_, rfl, rfl, by simp only [x_var, x_con, x_bin, x_neg, x_cmp, x_chain, x_tTru, x_tNot, x_tAnd, x_tOr, x_tBool, x_tYes, x_not, x_and, x_or, x_if, x_b1, x_b2, x_is, x_idx, x_oNone, x_oSome, x_cut, x_aNil, x_aCons, x_tup, x_lst, x_call, x_callS,
    x_iSeq, x_iRng1, x_iRng2, x_bor, x_tBor, x_put1, List.map_cons, List.map_nil, List.cons_append, List.nil_append, List.length_cons, List.length_nil, Nat.zero_add, Nat.reduceAdd, Nat.reduceSub, List.reduceReplicate, start,
    List.getElem?_cons_zero, List.getElem?_cons_succ, List.set_cons_zero, List.set_cons_succ, bnd_ret, bnd_assoc, bnd_grd, b1_if, bnd_ite, small, Nat.reduceLeDiff, grd_true, o_add, o_sub, o_neg, o_eq, o_ne, o_lt, o_le, o_gt, o_ge, o_eqS, o_neS,
    decide_eq_true_eq, reduceIte, decide_true, decide_false, Bool.not_true, Bool.not_false, Bool.false_eq_true, itemsOf, asInt, endOf, isTy,
    grd_tt, nx_int, nx_bool, nx_str, nx_none, nx_tup, nx_lst, x_isC, x_fld, x_in, x_count, x_lstR, x_tupR, x_raise, x_star, bnd_thr, noX_ret, fld_x, exn_d, eSetO, Out.clear, List.zip_cons_cons, List.zip_nil_left, List.zip_nil_right, s_asg, s_par, s_own, s_parO, s_put, s_expr, s_ret, s_skip, s_seq, s_rel, x_asg, x_par, x_own, x_parO, x_put, x_expr, x_ret, x_retN, x_skip, x_rel, x_app, x_setI, x_sIf, x_for, x_brk, x_cnt, b_lenT, b_lenL, b_tupL, b_tupT, b_max2, b_min2, o_addL, o_addT, cut_ints, sum_ints, s_chk, s_for, s_brk, s_cnt, s_retN, t_bool, g_rng, g_le, List.length_map, wipeE, i1, i2, iv, Int.toNat_natCast]⟩]
  try simp only [x_var, x_con, x_bin, x_neg, x_cmp, x_chain, x_tTru, x_tNot, x_tAnd, x_tOr, x_tBool, x_tYes, x_not, x_and, x_or, x_if, x_b1, x_b2, x_is, x_idx, x_oNone, x_oSome, x_cut, x_aNil, x_aCons, x_tup, x_lst, x_call, x_callS,
    x_iSeq, x_iRng1, x_iRng2, x_bor, x_tBor, x_put1, List.map_cons, List.map_nil, List.cons_append, List.nil_append, List.length_cons, List.length_nil, Nat.zero_add, Nat.reduceAdd, Nat.reduceSub, List.reduceReplicate, start,
    List.getElem?_cons_zero, List.getElem?_cons_succ, List.set_cons_zero, List.set_cons_succ, bnd_ret, bnd_assoc, bnd_grd, b1_if, bnd_ite, small, Nat.reduceLeDiff, grd_true, o_add, o_sub, o_neg, o_eq, o_ne, o_lt, o_le, o_gt, o_ge, o_eqS, o_neS,
    decide_eq_true_eq, reduceIte, decide_true, decide_false, Bool.not_true, Bool.not_false, Bool.false_eq_true, itemsOf, asInt, endOf, isTy,
    grd_tt, nx_int, nx_bool, nx_str, nx_none, nx_tup, nx_lst, x_isC, x_fld, x_in, x_count, x_lstR, x_tupR, x_raise, x_star, bnd_thr, noX_ret, fld_x, exn_d, eSetO, Out.clear, List.zip_cons_cons, List.zip_nil_left, List.zip_nil_right, s_asg, s_par, s_own, s_parO, s_put, s_expr, s_ret, s_skip, s_seq, s_rel, x_asg, x_par, x_own, x_parO, x_put, x_expr, x_ret, x_retN, x_skip, x_rel, x_app, x_setI, x_sIf, x_for, x_brk, x_cnt, b_lenT, b_lenL, b_tupL, b_tupT, b_max2, b_min2, o_addL, o_addT, cut_ints, sum_ints, s_chk, s_for, s_brk, s_cnt, s_retN, t_bool, g_rng, g_le, List.length_map]
  congr 5
  rw [rng0]
  unfold natsD rowOf
  rw [List.map_map, List.map_map]
  rfl
end DL
end
section
namespace DL
open PySem
end DL
end
section
namespace DL
open PySem
/-- the least and the greatest extent of a stretch in all columns that keep the bounds -/
structure Rng (L : Nat) (qs : List (Int × List Nat)) (a b : Nat) (lo hi : Int) : Prop where
  all : ∀ u : Cols, Sol (bndsOf L qs) u → lo ≤ u (b + 1) - u a - 1 ∧ u (b + 1) - u a - 1 ≤ hi
  low : ∃ u : Cols, Sol (bndsOf L qs) u ∧ u (b + 1) - u a - 1 = lo
  high : ∃ u : Cols, Sol (bndsOf L qs) u ∧ u (b + 1) - u a - 1 = hi
end DL
end
section
namespace DL
open PySem
section
variable {ns ws : List Int} {a b c : Nat} {lo hi : Int}
theorem Rng.row (R : Rng ns.length (looks ns ws) a b lo hi) (h1 : 0 < ns.length) (hn : ∀ x ∈ ns, 1 ≤ x ∧ x ≤ 60) (hw : ∀ w ∈ ws, ∀ x ∈ ns, x ≤ w) (hab : a ≤ b) : lo ≤ ext ns a b ∧ ext ns a b ≤ hi := by
  have h := R.all _ (sol_row h1 hn hw)
  have pe := pre_ext (ns := ns) (a := a) (b := b + 1) (by omega)
  rw [Nat.add_sub_cancel] at pe
  omega
theorem Rng.one (R : Rng ns.length (looks ns ws) a a lo hi) (ha : a < ns.length) : 1 ≤ lo ∧ hi ≤ 60 := by
  have f1 : ∀ u, Sol (bndsOf ns.length (looks ns ws)) u → u (a + 1) ≤ u a + 61 ∧ u a ≤ u (a + 1) - 2 := fun u so => by
    have m : ∀ x ∈ fb1 a, x ∈ bndsOf ns.length (looks ns ws) := fun x hx => List.mem_append.mpr (.inl (List.mem_flatMap.mpr ⟨a, List.mem_range.mpr ha, hx⟩))
    have p : u (a + 1) ≤ u a + 61 := so _ (m (a, a + 1, 61) (.head _))
    have q : u a ≤ u (a + 1) + -2 := so _ (m (a + 1, a, -2) (.tail _ (.head _)))
    omega
  obtain ⟨u, u1, u2⟩ := R.low
  obtain ⟨v, v1, v2⟩ := R.high
  have p := f1 u u1
  have q := f1 v v1
  omega
theorem Rng.parts {lo1 hi1 lo2 hi2 : Int} (R : Rng ns.length (looks ns ws) a b lo hi) (A : Rng ns.length (looks ns ws) a c lo1 hi1) (B : Rng ns.length (looks ns ws) (c + 1) b lo2 hi2) : lo1 + lo2 + 1 ≤ lo ∧ hi ≤ hi1 + hi2 + 1 := by
  obtain ⟨u, u1, u2⟩ := R.low
  obtain ⟨v, v1, v2⟩ := R.high
  have p1 := A.all u u1
  have p2 := B.all u u1
  have q1 := A.all v v1
  have q2 := B.all v v1
  omega
end
end DL
end
section
namespace DL
open PySem
/-- starts of lines of L words -/
structure Sts (L : Nat) (l : List Nat) : Prop where
  zero : l[0]? = some 0
  asc : l.Pairwise (· < ·)
  lt : ∀ a ∈ l, a < L
/-- sightings of L words -/
def SgOk (L : Nat) (qs : List (Int × List Nat)) : Prop := ∀ q ∈ qs, 1 ≤ q.1 ∧ q.1 ≤ 2000 ∧ Sts L q.2
theorem Sts.pos {L : Nat} {l : List Nat} (h : Sts L l) : 0 < L := by
  have := h.lt 0 (List.mem_of_getElem? h.zero)
  omega
theorem end_lt {L : Nat} : ∀ {l : List Nat} {e : Nat × Nat}, l.Pairwise (· < ·) → (∀ a ∈ l, a < L) → e ∈ endN L l → e.1 < e.2 ∧ e.2 ≤ L
  | [a], e, _, h, he => by
    have : e = (a, L) := by simpa [endN] using he
    rw [this]
    exact ⟨h a (.head _), Nat.le_refl _⟩
  | a :: b :: r, e, hp, h, he => by
    have h' : e ∈ (a, b) :: endN L (b :: r) := he
    rcases List.mem_cons.mp h' with rfl | h'
    · exact ⟨(List.pairwise_cons.mp hp).1 b (.head _), Nat.le_of_lt (h b (.tail _ (.head _)))⟩
    · exact end_lt (List.pairwise_cons.mp hp).2 (fun a ha => h a (.tail _ ha)) h'
section
variable {L : Nat} {qs : List (Int × List Nat)}
theorem in_bndsG (h : SgOk L qs) : In (L + 1) (bndsOf L qs) := fun b hb => by
  unfold bndsOf at hb
  rcases List.mem_append.mp hb with hb | hb
  · obtain ⟨p, hp, hb⟩ := List.mem_flatMap.mp hb
    have hp := List.mem_range.mp hp
    simp only [fb1, List.mem_cons, List.not_mem_nil, or_false] at hb
    rcases hb with rfl | rfl
    · exact ⟨by show p < _; omega, by show p + 1 < _; omega⟩
    · exact ⟨by show p + 1 < _; omega, by show p < _; omega⟩
  · obtain ⟨q, hq, hb⟩ := List.mem_flatMap.mp hb
    obtain ⟨_, _, s⟩ := h q hq
    unfold fbQ at hb
    rcases List.mem_append.mp hb with hb | hb
    · obtain ⟨p, hp, rfl⟩ := List.mem_map.mp hb
      have hp := List.mem_range.mp hp
      exact ⟨by show p < _; omega, by show p + 1 < _; omega⟩
    · obtain ⟨e, he, hb⟩ := List.mem_flatMap.mp hb
      have m := end_lt s.asc s.lt he
      unfold fb3 at hb
      rcases List.mem_cons.mp hb with rfl | hb
      · exact ⟨by show e.1 < _; omega, by show e.2 < _; omega⟩
      · split at hb
        · rw [List.mem_singleton.mp hb]
          exact ⟨by show e.2 + 1 < _; omega, by show e.1 < _; omega⟩
        · cases hb
theorem apart_bnds (h : SgOk L qs) : Apart2 (bndsOf L qs) := fun b hb => by
  unfold bndsOf at hb
  rcases List.mem_append.mp hb with hb | hb
  · obtain ⟨p, hp, hb⟩ := List.mem_flatMap.mp hb
    simp only [fb1, List.mem_cons, List.not_mem_nil, or_false] at hb
    rcases hb with rfl | rfl
    · show p ≠ p + 1; omega
    · show p + 1 ≠ p; omega
  · obtain ⟨q, hq, hb⟩ := List.mem_flatMap.mp hb
    obtain ⟨_, _, s⟩ := h q hq
    unfold fbQ at hb
    rcases List.mem_append.mp hb with hb | hb
    · obtain ⟨p, hp, rfl⟩ := List.mem_map.mp hb
      show p ≠ p + 1; omega
    · obtain ⟨e, he, hb⟩ := List.mem_flatMap.mp hb
      have m := end_lt s.asc s.lt he
      unfold fb3 at hb
      rcases List.mem_cons.mp hb with rfl | hb
      · show e.1 ≠ e.2; omega
      · split at hb
        · rw [List.mem_singleton.mp hb]
          show e.2 + 1 ≠ e.1; omega
        · cases hb
/-- columns that keep the bounds give a row with the looks -/
theorem row_solG {x : Cols} (h0 : 0 < L) (h : SgOk L qs) (so : Sol (bndsOf L qs) x) :
    (∀ y ∈ rowOf L x, 1 ≤ y ∧ y ≤ 60) ∧ (∀ q ∈ qs, ∀ y ∈ rowOf L x, y ≤ q.1) ∧ ∀ q ∈ qs, starts (rowOf L x) q.1 = q.2 := by
  have f1 : ∀ p, p < L → ∀ b ∈ fb1 p, b ∈ bndsOf L qs := fun p hp b hb => List.mem_append.mpr (.inl (List.mem_flatMap.mpr ⟨p, List.mem_range.mpr hp, hb⟩))
  have fq : ∀ q ∈ qs, ∀ b ∈ fbQ L q, b ∈ bndsOf L qs := fun q hq b hb => List.mem_append.mpr (.inr (List.mem_flatMap.mpr ⟨_, hq, hb⟩))
  have ones : ∀ y ∈ rowOf L x, 1 ≤ y ∧ y ≤ 60 := fun y hy => by
    obtain ⟨p, hp, rfl⟩ := List.mem_map.mp hy
    have hp := List.mem_range.mp hp
    have a := so _ (f1 p hp (p, p + 1, 61) (.head _))
    have b := so _ (f1 p hp (p + 1, p, -2) (.tail _ (.head _)))
    have a : x (p + 1) ≤ x p + 61 := a
    have b : x p ≤ x (p + 1) + -2 := b
    omega
  refine ⟨ones, fun q hq y hy => ?_, fun q hq => ?_⟩
  · obtain ⟨p, hp, rfl⟩ := List.mem_map.mp hy
    have a := so _ (fq q hq (fb2 q.1 p) (List.mem_append.mpr (.inl (List.mem_map.mpr ⟨p, hp, rfl⟩))))
    have a : x (p + 1) ≤ x p + (q.1 + 1) := a
    omega
  · have rl := rowOf_len L x
    obtain ⟨_, _, s⟩ := h q hq
    have e3 : ∀ e ∈ endN L q.2, ∀ b ∈ fb3 L q.1 e, b ∈ bndsOf L qs := fun e he b hb => fq q hq b (List.mem_append.mpr (.inr (List.mem_flatMap.mpr ⟨e, he, hb⟩)))
    have ne : q.2 ≠ [] := fun e => by have := s.zero; rw [e] at this; cases this
    have stp : ∀ {k a b : Nat}, q.2[k]? = some a → q.2[k + 1]? = some b → a < b := fun {k a b} ha hb => by
      obtain ⟨hk, ea⟩ := List.getElem?_eq_some_iff.mp ha
      obtain ⟨hk2, eb⟩ := List.getElem?_eq_some_iff.mp hb
      have := List.pairwise_iff_getElem.mp s.asc k (k + 1) hk hk2 (by omega)
      omega
    symm
    refine brk_bar_eq (fun y hy => (ones y hy).1) (by rw [rl]; exact h0) (Brk.of s.zero (fun a ha => by rw [rl]; exact s.lt a ha) fun k a b ha hb => ?_) (Bar.of ne (fun a ha => by rw [rl]; exact s.lt a ha) fun k a b ha hb => ?_)
    · rw [rl] at hb
      have he := end_atL ha hb
      have f := end_lt s.asc s.lt he
      have f1 : a < b := f.1
      have f2 : b ≤ L := f.2
      have c := so _ (e3 _ he (a, b, q.1 + 1) (.head _))
      have c : x b ≤ x a + (q.1 + 1) := c
      refine ⟨f1, ?_⟩
      rw [pre_ext f1, pre_rowOf b f2, pre_rowOf a (by omega)]
      omega
    · have st := stp ha hb
      have bl : b < L := s.lt b (List.mem_of_getElem? hb)
      have he := end_atL (L := L) ha (.inl hb)
      have c := so _ (e3 _ he (b + 1, a, -2 - q.1) (by unfold fb3; rw [if_pos bl]; exact .tail _ (.head _)))
      have c : x a ≤ x (b + 1) + (-2 - q.1) := c
      refine ⟨st, ?_⟩
      have pe := pre_ext (ns := rowOf L x) (a := a) (b := b + 1) (by omega)
      rw [Nat.add_sub_cancel, pre_rowOf (b + 1) (by omega), pre_rowOf a (by omega)] at pe
      omega
/-- .. so they are the looks of that row -/
theorem looks_solG {x : Cols} (h0 : 0 < L) (h : SgOk L qs) (so : Sol (bndsOf L qs) x) : ∃ r : List Int, r.length = L ∧ (∀ y ∈ r, 1 ≤ y ∧ y ≤ 60) ∧ (∀ q ∈ qs, ∀ y ∈ r, y ≤ q.1) ∧ qs = looks r (qs.map (·.1)) := by
  obtain ⟨p1, p2, p3⟩ := row_solG h0 h so
  refine ⟨rowOf L x, rowOf_len _ _, p1, p2, ?_⟩
  unfold looks
  rw [List.map_map]
  have : ∀ l : List (Int × List Nat), (∀ q ∈ l, q ∈ qs) → l = l.map ((fun w => (w, starts (rowOf L x) w)) ∘ (·.1)) := by
    intro l
    induction l with
    | nil => intro _; rfl
    | cons q l ih =>
      intro hl
      rw [List.map_cons, ← ih fun y hy => hl y (.tail _ hy)]
      congr 1
      show q = (q.1, starts (rowOf L x) q.1)
      rw [p3 q (hl q (.head _))]
  exact this qs fun _ h => h
end
end DL
end
section
namespace DL
open PySem
def GB (g : Nat → Option Bnd) (v : Nat) : Bnd := (g v).getD (0, 0, 0)
/-- the least number of steps after which one is back -/
theorem least_back {u : Nat → Nat} {c : Nat} (hc : 1 ≤ c) (h : u c = u 0) : ∃ r, 1 ≤ r ∧ r ≤ c ∧ u r = u 0 ∧ ∀ m, 1 ≤ m → m < r → u m ≠ u 0 := by
  have go : ∀ d k, 1 ≤ k → k + d = c → (∀ m, 1 ≤ m → m < k → u m ≠ u 0) → ∃ r, 1 ≤ r ∧ r ≤ c ∧ u r = u 0 ∧ ∀ m, 1 ≤ m → m < r → u m ≠ u 0 := by
    intro d
    induction d with
    | zero =>
      intro k hk e hm
      obtain rfl : k = c := by omega
      exact ⟨k, hk, Nat.le_refl _, h, hm⟩
    | succ d ih =>
      intro k hk e hm
      by_cases f : u k = u 0
      · exact ⟨k, hk, by omega, f, hm⟩
      · exact ih (k + 1) (by omega) (by omega) fun m h1 h2 => by
          by_cases q : m = k
          · rw [q]; exact f
          · exact hm m h1 (by omega)
  exact go (c - 1) 1 (Nat.le_refl _) (by omega) fun m h1 h2 => by omega
/-- what the givers tell after n + 1 rounds -/
structure Back (bs : List Bnd) (n : Nat) (g : Nat → Option Bnd) (v r : Nat) (u : Nat → Nat) : Prop where
  some : ∀ i, i ≤ n → ∃ b, g (way g v i) = some b ∧ way g v i < n
  zero : u 0 = way g v n
  pos : 1 ≤ r
  at_ : ∀ m, m ≤ r → g (u m) = Option.some (GB g (u m)) ∧ u m < n
  nxt : ∀ m, m < r → (GB g (u m)).1 = u (m + 1)
  shut : u r = u 0
  not_ : ∀ m, 1 ≤ m → m < r → u m ≠ u 0
  ring : Ring bs (ringB (GB g) u (r - 1))
  few : r ≤ n
theorem back_ring {bs : List Bnd} {n v : Nat} {q : TS} (hi : In n bs) (ha : Apart2 bs) (h : Giv bs q) (h0 : q.c = 0) (hc : (rnds bs q.s (n + 1)).chg = some v) : ∃ r u, Back bs n (rnds bs q.s (n + 1)).g v r u := by
  have hc' : (stRnds bs q (n + 1)).s.chg = some v := by rw [stRnds_s]; exact hc
  have lt := rnds_chg n v hc'
  have G := rnds_giv ha h (n + 1)
  have es : (stRnds bs q (n + 1)).s = rnds bs q.s (n + 1) := stRnds_s bs q (n + 1)
  have wg := way_giv ha h h0 lt
  rw [es] at wg
  generalize hg : (rnds bs q.s (n + 1)).g = g at *
  have yes : ∀ v b, g v = some b → 0 < (stRnds bs q (n + 1)).t v ∧ b.2.1 = v ∧ b ∈ bs ∧ (((stRnds bs q (n + 1)).t b.1 < (stRnds bs q (n + 1)).t v ∧ (rnds bs q.s (n + 1)).x v = (rnds bs q.s (n + 1)).x b.1 + b.2.2) ∨ ((stRnds bs q (n + 1)).t v < (stRnds bs q (n + 1)).t b.1 ∧ (rnds bs q.s (n + 1)).x b.1 + b.2.2 < (rnds bs q.s (n + 1)).x v)) := fun v b hv => by
    have := G.yes v b (by rw [es, hg]; exact hv)
    rw [es] at this
    exact this
  have sm : ∀ i, i ≤ n → ∃ b, g (way g v i) = some b ∧ way g v i < n := fun i hi2 => by
    obtain ⟨b, hb⟩ := (wg i hi2).2
    obtain ⟨_, e, mb, _⟩ := yes _ b hb
    refine ⟨b, hb, ?_⟩
    rw [← e]
    exact (hi b mb).2
  obtain ⟨i, j, hij, hj, e⟩ := pigeonR (way g v) n fun i hi2 => (sm i hi2).choose_spec.2
  let c := j - i
  let u : Nat → Nat := fun m => way g v (n - c + m)
  have hcn : c ≤ n := by show j - i ≤ n; omega
  have hc1 : 1 ≤ c := by show 1 ≤ j - i; omega
  have per : way g v n = way g v (n - c) := by
    have e1 : way g v n = way g (way g v j) (n - j) := by rw [← way_add]; congr 1; omega
    have e2 : way g v (n - c) = way g (way g v i) (n - j) := by rw [← way_add]; congr 1; show n - (j - i) = i + (n - j); omega
    rw [e1, e2, e]
  have u0 : u 0 = way g v n := per.symm
  have uc : u c = u 0 := by
    show way g v (n - c + c) = _
    rw [u0, Nat.sub_add_cancel hcn]
  obtain ⟨r, r1, rc, ur, um⟩ := least_back hc1 uc
  have at_ : ∀ m, m ≤ r → g (u m) = some (GB g (u m)) ∧ u m < n := fun m hm => by
    obtain ⟨b, hb, hl⟩ := sm (n - c + m) (by omega)
    have hb : g (u m) = some b := hb
    exact ⟨by unfold GB; rw [hb]; rfl, hl⟩
  have nxt : ∀ m, m < r → (GB g (u m)).1 = u (m + 1) := fun m hm => by
    have := (at_ m (by omega)).1
    show _ = src1 g (u m)
    unfold src1
    rw [this]
  have snd : ∀ m, m ≤ r → (GB g (u m)).2.1 = u m := fun m hm => (yes _ _ (at_ m hm).1).2.1
  have val : ∀ m, m < r → (((stRnds bs q (n + 1)).t (u (m + 1)) < (stRnds bs q (n + 1)).t (u m) ∧ (rnds bs q.s (n + 1)).x (u m) = (rnds bs q.s (n + 1)).x (u (m + 1)) + (GB g (u m)).2.2) ∨ ((stRnds bs q (n + 1)).t (u m) < (stRnds bs q (n + 1)).t (u (m + 1)) ∧ (rnds bs q.s (n + 1)).x (u (m + 1)) + (GB g (u m)).2.2 < (rnds bs q.s (n + 1)).x (u m))) := fun m hm => by
    have := (yes _ _ (at_ m (by omega)).1).2.2.2
    rw [nxt m hm] at this
    exact this
  obtain ⟨k, rfl⟩ : ∃ k, r = k + 1 := ⟨r - 1, by omega⟩
  refine ⟨k + 1, u, sm, u0, r1, at_, nxt, ur, um, ⟨?_, ?_, ?_, ?_, ?_⟩, by omega⟩
  · intro z
    have := ringB_len (GB g) u k
    rw [Nat.add_sub_cancel] at z
    rw [z] at this
    cases this
  · intro b hb
    obtain ⟨m, hm, rfl⟩ := ringB_mem hb
    exact (yes _ _ (at_ m (by omega)).1).2.2.1
  · exact ringB_chain (k + 1 - 1) (fun i hi => snd i (by omega)) fun i hi => nxt i (by omega)
  · intro b c hb hc
    rw [ringB_head] at hb
    rw [ringB_last] at hc
    cases hb
    cases hc
    rw [snd 0 (by omega), nxt (k + 1 - 1) (by omega), Nat.sub_add_cancel (by omega)]
    exact ur.symm
  · rw [Nat.add_sub_cancel]
    have strict : ∃ i, i ≤ k ∧ (rnds bs q.s (n + 1)).x (u (i + 1)) + (GB g (u i)).2.2 < (rnds bs q.s (n + 1)).x (u i) := by
      by_cases f : ∃ i, i ≤ k ∧ (rnds bs q.s (n + 1)).x (u (i + 1)) + (GB g (u i)).2.2 < (rnds bs q.s (n + 1)).x (u i)
      · exact f
      · have fall : ∀ i, i ≤ k → (stRnds bs q (n + 1)).t (u (i + 1)) < (stRnds bs q (n + 1)).t (u i) := fun i hi => by
          rcases val i (by omega) with z | z
          · exact z.1
          · exact absurd ⟨i, hi, z.2⟩ f
        have := no_fall (t := (stRnds bs q (n + 1)).t) (w := u) k fall
        rw [ur] at this
        omega
    have := ringB_sumS k (fun i hi => by
      rcases val i (by omega) with z | z <;> omega) strict
    rw [ur] at this
    omega
theorem giv_at {n v : Nat} {g : Nat → Option Bnd} {b : Bnd} (h : v < n) (e : g v = some b) : opIdx (.list (givD n g)) (.int (v : Int)) = ret (bndD b) := by
  rw [idx_list (by omega) (by rw [givD_len]; omega)]
  unfold givD
  simp [e, optD]
theorem bnd_at0 (b : Bnd) : opIdx (bndD b) (.int 0) = ret (.int (b.1 : Int)) := rfl
theorem bnds_at0 (b : Bnd) (l : List Bnd) : opIdx (.list ((b :: l).map bndD)) (.int 0) = ret (bndD b) := by
  rw [idx_list (by omega) (by simp)]
  rfl
def rg1 : XS := sAsg 1 (eIdx (eIdx (eVar 0) (eVar 1)) (eCon (.int 0)))
theorem rg1_loop {n v : Nat} {g : Nat → Option Bnd} {e3 : Ent} : ∀ (ps : List D) (i : Nat) (e2 : Ent), (∀ j, j < i + ps.length → ∃ b, g (way g v j) = some b ∧ way g v j < n) →
    ∃ e2', forL (.nm 2) rg1 ps [.val (.list (givD n g)), .val (.int (way g v i : Nat)), e2, e3] = ret (.nx [.val (.list (givD n g)), .val (.int (way g v (i + ps.length) : Nat)), e2', e3])
  | [], i, e2, _ => ⟨e2, rfl⟩
  | p :: ps, i, e2, h => by
    obtain ⟨b, hb, hl⟩ := h i (by simp)
    obtain ⟨e2', ih⟩ := rg1_loop (n := n) (v := v) (g := g) (e3 := e3) ps (i + 1) (.val p) fun j hj => h j (by rw [List.length_cons]; omega)
    refine ⟨e2', ?_⟩
    have st : rg1 [.val (.list (givD n g)), .val (.int (way g v i : Nat)), .val p, e3] = ret (.nx [.val (.list (givD n g)), .val (.int (way g v (i + 1) : Nat)), .val p, e3]) := by
      have e : way g v (i + 1) = b.1 := by
        show src1 g (way g v i) = _
        unfold src1
        rw [hb]
      unfold rg1
      simp only [x_var, x_con, x_bin, x_neg, x_cmp, x_chain, x_tTru, x_tNot, x_tAnd, x_tOr, x_tBool, x_tYes, x_not, x_and, x_or, x_if, x_b1, x_b2, x_is, x_idx, x_oNone, x_oSome, x_cut, x_aNil, x_aCons, x_tup, x_lst, x_call, x_callS,
    x_iSeq, x_iRng1, x_iRng2, x_bor, x_tBor, x_put1, List.map_cons, List.map_nil, List.cons_append, List.nil_append, List.length_cons, List.length_nil, Nat.zero_add, Nat.reduceAdd, Nat.reduceSub, List.reduceReplicate, start,
    List.getElem?_cons_zero, List.getElem?_cons_succ, List.set_cons_zero, List.set_cons_succ, bnd_ret, bnd_assoc, bnd_grd, b1_if, bnd_ite, small, Nat.reduceLeDiff, grd_true, o_add, o_sub, o_neg, o_eq, o_ne, o_lt, o_le, o_gt, o_ge, o_eqS, o_neS,
    decide_eq_true_eq, reduceIte, decide_true, decide_false, Bool.not_true, Bool.not_false, Bool.false_eq_true, itemsOf, asInt, bi2, endOf, isTy,
    grd_tt, nx_int, nx_bool, nx_str, nx_none, nx_tup, nx_lst, x_isC, x_fld, x_in, x_count, x_lstR, x_tupR, x_raise, x_star, bnd_thr, noX_ret, fld_x, exn_d, eSetO, Out.clear, List.zip_cons_cons, List.zip_nil_left, List.zip_nil_right, s_asg, s_par, s_own, s_parO, s_put, s_expr, s_ret, s_skip, s_seq, s_rel, x_asg, x_par, x_own, x_parO, x_put, x_expr, x_ret, x_retN, x_skip, x_rel, x_app, x_setI, x_sIf, x_for, x_brk, x_cnt, giv_at hl hb, bnd_at0, e]
    rw [x_forc]
    show DL.bnd (rg1 [.val (.list (givD n g)), .val (.int (way g v i : Nat)), .val p, e3]) _ = _
    rw [st, bnd_ret]
    have el : i + (p :: ps).length = i + 1 + ps.length := by rw [List.length_cons]; omega
    rw [el]
    exact ih
def rg2T : XT := (tBool (eCmp .ne (eIdx (eIdx (eVar 3) (eCon (.int 0))) (eCon (.int 0))) (eVar 1)))
def rg2 : XS := (sAsg 3 (eLst (aCons (eIdx (eVar 0) (eIdx (eIdx (eVar 3) (eCon (.int 0))) (eCon (.int 0)))) (aStar (eVar 3) (aNil)))))
theorem ringB_cons (G : Nat → Bnd) (w : Nat → Nat) : ∀ k, ∃ l, ringB G w k = G (w k) :: l
  | 0 => ⟨_, rfl⟩
  | _ + 1 => ⟨_, rfl⟩
theorem ring_before_0 {bs : List Bnd} {n v r : Nat} {g : Nat → Option Bnd} {u : Nat → Nat} (hn : n ≤ 1000) (B : Back bs n g v r u) : w_ring_before_0 [.list (givD n g), .int (v : Int)] = ret (.tuple ((ringB (GB g) u (r - 1)).map bndD)) := by
  have e : w_ring_before_0 = fn 2 4 (sSeq (sFor (iRng1 (eB1 .len (eVar 0))) (.nm 2) rg1) (sSeq (sAsg 3 (eLst (aCons (eIdx (eVar 0) (eVar 1)) (aNil)))) (sSeq (sWhile rg2T rg2) (sRet (eB1 .tuple (eVar 3)))))) := rfl
  rw [e]
  refine (f_fn (by rfl)).trans ?_
  obtain ⟨e2, lp⟩ := rg1_loop (n := n) (v := v) (g := g) (e3 := .unk) (rng 0 (n : Int)) 0 .unk (fun j hj => by
    rw [rng_len] at hj
    exact B.some j (by omega))
  rw [rng_len] at lp
  have l0 : 0 + ((n : Int) - 0).toNat = n := by omega
  rw [l0] at lp
  have ir : rngOk 0 (n : Int) := by unfold rngOk; omega
  have gl : bi1 B1.len (.list (givD n g)) = ret (.int (n : Int)) := by
    show ret (PyData.int ((givD n g).length : Int)) = _
    rw [givD_len]
  rw [s_for]
  simp only [x_var, x_con, x_bin, x_neg, x_cmp, x_chain, x_tTru, x_tNot, x_tAnd, x_tOr, x_tBool, x_tYes, x_not, x_and, x_or, x_if, x_b1, x_b2, x_is, x_idx, x_oNone, x_oSome, x_cut, x_aNil, x_aCons, x_tup, x_lst, x_call, x_callS,
    x_iSeq, x_iRng1, x_iRng2, x_bor, x_tBor, x_put1, List.map_cons, List.map_nil, List.cons_append, List.nil_append, List.length_cons, List.length_nil, Nat.zero_add, Nat.reduceAdd, Nat.reduceSub, List.reduceReplicate, start,
    List.getElem?_cons_zero, List.getElem?_cons_succ, List.set_cons_zero, List.set_cons_succ, bnd_ret, bnd_assoc, bnd_grd, b1_if, bnd_ite, small, Nat.reduceLeDiff, grd_true, o_add, o_sub, o_neg, o_eq, o_ne, o_lt, o_le, o_gt, o_ge, o_eqS, o_neS,
    decide_eq_true_eq, reduceIte, decide_true, decide_false, Bool.not_true, Bool.not_false, Bool.false_eq_true, itemsOf, asInt, bi2, endOf, isTy,
    grd_tt, nx_int, nx_bool, nx_str, nx_none, nx_tup, nx_lst, x_isC, x_fld, x_in, x_count, x_lstR, x_tupR, x_raise, x_star, bnd_thr, noX_ret, fld_x, exn_d, eSetO, Out.clear, List.zip_cons_cons, List.zip_nil_left, List.zip_nil_right, gl, grd_pos ir]
  have lp' : forL (.nm 2) rg1 (rng 0 (n : Int)) [.val (.list (givD n g)), .val (.int (v : Int)), .unk, .unk] = _ := lp
  rw [lp', bnd_ret]
  have b0 := B.at_ 0 (by have := B.pos; omega)
  rw [B.zero] at b0
  have R0 : (ringB (GB g) u 0).map bndD = [bndD (GB g (u 0))] := rfl
  have go : ∀ d k, k + d = r - 1 → Runs rg2T rg2 d [.val (.list (givD n g)), .val (.int (way g v n : Nat)), e2, .val (.list ((ringB (GB g) u k).map bndD))] [.val (.list (givD n g)), .val (.int (way g v n : Nat)), e2, .val (.list ((ringB (GB g) u (r - 1)).map bndD))] := by
    have rp := B.pos
    have te : ∀ k, k < r → rg2T [.val (.list (givD n g)), .val (.int (way g v n : Nat)), e2, .val (.list ((ringB (GB g) u k).map bndD))] = ret (!decide ((u (k + 1) : Int) = (way g v n : Nat))) := fun k hk => by
      obtain ⟨l, hl⟩ := ringB_cons (GB g) u k
      have h0 : opIdx (.list ((ringB (GB g) u k).map bndD)) (.int 0) = ret (bndD (GB g (u k))) := by rw [hl]; exact bnds_at0 _ _
      unfold rg2T
      simp only [x_var, x_con, x_bin, x_neg, x_cmp, x_chain, x_tTru, x_tNot, x_tAnd, x_tOr, x_tBool, x_tYes, x_not, x_and, x_or, x_if, x_b1, x_b2, x_is, x_idx, x_oNone, x_oSome, x_cut, x_aNil, x_aCons, x_tup, x_lst, x_call, x_callS,
    x_iSeq, x_iRng1, x_iRng2, x_bor, x_tBor, x_put1, List.map_cons, List.map_nil, List.cons_append, List.nil_append, List.length_cons, List.length_nil, Nat.zero_add, Nat.reduceAdd, Nat.reduceSub, List.reduceReplicate, start,
    List.getElem?_cons_zero, List.getElem?_cons_succ, List.set_cons_zero, List.set_cons_succ, bnd_ret, bnd_assoc, bnd_grd, b1_if, bnd_ite, small, Nat.reduceLeDiff, grd_true, o_add, o_sub, o_neg, o_eq, o_ne, o_lt, o_le, o_gt, o_ge, o_eqS, o_neS,
    decide_eq_true_eq, reduceIte, decide_true, decide_false, Bool.not_true, Bool.not_false, Bool.false_eq_true, itemsOf, asInt, bi2, endOf, isTy,
    grd_tt, nx_int, nx_bool, nx_str, nx_none, nx_tup, nx_lst, x_isC, x_fld, x_in, x_count, x_lstR, x_tupR, x_raise, x_star, bnd_thr, noX_ret, fld_x, exn_d, eSetO, Out.clear, List.zip_cons_cons, List.zip_nil_left, List.zip_nil_right, h0, bnd_at0, B.nxt k hk]
    intro d
    induction d with
    | zero =>
      intro k hk
      obtain rfl : k = r - 1 := by omega
      refine .stop ?_
      rw [te _ (by omega), Nat.sub_add_cancel rp, B.shut, B.zero, decide_eq_true rfl]
      rfl
    | succ d ih =>
      intro k hk
      have hne : ¬ ((u (k + 1) : Int) = (way g v n : Nat)) := fun z => B.not_ (k + 1) (by omega) (by omega) (by rw [B.zero]; omega)
      refine .turn (E' := [.val (.list (givD n g)), .val (.int (way g v n : Nat)), e2, .val (.list ((ringB (GB g) u (k + 1)).map bndD))]) ?_ ?_ (ih (k + 1) (by omega))
      · rw [te _ (by omega), decide_eq_false hne]
        rfl
      · obtain ⟨l, hl⟩ := ringB_cons (GB g) u k
        have a := B.at_ (k + 1) (by omega)
        have ll : ((ringB (GB g) u k).map bndD).length = k + 1 := by rw [List.length_map, ringB_len]
        have rf := B.few
        unfold rg2
        have h0 : opIdx (.list ((ringB (GB g) u k).map bndD)) (.int 0) = ret (bndD (GB g (u k))) := by rw [hl]; exact bnds_at0 _ _
        simp only [x_var, x_con, x_bin, x_neg, x_cmp, x_chain, x_tTru, x_tNot, x_tAnd, x_tOr, x_tBool, x_tYes, x_not, x_and, x_or, x_if, x_b1, x_b2, x_is, x_idx, x_oNone, x_oSome, x_cut, x_aNil, x_aCons, x_tup, x_lst, x_call, x_callS,
    x_iSeq, x_iRng1, x_iRng2, x_bor, x_tBor, x_put1, List.map_cons, List.map_nil, List.cons_append, List.nil_append, List.length_cons, List.length_nil, Nat.zero_add, Nat.reduceAdd, Nat.reduceSub, List.reduceReplicate, start,
    List.getElem?_cons_zero, List.getElem?_cons_succ, List.set_cons_zero, List.set_cons_succ, bnd_ret, bnd_assoc, bnd_grd, b1_if, bnd_ite, small, Nat.reduceLeDiff, grd_true, o_add, o_sub, o_neg, o_eq, o_ne, o_lt, o_le, o_gt, o_ge, o_eqS, o_neS,
    decide_eq_true_eq, reduceIte, decide_true, decide_false, Bool.not_true, Bool.not_false, Bool.false_eq_true, itemsOf, asInt, bi2, endOf, isTy,
    grd_tt, nx_int, nx_bool, nx_str, nx_none, nx_tup, nx_lst, x_isC, x_fld, x_in, x_count, x_lstR, x_tupR, x_raise, x_star, bnd_thr, noX_ret, fld_x, exn_d, eSetO, Out.clear, List.zip_cons_cons, List.zip_nil_left, List.zip_nil_right, s_asg, s_par, s_own, s_parO, s_put, s_expr, s_ret, s_skip, s_seq, s_rel, x_asg, x_par, x_own, x_parO, x_put, x_expr, x_ret, x_retN, x_skip, x_rel, x_app, x_setI, x_sIf, x_for, x_brk, x_cnt, h0, bnd_at0, B.nxt k (by omega), giv_at a.2 a.1, List.append_nil]
        rw [grd_pos (by rw [ll]; omega)]
        rfl
  have w0 := (go (r - 1) 0 (by omega)).eq
  rw [R0, B.zero] at w0
  have gb : bndD (GB g (way g v n)) = bndD (GB g (way g v n)) := rfl
  simp only [x_var, x_con, x_bin, x_neg, x_cmp, x_chain, x_tTru, x_tNot, x_tAnd, x_tOr, x_tBool, x_tYes, x_not, x_and, x_or, x_if, x_b1, x_b2, x_is, x_idx, x_oNone, x_oSome, x_cut, x_aNil, x_aCons, x_tup, x_lst, x_call, x_callS,
    x_iSeq, x_iRng1, x_iRng2, x_bor, x_tBor, x_put1, List.map_cons, List.map_nil, List.cons_append, List.nil_append, List.length_cons, List.length_nil, Nat.zero_add, Nat.reduceAdd, Nat.reduceSub, List.reduceReplicate, start,
    List.getElem?_cons_zero, List.getElem?_cons_succ, List.set_cons_zero, List.set_cons_succ, bnd_ret, bnd_assoc, bnd_grd, b1_if, bnd_ite, small, Nat.reduceLeDiff, grd_true, o_add, o_sub, o_neg, o_eq, o_ne, o_lt, o_le, o_gt, o_ge, o_eqS, o_neS,
    decide_eq_true_eq, reduceIte, decide_true, decide_false, Bool.not_true, Bool.not_false, Bool.false_eq_true, itemsOf, asInt, bi2, endOf, isTy,
    grd_tt, nx_int, nx_bool, nx_str, nx_none, nx_tup, nx_lst, x_isC, x_fld, x_in, x_count, x_lstR, x_tupR, x_raise, x_star, bnd_thr, noX_ret, fld_x, exn_d, eSetO, Out.clear, List.zip_cons_cons, List.zip_nil_left, List.zip_nil_right, s_asg, s_par, s_own, s_parO, s_put, s_expr, s_ret, s_skip, s_seq, s_rel, x_asg, x_par, x_own, x_parO, x_put, x_expr, x_ret, x_retN, x_skip, x_rel, x_app, x_setI, x_sIf, x_for, x_brk, x_cnt, giv_at b0.2 b0.1]
  rw [x_seq, w0]
  simp only [x_var, x_con, x_bin, x_neg, x_cmp, x_chain, x_tTru, x_tNot, x_tAnd, x_tOr, x_tBool, x_tYes, x_not, x_and, x_or, x_if, x_b1, x_b2, x_is, x_idx, x_oNone, x_oSome, x_cut, x_aNil, x_aCons, x_tup, x_lst, x_call, x_callS,
    x_iSeq, x_iRng1, x_iRng2, x_bor, x_tBor, x_put1, List.map_cons, List.map_nil, List.cons_append, List.nil_append, List.length_cons, List.length_nil, Nat.zero_add, Nat.reduceAdd, Nat.reduceSub, List.reduceReplicate, start,
    List.getElem?_cons_zero, List.getElem?_cons_succ, List.set_cons_zero, List.set_cons_succ, bnd_ret, bnd_assoc, bnd_grd, b1_if, bnd_ite, small, Nat.reduceLeDiff, grd_true, o_add, o_sub, o_neg, o_eq, o_ne, o_lt, o_le, o_gt, o_ge, o_eqS, o_neS,
    decide_eq_true_eq, reduceIte, decide_true, decide_false, Bool.not_true, Bool.not_false, Bool.false_eq_true, itemsOf, asInt, bi2, endOf, isTy,
    grd_tt, nx_int, nx_bool, nx_str, nx_none, nx_tup, nx_lst, x_isC, x_fld, x_in, x_count, x_lstR, x_tupR, x_raise, x_star, bnd_thr, noX_ret, fld_x, exn_d, eSetO, Out.clear, List.zip_cons_cons, List.zip_nil_left, List.zip_nil_right, s_asg, s_par, s_own, s_parO, s_put, s_expr, s_ret, s_skip, s_seq, s_rel, x_asg, x_par, x_own, x_parO, x_put, x_expr, x_ret, x_retN, x_skip, x_rel, x_app, x_setI, x_sIf, x_for, x_brk, x_cnt]
  rfl
end DL
end
section
namespace DL
open PySem
theorem asc_fewN {L : Nat} : ∀ {l : List Nat} {a : Nat}, l.Pairwise (· < ·) → (∀ x ∈ l, a ≤ x ∧ x < L) → l.length ≤ L - a
  | [], _, _, _ => Nat.zero_le _
  | x :: l, a, hp, h => by
    have hx := h x (.head _)
    have := asc_fewN (l := l) (a := x + 1) (List.pairwise_cons.mp hp).2 fun y hy => ⟨(List.pairwise_cons.mp hp).1 y hy, (h y (.tail _ hy)).2⟩
    rw [List.length_cons]
    omega
theorem giv_0 (bs : List Bnd) : Giv bs ⟨s0R, fun _ => 0, 0⟩ := ⟨fun _ => Nat.le_refl _, fun _ _ => rfl, fun v b h => by cases h⟩
section
variable {L : Nat} {qs : List (Int × List Nat)}
/-- a solution and a ring cannot both be -/
theorem Ring.no {bs : List Bnd} {l : List Bnd} {x : Cols} (R : Ring bs l) (so : Sol bs x) : False := by
  have go : ∀ (l : List Bnd) (b c : Bnd), (∀ b ∈ l, b ∈ bs) → Chained l → l.head? = some b → l.getLast? = some c → x c.2.1 ≤ x b.1 + sumB l := by
    intro l
    induction l with
    | nil => intro b c _ _ h _; cases h
    | cons a l ih =>
      intro b c hb hc h1 h2
      cases h1
      have sa := so a (hb a (.head _))
      cases l with
      | nil =>
        have : a = c := by simpa using h2
        subst this
        show x a.2.1 ≤ x a.1 + (a.2.2 + 0)
        omega
      | cons d l =>
        rw [List.getLast?_cons_cons] at h2
        have := ih d c (fun b hb2 => hb b (.tail _ hb2)) hc.2 rfl h2
        have e := hc.1
        rw [e] at sa
        show x c.2.1 ≤ x a.1 + (a.2.2 + sumB (d :: l))
        omega
  cases e : l with
  | nil => exact R.ne e
  | cons b r =>
    obtain ⟨c, hc⟩ : ∃ c, l.getLast? = some c := by
      rw [e]
      exact ⟨_, List.getLast?_eq_some_getLast (List.cons_ne_nil _ _)⟩
    have h1 : l.head? = some b := by rw [e]; rfl
    have t1 := go l b c R.there R.chain h1 hc
    have s := R.shut b c h1 hc
    have t2 := R.less
    rw [s] at t1
    omega
theorem read_back_ring (h1 : 0 < L) (h2 : L ≤ 900) (h : SgOk L qs) (hl : qs.length ≤ 100) {v : Nat} (hc : (rnds (bndsOf L qs) s0R (L + 2)).chg = some v) :
    ∃ l, Ring (bndsOf L qs) l ∧ l.length ≤ L + 1 ∧ w_read_back_0 [.int (L : Int), .tuple (qs.map entD)] = ret (.tuple [.str "ring", .tuple (l.map bndD)]) := by
  have hi := in_bndsG h
  have ha := apart_bnds h
  obtain ⟨r, u, B⟩ := back_ring (n := L + 1) (q := ⟨s0R, fun _ => 0, 0⟩) hi ha (giv_0 _) rfl hc
  refine ⟨_, B.ring, by rw [ringB_len]; have := B.few; have := B.pos; omega, ?_⟩
  have rb := ring_before_0 (by omega) B
  have bo := bounds_of_0 (L := L) (qs := qs) (by omega) (fun q hq => by
    have s := (h q hq).2.2
    have := asc_fewN (a := 0) s.asc (fun x hx => ⟨Nat.zero_le _, s.lt x hx⟩)
    show q.2.length ≤ 1000
    omega) (by omega)
  have e : w_read_back_0 = fn 2 8 (sSeq (sAsg 2 (eCall w_bounds_of_0 (aCons (eVar 0) (aCons (eVar 1) (aNil)))))
    (sSeq (sPar3Q 3 4 5 (eMulL (eLst (aCons (eCon (.int 0)) (aNil))) (eBin .add (eVar 0) (eCon (.int 1)))) (eMulL (eLst (aCons (eCon .none) (aNil))) (eBin .add (eVar 0) (eCon (.int 1)))) (eCon (.int 0)))
    (sSeq (sFor (iRng1 (eBin .add (eVar 0) (eCon (.int 2)))) (.nm 6) rbBody)
    (sSeq (sIf (tBool (eCmp .notN (eVar 5) (eCon .none))) (sRel 4 (sRet (eTup (aCons (eCon (.str "ring")) (aCons (eCall w_ring_before_0 (aCons (eVar 4) (aCons (eVar 5) (aNil)))) (aNil)))))) (sSkip))
    (sRel 3 (sRet (eTup (aCons (eCon (.str "row")) (aCons (eB1 .tuple (eComp (iRng1 (eVar 0)) (.nm 7) (tYes) (eBin .sub (eBin .sub (eIdx (eVar 3) (eBin .add (eVar 7) (eCon (.int 1)))) (eIdx (eVar 3) (eVar 7))) (eCon (.int 1))) [7])) (aNil)))))))))) := rfl
  rw [e]
  refine (f_fn (by rfl)).trans ?_
  generalize hbs : bndsOf L qs = bs at *
  simp only [x_var, x_con, x_bin, x_neg, x_cmp, x_chain, x_tTru, x_tNot, x_tAnd, x_tOr, x_tBool, x_tYes, x_not, x_and, x_or, x_if, x_b1, x_b2, x_is, x_idx, x_oNone, x_oSome, x_cut, x_aNil, x_aCons, x_tup, x_lst, x_call, x_callS,
    x_iSeq, x_iRng1, x_iRng2, x_bor, x_tBor, x_put1, List.map_cons, List.map_nil, List.cons_append, List.nil_append, List.length_cons, List.length_nil, Nat.zero_add, Nat.reduceAdd, Nat.reduceSub, List.reduceReplicate, start,
    List.getElem?_cons_zero, List.getElem?_cons_succ, List.set_cons_zero, List.set_cons_succ, bnd_ret, bnd_assoc, bnd_grd, b1_if, bnd_ite, small, Nat.reduceLeDiff, grd_true, o_add, o_sub, o_neg, o_eq, o_ne, o_lt, o_le, o_gt, o_ge, o_eqS, o_neS,
    decide_eq_true_eq, reduceIte, decide_true, decide_false, Bool.not_true, Bool.not_false, Bool.false_eq_true, itemsOf, asInt, bi2, endOf, isTy,
    grd_tt, nx_int, nx_bool, nx_str, nx_none, nx_tup, nx_lst, x_isC, x_fld, x_in, x_count, x_lstR, x_tupR, x_raise, x_star, bnd_thr, noX_ret, fld_x, exn_d, eSetO, Out.clear, List.zip_cons_cons, List.zip_nil_left, List.zip_nil_right, s_asg, bo]
  rw [x_seq, x_par3Q]
  simp only [x_var, x_con, x_bin, x_neg, x_cmp, x_chain, x_tTru, x_tNot, x_tAnd, x_tOr, x_tBool, x_tYes, x_not, x_and, x_or, x_if, x_b1, x_b2, x_is, x_idx, x_oNone, x_oSome, x_cut, x_aNil, x_aCons, x_tup, x_lst, x_call, x_callS,
    x_iSeq, x_iRng1, x_iRng2, x_bor, x_tBor, x_put1, List.map_cons, List.map_nil, List.cons_append, List.nil_append, List.length_cons, List.length_nil, Nat.zero_add, Nat.reduceAdd, Nat.reduceSub, List.reduceReplicate, start,
    List.getElem?_cons_zero, List.getElem?_cons_succ, List.set_cons_zero, List.set_cons_succ, bnd_ret, bnd_assoc, bnd_grd, b1_if, bnd_ite, small, Nat.reduceLeDiff, grd_true, o_add, o_sub, o_neg, o_eq, o_ne, o_lt, o_le, o_gt, o_ge, o_eqS, o_neS,
    decide_eq_true_eq, reduceIte, decide_true, decide_false, Bool.not_true, Bool.not_false, Bool.false_eq_true, itemsOf, asInt, bi2, endOf, isTy,
    grd_tt, nx_int, nx_bool, nx_str, nx_none, nx_tup, nx_lst, x_isC, x_fld, x_in, x_count, x_lstR, x_tupR, x_raise, x_star, bnd_thr, noX_ret, fld_x, exn_d, eSetO, Out.clear, List.zip_cons_cons, List.zip_nil_left, List.zip_nil_right, x_mulL, mul_one0 L h2]
  obtain ⟨e6, lp⟩ := rb_loop (n := L + 1) (bs := bs) (a := .val (.int (L : Int))) (q := .val (.tuple (qs.map entD))) (e7 := .unk) hi ((List.range (L + 1)).map fun k => k + 1) 0 s0R (.val (.int 0)) .unk
  have nt : natsD (0 :: (List.range (L + 1)).map fun k => k + 1) = rng 0 ((L : Int) + 2) := by
    rw [show (L : Int) + 2 = ((L + 2 : Nat) : Int) by omega, rng0, show List.range (L + 2) = 0 :: (List.range (L + 1)).map Nat.succ from List.range_succ_eq_map]
  rw [nt, List.length_map, List.length_range] at lp
  have hc2 : (rnds bs s0R (L + 1 + 1)).chg = some v := hc
  rw [hc2] at lp
  rw [s_for]
  have ir : rngOk 0 ((L : Int) + 2) := by unfold rngOk; omega
  simp only [x_var, x_con, x_bin, x_neg, x_cmp, x_chain, x_tTru, x_tNot, x_tAnd, x_tOr, x_tBool, x_tYes, x_not, x_and, x_or, x_if, x_b1, x_b2, x_is, x_idx, x_oNone, x_oSome, x_cut, x_aNil, x_aCons, x_tup, x_lst, x_call, x_callS,
    x_iSeq, x_iRng1, x_iRng2, x_bor, x_tBor, x_put1, List.map_cons, List.map_nil, List.cons_append, List.nil_append, List.length_cons, List.length_nil, Nat.zero_add, Nat.reduceAdd, Nat.reduceSub, List.reduceReplicate, start,
    List.getElem?_cons_zero, List.getElem?_cons_succ, List.set_cons_zero, List.set_cons_succ, bnd_ret, bnd_assoc, bnd_grd, b1_if, bnd_ite, small, Nat.reduceLeDiff, grd_true, o_add, o_sub, o_neg, o_eq, o_ne, o_lt, o_le, o_gt, o_ge, o_eqS, o_neS,
    decide_eq_true_eq, reduceIte, decide_true, decide_false, Bool.not_true, Bool.not_false, Bool.false_eq_true, itemsOf, asInt, bi2, endOf, isTy,
    grd_tt, nx_int, nx_bool, nx_str, nx_none, nx_tup, nx_lst, x_isC, x_fld, x_in, x_count, x_lstR, x_tupR, x_raise, x_star, bnd_thr, noX_ret, fld_x, exn_d, eSetO, Out.clear, List.zip_cons_cons, List.zip_nil_left, List.zip_nil_right, grd_pos ir]
  have lp' : forL (.nm 6) rbBody (rng 0 ((L : Int) + 2)) [.val (.int (L : Int)), .val (.tuple (qs.map entD)), .val (.list (bs.map bndD)), .own ((List.range (L + 1)).map fun _ => .int 0), .own ((List.range (L + 1)).map fun _ => .none), .val (.int 0), .unk, .unk] = _ := lp
  rw [lp', bnd_ret]
  have nn : opCmp .notN (lastD (some v)) .none = ret true := notN_none _
  simp only
  rw [s_if]
  simp only [x_var, x_con, x_bin, x_neg, x_cmp, x_chain, x_tTru, x_tNot, x_tAnd, x_tOr, x_tBool, x_tYes, x_not, x_and, x_or, x_if, x_b1, x_b2, x_is, x_idx, x_oNone, x_oSome, x_cut, x_aNil, x_aCons, x_tup, x_lst, x_call, x_callS,
    x_iSeq, x_iRng1, x_iRng2, x_bor, x_tBor, x_put1, List.map_cons, List.map_nil, List.cons_append, List.nil_append, List.length_cons, List.length_nil, Nat.zero_add, Nat.reduceAdd, Nat.reduceSub, List.reduceReplicate, start,
    List.getElem?_cons_zero, List.getElem?_cons_succ, List.set_cons_zero, List.set_cons_succ, bnd_ret, bnd_assoc, bnd_grd, b1_if, bnd_ite, small, Nat.reduceLeDiff, grd_true, o_add, o_sub, o_neg, o_eq, o_ne, o_lt, o_le, o_gt, o_ge, o_eqS, o_neS,
    decide_eq_true_eq, reduceIte, decide_true, decide_false, Bool.not_true, Bool.not_false, Bool.false_eq_true, itemsOf, asInt, bi2, endOf, isTy,
    grd_tt, nx_int, nx_bool, nx_str, nx_none, nx_tup, nx_lst, x_isC, x_fld, x_in, x_count, x_lstR, x_tupR, x_raise, x_star, bnd_thr, noX_ret, fld_x, exn_d, eSetO, Out.clear, List.zip_cons_cons, List.zip_nil_left, List.zip_nil_right, s_asg, s_par, s_own, s_parO, s_put, s_expr, s_ret, s_skip, s_seq, s_rel, x_asg, x_par, x_own, x_parO, x_put, x_expr, x_ret, x_retN, x_skip, x_rel, x_app, x_setI, x_sIf, x_for, x_brk, x_cnt, nn]
  simp only [lastD] at *
  have rb' : w_ring_before_0 [.list (givD (L + 1) (rnds bs s0R (L + 1 + 1)).g), .int (v : Int)] = _ := rb
  rw [rb', bnd_ret]
/-- a row with the looks, or a ring -/
theorem read_back_G (h1 : 0 < L) (h2 : L ≤ 900) (h : SgOk L qs) (hl : qs.length ≤ 100) :
    (∃ (ns : List Int) (r : List Int), ns.length = L ∧ (∀ y ∈ ns, 1 ≤ y ∧ y ≤ 60) ∧ (∀ q ∈ qs, ∀ y ∈ ns, y ≤ q.1) ∧ qs = looks ns (qs.map (·.1)) ∧
      w_read_back_0 [.int (L : Int), .tuple (qs.map entD)] = ret (.tuple [.str "row", .tuple (r.map PyData.int)]) ∧ r.length = L ∧ (∀ y ∈ r, 1 ≤ y ∧ y ≤ 60) ∧ (∀ q ∈ qs, ∀ y ∈ r, y ≤ q.1) ∧ ∀ q ∈ qs, starts r q.1 = q.2) ∨
    ∃ l, Ring (bndsOf L qs) l ∧ l.length ≤ L + 1 ∧ w_read_back_0 [.int (L : Int), .tuple (qs.map entD)] = ret (.tuple [.str "ring", .tuple (l.map bndD)]) := by
  cases hc : (rnds (bndsOf L qs) s0R (L + 2)).chg with
  | some v => exact .inr (read_back_ring h1 h2 h hl hc)
  | none =>
    left
    have so : Sol (bndsOf L qs) (rnd (bndsOf L qs) (rnds (bndsOf L qs) s0R (L + 1))).x := by
      obtain ⟨e, s, _⟩ := relR_none (s := { rnds (bndsOf L qs) s0R (L + 1) with chg := none }) hc
      show Sol _ (relR _ _).x
      rw [e]
      exact s
    obtain ⟨ns, n1, n2, n3, n4⟩ := looks_solG h1 h so
    have hw : ∀ w ∈ qs.map (·.1), ∀ x ∈ ns, x ≤ w := fun w hw x hx => by
      obtain ⟨q, hq, rfl⟩ := List.mem_map.mp hw
      exact n3 q hq x hx
    obtain ⟨r, r1, r2, r3, r4, r5⟩ := read_back_0 (ns := ns) (ws := qs.map (·.1)) (by omega) (by omega) n2 hw (by rw [List.length_map]; exact hl)
    have sd : seenD ns (qs.map (·.1)) = qs.map entD := by
      have : ∀ ws, seenD ns ws = (looks ns ws).map entD := fun ws => by unfold seenD looks; rw [List.map_map]; rfl
      rw [this, ← n4]
    rw [n1, sd] at r1
    refine ⟨ns, r, n1, n2, n3, n4, r1, by omega, r3, fun q hq => r4 q.1 (List.mem_map.mpr ⟨q, hq, rfl⟩), fun q hq => ?_⟩
    have e1 := r5 q.1 (List.mem_map.mpr ⟨q, hq, rfl⟩)
    rw [e1]
    rw [n4] at hq
    obtain ⟨w, _, e2⟩ := List.mem_map.mp hq
    rw [← e2]
end
end DL
end
section
namespace DL
open PySem
end DL
end
section
namespace DL
open PySem
def Itm (q : Int × List Int) : Prop := 1 ≤ q.1 ∧ q.1 ≤ 2000 ∧ q.2.length ≤ 30 ∧ ∀ x ∈ q.2, 0 ≤ x ∧ x < 24
def sg2 : XS := sIf (DL.tAnd (tBool (eCmp .eq (eVar 3) (eCon (.int 2)))) (tBool (eCmp .gt (eVar 5) (eCon (.int 1))))) (sSeq (sAsg 9 (eBin .add (eCon (.int 1)) (eCallS fDraw 0 (aCons (eBin .sub (eVar 5) (eCon (.int 1))) (aNil)))))
    (sSeq (sAsg 10 (eBin .add (eComp (iSeq (eVar 8)) (.nm 11) (tBool (eCmp .ne (eVar 11) (eVar 9))) (eVar 11) [11]) (eBin .mul (eLst (aCons (eVar 9) (aNil))) (eB1 .int (eIn true (eVar 9) (eVar 8))))))
    (sSet 4 (eVar 6) (eTup (aCons (eVar 7) (aCons (eB1 .tuple (eSrt (eVar 10))) (aNil))))))) (sSkip)
def sg3 : XS := sIf (tBor 4 (DL.tAnd (tBool (eCmp .eq (eVar 3) (eCon (.int 3)))) (tBool (eIn true (eBin .sub (eVar 7) (eCon (.int 1))) (eComp (iSeq (eBor 4 (eVar 4))) (.nm 12) (tYes) (eIdx (eVar 12) (eCon (.int 0))) [12]))))) (sSet 4 (eVar 6) (eTup (aCons (eB2 .max (eCon (.int 1)) (eBin .sub (eVar 7) (eCon (.int 1)))) (aCons (eVar 8) (aNil))))) (sSkip)
def sg4 : XS := sIf (DL.tAnd (tBool (eCmp .eq (eVar 3) (eCon (.int 4)))) (tBool (eCmp .gt (eVar 6) (eCon (.int 0))))) (sSet 4 (eVar 6) (eBor 4 (eTup (aCons (eVar 7) (aCons (eIdx (eIdx (eVar 4) (eBin .sub (eVar 6) (eCon (.int 1)))) (eCon (.int 1))) (aNil)))))) (sSkip)
def sg5 : XS := sIf (tBool (eCmp .eq (eVar 3) (eCon (.int 5)))) (sSeq (sAsg 8 (eB1 .tuple (eBin .add (eLst (aCons (eCon (.int 0)) (aNil))) (eComp (iRng2 (eCon (.int 1)) (eVar 5)) (.nm 9) (tBool (eCmp .eq (eCallS fDraw 0 (aCons (eCon (.int 3)) (aNil))) (eCon (.int 0)))) (eVar 9) [9]))))
    (sSet 4 (eVar 6) (eTup (aCons (eVar 7) (aCons (eVar 8) (aNil)))))) (sSkip)
theorem Ok.srtP {ps : List (Int × List Int)} {α : Type} {f : D → W α} {n : Nat} {Q : α → Prop} (h0 : 0 < ps.length) (hl : ps.length ≤ 100) (hf : ∀ ms : List (Int × List Int), ms.Perm ps → ms.Pairwise (fun a b => a.1 ≤ b.1) → Ok (f (.list (ms.map pairD))) n Q) : Ok (DL.bnd (opSrt (.list (ps.map pairD))) f) n Q := by
  intro c P X hc k
  show opSrt (.list (ps.map pairD)) c (fun a n' => f a n' P X) X
  have e : ints? (ps.map pairD) = none := by
    cases ps with
    | nil => cases h0
    | cons q r => rfl
  unfold opSrt
  simp only [e, pairs?_of]
  exact ⟨hl, fun ms h1 h2 => hf ms h1 h2 c P X hc k⟩
theorem in_intsL (neg : Bool) (x : Int) (ns : List Int) : ∃ b, opIn neg (.int x) (.list (ns.map PyData.int)) = ret (.bool b) := ⟨_, grd_pos ⟨rfl, shp_intsL _⟩ _⟩
theorem set_pair {qs : List (Int × List Int)} {i : Nat} {q : Int × List Int} : (qs.map pairD).set i (pairD q) = (qs.set i q).map pairD := List.map_set.symm
theorem itm_set {qs : List (Int × List Int)} {i : Nat} {q : Int × List Int} (h : ∀ q ∈ qs, Itm q) (hq : Itm q) : ∀ x ∈ qs.set i q, Itm x := fun x hx => by
  rcases List.mem_or_eq_of_mem_set hx with h1 | rfl
  · exact h x h1
  · exact hq
theorem flat_pair (q : Int × List Int) : flat (pairD q) = true := by
  show (true && (flat (.tuple (q.2.map PyData.int)) && true)) = true
  rw [flat_ints]
  rfl
def SgI (x1 row : D) (way : Int) (L : Nat) (i : Int) (E : Env) : Prop := ∃ (qs : List (Int × List Int)) (w : Int) (ss : List Int) (e9 e10 e11 e12 : Ent),
  E = [.stm, .val x1, .val row, .val (.int way), .own (qs.map pairD), .val (.int (L : Int)), .val (.int i), .val (.int w), .val (.tuple (ss.map PyData.int)), e9, e10, e11, e12] ∧
    (0 ≤ i ∧ i < qs.length) ∧ qs.length ≤ 6 ∧ (∀ q ∈ qs, Itm q) ∧ (1 ≤ w ∧ w ≤ 2000) ∧ ss.length ≤ 25 ∧ ∀ x ∈ ss, 0 ≤ x ∧ x < 24
section
variable {x1 row : D} {way : Int} {L : Nat} {i : Int} {E : Env}
theorem SgI.mk' {qs : List (Int × List Int)} {w : Int} {ss : List Int} {e9 e10 e11 e12 : Ent} (h1 : 0 ≤ i ∧ i < qs.length) (h2 : qs.length ≤ 6) (h3 : ∀ q ∈ qs, Itm q) (h4 : 1 ≤ w ∧ w ≤ 2000) (h5 : ss.length ≤ 25) (h6 : ∀ x ∈ ss, 0 ≤ x ∧ x < 24) :
    SgI x1 row way L i [.stm, .val x1, .val row, .val (.int way), .own (qs.map pairD), .val (.int (L : Int)), .val (.int i), .val (.int w), .val (.tuple (ss.map PyData.int)), e9, e10, e11, e12] := ⟨qs, w, ss, e9, e10, e11, e12, rfl, h1, h2, h3, h4, h5, h6⟩
theorem SgI.put {qs : List (Int × List Int)} {j : Nat} {q : Int × List Int} {w : Int} {ss : List Int} {e9 e10 e11 e12 : Ent} (h1 : 0 ≤ i ∧ i < qs.length) (h2 : qs.length ≤ 6) (h3 : ∀ q ∈ qs, Itm q) (hq : Itm q) (h4 : 1 ≤ w ∧ w ≤ 2000) (h5 : ss.length ≤ 25) (h6 : ∀ x ∈ ss, 0 ≤ x ∧ x < 24) :
    SgI x1 row way L i [.stm, .val x1, .val row, .val (.int way), .own ((qs.map pairD).set j (pairD q)), .val (.int (L : Int)), .val (.int i), .val (.int w), .val (.tuple (ss.map PyData.int)), e9, e10, e11, e12] := by
  rw [set_pair]
  exact SgI.mk' ⟨h1.1, by rw [List.length_set]; exact h1.2⟩ (by rw [List.length_set]; exact h2) (itm_set h3 hq) h4 h5 h6
theorem int_bool (b : Bool) : bi1 .int (.bool b) = ret (.int (if b = true then 1 else 0)) := by cases b <;> rfl
theorem mul_if (x : Int) (b : Bool) : opBin .mul (.list [.int x]) (.int (if b = true then 1 else 0)) = ret (.list ((if b = true then [x] else []).map PyData.int)) := by
  cases b with
  | true => exact grd_pos (by simp) _
  | false => exact grd_pos (by simp) _
theorem filt_ints (p : Int → Bool) (ns : List Int) : ((ns.map PyData.int).filter fun d => p (iv d)).map (fun d => d) = (ns.filter p).map PyData.int := by
  rw [List.map_id', List.filter_map]
  rfl
end
theorem ent_pair (w : Int) (l : List Nat) : entD (w, l) = pairD (w, l.map fun n : Nat => (n : Int)) := by
  show PyData.tuple [.int w, .tuple (natsD l)] = .tuple [.int w, .tuple ((l.map fun n : Nat => (n : Int)).map PyData.int)]
  rw [natsD_ints]
end DL
end
section
namespace DL
open PySem
/-- starts of lines, as ints -/
structure StsZ (L : Nat) (ss : List Int) : Prop where
  zero : ss.head? = some 0
  asc : ss.Pairwise (· < ·)
  lt : ∀ x ∈ ss, 0 ≤ x ∧ x < L
def ItmZ (L : Nat) (q : Int × List Int) : Prop := Itm q ∧ StsZ L q.2
theorem StsZ.rng {L : Nat} {ss : List Int} (h : StsZ L ss) (hL : L ≤ 24) : ∀ x ∈ ss, 0 ≤ x ∧ x < 24 := fun x hx => by
  have := h.lt x hx
  omega
theorem itmZ_set {L : Nat} {qs : List (Int × List Int)} {i : Nat} {q : Int × List Int} (h : ∀ q ∈ qs, ItmZ L q) (hq : ItmZ L q) : ∀ x ∈ qs.set i q, ItmZ L x := fun x hx => by
  rcases List.mem_or_eq_of_mem_set hx with h1 | rfl
  · exact h x h1
  · exact hq
theorem Ok.srtJ {ns : List Int} {α : Type} {f : D → W α} {n : Nat} {Q : α → Prop} (hf : ∀ ms : List Int, ms.Perm ns → ms.Pairwise (· ≤ ·) → Ok (f (.list (ms.map PyData.int))) n Q) : Ok (DL.bnd (opSrt (.list (ns.map PyData.int))) f) n Q := by
  intro c P X hc k
  show opSrt (.list (ns.map PyData.int)) c (fun a n' => f a n' P X) X
  unfold opSrt
  simp only [ints?_map]
  exact fun ms h1 h2 => hf ms h1 h2 c P X hc k
theorem any_int (x : Int) : ∀ ss : List Int, (ss.map PyData.int).any (fun y => PyData.eqv y (.int x)) = decide (x ∈ ss)
  | [] => rfl
  | a :: ss => by
    rw [List.map_cons, List.any_cons, any_int x ss]
    have e : PyData.eqv (.int a) (.int x) = decide (a = x) := rfl
    rw [e, Bool.eq_iff_iff, Bool.or_eq_true, decide_eq_true_eq, decide_eq_true_eq, decide_eq_true_eq, List.mem_cons]
    constructor
    · rintro (h | h)
      · exact .inl h.symm
      · exact .inr h
    · rintro (h | h)
      · exact .inl h.symm
      · exact .inr h
theorem in_intsZ (x : Int) (ns : List Int) : ∃ b, opIn true (.int x) (.tuple (ns.map PyData.int)) = ret (.bool b) ∧ b = !decide (x ∈ ns) := by
  refine ⟨_, grd_pos ⟨rfl, shp_ints _⟩ _, ?_⟩
  rw [any_int]
  cases decide (x ∈ ns) <;> rfl
/-- one place moved in or out, and sorted -/
theorem StsZ.moved {L : Nat} {ss ms : List Int} {v : Int} {b : Bool} (h : StsZ L ss) (v0 : 0 < v) (v1 : v < L) (hb : b = !decide (v ∈ ss)) (pm : ms.Perm (ss.filter (fun x => !decide (x = v)) ++ if b = true then [v] else [])) (so : ms.Pairwise (· ≤ ·)) : StsZ L ms := by
  have nd : (ss.filter (fun x => !decide (x = v)) ++ if b = true then [v] else []).Nodup := by
    refine List.nodup_append.mpr ⟨(h.asc.imp fun hh => Int.ne_of_lt hh).filter _, by split <;> simp, fun x hx y hy => ?_⟩
    have hx2 := (List.mem_filter.mp hx).2
    split at hy
    · rw [List.mem_singleton.mp hy]
      simpa using hx2
    · cases hy
  have ndm : ms.Nodup := (pm.nodup_iff).mpr nd
  have mem : ∀ x ∈ ms, 0 ≤ x ∧ x < L := fun x hx => by
    rcases List.mem_append.mp (pm.mem_iff.mp hx) with z | z
    · exact h.lt x (List.mem_filter.mp z).1
    · split at z
      · rw [List.mem_singleton.mp z]; omega
      · cases z
  have z0 : (0 : Int) ∈ ms := pm.mem_iff.mpr (List.mem_append.mpr (.inl (List.mem_filter.mpr ⟨List.mem_of_mem_head? h.zero, by simp; omega⟩)))
  refine ⟨?_, ?_, mem⟩
  · cases ms with
    | nil => cases z0
    | cons a r =>
      have ha := mem a (.head _)
      rcases List.mem_cons.mp z0 with z | z
      · rw [← z]; rfl
      · have := (List.pairwise_cons.mp so).1 0 z
        show some a = some 0
        congr 1
        omega
  · have := so.and ndm
    exact this.imp fun hh => by
      have a := hh.1
      have b := hh.2
      omega
theorem comp_sub {tg : Tg} {t : XT} {e : XE} {bt : Nat} {E : Env} : ∀ (ds acc : List D), acc.length + ds.length ≤ 1000000 →
    (∀ d ∈ ds, ∃ E1, tg.put d E = some E1 ∧ Ok (t E1) bt (fun _ => True) ∧ e E1 = ret d) → Ok (compL tg t e ds acc E) (ds.length * bt) fun ys => ∃ zs, ys = acc ++ zs ∧ zs.Sublist ds
  | [], acc, _, _ => Ok.ret ⟨[], by simp, List.Sublist.refl _⟩
  | d :: ds, acc, hl, hs => by
    obtain ⟨E1, e1, e2, h1⟩ := hs d (.head _)
    show Ok (match tg.put d E with | none => stuck | some E1 => DL.bnd (t E1) fun c => if c = true then DL.bnd (e E1) fun y => DL.grd (small acc.length) (compL tg t e ds (acc ++ [y]) E) else compL tg t e ds acc E) _ _
    simp only [e1]
    simp only [List.length_cons] at hl
    have tot : (d :: ds).length * bt = bt + ds.length * bt := by rw [List.length_cons, Nat.succ_mul]; omega
    rw [tot]
    refine Ok.bnd e2 fun c _ => ?_
    cases c with
    | true =>
      rw [if_pos rfl, h1, bnd_ret]
      refine Ok.grd (by unfold small; omega) ?_
      refine (comp_sub ds (acc ++ [d]) (by rw [List.length_append, List.length_singleton]; omega) fun d hd => hs d (.tail _ hd)).imp ?_
      rintro ys ⟨zs, rfl, sb⟩
      exact ⟨d :: zs, by simp, sb.cons₂ d⟩
    | false =>
      rw [if_neg (by decide)]
      refine (comp_sub ds acc (by omega) fun d hd => hs d (.tail _ hd)).imp ?_
      rintro ys ⟨zs, rfl, sb⟩
      exact ⟨zs, rfl, sb.cons d⟩
theorem rng_asc (a b : Int) : ∃ ms : List Int, rng a b = ms.map PyData.int ∧ ms.Pairwise (· < ·) ∧ ∀ x ∈ ms, a ≤ x ∧ x < b := by
  refine ⟨(List.range (b - a).toNat).map fun (i : Nat) => a + (i : Int), ?_, ?_, fun x hx => ?_⟩
  · unfold rng
    rw [List.map_map]
    rfl
  · rw [List.pairwise_map]
    exact List.pairwise_lt_range.imp fun hh => by omega
  · obtain ⟨i, hi, rfl⟩ := List.mem_map.mp hx
    have := List.mem_range.mp hi
    omega
theorem sub_rng {L : Nat} {zs : List D} (h : zs.Sublist (rng 1 L)) : ∃ ms : List Int, zs = ms.map PyData.int ∧ ms.Pairwise (· < ·) ∧ ∀ x ∈ ms, 1 ≤ x ∧ x < L := by
  obtain ⟨ms, e, h1, h2⟩ := rng_asc 1 L
  rw [e] at h
  obtain ⟨ks, hk, rfl⟩ := List.sublist_map_iff.mp h
  exact ⟨ks, rfl, h1.sublist hk, fun x hx => h2 x (hk.subset hx)⟩
theorem asc_pw : ∀ {l : List Nat}, ascN l = true → l.Pairwise (· < ·)
  | [], _ => .nil
  | [a], _ => by simp
  | a :: b :: r, h => by
    have h0 : (decide (a < b) && ascN (b :: r)) = true := h
    rw [Bool.and_eq_true, decide_eq_true_eq] at h0
    have ih := asc_pw h0.2
    refine List.pairwise_cons.mpr ⟨fun c hc => ?_, ih⟩
    rcases List.mem_cons.mp hc with rfl | hc
    · exact h0.1
    · have := (List.pairwise_cons.mp ih).1 c hc
      omega
theorem stsZ_starts {ns : List Int} {w : Int} (h : 0 < ns.length) : StsZ ns.length ((starts ns w).map fun n : Nat => (n : Int)) := by
  refine ⟨rfl, ?_, fun x hx => ?_⟩
  · rw [List.pairwise_map]
    have B := bar_starts (ns := ns) (w := w) h
    have := asc_pw B.asc
    exact this.imp fun hh => by omega
  · obtain ⟨n, hn, rfl⟩ := List.mem_map.mp hx
    have := starts_lt h n hn
    omega
/-- as numbers -/
theorem items_nat {L : Nat} : ∀ ms : List (Int × List Int), (∀ q ∈ ms, ItmZ L q) → ∃ qs : List (Int × List Nat), ms.map pairD = qs.map entD ∧ SgOk L qs
  | [], _ => ⟨[], rfl, fun q h => by cases h⟩
  | q :: ms, h => by
    obtain ⟨qs, e, hs⟩ := items_nat ms fun q hq => h q (.tail _ hq)
    obtain ⟨⟨a, b, _, _⟩, z⟩ := h q (.head _)
    have eq1 : q.2 = (q.2.map Int.toNat).map fun n : Nat => (n : Int) := by
      rw [List.map_map]
      have : ∀ l : List Int, (∀ x ∈ l, 0 ≤ x) → l = l.map ((fun n : Nat => (n : Int)) ∘ Int.toNat) := by
        intro l
        induction l with
        | nil => intro _; rfl
        | cons x l ih =>
          intro hx
          rw [List.map_cons, ← ih fun y hy => hx y (.tail _ hy)]
          congr 1
          have := hx x (.head _)
          show x = ((x.toNat : Nat) : Int)
          omega
      exact this q.2 fun x hx => (z.lt x hx).1
    refine ⟨(q.1, q.2.map Int.toNat) :: qs, ?_, fun p hp => ?_⟩
    · rw [List.map_cons, List.map_cons, e, ent_pair, ← eq1]
    · rcases List.mem_cons.mp hp with rfl | hp
      · refine ⟨a, b, ?_, ?_, fun n hn => ?_⟩
        · show (q.2.map Int.toNat)[0]? = some 0
          have := z.zero
          cases e2 : q.2 with
          | nil => rw [e2] at this; cases this
          | cons x l =>
            rw [e2] at this
            cases this
            rfl
        · show (q.2.map Int.toNat).Pairwise (· < ·)
          rw [List.pairwise_map]
          have : ∀ l : List Int, (∀ x ∈ l, 0 ≤ x) → l.Pairwise (· < ·) → l.Pairwise fun a b => a.toNat < b.toNat := by
            intro l
            induction l with
            | nil => intro _ _; exact List.Pairwise.nil
            | cons x l ih =>
              intro hx hp
              obtain ⟨p1, p2⟩ := List.pairwise_cons.mp hp
              refine List.pairwise_cons.mpr ⟨fun y hy => ?_, ih (fun y hy => hx y (.tail _ hy)) p2⟩
              have := p1 y hy
              have := hx x (.head _)
              omega
          exact this q.2 (fun x hx => (z.lt x hx).1) z.asc
        · obtain ⟨x, hx, rfl⟩ := List.mem_map.mp hn
          have := z.lt x hx
          omega
      · exact hs p hp
def SgJ (x1 row : D) (way : Int) (L : Nat) (i : Int) (E : Env) : Prop := ∃ (qs : List (Int × List Int)) (w : Int) (ss : List Int) (e9 e10 e11 e12 : Ent),
  E = [.stm, .val x1, .val row, .val (.int way), .own (qs.map pairD), .val (.int (L : Int)), .val (.int i), .val (.int w), .val (.tuple (ss.map PyData.int)), e9, e10, e11, e12] ∧
    (0 ≤ i ∧ i < qs.length) ∧ qs.length ≤ 6 ∧ (∀ q ∈ qs, ItmZ L q) ∧ (1 ≤ w ∧ w ≤ 2000) ∧ ss.length ≤ 25 ∧ StsZ L ss
section
variable {x1 row : D} {way : Int} {L : Nat} {i : Int} {E : Env}
theorem SgJ.mk' {qs : List (Int × List Int)} {w : Int} {ss : List Int} {e9 e10 e11 e12 : Ent} (h1 : 0 ≤ i ∧ i < qs.length) (h2 : qs.length ≤ 6) (h3 : ∀ q ∈ qs, ItmZ L q) (h4 : 1 ≤ w ∧ w ≤ 2000) (h5 : ss.length ≤ 25) (h6 : StsZ L ss) :
    SgJ x1 row way L i [.stm, .val x1, .val row, .val (.int way), .own (qs.map pairD), .val (.int (L : Int)), .val (.int i), .val (.int w), .val (.tuple (ss.map PyData.int)), e9, e10, e11, e12] := ⟨qs, w, ss, e9, e10, e11, e12, rfl, h1, h2, h3, h4, h5, h6⟩
theorem SgJ.put {qs : List (Int × List Int)} {j : Nat} {q : Int × List Int} {w : Int} {ss : List Int} {e9 e10 e11 e12 : Ent} (h1 : 0 ≤ i ∧ i < qs.length) (h2 : qs.length ≤ 6) (h3 : ∀ q ∈ qs, ItmZ L q) (hq : ItmZ L q) (h4 : 1 ≤ w ∧ w ≤ 2000) (h5 : ss.length ≤ 25) (h6 : StsZ L ss) :
    SgJ x1 row way L i [.stm, .val x1, .val row, .val (.int way), .own ((qs.map pairD).set j (pairD q)), .val (.int (L : Int)), .val (.int i), .val (.int w), .val (.tuple (ss.map PyData.int)), e9, e10, e11, e12] := by
  rw [set_pair]
  exact SgJ.mk' ⟨h1.1, by rw [List.length_set]; exact h1.2⟩ (by rw [List.length_set]; exact h2) (itmZ_set h3 hq) h4 h5 h6
theorem sg2_okZ (hL : 1 ≤ L ∧ L ≤ 24) (h : SgJ x1 row way L i E) : Ok (sg2 E) 1 fun o => ∃ E', o = .nx E' ∧ SgJ x1 row way L i E' := by
  obtain ⟨qs, w, ss, e9, e10, e11, e12, rfl, hi, h6, hq, hw, s1, s2⟩ := h
  unfold sg2
  rw [x_sIf]
  have same : ∀ e9 : Ent, SgJ x1 row way L i [.stm, .val x1, .val row, .val (.int way), .own (qs.map pairD), .val (.int (L : Int)), .val (.int i), .val (.int w), .val (.tuple (ss.map PyData.int)), e9, e10, e11, e12] := fun e9 => ⟨qs, w, ss, e9, e10, e11, e12, rfl, hi, h6, hq, hw, s1, s2⟩
  by_cases c : way = 2
  · subst c
    by_cases c2 : (1 : Int) < (L : Int)
    · try simp only [x_var, x_con, x_bin, x_neg, x_cmp, x_chain, x_tTru, x_tNot, x_tAnd, x_tOr, x_tBool, x_tYes, x_not, x_and, x_or, x_if, x_b1, x_b2, x_is, x_idx, x_oNone, x_oSome, x_cut, x_aNil, x_aCons, x_tup, x_lst, x_call, x_callS,
    x_iSeq, x_iRng1, x_iRng2, x_bor, x_tBor, x_put1, List.map_cons, List.map_nil, List.cons_append, List.nil_append, List.length_cons, List.length_nil, Nat.zero_add, Nat.reduceAdd, Nat.reduceSub, List.reduceReplicate, start,
    List.getElem?_cons_zero, List.getElem?_cons_succ, List.set_cons_zero, List.set_cons_succ, bnd_ret, bnd_assoc, bnd_grd, b1_if, bnd_ite, small, Nat.reduceLeDiff, grd_true, o_add, o_sub, o_neg, o_eq, o_ne, o_lt, o_le, o_gt, o_ge, o_eqS, o_neS,
    decide_eq_true_eq, reduceIte, decide_true, decide_false, Bool.not_true, Bool.not_false, Bool.false_eq_true, itemsOf, asInt, endOf, isTy,
    grd_tt, nx_int, nx_bool, nx_str, nx_none, nx_tup, nx_lst, x_isC, x_fld, x_in, x_count, x_lstR, x_tupR, x_raise, x_star, bnd_thr, noX_ret, fld_x, exn_d, eSetO, Out.clear, List.zip_cons_cons, List.zip_nil_left, List.zip_nil_right, s_asg, s_par, s_own, s_parO, s_put, s_expr, s_ret, s_skip, s_seq, s_rel, x_asg, x_par, x_own, x_parO, x_put, x_expr, x_ret, x_retN, x_skip, x_rel, x_app, x_setI, x_sIf, x_for, x_brk, x_cnt, b_lenT, b_lenL, b_tupL, b_tupT, b_max2, b_min2, o_addL, o_addT, cut_ints, sum_ints, s_chk, s_for, s_brk, s_cnt, s_retN, t_bool, g_rng, g_le, List.length_map, c2]
      refine Ok.drawB (many := (L : Int) - 1) (n := 0) (by omega) (by omega) fun v v0 v1 => ?_
      try simp only [x_var, x_con, x_bin, x_neg, x_cmp, x_chain, x_tTru, x_tNot, x_tAnd, x_tOr, x_tBool, x_tYes, x_not, x_and, x_or, x_if, x_b1, x_b2, x_is, x_idx, x_oNone, x_oSome, x_cut, x_aNil, x_aCons, x_tup, x_lst, x_call, x_callS,
    x_iSeq, x_iRng1, x_iRng2, x_bor, x_tBor, x_put1, List.map_cons, List.map_nil, List.cons_append, List.nil_append, List.length_cons, List.length_nil, Nat.zero_add, Nat.reduceAdd, Nat.reduceSub, List.reduceReplicate, start,
    List.getElem?_cons_zero, List.getElem?_cons_succ, List.set_cons_zero, List.set_cons_succ, bnd_ret, bnd_assoc, bnd_grd, b1_if, bnd_ite, small, Nat.reduceLeDiff, grd_true, o_add, o_sub, o_neg, o_eq, o_ne, o_lt, o_le, o_gt, o_ge, o_eqS, o_neS,
    decide_eq_true_eq, reduceIte, decide_true, decide_false, Bool.not_true, Bool.not_false, Bool.false_eq_true, itemsOf, asInt, endOf, isTy,
    grd_tt, nx_int, nx_bool, nx_str, nx_none, nx_tup, nx_lst, x_isC, x_fld, x_in, x_count, x_lstR, x_tupR, x_raise, x_star, bnd_thr, noX_ret, fld_x, exn_d, eSetO, Out.clear, List.zip_cons_cons, List.zip_nil_left, List.zip_nil_right, s_asg, s_par, s_own, s_parO, s_put, s_expr, s_ret, s_skip, s_seq, s_rel, x_asg, x_par, x_own, x_parO, x_put, x_expr, x_ret, x_retN, x_skip, x_rel, x_app, x_setI, x_sIf, x_for, x_brk, x_cnt, b_lenT, b_lenL, b_tupL, b_tupT, b_max2, b_min2, o_addL, o_addT, cut_ints, sum_ints, s_chk, s_for, s_brk, s_cnt, s_retN, t_bool, g_rng, g_le, List.length_map]
      rw [comp_filtE (ds := ss.map PyData.int) (p := fun d => !decide (iv d = 1 + v)) (f := fun d => d) rfl (by rw [List.length_map]; omega) fun d hd => by
        obtain ⟨x, hx, rfl⟩ := List.mem_map.mp hd
        exact ⟨_, rfl, by simp only [x_var, x_con, x_bin, x_neg, x_cmp, x_chain, x_tTru, x_tNot, x_tAnd, x_tOr, x_tBool, x_tYes, x_not, x_and, x_or, x_if, x_b1, x_b2, x_is, x_idx, x_oNone, x_oSome, x_cut, x_aNil, x_aCons, x_tup, x_lst, x_call, x_callS,
    x_iSeq, x_iRng1, x_iRng2, x_bor, x_tBor, x_put1, List.map_cons, List.map_nil, List.cons_append, List.nil_append, List.length_cons, List.length_nil, Nat.zero_add, Nat.reduceAdd, Nat.reduceSub, List.reduceReplicate, start,
    List.getElem?_cons_zero, List.getElem?_cons_succ, List.set_cons_zero, List.set_cons_succ, bnd_ret, bnd_assoc, bnd_grd, b1_if, bnd_ite, small, Nat.reduceLeDiff, grd_true, o_add, o_sub, o_neg, o_eq, o_ne, o_lt, o_le, o_gt, o_ge, o_eqS, o_neS,
    decide_eq_true_eq, reduceIte, decide_true, decide_false, Bool.not_true, Bool.not_false, Bool.false_eq_true, itemsOf, asInt, endOf, isTy,
    grd_tt, nx_int, nx_bool, nx_str, nx_none, nx_tup, nx_lst, x_isC, x_fld, x_in, x_count, x_lstR, x_tupR, x_raise, x_star, bnd_thr, noX_ret, fld_x, exn_d, eSetO, Out.clear, List.zip_cons_cons, List.zip_nil_left, List.zip_nil_right, s_asg, s_par, s_own, s_parO, s_put, s_expr, s_ret, s_skip, s_seq, s_rel, x_asg, x_par, x_own, x_parO, x_put, x_expr, x_ret, x_retN, x_skip, x_rel, x_app, x_setI, x_sIf, x_for, x_brk, x_cnt, b_lenT, b_lenL, b_tupL, b_tupT, b_max2, b_min2, o_addL, o_addT, cut_ints, sum_ints, s_chk, s_for, s_brk, s_cnt, s_retN, t_bool, g_rng, g_le, List.length_map, wipeE, iv]; rfl, fun _ => by simp only [x_var, x_con, x_bin, x_neg, x_cmp, x_chain, x_tTru, x_tNot, x_tAnd, x_tOr, x_tBool, x_tYes, x_not, x_and, x_or, x_if, x_b1, x_b2, x_is, x_idx, x_oNone, x_oSome, x_cut, x_aNil, x_aCons, x_tup, x_lst, x_call, x_callS,
    x_iSeq, x_iRng1, x_iRng2, x_bor, x_tBor, x_put1, List.map_cons, List.map_nil, List.cons_append, List.nil_append, List.length_cons, List.length_nil, Nat.zero_add, Nat.reduceAdd, Nat.reduceSub, List.reduceReplicate, start,
    List.getElem?_cons_zero, List.getElem?_cons_succ, List.set_cons_zero, List.set_cons_succ, bnd_ret, bnd_assoc, bnd_grd, b1_if, bnd_ite, small, Nat.reduceLeDiff, grd_true, o_add, o_sub, o_neg, o_eq, o_ne, o_lt, o_le, o_gt, o_ge, o_eqS, o_neS,
    decide_eq_true_eq, reduceIte, decide_true, decide_false, Bool.not_true, Bool.not_false, Bool.false_eq_true, itemsOf, asInt, endOf, isTy,
    grd_tt, nx_int, nx_bool, nx_str, nx_none, nx_tup, nx_lst, x_isC, x_fld, x_in, x_count, x_lstR, x_tupR, x_raise, x_star, bnd_thr, noX_ret, fld_x, exn_d, eSetO, Out.clear, List.zip_cons_cons, List.zip_nil_left, List.zip_nil_right, s_asg, s_par, s_own, s_parO, s_put, s_expr, s_ret, s_skip, s_seq, s_rel, x_asg, x_par, x_own, x_parO, x_put, x_expr, x_ret, x_retN, x_skip, x_rel, x_app, x_setI, x_sIf, x_for, x_brk, x_cnt, b_lenT, b_lenL, b_tupL, b_tupT, b_max2, b_min2, o_addL, o_addT, cut_ints, sum_ints, s_chk, s_for, s_brk, s_cnt, s_retN, t_bool, g_rng, g_le, List.length_map, wipeE]⟩]
      obtain ⟨b, eb, hb⟩ := in_intsZ (1 + v) ss
      have fi := filt_ints (fun x => !decide (x = 1 + v)) ss
      have fl : (ss.filter fun x => !decide (x = 1 + v)).length ≤ ss.length := List.length_filter_le _ _
      have il : (if b = true then [1 + v] else []).length ≤ 1 := by cases b <;> simp
      try simp only [x_var, x_con, x_bin, x_neg, x_cmp, x_chain, x_tTru, x_tNot, x_tAnd, x_tOr, x_tBool, x_tYes, x_not, x_and, x_or, x_if, x_b1, x_b2, x_is, x_idx, x_oNone, x_oSome, x_cut, x_aNil, x_aCons, x_tup, x_lst, x_call, x_callS,
    x_iSeq, x_iRng1, x_iRng2, x_bor, x_tBor, x_put1, List.map_cons, List.map_nil, List.cons_append, List.nil_append, List.length_cons, List.length_nil, Nat.zero_add, Nat.reduceAdd, Nat.reduceSub, List.reduceReplicate, start,
    List.getElem?_cons_zero, List.getElem?_cons_succ, List.set_cons_zero, List.set_cons_succ, bnd_ret, bnd_assoc, bnd_grd, b1_if, bnd_ite, small, Nat.reduceLeDiff, grd_true, o_add, o_sub, o_neg, o_eq, o_ne, o_lt, o_le, o_gt, o_ge, o_eqS, o_neS,
    decide_eq_true_eq, reduceIte, decide_true, decide_false, Bool.not_true, Bool.not_false, Bool.false_eq_true, itemsOf, asInt, endOf, isTy,
    grd_tt, nx_int, nx_bool, nx_str, nx_none, nx_tup, nx_lst, x_isC, x_fld, x_in, x_count, x_lstR, x_tupR, x_raise, x_star, bnd_thr, noX_ret, fld_x, exn_d, eSetO, Out.clear, List.zip_cons_cons, List.zip_nil_left, List.zip_nil_right, s_asg, s_par, s_own, s_parO, s_put, s_expr, s_ret, s_skip, s_seq, s_rel, x_asg, x_par, x_own, x_parO, x_put, x_expr, x_ret, x_retN, x_skip, x_rel, x_app, x_setI, x_sIf, x_for, x_brk, x_cnt, b_lenT, b_lenL, b_tupL, b_tupT, b_max2, b_min2, o_addL, o_addT, cut_ints, sum_ints, s_chk, s_for, s_brk, s_cnt, s_retN, t_bool, g_rng, g_le, List.length_map, eb, int_bool, mul_if, add_lst, fi]
      refine Ok.grd (by omega) ?_
      rw [← List.map_append]
      try simp only [x_var, x_con, x_bin, x_neg, x_cmp, x_chain, x_tTru, x_tNot, x_tAnd, x_tOr, x_tBool, x_tYes, x_not, x_and, x_or, x_if, x_b1, x_b2, x_is, x_idx, x_oNone, x_oSome, x_cut, x_aNil, x_aCons, x_tup, x_lst, x_call, x_callS,
    x_iSeq, x_iRng1, x_iRng2, x_bor, x_tBor, x_put1, List.map_cons, List.map_nil, List.cons_append, List.nil_append, List.length_cons, List.length_nil, Nat.zero_add, Nat.reduceAdd, Nat.reduceSub, List.reduceReplicate, start,
    List.getElem?_cons_zero, List.getElem?_cons_succ, List.set_cons_zero, List.set_cons_succ, bnd_ret, bnd_assoc, bnd_grd, b1_if, bnd_ite, small, Nat.reduceLeDiff, grd_true, o_add, o_sub, o_neg, o_eq, o_ne, o_lt, o_le, o_gt, o_ge, o_eqS, o_neS,
    decide_eq_true_eq, reduceIte, decide_true, decide_false, Bool.not_true, Bool.not_false, Bool.false_eq_true, itemsOf, asInt, endOf, isTy,
    grd_tt, nx_int, nx_bool, nx_str, nx_none, nx_tup, nx_lst, x_isC, x_fld, x_in, x_count, x_lstR, x_tupR, x_raise, x_star, bnd_thr, noX_ret, fld_x, exn_d, eSetO, Out.clear, List.zip_cons_cons, List.zip_nil_left, List.zip_nil_right, s_asg, s_par, s_own, s_parO, s_put, s_expr, s_ret, s_skip, s_seq, s_rel, x_asg, x_par, x_own, x_parO, x_put, x_expr, x_ret, x_retN, x_skip, x_rel, x_app, x_setI, x_sIf, x_for, x_brk, x_cnt, b_lenT, b_lenL, b_tupL, b_tupT, b_max2, b_min2, o_addL, o_addT, cut_ints, sum_ints, s_chk, s_for, s_brk, s_cnt, s_retN, t_bool, g_rng, g_le, List.length_map, x_srt]
      refine Ok.srtJ fun ms pm so => ?_
      try simp only [x_var, x_con, x_bin, x_neg, x_cmp, x_chain, x_tTru, x_tNot, x_tAnd, x_tOr, x_tBool, x_tYes, x_not, x_and, x_or, x_if, x_b1, x_b2, x_is, x_idx, x_oNone, x_oSome, x_cut, x_aNil, x_aCons, x_tup, x_lst, x_call, x_callS,
    x_iSeq, x_iRng1, x_iRng2, x_bor, x_tBor, x_put1, List.map_cons, List.map_nil, List.cons_append, List.nil_append, List.length_cons, List.length_nil, Nat.zero_add, Nat.reduceAdd, Nat.reduceSub, List.reduceReplicate, start,
    List.getElem?_cons_zero, List.getElem?_cons_succ, List.set_cons_zero, List.set_cons_succ, bnd_ret, bnd_assoc, bnd_grd, b1_if, bnd_ite, small, Nat.reduceLeDiff, grd_true, o_add, o_sub, o_neg, o_eq, o_ne, o_lt, o_le, o_gt, o_ge, o_eqS, o_neS,
    decide_eq_true_eq, reduceIte, decide_true, decide_false, Bool.not_true, Bool.not_false, Bool.false_eq_true, itemsOf, asInt, endOf, isTy,
    grd_tt, nx_int, nx_bool, nx_str, nx_none, nx_tup, nx_lst, x_isC, x_fld, x_in, x_count, x_lstR, x_tupR, x_raise, x_star, bnd_thr, noX_ret, fld_x, exn_d, eSetO, Out.clear, List.zip_cons_cons, List.zip_nil_left, List.zip_nil_right, s_asg, s_par, s_own, s_parO, s_put, s_expr, s_ret, s_skip, s_seq, s_rel, x_asg, x_par, x_own, x_parO, x_put, x_expr, x_ret, x_retN, x_skip, x_rel, x_app, x_setI, x_sIf, x_for, x_brk, x_cnt, b_lenT, b_lenL, b_tupL, b_tupT, b_max2, b_min2, o_addL, o_addT, cut_ints, sum_ints, s_chk, s_for, s_brk, s_cnt, s_retN, t_bool, g_rng, g_le, List.length_map, ixN_ok hi.1 hi.2]
      have hl := pm.length_eq
      rw [List.length_append] at hl
      have hm : StsZ L ms := StsZ.moved s2 (v := 1 + v) (by omega) (by omega) hb pm so
      refine Ok.ret ?_
      exact ⟨_, rfl, SgJ.put (q := (w, ms)) hi h6 hq ⟨⟨hw.1, hw.2, by show ms.length ≤ 30; omega, hm.rng hL.2⟩, hm⟩ hw s1 s2⟩
    · try simp only [x_var, x_con, x_bin, x_neg, x_cmp, x_chain, x_tTru, x_tNot, x_tAnd, x_tOr, x_tBool, x_tYes, x_not, x_and, x_or, x_if, x_b1, x_b2, x_is, x_idx, x_oNone, x_oSome, x_cut, x_aNil, x_aCons, x_tup, x_lst, x_call, x_callS,
    x_iSeq, x_iRng1, x_iRng2, x_bor, x_tBor, x_put1, List.map_cons, List.map_nil, List.cons_append, List.nil_append, List.length_cons, List.length_nil, Nat.zero_add, Nat.reduceAdd, Nat.reduceSub, List.reduceReplicate, start,
    List.getElem?_cons_zero, List.getElem?_cons_succ, List.set_cons_zero, List.set_cons_succ, bnd_ret, bnd_assoc, bnd_grd, b1_if, bnd_ite, small, Nat.reduceLeDiff, grd_true, o_add, o_sub, o_neg, o_eq, o_ne, o_lt, o_le, o_gt, o_ge, o_eqS, o_neS,
    decide_eq_true_eq, reduceIte, decide_true, decide_false, Bool.not_true, Bool.not_false, Bool.false_eq_true, itemsOf, asInt, endOf, isTy,
    grd_tt, nx_int, nx_bool, nx_str, nx_none, nx_tup, nx_lst, x_isC, x_fld, x_in, x_count, x_lstR, x_tupR, x_raise, x_star, bnd_thr, noX_ret, fld_x, exn_d, eSetO, Out.clear, List.zip_cons_cons, List.zip_nil_left, List.zip_nil_right, s_asg, s_par, s_own, s_parO, s_put, s_expr, s_ret, s_skip, s_seq, s_rel, x_asg, x_par, x_own, x_parO, x_put, x_expr, x_ret, x_retN, x_skip, x_rel, x_app, x_setI, x_sIf, x_for, x_brk, x_cnt, b_lenT, b_lenL, b_tupL, b_tupT, b_max2, b_min2, o_addL, o_addT, cut_ints, sum_ints, s_chk, s_for, s_brk, s_cnt, s_retN, t_bool, g_rng, g_le, List.length_map, c2, x_skip]
      exact Ok.ret ⟨_, rfl, same _⟩
  · try simp only [x_var, x_con, x_bin, x_neg, x_cmp, x_chain, x_tTru, x_tNot, x_tAnd, x_tOr, x_tBool, x_tYes, x_not, x_and, x_or, x_if, x_b1, x_b2, x_is, x_idx, x_oNone, x_oSome, x_cut, x_aNil, x_aCons, x_tup, x_lst, x_call, x_callS,
    x_iSeq, x_iRng1, x_iRng2, x_bor, x_tBor, x_put1, List.map_cons, List.map_nil, List.cons_append, List.nil_append, List.length_cons, List.length_nil, Nat.zero_add, Nat.reduceAdd, Nat.reduceSub, List.reduceReplicate, start,
    List.getElem?_cons_zero, List.getElem?_cons_succ, List.set_cons_zero, List.set_cons_succ, bnd_ret, bnd_assoc, bnd_grd, b1_if, bnd_ite, small, Nat.reduceLeDiff, grd_true, o_add, o_sub, o_neg, o_eq, o_ne, o_lt, o_le, o_gt, o_ge, o_eqS, o_neS,
    decide_eq_true_eq, reduceIte, decide_true, decide_false, Bool.not_true, Bool.not_false, Bool.false_eq_true, itemsOf, asInt, endOf, isTy,
    grd_tt, nx_int, nx_bool, nx_str, nx_none, nx_tup, nx_lst, x_isC, x_fld, x_in, x_count, x_lstR, x_tupR, x_raise, x_star, bnd_thr, noX_ret, fld_x, exn_d, eSetO, Out.clear, List.zip_cons_cons, List.zip_nil_left, List.zip_nil_right, s_asg, s_par, s_own, s_parO, s_put, s_expr, s_ret, s_skip, s_seq, s_rel, x_asg, x_par, x_own, x_parO, x_put, x_expr, x_ret, x_retN, x_skip, x_rel, x_app, x_setI, x_sIf, x_for, x_brk, x_cnt, b_lenT, b_lenL, b_tupL, b_tupT, b_max2, b_min2, o_addL, o_addT, cut_ints, sum_ints, s_chk, s_for, s_brk, s_cnt, s_retN, t_bool, g_rng, g_le, List.length_map, c, x_skip]
    exact Ok.ret ⟨_, rfl, same _⟩
theorem sg3_okZ (hL : L ≤ 24) (h : SgJ x1 row way L i E) : Ok (sg3 E) 0 fun o => ∃ E', o = .nx E' ∧ SgJ x1 row way L i E' := by
  obtain ⟨qs, w, ss, e9, e10, e11, e12, rfl, hi, h6, hq, hw, s1, s2⟩ := h
  unfold sg3
  rw [x_sIf]
  have same : SgJ x1 row way L i [.stm, .val x1, .val row, .val (.int way), .own (qs.map pairD), .val (.int (L : Int)), .val (.int i), .val (.int w), .val (.tuple (ss.map PyData.int)), e9, e10, e11, e12] := ⟨qs, w, ss, e9, e10, e11, e12, rfl, hi, h6, hq, hw, s1, s2⟩
  by_cases c : way = 3
  · subst c
    try simp only [x_var, x_con, x_bin, x_neg, x_cmp, x_chain, x_tTru, x_tNot, x_tAnd, x_tOr, x_tBool, x_tYes, x_not, x_and, x_or, x_if, x_b1, x_b2, x_is, x_idx, x_oNone, x_oSome, x_cut, x_aNil, x_aCons, x_tup, x_lst, x_call, x_callS,
    x_iSeq, x_iRng1, x_iRng2, x_bor, x_tBor, x_put1, List.map_cons, List.map_nil, List.cons_append, List.nil_append, List.length_cons, List.length_nil, Nat.zero_add, Nat.reduceAdd, Nat.reduceSub, List.reduceReplicate, start,
    List.getElem?_cons_zero, List.getElem?_cons_succ, List.set_cons_zero, List.set_cons_succ, bnd_ret, bnd_assoc, bnd_grd, b1_if, bnd_ite, small, Nat.reduceLeDiff, grd_true, o_add, o_sub, o_neg, o_eq, o_ne, o_lt, o_le, o_gt, o_ge, o_eqS, o_neS,
    decide_eq_true_eq, reduceIte, decide_true, decide_false, Bool.not_true, Bool.not_false, Bool.false_eq_true, itemsOf, asInt, endOf, isTy,
    grd_tt, nx_int, nx_bool, nx_str, nx_none, nx_tup, nx_lst, x_isC, x_fld, x_in, x_count, x_lstR, x_tupR, x_raise, x_star, bnd_thr, noX_ret, fld_x, exn_d, eSetO, Out.clear, List.zip_cons_cons, List.zip_nil_left, List.zip_nil_right, s_asg, s_par, s_own, s_parO, s_put, s_expr, s_ret, s_skip, s_seq, s_rel, x_asg, x_par, x_own, x_parO, x_put, x_expr, x_ret, x_retN, x_skip, x_rel, x_app, x_setI, x_sIf, x_for, x_brk, x_cnt, b_lenT, b_lenL, b_tupL, b_tupT, b_max2, b_min2, o_addL, o_addT, cut_ints, sum_ints, s_chk, s_for, s_brk, s_cnt, s_retN, t_bool, g_rng, g_le, List.length_map]
    rw [comp_mapE (ds := qs.map pairD) (f := fun d => match d with | .tuple [a, _] => a | _ => .none) (by simp only [x_var, x_con, x_bin, x_neg, x_cmp, x_chain, x_tTru, x_tNot, x_tAnd, x_tOr, x_tBool, x_tYes, x_not, x_and, x_or, x_if, x_b1, x_b2, x_is, x_idx, x_oNone, x_oSome, x_cut, x_aNil, x_aCons, x_tup, x_lst, x_call, x_callS,
    x_iSeq, x_iRng1, x_iRng2, x_bor, x_tBor, x_put1, List.map_cons, List.map_nil, List.cons_append, List.nil_append, List.length_cons, List.length_nil, Nat.zero_add, Nat.reduceAdd, Nat.reduceSub, List.reduceReplicate, start,
    List.getElem?_cons_zero, List.getElem?_cons_succ, List.set_cons_zero, List.set_cons_succ, bnd_ret, bnd_assoc, bnd_grd, b1_if, bnd_ite, small, Nat.reduceLeDiff, grd_true, o_add, o_sub, o_neg, o_eq, o_ne, o_lt, o_le, o_gt, o_ge, o_eqS, o_neS,
    decide_eq_true_eq, reduceIte, decide_true, decide_false, Bool.not_true, Bool.not_false, Bool.false_eq_true, itemsOf, asInt, endOf, isTy,
    grd_tt, nx_int, nx_bool, nx_str, nx_none, nx_tup, nx_lst, x_isC, x_fld, x_in, x_count, x_lstR, x_tupR, x_raise, x_star, bnd_thr, noX_ret, fld_x, exn_d, eSetO, Out.clear, List.zip_cons_cons, List.zip_nil_left, List.zip_nil_right, s_asg, s_par, s_own, s_parO, s_put, s_expr, s_ret, s_skip, s_seq, s_rel, x_asg, x_par, x_own, x_parO, x_put, x_expr, x_ret, x_retN, x_skip, x_rel, x_app, x_setI, x_sIf, x_for, x_brk, x_cnt, b_lenT, b_lenL, b_tupL, b_tupT, b_max2, b_min2, o_addL, o_addT, cut_ints, sum_ints, s_chk, s_for, s_brk, s_cnt, s_retN, t_bool, g_rng, g_le, List.length_map]) (by rw [List.length_map]; omega) fun d hd => by
      obtain ⟨q, _, rfl⟩ := List.mem_map.mp hd
      refine ⟨_, rfl, rfl, ?_⟩
      have i0 : opIdx (pairD q) (.int 0) = ret (.int q.1) := rfl
      try simp only [x_var, x_con, x_bin, x_neg, x_cmp, x_chain, x_tTru, x_tNot, x_tAnd, x_tOr, x_tBool, x_tYes, x_not, x_and, x_or, x_if, x_b1, x_b2, x_is, x_idx, x_oNone, x_oSome, x_cut, x_aNil, x_aCons, x_tup, x_lst, x_call, x_callS,
    x_iSeq, x_iRng1, x_iRng2, x_bor, x_tBor, x_put1, List.map_cons, List.map_nil, List.cons_append, List.nil_append, List.length_cons, List.length_nil, Nat.zero_add, Nat.reduceAdd, Nat.reduceSub, List.reduceReplicate, start,
    List.getElem?_cons_zero, List.getElem?_cons_succ, List.set_cons_zero, List.set_cons_succ, bnd_ret, bnd_assoc, bnd_grd, b1_if, bnd_ite, small, Nat.reduceLeDiff, grd_true, o_add, o_sub, o_neg, o_eq, o_ne, o_lt, o_le, o_gt, o_ge, o_eqS, o_neS,
    decide_eq_true_eq, reduceIte, decide_true, decide_false, Bool.not_true, Bool.not_false, Bool.false_eq_true, itemsOf, asInt, endOf, isTy,
    grd_tt, nx_int, nx_bool, nx_str, nx_none, nx_tup, nx_lst, x_isC, x_fld, x_in, x_count, x_lstR, x_tupR, x_raise, x_star, bnd_thr, noX_ret, fld_x, exn_d, eSetO, Out.clear, List.zip_cons_cons, List.zip_nil_left, List.zip_nil_right, s_asg, s_par, s_own, s_parO, s_put, s_expr, s_ret, s_skip, s_seq, s_rel, x_asg, x_par, x_own, x_parO, x_put, x_expr, x_ret, x_retN, x_skip, x_rel, x_app, x_setI, x_sIf, x_for, x_brk, x_cnt, b_lenT, b_lenL, b_tupL, b_tupT, b_max2, b_min2, o_addL, o_addT, cut_ints, sum_ints, s_chk, s_for, s_brk, s_cnt, s_retN, t_bool, g_rng, g_le, List.length_map, wipeE, i0]
      rfl]
    have e : (qs.map pairD).map (fun d => match d with | .tuple [a, _] => a | _ => .none) = (qs.map fun q => q.1).map PyData.int := by
      rw [List.map_map, List.map_map]
      rfl
    rw [e]
    obtain ⟨b, eb⟩ := in_intsL true (w - 1) (qs.map fun q => q.1)
    try simp only [x_var, x_con, x_bin, x_neg, x_cmp, x_chain, x_tTru, x_tNot, x_tAnd, x_tOr, x_tBool, x_tYes, x_not, x_and, x_or, x_if, x_b1, x_b2, x_is, x_idx, x_oNone, x_oSome, x_cut, x_aNil, x_aCons, x_tup, x_lst, x_call, x_callS,
    x_iSeq, x_iRng1, x_iRng2, x_bor, x_tBor, x_put1, List.map_cons, List.map_nil, List.cons_append, List.nil_append, List.length_cons, List.length_nil, Nat.zero_add, Nat.reduceAdd, Nat.reduceSub, List.reduceReplicate, start,
    List.getElem?_cons_zero, List.getElem?_cons_succ, List.set_cons_zero, List.set_cons_succ, bnd_ret, bnd_assoc, bnd_grd, b1_if, bnd_ite, small, Nat.reduceLeDiff, grd_true, o_add, o_sub, o_neg, o_eq, o_ne, o_lt, o_le, o_gt, o_ge, o_eqS, o_neS,
    decide_eq_true_eq, reduceIte, decide_true, decide_false, Bool.not_true, Bool.not_false, Bool.false_eq_true, itemsOf, asInt, endOf, isTy,
    grd_tt, nx_int, nx_bool, nx_str, nx_none, nx_tup, nx_lst, x_isC, x_fld, x_in, x_count, x_lstR, x_tupR, x_raise, x_star, bnd_thr, noX_ret, fld_x, exn_d, eSetO, Out.clear, List.zip_cons_cons, List.zip_nil_left, List.zip_nil_right, s_asg, s_par, s_own, s_parO, s_put, s_expr, s_ret, s_skip, s_seq, s_rel, x_asg, x_par, x_own, x_parO, x_put, x_expr, x_ret, x_retN, x_skip, x_rel, x_app, x_setI, x_sIf, x_for, x_brk, x_cnt, b_lenT, b_lenL, b_tupL, b_tupT, b_max2, b_min2, o_addL, o_addT, cut_ints, sum_ints, s_chk, s_for, s_brk, s_cnt, s_retN, t_bool, g_rng, g_le, List.length_map, eb]
    cases b with
    | false =>
      try simp only [x_var, x_con, x_bin, x_neg, x_cmp, x_chain, x_tTru, x_tNot, x_tAnd, x_tOr, x_tBool, x_tYes, x_not, x_and, x_or, x_if, x_b1, x_b2, x_is, x_idx, x_oNone, x_oSome, x_cut, x_aNil, x_aCons, x_tup, x_lst, x_call, x_callS,
    x_iSeq, x_iRng1, x_iRng2, x_bor, x_tBor, x_put1, List.map_cons, List.map_nil, List.cons_append, List.nil_append, List.length_cons, List.length_nil, Nat.zero_add, Nat.reduceAdd, Nat.reduceSub, List.reduceReplicate, start,
    List.getElem?_cons_zero, List.getElem?_cons_succ, List.set_cons_zero, List.set_cons_succ, bnd_ret, bnd_assoc, bnd_grd, b1_if, bnd_ite, small, Nat.reduceLeDiff, grd_true, o_add, o_sub, o_neg, o_eq, o_ne, o_lt, o_le, o_gt, o_ge, o_eqS, o_neS,
    decide_eq_true_eq, reduceIte, decide_true, decide_false, Bool.not_true, Bool.not_false, Bool.false_eq_true, itemsOf, asInt, endOf, isTy,
    grd_tt, nx_int, nx_bool, nx_str, nx_none, nx_tup, nx_lst, x_isC, x_fld, x_in, x_count, x_lstR, x_tupR, x_raise, x_star, bnd_thr, noX_ret, fld_x, exn_d, eSetO, Out.clear, List.zip_cons_cons, List.zip_nil_left, List.zip_nil_right, s_asg, s_par, s_own, s_parO, s_put, s_expr, s_ret, s_skip, s_seq, s_rel, x_asg, x_par, x_own, x_parO, x_put, x_expr, x_ret, x_retN, x_skip, x_rel, x_app, x_setI, x_sIf, x_for, x_brk, x_cnt, b_lenT, b_lenL, b_tupL, b_tupT, b_max2, b_min2, o_addL, o_addT, cut_ints, sum_ints, s_chk, s_for, s_brk, s_cnt, s_retN, t_bool, g_rng, g_le, List.length_map, x_skip]
      exact Ok.ret ⟨_, rfl, same⟩
    | true =>
      try simp only [x_var, x_con, x_bin, x_neg, x_cmp, x_chain, x_tTru, x_tNot, x_tAnd, x_tOr, x_tBool, x_tYes, x_not, x_and, x_or, x_if, x_b1, x_b2, x_is, x_idx, x_oNone, x_oSome, x_cut, x_aNil, x_aCons, x_tup, x_lst, x_call, x_callS,
    x_iSeq, x_iRng1, x_iRng2, x_bor, x_tBor, x_put1, List.map_cons, List.map_nil, List.cons_append, List.nil_append, List.length_cons, List.length_nil, Nat.zero_add, Nat.reduceAdd, Nat.reduceSub, List.reduceReplicate, start,
    List.getElem?_cons_zero, List.getElem?_cons_succ, List.set_cons_zero, List.set_cons_succ, bnd_ret, bnd_assoc, bnd_grd, b1_if, bnd_ite, small, Nat.reduceLeDiff, grd_true, o_add, o_sub, o_neg, o_eq, o_ne, o_lt, o_le, o_gt, o_ge, o_eqS, o_neS,
    decide_eq_true_eq, reduceIte, decide_true, decide_false, Bool.not_true, Bool.not_false, Bool.false_eq_true, itemsOf, asInt, endOf, isTy,
    grd_tt, nx_int, nx_bool, nx_str, nx_none, nx_tup, nx_lst, x_isC, x_fld, x_in, x_count, x_lstR, x_tupR, x_raise, x_star, bnd_thr, noX_ret, fld_x, exn_d, eSetO, Out.clear, List.zip_cons_cons, List.zip_nil_left, List.zip_nil_right, s_asg, s_par, s_own, s_parO, s_put, s_expr, s_ret, s_skip, s_seq, s_rel, x_asg, x_par, x_own, x_parO, x_put, x_expr, x_ret, x_retN, x_skip, x_rel, x_app, x_setI, x_sIf, x_for, x_brk, x_cnt, b_lenT, b_lenL, b_tupL, b_tupT, b_max2, b_min2, o_addL, o_addT, cut_ints, sum_ints, s_chk, s_for, s_brk, s_cnt, s_retN, t_bool, g_rng, g_le, List.length_map, b_max2, ixN_ok hi.1 hi.2]
      refine Ok.ret ?_
      refine ⟨_, rfl, SgJ.put (q := (if w - 1 > 1 then w - 1 else 1, ss)) hi h6 hq ⟨⟨?_, ?_, by show ss.length ≤ 30; omega, s2.rng hL⟩, s2⟩ hw s1 s2⟩
      · show 1 ≤ (if w - 1 > 1 then w - 1 else 1)
        split <;> omega
      · show (if w - 1 > 1 then w - 1 else 1) ≤ 2000
        split <;> omega
  · try simp only [x_var, x_con, x_bin, x_neg, x_cmp, x_chain, x_tTru, x_tNot, x_tAnd, x_tOr, x_tBool, x_tYes, x_not, x_and, x_or, x_if, x_b1, x_b2, x_is, x_idx, x_oNone, x_oSome, x_cut, x_aNil, x_aCons, x_tup, x_lst, x_call, x_callS,
    x_iSeq, x_iRng1, x_iRng2, x_bor, x_tBor, x_put1, List.map_cons, List.map_nil, List.cons_append, List.nil_append, List.length_cons, List.length_nil, Nat.zero_add, Nat.reduceAdd, Nat.reduceSub, List.reduceReplicate, start,
    List.getElem?_cons_zero, List.getElem?_cons_succ, List.set_cons_zero, List.set_cons_succ, bnd_ret, bnd_assoc, bnd_grd, b1_if, bnd_ite, small, Nat.reduceLeDiff, grd_true, o_add, o_sub, o_neg, o_eq, o_ne, o_lt, o_le, o_gt, o_ge, o_eqS, o_neS,
    decide_eq_true_eq, reduceIte, decide_true, decide_false, Bool.not_true, Bool.not_false, Bool.false_eq_true, itemsOf, asInt, endOf, isTy,
    grd_tt, nx_int, nx_bool, nx_str, nx_none, nx_tup, nx_lst, x_isC, x_fld, x_in, x_count, x_lstR, x_tupR, x_raise, x_star, bnd_thr, noX_ret, fld_x, exn_d, eSetO, Out.clear, List.zip_cons_cons, List.zip_nil_left, List.zip_nil_right, s_asg, s_par, s_own, s_parO, s_put, s_expr, s_ret, s_skip, s_seq, s_rel, x_asg, x_par, x_own, x_parO, x_put, x_expr, x_ret, x_retN, x_skip, x_rel, x_app, x_setI, x_sIf, x_for, x_brk, x_cnt, b_lenT, b_lenL, b_tupL, b_tupT, b_max2, b_min2, o_addL, o_addT, cut_ints, sum_ints, s_chk, s_for, s_brk, s_cnt, s_retN, t_bool, g_rng, g_le, List.length_map, c, x_skip]
    exact Ok.ret ⟨_, rfl, same⟩
theorem sg4_okZ (h : SgJ x1 row way L i E) : Ok (sg4 E) 0 fun o => ∃ E', o = .nx E' ∧ SgJ x1 row way L i E' := by
  obtain ⟨qs, w, ss, e9, e10, e11, e12, rfl, hi, h6, hq, hw, s1, s2⟩ := h
  unfold sg4
  rw [x_sIf]
  have same : SgJ x1 row way L i [.stm, .val x1, .val row, .val (.int way), .own (qs.map pairD), .val (.int (L : Int)), .val (.int i), .val (.int w), .val (.tuple (ss.map PyData.int)), e9, e10, e11, e12] := ⟨qs, w, ss, e9, e10, e11, e12, rfl, hi, h6, hq, hw, s1, s2⟩
  by_cases c : way = 4
  · subst c
    by_cases c2 : (0 : Int) < i
    · have il : i - 1 < ((qs.map pairD).length : Int) := by rw [List.length_map]; omega
      have ix := idx_list (ds := qs.map pairD) (i := i - 1) (by omega) il
      rw [List.getElem_map] at ix
      have lt : (i - 1).toNat < qs.length := by omega
      have i1 : opIdx (pairD (qs[(i - 1).toNat]'lt)) (.int 1) = ret (.tuple ((qs[(i - 1).toNat]'lt).2.map PyData.int)) := rfl
      have fl : ∀ ns : List Int, flat (.tuple [.int w, .tuple (ns.map PyData.int)]) = true := fun ns => flat_pair (w, ns)
      try simp only [x_var, x_con, x_bin, x_neg, x_cmp, x_chain, x_tTru, x_tNot, x_tAnd, x_tOr, x_tBool, x_tYes, x_not, x_and, x_or, x_if, x_b1, x_b2, x_is, x_idx, x_oNone, x_oSome, x_cut, x_aNil, x_aCons, x_tup, x_lst, x_call, x_callS,
    x_iSeq, x_iRng1, x_iRng2, x_bor, x_tBor, x_put1, List.map_cons, List.map_nil, List.cons_append, List.nil_append, List.length_cons, List.length_nil, Nat.zero_add, Nat.reduceAdd, Nat.reduceSub, List.reduceReplicate, start,
    List.getElem?_cons_zero, List.getElem?_cons_succ, List.set_cons_zero, List.set_cons_succ, bnd_ret, bnd_assoc, bnd_grd, b1_if, bnd_ite, small, Nat.reduceLeDiff, grd_true, o_add, o_sub, o_neg, o_eq, o_ne, o_lt, o_le, o_gt, o_ge, o_eqS, o_neS,
    decide_eq_true_eq, reduceIte, decide_true, decide_false, Bool.not_true, Bool.not_false, Bool.false_eq_true, itemsOf, asInt, endOf, isTy,
    grd_tt, nx_int, nx_bool, nx_str, nx_none, nx_tup, nx_lst, x_isC, x_fld, x_in, x_count, x_lstR, x_tupR, x_raise, x_star, bnd_thr, noX_ret, fld_x, exn_d, eSetO, Out.clear, List.zip_cons_cons, List.zip_nil_left, List.zip_nil_right, s_asg, s_par, s_own, s_parO, s_put, s_expr, s_ret, s_skip, s_seq, s_rel, x_asg, x_par, x_own, x_parO, x_put, x_expr, x_ret, x_retN, x_skip, x_rel, x_app, x_setI, x_sIf, x_for, x_brk, x_cnt, b_lenT, b_lenL, b_tupL, b_tupT, b_max2, b_min2, o_addL, o_addT, cut_ints, sum_ints, s_chk, s_for, s_brk, s_cnt, s_retN, t_bool, g_rng, g_le, List.length_map, c2, ix, i1, fl, ixN_ok hi.1 hi.2]
      have hx := hq _ (List.getElem_mem lt)
      refine Ok.ret ?_
      exact ⟨_, rfl, SgJ.put (q := (w, (qs[(i - 1).toNat]'lt).2)) hi h6 hq ⟨⟨hw.1, hw.2, hx.1.2.2.1, hx.1.2.2.2⟩, hx.2⟩ hw s1 s2⟩
    · try simp only [x_var, x_con, x_bin, x_neg, x_cmp, x_chain, x_tTru, x_tNot, x_tAnd, x_tOr, x_tBool, x_tYes, x_not, x_and, x_or, x_if, x_b1, x_b2, x_is, x_idx, x_oNone, x_oSome, x_cut, x_aNil, x_aCons, x_tup, x_lst, x_call, x_callS,
    x_iSeq, x_iRng1, x_iRng2, x_bor, x_tBor, x_put1, List.map_cons, List.map_nil, List.cons_append, List.nil_append, List.length_cons, List.length_nil, Nat.zero_add, Nat.reduceAdd, Nat.reduceSub, List.reduceReplicate, start,
    List.getElem?_cons_zero, List.getElem?_cons_succ, List.set_cons_zero, List.set_cons_succ, bnd_ret, bnd_assoc, bnd_grd, b1_if, bnd_ite, small, Nat.reduceLeDiff, grd_true, o_add, o_sub, o_neg, o_eq, o_ne, o_lt, o_le, o_gt, o_ge, o_eqS, o_neS,
    decide_eq_true_eq, reduceIte, decide_true, decide_false, Bool.not_true, Bool.not_false, Bool.false_eq_true, itemsOf, asInt, endOf, isTy,
    grd_tt, nx_int, nx_bool, nx_str, nx_none, nx_tup, nx_lst, x_isC, x_fld, x_in, x_count, x_lstR, x_tupR, x_raise, x_star, bnd_thr, noX_ret, fld_x, exn_d, eSetO, Out.clear, List.zip_cons_cons, List.zip_nil_left, List.zip_nil_right, s_asg, s_par, s_own, s_parO, s_put, s_expr, s_ret, s_skip, s_seq, s_rel, x_asg, x_par, x_own, x_parO, x_put, x_expr, x_ret, x_retN, x_skip, x_rel, x_app, x_setI, x_sIf, x_for, x_brk, x_cnt, b_lenT, b_lenL, b_tupL, b_tupT, b_max2, b_min2, o_addL, o_addT, cut_ints, sum_ints, s_chk, s_for, s_brk, s_cnt, s_retN, t_bool, g_rng, g_le, List.length_map, c2, x_skip]
      exact Ok.ret ⟨_, rfl, same⟩
  · try simp only [x_var, x_con, x_bin, x_neg, x_cmp, x_chain, x_tTru, x_tNot, x_tAnd, x_tOr, x_tBool, x_tYes, x_not, x_and, x_or, x_if, x_b1, x_b2, x_is, x_idx, x_oNone, x_oSome, x_cut, x_aNil, x_aCons, x_tup, x_lst, x_call, x_callS,
    x_iSeq, x_iRng1, x_iRng2, x_bor, x_tBor, x_put1, List.map_cons, List.map_nil, List.cons_append, List.nil_append, List.length_cons, List.length_nil, Nat.zero_add, Nat.reduceAdd, Nat.reduceSub, List.reduceReplicate, start,
    List.getElem?_cons_zero, List.getElem?_cons_succ, List.set_cons_zero, List.set_cons_succ, bnd_ret, bnd_assoc, bnd_grd, b1_if, bnd_ite, small, Nat.reduceLeDiff, grd_true, o_add, o_sub, o_neg, o_eq, o_ne, o_lt, o_le, o_gt, o_ge, o_eqS, o_neS,
    decide_eq_true_eq, reduceIte, decide_true, decide_false, Bool.not_true, Bool.not_false, Bool.false_eq_true, itemsOf, asInt, endOf, isTy,
    grd_tt, nx_int, nx_bool, nx_str, nx_none, nx_tup, nx_lst, x_isC, x_fld, x_in, x_count, x_lstR, x_tupR, x_raise, x_star, bnd_thr, noX_ret, fld_x, exn_d, eSetO, Out.clear, List.zip_cons_cons, List.zip_nil_left, List.zip_nil_right, s_asg, s_par, s_own, s_parO, s_put, s_expr, s_ret, s_skip, s_seq, s_rel, x_asg, x_par, x_own, x_parO, x_put, x_expr, x_ret, x_retN, x_skip, x_rel, x_app, x_setI, x_sIf, x_for, x_brk, x_cnt, b_lenT, b_lenL, b_tupL, b_tupT, b_max2, b_min2, o_addL, o_addT, cut_ints, sum_ints, s_chk, s_for, s_brk, s_cnt, s_retN, t_bool, g_rng, g_le, List.length_map, c, x_skip]
    exact Ok.ret ⟨_, rfl, same⟩
theorem sg5_okZ (hL : 1 ≤ L ∧ L ≤ 24) (h : SgJ x1 row way L i E) : Ok (sg5 E) 24 fun o => ∃ E', o = .nx E' ∧ SgJ x1 row way L i E' := by
  obtain ⟨qs, w, ss, e9, e10, e11, e12, rfl, hi, h6, hq, hw, s1, s2⟩ := h
  unfold sg5
  rw [x_sIf]
  by_cases c : way = 5
  · subst c
    try simp (disch := omega) only [x_var, x_con, x_bin, x_neg, x_cmp, x_chain, x_tTru, x_tNot, x_tAnd, x_tOr, x_tBool, x_tYes, x_not, x_and, x_or, x_if, x_b1, x_b2, x_is, x_idx, x_oNone, x_oSome, x_cut, x_aNil, x_aCons, x_tup, x_lst, x_call, x_callS,
    x_iSeq, x_iRng1, x_iRng2, x_bor, x_tBor, x_put1, List.map_cons, List.map_nil, List.cons_append, List.nil_append, List.length_cons, List.length_nil, Nat.zero_add, Nat.reduceAdd, Nat.reduceSub, List.reduceReplicate, start,
    List.getElem?_cons_zero, List.getElem?_cons_succ, List.set_cons_zero, List.set_cons_succ, bnd_ret, bnd_assoc, bnd_grd, b1_if, bnd_ite, small, Nat.reduceLeDiff, grd_true, o_add, o_sub, o_neg, o_eq, o_ne, o_lt, o_le, o_gt, o_ge, o_eqS, o_neS,
    decide_eq_true_eq, reduceIte, decide_true, decide_false, Bool.not_true, Bool.not_false, Bool.false_eq_true, itemsOf, asInt, endOf, isTy,
    grd_tt, nx_int, nx_bool, nx_str, nx_none, nx_tup, nx_lst, x_isC, x_fld, x_in, x_count, x_lstR, x_tupR, x_raise, x_star, bnd_thr, noX_ret, fld_x, exn_d, eSetO, Out.clear, List.zip_cons_cons, List.zip_nil_left, List.zip_nil_right, s_asg, s_par, s_own, s_parO, s_put, s_expr, s_ret, s_skip, s_seq, s_rel, x_asg, x_par, x_own, x_parO, x_put, x_expr, x_ret, x_retN, x_skip, x_rel, x_app, x_setI, x_sIf, x_for, x_brk, x_cnt, b_lenT, b_lenL, b_tupL, b_tupT, b_max2, b_min2, o_addL, o_addT, cut_ints, sum_ints, s_chk, s_for, s_brk, s_cnt, s_retN, t_bool, g_rng, g_le, List.length_map, x_comp, wipeE]
    refine Ok.bnd' 24 (Ok.noX (comp_sub (bt := 1) (rng 1 L) [] (by rw [rng_len]; simp; omega) fun d hd => ?_)) (by rw [rng_len]; omega) ?_
    · obtain ⟨r, rfl, r0, r1⟩ := rng_mem hd
      refine ⟨_, rfl, ?_, ?_⟩
      · try simp only [x_var, x_con, x_bin, x_neg, x_cmp, x_chain, x_tTru, x_tNot, x_tAnd, x_tOr, x_tBool, x_tYes, x_not, x_and, x_or, x_if, x_b1, x_b2, x_is, x_idx, x_oNone, x_oSome, x_cut, x_aNil, x_aCons, x_tup, x_lst, x_call, x_callS,
    x_iSeq, x_iRng1, x_iRng2, x_bor, x_tBor, x_put1, List.map_cons, List.map_nil, List.cons_append, List.nil_append, List.length_cons, List.length_nil, Nat.zero_add, Nat.reduceAdd, Nat.reduceSub, List.reduceReplicate, start,
    List.getElem?_cons_zero, List.getElem?_cons_succ, List.set_cons_zero, List.set_cons_succ, bnd_ret, bnd_assoc, bnd_grd, b1_if, bnd_ite, small, Nat.reduceLeDiff, grd_true, o_add, o_sub, o_neg, o_eq, o_ne, o_lt, o_le, o_gt, o_ge, o_eqS, o_neS,
    decide_eq_true_eq, reduceIte, decide_true, decide_false, Bool.not_true, Bool.not_false, Bool.false_eq_true, itemsOf, asInt, endOf, isTy,
    grd_tt, nx_int, nx_bool, nx_str, nx_none, nx_tup, nx_lst, x_isC, x_fld, x_in, x_count, x_lstR, x_tupR, x_raise, x_star, bnd_thr, noX_ret, fld_x, exn_d, eSetO, Out.clear, List.zip_cons_cons, List.zip_nil_left, List.zip_nil_right, s_asg, s_par, s_own, s_parO, s_put, s_expr, s_ret, s_skip, s_seq, s_rel, x_asg, x_par, x_own, x_parO, x_put, x_expr, x_ret, x_retN, x_skip, x_rel, x_app, x_setI, x_sIf, x_for, x_brk, x_cnt, b_lenT, b_lenL, b_tupL, b_tupT, b_max2, b_min2, o_addL, o_addT, cut_ints, sum_ints, s_chk, s_for, s_brk, s_cnt, s_retN, t_bool, g_rng, g_le, List.length_map]
        refine Ok.drawB (n := 0) (by omega) (by omega) fun r r0 r1 => ?_
        try simp only [x_var, x_con, x_bin, x_neg, x_cmp, x_chain, x_tTru, x_tNot, x_tAnd, x_tOr, x_tBool, x_tYes, x_not, x_and, x_or, x_if, x_b1, x_b2, x_is, x_idx, x_oNone, x_oSome, x_cut, x_aNil, x_aCons, x_tup, x_lst, x_call, x_callS,
    x_iSeq, x_iRng1, x_iRng2, x_bor, x_tBor, x_put1, List.map_cons, List.map_nil, List.cons_append, List.nil_append, List.length_cons, List.length_nil, Nat.zero_add, Nat.reduceAdd, Nat.reduceSub, List.reduceReplicate, start,
    List.getElem?_cons_zero, List.getElem?_cons_succ, List.set_cons_zero, List.set_cons_succ, bnd_ret, bnd_assoc, bnd_grd, b1_if, bnd_ite, small, Nat.reduceLeDiff, grd_true, o_add, o_sub, o_neg, o_eq, o_ne, o_lt, o_le, o_gt, o_ge, o_eqS, o_neS,
    decide_eq_true_eq, reduceIte, decide_true, decide_false, Bool.not_true, Bool.not_false, Bool.false_eq_true, itemsOf, asInt, endOf, isTy,
    grd_tt, nx_int, nx_bool, nx_str, nx_none, nx_tup, nx_lst, x_isC, x_fld, x_in, x_count, x_lstR, x_tupR, x_raise, x_star, bnd_thr, noX_ret, fld_x, exn_d, eSetO, Out.clear, List.zip_cons_cons, List.zip_nil_left, List.zip_nil_right, s_asg, s_par, s_own, s_parO, s_put, s_expr, s_ret, s_skip, s_seq, s_rel, x_asg, x_par, x_own, x_parO, x_put, x_expr, x_ret, x_retN, x_skip, x_rel, x_app, x_setI, x_sIf, x_for, x_brk, x_cnt, b_lenT, b_lenL, b_tupL, b_tupT, b_max2, b_min2, o_addL, o_addT, cut_ints, sum_ints, s_chk, s_for, s_brk, s_cnt, s_retN, t_bool, g_rng, g_le, List.length_map]
        exact Ok.ret True.intro
      · try simp only [x_var, x_con, x_bin, x_neg, x_cmp, x_chain, x_tTru, x_tNot, x_tAnd, x_tOr, x_tBool, x_tYes, x_not, x_and, x_or, x_if, x_b1, x_b2, x_is, x_idx, x_oNone, x_oSome, x_cut, x_aNil, x_aCons, x_tup, x_lst, x_call, x_callS,
    x_iSeq, x_iRng1, x_iRng2, x_bor, x_tBor, x_put1, List.map_cons, List.map_nil, List.cons_append, List.nil_append, List.length_cons, List.length_nil, Nat.zero_add, Nat.reduceAdd, Nat.reduceSub, List.reduceReplicate, start,
    List.getElem?_cons_zero, List.getElem?_cons_succ, List.set_cons_zero, List.set_cons_succ, bnd_ret, bnd_assoc, bnd_grd, b1_if, bnd_ite, small, Nat.reduceLeDiff, grd_true, o_add, o_sub, o_neg, o_eq, o_ne, o_lt, o_le, o_gt, o_ge, o_eqS, o_neS,
    decide_eq_true_eq, reduceIte, decide_true, decide_false, Bool.not_true, Bool.not_false, Bool.false_eq_true, itemsOf, asInt, endOf, isTy,
    grd_tt, nx_int, nx_bool, nx_str, nx_none, nx_tup, nx_lst, x_isC, x_fld, x_in, x_count, x_lstR, x_tupR, x_raise, x_star, bnd_thr, noX_ret, fld_x, exn_d, eSetO, Out.clear, List.zip_cons_cons, List.zip_nil_left, List.zip_nil_right, s_asg, s_par, s_own, s_parO, s_put, s_expr, s_ret, s_skip, s_seq, s_rel, x_asg, x_par, x_own, x_parO, x_put, x_expr, x_ret, x_retN, x_skip, x_rel, x_app, x_setI, x_sIf, x_for, x_brk, x_cnt, b_lenT, b_lenL, b_tupL, b_tupT, b_max2, b_min2, o_addL, o_addT, cut_ints, sum_ints, s_chk, s_for, s_brk, s_cnt, s_retN, t_bool, g_rng, g_le, List.length_map]
    · rintro ys ⟨zs, rfl, sb⟩
      obtain ⟨ms, rfl, hs, hm⟩ := sub_rng sb
      have y1 := sb.length_le
      simp only [rng_len, List.length_map] at y1
      try simp (disch := omega) only [x_var, x_con, x_bin, x_neg, x_cmp, x_chain, x_tTru, x_tNot, x_tAnd, x_tOr, x_tBool, x_tYes, x_not, x_and, x_or, x_if, x_b1, x_b2, x_is, x_idx, x_oNone, x_oSome, x_cut, x_aNil, x_aCons, x_tup, x_lst, x_call, x_callS,
    x_iSeq, x_iRng1, x_iRng2, x_bor, x_tBor, x_put1, List.map_cons, List.map_nil, List.cons_append, List.nil_append, List.length_cons, List.length_nil, Nat.zero_add, Nat.reduceAdd, Nat.reduceSub, List.reduceReplicate, start,
    List.getElem?_cons_zero, List.getElem?_cons_succ, List.set_cons_zero, List.set_cons_succ, bnd_ret, bnd_assoc, bnd_grd, b1_if, bnd_ite, small, Nat.reduceLeDiff, grd_true, o_add, o_sub, o_neg, o_eq, o_ne, o_lt, o_le, o_gt, o_ge, o_eqS, o_neS,
    decide_eq_true_eq, reduceIte, decide_true, decide_false, Bool.not_true, Bool.not_false, Bool.false_eq_true, itemsOf, asInt, endOf, isTy,
    grd_tt, nx_int, nx_bool, nx_str, nx_none, nx_tup, nx_lst, x_isC, x_fld, x_in, x_count, x_lstR, x_tupR, x_raise, x_star, bnd_thr, noX_ret, fld_x, exn_d, eSetO, Out.clear, List.zip_cons_cons, List.zip_nil_left, List.zip_nil_right, s_asg, s_par, s_own, s_parO, s_put, s_expr, s_ret, s_skip, s_seq, s_rel, x_asg, x_par, x_own, x_parO, x_put, x_expr, x_ret, x_retN, x_skip, x_rel, x_app, x_setI, x_sIf, x_for, x_brk, x_cnt, b_lenT, b_lenL, b_tupL, b_tupT, b_max2, b_min2, o_addL, o_addT, cut_ints, sum_ints, s_chk, s_for, s_brk, s_cnt, s_retN, t_bool, g_rng, g_le, List.length_map, ixN_ok hi.1 hi.2]
      have hz : StsZ L (0 :: ms) := ⟨rfl, List.pairwise_cons.mpr ⟨fun x hx => by have := hm x hx; omega, hs⟩, fun x hx => by
        rcases List.mem_cons.mp hx with rfl | hx
        · omega
        · have := hm x hx; omega⟩
      refine Ok.ret ?_
      exact ⟨_, rfl, SgJ.put (q := (w, 0 :: ms)) (ss := 0 :: ms) hi h6 hq ⟨⟨hw.1, hw.2, by show (0 :: ms).length ≤ 30; rw [List.length_cons]; omega, hz.rng hL.2⟩, hz⟩ hw (by rw [List.length_cons]; omega) hz⟩
  · try simp only [x_var, x_con, x_bin, x_neg, x_cmp, x_chain, x_tTru, x_tNot, x_tAnd, x_tOr, x_tBool, x_tYes, x_not, x_and, x_or, x_if, x_b1, x_b2, x_is, x_idx, x_oNone, x_oSome, x_cut, x_aNil, x_aCons, x_tup, x_lst, x_call, x_callS,
    x_iSeq, x_iRng1, x_iRng2, x_bor, x_tBor, x_put1, List.map_cons, List.map_nil, List.cons_append, List.nil_append, List.length_cons, List.length_nil, Nat.zero_add, Nat.reduceAdd, Nat.reduceSub, List.reduceReplicate, start,
    List.getElem?_cons_zero, List.getElem?_cons_succ, List.set_cons_zero, List.set_cons_succ, bnd_ret, bnd_assoc, bnd_grd, b1_if, bnd_ite, small, Nat.reduceLeDiff, grd_true, o_add, o_sub, o_neg, o_eq, o_ne, o_lt, o_le, o_gt, o_ge, o_eqS, o_neS,
    decide_eq_true_eq, reduceIte, decide_true, decide_false, Bool.not_true, Bool.not_false, Bool.false_eq_true, itemsOf, asInt, endOf, isTy,
    grd_tt, nx_int, nx_bool, nx_str, nx_none, nx_tup, nx_lst, x_isC, x_fld, x_in, x_count, x_lstR, x_tupR, x_raise, x_star, bnd_thr, noX_ret, fld_x, exn_d, eSetO, Out.clear, List.zip_cons_cons, List.zip_nil_left, List.zip_nil_right, s_asg, s_par, s_own, s_parO, s_put, s_expr, s_ret, s_skip, s_seq, s_rel, x_asg, x_par, x_own, x_parO, x_put, x_expr, x_ret, x_retN, x_skip, x_rel, x_app, x_setI, x_sIf, x_for, x_brk, x_cnt, b_lenT, b_lenL, b_tupL, b_tupT, b_max2, b_min2, o_addL, o_addT, cut_ints, sum_ints, s_chk, s_for, s_brk, s_cnt, s_retN, t_bool, g_rng, g_le, List.length_map, c, x_skip]
    exact Ok.ret ⟨_, rfl, qs, w, ss, e9, e10, e11, e12, rfl, hi, h6, hq, hw, s1, s2⟩
end
/-- sightings of L words, as data -/
def SeenG (L : Nat) (d : D) : Prop := ∃ qs : List (Int × List Nat), d = .tuple (qs.map entD) ∧ 1 ≤ qs.length ∧ qs.length ≤ 6 ∧ SgOk L qs
theorem sightings_G {mo : Int} (hm : 1 ≤ mo ∧ mo ≤ 24) : Ok (w__law_sightings_0 [.int mo]) 120 fun d => ∃ (L : Nat) (s : D), d = .list [.int (L : Int), s] ∧ 1 ≤ L ∧ L ≤ 24 ∧ SeenG L s := by
  have e : w__law_sightings_0 = fnS 2 13 (sSeq (sPar 2 3 (eCallS w__law_row_drawn_0 0 (aCons (eVar 1) (aNil))) (eCallS fDraw 0 (aCons (eCon (.int 6)) (aNil))))
    (sSeq (sParO 4 5 (eB1 .list (eCallS w__law_seen_at_0 0 (aCons (eVar 2) (aNil)))) (eB1 .len (eVar 2)))
    (sSeq (sAsg 6 (eBor 4 (eCallS fDraw 0 (aCons (eB1 .len (eVar 4)) (aNil)))))
    (sSeq (sPut (.tp [7, 8]) (eBor 4 (eIdx (eVar 4) (eVar 6))))
    (sSeq sg2
    (sSeq sg3
    (sSeq sg4
    (sSeq sg5
    (sRel 4 (sRet (eLst (aCons (eVar 5) (aCons (eB1 .tuple (eSrt (eVar 4))) (aNil)))))))))))))) := rfl
  rw [e, x_fnS]
  refine Ok.grd rfl (Ok.fn ?_)
  rw [s_par]
  simp only [x_var, x_con, x_bin, x_neg, x_cmp, x_chain, x_tTru, x_tNot, x_tAnd, x_tOr, x_tBool, x_tYes, x_not, x_and, x_or, x_if, x_b1, x_b2, x_is, x_idx, x_oNone, x_oSome, x_cut, x_aNil, x_aCons, x_tup, x_lst, x_call, x_callS,
    x_iSeq, x_iRng1, x_iRng2, x_bor, x_tBor, x_put1, List.map_cons, List.map_nil, List.cons_append, List.nil_append, List.length_cons, List.length_nil, Nat.zero_add, Nat.reduceAdd, Nat.reduceSub, List.reduceReplicate, start,
    List.getElem?_cons_zero, List.getElem?_cons_succ, List.set_cons_zero, List.set_cons_succ, bnd_ret, bnd_assoc, bnd_grd, b1_if, bnd_ite, small, Nat.reduceLeDiff, grd_true, o_add, o_sub, o_neg, o_eq, o_ne, o_lt, o_le, o_gt, o_ge, o_eqS, o_neS,
    decide_eq_true_eq, reduceIte, decide_true, decide_false, Bool.not_true, Bool.not_false, Bool.false_eq_true, itemsOf, asInt, bi2, endOf, isTy,
    grd_tt, nx_int, nx_bool, nx_str, nx_none, nx_tup, nx_lst, x_isC, x_fld, x_in, x_count, x_lstR, x_tupR, x_raise, x_star, bnd_thr, noX_ret, fld_x, exn_d, eSetO, Out.clear, List.zip_cons_cons, List.zip_nil_left, List.zip_nil_right, start]
  refine Ok.bnd' 120 (row_drawn_0 hm) (by decide) ?_
  rintro r1 ⟨ns, rfl, a1, a2, hn⟩
  have hl : ns.length ≤ 24 := by omega
  obtain ⟨m, ema, hma⟩ := max_ints a1
  have hmm := hn m hma
  refine Ok.drawB (many := 6) (n := 59) (by decide) (by decide) fun way z0 z1 => ?_
  rw [s_parO]
  simp only [x_var, x_con, x_bin, x_neg, x_cmp, x_chain, x_tTru, x_tNot, x_tAnd, x_tOr, x_tBool, x_tYes, x_not, x_and, x_or, x_if, x_b1, x_b2, x_is, x_idx, x_oNone, x_oSome, x_cut, x_aNil, x_aCons, x_tup, x_lst, x_call, x_callS,
    x_iSeq, x_iRng1, x_iRng2, x_bor, x_tBor, x_put1, List.map_cons, List.map_nil, List.cons_append, List.nil_append, List.length_cons, List.length_nil, Nat.zero_add, Nat.reduceAdd, Nat.reduceSub, List.reduceReplicate, start,
    List.getElem?_cons_zero, List.getElem?_cons_succ, List.set_cons_zero, List.set_cons_succ, bnd_ret, bnd_assoc, bnd_grd, b1_if, bnd_ite, small, Nat.reduceLeDiff, grd_true, o_add, o_sub, o_neg, o_eq, o_ne, o_lt, o_le, o_gt, o_ge, o_eqS, o_neS,
    decide_eq_true_eq, reduceIte, decide_true, decide_false, Bool.not_true, Bool.not_false, Bool.false_eq_true, itemsOf, asInt, bi2, endOf, isTy,
    grd_tt, nx_int, nx_bool, nx_str, nx_none, nx_tup, nx_lst, x_isC, x_fld, x_in, x_count, x_lstR, x_tupR, x_raise, x_star, bnd_thr, noX_ret, fld_x, exn_d, eSetO, Out.clear, List.zip_cons_cons, List.zip_nil_left, List.zip_nil_right]
  refine Ok.bnd' 59 (seen_at_1 ema a1 hl hn hmm.2) (by decide) ?_
  rintro sd ⟨ws, rfl, hw, wne, _⟩
  have es : seenD ns ws = (ws.map fun w => (w, (starts ns w).map fun n : Nat => (n : Int))).map pairD := by
    unfold seenD
    rw [List.map_map]
    exact List.map_congr_left fun w _ => ent_pair w _
  have w0 : 0 < ws.length := List.length_pos_iff.mpr wne
  rw [es]
  generalize hqs : (ws.map fun w => (w, (starts ns w).map fun n : Nat => (n : Int))) = qs
  have ql : qs.length = ws.length := by rw [← hqs, List.length_map]
  have hq : ∀ q ∈ qs, ItmZ ns.length q ∧ q.2.length ≤ 25 := fun q hq => by
    rw [← hqs] at hq
    obtain ⟨w, hww, rfl⟩ := List.mem_map.mp hq
    have b := hw.2 w hww
    have sl := starts_len ns w
    have hz : StsZ ns.length ((starts ns w).map fun n : Nat => (n : Int)) := stsZ_starts a1
    exact ⟨⟨⟨by show 1 ≤ w; omega, b.2, by show (List.map _ _).length ≤ 30; rw [List.length_map]; omega, hz.rng hl⟩, hz⟩, by show (List.map _ _).length ≤ 25; rw [List.length_map]; omega⟩
  try simp only [x_var, x_con, x_bin, x_neg, x_cmp, x_chain, x_tTru, x_tNot, x_tAnd, x_tOr, x_tBool, x_tYes, x_not, x_and, x_or, x_if, x_b1, x_b2, x_is, x_idx, x_oNone, x_oSome, x_cut, x_aNil, x_aCons, x_tup, x_lst, x_call, x_callS,
    x_iSeq, x_iRng1, x_iRng2, x_bor, x_tBor, x_put1, List.map_cons, List.map_nil, List.cons_append, List.nil_append, List.length_cons, List.length_nil, Nat.zero_add, Nat.reduceAdd, Nat.reduceSub, List.reduceReplicate, start,
    List.getElem?_cons_zero, List.getElem?_cons_succ, List.set_cons_zero, List.set_cons_succ, bnd_ret, bnd_assoc, bnd_grd, b1_if, bnd_ite, small, Nat.reduceLeDiff, grd_true, o_add, o_sub, o_neg, o_eq, o_ne, o_lt, o_le, o_gt, o_ge, o_eqS, o_neS,
    decide_eq_true_eq, reduceIte, decide_true, decide_false, Bool.not_true, Bool.not_false, Bool.false_eq_true, itemsOf, asInt, endOf, isTy,
    grd_tt, nx_int, nx_bool, nx_str, nx_none, nx_tup, nx_lst, x_isC, x_fld, x_in, x_count, x_lstR, x_tupR, x_raise, x_star, bnd_thr, noX_ret, fld_x, exn_d, eSetO, Out.clear, List.zip_cons_cons, List.zip_nil_left, List.zip_nil_right, s_asg, s_par, s_own, s_parO, s_put, s_expr, s_ret, s_skip, s_seq, s_rel, x_asg, x_par, x_own, x_parO, x_put, x_expr, x_ret, x_retN, x_skip, x_rel, x_app, x_setI, x_sIf, x_for, x_brk, x_cnt, b_lenT, b_lenL, b_tupL, b_tupT, b_max2, b_min2, o_addL, o_addT, cut_ints, sum_ints, s_chk, s_for, s_brk, s_cnt, s_retN, t_bool, g_rng, g_le, List.length_map, list_tup, b_lenT]
  refine Ok.drawB (many := (qs.length : Int)) (n := 33) (by have := hw.1; omega) (by have := hw.1; omega) fun i i0 i1 => ?_
  try simp only [x_var, x_con, x_bin, x_neg, x_cmp, x_chain, x_tTru, x_tNot, x_tAnd, x_tOr, x_tBool, x_tYes, x_not, x_and, x_or, x_if, x_b1, x_b2, x_is, x_idx, x_oNone, x_oSome, x_cut, x_aNil, x_aCons, x_tup, x_lst, x_call, x_callS,
    x_iSeq, x_iRng1, x_iRng2, x_bor, x_tBor, x_put1, List.map_cons, List.map_nil, List.cons_append, List.nil_append, List.length_cons, List.length_nil, Nat.zero_add, Nat.reduceAdd, Nat.reduceSub, List.reduceReplicate, start,
    List.getElem?_cons_zero, List.getElem?_cons_succ, List.set_cons_zero, List.set_cons_succ, bnd_ret, bnd_assoc, bnd_grd, b1_if, bnd_ite, small, Nat.reduceLeDiff, grd_true, o_add, o_sub, o_neg, o_eq, o_ne, o_lt, o_le, o_gt, o_ge, o_eqS, o_neS,
    decide_eq_true_eq, reduceIte, decide_true, decide_false, Bool.not_true, Bool.not_false, Bool.false_eq_true, itemsOf, asInt, endOf, isTy,
    grd_tt, nx_int, nx_bool, nx_str, nx_none, nx_tup, nx_lst, x_isC, x_fld, x_in, x_count, x_lstR, x_tupR, x_raise, x_star, bnd_thr, noX_ret, fld_x, exn_d, eSetO, Out.clear, List.zip_cons_cons, List.zip_nil_left, List.zip_nil_right, s_asg, s_par, s_own, s_parO, s_put, s_expr, s_ret, s_skip, s_seq, s_rel, x_asg, x_par, x_own, x_parO, x_put, x_expr, x_ret, x_retN, x_skip, x_rel, x_app, x_setI, x_sIf, x_for, x_brk, x_cnt, b_lenT, b_lenL, b_tupL, b_tupT, b_max2, b_min2, o_addL, o_addT, cut_ints, sum_ints, s_chk, s_for, s_brk, s_cnt, s_retN, t_bool, g_rng, g_le, List.length_map]
  have il : i < ((qs.map pairD).length : Int) := by rw [List.length_map]; exact i1
  have ix := idx_list (ds := qs.map pairD) i0 il
  rw [List.getElem_map] at ix
  have lt : i.toNat < qs.length := by omega
  have pt : ∀ (E : Env), (Tg.tp [7, 8]).put (pairD (qs[i.toNat]'lt)) E = some ((E.set 7 (.val (.int (qs[i.toNat]'lt).1))).set 8 (.val (.tuple ((qs[i.toNat]'lt).2.map PyData.int)))) := fun _ => rfl
  have hx := hq _ (List.getElem_mem lt)
  have fi : flat (PyData.int i) = true := rfl
  try simp only [x_var, x_con, x_bin, x_neg, x_cmp, x_chain, x_tTru, x_tNot, x_tAnd, x_tOr, x_tBool, x_tYes, x_not, x_and, x_or, x_if, x_b1, x_b2, x_is, x_idx, x_oNone, x_oSome, x_cut, x_aNil, x_aCons, x_tup, x_lst, x_call, x_callS,
    x_iSeq, x_iRng1, x_iRng2, x_bor, x_tBor, x_put1, List.map_cons, List.map_nil, List.cons_append, List.nil_append, List.length_cons, List.length_nil, Nat.zero_add, Nat.reduceAdd, Nat.reduceSub, List.reduceReplicate, start,
    List.getElem?_cons_zero, List.getElem?_cons_succ, List.set_cons_zero, List.set_cons_succ, bnd_ret, bnd_assoc, bnd_grd, b1_if, bnd_ite, small, Nat.reduceLeDiff, grd_true, o_add, o_sub, o_neg, o_eq, o_ne, o_lt, o_le, o_gt, o_ge, o_eqS, o_neS,
    decide_eq_true_eq, reduceIte, decide_true, decide_false, Bool.not_true, Bool.not_false, Bool.false_eq_true, itemsOf, asInt, endOf, isTy,
    grd_tt, nx_int, nx_bool, nx_str, nx_none, nx_tup, nx_lst, x_isC, x_fld, x_in, x_count, x_lstR, x_tupR, x_raise, x_star, bnd_thr, noX_ret, fld_x, exn_d, eSetO, Out.clear, List.zip_cons_cons, List.zip_nil_left, List.zip_nil_right, s_asg, s_par, s_own, s_parO, s_put, s_expr, s_ret, s_skip, s_seq, s_rel, x_asg, x_par, x_own, x_parO, x_put, x_expr, x_ret, x_retN, x_skip, x_rel, x_app, x_setI, x_sIf, x_for, x_brk, x_cnt, b_lenT, b_lenL, b_tupL, b_tupT, b_max2, b_min2, o_addL, o_addT, cut_ints, sum_ints, s_chk, s_for, s_brk, s_cnt, s_retN, t_bool, g_rng, g_le, List.length_map, ix, flat_pair, fi, pt]
  rw [x_seq]
  refine Ok.bnd' 33 (sg2_okZ (x1 := .int mo) (row := .tuple (ns.map PyData.int)) (way := way) (L := ns.length) (i := i) ⟨a1, hl⟩ (SgJ.mk' ⟨i0, i1⟩ (by rw [ql]; exact hw.1) (fun q h => (hq q h).1) ⟨hx.1.1.1, hx.1.1.2.1⟩ hx.2 hx.1.2)) (by decide) ?_
  rintro o ⟨E2, rfl, s2⟩
  simp only
  rw [x_seq]
  refine Ok.bnd' 32 (sg3_okZ hl s2) (by decide) ?_
  rintro o ⟨E3, rfl, s3⟩
  simp only
  rw [x_seq]
  refine Ok.bnd' 32 (sg4_okZ s3) (by decide) ?_
  rintro o ⟨E4, rfl, s4⟩
  simp only
  rw [x_seq]
  refine Ok.bnd' 32 (sg5_okZ ⟨a1, hl⟩ s4) (by decide) ?_
  rintro o ⟨E5, rfl, qs', w, ss, e9, e10, e11, e12, rfl, hi, h6, hq', _, _, _⟩
  try simp only [x_var, x_con, x_bin, x_neg, x_cmp, x_chain, x_tTru, x_tNot, x_tAnd, x_tOr, x_tBool, x_tYes, x_not, x_and, x_or, x_if, x_b1, x_b2, x_is, x_idx, x_oNone, x_oSome, x_cut, x_aNil, x_aCons, x_tup, x_lst, x_call, x_callS,
    x_iSeq, x_iRng1, x_iRng2, x_bor, x_tBor, x_put1, List.map_cons, List.map_nil, List.cons_append, List.nil_append, List.length_cons, List.length_nil, Nat.zero_add, Nat.reduceAdd, Nat.reduceSub, List.reduceReplicate, start,
    List.getElem?_cons_zero, List.getElem?_cons_succ, List.set_cons_zero, List.set_cons_succ, bnd_ret, bnd_assoc, bnd_grd, b1_if, bnd_ite, small, Nat.reduceLeDiff, grd_true, o_add, o_sub, o_neg, o_eq, o_ne, o_lt, o_le, o_gt, o_ge, o_eqS, o_neS,
    decide_eq_true_eq, reduceIte, decide_true, decide_false, Bool.not_true, Bool.not_false, Bool.false_eq_true, itemsOf, asInt, endOf, isTy,
    grd_tt, nx_int, nx_bool, nx_str, nx_none, nx_tup, nx_lst, x_isC, x_fld, x_in, x_count, x_lstR, x_tupR, x_raise, x_star, bnd_thr, noX_ret, fld_x, exn_d, eSetO, Out.clear, List.zip_cons_cons, List.zip_nil_left, List.zip_nil_right, s_asg, s_par, s_own, s_parO, s_put, s_expr, s_ret, s_skip, s_seq, s_rel, x_asg, x_par, x_own, x_parO, x_put, x_expr, x_ret, x_retN, x_skip, x_rel, x_app, x_setI, x_sIf, x_for, x_brk, x_cnt, b_lenT, b_lenL, b_tupL, b_tupT, b_max2, b_min2, o_addL, o_addT, cut_ints, sum_ints, s_chk, s_for, s_brk, s_cnt, s_retN, t_bool, g_rng, g_le, List.length_map, x_srt]
  refine Ok.srtP (by omega) (by omega) fun ms pm sr => ?_
  try simp only [x_var, x_con, x_bin, x_neg, x_cmp, x_chain, x_tTru, x_tNot, x_tAnd, x_tOr, x_tBool, x_tYes, x_not, x_and, x_or, x_if, x_b1, x_b2, x_is, x_idx, x_oNone, x_oSome, x_cut, x_aNil, x_aCons, x_tup, x_lst, x_call, x_callS,
    x_iSeq, x_iRng1, x_iRng2, x_bor, x_tBor, x_put1, List.map_cons, List.map_nil, List.cons_append, List.nil_append, List.length_cons, List.length_nil, Nat.zero_add, Nat.reduceAdd, Nat.reduceSub, List.reduceReplicate, start,
    List.getElem?_cons_zero, List.getElem?_cons_succ, List.set_cons_zero, List.set_cons_succ, bnd_ret, bnd_assoc, bnd_grd, b1_if, bnd_ite, small, Nat.reduceLeDiff, grd_true, o_add, o_sub, o_neg, o_eq, o_ne, o_lt, o_le, o_gt, o_ge, o_eqS, o_neS,
    decide_eq_true_eq, reduceIte, decide_true, decide_false, Bool.not_true, Bool.not_false, Bool.false_eq_true, itemsOf, asInt, endOf, isTy,
    grd_tt, nx_int, nx_bool, nx_str, nx_none, nx_tup, nx_lst, x_isC, x_fld, x_in, x_count, x_lstR, x_tupR, x_raise, x_star, bnd_thr, noX_ret, fld_x, exn_d, eSetO, Out.clear, List.zip_cons_cons, List.zip_nil_left, List.zip_nil_right, s_asg, s_par, s_own, s_parO, s_put, s_expr, s_ret, s_skip, s_seq, s_rel, x_asg, x_par, x_own, x_parO, x_put, x_expr, x_ret, x_retN, x_skip, x_rel, x_app, x_setI, x_sIf, x_for, x_brk, x_cnt, b_lenT, b_lenL, b_tupL, b_tupT, b_max2, b_min2, o_addL, o_addT, cut_ints, sum_ints, s_chk, s_for, s_brk, s_cnt, s_retN, t_bool, g_rng, g_le, List.length_map]
  obtain ⟨qn, en, hn2⟩ := items_nat ms fun q hq => hq' q (pm.mem_iff.mp hq)
  have ln : qn.length = ms.length := by
    have := congrArg List.length en
    rw [List.length_map, List.length_map] at this
    exact this.symm
  exact Ok.ret ⟨ns.length, _, rfl, a1, hl, qn, by rw [en], by rw [ln, pm.length_eq]; omega, by rw [ln, pm.length_eq]; exact h6, hn2⟩
end DL
end
section
namespace DL
open PySem
theorem idx_lastT (xs : List D) (x : D) : opIdx (.tuple (xs ++ [x])) (.int (-1)) = ret x := by
  show (match L2.atI (xs ++ [x]) (-1) with | some d => ret d | none => stuck) = _
  rw [atI_last]
end DL
end
section
namespace DL
open PySem
structure RowM (ns : List Int) (m : Int) : Prop where
  pos : 0 < ns.length
  few : ns.length ≤ 24
  rng : ∀ x ∈ ns, 1 ≤ x ∧ x ≤ 60
  mx : ∀ x ∈ ns, x ≤ m
  mem : m ∈ ns
theorem RowM.sum {ns : List Int} {m : Int} (h : RowM ns m) : 0 ≤ ns.sum ∧ ns.sum ≤ 1440 := by
  have sb := sum_part (i := 0) (k := 24) h.rng h.few
  rwa [List.drop_zero, List.take_of_length_le h.few] at sb
end DL
end
section
namespace DL
open PySem
section
variable {ns bs : List Int} {m l : Int}
theorem RowM.max (R : RowM ns m) : bi1 .max (.tuple (ns.map PyData.int)) = ret (.int m) := by
  obtain ⟨k, e, hk⟩ := max_ints R.pos
  have h1 := R.mx k hk
  have h2 := long_all (max_long e (Int.le_refl k)) m R.mem
  rw [e, show k = m by omega]
end
theorem RowN.ex {ns : List Int} (h : RowN ns) : ∃ m, RowM ns m := by
  obtain ⟨m, e, hm⟩ := max_ints (ns := ns) (by have := h.one; omega)
  exact ⟨m, by have := h.one; omega, h.most, h.words, long_all (max_long e (Int.le_refl m)), hm⟩
end DL
end
section
namespace DL
open PySem
/-- word i of the row without an end -/
def aw (ns : List Int) (i : Nat) : Int := ns.getD (i % ns.length) 0
/-- how wide the m words from p on are -/
def us (ns : List Int) (p : Nat) : Nat → Int
  | 0 => -1
  | m + 1 => us ns p m + 1 + aw ns (p + m)
def wfF (ns : List Int) (w : Int) (p : Nat) : Nat → Nat → Nat
  | 0, m => m
  | f + 1, m => if us ns p (m + 1) ≤ w then wfF ns w p f (m + 1) else m
/-- how many words the line from p on takes -/
def wf (ns : List Int) (w : Int) (p : Nat) : Nat := wfF ns w p 1001 0
/-- where line k starts -/
def fs (ns : List Int) (w : Int) : Nat → Nat
  | 0 => 0
  | k + 1 => fs ns w k + wf ns w (fs ns w k)
/-- a row at a width that it fits -/
structure RowW (ns : List Int) (w : Int) : Prop where
  row : RowN ns
  fit : ∀ x ∈ ns, x ≤ w
  top : w ≤ 2000
section
variable {ns : List Int} {w : Int}
theorem RowW.pos (R : RowW ns w) : 0 < ns.length := by have := R.row.one; omega
theorem aw_mem (h : 0 < ns.length) (i : Nat) : aw ns i ∈ ns := by
  have hl := Nat.mod_lt i h
  unfold aw
  rw [List.getD_eq_getElem?_getD, List.getElem?_eq_getElem hl]
  exact List.getElem_mem hl
theorem RowW.aw (R : RowW ns w) (i : Nat) : 1 ≤ aw ns i ∧ DL.aw ns i ≤ 60 ∧ DL.aw ns i ≤ w :=
  have h := aw_mem R.pos i
  ⟨(R.row.words _ h).1, (R.row.words _ h).2, R.fit _ h⟩
theorem aw_mod (i j : Nat) (h : i % ns.length = j % ns.length) : aw ns i = aw ns j := by
  unfold aw
  rw [h]
theorem us_mod {p q : Nat} (h : p % ns.length = q % ns.length) : ∀ m, us ns p m = us ns q m
  | 0 => rfl
  | m + 1 => by
    unfold us
    rw [us_mod h m, aw_mod (p + m) (q + m) (by rw [Nat.add_mod, h, ← Nat.add_mod])]
theorem wfF_mod {p q : Nat} (h : p % ns.length = q % ns.length) : ∀ f m, wfF ns w p f m = wfF ns w q f m
  | 0, m => rfl
  | f + 1, m => by
    unfold wfF
    rw [us_mod h, wfF_mod h f (m + 1)]
theorem wf_mod {p q : Nat} (h : p % ns.length = q % ns.length) : wf ns w p = wf ns w q := wfF_mod h _ _
theorem us_low (R : RowW ns w) (p : Nat) : ∀ m : Nat, 2 * (m : Int) - 1 ≤ us ns p m
  | 0 => Int.le_refl _
  | m + 1 => by
    have h := us_low R p m
    have := (R.aw (p + m)).1
    unfold us
    omega
theorem wfF_spec (R : RowW ns w) (p : Nat) : ∀ f m, 1001 ≤ m + f → us ns p m ≤ w → us ns p (wfF ns w p f m) ≤ w ∧ w < us ns p (wfF ns w p f m + 1)
  | 0, m, hf, h => by
    have := us_low R p m
    have := R.top
    omega
  | f + 1, m, hf, h => by
    unfold wfF
    by_cases c : us ns p (m + 1) ≤ w
    · rw [if_pos c]
      exact wfF_spec R p f (m + 1) (by omega) c
    · rw [if_neg c]
      exact ⟨h, by omega⟩
theorem wf_spec (R : RowW ns w) (p : Nat) : us ns p (wf ns w p) ≤ w ∧ w < us ns p (wf ns w p + 1) := by
  refine wfF_spec R p 1001 0 (by omega) ?_
  have := R.aw 0
  show (-1 : Int) ≤ w
  omega
theorem wf_pos (R : RowW ns w) (p : Nat) : 1 ≤ wf ns w p := by
  by_cases c : wf ns w p = 0
  · have h := (wf_spec R p).2
    rw [c] at h
    have := R.aw (p + 0)
    unfold us us at h
    omega
  · omega
theorem fs_lt (R : RowW ns w) (k : Nat) : fs ns w k < fs ns w (k + 1) := by
  have := wf_pos R (fs ns w k)
  show fs ns w k < fs ns w k + _
  omega
theorem fs_mono (R : RowW ns w) {j : Nat} : ∀ {k : Nat}, j ≤ k → fs ns w j + (k - j) ≤ fs ns w k
  | 0, h => by
    have : j = 0 := by omega
    subst this
    exact Nat.le_refl _
  | k + 1, h => by
    by_cases c : j = k + 1
    · subst c
      omega
    · have := fs_mono R (k := k) (j := j) (by omega)
      have := fs_lt R k
      omega
theorem fs_lt' (R : RowW ns w) {j k : Nat} (h : j < k) : fs ns w j < fs ns w k := by have := fs_mono R (Nat.le_of_lt h); omega
theorem fs_ge (R : RowW ns w) (k : Nat) : k ≤ fs ns w k := by
  have := fs_mono R (Nat.zero_le k)
  omega
/-- from equal places on the lines go alike -/
theorem fs_round {i j : Nat} (hij : i ≤ j) (h : fs ns w i % ns.length = fs ns w j % ns.length) (hm : fs ns w i ≤ fs ns w j) : ∀ k, fs ns w (j + k) = fs ns w (i + k) + (fs ns w j - fs ns w i)
  | 0 => by simp only [Nat.add_zero]; omega
  | k + 1 => by
    have ih := fs_round hij h hm k
    have e : wf ns w (fs ns w (j + k)) = wf ns w (fs ns w (i + k)) := wf_mod (by
      rw [ih]
      have d : (fs ns w j - fs ns w i) % ns.length = 0 := Nat.sub_mod_eq_zero_of_mod_eq h.symm
      rw [Nat.add_mod, d, Nat.add_zero, Nat.mod_mod])
    show fs ns w (j + k) + wf ns w (fs ns w (j + k)) = fs ns w (i + k) + wf ns w (fs ns w (i + k)) + _
    rw [e, ih]
    omega
/-- the round: the first start that comes again within the row is b, first at line K -/
structure Rnd (ns : List Int) (w : Int) (b K : Nat) : Prop where
  lt : b < K
  same : fs ns w b % ns.length = fs ns w K % ns.length
  ne : ∀ i j, i < j → j < K → fs ns w i % ns.length ≠ fs ns w j % ns.length
theorem pigeon : ∀ (n : Nat) (f : Nat → Nat), (∀ i, i ≤ n → f i < n) → ∃ i j, i < j ∧ j ≤ n ∧ f i = f j
  | 0, f, h => absurd (h 0 (Nat.le_refl _)) (by omega)
  | n + 1, f, h => by
    by_cases c : ∃ i, i ≤ n ∧ f i = f (n + 1)
    · obtain ⟨i, h1, h2⟩ := c
      exact ⟨i, n + 1, by omega, Nat.le_refl _, h2⟩
    · have c : ∀ i, i ≤ n → f i ≠ f (n + 1) := fun i hi e => c ⟨i, hi, e⟩
      have hv := h (n + 1) (Nat.le_refl _)
      obtain ⟨i, j, h1, h2, h3⟩ := pigeon n (fun i => if f i > f (n + 1) then f i - 1 else f i) fun i hi => by
        have a := h i (by omega)
        have b := c i hi
        show (if f i > f (n + 1) then f i - 1 else f i) < n
        split <;> omega
      refine ⟨i, j, h1, by omega, ?_⟩
      have a := c i (by omega)
      have b := c j h2
      have h3 : (if f i > f (n + 1) then f i - 1 else f i) = (if f j > f (n + 1) then f j - 1 else f j) := h3
      split at h3 <;> split at h3 <;> omega
theorem Rnd.ex (R : RowW ns w) : ∃ b K, Rnd ns w b K ∧ K ≤ ns.length := by
  have step : ∀ k : Nat, (∃ b K, Rnd ns w b K ∧ K < k) ∨ ∀ i j, i < j → j < k → fs ns w i % ns.length ≠ fs ns w j % ns.length := by
    intro k
    induction k with
    | zero => exact .inr fun i j _ h => by omega
    | succ k ih =>
      rcases ih with ⟨b, K, h1, h2⟩ | ih
      · exact .inl ⟨b, K, h1, by omega⟩
      · by_cases c : ∃ i, i < k ∧ fs ns w i % ns.length = fs ns w k % ns.length
        · obtain ⟨i, h1, h2⟩ := c
          exact .inl ⟨i, k, ⟨h1, h2, ih⟩, by omega⟩
        · refine .inr fun i j hij hj => ?_
          by_cases c2 : j = k
          · rw [c2]
            exact fun e => c ⟨i, by omega, e⟩
          · exact ih i j hij (by omega)
  rcases step (ns.length + 1) with ⟨b, K, h1, h2⟩ | h
  · exact ⟨b, K, h1, by omega⟩
  · obtain ⟨i, j, h1, h2, h3⟩ := pigeon ns.length (fun i => fs ns w i % ns.length) fun i _ => Nat.mod_lt _ R.pos
    exact absurd h3 (h i j h1 (by omega))
variable {b K : Nat}
/-- so many words a round has -/
def rw' (ns : List Int) (w : Int) (b K : Nat) : Nat := fs ns w K - fs ns w b
theorem Rnd.next (R : RowW ns w) (r : Rnd ns w b K) {k : Nat} (h : b ≤ k) : fs ns w (k + (K - b)) = fs ns w k + rw' ns w b K := by
  have lt := fs_lt' R r.lt
  have := r.lt
  have e := fs_round (Nat.le_of_lt r.lt) r.same (Nat.le_of_lt lt) (k - b)
  rw [show K + (k - b) = k + (K - b) by omega, show b + (k - b) = k by omega] at e
  exact e
/-- n lines start before q -/
structure Bel (ns : List Int) (w : Int) (q n : Nat) : Prop where
  lo : ∀ k, k < n → fs ns w k < q
  hi : q ≤ fs ns w n
theorem Bel.ex (R : RowW ns w) (q : Nat) : ∃ n, Bel ns w q n ∧ n ≤ q := by
  have step : ∀ k : Nat, (∃ n, Bel ns w q n ∧ n ≤ k) ∨ ∀ i, i ≤ k → fs ns w i < q := by
    intro k
    induction k with
    | zero =>
      by_cases c : fs ns w 0 < q
      · exact .inr fun i hi => by rw [show i = 0 by omega]; exact c
      · exact .inl ⟨0, ⟨fun k h => by omega, by omega⟩, Nat.le_refl _⟩
    | succ k ih =>
      rcases ih with ⟨n, h1, h2⟩ | ih
      · exact .inl ⟨n, h1, by omega⟩
      · by_cases c : fs ns w (k + 1) < q
        · refine .inr fun i hi => ?_
          by_cases c2 : i = k + 1
          · rw [c2]; exact c
          · exact ih i (by omega)
        · exact .inl ⟨k + 1, ⟨fun i hi => ih i (by omega), by omega⟩, Nat.le_refl _⟩
  rcases step q with h | h
  · exact h
  · have := h q (Nat.le_refl _)
    have := fs_ge R q
    omega
theorem Bel.iff (R : RowW ns w) {q n : Nat} (h : Bel ns w q n) {k : Nat} : fs ns w k < q ↔ k < n := by
  constructor
  · intro a
    by_cases c : k < n
    · exact c
    · have := fs_mono R (j := n) (k := k) (by omega)
      have := h.hi
      omega
  · exact h.lo k
theorem Bel.mono (R : RowW ns w) {q p n m : Nat} (h : Bel ns w q n) (g : Bel ns w p m) (hq : q ≤ p) : n ≤ m := by
  by_cases c : n ≤ m
  · exact c
  · have := h.lo m (by omega)
    have := g.hi
    omega
theorem Bel.pos (R : RowW ns w) {q n : Nat} (h : Bel ns w q n) (hq : 0 < q) : 1 ≤ n := by
  have := (h.iff R (k := 0)).mp (by show 0 < q; exact hq)
  omega
end
end DL
end
section
namespace DL
open PySem
/-- a while that draws nothing and returns from within -/
inductive RunsR (t : XT) (s : XS) : Nat → Env → D → Prop
  | last {E : Env} {d : D} : t E = ret true → s E = ret (.rt d) → RunsR t s 0 E d
  | turn {k : Nat} {E E' : Env} {d : D} : t E = ret true → s E = ret (.nx E') → RunsR t s k E' d → RunsR t s (k + 1) E d
theorem RunsR.at_ {t : XT} {s : XS} : ∀ {k : Nat} {E : Env} {d : D}, RunsR t s k E d → ∀ n, whileL t s n E = if k < n then ret (.rt d) else stuck
  | _, _, _, _, 0 => by simp [whileL]
  | _, E, _, .last h h2, n + 1 => by
    show bnd (t E) _ = _
    rw [h, bnd_ret, if_pos rfl, h2, bnd_ret, if_pos (Nat.succ_pos n)]
  | _, E, _, .turn (k := k) (E' := E') h1 h2 r, n + 1 => by
    show bnd (t E) _ = _
    rw [h1, bnd_ret, if_pos rfl, h2, bnd_ret]
    show whileL t s n E' = _
    rw [RunsR.at_ r n]
    by_cases h : k < n
    · rw [if_pos h, if_pos (by omega)]
    · rw [if_neg h, if_neg (by omega)]
theorem RunsR.eq {t : XT} {s : XS} {k : Nat} {E : Env} {d : D} (r : RunsR t s k E d) : sWhile t s E = ret (.rt d) := by
  funext c P X
  show (∃ n, whileL t s n E c P X) = _
  refine propext ⟨fun ⟨n, h⟩ => ?_, fun h => ⟨k + 1, ?_⟩⟩
  · rw [r.at_ n] at h
    split at h
    · exact h
    · exact h.elim
  · rw [r.at_ (k + 1), if_pos (Nat.lt_succ_self k)]
    exact h
end DL
end
section
namespace DL
open PySem
end DL
end
section
namespace DL
open PySem
section
variable {ns : List Int} {w : Int}
theorem RowW.of (r : RowN ns) (h : Long ns w none) (hw : w ≤ 2000) : RowW ns w := ⟨r, long_all h, hw⟩
/-- where the line k lines behind p starts -/
def fp (ns : List Int) (w : Int) (p : Nat) : Nat → Nat
  | 0 => p
  | k + 1 => fp ns w p k + wf ns w (fp ns w p k)
def ad (ns : List Int) (w : Int) (p k : Nat) : Nat := fp ns w p k - p
end
end DL
end
section
namespace DL
open PySem
end DL
end
section
namespace DL
open PySem
end DL
end
section
namespace DL
open PySem
end DL
end
section
namespace DL
open PySem
end DL
end
section
namespace DL
open PySem
end DL
end
section
namespace DL
open PySem
def wr (ns : List Int) : D := wD (.tuple (ns.map PyData.int))
def repI (k : Int) (a : List Int) : List Int := (List.replicate k.toNat a).flatten
theorem repI_len (k : Int) (a : List Int) : (repI k a).length = k.toNat * a.length := by
  unfold repI
  rw [List.length_flatten, List.map_replicate, List.sum_replicate_nat]
theorem repI_mem {k : Int} {a : List Int} {x : Int} (h : x ∈ repI k a) : x ∈ a := by
  unfold repI at h
  obtain ⟨l, hl, hx⟩ := List.mem_flatten.mp h
  rw [(List.mem_replicate.mp hl).2] at hx
  exact hx
theorem RowN.rep {k : Int} {a : List Int} (h : RowN a) (hk : 1 ≤ k) (hm : k * a.length ≤ 24) : RowN (repI k a) := by
  have e := repI_len k a
  have e2 : ((k.toNat * a.length : Nat) : Int) = k * a.length := by
    rw [Int.natCast_mul, Int.toNat_of_nonneg (by omega)]
  refine ⟨?_, by omega, fun x hx => h.words x (repI_mem hx)⟩
  rw [e]
  exact Nat.mul_pos (by omega) h.one
end DL
end
section
namespace DL
open PySem
section
variable {E : Env} {n k : Nat} {Q : Out → Prop} {b s : XS}
theorem Ok.par {i j : Nat} {x y : XE} {v w : D} (h : x E = DL.ret v) (h2 : y E = DL.ret w) (z : Ok (b ((E.set i (.val v)).set j (.val w))) n Q) : Ok (sSeq (sPar i j x y) b E) n Q := by
  rw [s_par, h, bnd_ret, h2, bnd_ret]
  exact z
theorem Ok.put {tg : Tg} {e : XE} {d : D} {E1 : Env} (h : e E = DL.ret d) (h2 : tg.put d E = some E1) (z : Ok (b E1) n Q) : Ok (sSeq (sPut tg e) b E) n Q := by
  have e1 : sPut tg e E = DL.ret (Out.nx E1) := by
    unfold sPut
    rw [h, bnd_ret, h2]
  rw [x_seq, e1, bnd_ret]
  exact z
/-- a test that fails -/
theorem Ok.no {t : XT} {a : XS} (h : t E = DL.ret false) (z : Ok (b E) n Q) : Ok (sSeq (sIf t a sSkip) b E) n Q := by
  rw [s_if, h, bnd_ret, if_neg (by decide), s_skip]
  exact z
end
end DL
end
section
namespace DL
open PySem
end DL
end
section
namespace DL
open PySem
end DL
end
section
namespace DL
open PySem
mutual
def sharp : D → Bool
  | .none => true
  | .int _ => true
  | .str _ => true
  | .list xs => sharpAll xs
  | .tuple xs => sharpAll xs
  | _ => false
def sharpAll : List D → Bool
  | [] => true
  | x :: xs => sharp x && sharpAll xs
end
/-- what is compared as it is written; how deep -/
structure Shx (k : Nat) (d : D) : Prop extends Shp k d where
  sh : sharp d = true
theorem shx_str {x : Str} (h : PyData.canLay0 (.str x) = true) : Shx 0 (.str x) := ⟨⟨h, Nat.le_refl _⟩, rfl⟩
theorem Shx.mono {k k' : Nat} {d : D} (h : Shx k d) (hk : k ≤ k') : Shx k' d := ⟨h.toShp.mono hk, h.sh⟩
end DL
end
section
namespace DL
open PySem
end DL
end
section
namespace DL
open PySem
theorem shp_bnd (b : Bnd) : Shp 1 (bndD b) := shp_tup fun d hd => by
  simp only [List.mem_cons, List.not_mem_nil, or_false] at hd
  rcases hd with rfl | rfl | rfl <;> exact shp_int _
theorem eqS2 (x : Str) : opCmp .eq (.str x) (.str x) = ret true := (o_eqS x x).trans (by rw [decide_eq_true rfl])
theorem sum_intsL (ns : List Int) : bi1 .sum (.list (ns.map PyData.int)) = ret (.int ns.sum) := by
  show bnd (intsOf (.list (ns.map PyData.int))) _ = _
  simp only [intsOf, itemsOf, bnd_ret, ints?_map]
theorem sum_bnd (l : List Bnd) : bi1 .sum (.list (l.map fun b => PyData.int b.2.2)) = ret (.int (sumB l)) := by
  have := sum_intsL (l.map fun b => b.2.2)
  rw [List.map_map] at this
  exact this
theorem tame_bnds {n : Nat} {l : List Bnd} (h : ∀ b ∈ l, b.1 ≤ n ∧ b.2.1 ≤ n ∧ -5000 ≤ b.2.2 ∧ b.2.2 ≤ 5000) (hn : n ≤ 1000) : Tame (l.length * 4) 2 (.tuple (l.map bndD)) := by
  have ti : ∀ i : Int, i.natAbs ≤ 5000 → Tame 0 0 (.int i) := fun i hi => tame_int (Nat.lt_of_le_of_lt hi (by decide))
  have e : ∀ d ∈ l.map bndD, Tame 3 1 d := fun d hd => by
    obtain ⟨b, hb, rfl⟩ := List.mem_map.mp hd
    obtain ⟨h1, h2, h3, h4⟩ := h b hb
    exact tame_tup (tame_cons (ti _ (by omega)) (tame_cons (ti _ (by omega)) (tame_cons (ti _ (by omega)) tame_nil)))
  have := tame_tup (tame_all _ e)
  rw [List.length_map] at this
  exact this
end DL
end
section
namespace DL
open PySem
end DL
end
section
namespace DL
open PySem
/-- a row of L words with all looks -/
structure Fits (L : Nat) (r : List Int) (qs : List (Int × List Nat)) : Prop where
  len : r.length = L
  rng : ∀ y ∈ r, 1 ≤ y ∧ y ≤ 60
  le : ∀ q ∈ qs, ∀ y ∈ r, y ≤ q.1
  st : ∀ q ∈ qs, starts r q.1 = q.2
theorem Fits.looks {L : Nat} {r : List Int} {qs : List (Int × List Nat)} (h : Fits L r qs) : qs = DL.looks r (qs.map (·.1)) := by
  unfold DL.looks
  rw [List.map_map]
  have : ∀ l : List (Int × List Nat), (∀ q ∈ l, q ∈ qs) → l = l.map ((fun w => (w, starts r w)) ∘ (·.1)) := by
    intro l
    induction l with
    | nil => intro _; rfl
    | cons q l ih =>
      intro hl
      rw [List.map_cons, ← ih fun y hy => hl y (.tail _ hy)]
      congr 1
      show q = (q.1, starts r q.1)
      rw [h.st q (hl q (.head _))]
  exact this qs fun _ h => h
theorem Fits.sol {L : Nat} {r : List Int} {qs : List (Int × List Nat)} (h0 : 0 < L) (h : Fits L r qs) : Sol (bndsOf L qs) fun k => pre r k - pre r r.length := by
  have hw : ∀ w ∈ qs.map (·.1), ∀ x ∈ r, x ≤ w := fun w hw x hx => by
    obtain ⟨q, hq, rfl⟩ := List.mem_map.mp hw
    exact h.le q hq x hx
  have := sol_row (ns := r) (ws := qs.map (·.1)) (by rw [h.len]; exact h0) h.rng hw
  rw [← h.looks, h.len] at this
  rw [h.len]
  exact this
section
variable {L : Nat} {qs : List (Int × List Nat)}
/-- what is read back -/
theorem reads (h1 : 0 < L) (h2 : L ≤ 900) (h : SgOk L qs) (hl : qs.length ≤ 100) :
    (∃ r : List Int, Fits L r qs ∧ w_read_back_0 [.int (L : Int), .tuple (qs.map entD)] = ret (.tuple [.str "row", .tuple (r.map PyData.int)])) ∨
    ∃ l, Ring (bndsOf L qs) l ∧ l.length ≤ L + 1 ∧ w_read_back_0 [.int (L : Int), .tuple (qs.map entD)] = ret (.tuple [.str "ring", .tuple (l.map bndD)]) := by
  rcases read_back_G h1 h2 h hl with ⟨ns, r, n1, n2, n3, n4, rb, r1, r2, r3, r4⟩ | h
  · exact .inl ⟨r, ⟨r1, r2, r3, r4⟩, rb⟩
  · exact .inr h
theorem reads_row {x : List Int} (h1 : 0 < L) (h2 : L ≤ 900) (h : SgOk L qs) (hl : qs.length ≤ 100) (hx : Fits L x qs) : ∃ r : List Int, Fits L r qs ∧ w_read_back_0 [.int (L : Int), .tuple (qs.map entD)] = ret (.tuple [.str "row", .tuple (r.map PyData.int)]) := by
  rcases reads h1 h2 h hl with h | ⟨l, R, _⟩
  · exact h
  · exact (R.no (hx.sol h1)).elim
end
end DL
end
section
namespace DL
open PySem
section
variable {L : Nat} {qs : List (Int × List Nat)} {x : List Int}
def rr1 : XS := (sSeq (sAsg 5 (eBin .add (eCut (eVar 2) (oNone) (oSome (eVar 4))) (eCut (eVar 2) (oSome (eBin .add (eVar 4) (eCon (.int 1)))) (oNone))))
    (sIf (DL.tAnd (tBool (eCmp .ne (eVar 5) (eTup (aNil)))) (tBool (eCmp .ne (eIdx (eCall w_read_back_0 (aCons (eVar 1) (aCons (eVar 5) (aNil)))) (eCon (.int 0))) (eCon (.str "row"))))) (sRet (eCon (.bool false))) (sSkip)))
end
end DL
end
section
namespace DL
open PySem
end DL
end
section
namespace DL
open PySem
def lbA (qs : List (Int × List Nat)) (p : Nat) : List Bnd := fb1 p ++ qs.map fun q => fb2 q.1 p
def lbQ (L : Nat) (q : Int × List Nat) : List Bnd := (endN L q.2).flatMap (fb3 L q.1)
/-- all bounds, in the law's order -/
def lawB (L : Nat) (qs : List (Int × List Nat)) : List Bnd := (List.range L).flatMap (lbA qs) ++ qs.flatMap (lbQ L)
theorem lawB_mem {L : Nat} {qs : List (Int × List Nat)} {b : Bnd} : b ∈ lawB L qs ↔ b ∈ bndsOf L qs := by
  unfold lawB bndsOf lbA lbQ fbQ
  simp only [List.mem_append, List.mem_flatMap, List.mem_map, List.mem_range]
  constructor
  · rintro (⟨p, hp, h | ⟨q, hq, rfl⟩⟩ | ⟨q, hq, h⟩)
    · exact .inl ⟨p, hp, h⟩
    · exact .inr ⟨q, hq, .inl ⟨p, hp, rfl⟩⟩
    · exact .inr ⟨q, hq, .inr h⟩
  · rintro (⟨p, hp, h⟩ | ⟨q, hq, ⟨p, hp, rfl⟩ | h⟩)
    · exact .inl ⟨p, hp, .inl h⟩
    · exact .inl ⟨p, hp, .inr ⟨q, hq, rfl⟩⟩
    · exact .inr ⟨q, hq, h⟩
def lb1 : XS := (sSeq (sRel 2 (sOwn 2 (eAddL (eVar 2) (eLst (aCons (eTup (aCons (eVar 3) (aCons (eBin .add (eVar 3) (eCon (.int 1))) (aCons (eCon (.int 61)) (aNil))))) (aCons (eTup (aCons (eBin .add (eVar 3) (eCon (.int 1))) (aCons (eVar 3) (aCons (eNeg (eCon (.int 2))) (aNil))))) (aNil)))))))
    (sRel 2 (sOwn 2 (eAddL (eVar 2) (eComp (iSeq (eVar 1)) (.tp [4, 5]) (tYes) (eTup (aCons (eVar 3) (aCons (eBin .add (eVar 3) (eCon (.int 1))) (aCons (eBin .add (eVar 4) (eCon (.int 1))) (aNil))))) [4, 5])))))
def lb3 : XS := (sSeq (sApp 2 (eTup (aCons (eVar 7) (aCons (eVar 8) (aCons (eBin .add (eVar 4) (eCon (.int 1))) (aNil))))))
    (sRel 2 (sOwn 2 (eAddL (eVar 2) (eBin .mul (eLst (aCons (eTup (aCons (eBin .add (eVar 8) (eCon (.int 1))) (aCons (eVar 7) (aCons (eBin .sub (eNeg (eCon (.int 2))) (eVar 4)) (aNil))))) (aNil))) (eB1 .int (eCmp .lt (eVar 8) (eVar 0))))))))
def lb2 : XS := (sSeq (sAsg 6 (eBin .add (eCut (eVar 5) (oSome (eCon (.int 1))) (oNone)) (eTup (aCons (eVar 0) (aNil)))))
    (sFor (iTwos (eVar 5) (eVar 6)) (.tp [7, 8]) lb3))
theorem lb1_loop {L : Ent} {qs : List (Int × List Nat)} {e4 e5 e6 e7 e8 : Ent} (hq : qs.length ≤ 100) : ∀ (ps : List Nat) (acc : List Bnd) (e3 : Ent), acc.length + 102 * ps.length ≤ 800000 →
    ∃ e3', forL (.nm 3) lb1 (natsD ps) [L, .val (.tuple (qs.map entD)), .own (acc.map bndD), e3, e4, e5, e6, e7, e8] = ret (.nx [L, .val (.tuple (qs.map entD)), .own ((acc ++ ps.flatMap (lbA qs)).map bndD), e3', e4, e5, e6, e7, e8])
  | [], acc, e3, _ => ⟨e3, by rw [List.flatMap_nil, List.append_nil]; rfl⟩
  | p :: ps, acc, e3, h => by
    simp only [List.length_cons] at h
    have ll : (lbA qs p).length = 2 + qs.length := by unfold lbA fb1; rw [List.length_append, List.length_map]; rfl
    obtain ⟨e3', ih⟩ := lb1_loop (L := L) (e4 := e4) (e5 := e5) (e6 := e6) (e7 := e7) (e8 := e8) hq ps (acc ++ lbA qs p) (.val (.int (p : Int))) (by rw [List.length_append, ll]; omega)
    refine ⟨e3', ?_⟩
    rw [show natsD (p :: ps) = .int (p : Int) :: natsD ps from rfl, x_forc]
    show DL.bnd (lb1 [L, .val (.tuple (qs.map entD)), .own (acc.map bndD), .val (.int (p : Int)), e4, e5, e6, e7, e8]) _ = _
    have st : lb1 [L, .val (.tuple (qs.map entD)), .own (acc.map bndD), .val (.int (p : Int)), e4, e5, e6, e7, e8] = ret (.nx [L, .val (.tuple (qs.map entD)), .own ((acc ++ lbA qs p).map bndD), .val (.int (p : Int)), e4, e5, e6, e7, e8]) := by
      unfold lb1
      have cm : ∀ E : Env, E = [L, .val (.tuple (qs.map entD)), .val (.list ((acc ++ fb1 p).map bndD)), .val (.int (p : Int)), e4, e5, e6, e7, e8] → eComp (iSeq (eVar 1)) (.tp [4, 5]) (tYes) (eTup (aCons (eVar 3) (aCons (eBin .add (eVar 3) (eCon (.int 1))) (aCons (eBin .add (eVar 4) (eCon (.int 1))) (aNil))))) [4, 5] E = ret (.list ((qs.map fun q => fb2 q.1 p).map bndD)) := by
        rintro E rfl
        rw [comp_mapE (ds := qs.map entD) (f := fun d => match d with | .tuple [.int w, _] => bndD (fb2 w p) | d => d) rfl (by rw [List.length_map]; omega) fun d hd => by
          obtain ⟨q, _, rfl⟩ := List.mem_map.mp hd
          refine ⟨_, rfl, rfl, ?_⟩
          simp only [x_var, x_con, x_bin, x_neg, x_cmp, x_chain, x_tTru, x_tNot, x_tAnd, x_tOr, x_tBool, x_tYes, x_not, x_and, x_or, x_if, x_b1, x_b2, x_is, x_idx, x_oNone, x_oSome, x_cut, x_aNil, x_aCons, x_tup, x_lst, x_call, x_callS,
    x_iSeq, x_iRng1, x_iRng2, x_bor, x_tBor, x_put1, List.map_cons, List.map_nil, List.cons_append, List.nil_append, List.length_cons, List.length_nil, Nat.zero_add, Nat.reduceAdd, Nat.reduceSub, List.reduceReplicate, start,
    List.getElem?_cons_zero, List.getElem?_cons_succ, List.set_cons_zero, List.set_cons_succ, bnd_ret, bnd_assoc, bnd_grd, b1_if, bnd_ite, small, Nat.reduceLeDiff, grd_true, o_add, o_sub, o_neg, o_eq, o_ne, o_lt, o_le, o_gt, o_ge, o_eqS, o_neS,
    decide_eq_true_eq, reduceIte, decide_true, decide_false, Bool.not_true, Bool.not_false, Bool.false_eq_true, itemsOf, asInt, bi2, endOf, isTy,
    grd_tt, nx_int, nx_bool, nx_str, nx_none, nx_tup, nx_lst, x_isC, x_fld, x_in, x_count, x_lstR, x_tupR, x_raise, x_star, bnd_thr, noX_ret, fld_x, exn_d, eSetO, Out.clear, List.zip_cons_cons, List.zip_nil_left, List.zip_nil_right, wipeE]
          rfl]
        rw [List.map_map, List.map_map]
        rfl
      rw [s_rel]
      simp only [x_var, x_con, x_bin, x_neg, x_cmp, x_chain, x_tTru, x_tNot, x_tAnd, x_tOr, x_tBool, x_tYes, x_not, x_and, x_or, x_if, x_b1, x_b2, x_is, x_idx, x_oNone, x_oSome, x_cut, x_aNil, x_aCons, x_tup, x_lst, x_call, x_callS,
    x_iSeq, x_iRng1, x_iRng2, x_bor, x_tBor, x_put1, List.map_cons, List.map_nil, List.cons_append, List.nil_append, List.length_cons, List.length_nil, Nat.zero_add, Nat.reduceAdd, Nat.reduceSub, List.reduceReplicate, start,
    List.getElem?_cons_zero, List.getElem?_cons_succ, List.set_cons_zero, List.set_cons_succ, bnd_ret, bnd_assoc, bnd_grd, b1_if, bnd_ite, small, Nat.reduceLeDiff, grd_true, o_add, o_sub, o_neg, o_eq, o_ne, o_lt, o_le, o_gt, o_ge, o_eqS, o_neS,
    decide_eq_true_eq, reduceIte, decide_true, decide_false, Bool.not_true, Bool.not_false, Bool.false_eq_true, itemsOf, asInt, bi2, endOf, isTy,
    grd_tt, nx_int, nx_bool, nx_str, nx_none, nx_tup, nx_lst, x_isC, x_fld, x_in, x_count, x_lstR, x_tupR, x_raise, x_star, bnd_thr, noX_ret, fld_x, exn_d, eSetO, Out.clear, List.zip_cons_cons, List.zip_nil_left, List.zip_nil_right, s_asg, s_par, s_own, s_parO, s_put, s_expr, s_ret, s_skip, s_seq, s_rel, x_asg, x_par, x_own, x_parO, x_put, x_expr, x_ret, x_retN, x_skip, x_rel, x_app, x_setI, x_sIf, x_for, x_brk, x_cnt, x_addL, b_mapLen]
      rw [grd_pos (by omega)]
      have e1 : acc.map bndD ++ [PyData.tuple [.int (p : Int), .int ((p : Int) + 1), .int 61], PyData.tuple [.int ((p : Int) + 1), .int (p : Int), .int (-2)]] = (acc ++ fb1 p).map bndD := by
        rw [List.map_append]
        rfl
      rw [e1, cm _ rfl]
      simp only [x_var, x_con, x_bin, x_neg, x_cmp, x_chain, x_tTru, x_tNot, x_tAnd, x_tOr, x_tBool, x_tYes, x_not, x_and, x_or, x_if, x_b1, x_b2, x_is, x_idx, x_oNone, x_oSome, x_cut, x_aNil, x_aCons, x_tup, x_lst, x_call, x_callS,
    x_iSeq, x_iRng1, x_iRng2, x_bor, x_tBor, x_put1, List.map_cons, List.map_nil, List.cons_append, List.nil_append, List.length_cons, List.length_nil, Nat.zero_add, Nat.reduceAdd, Nat.reduceSub, List.reduceReplicate, start,
    List.getElem?_cons_zero, List.getElem?_cons_succ, List.set_cons_zero, List.set_cons_succ, bnd_ret, bnd_assoc, bnd_grd, b1_if, bnd_ite, small, Nat.reduceLeDiff, grd_true, o_add, o_sub, o_neg, o_eq, o_ne, o_lt, o_le, o_gt, o_ge, o_eqS, o_neS,
    decide_eq_true_eq, reduceIte, decide_true, decide_false, Bool.not_true, Bool.not_false, Bool.false_eq_true, itemsOf, asInt, bi2, endOf, isTy,
    grd_tt, nx_int, nx_bool, nx_str, nx_none, nx_tup, nx_lst, x_isC, x_fld, x_in, x_count, x_lstR, x_tupR, x_raise, x_star, bnd_thr, noX_ret, fld_x, exn_d, eSetO, Out.clear, List.zip_cons_cons, List.zip_nil_left, List.zip_nil_right, s_asg, s_par, s_own, s_parO, s_put, s_expr, s_ret, s_skip, s_seq, s_rel, x_asg, x_par, x_own, x_parO, x_put, x_expr, x_ret, x_retN, x_skip, x_rel, x_app, x_setI, x_sIf, x_for, x_brk, x_cnt, x_addL, b_mapLen, List.length_append]
      have f1 : (fb1 p).length = 2 := rfl
      rw [grd_pos (by rw [List.length_map]; omega), ← List.map_append, List.append_assoc]
      rfl
    rw [st, bnd_ret, List.flatMap_cons, ← List.append_assoc]
    exact ih
theorem mul_one (d : D) (c : Prop) [Decidable c] : opBin .mul (.list [d]) (.int (if c then 1 else 0)) = ret (.list (if c then [d] else [])) := by
  by_cases h : c
  · rw [if_pos h, if_pos h]
    exact (grd_pos (by simp) _).trans rfl
  · rw [if_neg h, if_neg h]
    exact (grd_pos (by simp) _).trans rfl
theorem lb3_loop {L : Nat} {w : Int} {Q e3 e5 e6 : Ent} : ∀ (es : List (Nat × Nat)) (acc : List Bnd) (e7 e8 : Ent), acc.length + 2 * es.length ≤ 900000 → ∃ e7' e8', forL (.tp [7, 8]) lb3 (es.map pD) [.val (.int (L : Int)), Q, .own (acc.map bndD), e3, .val (.int w), e5, e6, e7, e8] = ret (.nx [.val (.int (L : Int)), Q, .own ((acc ++ es.flatMap (fb3 L w)).map bndD), e3, .val (.int w), e5, e6, e7', e8'])
  | [], acc, e7, e8, _ => ⟨e7, e8, by rw [List.flatMap_nil, List.append_nil]; rfl⟩
  | e :: es, acc, e7, e8, h => by
    simp only [List.length_cons] at h
    have fl : (fb3 L w e).length ≤ 2 := by unfold fb3; split <;> simp
    obtain ⟨e7', e8', ih⟩ := lb3_loop (L := L) (w := w) (Q := Q) (e3 := e3) (e5 := e5) (e6 := e6) es (acc ++ fb3 L w e) (.val (.int (e.1 : Int))) (.val (.int (e.2 : Int))) (by rw [List.length_append]; omega)
    refine ⟨e7', e8', ?_⟩
    rw [List.map_cons, x_forc]
    show DL.bnd (lb3 [.val (.int (L : Int)), Q, .own (acc.map bndD), e3, .val (.int w), e5, e6, .val (.int (e.1 : Int)), .val (.int (e.2 : Int))]) _ = _
    have st : lb3 [.val (.int (L : Int)), Q, .own (acc.map bndD), e3, .val (.int w), e5, e6, .val (.int (e.1 : Int)), .val (.int (e.2 : Int))] = ret (.nx [.val (.int (L : Int)), Q, .own ((acc ++ fb3 L w e).map bndD), e3, .val (.int w), e5, e6, .val (.int (e.1 : Int)), .val (.int (e.2 : Int))]) := by
      unfold lb3
      rw [s_app 2 _ _ rfl]
      simp only [x_var, x_con, x_bin, x_neg, x_cmp, x_chain, x_tTru, x_tNot, x_tAnd, x_tOr, x_tBool, x_tYes, x_not, x_and, x_or, x_if, x_b1, x_b2, x_is, x_idx, x_oNone, x_oSome, x_cut, x_aNil, x_aCons, x_tup, x_lst, x_call, x_callS,
    x_iSeq, x_iRng1, x_iRng2, x_bor, x_tBor, x_put1, List.map_cons, List.map_nil, List.cons_append, List.nil_append, List.length_cons, List.length_nil, Nat.zero_add, Nat.reduceAdd, Nat.reduceSub, List.reduceReplicate, start,
    List.getElem?_cons_zero, List.getElem?_cons_succ, List.set_cons_zero, List.set_cons_succ, bnd_ret, bnd_assoc, bnd_grd, b1_if, bnd_ite, small, Nat.reduceLeDiff, grd_true, o_add, o_sub, o_neg, o_eq, o_ne, o_lt, o_le, o_gt, o_ge, o_eqS, o_neS,
    decide_eq_true_eq, reduceIte, decide_true, decide_false, Bool.not_true, Bool.not_false, Bool.false_eq_true, itemsOf, asInt, bi2, endOf, isTy,
    grd_tt, nx_int, nx_bool, nx_str, nx_none, nx_tup, nx_lst, x_isC, x_fld, x_in, x_count, x_lstR, x_tupR, x_raise, x_star, bnd_thr, noX_ret, fld_x, exn_d, eSetO, Out.clear, List.zip_cons_cons, List.zip_nil_left, List.zip_nil_right, b_mapLen]
      rw [grd_pos (by omega), x_rel]
      simp only [x_var, x_con, x_bin, x_neg, x_cmp, x_chain, x_tTru, x_tNot, x_tAnd, x_tOr, x_tBool, x_tYes, x_not, x_and, x_or, x_if, x_b1, x_b2, x_is, x_idx, x_oNone, x_oSome, x_cut, x_aNil, x_aCons, x_tup, x_lst, x_call, x_callS,
    x_iSeq, x_iRng1, x_iRng2, x_bor, x_tBor, x_put1, List.map_cons, List.map_nil, List.cons_append, List.nil_append, List.length_cons, List.length_nil, Nat.zero_add, Nat.reduceAdd, Nat.reduceSub, List.reduceReplicate, start,
    List.getElem?_cons_zero, List.getElem?_cons_succ, List.set_cons_zero, List.set_cons_succ, bnd_ret, bnd_assoc, bnd_grd, b1_if, bnd_ite, small, Nat.reduceLeDiff, grd_true, o_add, o_sub, o_neg, o_eq, o_ne, o_lt, o_le, o_gt, o_ge, o_eqS, o_neS,
    decide_eq_true_eq, reduceIte, decide_true, decide_false, Bool.not_true, Bool.not_false, Bool.false_eq_true, itemsOf, asInt, bi2, endOf, isTy,
    grd_tt, nx_int, nx_bool, nx_str, nx_none, nx_tup, nx_lst, x_isC, x_fld, x_in, x_count, x_lstR, x_tupR, x_raise, x_star, bnd_thr, noX_ret, fld_x, exn_d, eSetO, Out.clear, List.zip_cons_cons, List.zip_nil_left, List.zip_nil_right, s_asg, s_par, s_own, s_parO, s_put, s_expr, s_ret, s_skip, s_seq, s_rel, x_asg, x_par, x_own, x_parO, x_put, x_expr, x_ret, x_retN, x_skip, x_rel, x_app, x_setI, x_sIf, x_for, x_brk, x_cnt, x_addL, int_bool, mul_one]
      have e1 : acc.map bndD ++ [PyData.tuple [.int (e.1 : Int), .int (e.2 : Int), .int (w + 1)]] = (acc ++ [(e.1, e.2, w + 1)]).map bndD := by
        rw [List.map_append]
        rfl
      rw [e1, b_mapLen]
      unfold fb3
      by_cases c : e.2 < L
      · have c2 : (e.2 : Int) < (L : Int) := by omega
        simp only [c, c2, if_true, x_var, x_con, x_bin, x_neg, x_cmp, x_chain, x_tTru, x_tNot, x_tAnd, x_tOr, x_tBool, x_tYes, x_not, x_and, x_or, x_if, x_b1, x_b2, x_is, x_idx, x_oNone, x_oSome, x_cut, x_aNil, x_aCons, x_tup, x_lst, x_call, x_callS,
    x_iSeq, x_iRng1, x_iRng2, x_bor, x_tBor, x_put1, List.map_cons, List.map_nil, List.cons_append, List.nil_append, List.length_cons, List.length_nil, Nat.zero_add, Nat.reduceAdd, Nat.reduceSub, List.reduceReplicate, start,
    List.getElem?_cons_zero, List.getElem?_cons_succ, List.set_cons_zero, List.set_cons_succ, bnd_ret, bnd_assoc, bnd_grd, b1_if, bnd_ite, small, Nat.reduceLeDiff, grd_true, o_add, o_sub, o_neg, o_eq, o_ne, o_lt, o_le, o_gt, o_ge, o_eqS, o_neS,
    decide_eq_true_eq, reduceIte, decide_true, decide_false, Bool.not_true, Bool.not_false, Bool.false_eq_true, itemsOf, asInt, bi2, endOf, isTy,
    grd_tt, nx_int, nx_bool, nx_str, nx_none, nx_tup, nx_lst, x_isC, x_fld, x_in, x_count, x_lstR, x_tupR, x_raise, x_star, bnd_thr, noX_ret, fld_x, exn_d, eSetO, Out.clear, List.zip_cons_cons, List.zip_nil_left, List.zip_nil_right, s_asg, s_par, s_own, s_parO, s_put, s_expr, s_ret, s_skip, s_seq, s_rel, x_asg, x_par, x_own, x_parO, x_put, x_expr, x_ret, x_retN, x_skip, x_rel, x_app, x_setI, x_sIf, x_for, x_brk, x_cnt, mul_one, List.length_append]
        rw [grd_pos (by omega)]
        have e2 : (acc ++ [(e.1, e.2, w + 1)]).map bndD ++ [PyData.tuple [.int ((e.2 : Int) + 1), .int (e.1 : Int), .int (-2 - w)]] = (acc ++ [(e.1, e.2, w + 1), (e.2 + 1, e.1, -2 - w)]).map bndD := by
          rw [List.map_append, List.map_append, List.append_assoc]
          rfl
        rw [e2]
      · have c2 : ¬ (e.2 : Int) < (L : Int) := by omega
        simp only [c, c2, if_false, x_var, x_con, x_bin, x_neg, x_cmp, x_chain, x_tTru, x_tNot, x_tAnd, x_tOr, x_tBool, x_tYes, x_not, x_and, x_or, x_if, x_b1, x_b2, x_is, x_idx, x_oNone, x_oSome, x_cut, x_aNil, x_aCons, x_tup, x_lst, x_call, x_callS,
    x_iSeq, x_iRng1, x_iRng2, x_bor, x_tBor, x_put1, List.map_cons, List.map_nil, List.cons_append, List.nil_append, List.length_cons, List.length_nil, Nat.zero_add, Nat.reduceAdd, Nat.reduceSub, List.reduceReplicate, start,
    List.getElem?_cons_zero, List.getElem?_cons_succ, List.set_cons_zero, List.set_cons_succ, bnd_ret, bnd_assoc, bnd_grd, b1_if, bnd_ite, small, Nat.reduceLeDiff, grd_true, o_add, o_sub, o_neg, o_eq, o_ne, o_lt, o_le, o_gt, o_ge, o_eqS, o_neS,
    decide_eq_true_eq, reduceIte, decide_true, decide_false, Bool.not_true, Bool.not_false, Bool.false_eq_true, itemsOf, asInt, bi2, endOf, isTy,
    grd_tt, nx_int, nx_bool, nx_str, nx_none, nx_tup, nx_lst, x_isC, x_fld, x_in, x_count, x_lstR, x_tupR, x_raise, x_star, bnd_thr, noX_ret, fld_x, exn_d, eSetO, Out.clear, List.zip_cons_cons, List.zip_nil_left, List.zip_nil_right, s_asg, s_par, s_own, s_parO, s_put, s_expr, s_ret, s_skip, s_seq, s_rel, x_asg, x_par, x_own, x_parO, x_put, x_expr, x_ret, x_retN, x_skip, x_rel, x_app, x_setI, x_sIf, x_for, x_brk, x_cnt, mul_one, List.length_append]
        rw [grd_pos (by omega), List.append_nil]
    rw [st, bnd_ret, List.flatMap_cons, ← List.append_assoc]
    exact ih
theorem lb2_loop {L : Nat} {Q : Ent} (hL : L ≤ 900) : ∀ (qs : List (Int × List Nat)) (acc : List Bnd) (e3 e4 e5 e6 e7 e8 : Ent), (∀ q ∈ qs, q.2.length ≤ 1000) → acc.length + 2000 * qs.length ≤ 700000 → ∃ e4' e5' e6' e7' e8', forL (.tp [4, 5]) lb2 (qs.map entD) [.val (.int (L : Int)), Q, .own (acc.map bndD), e3, e4, e5, e6, e7, e8] = ret (.nx [.val (.int (L : Int)), Q, .own ((acc ++ qs.flatMap (lbQ L)).map bndD), e3, e4', e5', e6', e7', e8'])
  | [], acc, e3, e4, e5, e6, e7, e8, _, _ => ⟨e4, e5, e6, e7, e8, by rw [List.flatMap_nil, List.append_nil]; rfl⟩
  | q :: qs, acc, e3, e4, e5, e6, e7, e8, hq, h => by
    simp only [List.length_cons] at h
    have q1 := hq q (.head _)
    have el := end_len L q.2
    have sm : (natsD q.2.tail ++ [PyData.int (L : Int)]).length ≤ 1000000 := by rw [List.length_append, natsD_len, List.length_tail, List.length_singleton]; omega
    obtain ⟨e7', e8', lp⟩ := lb3_loop (L := L) (w := q.1) (Q := Q) (e3 := e3) (e5 := .val (.tuple (natsD q.2))) (e6 := .val (.tuple (natsD q.2.tail ++ [PyData.int (L : Int)]))) (endN L q.2) acc e7 e8 (by omega)
    have ml : (lbQ L q).length ≤ 2 * (endN L q.2).length := by
      unfold lbQ
      generalize endN L q.2 = es
      induction es with
      | nil => simp
      | cons e es ih =>
        rw [List.flatMap_cons, List.length_append, List.length_cons]
        have : (fb3 L q.1 e).length ≤ 2 := by unfold fb3; split <;> simp
        omega
    obtain ⟨a4, a5, a6, a7, a8, ih⟩ := lb2_loop (Q := Q) hL qs (acc ++ lbQ L q) e3 (.val (.int q.1)) (.val (.tuple (natsD q.2))) (.val (.tuple (natsD q.2.tail ++ [PyData.int (L : Int)]))) e7' e8' (fun x hx => hq x (.tail _ hx)) (by
      rw [List.length_append]
      omega)
    refine ⟨a4, a5, a6, a7, a8, ?_⟩
    rw [List.map_cons, x_forc]
    show DL.bnd (lb2 [.val (.int (L : Int)), Q, .own (acc.map bndD), e3, .val (.int q.1), .val (.tuple (natsD q.2)), e6, e7, e8]) _ = _
    have st : lb2 [.val (.int (L : Int)), Q, .own (acc.map bndD), e3, .val (.int q.1), .val (.tuple (natsD q.2)), e6, e7, e8] = ret (.nx [.val (.int (L : Int)), Q, .own ((acc ++ lbQ L q).map bndD), e3, .val (.int q.1), .val (.tuple (natsD q.2)), .val (.tuple (natsD q.2.tail ++ [PyData.int (L : Int)])), e7', e8']) := by
      unfold lb2
      rw [s_asg]
      have nl : (natsD q.2.tail).length ≤ 999999 := by rw [natsD_len, List.length_tail]; omega
      simp only [x_var, x_con, x_bin, x_neg, x_cmp, x_chain, x_tTru, x_tNot, x_tAnd, x_tOr, x_tBool, x_tYes, x_not, x_and, x_or, x_if, x_b1, x_b2, x_is, x_idx, x_oNone, x_oSome, x_cut, x_aNil, x_aCons, x_tup, x_lst, x_call, x_callS,
    x_iSeq, x_iRng1, x_iRng2, x_bor, x_tBor, x_put1, List.map_cons, List.map_nil, List.cons_append, List.nil_append, List.length_cons, List.length_nil, Nat.zero_add, Nat.reduceAdd, Nat.reduceSub, List.reduceReplicate, start,
    List.getElem?_cons_zero, List.getElem?_cons_succ, List.set_cons_zero, List.set_cons_succ, bnd_ret, bnd_assoc, bnd_grd, b1_if, bnd_ite, small, Nat.reduceLeDiff, grd_true, o_add, o_sub, o_neg, o_eq, o_ne, o_lt, o_le, o_gt, o_ge, o_eqS, o_neS,
    decide_eq_true_eq, reduceIte, decide_true, decide_false, Bool.not_true, Bool.not_false, Bool.false_eq_true, itemsOf, asInt, bi2, endOf, isTy,
    grd_tt, nx_int, nx_bool, nx_str, nx_none, nx_tup, nx_lst, x_isC, x_fld, x_in, x_count, x_lstR, x_tupR, x_raise, x_star, bnd_thr, noX_ret, fld_x, exn_d, eSetO, Out.clear, List.zip_cons_cons, List.zip_nil_left, List.zip_nil_right, cut_tailT, natsD_tail, o_addT]
      rw [grd_pos (by omega), x_for, x_iTwos]
      simp only [x_var, x_con, x_bin, x_neg, x_cmp, x_chain, x_tTru, x_tNot, x_tAnd, x_tOr, x_tBool, x_tYes, x_not, x_and, x_or, x_if, x_b1, x_b2, x_is, x_idx, x_oNone, x_oSome, x_cut, x_aNil, x_aCons, x_tup, x_lst, x_call, x_callS,
    x_iSeq, x_iRng1, x_iRng2, x_bor, x_tBor, x_put1, List.map_cons, List.map_nil, List.cons_append, List.nil_append, List.length_cons, List.length_nil, Nat.zero_add, Nat.reduceAdd, Nat.reduceSub, List.reduceReplicate, start,
    List.getElem?_cons_zero, List.getElem?_cons_succ, List.set_cons_zero, List.set_cons_succ, bnd_ret, bnd_assoc, bnd_grd, b1_if, bnd_ite, small, Nat.reduceLeDiff, grd_true, o_add, o_sub, o_neg, o_eq, o_ne, o_lt, o_le, o_gt, o_ge, o_eqS, o_neS,
    decide_eq_true_eq, reduceIte, decide_true, decide_false, Bool.not_true, Bool.not_false, Bool.false_eq_true, itemsOf, asInt, bi2, endOf, isTy,
    grd_tt, nx_int, nx_bool, nx_str, nx_none, nx_tup, nx_lst, x_isC, x_fld, x_in, x_count, x_lstR, x_tupR, x_raise, x_star, bnd_thr, noX_ret, fld_x, exn_d, eSetO, Out.clear, List.zip_cons_cons, List.zip_nil_left, List.zip_nil_right, twos_end]
      rw [lp]
      rfl
    rw [st, bnd_ret, List.flatMap_cons, ← List.append_assoc]
    exact ih
theorem law_bounds_0 {L : Nat} {qs : List (Int × List Nat)} (hL : L ≤ 900) (hq : ∀ q ∈ qs, q.2.length ≤ 1000) (hl : qs.length ≤ 100) : w__law_bounds_0 [.int (L : Int), .tuple (qs.map entD)] = ret (.list ((lawB L qs).map bndD)) := by
  have e : w__law_bounds_0 = fn 2 9 (sSeq (sOwn 2 (eLst (aNil))) (sSeq (sFor (iRng1 (eVar 0)) (.nm 3) lb1) (sSeq (sFor (iSeq (eVar 1)) (.tp [4, 5]) lb2) (sRel 2 (sRet (eVar 2)))))) := rfl
  rw [e]
  refine (f_fn (by rfl)).trans ?_
  obtain ⟨e3, l1⟩ := lb1_loop (L := .val (.int (L : Int))) (e4 := .unk) (e5 := .unk) (e6 := .unk) (e7 := .unk) (e8 := .unk) hl (List.range L) [] .unk (by rw [List.length_range]; simp; omega)
  have f1 : ((List.range L).flatMap (lbA qs)).length = (2 + qs.length) * L := by
    generalize hn : L = n
    clear hn
    induction n with
    | zero => rfl
    | succ n ih => rw [List.range_succ, List.flatMap_append, List.length_append, ih]; simp [lbA, fb1, Nat.mul_succ]; omega
  have f2 : (2 + qs.length) * L ≤ 102 * 900 := Nat.mul_le_mul (by omega) hL
  obtain ⟨a4, a5, a6, a7, a8, l2⟩ := lb2_loop (Q := .val (.tuple (qs.map entD))) hL qs ((List.range L).flatMap (lbA qs)) e3 .unk .unk .unk .unk .unk hq (by rw [f1]; omega)
  rw [s_own]
  simp only [x_var, x_con, x_bin, x_neg, x_cmp, x_chain, x_tTru, x_tNot, x_tAnd, x_tOr, x_tBool, x_tYes, x_not, x_and, x_or, x_if, x_b1, x_b2, x_is, x_idx, x_oNone, x_oSome, x_cut, x_aNil, x_aCons, x_tup, x_lst, x_call, x_callS,
    x_iSeq, x_iRng1, x_iRng2, x_bor, x_tBor, x_put1, List.map_cons, List.map_nil, List.cons_append, List.nil_append, List.length_cons, List.length_nil, Nat.zero_add, Nat.reduceAdd, Nat.reduceSub, List.reduceReplicate, start,
    List.getElem?_cons_zero, List.getElem?_cons_succ, List.set_cons_zero, List.set_cons_succ, bnd_ret, bnd_assoc, bnd_grd, b1_if, bnd_ite, small, Nat.reduceLeDiff, grd_true, o_add, o_sub, o_neg, o_eq, o_ne, o_lt, o_le, o_gt, o_ge, o_eqS, o_neS,
    decide_eq_true_eq, reduceIte, decide_true, decide_false, Bool.not_true, Bool.not_false, Bool.false_eq_true, itemsOf, asInt, bi2, endOf, isTy,
    grd_tt, nx_int, nx_bool, nx_str, nx_none, nx_tup, nx_lst, x_isC, x_fld, x_in, x_count, x_lstR, x_tupR, x_raise, x_star, bnd_thr, noX_ret, fld_x, exn_d, eSetO, Out.clear, List.zip_cons_cons, List.zip_nil_left, List.zip_nil_right]
  rw [s_for]
  have ir : ∀ E : Env, E[0]? = some (.val (.int (L : Int))) → iRng1 (eVar 0) E = ret (natsD (List.range L)) := fun E h => by
    rw [← rng0, x_iRng1, x_var, h]
    exact grd_pos (by unfold rngOk; omega) _
  rw [ir _ rfl, bnd_ret]
  have l1' : forL (.nm 3) lb1 (natsD (List.range L)) [.val (.int (L : Int)), .val (.tuple (qs.map entD)), .own [], .unk, .unk, .unk, .unk, .unk, .unk] = _ := l1
  rw [l1', bnd_ret]
  simp only [List.nil_append]
  rw [s_for]
  simp only [x_var, x_con, x_bin, x_neg, x_cmp, x_chain, x_tTru, x_tNot, x_tAnd, x_tOr, x_tBool, x_tYes, x_not, x_and, x_or, x_if, x_b1, x_b2, x_is, x_idx, x_oNone, x_oSome, x_cut, x_aNil, x_aCons, x_tup, x_lst, x_call, x_callS,
    x_iSeq, x_iRng1, x_iRng2, x_bor, x_tBor, x_put1, List.map_cons, List.map_nil, List.cons_append, List.nil_append, List.length_cons, List.length_nil, Nat.zero_add, Nat.reduceAdd, Nat.reduceSub, List.reduceReplicate, start,
    List.getElem?_cons_zero, List.getElem?_cons_succ, List.set_cons_zero, List.set_cons_succ, bnd_ret, bnd_assoc, bnd_grd, b1_if, bnd_ite, small, Nat.reduceLeDiff, grd_true, o_add, o_sub, o_neg, o_eq, o_ne, o_lt, o_le, o_gt, o_ge, o_eqS, o_neS,
    decide_eq_true_eq, reduceIte, decide_true, decide_false, Bool.not_true, Bool.not_false, Bool.false_eq_true, itemsOf, asInt, bi2, endOf, isTy,
    grd_tt, nx_int, nx_bool, nx_str, nx_none, nx_tup, nx_lst, x_isC, x_fld, x_in, x_count, x_lstR, x_tupR, x_raise, x_star, bnd_thr, noX_ret, fld_x, exn_d, eSetO, Out.clear, List.zip_cons_cons, List.zip_nil_left, List.zip_nil_right, l2]
  rfl
end DL
end
section
namespace DL
open PySem
theorem strOk_app {x y : Str} (h : PyData.strOk x = true) (k : PyData.strOk y = true) : PyData.strOk (x ++ y) = true := by
  unfold PyData.strOk at *
  show (x.cps ++ y.cps).all _ = true
  rw [Array.all_append, h, k]
  rfl
theorem intS_ok (i : Int) : PyData.strOk (PyData.shown (.int i)) = true := by
  show PyData.strOk (toString i : String) = true
  unfold PyData.strOk
  rw [← Array.all_toList, List.all_eq_true]
  intro c hc
  by_cases h : c < 0x110000
  · exact decide_eq_true h
  · exact (PyProof.Rows.int_text_free' c ⟨by omega, by omega⟩ i hc).elim
def sh3 (b : Bnd) : Str := PyData.shown (bndD b)
theorem sh3_eq (b : Bnd) : sh3 b = ("(" : Str) ++ (PyData.shown (.int (b.1 : Int)) ++ ", " ++ (PyData.shown (.int (b.2.1 : Int)) ++ ", " ++ PyData.shown (.int b.2.2))) ++ (")" : String) := rfl
theorem sh3_lay (b : Bnd) : PyData.canLay0 (.str (sh3 b)) = true := by
  show PyData.strOk (sh3 b) = true
  rw [sh3_eq]
  have l : ∀ i : Int, PyData.strOk (PyData.shown (.int i)) = true := intS_ok
  exact strOk_app (strOk_app (by decide +kernel) (strOk_app (strOk_app (l _) (by decide +kernel)) (strOk_app (strOk_app (l _) (by decide +kernel)) (l _)))) (by decide +kernel)
theorem known_in {bs : List Bnd} {b : Bnd} (h : b ∈ bs) : opIn true (.str (sh3 b)) (.list (bs.map fun b => .str (sh3 b))) = ret (.bool false) := by
  have s1 := (shx_str (sh3_lay b)).toShp.ok (by decide : 0 ≤ 64)
  have s2 : SeqAt.shaped (.list (bs.map fun b => PyData.str (sh3 b))) = true := (shp_lst (k := 0) fun d hd => by
    obtain ⟨c, _, rfl⟩ := List.mem_map.mp hd
    exact (shx_str (sh3_lay c)).toShp).ok (by decide)
  show grd _ (ret (isIn true (.str (sh3 b)) (bs.map fun b => PyData.str (sh3 b)))) = _
  rw [grd_pos ⟨s1, s2⟩]
  congr 1
  unfold isIn
  have : (bs.map fun b => PyData.str (sh3 b)).any (fun y => PyData.eqv y (.str (sh3 b))) = true := List.any_eq_true.mpr ⟨_, List.mem_map.mpr ⟨b, h, rfl⟩, SeqAt.eqv_refl _ (sh3_lay b)⟩
  rw [this]
  rfl
theorem tame_bnd {b : Bnd} (h1 : b.1 ≤ 1000) (h2 : b.2.1 ≤ 1000) (h3 : -5000 ≤ b.2.2 ∧ b.2.2 ≤ 5000) : Tame 3 1 (bndD b) := by
  have ti : ∀ i : Int, i.natAbs ≤ 5000 → Tame 0 0 (.int i) := fun i hi => tame_int (Nat.lt_of_le_of_lt hi (by decide))
  exact tame_tup (tame_cons (ti _ (by omega)) (tame_cons (ti _ (by omega)) (tame_cons (ti _ (by omega)) tame_nil)))
theorem repr_bnd {b : Bnd} (h1 : b.1 ≤ 1000) (h2 : b.2.1 ≤ 1000) (h3 : -5000 ≤ b.2.2 ∧ b.2.2 ≤ 5000) : bi1 .repr (bndD b) = ret (.str (sh3 b)) := x_repr (tame_bnd h1 h2 h3) (by decide) (by decide)
section
variable {L : Nat} {qs : List (Int × List Nat)}
theorem bnd_small (hL : L ≤ 900) (h : SgOk L qs) {b : Bnd} (hb : b ∈ bndsOf L qs) : b.1 ≤ 1000 ∧ b.2.1 ≤ 1000 ∧ -5000 ≤ b.2.2 ∧ b.2.2 ≤ 5000 := by
  have i := in_bndsG h b hb
  have j : -5000 ≤ b.2.2 ∧ b.2.2 ≤ 5000 := by
    unfold bndsOf at hb
    rcases List.mem_append.mp hb with hb | hb
    · obtain ⟨p, hp, hb⟩ := List.mem_flatMap.mp hb
      simp only [fb1, List.mem_cons, List.not_mem_nil, or_false] at hb
      rcases hb with rfl | rfl
      · exact ⟨by show (-5000 : Int) ≤ 61; decide, by show (61 : Int) ≤ 5000; decide⟩
      · exact ⟨by show (-5000 : Int) ≤ -2; decide, by show (-2 : Int) ≤ 5000; decide⟩
    · obtain ⟨q, hq, hb⟩ := List.mem_flatMap.mp hb
      obtain ⟨q1, q2, _⟩ := h q hq
      unfold fbQ at hb
      rcases List.mem_append.mp hb with hb | hb
      · obtain ⟨p, hp, rfl⟩ := List.mem_map.mp hb
        show -5000 ≤ q.1 + 1 ∧ q.1 + 1 ≤ 5000
        omega
      · obtain ⟨e, he, hb⟩ := List.mem_flatMap.mp hb
        unfold fb3 at hb
        rcases List.mem_cons.mp hb with rfl | hb
        · show -5000 ≤ q.1 + 1 ∧ q.1 + 1 ≤ 5000
          omega
        · split at hb
          · rw [List.mem_singleton.mp hb]
            show -5000 ≤ -2 - q.1 ∧ -2 - q.1 ≤ 5000
            omega
          · cases hb
  have i1 : b.1 < L + 1 ∧ b.2.1 < L + 1 := i
  exact ⟨by omega, by omega, j⟩
theorem lawB_len (hq : ∀ q ∈ qs, q.2.length ≤ 1000) (hL : L ≤ 900) (hl : qs.length ≤ 100) : (lawB L qs).length ≤ 300000 := by
  have f1 : ((List.range L).flatMap (lbA qs)).length = (2 + qs.length) * L := by
    generalize hn : L = n
    clear hn
    induction n with
    | zero => rfl
    | succ n ih => rw [List.range_succ, List.flatMap_append, List.length_append, ih]; simp [lbA, fb1, Nat.mul_succ]; omega
  have f2 : (2 + qs.length) * L ≤ 102 * 900 := Nat.mul_le_mul (by omega) hL
  have f3 : ∀ qs : List (Int × List Nat), (∀ q ∈ qs, q.2.length ≤ 1000) → (qs.flatMap (lbQ L)).length ≤ 2002 * qs.length := by
    intro qs
    induction qs with
    | nil => intro _; simp
    | cons q qs ih =>
      intro hq
      have := ih fun x hx => hq x (.tail _ hx)
      have q1 := hq q (.head _)
      have el := end_len L q.2
      have ml : (lbQ L q).length ≤ 2 * (endN L q.2).length := by
        unfold lbQ
        generalize endN L q.2 = es
        induction es with
        | nil => simp
        | cons e es ih =>
          rw [List.flatMap_cons, List.length_append, List.length_cons]
          have : (fb3 L q.1 e).length ≤ 2 := by unfold fb3; split <;> simp
          omega
      rw [List.flatMap_cons, List.length_append, List.length_cons]
      omega
  have := f3 qs hq
  unfold lawB
  rw [List.length_append, f1]
  omega
theorem chained_at : ∀ {l : List Bnd} {k : Nat} {a b : Bnd}, Chained l → l[k]? = some a → l[k + 1]? = some b → a.2.1 = b.1
  | x :: y :: r, 0, a, b, h, ha, hb => by
    simp only [List.getElem?_cons_zero, List.getElem?_cons_succ, Option.some.injEq, Nat.zero_add] at ha hb
    subst ha hb
    exact h.1
  | x :: y :: r, k + 1, a, b, h, ha, hb => chained_at (l := y :: r) (k := k) h.2 (by simpa using ha) (by simpa using hb)
  | [x], 0, a, b, h, ha, hb => by simp at hb
  | [x], k + 1, a, b, h, ha, hb => by simp at ha
  | [], k, a, b, h, ha, hb => by simp at ha
theorem law_is_ring_0 {l : List Bnd} (hL : L ≤ 900) (h : SgOk L qs) (hl : qs.length ≤ 100) (R : Ring (bndsOf L qs) l) (hn : l.length ≤ 1000) : w__law_is_ring_0 [.int (L : Int), .tuple (qs.map entD), .tuple (l.map bndD)] = ret (.bool true) := by
  have q1000 : ∀ q ∈ qs, q.2.length ≤ 1000 := fun q hq => by
    have s := (h q hq).2.2
    have := asc_fewN (a := 0) s.asc (fun x hx => ⟨Nat.zero_le _, s.lt x hx⟩)
    omega
  have lb := law_bounds_0 (L := L) (qs := qs) hL q1000 hl
  have ls := R.less
  have bll := lawB_len (L := L) q1000 hL hl
  have known : eComp (iSeq (eCall w__law_bounds_0 (aCons (eVar 0) (aCons (eVar 1) (aNil))))) (.nm 4) (tYes) (eB1 .repr (eVar 4)) [4] (start 6 ([.int (L : Int), .tuple (qs.map entD), .tuple (l.map bndD)].map Ent.val)) = ret (.list ((lawB L qs).map fun b => .str (sh3 b))) := by
    rw [comp_mapE (ds := (lawB L qs).map bndD) (f := fun d => .str (PyData.shown d)) (by simp only [x_var, x_con, x_bin, x_neg, x_cmp, x_chain, x_tTru, x_tNot, x_tAnd, x_tOr, x_tBool, x_tYes, x_not, x_and, x_or, x_if, x_b1, x_b2, x_is, x_idx, x_oNone, x_oSome, x_cut, x_aNil, x_aCons, x_tup, x_lst, x_call, x_callS,
    x_iSeq, x_iRng1, x_iRng2, x_bor, x_tBor, x_put1, List.map_cons, List.map_nil, List.cons_append, List.nil_append, List.length_cons, List.length_nil, Nat.zero_add, Nat.reduceAdd, Nat.reduceSub, List.reduceReplicate, start,
    List.getElem?_cons_zero, List.getElem?_cons_succ, List.set_cons_zero, List.set_cons_succ, bnd_ret, bnd_assoc, bnd_grd, b1_if, bnd_ite, small, Nat.reduceLeDiff, grd_true, o_add, o_sub, o_neg, o_eq, o_ne, o_lt, o_le, o_gt, o_ge, o_eqS, o_neS,
    decide_eq_true_eq, reduceIte, decide_true, decide_false, Bool.not_true, Bool.not_false, Bool.false_eq_true, itemsOf, asInt, bi2, endOf, isTy,
    grd_tt, nx_int, nx_bool, nx_str, nx_none, nx_tup, nx_lst, x_isC, x_fld, x_in, x_count, x_lstR, x_tupR, x_raise, x_star, bnd_thr, noX_ret, fld_x, exn_d, eSetO, Out.clear, List.zip_cons_cons, List.zip_nil_left, List.zip_nil_right, lb]) (by rw [List.length_map]; omega) fun d hd => by
      obtain ⟨b, hb, rfl⟩ := List.mem_map.mp hd
      obtain ⟨b1, b2, b3⟩ := bnd_small hL h (lawB_mem.mp hb)
      have rp := repr_bnd b1 b2 b3
      exact ⟨_, rfl, rfl, by simp only [x_var, x_con, x_bin, x_neg, x_cmp, x_chain, x_tTru, x_tNot, x_tAnd, x_tOr, x_tBool, x_tYes, x_not, x_and, x_or, x_if, x_b1, x_b2, x_is, x_idx, x_oNone, x_oSome, x_cut, x_aNil, x_aCons, x_tup, x_lst, x_call, x_callS,
    x_iSeq, x_iRng1, x_iRng2, x_bor, x_tBor, x_put1, List.map_cons, List.map_nil, List.cons_append, List.nil_append, List.length_cons, List.length_nil, Nat.zero_add, Nat.reduceAdd, Nat.reduceSub, List.reduceReplicate, start,
    List.getElem?_cons_zero, List.getElem?_cons_succ, List.set_cons_zero, List.set_cons_succ, bnd_ret, bnd_assoc, bnd_grd, b1_if, bnd_ite, small, Nat.reduceLeDiff, grd_true, o_add, o_sub, o_neg, o_eq, o_ne, o_lt, o_le, o_gt, o_ge, o_eqS, o_neS,
    decide_eq_true_eq, reduceIte, decide_true, decide_false, Bool.not_true, Bool.not_false, Bool.false_eq_true, itemsOf, asInt, bi2, endOf, isTy,
    grd_tt, nx_int, nx_bool, nx_str, nx_none, nx_tup, nx_lst, x_isC, x_fld, x_in, x_count, x_lstR, x_tupR, x_raise, x_star, bnd_thr, noX_ret, fld_x, exn_d, eSetO, Out.clear, List.zip_cons_cons, List.zip_nil_left, List.zip_nil_right, wipeE, rp]; rfl⟩]
    rw [List.map_map]
    rfl
  have ne : opCmp .eq (.tuple (l.map bndD)) (.tuple []) = ret false := by
    show opEq _ _ = _
    rw [eq_nilT ((shp_tup (k := 1) fun d hd => by
      obtain ⟨c, _, rfl⟩ := List.mem_map.mp hd
      exact shp_bnd c).ok (by decide))]
    cases l with
    | nil => exact absurd rfl R.ne
    | cons b l => rfl
  unfold w__law_is_ring_0
  refine (f_fn (by rfl)).trans ?_
  rw [s_asg, known, bnd_ret]
  generalize hT : (PyData.tuple (l.map bndD)) = TT at *
  let E : Env := [.val (.int (L : Int)), .val (.tuple (qs.map entD)), .val TT, .val (.list ((lawB L qs).map fun b => .str (sh3 b))), .unk, .unk]
  have nx : noXn TT = true := by
    have : ∀ l : List Bnd, plainAll (l.map bndD) = true := by
      intro l
      induction l with
      | nil => rfl
      | cons a l ih =>
        show (plain (bndD a) && plainAll (l.map bndD)) = true
        rw [ih]
        rfl
    rw [← hT]
    exact nx_plain (this l)
  have ty : eIs .tuple (eVar 2) E = ret (.bool true) := by
    simp only [x_var, x_con, x_bin, x_neg, x_cmp, x_chain, x_tTru, x_tNot, x_tAnd, x_tOr, x_tBool, x_tYes, x_not, x_and, x_or, x_if, x_b1, x_b2, x_is, x_idx, x_oNone, x_oSome, x_cut, x_aNil, x_aCons, x_tup, x_lst, x_call, x_callS,
    x_iSeq, x_iRng1, x_iRng2, x_bor, x_tBor, x_put1, List.map_cons, List.map_nil, List.cons_append, List.nil_append, List.length_cons, List.length_nil, Nat.zero_add, Nat.reduceAdd, Nat.reduceSub, List.reduceReplicate, start,
    List.getElem?_cons_zero, List.getElem?_cons_succ, List.set_cons_zero, List.set_cons_succ, bnd_ret, bnd_assoc, bnd_grd, b1_if, bnd_ite, small, Nat.reduceLeDiff, grd_true, o_add, o_sub, o_neg, o_eq, o_ne, o_lt, o_le, o_gt, o_ge, o_eqS, o_neS,
    decide_eq_true_eq, reduceIte, decide_true, decide_false, Bool.not_true, Bool.not_false, Bool.false_eq_true, itemsOf, asInt, bi2, endOf, isTy,
    grd_tt, nx_int, nx_bool, nx_str, nx_none, nx_tup, nx_lst, x_isC, x_fld, x_in, x_count, x_lstR, x_tupR, x_raise, x_star, bnd_thr, noX_ret, fld_x, exn_d, eSetO, Out.clear, List.zip_cons_cons, List.zip_nil_left, List.zip_nil_right, nx, E]
    rw [← hT]
    try rfl
  have c1 : eComp (iSeq (eVar 2)) (.nm 4) (tBool (eIn true (eB1 .repr (eVar 4)) (eVar 3))) (eVar 4) [4] E = ret (.list []) := by
    rw [comp_filtE (ds := l.map bndD) (p := fun _ => false) (f := fun d => d) (by simp only [x_iSeq, x_var, x_con, x_bin, x_neg, x_cmp, x_chain, x_tTru, x_tNot, x_tAnd, x_tOr, x_tBool, x_tYes, x_not, x_and, x_or, x_if, x_b1, x_b2, x_is, x_idx, x_oNone, x_oSome, x_cut, x_aNil, x_aCons, x_tup, x_lst, x_call, x_callS,
    x_iSeq, x_iRng1, x_iRng2, x_bor, x_tBor, x_put1, List.map_cons, List.map_nil, List.cons_append, List.nil_append, List.length_cons, List.length_nil, Nat.zero_add, Nat.reduceAdd, Nat.reduceSub, List.reduceReplicate, start,
    List.getElem?_cons_zero, List.getElem?_cons_succ, List.set_cons_zero, List.set_cons_succ, bnd_ret, bnd_assoc, bnd_grd, b1_if, bnd_ite, small, Nat.reduceLeDiff, grd_true, o_add, o_sub, o_neg, o_eq, o_ne, o_lt, o_le, o_gt, o_ge, o_eqS, o_neS,
    decide_eq_true_eq, reduceIte, decide_true, decide_false, Bool.not_true, Bool.not_false, Bool.false_eq_true, itemsOf, asInt, bi2, endOf, isTy,
    grd_tt, nx_int, nx_bool, nx_str, nx_none, nx_tup, nx_lst, x_isC, x_fld, x_in, x_count, x_lstR, x_tupR, x_raise, x_star, bnd_thr, noX_ret, fld_x, exn_d, eSetO, Out.clear, List.zip_cons_cons, List.zip_nil_left, List.zip_nil_right, E]; rw [← hT]) (by rw [List.length_map]; omega) fun d hd => by
      obtain ⟨b, hb, rfl⟩ := List.mem_map.mp hd
      obtain ⟨b1, b2, b3⟩ := bnd_small hL h (R.there b hb)
      have rp := repr_bnd b1 b2 b3
      have kn := known_in (lawB_mem.mpr (R.there b hb))
      exact ⟨_, rfl, by simp only [x_var, x_con, x_bin, x_neg, x_cmp, x_chain, x_tTru, x_tNot, x_tAnd, x_tOr, x_tBool, x_tYes, x_not, x_and, x_or, x_if, x_b1, x_b2, x_is, x_idx, x_oNone, x_oSome, x_cut, x_aNil, x_aCons, x_tup, x_lst, x_call, x_callS,
    x_iSeq, x_iRng1, x_iRng2, x_bor, x_tBor, x_put1, List.map_cons, List.map_nil, List.cons_append, List.nil_append, List.length_cons, List.length_nil, Nat.zero_add, Nat.reduceAdd, Nat.reduceSub, List.reduceReplicate, start,
    List.getElem?_cons_zero, List.getElem?_cons_succ, List.set_cons_zero, List.set_cons_succ, bnd_ret, bnd_assoc, bnd_grd, b1_if, bnd_ite, small, Nat.reduceLeDiff, grd_true, o_add, o_sub, o_neg, o_eq, o_ne, o_lt, o_le, o_gt, o_ge, o_eqS, o_neS,
    decide_eq_true_eq, reduceIte, decide_true, decide_false, Bool.not_true, Bool.not_false, Bool.false_eq_true, itemsOf, asInt, bi2, endOf, isTy,
    grd_tt, nx_int, nx_bool, nx_str, nx_none, nx_tup, nx_lst, x_isC, x_fld, x_in, x_count, x_lstR, x_tupR, x_raise, x_star, bnd_thr, noX_ret, fld_x, exn_d, eSetO, Out.clear, List.zip_cons_cons, List.zip_nil_left, List.zip_nil_right, wipeE, E, rp, kn], fun e => (nomatch e)⟩]
    rw [List.filter_eq_nil_iff.mpr (by simp)]
    rfl
  have bl : bi1 .len TT = ret (.int (l.length : Int)) := by
    rw [← hT, b_lenT, List.length_map]
  have ir : rngOk 0 (l.length : Int) := by unfold rngOk; omega
  have c2 : eComp (iRng1 (eB1 .len (eVar 2))) (.nm 5) (tBool (eCmp .ne (eIdx (eIdx (eVar 2) (eBin .sub (eVar 5) (eCon (.int 1)))) (eCon (.int 1))) (eIdx (eIdx (eVar 2) (eVar 5)) (eCon (.int 0))))) (eVar 5) [5] E = ret (.list []) := by
    rw [comp_filtE (ds := rng 0 (l.length : Int)) (p := fun _ => false) (f := fun d => d) (by simp only [x_iRng1, x_var, x_con, x_bin, x_neg, x_cmp, x_chain, x_tTru, x_tNot, x_tAnd, x_tOr, x_tBool, x_tYes, x_not, x_and, x_or, x_if, x_b1, x_b2, x_is, x_idx, x_oNone, x_oSome, x_cut, x_aNil, x_aCons, x_tup, x_lst, x_call, x_callS,
    x_iSeq, x_iRng1, x_iRng2, x_bor, x_tBor, x_put1, List.map_cons, List.map_nil, List.cons_append, List.nil_append, List.length_cons, List.length_nil, Nat.zero_add, Nat.reduceAdd, Nat.reduceSub, List.reduceReplicate, start,
    List.getElem?_cons_zero, List.getElem?_cons_succ, List.set_cons_zero, List.set_cons_succ, bnd_ret, bnd_assoc, bnd_grd, b1_if, bnd_ite, small, Nat.reduceLeDiff, grd_true, o_add, o_sub, o_neg, o_eq, o_ne, o_lt, o_le, o_gt, o_ge, o_eqS, o_neS,
    decide_eq_true_eq, reduceIte, decide_true, decide_false, Bool.not_true, Bool.not_false, Bool.false_eq_true, itemsOf, asInt, bi2, endOf, isTy,
    grd_tt, nx_int, nx_bool, nx_str, nx_none, nx_tup, nx_lst, x_isC, x_fld, x_in, x_count, x_lstR, x_tupR, x_raise, x_star, bnd_thr, noX_ret, fld_x, exn_d, eSetO, Out.clear, List.zip_cons_cons, List.zip_nil_left, List.zip_nil_right, E, bl]; exact grd_pos ir _) (by rw [rng_len]; omega) fun d hd => by
      obtain ⟨k, rfl, k0, k1⟩ := rng_mem hd
      obtain ⟨b, eb⟩ : ∃ b, l[k.toNat]? = some b := ⟨_, List.getElem?_eq_getElem (by omega)⟩
      have x1 : opIdx TT (.int k) = ret (bndD b) := by
        rw [← hT, idx_tup k0 (by rw [List.length_map]; omega), List.getElem_map]
        obtain ⟨_, e⟩ := List.getElem?_eq_some_iff.mp eb
        rw [e]
      have x2 : ∃ a : Bnd, opIdx TT (.int (k - 1)) = ret (bndD a) ∧ a.2.1 = b.1 := by
        by_cases z : k = 0
        · subst z
          obtain ⟨a, ea⟩ : ∃ a, l.getLast? = some a := by
            cases hh : l.getLast? with
            | none => exact absurd (List.getLast?_eq_none_iff.mp hh) R.ne
            | some a => exact ⟨a, rfl⟩
          refine ⟨a, ?_, R.shut b a (by rw [List.head?_eq_getElem?]; exact eb) ea⟩
          obtain ⟨ys, ey⟩ := List.getLast?_eq_some_iff.mp ea
          rw [← hT, ey, List.map_append]
          exact idx_lastT _ _
        · obtain ⟨j, ej⟩ : ∃ j : Nat, k = (j : Int) + 1 := ⟨(k - 1).toNat, by omega⟩
          obtain ⟨a, ea⟩ : ∃ a, l[j]? = some a := ⟨_, List.getElem?_eq_getElem (by omega)⟩
          refine ⟨a, ?_, chained_at R.chain ea (by rw [← eb]; congr 1; omega)⟩
          rw [← hT, idx_tup (by omega) (by rw [List.length_map]; omega), List.getElem_map]
          obtain ⟨_, e⟩ := List.getElem?_eq_some_iff.mp ea
          have e2 : (k - 1).toNat = j := by omega
          simp only [e2, e]
      obtain ⟨a, x2, x3⟩ := x2
      have j1 : opIdx (bndD a) (.int 1) = ret (.int (a.2.1 : Int)) := rfl
      have j0 : opIdx (bndD b) (.int 0) = ret (.int (b.1 : Int)) := rfl
      exact ⟨_, rfl, by simp only [x_var, x_con, x_bin, x_neg, x_cmp, x_chain, x_tTru, x_tNot, x_tAnd, x_tOr, x_tBool, x_tYes, x_not, x_and, x_or, x_if, x_b1, x_b2, x_is, x_idx, x_oNone, x_oSome, x_cut, x_aNil, x_aCons, x_tup, x_lst, x_call, x_callS,
    x_iSeq, x_iRng1, x_iRng2, x_bor, x_tBor, x_put1, List.map_cons, List.map_nil, List.cons_append, List.nil_append, List.length_cons, List.length_nil, Nat.zero_add, Nat.reduceAdd, Nat.reduceSub, List.reduceReplicate, start,
    List.getElem?_cons_zero, List.getElem?_cons_succ, List.set_cons_zero, List.set_cons_succ, bnd_ret, bnd_assoc, bnd_grd, b1_if, bnd_ite, small, Nat.reduceLeDiff, grd_true, o_add, o_sub, o_neg, o_eq, o_ne, o_lt, o_le, o_gt, o_ge, o_eqS, o_neS,
    decide_eq_true_eq, reduceIte, decide_true, decide_false, Bool.not_true, Bool.not_false, Bool.false_eq_true, itemsOf, asInt, bi2, endOf, isTy,
    grd_tt, nx_int, nx_bool, nx_str, nx_none, nx_tup, nx_lst, x_isC, x_fld, x_in, x_count, x_lstR, x_tupR, x_raise, x_star, bnd_thr, noX_ret, fld_x, exn_d, eSetO, Out.clear, List.zip_cons_cons, List.zip_nil_left, List.zip_nil_right, wipeE, E, x1, x2, j1, j0, x3], fun e => (nomatch e)⟩]
    rw [List.filter_eq_nil_iff.mpr (by simp)]
    rfl
  have c3 : eComp (iSeq (eVar 2)) (.nm 4) (tYes) (eIdx (eVar 4) (eCon (.int 2))) [4] E = ret (.list (l.map fun b => PyData.int b.2.2)) := by
    rw [comp_mapE (ds := l.map bndD) (f := fun d => match d with | .tuple [_, _, z] => z | d => d) (by simp only [x_iSeq, x_var, x_con, x_bin, x_neg, x_cmp, x_chain, x_tTru, x_tNot, x_tAnd, x_tOr, x_tBool, x_tYes, x_not, x_and, x_or, x_if, x_b1, x_b2, x_is, x_idx, x_oNone, x_oSome, x_cut, x_aNil, x_aCons, x_tup, x_lst, x_call, x_callS,
    x_iSeq, x_iRng1, x_iRng2, x_bor, x_tBor, x_put1, List.map_cons, List.map_nil, List.cons_append, List.nil_append, List.length_cons, List.length_nil, Nat.zero_add, Nat.reduceAdd, Nat.reduceSub, List.reduceReplicate, start,
    List.getElem?_cons_zero, List.getElem?_cons_succ, List.set_cons_zero, List.set_cons_succ, bnd_ret, bnd_assoc, bnd_grd, b1_if, bnd_ite, small, Nat.reduceLeDiff, grd_true, o_add, o_sub, o_neg, o_eq, o_ne, o_lt, o_le, o_gt, o_ge, o_eqS, o_neS,
    decide_eq_true_eq, reduceIte, decide_true, decide_false, Bool.not_true, Bool.not_false, Bool.false_eq_true, itemsOf, asInt, bi2, endOf, isTy,
    grd_tt, nx_int, nx_bool, nx_str, nx_none, nx_tup, nx_lst, x_isC, x_fld, x_in, x_count, x_lstR, x_tupR, x_raise, x_star, bnd_thr, noX_ret, fld_x, exn_d, eSetO, Out.clear, List.zip_cons_cons, List.zip_nil_left, List.zip_nil_right, E]; rw [← hT]) (by rw [List.length_map]; omega) fun d hd => by
      obtain ⟨c, hc, rfl⟩ := List.mem_map.mp hd
      exact ⟨_, rfl, rfl, by simp only [x_var, x_con, x_bin, x_neg, x_cmp, x_chain, x_tTru, x_tNot, x_tAnd, x_tOr, x_tBool, x_tYes, x_not, x_and, x_or, x_if, x_b1, x_b2, x_is, x_idx, x_oNone, x_oSome, x_cut, x_aNil, x_aCons, x_tup, x_lst, x_call, x_callS,
    x_iSeq, x_iRng1, x_iRng2, x_bor, x_tBor, x_put1, List.map_cons, List.map_nil, List.cons_append, List.nil_append, List.length_cons, List.length_nil, Nat.zero_add, Nat.reduceAdd, Nat.reduceSub, List.reduceReplicate, start,
    List.getElem?_cons_zero, List.getElem?_cons_succ, List.set_cons_zero, List.set_cons_succ, bnd_ret, bnd_assoc, bnd_grd, b1_if, bnd_ite, small, Nat.reduceLeDiff, grd_true, o_add, o_sub, o_neg, o_eq, o_ne, o_lt, o_le, o_gt, o_ge, o_eqS, o_neS,
    decide_eq_true_eq, reduceIte, decide_true, decide_false, Bool.not_true, Bool.not_false, Bool.false_eq_true, itemsOf, asInt, bi2, endOf, isTy,
    grd_tt, nx_int, nx_bool, nx_str, nx_none, nx_tup, nx_lst, x_isC, x_fld, x_in, x_count, x_lstR, x_tupR, x_raise, x_star, bnd_thr, noX_ret, fld_x, exn_d, eSetO, Out.clear, List.zip_cons_cons, List.zip_nil_left, List.zip_nil_right, wipeE, E]; rfl⟩]
    rw [List.map_map]
    rfl
  have tr : ∀ b : Bool, tru (.bool b) = ret b := fun _ => rfl
  have n0 : opCmp .ne (.list []) (.list []) = ret false := o_neNil0 []
  have ne' : eCmp .eq (eVar 2) (eTup (aNil)) E = ret (.bool false) := by
    simp only [x_var, x_con, x_bin, x_neg, x_cmp, x_chain, x_tTru, x_tNot, x_tAnd, x_tOr, x_tBool, x_tYes, x_not, x_and, x_or, x_if, x_b1, x_b2, x_is, x_idx, x_oNone, x_oSome, x_cut, x_aNil, x_aCons, x_tup, x_lst, x_call, x_callS,
    x_iSeq, x_iRng1, x_iRng2, x_bor, x_tBor, x_put1, List.map_cons, List.map_nil, List.cons_append, List.nil_append, List.length_cons, List.length_nil, Nat.zero_add, Nat.reduceAdd, Nat.reduceSub, List.reduceReplicate, start,
    List.getElem?_cons_zero, List.getElem?_cons_succ, List.set_cons_zero, List.set_cons_succ, bnd_ret, bnd_assoc, bnd_grd, b1_if, bnd_ite, small, Nat.reduceLeDiff, grd_true, o_add, o_sub, o_neg, o_eq, o_ne, o_lt, o_le, o_gt, o_ge, o_eqS, o_neS,
    decide_eq_true_eq, reduceIte, decide_true, decide_false, Bool.not_true, Bool.not_false, Bool.false_eq_true, itemsOf, asInt, bi2, endOf, isTy,
    grd_tt, nx_int, nx_bool, nx_str, nx_none, nx_tup, nx_lst, x_isC, x_fld, x_in, x_count, x_lstR, x_tupR, x_raise, x_star, bnd_thr, noX_ret, fld_x, exn_d, eSetO, Out.clear, List.zip_cons_cons, List.zip_nil_left, List.zip_nil_right, E, ne]
  show DL.bnd (sSeq _ _ E) endOf = _
  rw [s_if]
  simp only [x_tOr, x_tNot, x_tTru, x_tBool, ty, ne', c1, bnd_ret, tr, Bool.not_true, x_cmp, x_lst, x_aNil, n0, Bool.false_eq_true, if_false, List.length_nil, small, grd_true, Nat.zero_le]
  rw [s_skip, s_if]
  simp only [x_tBool, x_cmp, c2, bnd_ret, x_lst, x_aNil, n0, Bool.false_eq_true, if_false, List.length_nil, small, grd_true, Nat.zero_le]
  rw [s_skip, x_ret, x_cmp, x_b1, c3, bnd_ret, sum_bnd]
  simp only [bnd_ret, x_con, o_lt, decide_eq_true ls, endOf]
end
end DL
end
section
namespace DL
open PySem
theorem law_row_yes {r : List Int} (h1 : 1 ≤ r.length) (h2 : r.length ≤ 24) (h : ∀ y ∈ r, 1 ≤ y ∧ y ≤ 60) : w__law_is_row_0 [.tuple (r.map PyData.int)] = ret (.bool true) := by
  unfold w__law_is_row_0
  refine (f_fn (by rfl)).trans ?_
  have c1 : (1 : Int) ≤ (r.length : Int) := by omega
  have c2 : (r.length : Int) ≤ 24 := by omega
  try simp only [x_var, x_con, x_bin, x_neg, x_cmp, x_chain, x_tTru, x_tNot, x_tAnd, x_tOr, x_tBool, x_tYes, x_not, x_and, x_or, x_if, x_b1, x_b2, x_is, x_idx, x_oNone, x_oSome, x_cut, x_aNil, x_aCons, x_tup, x_lst, x_call, x_callS,
    x_iSeq, x_iRng1, x_iRng2, x_bor, x_tBor, x_put1, List.map_cons, List.map_nil, List.cons_append, List.nil_append, List.length_cons, List.length_nil, Nat.zero_add, Nat.reduceAdd, Nat.reduceSub, List.reduceReplicate, start,
    List.getElem?_cons_zero, List.getElem?_cons_succ, List.set_cons_zero, List.set_cons_succ, bnd_ret, bnd_assoc, bnd_grd, b1_if, bnd_ite, small, Nat.reduceLeDiff, grd_true, o_add, o_sub, o_neg, o_eq, o_ne, o_lt, o_le, o_gt, o_ge, o_eqS, o_neS,
    decide_eq_true_eq, reduceIte, decide_true, decide_false, Bool.not_true, Bool.not_false, Bool.false_eq_true, itemsOf, asInt, endOf, isTy,
    grd_tt, nx_int, nx_bool, nx_str, nx_none, nx_tup, nx_lst, x_isC, x_fld, x_in, x_count, x_lstR, x_tupR, x_raise, x_star, bnd_thr, noX_ret, fld_x, exn_d, eSetO, Out.clear, List.zip_cons_cons, List.zip_nil_left, List.zip_nil_right, s_asg, s_par, s_own, s_parO, s_put, s_expr, s_ret, s_skip, s_seq, s_rel, x_asg, x_par, x_own, x_parO, x_put, x_expr, x_ret, x_retN, x_skip, x_rel, x_app, x_setI, x_sIf, x_for, x_brk, x_cnt, b_lenT, b_lenL, b_tupL, b_tupT, b_max2, b_min2, o_addL, o_addT, cut_ints, sum_ints, s_chk, s_for, s_brk, s_cnt, s_retN, t_bool, g_rng, g_le, List.length_map, b_lenT, List.length_map, c1, c2]
  rw [comp_filtE (ds := r.map PyData.int) (p := fun d => !intIn 1 60 d) (f := fun d => d) rfl (by rw [List.length_map]; omega) fun d hd => by
    obtain ⟨x, hx, rfl⟩ := List.mem_map.mp hd
    exact ⟨_, rfl, by simp only [x_var, x_con, x_bin, x_neg, x_cmp, x_chain, x_tTru, x_tNot, x_tAnd, x_tOr, x_tBool, x_tYes, x_not, x_and, x_or, x_if, x_b1, x_b2, x_is, x_idx, x_oNone, x_oSome, x_cut, x_aNil, x_aCons, x_tup, x_lst, x_call, x_callS,
    x_iSeq, x_iRng1, x_iRng2, x_bor, x_tBor, x_put1, List.map_cons, List.map_nil, List.cons_append, List.nil_append, List.length_cons, List.length_nil, Nat.zero_add, Nat.reduceAdd, Nat.reduceSub, List.reduceReplicate, start,
    List.getElem?_cons_zero, List.getElem?_cons_succ, List.set_cons_zero, List.set_cons_succ, bnd_ret, bnd_assoc, bnd_grd, b1_if, bnd_ite, small, Nat.reduceLeDiff, grd_true, o_add, o_sub, o_neg, o_eq, o_ne, o_lt, o_le, o_gt, o_ge, o_eqS, o_neS,
    decide_eq_true_eq, reduceIte, decide_true, decide_false, Bool.not_true, Bool.not_false, Bool.false_eq_true, itemsOf, asInt, endOf, isTy,
    grd_tt, nx_int, nx_bool, nx_str, nx_none, nx_tup, nx_lst, x_isC, x_fld, x_in, x_count, x_lstR, x_tupR, x_raise, x_star, bnd_thr, noX_ret, fld_x, exn_d, eSetO, Out.clear, List.zip_cons_cons, List.zip_nil_left, List.zip_nil_right, s_asg, s_par, s_own, s_parO, s_put, s_expr, s_ret, s_skip, s_seq, s_rel, x_asg, x_par, x_own, x_parO, x_put, x_expr, x_ret, x_retN, x_skip, x_rel, x_app, x_setI, x_sIf, x_for, x_brk, x_cnt, b_lenT, b_lenL, b_tupL, b_tupT, b_max2, b_min2, o_addL, o_addT, cut_ints, sum_ints, s_chk, s_for, s_brk, s_cnt, s_retN, t_bool, g_rng, g_le, List.length_map, wipeE, law_is_int_0 (show noXn (.int x) = true from rfl)], fun _ => by simp only [x_var, x_con, x_bin, x_neg, x_cmp, x_chain, x_tTru, x_tNot, x_tAnd, x_tOr, x_tBool, x_tYes, x_not, x_and, x_or, x_if, x_b1, x_b2, x_is, x_idx, x_oNone, x_oSome, x_cut, x_aNil, x_aCons, x_tup, x_lst, x_call, x_callS,
    x_iSeq, x_iRng1, x_iRng2, x_bor, x_tBor, x_put1, List.map_cons, List.map_nil, List.cons_append, List.nil_append, List.length_cons, List.length_nil, Nat.zero_add, Nat.reduceAdd, Nat.reduceSub, List.reduceReplicate, start,
    List.getElem?_cons_zero, List.getElem?_cons_succ, List.set_cons_zero, List.set_cons_succ, bnd_ret, bnd_assoc, bnd_grd, b1_if, bnd_ite, small, Nat.reduceLeDiff, grd_true, o_add, o_sub, o_neg, o_eq, o_ne, o_lt, o_le, o_gt, o_ge, o_eqS, o_neS,
    decide_eq_true_eq, reduceIte, decide_true, decide_false, Bool.not_true, Bool.not_false, Bool.false_eq_true, itemsOf, asInt, endOf, isTy,
    grd_tt, nx_int, nx_bool, nx_str, nx_none, nx_tup, nx_lst, x_isC, x_fld, x_in, x_count, x_lstR, x_tupR, x_raise, x_star, bnd_thr, noX_ret, fld_x, exn_d, eSetO, Out.clear, List.zip_cons_cons, List.zip_nil_left, List.zip_nil_right, s_asg, s_par, s_own, s_parO, s_put, s_expr, s_ret, s_skip, s_seq, s_rel, x_asg, x_par, x_own, x_parO, x_put, x_expr, x_ret, x_retN, x_skip, x_rel, x_app, x_setI, x_sIf, x_for, x_brk, x_cnt, b_lenT, b_lenL, b_tupL, b_tupT, b_max2, b_min2, o_addL, o_addT, cut_ints, sum_ints, s_chk, s_for, s_brk, s_cnt, s_retN, t_bool, g_rng, g_le, List.length_map, wipeE]⟩]
  have e : (r.map PyData.int).filter (fun d => !intIn 1 60 d) = [] := by
    refine List.filter_eq_nil_iff.mpr fun d hd => ?_
    obtain ⟨x, hx, rfl⟩ := List.mem_map.mp hd
    have : intIn 1 60 (.int x) = true := decide_eq_true (h x hx)
    rw [this]
    decide
  rw [e]
  try simp only [x_var, x_con, x_bin, x_neg, x_cmp, x_chain, x_tTru, x_tNot, x_tAnd, x_tOr, x_tBool, x_tYes, x_not, x_and, x_or, x_if, x_b1, x_b2, x_is, x_idx, x_oNone, x_oSome, x_cut, x_aNil, x_aCons, x_tup, x_lst, x_call, x_callS,
    x_iSeq, x_iRng1, x_iRng2, x_bor, x_tBor, x_put1, List.map_cons, List.map_nil, List.cons_append, List.nil_append, List.length_cons, List.length_nil, Nat.zero_add, Nat.reduceAdd, Nat.reduceSub, List.reduceReplicate, start,
    List.getElem?_cons_zero, List.getElem?_cons_succ, List.set_cons_zero, List.set_cons_succ, bnd_ret, bnd_assoc, bnd_grd, b1_if, bnd_ite, small, Nat.reduceLeDiff, grd_true, o_add, o_sub, o_neg, o_eq, o_ne, o_lt, o_le, o_gt, o_ge, o_eqS, o_neS,
    decide_eq_true_eq, reduceIte, decide_true, decide_false, Bool.not_true, Bool.not_false, Bool.false_eq_true, itemsOf, asInt, endOf, isTy,
    grd_tt, nx_int, nx_bool, nx_str, nx_none, nx_tup, nx_lst, x_isC, x_fld, x_in, x_count, x_lstR, x_tupR, x_raise, x_star, bnd_thr, noX_ret, fld_x, exn_d, eSetO, Out.clear, List.zip_cons_cons, List.zip_nil_left, List.zip_nil_right, s_asg, s_par, s_own, s_parO, s_put, s_expr, s_ret, s_skip, s_seq, s_rel, x_asg, x_par, x_own, x_parO, x_put, x_expr, x_ret, x_retN, x_skip, x_rel, x_app, x_setI, x_sIf, x_for, x_brk, x_cnt, b_lenT, b_lenL, b_tupL, b_tupT, b_max2, b_min2, o_addL, o_addT, cut_ints, sum_ints, s_chk, s_for, s_brk, s_cnt, s_retN, t_bool, g_rng, g_le, List.length_map, List.map_nil, o_eqNil0, List.isEmpty_nil]
section
variable {L : Nat} {qs : List (Int × List Nat)}
theorem law_agrees_yes {x : List Int} (h1 : 0 < L) (h2 : L ≤ 24) (hl : qs.length ≤ 100) (F : Fits L x qs) : w__law_agrees_0 [.tuple (x.map PyData.int), .tuple (qs.map entD)] = ret (.bool true) := by
  have xl := F.len
  obtain ⟨m, em, hm⟩ := max_ints (ns := x) (by omega)
  have a := law_agrees_0 (os := x) (ns := x) (ws := qs.map (·.1)) em (by omega) (by omega) (by rw [List.length_map]; omega)
  have sd : ∀ ws, seenD x ws = (looks x ws).map entD := fun ws => by unfold seenD looks; rw [List.map_map]; rfl
  rw [sd, ← F.looks] at a
  have e : agreesN x x m (qs.map (·.1)) = true := by
    unfold agreesN
    refine List.all_eq_true.mpr fun w hw => ?_
    obtain ⟨q, hq, rfl⟩ := List.mem_map.mp hw
    rw [decide_eq_true (F.le q hq m hm), decide_eq_true rfl]
    rfl
  rw [e] at a
  exact a
theorem tame_ents (h : SgOk L qs) (hL : L ≤ 24) (hl : qs.length ≤ 10) : Tame 1000 3 (.tuple (qs.map entD)) := by
  have e : ∀ d ∈ qs.map entD, Tame 50 2 d := fun d hd => by
    obtain ⟨q, hq, rfl⟩ := List.mem_map.mp hd
    obtain ⟨h1, h2, s⟩ := h q hq
    have l24 := asc_fewN (a := 0) s.asc (fun x hx => ⟨Nat.zero_le _, s.lt x hx⟩)
    have t1 : Tame 0 0 (.int q.1) := tame_int (Nat.lt_of_le_of_lt (show q.1.natAbs ≤ 2000 by omega) (by decide))
    have t2 : Tame 24 1 (.tuple (natsD q.2)) := by
      rw [natsD_ints]
      exact (tame_tup (tame_ints fun x hx => by
        obtain ⟨n, hn, rfl⟩ := List.mem_map.mp hx
        have := s.lt n hn
        exact Nat.lt_of_le_of_lt (show (n : Int).natAbs ≤ 24 by omega) (by decide))).mono (by rw [List.length_map]; omega) (Nat.le_refl _)
    exact (tame_tup (tame_cons t1 (tame_cons t2 tame_nil))).mono (by decide) (by decide)
  exact (tame_tup (tame_all _ e)).mono (by rw [List.length_map]; omega) (by decide)
theorem tame_w {z : Str} (hz : z = "row" ∨ z = "ring") : Tame 5 0 (.str z) := by
  rcases hz with rfl | rfl
  · exact tame_str (by decide +kernel) (by decide +kernel)
  · exact tame_str (by decide +kernel) (by decide +kernel)
theorem right_6 (h1 : 0 < L) (h2 : L ≤ 24) (h : SgOk L qs) (hl : qs.length ≤ 10) : w__law_right_6 [.int (L : Int), .tuple (qs.map entD)] = ret (.bool true) := by
  have rs := x_repr (tame_ents h h2 hl) (by decide) (by decide)
  have b_lenT : ∀ a b : D, bi1 .len (.tuple [a, b]) = ret (.int 2) := fun _ _ => rfl
  have i0 : ∀ a b : D, opIdx (.tuple [a, b]) (.int 0) = ret a := fun _ _ => rfl
  have i1 : ∀ a b : D, opIdx (.tuple [a, b]) (.int 1) = ret b := fun _ _ => rfl
  have trb : ∀ b : Bool, tru (.bool b) = ret b := fun _ => rfl
  unfold w__law_right_6
  rcases reads h1 (by omega) h (by omega) with ⟨r, F, rb⟩ | ⟨l, R, ll, rb⟩
  · have ir := law_row_yes (r := r) (by rw [F.len]; omega) (by rw [F.len]; omega) F.rng
    have ag := law_agrees_yes h1 h2 (by omega) F
    have t2 : Tame 24 1 (.tuple (r.map PyData.int)) := (tame_tup (tame_ints fun x hx => by
      have := F.rng x hx
      exact Nat.lt_of_le_of_lt (show x.natAbs ≤ 60 by omega) (by decide))).mono (by rw [F.len]; exact h2) (Nat.le_refl _)
    have rf := x_repr ((tame_tup (tame_cons (tame_w (.inl rfl)) (tame_cons t2 tame_nil)))) (by decide) (by decide)
    have lr : bi1 .len (.tuple (r.map PyData.int)) = ret (.int (L : Int)) := by
      show ret (PyData.int ((r.map PyData.int).length : Int)) = _
      rw [List.length_map, F.len]
    have nx : noXn (PyData.tuple [.str "row", .tuple (r.map PyData.int)]) = true := nx_plain (tame_tup (tame_cons (tame_w (.inl rfl)) (tame_cons t2 tame_nil))).pln
    have nxs : noXn (PyData.str "row") = true := rfl
    have rr : opCmp .eq (.str "row") (.str "row") = ret true := eqS2 _
    refine (f_fn (by rfl)).trans ?_
    generalize (PyData.tuple (r.map PyData.int)) = TR at *
    generalize PyData.shown (.tuple (qs.map entD)) = s1 at *
    generalize PyData.shown (.tuple [.str "row", TR]) = s2 at *
    simp only [x_var, x_con, x_bin, x_neg, x_cmp, x_chain, x_tTru, x_tNot, x_tAnd, x_tOr, x_tBool, x_tYes, x_not, x_and, x_or, x_if, x_b1, x_b2, x_is, x_idx, x_oNone, x_oSome, x_cut, x_aNil, x_aCons, x_tup, x_lst, x_call, x_callS,
    x_iSeq, x_iRng1, x_iRng2, x_bor, x_tBor, x_put1, List.map_cons, List.map_nil, List.cons_append, List.nil_append, List.length_cons, List.length_nil, Nat.zero_add, Nat.reduceAdd, Nat.reduceSub, List.reduceReplicate, start,
    List.getElem?_cons_zero, List.getElem?_cons_succ, List.set_cons_zero, List.set_cons_succ, bnd_ret, bnd_assoc, bnd_grd, b1_if, bnd_ite, small, Nat.reduceLeDiff, grd_true, o_add, o_sub, o_neg, o_eq, o_ne, o_lt, o_le, o_gt, o_ge, o_eqS, o_neS,
    decide_eq_true_eq, reduceIte, decide_true, decide_false, Bool.not_true, Bool.not_false, Bool.false_eq_true, itemsOf, asInt, bi2, endOf, isTy,
    grd_tt, nx_int, nx_bool, nx_str, nx_none, nx_tup, nx_lst, x_isC, x_fld, x_in, x_count, x_lstR, x_tupR, x_raise, x_star, bnd_thr, noX_ret, fld_x, exn_d, eSetO, Out.clear, List.zip_cons_cons, List.zip_nil_left, List.zip_nil_right, s_asg, s_par, s_own, s_parO, s_put, s_expr, s_ret, s_skip, s_seq, s_rel, x_asg, x_par, x_own, x_parO, x_put, x_expr, x_ret, x_retN, x_skip, x_rel, x_app, x_setI, x_sIf, x_for, x_brk, x_cnt, rs, rb, nx, b_lenT, i0, trb, s_if, rr, i1, ir, lr, ag, rf, x_and]
  · have rg := law_is_ring_0 (by omega) h (by omega) R (by omega)
    have t2 : Tame (l.length * 4) 2 (.tuple (l.map bndD)) := tame_bnds (n := 1000) (fun b hb => bnd_small (by omega) h (R.there b hb)) (Nat.le_refl _)
    have rf := x_repr ((tame_tup (tame_cons (tame_w (.inr rfl)) (tame_cons t2 tame_nil)))) (by omega) (by decide)
    have nx : noXn (PyData.tuple [.str "ring", .tuple (l.map bndD)]) = true := nx_plain (tame_tup (tame_cons (tame_w (.inr rfl)) (tame_cons t2 tame_nil))).pln
    have nxs : noXn (PyData.str "ring") = true := rfl
    have rr : opCmp .eq (.str "ring") (.str "ring") = ret true := eqS2 _
    have rr2 : opCmp .eq (.str "ring") (.str "row") = ret false := (o_eqS _ _).trans (by rw [decide_eq_false (by decide)])
    refine (f_fn (by rfl)).trans ?_
    generalize (PyData.tuple (l.map bndD)) = TR at *
    generalize PyData.shown (.tuple (qs.map entD)) = s1 at *
    generalize PyData.shown (.tuple [.str "ring", TR]) = s2 at *
    simp only [x_var, x_con, x_bin, x_neg, x_cmp, x_chain, x_tTru, x_tNot, x_tAnd, x_tOr, x_tBool, x_tYes, x_not, x_and, x_or, x_if, x_b1, x_b2, x_is, x_idx, x_oNone, x_oSome, x_cut, x_aNil, x_aCons, x_tup, x_lst, x_call, x_callS,
    x_iSeq, x_iRng1, x_iRng2, x_bor, x_tBor, x_put1, List.map_cons, List.map_nil, List.cons_append, List.nil_append, List.length_cons, List.length_nil, Nat.zero_add, Nat.reduceAdd, Nat.reduceSub, List.reduceReplicate, start,
    List.getElem?_cons_zero, List.getElem?_cons_succ, List.set_cons_zero, List.set_cons_succ, bnd_ret, bnd_assoc, bnd_grd, b1_if, bnd_ite, small, Nat.reduceLeDiff, grd_true, o_add, o_sub, o_neg, o_eq, o_ne, o_lt, o_le, o_gt, o_ge, o_eqS, o_neS,
    decide_eq_true_eq, reduceIte, decide_true, decide_false, Bool.not_true, Bool.not_false, Bool.false_eq_true, itemsOf, asInt, bi2, endOf, isTy,
    grd_tt, nx_int, nx_bool, nx_str, nx_none, nx_tup, nx_lst, x_isC, x_fld, x_in, x_count, x_lstR, x_tupR, x_raise, x_star, bnd_thr, noX_ret, fld_x, exn_d, eSetO, Out.clear, List.zip_cons_cons, List.zip_nil_left, List.zip_nil_right, s_asg, s_par, s_own, s_parO, s_put, s_expr, s_ret, s_skip, s_seq, s_rel, x_asg, x_par, x_own, x_parO, x_put, x_expr, x_ret, x_retN, x_skip, x_rel, x_app, x_setI, x_sIf, x_for, x_brk, x_cnt, rs, rb, nx, b_lenT, i0, trb, s_if, rr, rr2, i1, rg, rf, x_and]
end
end DL
end
section
namespace DL
open PySem
theorem ring_of {L : Nat} {qs : List (Int × List Nat)} (h1 : 0 < L) (h2 : L ≤ 900) (h : SgOk L qs) (hl : qs.length ≤ 100) (no : ∀ x, ¬ Fits L x qs) : ∃ z, w_read_back_0 [.int (L : Int), .tuple (qs.map entD)] = ret (.tuple [.str "ring", z]) := by
  rcases reads h1 h2 h hl with ⟨r, F, _⟩ | ⟨l, _, _, rb⟩
  · exact absurd F (no r)
  · exact ⟨_, rb⟩
theorem sgok_dec {L : Nat} {qs : List (Int × List Nat)} (h : ∀ q ∈ qs, 1 ≤ q.1 ∧ q.1 ≤ 2000 ∧ q.2[0]? = some 0 ∧ q.2.Pairwise (· < ·) ∧ ∀ a ∈ q.2, a < L) : SgOk L qs := fun q hq => by
  obtain ⟨a, b, c, d, e⟩ := h q hq
  exact ⟨a, b, c, d, e⟩
theorem rb1 : ∃ z, w_read_back_0 [.int 2, .tuple [.tuple [.int 2, .tuple [.int 0]]]] = ret (.tuple [.str "ring", z]) :=
  ring_of (L := 2) (qs := [(2, [0])]) (by decide) (by decide) (sgok_dec (by decide +kernel)) (by decide) fun x F => by
    have s := F.sol (by decide)
    have a := s (1, 0, -2) (by decide +kernel)
    have b := s (2, 1, -2) (by decide +kernel)
    have c := s (0, 2, 3) (by decide +kernel)
    simp only at a b c
    omega
theorem row_of {L : Nat} {qs : List (Int × List Nat)} {x : List Int} (h1 : 0 < L) (h2 : L ≤ 900) (h : SgOk L qs) (hl : qs.length ≤ 100) (F : Fits L x qs) : ∃ z, w_read_back_0 [.int (L : Int), .tuple (qs.map entD)] = ret (.tuple [.str "row", z]) := by
  obtain ⟨r, _, rb⟩ := reads_row h1 h2 h hl F
  exact ⟨_, rb⟩
theorem rb2 : ∃ z, w_read_back_0 [.int 3, .tuple [.tuple [.int 9, .tuple [.int 0, .int 1]], .tuple [.int 10, .tuple [.int 0, .int 2]]]] = ret (.tuple [.str "row", z]) :=
  row_of (L := 3) (qs := [(9, [0, 1]), (10, [0, 2])]) (x := [8, 1, 1]) (by decide) (by decide) (sgok_dec (by decide +kernel)) (by decide) ⟨rfl, by decide +kernel, by decide +kernel, by decide +kernel⟩
theorem rb3 : ∃ z, w_read_back_0 [.int 2, .tuple [.tuple [.int 60, .tuple [.int 0, .int 1]], .tuple [.int 61, .tuple [.int 0]]]] = ret (.tuple [.str "row", z]) :=
  row_of (L := 2) (qs := [(60, [0, 1]), (61, [0])]) (x := [30, 30]) (by decide) (by decide) (sgok_dec (by decide +kernel)) (by decide) ⟨rfl, by decide +kernel, by decide +kernel, by decide +kernel⟩
theorem rb4 : ∃ z, w_read_back_0 [.int 1, .tuple [.tuple [.int 60, .tuple [.int 0]], .tuple [.int 2000, .tuple [.int 0]]]] = ret (.tuple [.str "row", z]) :=
  row_of (L := 1) (qs := [(60, [0]), (2000, [0])]) (x := [1]) (by decide) (by decide) (sgok_dec (by decide +kernel)) (by decide) ⟨rfl, by decide +kernel, by decide +kernel, by decide +kernel⟩
def evn : List Nat := [0, 2, 4, 6, 8, 10, 12, 14, 16, 18, 20, 22]
theorem rb5 : ∃ z, w_read_back_0 [.int 24, .tuple [.tuple [.int 1, .tuple (rng 0 24)], .tuple [.int 3, .tuple (rngC 0 24 2)]]] = ret (.tuple [.str "row", z]) :=
  row_of (L := 24) (qs := [(1, List.range 24), (3, evn)]) (x := List.replicate 24 1) (by decide) (by decide) (sgok_dec (by decide +kernel)) (by decide) ⟨rfl, by decide +kernel, by decide +kernel, by decide +kernel⟩
theorem rb6 : ∃ z, w_read_back_0 [.int 24, .tuple [.tuple [.int 2, .tuple (rng 0 24)], .tuple [.int 3, .tuple [.int 0]]]] = ret (.tuple [.str "ring", z]) :=
  ring_of (L := 24) (qs := [(2, List.range 24), (3, [0])]) (by decide) (by decide) (sgok_dec (by decide +kernel)) (by decide) fun x F => by
    have s := F.sol (by decide)
    have mem : ∀ p, p < 24 → ((p + 1, p, (-2 : Int)) : Bnd) ∈ bndsOf 24 [(2, List.range 24), (3, [0])] := by decide +kernel
    have c := s (0, 24, 4) (by decide +kernel)
    have up : ∀ k : Nat, k ≤ 24 → (pre x 0 - pre x x.length) + 2 * (k : Int) ≤ pre x k - pre x x.length := by
      intro k
      induction k with
      | zero => intro _; simp
      | succ k ih =>
        intro hk
        have i1 := ih (by omega)
        have i2 := s _ (mem k (by omega))
        simp only at i2
        omega
    have u := up 24 (by omega)
    simp only at c
    omega
open Wk38 in
theorem math_k38 : m_law (lawE 6 1) (.z 0) (fun o _ => o = .rt (.bool true)) fun _ _ => False := by
  suffices h : Ok (m_law (lawE 6 1)) 3000 (fun o => o = .rt (.bool true)) from h.run (by decide) fun _ h => h
  unfold m_law
  refine Ok.seq 3000 (fun E => ∃ e0 e1 e2 e3 e4 e5, E = [e0, e1, e2, e3, e4, e5]) (n := 2000) ?_ (by decide) ?_
  · simp only [x_for, x_iRng1, x_var, x_con, x_bin, x_neg, x_cmp, x_chain, x_tTru, x_tNot, x_tAnd, x_tOr, x_tBool, x_tYes, x_not, x_and, x_or, x_if, x_b1, x_b2, x_is, x_idx, x_oNone, x_oSome, x_cut, x_aNil, x_aCons, x_tup, x_lst, x_call, x_callS,
    x_iSeq, x_iRng1, x_iRng2, x_bor, x_tBor, x_put1, List.map_cons, List.map_nil, List.cons_append, List.nil_append, List.length_cons, List.length_nil, Nat.zero_add, Nat.reduceAdd, Nat.reduceSub, List.reduceReplicate, start,
    List.getElem?_cons_zero, List.getElem?_cons_succ, List.set_cons_zero, List.set_cons_succ, bnd_ret, bnd_assoc, bnd_grd, b1_if, bnd_ite, small, Nat.reduceLeDiff, grd_true, o_add, o_sub, o_neg, o_eq, o_ne, o_lt, o_le, o_gt, o_ge, o_eqS, o_neS,
    decide_eq_true_eq, reduceIte, decide_true, decide_false, Bool.not_true, Bool.not_false, Bool.false_eq_true, itemsOf, asInt, bi2, endOf, isTy,
    grd_tt, nx_int, nx_bool, nx_str, nx_none, nx_tup, nx_lst, x_isC, x_fld, x_in, x_count, x_lstR, x_tupR, x_raise, x_star, bnd_thr, noX_ret, fld_x, exn_d, eSetO, Out.clear, List.zip_cons_cons, List.zip_nil_left, List.zip_nil_right]
    rw [grd_pos (by unfold rngOk; omega)]
    refine for_ok (b := 130) (fun _ E => E.length = 6 ∧ E[1]? = some .stm) ⟨rfl, rfl⟩ (by rw [rng_len]; decide) (fun j d E hj hE => ?_) fun E hE => ?_
    · obtain ⟨h11, e1⟩ := hE
      match E, h11, e1 with
      | [x0, x1, x2, x3, x4, x5], _, e1 =>
      simp only [List.getElem?_cons_succ, List.getElem?_cons_zero, Option.some.injEq] at e1
      subst e1
      obtain ⟨rfl, hj2⟩ := rng_at hj
      refine ⟨_, rfl, ?_⟩
      have hm : ∃ most : Int, opIdx (.list [.int 24, .int 5, .int 3]) (.int ((0 + (j : Int)) % 3)) = ret (.int most) ∧ 1 ≤ most ∧ most ≤ 24 := by
        obtain z | z | z : (0 + (j : Int)) % 3 = 0 ∨ (0 + (j : Int)) % 3 = 1 ∨ (0 + (j : Int)) % 3 = 2 := by omega
        · rw [z]; exact ⟨24, rfl, by decide, by decide⟩
        · rw [z]; exact ⟨5, rfl, by decide, by decide⟩
        · rw [z]; exact ⟨3, rfl, by decide, by decide⟩
      obtain ⟨most, em, m1, m2⟩ := hm
      have md : opBin .mod (.int (0 + (j : Int))) (.int 3) = ret (.int ((0 + (j : Int)) % 3)) := grd_pos (by decide) _
      simp only [x_var, x_con, x_bin, x_neg, x_cmp, x_chain, x_tTru, x_tNot, x_tAnd, x_tOr, x_tBool, x_tYes, x_not, x_and, x_or, x_if, x_b1, x_b2, x_is, x_idx, x_oNone, x_oSome, x_cut, x_aNil, x_aCons, x_tup, x_lst, x_call, x_callS,
    x_iSeq, x_iRng1, x_iRng2, x_bor, x_tBor, x_put1, List.map_cons, List.map_nil, List.cons_append, List.nil_append, List.length_cons, List.length_nil, Nat.zero_add, Nat.reduceAdd, Nat.reduceSub, List.reduceReplicate, start,
    List.getElem?_cons_zero, List.getElem?_cons_succ, List.set_cons_zero, List.set_cons_succ, bnd_ret, bnd_assoc, bnd_grd, b1_if, bnd_ite, small, Nat.reduceLeDiff, grd_true, o_add, o_sub, o_neg, o_eq, o_ne, o_lt, o_le, o_gt, o_ge, o_eqS, o_neS,
    decide_eq_true_eq, reduceIte, decide_true, decide_false, Bool.not_true, Bool.not_false, Bool.false_eq_true, itemsOf, asInt, bi2, endOf, isTy,
    grd_tt, nx_int, nx_bool, nx_str, nx_none, nx_tup, nx_lst, x_isC, x_fld, x_in, x_count, x_lstR, x_tupR, x_raise, x_star, bnd_thr, noX_ret, fld_x, exn_d, eSetO, Out.clear, List.zip_cons_cons, List.zip_nil_left, List.zip_nil_right, s_asg, s_par, s_own, s_parO, s_put, s_expr, s_ret, s_skip, s_seq, s_rel, x_asg, x_par, x_own, x_parO, x_put, x_expr, x_ret, x_retN, x_skip, x_rel, x_app, x_setI, x_sIf, x_for, x_brk, x_cnt, md, em]
      refine Ok.bnd' 130 (sightings_G ⟨m1, m2⟩) (by decide) ?_
      rintro sd ⟨L, sg, rfl, L1, L2, qs, rfl, q1, q2, hq⟩
      have r6 := right_6 (by omega) L2 hq (by omega)
      have pt : ∀ E : Env, (Tg.tp [3, 4]).put (PyData.list [.int (L : Int), .tuple (qs.map entD)]) E = some ((E.set 3 (.val (.int (L : Int)))).set 4 (.val (.tuple (qs.map entD)))) := fun _ => rfl
      have trb : ∀ b : Bool, tru (.bool b) = ret b := fun _ => rfl
      generalize (PyData.tuple (qs.map entD)) = sd at *
      simp only [x_var, x_con, x_bin, x_neg, x_cmp, x_chain, x_tTru, x_tNot, x_tAnd, x_tOr, x_tBool, x_tYes, x_not, x_and, x_or, x_if, x_b1, x_b2, x_is, x_idx, x_oNone, x_oSome, x_cut, x_aNil, x_aCons, x_tup, x_lst, x_call, x_callS,
    x_iSeq, x_iRng1, x_iRng2, x_bor, x_tBor, x_put1, List.map_cons, List.map_nil, List.cons_append, List.nil_append, List.length_cons, List.length_nil, Nat.zero_add, Nat.reduceAdd, Nat.reduceSub, List.reduceReplicate, start,
    List.getElem?_cons_zero, List.getElem?_cons_succ, List.set_cons_zero, List.set_cons_succ, bnd_ret, bnd_assoc, bnd_grd, b1_if, bnd_ite, small, Nat.reduceLeDiff, grd_true, o_add, o_sub, o_neg, o_eq, o_ne, o_lt, o_le, o_gt, o_ge, o_eqS, o_neS,
    decide_eq_true_eq, reduceIte, decide_true, decide_false, Bool.not_true, Bool.not_false, Bool.false_eq_true, itemsOf, asInt, bi2, endOf, isTy,
    grd_tt, nx_int, nx_bool, nx_str, nx_none, nx_tup, nx_lst, x_isC, x_fld, x_in, x_count, x_lstR, x_tupR, x_raise, x_star, bnd_thr, noX_ret, fld_x, exn_d, eSetO, Out.clear, List.zip_cons_cons, List.zip_nil_left, List.zip_nil_right, s_asg, s_par, s_own, s_parO, s_put, s_expr, s_ret, s_skip, s_seq, s_rel, x_asg, x_par, x_own, x_parO, x_put, x_expr, x_ret, x_retN, x_skip, x_rel, x_app, x_setI, x_sIf, x_for, x_brk, x_cnt, pt, r6, trb]
      exact Ok.ret ⟨rfl, rfl⟩
    · obtain ⟨h, _⟩ := hE
      match E, h with
      | [x0, x1, x2, x3, x4, x5], _ => exact ⟨_, _, _, _, _, _, rfl⟩
  rintro E ⟨e0, e1, e2, e3, e4, e5, rfl⟩
  obtain ⟨z1, h1⟩ := rb1
  obtain ⟨z2, h2⟩ := rb2
  obtain ⟨z3, h3⟩ := rb3
  obtain ⟨z4, h4⟩ := rb4
  obtain ⟨z5, h5⟩ := rb5
  obtain ⟨z6, h6⟩ := rb6
  have i0 : ∀ a b : D, opIdx (.tuple [a, b]) (.int 0) = ret a := fun _ _ => rfl
  have r1 : iRng1 (eCon (.int 24)) = fun E => ret (rng 0 24) := by
    funext E
    rw [x_iRng1, x_con, bnd_ret]
    exact grd_pos (by unfold rngOk; decide) _
  have r3 : iRng3 (eCon (.int 0)) (eCon (.int 24)) (eCon (.int 2)) = fun E => ret (rngC 0 24 2) := by
    funext E
    show bnd (eCon (.int 0) E) _ = _
    simp only [x_con, bnd_ret]
    exact grd_pos (by unfold rngCOk; decide) _
  have q0 : ∀ a b : D, opIdx (.list [a, b]) (.int 0) = ret a := fun _ _ => rfl
  have q1 : ∀ a b : D, opIdx (.list [a, b]) (.int 1) = ret b := fun _ _ => rfl
  have sm1 : (rng 0 24).length ≤ 1000000 := by rw [rng_len]; decide
  have sm3 : (rngC 0 24 2).length ≤ 1000000 := by decide
  have oe : opCmp .eq (.list [.str "ring", .str "row", .str "row", .str "row", .str "row", .str "ring"]) (.list [.str "ring", .str "row", .str "row", .str "row", .str "row", .str "ring"]) = ret true := o_eqR (by decide +kernel) (by decide +kernel)
  rw [r1, r3]
  generalize rng 0 24 = R1 at *
  generalize rngC 0 24 2 = R2 at *
  simp only [x_var, x_con, x_bin, x_neg, x_cmp, x_chain, x_tTru, x_tNot, x_tAnd, x_tOr, x_tBool, x_tYes, x_not, x_and, x_or, x_if, x_b1, x_b2, x_is, x_idx, x_oNone, x_oSome, x_cut, x_aNil, x_aCons, x_tup, x_lst, x_call, x_callS,
    x_iSeq, x_iRng1, x_iRng2, x_bor, x_tBor, x_put1, List.map_cons, List.map_nil, List.cons_append, List.nil_append, List.length_cons, List.length_nil, Nat.zero_add, Nat.reduceAdd, Nat.reduceSub, List.reduceReplicate, start,
    List.getElem?_cons_zero, List.getElem?_cons_succ, List.set_cons_zero, List.set_cons_succ, bnd_ret, bnd_assoc, bnd_grd, b1_if, bnd_ite, small, Nat.reduceLeDiff, grd_true, o_add, o_sub, o_neg, o_eq, o_ne, o_lt, o_le, o_gt, o_ge, o_eqS, o_neS,
    decide_eq_true_eq, reduceIte, decide_true, decide_false, Bool.not_true, Bool.not_false, Bool.false_eq_true, itemsOf, asInt, bi2, endOf, isTy,
    grd_tt, nx_int, nx_bool, nx_str, nx_none, nx_tup, nx_lst, x_isC, x_fld, x_in, x_count, x_lstR, x_tupR, x_raise, x_star, bnd_thr, noX_ret, fld_x, exn_d, eSetO, Out.clear, List.zip_cons_cons, List.zip_nil_left, List.zip_nil_right, s_asg, s_par, s_own, s_parO, s_put, s_expr, s_ret, s_skip, s_seq, s_rel, x_asg, x_par, x_own, x_parO, x_put, x_expr, x_ret, x_retN, x_skip, x_rel, x_app, x_setI, x_sIf, x_for, x_brk, x_cnt, h1, h2, h3, h4, h5, h6, i0, q0, q1, o_addL, sm1, sm3, oe]
  exact Ok.ret rfl
end DL
end
theorem PySem.Challenge.cw_wrapwidths_k38_rings_read_back_holds : PySem.Challenge.rw_wrapwidths_k38_rings_read_back.Holds :=
  Wk38.end_ DL.math_k38
