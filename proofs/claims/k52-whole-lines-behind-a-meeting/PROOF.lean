import PyProof.Rows.All
import Wide.All
import OpenK.AllK
import Wide.FinOn
import HandS.ForMost
import HandS.HeadHook1
import HandS.HeadHook2
import KE.KExcInit
import KE.KExcIs
import HandS.ExcIs
import HandS.IsInst
import HandS.ExcCtx
import HandS.SuiteRaise
import HandS.WordsExc
import HandS.ForExc
import HandS.Walk
import HandS.Conv
import HandS.Flow
import HandS.TupAny
import HandS.TupMul
import HandS.Style
import HandS.Wide
import KE.KTupSum
import KE.DataMinMax
import HandS.NoneIn
import HandS.Defaults
import HandS.CallSlots
import HandS.Lambda
import HandS.EndBits
import KE.GoesEnum
import KE.GoesMore
import HandS.Star
import HandS.RaiseMore
import HandS.RaiseFrom
import KE.KExcHand
import KE.KTryMore
import HandS.HeadEnd
import HandS.Head0
import HandS.Head1
import HandS.Head2
import HandS.More
import PyProof.MaxThree
import HandS.Zip
import HandS.Strs
import HandS.Iter
import HandS.Text
import HandS.SortInts
import HandS.FStr
import KE.KUnpack
import PyProof.CollectIter
import HandS.Property
import OpenK.KOps
import OpenK.KMeth
import KE.KOpsOwn
import KE.KCallOwn
import HandS.ClsMeth
import HandS.HeadNt
import KE.KUnpackStar
import HandS.HotCalls
import HandS.Finally
import PyProof.Rows.TupIter
import PyProof.RulesMatch
import HandS.Comp
import KE.KSuper
import PyProof.EqKinds
import PyProof.InstNe
import PyProof.FactsAll.dict_1
import HandS.HeadHook3
import HandS.GenBody
import HandS.GenYield
import PyProof.ForAny
import HandS.GenCall
import HandS.GenList
import KE.KDictZip
import HandS.RevRange
import HandS.EndTab
import HandS.GenOver
import HandS.SetFor
import KE.SortData
import HandS.TupSets
import HandS.NamedTupSort
import PySem.Challenge.RW_wrapwidths_k52_whole_lines_behind_a_meet
import PyProof.Rows.StrCase
import PyProof.Rows.ReprOcc
import PyProof.P3Eq
set_option Elab.async false
set_option linter.all false
set_option maxRecDepth 100000
set_option maxHeartbeats 0
section
namespace DL
open PySem
abbrev D := PyData
/-- an error: its class by name, its fields by name -/
structure Exn where
  cls : Str
  fs : List (Str × D)
/-- what stands in a cell: a list that is changed, an object with fields -/
inductive Cell where
  | lst (ds : List D)
  | ins (cls : Str) (fs : List (Str × D))
  | tab (x : Str)
/-- the fields that objects with cells have -/
def fldN : List Str := ["now", "states", "done", "wanted", "is_busy", "rows", "page", "pairs"]
/-- where a run stands: how many draws were made so far; the cells -/
structure Sx where
  n : Nat
  mu : Nat → Option Cell
/-- one draw more -/
def Sx.up (c : Sx) : Sx := ⟨c.n + 1, c.mu⟩
/-- no cell -/
def Sx.z (n : Nat) : Sx := ⟨n, fun _ => none⟩
abbrev W (α : Type) := Sx → (α → Sx → Prop) → (Exn → Sx → Prop) → Prop
def ret {α : Type} (a : α) : W α := fun n P _ => P a n
def bnd {α β : Type} (m : W α) (f : α → W β) : W β := fun n P X => m n (fun a n' => f a n' P X) X
def stuck {α : Type} : W α := fun _ _ _ => False
def grd {α : Type} (c : Prop) (m : W α) : W α := fun n P X => c ∧ m n P X
def thr {α : Type} (e : Exn) : W α := fun n _ X => X e n
@[simp] theorem bnd_ret {α β : Type} (a : α) (f : α → W β) : bnd (ret a) f = f a := id rfl
@[simp] theorem bnd_stuck {α β : Type} (f : α → W β) : bnd stuck f = stuck := rfl
@[simp] theorem bnd_thr {α β : Type} (e : Exn) (f : α → W β) : bnd (thr e) f = thr e := id rfl
theorem grd_pos {α : Type} {c : Prop} (h : c) (m : W α) : grd c m = m := by
  funext n P X
  exact propext ⟨fun q => q.2, fun q => ⟨h, q⟩⟩
@[simp] theorem grd_true {α : Type} (m : W α) : grd True m = m := grd_pos True.intro m
theorem bnd_grd {α β : Type} {c : Prop} (m : W α) (f : α → W β) : bnd (grd c m) f = grd c (bnd m f) := rfl
/-- what a slot is known to hold: nothing, a value, a list of its own, the stream -/
inductive Ent where
  | unk
  | val (d : D)
  | own (ds : List D)
  | stm
  | scr (ns : List Int)
abbrev Env := List Ent
mutual
/-- no list, no dict within -/
def flat : D → Bool
  | .none => true
  | .bool _ => true
  | .int _ => true
  | .str _ => true
  | .tuple xs => flatAll xs
  | .list _ => false
  | .dict [(.none, .bool true), (.none, .int _)] => true
  | .dict _ => false
def flatAll : List D → Bool
  | [] => true
  | x :: xs => flat x && flatAll xs
end
mutual
/-- what may be shown: no exception within; dicts of at most one entry -/
def plain : D → Bool
  | .none => true
  | .bool _ => true
  | .int _ => true
  | .str _ => true
  | .tuple xs => plainAll xs
  | .list xs => plainAll xs
  | .dict [] => true
  | .dict [(.str _, d)] => plain d
  | .dict _ => false
def plainAll : List D → Bool
  | [] => true
  | x :: xs => plain x && plainAll xs
end
/-- an exception as data: its class by name, its fields -/
def xD (n : Str) (fs : List (Str × D)) : D := .dict ((.none, .str n) :: fs.map fun q => (.str q.1, q.2))
/-- an instance of WordRow as data: what it holds -/
def wD (d : D) : D := .dict [(.none, .int 0), (.str "held", d)]
/-- a tuple that is known to have no dict of its own -/
def tD (ds : List D) : D := .dict [(.none, .bool false), (.none, .tuple ds)]
/-- a cell's place, as data -/
def rD (a : Nat) : D := .dict [(.none, .bool true), (.none, .int (a : Int))]
/-- not an exception, no instance -/
def noXn : D → Bool
  | .dict ((.none, _) :: _) => false
  | _ => true
/-- sizes that the machine lets pass -/
def small (n : Nat) : Prop := n ≤ 1000000
def mulOk (i j : Int) : Prop := (-(2 ^ 64) < i ∧ i < 2 ^ 64) ∨ (-(2 ^ 64) < j ∧ j < 2 ^ 64)
def rep (k : Int) (xs : List D) : List D := (List.replicate k.toNat xs).flatten
def b2i (b : Bool) : Int := if b = true then 1 else 0
def opAdd : D → D → W D
  | .int a, .int b => ret (.int (a + b))
  | .bool a, .int b => ret (.int (b2i a + b))
  | .tuple xs, .tuple ys => grd (small (xs.length + ys.length)) (ret (.tuple (xs ++ ys)))
  | .list xs, .list ys => grd (small (xs.length + ys.length)) (ret (.list (xs ++ ys)))
  | .str x, .str y => grd (x.length + y.length ≤ 1000000) (ret (.str (x ++ y)))
  | _, _ => stuck
def opSub : D → D → W D
  | .int a, .int b => ret (.int (a - b))
  | .bool a, .int b => ret (.int (b2i a - b))
  | _, _ => stuck
def opMul : D → D → W D
  | .int a, .int b => grd (mulOk a b) (ret (.int (a * b)))
  | .tuple xs, .int k => grd (xs ≠ [] ∧ 0 ≤ k ∧ k ≤ 1000 ∧ xs.length ≤ 1000) (ret (.tuple (rep k xs)))
  | .list xs, .int k => grd (0 ≤ k ∧ k ≤ 1000 ∧ xs.length ≤ 1000) (ret (.list (rep k xs)))
  | _, _ => stuck
def opFdiv : D → D → W D
  | .int a, .int b => grd (0 < b ∧ b < 9223372036854775808) (ret (.int (a / b)))
  | _, _ => stuck
def opMod : D → D → W D
  | .int a, .int b => grd (0 < b) (ret (.int (a % b)))
  | _, _ => stuck
def opPow : D → D → W D
  | .int a, .int b => grd (0 ≤ b ∧ b ≤ 1000 ∧ a.natAbs < 2 ^ 64) (ret (.int (a ^ b.toNat)))
  | _, _ => stuck
def opShl : D → D → W D
  | .int a, .int b => grd (0 ≤ b ∧ b ≤ 1000 ∧ a.natAbs < 2 ^ 64) (ret (.int (a * 2 ^ b.toNat)))
  | _, _ => stuck
def opNeg : D → W D
  | .int a => ret (.int (-a))
  | _ => stuck
/-- truth -/
def tru : D → W Bool
  | .none => ret false
  | .bool b => ret b
  | .int i => ret (i != 0)
  | .str x => grd (x.length ≤ 1000000) (ret ((x.length : Int) != 0))
  | .tuple xs => ret (!xs.isEmpty)
  | .list xs => ret (!xs.isEmpty)
  | .dict _ => stuck
/-- a list or a small dict against the empty tuple -/
def vsNil : D → D → Bool
  | .list _, .tuple [] => true
  | .dict [], .tuple [] => true
  | .dict [(.str _, _)], .tuple [] => true
  | _, _ => false
def eqOk : D → D → Prop
  | .str _, .str _ => True
  | .list _, .list [] => True
  | .tuple _, .tuple [] => True
  | a, b => vsNil a b = true ∨ (SeqAt.shaped a = true ∧ SeqAt.shaped b = true)
def opEq (a b : D) : W Bool := grd (eqOk a b) (ret (PyData.eqv a b))
theorem eqOk_of {a b : D} (h : SeqAt.shaped a = true) (h2 : SeqAt.shaped b = true) : eqOk a b := by
  unfold eqOk
  split
  · exact True.intro
  · exact True.intro
  · exact True.intro
  · exact .inr ⟨h, h2⟩
def opLt : D → D → W Bool
  | .int a, .int b => ret (decide (a < b))
  | _, _ => stuck
def opLe : D → D → W Bool
  | .int a, .int b => ret (decide (a ≤ b))
  | _, _ => stuck
def isNone : D → Bool
  | .none => true
  | _ => false
/-- is: against None, or two bools -/
def isOpOk : D → D → Prop
  | .bool _, .bool _ => True
  | _, b => b = .none
def isOpV : D → D → Bool
  | .bool a, .bool b => decide (a = b)
  | a, _ => isNone a
theorem isOpOk_none (a : D) : isOpOk a .none := by
  cases a <;> rfl
theorem isOpV_none (a : D) : isOpV a .none = isNone a := by
  cases a <;> rfl
inductive Cmp where
  | eq | ne | lt | le | gt | ge | isN | notN
def opCmp : Cmp → D → D → W Bool
  | .eq, a, b => opEq a b
  | .ne, a, b => bnd (opEq a b) fun c => ret (!c)
  | .lt, a, b => opLt a b
  | .le, a, b => opLe a b
  | .gt, a, b => opLt b a
  | .ge, a, b => opLe b a
  | .isN, a, b => grd (isOpOk a b) (ret (isOpV a b))
  | .notN, a, b => grd (isOpOk a b) (ret (!isOpV a b))
inductive Op where
  | add | sub | mul | fdiv | mod | pow | shl
/-- what is asked of is -/
theorem isN_none (a : D) : opCmp .isN a .none = ret (isNone a) := by
  show grd (isOpOk a .none) (ret (isOpV a .none)) = _
  rw [grd_pos (isOpOk_none a), isOpV_none]
def opBin : Op → D → D → W D
  | .add => opAdd
  | .sub => opSub
  | .mul => opMul
  | .fdiv => opFdiv
  | .mod => opMod
  | .pow => opPow
  | .shl => opShl
/-- the items of a sequence -/
def itemsOf : D → W (List D)
  | .tuple xs => ret xs
  | .list xs => ret xs
  | _ => stuck
def opIdx : D → D → W D
  | .tuple xs, .int i => match L2.atI xs i with | some d => ret d | none => stuck
  | .list xs, .int i => match L2.atI xs i with | some d => ret d | none => stuck
  | _, _ => stuck
/-- a part's bound: an int, or none written -/
def sIx (n d : Nat) : Option Int → Nat := HT.sIx n d
def cut (xs : List D) (lo hi : Option Int) : List D := (xs.drop (HT.sIx xs.length 0 lo)).take (HT.sIx xs.length xs.length hi - HT.sIx xs.length 0 lo)
def opCut : D → Option Int → Option Int → W D
  | .tuple xs, lo, hi => ret (.tuple (cut xs lo hi))
  | .list xs, lo, hi => ret (.list (cut xs lo hi))
  | .str x, lo, hi => grd (x.length ≤ 1000000) (ret (.str (L2.cutS x lo hi)))
  | _, _, _ => stuck
def asInt : D → W Int
  | .int i => ret i
  | _ => stuck
/-- the ints of a list of ints -/
def ints? : List D → Option (List Int)
  | [] => some []
  | .int i :: r => (ints? r).map (i :: ·)
  | _ :: _ => none
def bools? : List D → Option (List Bool)
  | [] => some []
  | .bool i :: r => (bools? r).map (i :: ·)
  | _ :: _ => none
theorem ints?_map (ns : List Int) : ints? (ns.map PyData.int) = some ns := by
  induction ns with
  | nil => rfl
  | cons a r ih => simp [ints?, ih]
theorem ints?_eq : ∀ {ds : List D} {ns : List Int}, ints? ds = some ns → ds = ns.map PyData.int
  | [], ns, h => by simp [ints?] at h; subst h; rfl
  | .int i :: r, ns, h => by
    simp only [ints?, Option.map_eq_some_iff] at h
    obtain ⟨l, h1, rfl⟩ := h
    rw [ints?_eq h1]; rfl
  | .none :: r, ns, h => by simp [ints?] at h
  | .bool _ :: r, ns, h => by simp [ints?] at h
  | .str _ :: r, ns, h => by simp [ints?] at h
  | .list _ :: r, ns, h => by simp [ints?] at h
  | .tuple _ :: r, ns, h => by simp [ints?] at h
  | .dict _ :: r, ns, h => by simp [ints?] at h
def greatest (a : Int) (l : List Int) : Int := l.foldl max a
def least (a : Int) (l : List Int) : Int := l.foldl min a
inductive B1 where
  | len | sum | max | min | abs | repr | str | tuple | list | all | any | sorted | bool | int
def showOk (d : D) : Prop := PyData.showable d = true ∧ PyData.depth d ≤ 40 ∧ (PyData.shown d).length ≤ 1000000 ∧ plain d = true
def intsOf (d : D) : W (List Int) := bnd (itemsOf d) fun xs => match ints? xs with | some ns => ret ns | none => stuck
def bi1 : B1 → D → W D
  | .len, .tuple xs => ret (.int xs.length)
  | .len, .list xs => ret (.int xs.length)
  | .len, .str x => grd (x.length ≤ 1000000) (ret (.int x.length))
  | .len, _ => stuck
  | .sum, d => bnd (intsOf d) fun ns => ret (.int ns.sum)
  | .max, d => bnd (intsOf d) fun ns => match ns with | [] => stuck | a :: r => ret (.int (greatest a r))
  | .min, d => bnd (intsOf d) fun ns => match ns with | [] => stuck | a :: r => ret (.int (least a r))
  | .abs, .int i => ret (.int (if i < 0 then -i else i))
  | .abs, _ => stuck
  | .repr, d => grd (showOk d) (ret (.str (PyData.shown d)))
  | .str, .int i => grd (i.natAbs.log2 < 1920) (ret (.str (toString i)))
  | .str, .str x => ret (.str x)
  | .str, .bool b => ret (.str (if b = true then "True" else "False" : String))
  | .str, _ => stuck
  | .tuple, d => bnd (itemsOf d) fun xs => ret (.tuple xs)
  | .list, d => bnd (itemsOf d) fun xs => ret (.list xs)
  | .all, .list xs => match bools? xs with | some bs => ret (.bool (bs.all id)) | none => stuck
  | .all, _ => stuck
  | .any, .list xs => match bools? xs with | some bs => ret (.bool (bs.any id)) | none => stuck
  | .any, _ => stuck
  | .sorted, _ => stuck
  | .bool, _ => stuck
  | .int, .int i => ret (.int i)
  | .int, .bool b => ret (.int (if b then 1 else 0))
  | .int, _ => stuck
inductive B2 where
  | max | min
def bi2 : B2 → D → D → W D
  | .max, .int i, .int j => ret (.int (if j > i then j else i))
  | .min, .int i, .int j => ret (.int (if j < i then j else i))
  | _, _, _ => stuck
inductive Ty where
  | int | bool | tuple | str | list | dict
def isTy : Ty → D → Bool
  | .int, .int _ => true
  | .int, .bool _ => true
  | .bool, .bool _ => true
  | .tuple, .tuple _ => true
  | .str, .str _ => true
  | .list, .list _ => true
  | .dict, .dict _ => true
  | _, _ => false
abbrev XE := Env → W D
abbrev XT := Env → W Bool
abbrev XA := Env → W (List D)
def eVar (i : Nat) : XE := fun E => match E[i]? with | some (.val d) => ret d | _ => stuck
def eCon (d : D) : XE := fun _ => ret d
def eBin (o : Op) (a b : XE) : XE := fun E => bnd (a E) fun x => bnd (b E) fun y => opBin o x y
def eNeg (a : XE) : XE := fun E => bnd (a E) opNeg
def eCmp (o : Cmp) (a b : XE) : XE := fun E => bnd (a E) fun x => bnd (b E) fun y => bnd (opCmp o x y) fun c => ret (.bool c)
/-- a o b o' c, o(a, b) first -/
def eChain (o o' : Cmp) (a b c : XE) : XE := fun E => bnd (a E) fun x => bnd (b E) fun y => bnd (opCmp o x y) fun k => if k = true then bnd (c E) fun z => bnd (opCmp o' y z) fun k' => ret (.bool k') else ret (.bool false)
/-- a test: the truth of a value -/
def tTru (a : XE) : XT := fun E => bnd (a E) tru
def tNot (t : XT) : XT := fun E => bnd (t E) fun c => ret (!c)
def tAnd (t u : XT) : XT := fun E => bnd (t E) fun c => if c = true then u E else ret false
def tOr (t u : XT) : XT := fun E => bnd (t E) fun c => if c = true then ret true else u E
/-- .. as values -/
def eNot (a : XE) : XE := fun E => bnd (a E) fun x => bnd (tru x) fun c => ret (.bool (!c))
def eAnd (a b : XE) : XE := fun E => bnd (a E) fun x => bnd (tru x) fun c => if c = true then b E else ret x
def eOr (a b : XE) : XE := fun E => bnd (a E) fun x => bnd (tru x) fun c => if c = true then ret x else b E
def eIf (t : XT) (a b : XE) : XE := fun E => bnd (t E) fun c => if c = true then a E else b E
def eB1 (f : B1) (a : XE) : XE := fun E => bnd (a E) (bi1 f)
def eB2 (f : B2) (a b : XE) : XE := fun E => bnd (a E) fun x => bnd (b E) fun y => bi2 f x y
def eIs (t : Ty) (a : XE) : XE := fun E => bnd (a E) fun x => grd (noXn x = true) (ret (.bool (isTy t x)))
def eIdx (a b : XE) : XE := fun E => bnd (a E) fun x => bnd (b E) fun y => opIdx x y
abbrev XO := Env → W (Option Int)
def oNone : XO := fun _ => ret none
def oSome (a : XE) : XO := fun E => bnd (a E) fun x => bnd (asInt x) fun i => ret (some i)
def eCut (a : XE) (lo hi : XO) : XE := fun E => bnd (a E) fun x => bnd (lo E) fun l => bnd (hi E) fun h => opCut x l h
def aNil : XA := fun _ => ret []
def aCons (a : XE) (r : XA) : XA := fun E => bnd (a E) fun x => bnd (r E) fun xs => ret (x :: xs)
/-- *a, .. -/
def aStar (a : XE) (r : XA) : XA := fun E => bnd (a E) fun x => bnd (itemsOf x) fun ys => bnd (r E) fun xs => ret (ys ++ xs)
def eTup (a : XA) : XE := fun E => bnd (a E) fun xs => grd (small xs.length) (ret (.tuple xs))
def eLst (a : XA) : XE := fun E => bnd (a E) fun xs => grd (small xs.length) (ret (.list xs))
/-- a call of a def: what it does of its arguments -/
abbrev Fn := List D → W D
def eCall (f : Fn) (a : XA) : XE := fun E => bnd (a E) f
/-- a call whose first argument is the stream -/
def eCallS (f : Fn) (s : Nat) (a : XA) : XE := fun E => match E[s]? with | some .stm => bnd (a E) f | _ => stuck
/-- a draw -/
def draw (many : Int) : W D := fun n P _ => (0 < many ∧ many < 9223372036854775808 ∧ n.n < 2 ^ 40) ∧ ∀ r : Int, 0 ≤ r → r < many → P (.int r) n.up
def fDraw : Fn := fun ds => match ds with
  | [.int many] => draw many
  | _ => stuck
/-- what a loop walks -/
def iScr (i : Nat) : XA := fun E => match E[i]? with | some (.scr ns) => ret (ns.map PyData.int) | _ => stuck
def iSeq (a : XE) : XA := fun E => bnd (a E) itemsOf
def rng (a b : Int) : List D := (List.range (b - a).toNat).map fun (i : Nat) => PyData.int (a + (i : Int))
def rngOk (a b : Int) : Prop := -(2 ^ 60) < a ∧ a < 2 ^ 60 ∧ -(2 ^ 60) < b ∧ b < 2 ^ 60
def iRng1 (a : XE) : XA := fun E => bnd (a E) fun x => bnd (asInt x) fun n => grd (rngOk 0 n) (ret (rng 0 n))
def iRng2 (a b : XE) : XA := fun E => bnd (a E) fun x => bnd (b E) fun y => bnd (asInt x) fun n => bnd (asInt y) fun m => grd (rngOk n m) (ret (rng n m))
/-- list(range(..)), tuple(range(..)) -/
def eLstR (a : XA) : XE := fun E => bnd (a E) fun xs => grd (small xs.length) (ret (.list xs))
def eTupR (a : XA) : XE := fun E => bnd (a E) fun xs => grd (small xs.length) (ret (.tuple xs))
/-- a target: a name, names -/
inductive Tg where
  | nm (i : Nat)
  | tp (is : List Nat)
  | pr (a b : Tg)
def setAll : List Nat → List D → Env → Option Env
  | [], [], E => some E
  | i :: is, d :: ds, E => setAll is ds (E.set i (.val d))
  | _, _, _ => none
def Tg.put : Tg → D → Env → Option Env
  | .nm i, d, E => some (E.set i (.val d))
  | .tp is, .tuple ds, E => setAll is ds E
  | .tp is, .list ds, E => setAll is ds E
  | .tp _, _, _ => none
  | .pr a b, .tuple [d, e], E => match a.put d E with
    | some E1 => b.put e E1
    | none => none
  | .pr _ _, _, _ => none
/-- a list comprehension: its own names at vs; no error may leave it -/
def wipeE (E : Env) : List Nat → Env
  | [] => E
  | v :: vs => (wipeE E vs).set v .unk
def noX {α : Type} (m : W α) : W α := fun n P _ => m n P fun _ _ => False
@[simp] theorem noX_ret {α : Type} (a : α) : noX (ret a) = ret a := rfl
def compL (tg : Tg) (t : XT) (e : XE) : List D → List D → Env → W (List D)
  | [], acc, _ => ret acc
  | d :: ds, acc, E => match tg.put d E with
    | none => stuck
    | some E1 => bnd (t E1) fun c => if c = true then bnd (e E1) fun y => grd (small acc.length) (compL tg t e ds (acc ++ [y]) E) else compL tg t e ds acc E
def eComp (it : XA) (tg : Tg) (t : XT) (e : XE) (vs : List Nat) : XE := fun E => bnd (it E) fun ds => bnd (noX (compL tg t e ds [] (wipeE E vs))) fun ys => ret (.list ys)
def tYes : XT := fun _ => ret true
/-- an expression that reads the own list at i: what comes has no list within -/
def eBor (i : Nat) (e : XE) : XE := fun E => match E[i]? with
  | some (.own ds) => bnd (e (E.set i (.val (.list ds)))) fun d => grd (flat d = true) (ret d)
  | _ => e E
def tBor (i : Nat) (t : XT) : XT := fun E => match E[i]? with
  | some (.own ds) => t (E.set i (.val (.list ds)))
  | _ => t E
inductive Out where
  | nx (E : Env)
  | rt (d : D)
  | bk (E : Env)
  | ct (E : Env)
abbrev XS := Env → W Out
def sSeq (a b : XS) : XS := fun E => bnd (a E) fun o => match o with
  | .nx E' => b E'
  | o => ret o
def sSkip : XS := fun E => ret (.nx E)
def sAsg (i : Nat) (e : XE) : XS := fun E => bnd (e E) fun d => ret (.nx (E.set i (.val d)))
def sPut (tg : Tg) (e : XE) : XS := fun E => bnd (e E) fun d => match tg.put d E with
  | some E' => ret (.nx E')
  | none => stuck
/-- a, b = x, y -/
def sPar (i j : Nat) (a b : XE) : XS := fun E => bnd (a E) fun x => bnd (b E) fun y => ret (.nx ((E.set i (.val x)).set j (.val y)))
/-- name = a new list -/
def sOwn (i : Nat) (e : XE) : XS := fun E => bnd (e E) fun d => match d with
  | .list ds => ret (.nx (E.set i (.own ds)))
  | _ => stuck
/-- the own list at i is from here on a value -/
def sRel (i : Nat) (s : XS) : XS := fun E => match E[i]? with
  | some (.own ds) => s (E.set i (.val (.list ds)))
  | _ => s E
def sApp (i : Nat) (e : XE) : XS := fun E => match E[i]? with
  | some (.own ds) => bnd (e E) fun d => grd (small ds.length) (ret (.nx (E.set i (.own (ds ++ [d])))))
  | _ => stuck
/-- xs[k] = e at the own list at i -/
def sSet (i : Nat) (k e : XE) : XS := fun E => match E[i]? with
  | some (.own ds) => bnd (e E) fun d => bnd (k E) fun n => match n with
    | .int z => match L2.ixN ds.length z with
      | some j => ret (.nx (E.set i (.own (ds.set j d))))
      | none => stuck
    | _ => stuck
  | _ => stuck
def sIf (t : XT) (a b : XS) : XS := fun E => bnd (t E) fun c => if c = true then a E else b E
def forL (tg : Tg) (s : XS) : List D → XS
  | [], E => ret (.nx E)
  | d :: ds, E => match tg.put d E with
    | none => stuck
    | some E1 => bnd (s E1) fun o => match o with
      | .nx E' => forL tg s ds E'
      | .ct E' => forL tg s ds E'
      | .bk E' => ret (.nx E')
      | .rt d => ret (.rt d)
def sFor (it : XA) (tg : Tg) (s : XS) : XS := fun E => bnd (it E) fun ds => forL tg s ds E
def whileL (t : XT) (s : XS) : Nat → XS
  | 0, _ => stuck
  | n + 1, E => bnd (t E) fun c => if c = true then bnd (s E) fun o => match o with
      | .nx E' => whileL t s n E'
      | .ct E' => whileL t s n E'
      | .bk E' => ret (.nx E')
      | .rt d => ret (.rt d)
    else ret (.nx E)
def sWhile (t : XT) (s : XS) : XS := fun E c P X => ∃ n, whileL t s n E c P X
def sRet (e : XE) : XS := fun E => bnd (e E) fun d => ret (.rt d)
def sRetN : XS := fun _ => ret (.rt .none)
def sExpr (e : XE) : XS := fun E => bnd (e E) fun _ => ret (.nx E)
def sBreak : XS := fun E => ret (.bk E)
def sCont : XS := fun E => ret (.ct E)
/-- raise C(f = e) -/
def sRaise (cls : Str) (fs : List Str) (a : XA) : XS := fun E => bnd (a E) fun xs => thr ⟨cls, fs.zip xs⟩
/-- a def: so many parameters, so many slots, its body -/
def endOf : Out → W D
  | .rt d => ret d
  | .nx _ => ret .none
  | _ => stuck
def start (n : Nat) (E : Env) : Env := E ++ List.replicate (n - E.length) .unk
def fn (k n : Nat) (s : XS) : Fn := fun ds => grd (ds.length = k) (bnd (s (start n (ds.map .val))) endOf)
/-- .. whose first parameter is the stream -/
def fnS (k n : Nat) (s : XS) : Fn := fun ds => grd (ds.length + 1 = k) (bnd (s (start n (.stm :: ds.map .val))) endOf)
end DL
end
section
namespace DL
open PySem PySem.Spec PyProof.Rows L2
/-- the fields' names -/
inductive Fl where
  | limit | place | value | error | index
def Fl.s : Fl → Str
  | .limit => "limit"
  | .place => "place"
  | .value => "value"
  | .error => "error"
  | .index => "index"
def Fl.all : List Fl := [.limit, .place, .value, .error, .index]
theorem Fl.mem : ∀ f : Fl, f ∈ Fl.all := fun f => by cases f <;> simp [Fl.all]
def wrapN : List Str := ["NoStretch", "NoRows", "TooMany", "TooNarrow", "NoBreaking", "NoCount", "Contradictory", "BadLength", "LastWord", "BadRow", "BadTimes", "TooLong", "TooManyEdits", "NothingToUndo", "BadEdits", "BadEdit", "Rejected", "Busy", "BadText"]
def lookN : List Str := ["NoPlace", "NoLine", "NoWidth", "NoVersion"]
def isBlt (m : Str) : Bool := m == "ValueError" || m == "LookupError"
/-- is an error of the class n one of the class m -/
def subC (n m : Str) : Bool := n == m || ((m == "WrapError" || m == "ValueError") && wrapN.contains n) || (m == "LookupError" && lookN.contains n)
def allN : List Str := "WrapError" :: "ValueError" :: "LookupError" :: (wrapN ++ lookN)
/-- a class's name as a value -/
def clsV (K : PySem.W.Frag) (m : Str) : Value := if m == "ValueError" then .type "ValueError" else if m == "LookupError" then .type "LookupError" else .ref (He.ga K m)
/-- the module has it -/
def here (K : PySem.W.Frag) (m : Str) : Bool := isBlt m || (He.Fa.glo m).ok K
def knB (K : PySem.W.Frag) (n m : Str) : Bool := !here K m || (decide (PySem.W.exmOne K (.ref (He.ga K n)) (clsV K m) = some (subC n m)) && decide (PySem.W.kitOne K (.ref (He.ga K n)) (clsV K m) = some (subC n m)))
/-- what the written part says of a class of errors -/
structure ErrC (K : PySem.W.Frag) (n : Str) : Prop where
  cl : (PySem.W.clsIn K (He.ga K n)).isSome = true
  ga : PySem.W.findIn K (.ref (He.ga K n)) "__getattribute__" = some (some (.builtin "BaseException.__getattribute__"))
  gg : PySem.W.findIn K (.ref (He.ga K n)) "__getattr__" = some none
  kC : PySem.W.keepIn K (.ref (He.ga K n)) = true
  exC : PySem.W.subIn K (.ref (He.ga K n)) (.type "BaseException") = some true
  tyC : PySem.W.typeIn K (.ref (He.ga K n)) = some (.type "type")
  hdC : PySem.W.hasDictIn K (He.ga K n) = true
  ha : PySem.W.findIn K (.ref (He.ga K n)) "__class__" = some (some (.builtin "object.__class__"))
  hn : PySem.W.specialIn K (.builtin "object.__class__") "__get__" = some (some (.builtin "getset_descriptor.__get__"))
  ht : PySem.W.takesIn K (.builtin "object.__class__") = some true
  hm : PySem.W.mroIn K (He.ga K n) (.type "object") = some true
  nof : ∀ f : Fl, PySem.W.findIn K (.ref (He.ga K n)) f.s = some none
  kn : ∀ m ∈ allN, here K m = true → PySem.W.exmOne K (.ref (He.ga K n)) (clsV K m) = some (subC n m) ∧ PySem.W.kitOne K (.ref (He.ga K n)) (clsV K m) = some (subC n m)
def errB (K : PySem.W.Frag) (n : Str) : Bool :=
  (PySem.W.clsIn K (He.ga K n)).isSome && (decide (PySem.W.findIn K (.ref (He.ga K n)) "__getattribute__" = some (some (.builtin "BaseException.__getattribute__"))) && (decide (PySem.W.findIn K (.ref (He.ga K n)) "__getattr__" = some none) &&
    (PySem.W.keepIn K (.ref (He.ga K n)) && (decide (PySem.W.subIn K (.ref (He.ga K n)) (.type "BaseException") = some true) && (decide (PySem.W.typeIn K (.ref (He.ga K n)) = some (.type "type")) && (PySem.W.hasDictIn K (He.ga K n) &&
    (decide (PySem.W.findIn K (.ref (He.ga K n)) "__class__" = some (some (.builtin "object.__class__"))) && (decide (PySem.W.specialIn K (.builtin "object.__class__") "__get__" = some (some (.builtin "getset_descriptor.__get__"))) &&
    (decide (PySem.W.takesIn K (.builtin "object.__class__") = some true) && (decide (PySem.W.mroIn K (He.ga K n) (.type "object") = some true) && ((Fl.all.all fun f => decide (PySem.W.findIn K (.ref (He.ga K n)) f.s = some none)) && allN.all fun m => knB K n m)))))))))))
theorem errB_ok {K : PySem.W.Frag} {n : Str} (h : errB K n = true) : ErrC K n := by
  unfold errB at h
  simp only [Bool.and_eq_true, decide_eq_true_eq, List.all_eq_true] at h
  obtain ⟨h1, h2, h3, h4, h5, h6, h7, h8, h9, h10, h11, h12, h13⟩ := h
  refine ⟨h1, h2, h3, h4, h5, h6, h7, h8, h9, h10, h11, fun f => h12 f (Fl.mem f), fun m hm hh => ?_⟩
  have := h13 m hm
  unfold knB at this
  rw [hh] at this
  simpa using this
/-- the built-in class below -/
inductive Bs where
  | ve | le
def Bs.nm : Bs → String
  | .ve => "ValueError"
  | .le => "LookupError"
def Bs.tl : Bs → List Value
  | .ve => [.type "ValueError", .type "Exception", .type "BaseException", .type "object"]
  | .le => [.type "LookupError", .type "Exception", .type "BaseException", .type "object"]
def Bs.new : Bs → String
  | .ve => "ValueError.__new__"
  | .le => "LookupError.__new__"
def Bs.ini : Bs → String
  | .ve => "ValueError.__init__"
  | .le => "LookupError.__init__"
theorem Bs.fb : ∀ b : Bs, ExcBaseFacts b.nm b.new b.ini b.tl
  | .ve => PySem.F.excBase_ValueError
  | .le => PySem.F.excBase_LookupError
theorem Bs.sf : ∀ b : Bs, StoreFacts b.nm b.tl "object.__setattr__" "object"
  | .ve => PySem.F.store_ValueError
  | .le => PySem.F.store_LookupError
/-- the text of __init__ -/
def iniA (f : Str) (p1 p2 : Pos) : Arguments := { posonlyargs := [], args := [{ arg := "self", annotation := none, pos := p1 }, { arg := f, annotation := none, pos := p2 }], vararg := none, kwonlyargs := [], kw_defaults := [], kwarg := none, defaults := [] }
def iniB (f : Str) (q1 q2 q3 q4 : Pos) : List Stmt := [.Assign [.Attribute (.Name "self" q1) f q2] (.Name f q3) q4]
def iniS (f : Str) : Scope := { kind := .function, names := [("self", .local), (f, .local)], isGenerator := false, isCoroutine := false, more := [] }
/-- of a class with one field -/
structure ErrT (K : PySem.W.Frag) (n : Str) (f : Fl) (b : Bs) : Prop where
  c : ErrC K n
  ini : PySem.W.excInitIn K (He.ga K n) b.tl b.new = true
  ov : PySem.W.excOver K (He.ga K n) b.tl = true
  sa : PySem.W.findIn K (.ref (He.ga K n)) "__setattr__" = some (some (.builtin "object.__setattr__"))
  iC : PySem.W.findIn K (.ref (He.ga K n)) "__init__" = some (some (.ref (He.ma K (He.ga K n) "__init__")))
  tC : PySem.W.typeIn K (.ref (He.ma K (He.ga K n) "__init__")) = some (.type "function")
  fn : ∃ (q : Str) (p1 p2 q1 q2 q3 q4 : Pos) (fd : FuncData), FunD K "__init__" q (iniA f.s p1 p2) (iniB f.s q1 q2 q3 q4) (iniS f.s) [] [] (He.ma K (He.ga K n) "__init__") fd
def errTB (K : PySem.W.Frag) (n : Str) (b : Bs) : Bool := errB K n && (PySem.W.excInitIn K (He.ga K n) b.tl b.new && (PySem.W.excOver K (He.ga K n) b.tl && (decide (PySem.W.findIn K (.ref (He.ga K n)) "__setattr__" = some (some (.builtin "object.__setattr__"))) &&
  (decide (PySem.W.findIn K (.ref (He.ga K n)) "__init__" = some (some (.ref (He.ma K (He.ga K n) "__init__")))) && decide (PySem.W.typeIn K (.ref (He.ma K (He.ga K n) "__init__")) = some (.type "function"))))))
theorem errT_ok {K : PySem.W.Frag} {n : Str} {f : Fl} {b : Bs} (h : errTB K n b = true) (fn : ∃ (q : Str) (p1 p2 q1 q2 q3 q4 : Pos) (fd : FuncData), FunD K "__init__" q (iniA f.s p1 p2) (iniB f.s q1 q2 q3 q4) (iniS f.s) [] [] (He.ma K (He.ga K n) "__init__") fd) : ErrT K n f b := by
  unfold errTB at h
  simp only [Bool.and_eq_true, decide_eq_true_eq] at h
  obtain ⟨h1, h2, h3, h4, h5, h6⟩ := h
  exact ⟨errB_ok h1, h2, h3, h4, h5, h6, fn⟩
end DL
end
section
namespace DL
open PySem PySem.Spec PyProof.Rows L2
/-- the class whose exceptions may have a context -/
def RJ (K : PySem.W.Frag) (c : Value) : Prop := here K "Rejected" = true ∧ PySem.W.exmOne K c (.ref (He.ga K "Rejected")) = some true
/-- what is kept of its object -/
def Zq (K : PySem.W.Frag) (cls : Value) (d : Option Addr) : Obj → Prop := fun o => o.cls = cls ∧ o.dict = d ∧ (¬ RJ K cls → PXN.CtxN o)
theorem Zq.ofN {K : PySem.W.Frag} {cls : Value} {d : Option Addr} {o : Obj} (h : L2N.Zn cls d o) : Zq K cls d o := ⟨h.1, h.2.1, fun _ => h.2.2⟩
/-- an exception whose context is y -/
def CtxR (y : Addr) (o : Obj) : Prop := ∀ vs : Array Value, o.data = .fields vs → vs[2]? = some (.ref y)
theorem steady_ctxR {y : Addr} : PXN.Steady1 (CtxR y) := fun o v h => by
  obtain ⟨c, d, dt, sl⟩ := o
  cases dt with
  | fields vs0 =>
    intro vs e
    have e2 : vs0.setIfInBounds 1 v = vs := Data.fields.inj e
    have e3 : (vs0.setIfInBounds 1 v)[2]? = vs0[2]? := by
      first
      | exact Array.getElem?_setIfInBounds_ne (by decide)
      | simp [Array.getElem?_setIfInBounds]
    rw [← e2, e3]
    exact h vs0 rfl
  | _ =>
    intro vs e
    first
    | exact Data.noConfusion e
    | cases e
/-- what an exception in the air keeps: its context is None, or (Rejected) what stands at y -/
def Zy (K : PySem.W.Frag) (yo : Option Addr) (cls : Value) (d : Option Addr) : Obj → Prop := fun o => o.cls = cls ∧ o.dict = d ∧ match yo with
  | none => PXN.CtxN o
  | some y => RJ K cls ∧ CtxR y o
theorem Zy.steady {K : PySem.W.Frag} {yo : Option Addr} {cls : Value} {d : Option Addr} : PXN.Steady1 (Zy K yo cls d) := fun o v h => ⟨PXN.steady_cls o v h.1, PXN.steady_dict o v h.2.1, by
  cases yo with
  | none => exact PXN.steady_ctx o v h.2.2
  | some y => exact ⟨h.2.2.1, steady_ctxR o v h.2.2.2⟩⟩
theorem Zy.q {K : PySem.W.Frag} {yo : Option Addr} {cls : Value} {d : Option Addr} {o : Obj} (h : Zy K yo cls d o) : Zq K cls d o := ⟨h.1, h.2.1, fun n => by
  cases yo with
  | none => exact h.2.2
  | some y => exact absurd h.2.2.1 n⟩
theorem Zy.ofN {K : PySem.W.Frag} {cls : Value} {d : Option Addr} {o : Obj} (h : L2N.Zn cls d o) : Zy K none cls d o := ⟨h.1, h.2.1, h.2.2⟩
/-- a record whose own context is None -/
def EndC (oy : Obj) : Prop := ∃ vs : Array Value, oy.data = .fields vs ∧ vs[2]? = some .none
/-- where the context stands -/
def Gd (yo : Option Addr) (h : Heap) (H : Hp) : Prop := ∀ y, yo = some y → ∃ oy, h.get? y = some oy ∧ EndC oy ∧ H y = none
theorem Gd.none {h : Heap} {H : Hp} : Gd none h H := fun _ e => nomatch e
theorem heldZ_imp {B h : Heap} {l : List PySem.Env} {a L : Addr} {Z Z' : Obj → Prop} (z : ∀ o, Z o → Z' o) (x : PySem.HandSPX.HeldZ B l a Z L h) : PySem.HandSPX.HeldZ B l a Z' L h := ⟨x.1, x.2.1, x.2.2.1, L2H.tracedZ_imp z x.2.2.2⟩
theorem sky_imp {B h : Heap} {l : List PySem.Env} {a L : Addr} {Z Z' : Obj → Prop} (z : ∀ o, Z o → Z' o) (x : Sky B l a Z L h) : Sky B l a Z' L h := by
  rcases x with ⟨h1, h2, h3, oe, vs, h4, h5, h6⟩ | x | x
  · exact .inl ⟨h1, h2, h3, oe, vs, h4, z _ h5, h6⟩
  · exact .inr (.inl (L2H.flyingZ_imp z x))
  · exact .inr (.inr (heldZ_imp z x))
/-- behind a call that let an exception out -/
def CXd (K : PySem.W.Frag) (P : Program) (w : World) : CXT := fun outer H s E u s' =>
  ∃ (a : Addr) (B : Heap) (H' : Hp) (cls : Value) (d : Option Addr) (yo : Option Addr), u = .ref a ∧ PySem.HandSPX.FlyingZ B outer a (Zy K yo cls d) s'.heap ∧ HOk P w H' B ∧ UB (frs outer) H H' s.heap B s'.heap ∧ H' a = none ∧ s'.os = s.os ∧ AllBare s'.gens ∧ Gd yo B H' ∧ E cls d H'
/-- an exception with its object's facts, in the air of X -/
def XEq (X : Cx) (W : WX) (u : Value) (s' : Shared) : Prop :=
  ∃ (a : Addr) (B : Heap) (sI : Shared) (pins : List (Addr × Obj)) (σ : L2.St) (H : Hp) (cls : Value) (d : Option Addr) (yo : Option Addr),
    u = .ref a ∧ Inv X pins σ H sI ∧ (∀ b o, sI.heap.get? b = some o → b ∉ frs X.stack → B.get? b = some o) ∧ sI.heap.UpToSlots s'.heap ∧ Sky B X.stack a (Zy X.K yo cls d) X.env.locals s'.heap ∧ H a = none ∧ s'.os = sI.os ∧ AllBare s'.gens ∧ Gd yo B H ∧ W cls d σ H
/-- it is taken -/
structure TakesD (X : Cx) (W : WX) : Prop where
  go_ : ∀ u s', XEq X W u s' → X.xe u s'
theorem TakesD.go {X : Cx} {W : WX} (t : TakesD X W) {u : Value} {s' : Shared} (x : XEq X W u s') : X.xe u s' := t.go_ u s' x
theorem TakesD.of {X : Cx} {W : WX} (h : ∀ u s', XEq X W u s' → X.xe u s') : TakesD X W := ⟨h⟩
theorem XEq.ofN {X : Cx} {W : WX} {u : Value} {s' : Shared} (x : L2N.XE X W u s') : XEq X W u s' := by
  obtain ⟨a, B, sI, pins, σ, H, cls, d, e, I, nb, up, sky, na, os, ag, w⟩ := x
  exact ⟨a, B, sI, pins, σ, H, cls, d, none, e, I, nb, up, sky_imp (fun _ => Zy.ofN) sky, na, os, ag, .none, w⟩
theorem TakesD.n {X : Cx} {W : WX} (t : TakesD X W) : L2N.Takes X W := fun u s' x => t.go (.ofN x)
theorem XEq.imp {X : Cx} {W W' : WX} {u : Value} {s' : Shared} (h : ∀ c d σ H, W' c d σ H → W c d σ H) (x : XEq X W' u s') : XEq X W u s' := by
  obtain ⟨a, B, sI, pins, σ, H, cls, d, yo, e, I, nb, up, sky, na, os, ag, g, w⟩ := x
  exact ⟨a, B, sI, pins, σ, H, cls, d, yo, e, I, nb, up, sky, na, os, ag, g, h _ _ _ _ w⟩
theorem TakesD.imp {X : Cx} {W W' : WX} (t : TakesD X W) (h : ∀ c d σ H, W' c d σ H → W c d σ H) : TakesD X W' := .of fun _ _ x => t.go (x.imp h)
theorem takes0D {X : Cx} : TakesD X (fun _ _ _ _ => False) := .of fun _ _ ⟨_, _, _, _, _, _, _, _, _, _, _, _, _, _, _, _, _, _, z⟩ => z.elim
section
variable {X : Cx} {pins : List (Addr × Obj)} {σ : L2.St} {H : Hp} {sI s s' : Shared} {W : WX} {E : XK}
/-- a call's exception is in our air -/
theorem XEq.of_call (I : Inv X pins σ H s) (hW : ∀ cls d H', E cls d H' → W cls d σ H') {u : Value} (x : CXd X.K X.prog X.w X.stack H s E u s') : XEq X W u s' := by
  obtain ⟨a, B, H', cls, d, yo, eu, fl, hok, ub, na, os, ag, gd, hE⟩ := x
  obtain ⟨G, yes, no⟩ := restrict s'.heap fun b => (B.get? b).isSome || decide (b ∈ frs X.stack)
  have inG : ∀ b o, B.get? b = some o → G.get? b = some o := fun b o e => by
    rw [yes b (by simp [e])]
    exact fl.1 b o e
  have frG : ∀ b, b ∈ frs X.stack → G.get? b = s'.heap.get? b := fun b m => yes b (by simp [m])
  have outG : ∀ b o, G.get? b = some o → s'.heap.get? b = some o ∧ ((B.get? b).isSome = true ∨ b ∈ frs X.stack) := fun b o e => by
    cases q : ((B.get? b).isSome || decide (b ∈ frs X.stack)) with
    | false =>
      rw [no b q] at e
      exact (nomatch e)
    | true =>
      rw [yes b q] at e
      exact ⟨e, by simpa [Bool.or_eq_true] using q⟩
  have J : Inv X pins σ H' { s with heap := G, gens := s'.gens, drawn := s'.drawn, toks := s'.toks } := by
    refine I.call (ch := []) ⟨fun b o e n m _ => inG b o (ub.keep b o e n m), fun b o e n m _ => ?_, fun b o e n _ => ub.free b o e n, fun b o e _ => ?_, ub.tups, ub.frzs, ub.tbls⟩ (hok.kept inG) ag (fun _ z => nomatch z)
    · obtain ⟨sl, q⟩ := ub.slot b o e m
      exact ⟨sl, by rw [frG b m]; exact q⟩
    · by_cases m : b ∈ frs X.stack
      · obtain ⟨sl, q⟩ := ub.slot b o e m
        exact ⟨_, by rw [frG b m]; exact q⟩
      · obtain ⟨o', q⟩ := ub.there b o e m
        exact ⟨o', inG b o' q⟩
  refine ⟨a, B, _, pins, σ, H', cls, d, yo, eu, J, fun b o e m => ?_, Heap.UpToSlots.of_keeps fun b o e => (outG b o e).1, .inr (.inl fl), na, os, ag, gd, hW _ _ _ hE⟩
  obtain ⟨e1, z | z⟩ := outG b o e
  · obtain ⟨o', q⟩ := Option.isSome_iff_exists.mp z
    have e2 := fl.1 b o' q
    rw [e1] at e2
    rw [q, ← e2]
  · exact absurd z m
/-- a new exception is in our air -/
theorem XEq.new {a : Addr} {oe : Obj} {vs : Array Value} {cls : Value} {d yo : Option Addr} (I : Inv X pins σ H sI) (k : ∀ b o, sI.heap.get? b = some o → s'.heap.get? b = some o) (hne : sI.heap.get? a = none) (he : s'.heap.get? a = some oe)
    (hz : Zy X.K yo cls d oe) (hd : oe.data = .fields vs) (h1 : vs[1]? = some .none) (na : H a = none) (os : s'.os = sI.os) (ag : AllBare s'.gens) (gd : Gd yo sI.heap H) (w : W cls d σ H) : XEq X W (.ref a) s' := by
  have nB : (PySem.W.hideAll sI.heap (frs X.stack)).get? a = none := by
    cases q : (PySem.W.hideAll sI.heap (frs X.stack)).get? a with
    | none => rfl
    | some o =>
      have z := PySem.W.of_hideAll _ q
      rw [hne] at z
      exact (nomatch z)
  refine ⟨a, PySem.W.hideAll sI.heap (frs X.stack), sI, pins, σ, H, cls, d, yo, rfl, I, fun b o e m => PySem.W.hideAll_get _ e m, Heap.UpToSlots.of_keeps k,
    .inl ⟨fun b o e => k b o (PySem.W.of_hideAll _ e), nB, Heap.FunFrames.of_keeps (fun b o e _ => ⟨o, k b o e, rfl⟩) (funFrames_none I.stack fun b m => PySem.W.hideAll_none _ m), oe, vs, he, hz, hd, h1⟩, na, os, ag, fun y ey => ?_, w⟩
  obtain ⟨oy, g1, ⟨vy, g2, g3⟩, g4⟩ := gd y ey
  refine ⟨oy, PySem.W.hideAll_get _ g1 fun m => ?_, ⟨vy, g2, g3⟩, g4⟩
  obtain ⟨_, o', e', hnf⟩ := I.stack.mem m
  have eo : oy = o' := Option.some.inj (g1.symm.trans e')
  exact hnf vy (eo ▸ g2)
/-- it leaves the def -/
theorem XEq.leave (hs : X.stack = X.env :: X.outer) (hf : X.env.frame = some X.env.locals) (hex : X.ex = []) {E₁ : Value → Shared → Prop} (hW : ∀ cls d σ H, W cls d σ H → E cls d H) {u : Value} (x : XEq X W u s') :
    wpAny (model X.prog X.w) X.A (leaving X.env u) (fun _ s'' => CXd X.K X.prog X.w X.outer X.H_0 X.s_0 E u s'') E₁ s' := by
  obtain ⟨a, B, sI, pins, σ, H, cls, d, yo, rfl, I, nb, up, sky, na, os, ag, gd, w⟩ := x
  have fr : X.A.frames = some (X.env :: X.outer) := I.ok.frames.trans (by rw [hs])
  have old : ∀ b o, X.s_0.heap.get? b = some o → b ∉ X.fs → b ∉ frs X.stack := fun b o e n m => by
    rcases List.mem_cons.mp (I.stkSub b m) with z | z
    · have l1 := Heap.lt_size e
      have l2 := I.ok.above
      rw [z] at l1
      exact absurd (Nat.lt_of_lt_of_le l1 l2) (Nat.lt_irrefl _)
    · exact n z
  have nex : ∀ b, b ∉ X.ex := fun b m => by
    rw [hex] at m
    exact (nomatch m)
  have done : ∀ h', PySem.HandSPX.FlyingZ B X.outer a (Zy X.K yo cls d) h' → s'.heap.UpToSlots h' → CXd X.K X.prog X.w X.outer X.H_0 X.s_0 E (.ref a) { s' with heap := h' } := fun h' fl up' => by
    refine ⟨a, B, H, cls, d, yo, rfl, fl, I.inGround nb, ⟨fun b o e n m => nb b o (I.base.keep b o e n m (nex b)) (old b o e m), fun b o e m => ?_, fun b o e n => I.base.free b o e n (nex b), fun b o e m => ?_, I.base.tups, I.base.frzs, I.base.tbls⟩,
      na, os.trans I.os, ag, gd, hW _ _ _ _ w⟩
    · obtain ⟨_, o0, e0, nf⟩ := I.ok.funs.mem m
      have eo : o = o0 := Option.some.inj (e.symm.trans e0)
      subst eo
      obtain ⟨s1, e1⟩ := I.base.slot b o e (I.ok.frf b m) m (nex b)
      obtain ⟨s2, e2⟩ := up b _ e1 nf
      obtain ⟨s3, e3⟩ := up' b _ e2 nf
      exact ⟨s3, e3⟩
    · obtain ⟨o', e1⟩ := I.base.there b o e (nex b)
      exact ⟨o', nb b o' e1 (old b o e m)⟩
  rw [hs] at sky
  rcases sky with ⟨k1, k2, k3, oe, vs, k4, k5, k6, k7⟩ | fl | hd
  · exact PXN.leaving_firstZ Zy.steady fr k3 hf k4 k1 k2 k6 k7 k5 done
  · exact PXN.leaves_onZ Zy.steady fr hf fl done
  · exact PySem.HandSPX.leaves_heldZ hf hd done
end
theorem passAtD {X : Cx} {W : WX} (t : TakesD X W) (σ : L2.St) : PassesAt (CXd X.K X.prog X.w) X σ (WE W σ) := fun pins H s e s' I c => t.go (XEq.of_call I (fun _ _ _ h => h) c)
theorem passes_callD {X : Cx} {W : WX} {E : XK} (t : TakesD X W) (hW : ∀ cls d σ H, E cls d H → W cls d σ H) (σ : L2.St) : PassesAt (CXd X.K X.prog X.w) X σ E := fun pins H s e s' I c => t.go (XEq.of_call I (fun cls d H' h => hW cls d σ H' h) c)
/-- a def's wish about exceptions -/
theorem takes_ofD {X : Cx} {E : XK} (hs : X.stack = X.env :: X.outer) (hf : X.env.frame = some X.env.locals) (hex : X.ex = []) {E₁ : Value → Shared → Prop}
    (hx : X.xe = fun e s' => wpAny (model X.prog X.w) X.A (leaving X.env e) (fun _ s'' => CXd X.K X.prog X.w X.outer X.H_0 X.s_0 E e s'') E₁ s') : TakesD X (fun cls d _ H => E cls d H) := .of fun u s' x => by
  rw [hx]
  exact XEq.leave (W := fun cls d _ H => E cls d H) (E := E) hs hf hex (fun _ _ _ _ h => h) x
/-- other heaps, other wishes -/
theorem CXd.imp {K : PySem.W.Frag} {P : Program} {w : World} {o : List PySem.Env} {H : Hp} {s s' : Shared} {E E' : XK} {u : Value} (h : ∀ c d H, E c d H → E' c d H) (x : CXd K P w o H s E u s') : CXd K P w o H s E' u s' := by
  obtain ⟨a, B, H', cls, d, yo, h1, h2, h3, h4, h5, h6, h7, h8, h9⟩ := x
  exact ⟨a, B, H', cls, d, yo, h1, h2, h3, h4, h5, h6, h7, h8, h _ _ _ h9⟩
theorem ub_up {fs : List Addr} {H H2 H' : Hp} {h h2 B h' : Heap} (a : Un fs [] H H2 h h2) (k : ∀ b o, h.get? b = some o → h2.get? b = some o) (z : UB fs H2 H' h2 B h') : UB fs H H' h B h' where
  keep b o e n m := z.keep b o (k b o e) (a.free b o e n List.not_mem_nil) m
  slot b o e m := z.slot b o (k b o e) m
  free b o e n := z.free b o (k b o e) (a.free b o e n List.not_mem_nil)
  there b o e m := z.there b o (k b o e) m
  tups b xs e := z.tups b xs (a.tups b xs e)
  frzs b o xs e := z.frzs b o xs (a.frzs b o xs e)
  tbls b ps e := by
    obtain ⟨m1, e1⟩ := a.tbls b ps e
    obtain ⟨m2, e2⟩ := z.tbls b _ e1
    exact ⟨m1 ++ m2, by rw [← Array.append_assoc]; exact e2⟩
theorem CXd.up {K : PySem.W.Frag} {P : Program} {w : World} {o : List PySem.Env} {H H2 : Hp} {s s2 s' : Shared} {E : XK} {u : Value} (a : Un (frs o) [] H H2 s.heap s2.heap) (k : ∀ b o, s.heap.get? b = some o → s2.heap.get? b = some o) (q : s2.os = s.os) (x : CXd K P w o H2 s2 E u s') : CXd K P w o H s E u s' := by
  obtain ⟨b, B, H', cls, d, yo, h1, h2, h3, h4, h5, h6, h7⟩ := x
  exact ⟨b, B, H', cls, d, yo, h1, h2, h3, ub_up a k h4, h5, h6.trans q, h7⟩
theorem no_cxD {K : PySem.W.Frag} {P : Program} {w : World} {o : List PySem.Env} {H : Hp} {s s' : Shared} {u : Value} {E : XK} (hE : ∀ c d H, ¬ E c d H) (h : CXd K P w o H s E u s') : False := by
  obtain ⟨_, _, _, _, _, _, _, _, _, _, _, _, _, _, z⟩ := h
  exact hE _ _ _ z
end DL
end
section
namespace DL
open PySem PySem.Spec PyProof.Rows L2
/-- the exception's object at a -/
def xob (a : Addr) (o : Obj) : HO := .ext fun h => h.get? a = some o
/-- what is known of it -/
structure XOb (K : PySem.W.Frag) (o : Obj) (n : Str) (d : Option Addr) : Prop where
  cls : o.cls = .ref (He.ga K n)
  dict : o.dict = d
  data : ∃ vs, o.data = .fields vs
  er : ErrC K n
  ctx : n ≠ "Rejected" → PXN.CtxN o
mutual
/-- the value is that data; B: places that may change, no list of the data stands there -/
inductive Rep (K : PySem.W.Frag) (B : Addr → Prop) (H : Hp) : V → PyData → Prop
  | non : Rep K B H .non .none
  | bl (b : Bool) : Rep K B H (.bl b) (.bool b)
  | int (i : Int) : Rep K B H (.int i) (.int i)
  | str (x : Str) : Rep K B H (.str x) (.str x)
  | lst {a : Addr} {xs : List V} {ds : List PyData} : H a = some (.lst xs) → ¬ B a → Reps K B H xs ds → Rep K B H (.ref a) (.list ds)
  | tup {a : Addr} {xs : List V} {ds : List PyData} : SqT K H a xs → Reps K B H xs ds → Rep K B H (.ref a) (.tuple ds)
  | dct0 {a : Addr} : H a = some (.dK []) → ¬ B a → Rep K B H (.ref a) (.dict [])
  | dct1 {a : Addr} {x : Str} {v : V} {d : PyData} : H a = some (.dK [(.inr x, v)]) → ¬ B a → Rep K B H v d → Rep K B H (.ref a) (.dict [(.str x, d)])
  | exn0 {a : Addr} {o : Obj} {n : Str} : H a = some (xob a o) → ¬ B a → XOb K o n none → Rep K B H (.ref a) (xD n [])
  | exn1 {a dd : Addr} {o : Obj} {n f : Str} {v : V} {d : PyData} : H a = some (xob a o) → ¬ B a → XOb K o n (some dd) → H dd = some (.xd [(f, v)]) → ¬ B dd → Rep K B H v d → Rep K B H (.ref a) (xD n [(f, d)])
  | rf (a : Addr) : Rep K B H (.ref a) (rD a)
  | wr {a dx : Addr} {v : V} {d : PyData} : H a = some (.ins (He.ga K "WordRow") dx [("held", v)]) → ¬ B a → Rep K B H v d → Rep K B H (.ref a) (wD d)
  | tn {a : Addr} {o : Obj} {xs : List V} {ds : List PyData} : H a = some (.frz o (.tup xs)) → o.cls = .type "tuple" → o.dict = none → Reps K B H xs ds → Rep K B H (.ref a) (tD ds)
inductive Reps (K : PySem.W.Frag) (B : Addr → Prop) (H : Hp) : List V → List PyData → Prop
  | nil : Reps K B H [] []
  | cons {v : V} {vs : List V} {d : PyData} {ds : List PyData} : Rep K B H v d → Reps K B H vs ds → Reps K B H (v :: vs) (d :: ds)
end
/-- what is kept for good: tuples, locked things -/
def Imm : HO → Prop
  | .tup _ => True
  | .frz _ _ => True
  | .ext _ => True
  | _ => False
/-- all is kept but what stands at places of B -/
structure Ext (B : Addr → Prop) (H H' : Hp) : Prop where
  keep : ∀ a o, H a = some o → ¬ B a → H' a = some o
  imm : ∀ a o, H a = some o → Imm o → H' a = some o
  dom : ∀ a, H a ≠ none → H' a ≠ none
abbrev All (H H' : Hp) : Prop := ∀ a o, H a = some o → H' a = some o
section
variable {K : PySem.W.Frag} {B B' B'' : Addr → Prop} {H H' H'' : Hp}
theorem All.ext (h : All H H') : Ext B H H' := ⟨fun a o e _ => h a o e, fun a o e _ => h a o e, fun a n => by
  cases e : H a with
  | none => exact absurd e n
  | some o => rw [h a o e]; exact fun z => nomatch z⟩
theorem All.refl : All H H := fun _ _ e => e
theorem All.trans (h : All H H') (h' : All H' H'') : All H H'' := fun a o e => h' a o (h a o e)
theorem All.new {p : Addr} {o : HO} (h : H p = none) : All H (upd H p o) := fun a u e => by
  rw [upd_ne (ne_of_none e h)]; exact e
theorem Ext.refl : Ext B H H := All.refl.ext
theorem Ext.trans (h : Ext B H H') (h' : Ext B H' H'') : Ext B H H'' :=
  ⟨fun a o e n => h'.keep a o (h.keep a o e n) n, fun a o e i => h'.imm a o (h.imm a o e i) i, fun a n => h'.dom a (h.dom a n)⟩
theorem Ext.more (h : Ext B H H') (s : ∀ a, B a → B' a) : Ext B' H H' :=
  ⟨fun a o e n => h.keep a o e fun z => n (s a z), h.imm, h.dom⟩
theorem some_ne {a : Addr} {o : HO} (e : H a = some o) : H a ≠ none := by rw [e]; exact fun z => nomatch z
theorem Ext.sqT (h : Ext B H H') {a : Addr} {xs : List V} (q : SqT K H a xs) : SqT K H' a xs := by
  rcases q with (q | ⟨o, q⟩) | q
  · exact .inl (.inl (h.imm a _ q True.intro))
  · exact .inl (.inr ⟨o, h.imm a _ q True.intro⟩)
  · exact .inr q
mutual
theorem Rep.mono (h : Ext B H H') : ∀ {v : V} {d : PyData}, Rep K B H v d → Rep K B H' v d
  | _, _, .non => .non
  | _, _, .bl b => .bl b
  | _, _, .int i => .int i
  | _, _, .str x => .str x
  | _, _, .lst e n r => .lst (h.keep _ _ e n) n (Reps.mono h r)
  | _, _, .tup e r => .tup (h.sqT e) (Reps.mono h r)
  | _, _, .dct0 e n => .dct0 (h.keep _ _ e n) n
  | _, _, .dct1 e n r => .dct1 (h.keep _ _ e n) n (Rep.mono h r)
  | _, _, .exn0 e n x => .exn0 (h.keep _ _ e n) n x
  | _, _, .exn1 e n x e2 n2 r => .exn1 (h.keep _ _ e n) n x (h.keep _ _ e2 n2) n2 (Rep.mono h r)
  | _, _, .rf a => .rf a
  | _, _, .wr e n r => .wr (h.keep _ _ e n) n (Rep.mono h r)
  | _, _, .tn e c d r => .tn (h.imm _ _ e True.intro) c d (Reps.mono h r)
theorem Reps.mono (h : Ext B H H') : ∀ {vs : List V} {ds : List PyData}, Reps K B H vs ds → Reps K B H' vs ds
  | _, _, .nil => .nil
  | _, _, .cons r t => .cons (Rep.mono h r) (Reps.mono h t)
end
mutual
/-- other places: none of the data's lists stands at one -/
theorem Rep.grow (h : ∀ a, B' a → H a ≠ none → B a) : ∀ {v : V} {d : PyData}, Rep K B H v d → Rep K B' H v d
  | _, _, .non => .non
  | _, _, .bl b => .bl b
  | _, _, .int i => .int i
  | _, _, .str x => .str x
  | _, _, .lst e n r => .lst e (fun z => n (h _ z (some_ne e))) (Reps.grow h r)
  | _, _, .tup e r => .tup e (Reps.grow h r)
  | _, _, .dct0 e n => .dct0 e (fun z => n (h _ z (some_ne e)))
  | _, _, .dct1 e n r => .dct1 e (fun z => n (h _ z (some_ne e))) (Rep.grow h r)
  | _, _, .exn0 e n x => .exn0 e (fun z => n (h _ z (some_ne e))) x
  | _, _, .exn1 e n x e2 n2 r => .exn1 e (fun z => n (h _ z (some_ne e))) x e2 (fun z => n2 (h _ z (some_ne e2))) (Rep.grow h r)
  | _, _, .rf a => .rf a
  | _, _, .wr e n r => .wr e (fun z => n (h _ z (some_ne e))) (Rep.grow h r)
  | _, _, .tn e c d r => .tn e c d (Reps.grow h r)
theorem Reps.grow (h : ∀ a, B' a → H a ≠ none → B a) : ∀ {vs : List V} {ds : List PyData}, Reps K B H vs ds → Reps K B' H vs ds
  | _, _, .nil => .nil
  | _, _, .cons r t => .cons (Rep.grow h r) (Reps.grow h t)
end
theorem Rep.less (h : ∀ a, B' a → B a) {v : V} {d : PyData} (r : Rep K B H v d) : Rep K B' H v d := r.grow fun a z _ => h a z
theorem Reps.less (h : ∀ a, B' a → B a) {vs : List V} {ds : List PyData} (r : Reps K B H vs ds) : Reps K B' H vs ds := r.grow fun a z _ => h a z
mutual
theorem Rep.flat : ∀ {v : V} {d : PyData}, DL.flat d = true → Rep K B H v d → Rep K B' H v d
  | _, _, _, .non => .non
  | _, _, _, .bl b => .bl b
  | _, _, _, .int i => .int i
  | _, _, _, .str x => .str x
  | _, _, h, .lst _ _ _ => by simp [DL.flat] at h
  | _, _, h, .tup e r => .tup e (Reps.flat (by simpa [DL.flat] using h) r)
  | _, _, h, .dct0 _ _ => by simp [DL.flat] at h
  | _, _, h, .dct1 _ _ _ => by simp [DL.flat] at h
  | _, _, h, .exn0 _ _ _ => by simp [DL.flat, xD] at h
  | _, _, h, .exn1 _ _ _ _ _ _ => by simp [DL.flat, xD] at h
  | _, _, _, .rf a => .rf a
  | _, _, h, .wr _ _ _ => by simp [DL.flat, wD] at h
  | _, _, h, .tn _ _ _ _ => by simp [DL.flat, tD] at h
theorem Reps.flat : ∀ {vs : List V} {ds : List PyData}, DL.flatAll ds = true → Reps K B H vs ds → Reps K B' H vs ds
  | _, _, _, .nil => .nil
  | _, _, h, .cons r t => by
    simp only [DL.flatAll, Bool.and_eq_true] at h
    exact .cons (Rep.flat h.1 r) (Reps.flat h.2 t)
end
mutual
theorem Rep.dp : ∀ {v : V} {d : PyData}, PyData.canLay0 d = true → Rep K B H v d → Dp K H v d
  | _, _, _, .non => .non
  | _, _, _, .bl b => .bl b
  | _, _, _, .int i => .int i
  | _, _, _, .str x => .str x
  | _, _, h, .lst e _ r => .lst (SqL.of e) (Reps.dp (by simpa [PyData.canLay0] using h) r)
  | _, _, h, .tup e r => .tup e (Reps.dp (by simpa [PyData.canLay0] using h) r)
  | _, _, h, .dct0 _ _ => by simp [PyData.canLay0] at h
  | _, _, h, .dct1 _ _ _ => by simp [PyData.canLay0] at h
  | _, _, h, .exn0 _ _ _ => by simp [PyData.canLay0, xD] at h
  | _, _, h, .exn1 _ _ _ _ _ _ => by simp [PyData.canLay0, xD] at h
  | _, _, h, .rf _ => by simp [PyData.canLay0, rD] at h
  | _, _, h, .wr _ _ _ => by simp [PyData.canLay0, wD] at h
  | _, _, h, .tn _ _ _ _ => by simp [PyData.canLay0, tD] at h
theorem Reps.dp : ∀ {vs : List V} {ds : List PyData}, PyData.canLayAll0 ds = true → Reps K B H vs ds → DpAll K H vs ds
  | _, _, _, .nil => .nil
  | _, _, h, .cons r t => by
    simp only [PyData.canLayAll0, Bool.and_eq_true] at h
    exact .cons (Rep.dp h.1 r) (Reps.dp h.2 t)
end
theorem Reps.length : ∀ {vs : List V} {ds : List PyData}, Reps K B H vs ds → vs.length = ds.length
  | _, _, .nil => rfl
  | _, _, .cons _ t => by simp [Reps.length t]
theorem Reps.get : ∀ {vs : List V} {ds : List PyData}, Reps K B H vs ds → ∀ {i : Nat} {d : PyData}, ds[i]? = some d → ∃ v, vs[i]? = some v ∧ Rep K B H v d
  | _, _, .nil, i, d, e => by simp at e
  | _, _, .cons r t, 0, d, e => by
    have e' : _ = d := Option.some.inj e
    subst e'
    exact ⟨_, rfl, r⟩
  | _, _, .cons r t, i + 1, d, e => Reps.get t (i := i) e
theorem Reps.append : ∀ {vs ws : List V} {ds es : List PyData}, Reps K B H vs ds → Reps K B H ws es → Reps K B H (vs ++ ws) (ds ++ es)
  | _, _, _, _, .nil, s => s
  | _, _, _, _, .cons r t, s => .cons r (Reps.append t s)
theorem Reps.drop : ∀ (n : Nat) {vs : List V} {ds : List PyData}, Reps K B H vs ds → Reps K B H (vs.drop n) (ds.drop n)
  | 0, _, _, r => r
  | _ + 1, _, _, .nil => .nil
  | n + 1, _, _, .cons _ t => Reps.drop n t
theorem Reps.take : ∀ (n : Nat) {vs : List V} {ds : List PyData}, Reps K B H vs ds → Reps K B H (vs.take n) (ds.take n)
  | 0, _, _, _ => .nil
  | _ + 1, _, _, .nil => .nil
  | n + 1, _, _, .cons r t => .cons r (Reps.take n t)
theorem Reps.set {v : V} {d : PyData} (r : Rep K B H v d) : ∀ (n : Nat) {vs : List V} {ds : List PyData}, Reps K B H vs ds → Reps K B H (vs.set n v) (ds.set n d)
  | _, _, _, .nil => .nil
  | 0, _, _, .cons _ t => .cons r t
  | n + 1, _, _, .cons q t => .cons q (Reps.set r n t)
theorem Reps.rep {vs : List V} {ds : List PyData} (r : Reps K B H vs ds) : ∀ n : Nat, Reps K B H (List.replicate n vs).flatten (List.replicate n ds).flatten
  | 0 => .nil
  | n + 1 => by
    rw [List.replicate_succ, List.replicate_succ, List.flatten_cons, List.flatten_cons]
    exact r.append (Reps.rep r n)
theorem Reps.ints : ∀ {vs : List V} {ds : List PyData} {ns : List Int}, Reps K B H vs ds → ints? ds = some ns → vs = ns.map V.int
  | _, _, ns, .nil, h => by simp [ints?] at h; subst h; rfl
  | _, _, ns, .cons r t, h => by
    have e := ints?_eq h
    cases ns with
    | nil => cases e
    | cons a b =>
      injection e with e1 e2
      subst e1
      cases r with
      | int i =>
        subst e2
        rw [Reps.ints t (ints?_map b)]
        rfl
theorem Reps.of_ints : ∀ (ns : List Int), Reps K B H (ns.map V.int) (ns.map PyData.int)
  | [] => .nil
  | a :: r => .cons (.int a) (Reps.of_ints r)
end
/-- from a state to another: B may change, what is new is new -/
structure Tr (B : Addr → Prop) (H : Hp) (B' : Addr → Prop) (H' : Hp) : Prop where
  ext : Ext B H H'
  old : ∀ a, B' a → H a ≠ none → B a
/-- the body's own: what may change besides (the stream, the cells), its state, the entry's heap and state, the caller's places, what is wanted of errors -/
structure Par where
  B0 : Sx → Addr → Prop
  SI : Sx → Hp → Prop
  S : Addr
  H0 : Hp
  c0 : Sx
  Bc : Addr → Prop
  XP : Exn → Sx → Prop
  EK : L2.St → XK
  /-- within a try's body: where it began; slots that may change -/
  fx : Option (L2.St × Sx × Hp × (Addr → Prop) × (Nat → Prop)) := none
  /-- lists that were handed in: where the name at a place stands -/
  pin : Nat → Option Addr := fun _ => none
/-- the places of the frame and those of the state -/
def bm (p : Par) (B : Addr → Prop) (c : Sx) : Addr → Prop := fun a => B a ∨ p.B0 c a
/-- an error behind a call: its class, its fields -/
def ExRep (K : PySem.W.Frag) (mg : Str → Option Value) (B : Addr → Prop) (H : Hp) (x : Exn) (c : Value) (d : Option Addr) : Prop :=
  c = .ref (He.ga K x.cls) ∧ ErrC K x.cls ∧ match x.fs with
    | [] => d = none
    | [(f, y)] => ∃ (dd : Addr) (v : V), d = some dd ∧ H dd = some (.xd [(f, v)]) ∧ ¬ B dd ∧ Rep K B H v y
    | _ => False
/-- what may change: places of the state; new places are new -/
structure EvB (Z : Sx → Addr → Prop) (c : Sx) (H : Hp) (c' : Sx) (H' : Hp) : Prop where
  ext : Ext (Z c) H H'
  up : ∀ a, Z c a → Z c' a
  old : ∀ a, Z c' a → H a ≠ none → Z c a
  dom : (∀ a, Z c a → H a ≠ none) → ∀ a, Z c' a → H' a ≠ none
abbrev Ev (p : Par) (c : Sx) (H : Hp) (c' : Sx) (H' : Hp) : Prop := EvB p.B0 c H c' H'
structure St0 (p : Par) (n : Sx) (B : Addr → Prop) (H : Hp) : Prop where
  subc : ∀ a, p.Bc a → bm p B n a
  trk : ∀ a, bm p B n a → H a ≠ none
  si : p.SI n H
  ext : Ev p p.c0 p.H0 n H
  old : ∀ a, B a → p.H0 a ≠ none → bm p p.Bc n a
/-- the slots and places are those of the try's start -/
def Fix (p : Par) (n : Sx) (B : Addr → Prop) (H : Hp) (σ : L2.St) : Prop := ∀ f, p.fx = some f → (σ.length = f.1.length ∧ ∀ i, ¬ f.2.2.2.2 i → σ[i]? = f.1[i]?) ∧ Ev p f.2.1 f.2.2.1 n H ∧ B = f.2.2.2.1
theorem EvB.refl {Z : Sx → Addr → Prop} {c : Sx} {H : Hp} : EvB Z c H c H := ⟨Ext.refl, fun _ h => h, fun _ h _ => h, fun h => h⟩
theorem All.ev {Z : Sx → Addr → Prop} {c : Sx} {H H' : Hp} (h : All H H') : EvB Z c H c H' := ⟨h.ext, fun _ h => h, fun _ h _ => h, fun q a z => (h.ext (B := fun _ => False)).dom a (q a z)⟩
theorem EvB.trans {Z : Sx → Addr → Prop} {c c' c'' : Sx} {H H' H'' : Hp} (a : EvB Z c H c' H') (b : EvB Z c' H' c'' H'') : EvB Z c H c'' H'' where
  ext := ⟨fun x o e n => b.ext.keep x o (a.ext.keep x o e n) fun z => n (a.old x z (some_ne e)), fun x o e i => b.ext.imm x o (a.ext.imm x o e i) i, fun x n => b.ext.dom x (a.ext.dom x n)⟩
  up := fun x h => b.up x (a.up x h)
  old := fun x z n => a.old x (b.old x z (a.ext.dom x n)) n
  dom := fun q => b.dom (a.dom q)
theorem Ev.refl {p : Par} {c : Sx} {H : Hp} : Ev p c H c H := EvB.refl
theorem Ev.trans {p : Par} {c c' c'' : Sx} {H H' H'' : Hp} (a : Ev p c H c' H') (b : Ev p c' H' c'' H'') : Ev p c H c'' H'' := EvB.trans a b
theorem Fix.no {p : Par} {n : Sx} {B : Addr → Prop} {H : Hp} {σ : L2.St} (h : p.fx = none) : Fix p n B H σ := fun f e => by rw [h] at e; cases e
theorem Fix.go {p : Par} {n n' : Sx} {B : Addr → Prop} {H H' : Hp} {σ : L2.St} (h : Fix p n B H σ) (e : Ev p n H n' H') : Fix p n' B H' σ := fun f q => let ⟨a, b, c⟩ := h f q; ⟨a, b.trans e, c⟩
structure Par.Ok (K : PySem.W.Frag) (mg : Str → Option Value) (p : Par) : Prop where
  stab : ∀ n H H', p.SI n H → (∀ a o, p.B0 n a → H a = some o → H' a = some o) → (∀ a o, H a = some o → Imm o → H' a = some o) → p.SI n H'
  exc : ∀ n n' x c d B H H' σ, St0 p n B H → Fix p n B H σ → p.XP x n' → p.SI n' H' → Ev p n H n' H' → ExRep K mg (bm p B n') H' x c d → p.EK σ c d H'
inductive Slot (K : PySem.W.Frag) (p : Par) (n : Sx) (B : Addr → Prop) (H : Hp) : Option V → Ent → Prop
  | unk (s : Option V) : Slot K p n B H s .unk
  | val {v : V} {d : D} : Rep K (bm p B n) H v d → Slot K p n B H (some v) (.val d)
  | own {a : Addr} {xs : List V} {ds : List D} : B a → ¬ p.B0 n a → ¬ p.Bc a → p.H0 a = none → H a = some (.lst xs) → Reps K (bm p B n) H xs ds → Slot K p n B H (some (.ref a)) (.own ds)
  | stm : Slot K p n B H (some (.ref p.S)) .stm
  | scr {a : Addr} {ns : List Int} : (∀ H' : Hp, (∀ o, H a = some o → Imm o → H' a = some o) → SqL K H' a (ns.map V.int)) → Slot K p n B H (some (.ref a)) (.scr ns)
structure EnvR (K : PySem.W.Frag) (p : Par) (n : Sx) (B : Addr → Prop) (H : Hp) (σ : L2.St) (E : Env) : Prop where
  len : σ.length = E.length
  at_ : ∀ (i : Nat) (e : Ent), E[i]? = some e → ∃ s, σ[i]? = some s ∧ Slot K p n B H s e
  nd : ∀ (i j : Nat) (a : Addr) (xs ys : List D), E[i]? = some (.own xs) → E[j]? = some (.own ys) → σ[i]? = some (some (.ref a)) → σ[j]? = some (some (.ref a)) → i = j
  fx : Fix p n B H σ
  pn : ∀ (i : Nat) (a : Addr) (xs : List D), p.pin i = some a → E[i]? = some (.own xs) → σ[i]? = some (some (.ref a))
theorem Tr.refl {B : Addr → Prop} {H : Hp} : Tr B H B H := ⟨Ext.refl, fun _ b _ => b⟩
theorem Tr.trans {B B' B'' : Addr → Prop} {H H' H'' : Hp} (a : Tr B H B' H') (b : Tr B' H' B'' H'') : Tr B H B'' H'' where
  ext := ⟨fun x o e n => b.ext.keep x o (a.ext.keep x o e n) fun z => n (a.old x z (some_ne e)), fun x o e i => b.ext.imm x o (a.ext.imm x o e i) i, fun x n => b.ext.dom x (a.ext.dom x n)⟩
  old := fun x z n => a.old x (b.old x z (a.ext.dom x n)) n
theorem Tr.of {B : Addr → Prop} {H H' : Hp} (e : Ext B H H') : Tr B H B H' := ⟨e, fun _ b _ => b⟩
section
variable {K : PySem.W.Frag} {mg : Str → Option Value} {p : Par} {B B' B'' : Addr → Prop} {H H' H'' : Hp} {σ : L2.St} {E : Env} {n n' : Sx}
mutual
/-- data that was known stays known -/
theorem Rep.tr (t : Tr B H B' H') : ∀ {v : V} {d : PyData}, Rep K B H v d → Rep K B' H' v d
  | _, _, .non => .non
  | _, _, .bl b => .bl b
  | _, _, .int i => .int i
  | _, _, .str x => .str x
  | _, _, .lst e n r => .lst (t.ext.keep _ _ e n) (fun z => n (t.old _ z (some_ne e))) (Reps.tr t r)
  | _, _, .tup e r => .tup (t.ext.sqT e) (Reps.tr t r)
  | _, _, .dct0 e n => .dct0 (t.ext.keep _ _ e n) (fun z => n (t.old _ z (some_ne e)))
  | _, _, .dct1 e n r => .dct1 (t.ext.keep _ _ e n) (fun z => n (t.old _ z (some_ne e))) (Rep.tr t r)
  | _, _, .exn0 e n x => .exn0 (t.ext.keep _ _ e n) (fun z => n (t.old _ z (some_ne e))) x
  | _, _, .exn1 e n x e2 n2 r => .exn1 (t.ext.keep _ _ e n) (fun z => n (t.old _ z (some_ne e))) x (t.ext.keep _ _ e2 n2) (fun z => n2 (t.old _ z (some_ne e2))) (Rep.tr t r)
  | _, _, .rf a => .rf a
  | _, _, .wr e n r => .wr (t.ext.keep _ _ e n) (fun z => n (t.old _ z (some_ne e))) (Rep.tr t r)
  | _, _, .tn e c d r => .tn (t.ext.imm _ _ e True.intro) c d (Reps.tr t r)
theorem Reps.tr (t : Tr B H B' H') : ∀ {vs : List V} {ds : List PyData}, Reps K B H vs ds → Reps K B' H' vs ds
  | _, _, .nil => .nil
  | _, _, .cons r u => .cons (Rep.tr t r) (Reps.tr t u)
end
section
variable {K : PySem.W.Frag} {mg : Str → Option Value} {p : Par} {B B' B'' : Addr → Prop} {H H' H'' : Hp} {σ : L2.St} {E : Env} {n n' : Sx}
theorem bm_more (h : ∀ a, p.B0 n a → p.B0 n' a) : ∀ a, bm p B n a → bm p B n' a := fun a z => z.imp id (h a)
/-- an expression, as a step -/
theorem EvB.tr (e : EvB p.B0 n H n' H') : Tr (bm p B n) H (bm p B n') H' :=
  ⟨e.ext.more fun _ z => .inr z, fun a z h => z.elim .inl fun z => .inr (e.old a z h)⟩
theorem St0.up (_ : St0 p n B H) (e : Ev p n H n' H') : Tr (bm p B n) H (bm p B n') H' := e.tr
theorem St0.go (s : St0 p n B H) (e : Ev p n H n' H') (si : p.SI n' H') : St0 p n' B H' :=
  ⟨fun a z => bm_more e.up a (s.subc a z), fun a b => b.elim (fun z => e.ext.dom a (s.trk a (.inl z))) fun z => e.dom (fun x y => s.trk x (.inr y)) a z, si, s.ext.trans e, fun a b h => bm_more e.up a (s.old a b h)⟩
theorem St0.all (ok : p.Ok K mg) (s : St0 p n B H) (e : All H H') : p.SI n H' := ok.stab n H H' s.si (fun a o _ q => e a o q) fun a o q _ => e a o q
/-- the caller's places and the state's are known -/
theorem St0.bc (s : St0 p n B H) : ∀ a, bm p p.Bc n a → bm p B n a := fun a z => z.elim (s.subc a) .inr
theorem Slot.go (e : Ev p n H n' H') {x : Option V} {y : Ent} (h : Slot K p n B H x y) : Slot K p n' B H' x y := by
  cases h with
  | unk _ => exact .unk _
  | val r => exact .val (r.tr e.tr)
  | own b nb nc h0 hl r => exact .own b (fun z => nb (e.old _ z (some_ne hl))) nc h0 (e.ext.keep _ _ hl nb) (r.tr e.tr)
  | stm => exact .stm
  | scr q => exact .scr fun H2 hk => q H2 fun o ho hi => hk o (e.ext.imm _ o ho hi) hi
theorem EnvR.go (r : EnvR K p n B H σ E) (_ : St0 p n B H) (e : Ev p n H n' H') : EnvR K p n' B H' σ E :=
  ⟨r.len, fun i x q => let ⟨s', h1, h2⟩ := r.at_ i x q; ⟨s', h1, h2.go e⟩, r.nd, r.fx.go e, r.pn⟩
end
end
end DL
end
section
namespace DL
open PySem PySem.Spec PyProof.Rows L2
theorem dict_declines (l b : Addr) (o : Obj) (items2 : Array Value) (n2 : Nat) (dd2 : Option Addr) (sl2 : Array (Option Value)) :
    Meets (Builtin.«dict.__eq__» ⟨[.ref l, .ref b], []⟩) (fun _ R s => s.heap.get? l = some o ∧ o.cls = .type "dict" ∧ s.heap.get? b = some { cls := .type "tuple", dict := dd2, data := .seq items2 n2, slots := sl2 } ∧ R (.ok (.ret .notImplemented)) s) :=
  .of_wp fun prog w A R s h => by
    obtain ⟨hl, hc, hb, h⟩ := h
    have t1 : s.TypeIs (.ref l) "dict" := ⟨_, hl, hc⟩
    have t2 : s.TypeIs (.ref b) "tuple" := ⟨_, hb, rfl⟩
    show wpAny _ _ (Builtin.Dict.dictSlotArgs "__eq__" ⟨[.ref l, .ref b], []⟩ >>= _) _ _ s
    refine wpAny_bind ?_
    unfold Builtin.Dict.dictSlotArgs
    refine wpAny_bind (PySem.wpAny_notOrdered_dict t1 ?_)
    show wpAny _ _ (pure (Value.ref l, Value.ref b)) _ _ s
    refine wpAny_pure ?_
    refine wpAny_bind (wpAny_isInstance (T := "tuple") (U := "dict") (b := false) t2 PySem.F.sub_tuple_dict ?_)
    simp only [Bool.not_false, if_true]
    exact wpAny_bind (wpAny_rule (wpAny_pure ⟨_, rfl, h⟩))
theorem tuple_declines (l b : Addr) (o : Obj) (items : Array Value) (n : Nat) (dd : Option Addr) (sl : Array (Option Value)) :
    Meets (Builtin.«tuple.__eq__» ⟨[.ref l, .ref b], []⟩) (fun _ R s => s.heap.get? l = some { cls := .type "tuple", dict := dd, data := .seq items n, slots := sl } ∧ s.heap.get? b = some o ∧ o.cls = .type "dict" ∧ R (.ok (.ret .notImplemented)) s) :=
  .of_wp fun prog w A R s h => by
    obtain ⟨hp, g, d, tk, os⟩ := s
    obtain ⟨hl, hb, hc, h⟩ := h
    obtain ⟨oc, od, oda, os2⟩ := o
    simp only at hc
    subst hc
    have f1 := PySem.F.sub_dict_tuple
    wp_walk using wpAny_loadPart' hl, wpAny_loadPart' hb
    exact ⟨_, rfl, h⟩
section
variable {A : Around} {s : Shared}
theorem rc_dict_tuple {l b : Addr} {o : Obj} {items2 : Array Value} (hl : s.heap.get? l = some o) (hc : o.cls = .type "dict") (hb : s.heap.IsTuple b items2) (hu : A.units < cLine) : SeqAt.RcAt A s (.ref l) (.ref b) false := fun prog w E Q h => by
  obtain ⟨⟨cls2, dd2, data2, sl2⟩, ho2, hc2, n2, hd2⟩ := id hb
  simp only at hc2 hd2
  subst hc2 hd2
  have hne : l ≠ b := fun z => by
    subst z
    rw [hl] at ho2
    cases ho2
    exact absurd hc (by simp)
  exact (PySem.SeqAt.rc_eq_decline_or (k := false) ⟨_, hl, hc⟩ ⟨_, ho2, rfl⟩ (by decide) PySem.F.sub_tuple_dict PySem.F.slot_dict_eq PySem.F.slot_tuple_eq_refl
    (fun _ hq => call_meets PySem.F.slot_dict_eq ⟨_, hl, hc⟩ PySem.F.entry_dict_eq (PySem.F.args_dict_eq_2 _ _) (dict_declines l b o items2 n2 dd2 sl2) ⟨hl, hc, ho2, hq⟩)
    (fun _ hq => call_meets PySem.F.slot_tuple_eq_refl ⟨_, ho2, rfl⟩ PySem.F.entry_tuple_eq (PySem.F.args_tuple_eq_2 _ _) (tuple_declines b l o items2 n2 dd2 sl2) ⟨ho2, hl, hc, hq⟩)
    (fun _ hq => wpAny_isSame_ref_other hne hl ho2 (by rw [hc]; simp) hq) (.inr hu) h)
end
theorem dict_declines_ne (l b : Addr) (o : Obj) (items2 : Array Value) (n2 : Nat) (dd2 : Option Addr) (sl2 : Array (Option Value)) :
    Meets (Builtin.«dict.__ne__» ⟨[.ref l, .ref b], []⟩) (fun _ R s => s.heap.get? l = some o ∧ o.cls = .type "dict" ∧ s.heap.get? b = some { cls := .type "tuple", dict := dd2, data := .seq items2 n2, slots := sl2 } ∧ R (.ok (.ret .notImplemented)) s) :=
  .of_wp fun prog w A R s h => by
    obtain ⟨hl, hc, hb, h⟩ := h
    have t1 : s.TypeIs (.ref l) "dict" := ⟨_, hl, hc⟩
    have t2 : s.TypeIs (.ref b) "tuple" := ⟨_, hb, rfl⟩
    show wpAny _ _ (Builtin.Dict.dictSlotArgs "__ne__" ⟨[.ref l, .ref b], []⟩ >>= _) _ _ s
    refine wpAny_bind ?_
    unfold Builtin.Dict.dictSlotArgs
    refine wpAny_bind (PySem.wpAny_notOrdered_dict t1 ?_)
    show wpAny _ _ (pure (Value.ref l, Value.ref b)) _ _ s
    refine wpAny_pure ?_
    refine wpAny_bind (wpAny_isInstance (T := "tuple") (U := "dict") (b := false) t2 PySem.F.sub_tuple_dict ?_)
    simp only [Bool.not_false, if_true]
    exact wpAny_bind (wpAny_rule (wpAny_pure ⟨_, rfl, h⟩))
theorem tuple_declines_ne (l b : Addr) (o : Obj) (items : Array Value) (n : Nat) (dd : Option Addr) (sl : Array (Option Value)) :
    Meets (Builtin.«tuple.__ne__» ⟨[.ref l, .ref b], []⟩) (fun _ R s => s.heap.get? l = some { cls := .type "tuple", dict := dd, data := .seq items n, slots := sl } ∧ s.heap.get? b = some o ∧ o.cls = .type "dict" ∧ R (.ok (.ret .notImplemented)) s) :=
  .of_wp fun prog w A R s h => by
    obtain ⟨hp, g, d, tk, os⟩ := s
    obtain ⟨hl, hb, hc, h⟩ := h
    obtain ⟨oc, od, oda, os2⟩ := o
    simp only at hc
    subst hc
    have f1 := PySem.F.sub_dict_tuple
    wp_walk using wpAny_loadPart' hl, wpAny_loadPart' hb
    exact ⟨_, rfl, h⟩
section
variable {A : Around} {s : Shared}
theorem rc_dict_tuple_ne {l b : Addr} {o : Obj} {items2 : Array Value} (hl : s.heap.get? l = some o) (hc : o.cls = .type "dict") (hb : s.heap.IsTuple b items2) (hu : A.units < cLine) : SeqAt.RcNeAt A s (.ref l) (.ref b) true := fun prog w E Q h => by
  obtain ⟨⟨cls2, dd2, data2, sl2⟩, ho2, hc2, n2, hd2⟩ := id hb
  simp only at hc2 hd2
  subst hc2 hd2
  have hne : l ≠ b := fun z => by
    subst z
    rw [hl] at ho2
    cases ho2
    exact absurd hc (by simp)
  exact (PySem.SeqAt.rc_ne_decline_or (k := false) ⟨_, hl, hc⟩ ⟨_, ho2, rfl⟩ (by decide) PySem.F.sub_tuple_dict PySem.F.slot_dict_ne PySem.F.slot_tuple_ne_refl
    (fun _ hq => call_meets PySem.F.slot_dict_ne ⟨_, hl, hc⟩ PySem.F.entry_dict_ne (PySem.F.args_dict_ne_2 _ _) (dict_declines_ne l b o items2 n2 dd2 sl2) ⟨hl, hc, ho2, hq⟩)
    (fun _ hq => call_meets PySem.F.slot_tuple_ne_refl ⟨_, ho2, rfl⟩ PySem.F.entry_tuple_ne (PySem.F.args_tuple_ne_2 _ _) (tuple_declines_ne b l o items2 n2 dd2 sl2) ⟨ho2, hl, hc, hq⟩)
    (fun _ hq => wpAny_isSame_ref_other hne hl ho2 (by rw [hc]; simp) hq) (.inr hu) h)
end
end DL
end
section
namespace DL
open PySem PySem.Spec PyProof.Rows L2
theorem tuple_once (l : Addr) (items : Array Value) (n : Nat) (dd : Option Addr) (sl : Array (Option Value)) (u : Tok) :
    Meets (Builtin.«tuple.__mul__» ⟨[.ref l, .int 1 u], []⟩) (fun _ R s => s.heap.get? l = some { cls := .type "tuple", dict := dd, data := .seq items n, slots := sl } ∧
      R (.ok (.ret (Value.ref l))) s) :=
  .of_wp fun prog w A R s h => by
    obtain ⟨hp, g, d, tk, os⟩ := s
    obtain ⟨hl, h⟩ := h
    have f1 := AutoSeq1.idx_int
    have c1 : (items.isEmpty || (1 : Int) == 1) = true := by simp
    wp_walk using wpAny_loadPart' hl
    repeat (first
      | (refine wpAny_ite_true (decide_eq_true c1) ?_; wp_walk using wpAny_loadPart' hl)
      | (refine wpAny_ite_true c1 ?_; wp_walk using wpAny_loadPart' hl))
    exact ⟨_, rfl, h⟩
section
variable {X : Cx}
theorem op_once {pins : List (Addr × Obj)} {s : Shared} {σ : L2.St} {H : Hp} {v u : Value} {Q : VK} {l : Addr} {xs : List V} (I : Inv X pins σ H s) (rx : RelV (.ref l) v) (ry : RelV (.int 1) u) (hT : SqT X.K H l xs) (q : Q (.ref l) H) : wpAny (model X.prog X.w) X.A (binaryOp .Mult v u) (EP X pins σ Q) X.xe s := by
  cases rx
  obtain ⟨t, rfl⟩ := ry
  obtain ⟨its, r, ⟨⟨cls, dd, data, sl⟩, ho, hc, n, hd⟩, hs⟩ := I.tuple hT
  simp only at hc hd
  subst hc hd
  refine wpAny_binaryOp_repeat_ref (T := "tuple") (U := "int") (by decide) ⟨_, ho, rfl⟩ (fun s' => typeIs_int s' 1 t) noFill_tuple_mul PySem.F.fills_int_mul PySem.F.slot_int_rmul repeat_tuple PySem.F.slot_int_index.lookup
    (call_meets PySem.F.slot_int_rmul (typeIs_int s 1 t) PySem.F.entry_int_rmul (PySem.F.args_int_rmul_2 _ _) (int_rmul_tuple 1 t l its.toArray n dd sl)
      ⟨ho, rfl, ⟨_, ho, rfl⟩, call_meets PySem.F.slot_tuple_mul ⟨_, ho, rfl⟩ PySem.F.entry_tuple_mul (PySem.F.args_tuple_mul_2 _ _) (tuple_once l its.toArray n dd sl t) ⟨ho, ?_⟩⟩)
  exact ⟨.ref l, H, I, rfl, q⟩
end
theorem rep_once (ds : List PyData) : rep 1 ds = ds := by
  simp [rep]
end DL
end
section
namespace DL
open PySem PySem.Spec PyProof.Rows L2
theorem tuple_never (l : Addr) (items : Array Value) (n : Nat) (dd : Option Addr) (sl : Array (Option Value)) (u : Tok) (c1 : items.isEmpty = false) :
    Meets (Builtin.«tuple.__mul__» ⟨[.ref l, .int 0 u], []⟩) (fun _ R s => s.heap.get? l = some { cls := .type "tuple", dict := dd, data := .seq items n, slots := sl } ∧
      R (.ok (.ret (Value.ref s.heap.objs.size))) { s with heap := s.heap.push { cls := Value.type "tuple", data := Data.seq #[] }, toks := s.toks }) :=
  .of_wp fun prog w A R s h => by
    obtain ⟨hp, g, d, tk, os⟩ := s
    obtain ⟨hl, h⟩ := h
    have f1 := AutoSeq1.idx_int
    have c2 : (items.isEmpty || (0 : Int) == 1) = false := by rw [c1]; rfl
    wp_walk using wpAny_loadPart' hl
    repeat (first
      | (refine wpAny_ite_false (decide_eq_false (by rw [c2]; exact Bool.false_ne_true)) ?_; wp_walk using wpAny_loadPart' hl)
      | (refine wpAny_ite_false (by rw [c2]; exact Bool.false_ne_true) ?_; wp_walk using wpAny_loadPart' hl))
    exact ⟨_, rfl, h⟩
section
variable {X : Cx}
theorem op_never {pins : List (Addr × Obj)} {s : Shared} {σ : L2.St} {H : Hp} {v u : Value} {Q : VK} {l : Addr} {xs : List V} (I : Inv X pins σ H s) (rx : RelV (.ref l) v) (ry : RelV (.int 0) u) (hT : SqT X.K H l xs) (hne : xs ≠ []) (q : ∀ p, H p = none → Q (.ref p) (upd H p (.tup []))) : wpAny (model X.prog X.w) X.A (binaryOp .Mult v u) (EP X pins σ Q) X.xe s := by
  cases rx
  obtain ⟨t, rfl⟩ := ry
  obtain ⟨its, r, ⟨⟨cls, dd, data, sl⟩, ho, hc, n, hd⟩, hs⟩ := I.tuple hT
  simp only at hc hd
  subst hc hd
  have hi : its.toArray.isEmpty = false := by
    cases its with
    | nil => exact absurd (List.eq_nil_of_length_eq_zero r.length) hne
    | cons a b => rfl
  refine wpAny_binaryOp_repeat_ref (T := "tuple") (U := "int") (by decide) ⟨_, ho, rfl⟩ (fun s' => typeIs_int s' 0 t) noFill_tuple_mul PySem.F.fills_int_mul PySem.F.slot_int_rmul repeat_tuple PySem.F.slot_int_index.lookup
    (call_meets PySem.F.slot_int_rmul (typeIs_int s 0 t) PySem.F.entry_int_rmul (PySem.F.args_int_rmul_2 _ _) (int_rmul_tuple 0 t l its.toArray n dd sl)
      ⟨ho, rfl, ⟨_, ho, rfl⟩, call_meets PySem.F.slot_tuple_mul ⟨_, ho, rfl⟩ PySem.F.entry_tuple_mul (PySem.F.args_tuple_mul_2 _ _) (tuple_never l its.toArray n dd sl t hi) ⟨ho, ?_⟩⟩)
  refine ⟨.ref s.heap.objs.size, _, I.laid (t' := s.toks) (o := .tup []) (fun b ob q => Heap.get?_push_of_some _ q) (Nat.le_refl _) ?_, rfl, q _ (I.hok.fresh (Nat.le_refl _))⟩
  exact ⟨by rw [sizeLine_eq]; decide, _, .nil, IsTup.new _ _⟩
end
end DL
end
section
namespace DL
open PySem PySem.Spec PyProof.Rows L2
/-- the place of sys.modules is of the base -/
def HasSm (base : Heap) : Prop := ∃ o, base.get? sysModules = some o
/-- room for calls; cb: nothing is handled -/
structure RoomB (cb : Bool) (k : Nat) (A : Around) : Prop where
  hd_ : cb = true → A.handled = none
  dp : A.depth + 3 * k + 5 < recursionLimit
  un : A.units + 16 * k + 200 < cLine
theorem RoomB.of {k : Nat} {A : Around} (r : Room k A) : RoomB true k A := ⟨fun _ => r.hd, r.dp, r.un⟩
theorem RoomB.mono {cb : Bool} {j k : Nat} {A : Around} (r : RoomB cb k A) (h : j ≤ k) : RoomB cb j A := ⟨r.hd_, by have := r.dp; omega, by have := r.un; omega⟩
theorem RoomB.deeper {cb : Bool} {k : Nat} {A : Around} (r : RoomB cb (k + 1) A) (env : PySem.Env) : RoomB cb k (A.deeper env) :=
  ⟨r.hd_, by have := r.dp; show A.depth + 1 + 3 * k + 5 < _; omega, by have := r.un; show A.units + 3 + 16 * k + 200 < _; omega⟩
theorem RoomB.depth {cb : Bool} {k : Nat} {A : Around} (r : RoomB cb k A) : A.depth < recursionLimit := by have := r.dp; omega
theorem RoomB.units {cb : Bool} {k : Nat} {A : Around} (r : RoomB cb k A) : A.units + 64 < cLine := by have := r.un; omega
/-- what is known of the body that runs; cb: not within an except suite; vb: not within a try's body -/
structure SitB (cb vb : Bool) (X : Cx) (p : Par) (k : Nat) : Prop where
  calm_ : cb = true → X.calm = true
  gd : X.A.guards = some []
  rm : RoomB cb k X.A
  nd : X.N.Nodup
  ok : p.Ok X.K X.mg
  po : PassesOwn (model X.prog X.w) X.A X.env X.xe
  tk : TakesD X (fun c d σ H => p.EK σ c d H)
  nf_ : vb = true → p.fx = none
  sm : HasSm X.base
abbrev Sit (X : Cx) (p : Par) (k : Nat) : Prop := SitB true true X p k
theorem SitB.ps {cb vb : Bool} {X : Cx} {p : Par} {k : Nat} (S : SitB cb vb X p k) (σ : L2.St) : PassesAt (CXd X.K X.prog X.w) X σ (p.EK σ) := passAtD S.tk σ
theorem SitB.calm {vb : Bool} {X : Cx} {p : Par} {k : Nat} (S : SitB true vb X p k) : X.calm = true := S.calm_ rfl
theorem SitB.nf {cb : Bool} {X : Cx} {p : Par} {k : Nat} (S : SitB cb true X p k) : p.fx = none := S.nf_ rfl
def EvR (K : PySem.W.Frag) (p : Par) (te : TE) (m : XE) : Prop :=
  ∀ (B : Addr → Prop) (H : Hp) (σ : L2.St) (E : Env) (c : Sx) (P : D → Sx → Prop) (Q : VK), St0 p c B H → EnvR K p c B H σ E → m E c P p.XP →
    (∀ d c' v H', P d c' → Ev p c H c' H' → p.SI c' H' → Rep K (bm p B c') H' v d → Q v H') → te σ H Q
def EvT (K : PySem.W.Frag) (p : Par) (tt : TT) (m : XT) : Prop :=
  ∀ (B : Addr → Prop) (H : Hp) (σ : L2.St) (E : Env) (c : Sx) (P : Bool → Sx → Prop) (Q : Bool → Hp → Prop), St0 p c B H → EnvR K p c B H σ E → m E c P p.XP →
    (∀ b c' H', P b c' → Ev p c H c' H' → p.SI c' H' → Q b H') → tt σ H Q
def EvA (K : PySem.W.Frag) (p : Par) (ta : TA) (m : XA) : Prop :=
  ∀ (B : Addr → Prop) (H : Hp) (σ : L2.St) (E : Env) (c : Sx) (P : List D → Sx → Prop) (Q : List V → Hp → Prop), St0 p c B H → EnvR K p c B H σ E → m E c P p.XP →
    (∀ ds c' vs H', P ds c' → Ev p c H c' H' → p.SI c' H' → Reps K (bm p B c') H' vs ds → Q vs H') → ta σ H Q
structure PD (X : Cx) (p : Par) (e : Expr) (m : XE) : Prop where
  ex : ∃ te, PE X e te ∧ EvR X.K p te m
structure PDT (X : Cx) (p : Par) (e : Expr) (m : XT) : Prop where
  ex : ∃ tt, PT X e tt ∧ EvT X.K p tt m
structure PDW (X : Cx) (p : Par) (e : Expr) (m : XT) : Prop where
  ex : ∃ tt, PW X e tt ∧ EvT X.K p tt m
structure PDA (X : Cx) (p : Par) (es : List Expr) (m : XA) : Prop where
  ex : ∃ ta, PA X es ta ∧ EvA X.K p ta m
section
variable {X : Cx} {p : Par} {k : Nat} {K : PySem.W.Frag}
theorem pd_var (i : Nat) {x : Str} {pos : Pos} (hN : X.N[i]? = some x := by rfl) (hv : Vis X.env.scope x := by first | exact Or.inl rfl | exact Or.inr (Or.inl rfl) | exact Or.inr (Or.inr rfl))
    (hd : (x == ("__debug__" : Str)) = false := by decide) (hcd : (x == ("__classdict__" : Str)) = false := by decide) : PD X p (.Name x pos) (eVar i) := by
  refine ⟨tVar i, pe_var hN hv hd hcd, fun B H σ E c P Q s r m k => ?_⟩
  unfold eVar at m
  cases e : E[i]? with
  | none => rw [e] at m; exact m.elim
  | some y =>
    rw [e] at m
    obtain ⟨z, h1, h2⟩ := r.at_ i y e
    cases h2 with
    | unk _ => exact m.elim
    | val q => exact ⟨_, h1, k _ _ _ H m Ev.refl s.si q⟩
    | own _ _ _ _ _ _ => exact m.elim
    | stm => exact m.elim
    | scr _ => exact m.elim
theorem ev_con {v : V} {d : D} (h : ∀ B H, Rep K B H v d) : EvR K p (tC v) (eCon d) := fun B H σ E c P Q s r m k => k d _ v H m Ev.refl s.si (h _ H)
theorem pd_int {i j pos} : PD X p (.Constant (.int i) j pos) (eCon (.int i)) := ⟨_, pe_int, ev_con fun _ _ => .int i⟩
theorem pd_bl {b j pos} : PD X p (.Constant (.bool b) j pos) (eCon (.bool b)) := ⟨_, pe_bl, ev_con fun _ _ => .bl b⟩
theorem pd_non {j pos} : PD X p (.Constant .none j pos) (eCon .none) := ⟨_, pe_non, ev_con fun _ _ => .non⟩
/-- a two-place operation on values that are data -/
def rD2 (K : PySem.W.Frag) (f : D → D → W D) : R2 := fun x y H Q => ∃ (B : Addr → Prop) (d e : D) (c : Sx) (P : D → Sx → Prop) (Xp : Exn → Sx → Prop),
  (∀ a, B a → H a ≠ none) ∧ Rep K B H x d ∧ Rep K B H y e ∧ f d e c P Xp ∧ ∀ z v H', P z c → All H H' → Rep K B H' v z → Q v H'
def rD1 (K : PySem.W.Frag) (f : D → W D) : V → Hp → VK → Prop := fun x H Q => ∃ (B : Addr → Prop) (d : D) (c : Sx) (P : D → Sx → Prop) (Xp : Exn → Sx → Prop),
  (∀ a, B a → H a ≠ none) ∧ Rep K B H x d ∧ f d c P Xp ∧ ∀ z v H', P z c → All H H' → Rep K B H' v z → Q v H'
def rC1 (K : PySem.W.Frag) (f : D → W D) : List V → Hp → VK → Prop := fun xs H Q => ∃ x, xs = [x] ∧ rD1 K f x H Q
def rC2 (K : PySem.W.Frag) (f : D → D → W D) : List V → Hp → VK → Prop := fun xs H Q => ∃ x y, xs = [x, y] ∧ rD2 K f x y H Q
theorem ev_bnd {ta tb : TE} {ma mb : XE} {r : R2} {f : D → D → W D} (ok : p.Ok K X.mg) (hr : ∀ x y H Q, rD2 K f x y H Q → r x y H Q) (ha : EvR K p ta ma) (hb : EvR K p tb mb) :
    EvR K p (tOp r ta tb) (fun E => bnd (ma E) fun x => bnd (mb E) fun y => f x y) := by
  intro B H σ E c P Q s re m k
  refine ha B H σ E _ _ _ s re m fun d c1 v H1 m1 e1 s1 r1 => ?_
  have st1 := s.go e1 s1
  refine hb B H1 σ E _ _ _ st1 (re.go s e1) m1 fun d2 c2' v2 H2 m2 e2 s2 r2 => ?_
  have st2 := st1.go e2 s2
  refine hr _ _ _ _ ⟨_, d, d2, _, P, p.XP, st2.trk, r1.tr (st1.up e2), r2, m2, fun z v3 H3 pz a3 r3 => ?_⟩
  exact k z _ v3 H3 pz (e1.trans (e2.trans a3.ev)) (st2.all ok a3) r3
theorem ev_bnd1 {ta : TE} {ma : XE} {r : V → Hp → VK → Prop} {f : D → W D} (ok : p.Ok K X.mg) (hr : ∀ x H Q, rD1 K f x H Q → r x H Q) (ha : EvR K p ta ma) :
    EvR K p (tUn r ta) (fun E => bnd (ma E) f) := by
  intro B H σ E c P Q s re m k
  refine ha B H σ E _ _ _ s re m fun d c1 v H1 m1 e1 s1 r1 => ?_
  have st1 := s.go e1 s1
  exact hr _ _ _ ⟨_, d, _, P, p.XP, st1.trk, r1, m1, fun z v3 H3 pz a3 r3 => k z _ v3 H3 pz (e1.trans a3.ev) (st1.all ok a3) r3⟩
theorem lay_of {d : D} (h : SeqAt.shaped d = true) : PyData.canLay0 d = true := by
  unfold SeqAt.shaped at h
  exact (Bool.and_eq_true_iff.mp h).1
/-- fresh tuples, fresh lists -/
theorem rep_tup {B : Addr → Prop} {H : Hp} {q : Addr} {xs : List V} {ds : List D} (hq : H q = none) (r : Reps K B H xs ds) : Rep K B (upd H q (.tup xs)) (.ref q) (.tuple ds) :=
  .tup (SqT.of upd_same) (r.mono (All.new hq).ext)
theorem rep_lst {B : Addr → Prop} {H : Hp} {q : Addr} {xs : List V} {ds : List D} (hb : ∀ a, B a → H a ≠ none) (hq : H q = none) (r : Reps K B H xs ds) : Rep K B (upd H q (.lst xs)) (.ref q) (.list ds) :=
  .lst upd_same (fun z => hb q z hq) (r.mono (All.new hq).ext)
theorem small_line {n : Nat} (h : small n) : n ≤ sizeLine := Nat.le_trans h (by rw [sizeLine_eq]; decide)
theorem small_lt {n : Nat} (h : small n) : n < sizeLine := Nat.lt_of_le_of_lt h (by rw [sizeLine_eq]; decide)
theorem op_addD : OpR X (binaryOp .Add) (rD2 X.K opAdd) := by
  intro pins s σ H x y v u Q I rx ry h
  obtain ⟨_, d, e, c, P, Xp, hb, r1, r2, m, k⟩ := h
  cases r1 with
  | int i =>
    cases r2 with
    | int j => exact op_add pins s σ H _ _ v u Q I rx ry ⟨i, j, rfl, rfl, k _ _ H m All.refl (.int _)⟩
    | _ => exact m.elim
  | bl i =>
    cases r2 with
    | int j =>
      obtain ⟨tk, rfl⟩ := ry
      cases rx
      exact PySem.IntBool.add_bool_int ⟨.int (DL.b2i i + j), H, I.tok _, ⟨_, rfl⟩, k _ _ H m All.refl (.int _)⟩
    | _ => exact m.elim
  | str i =>
    cases r2 with
    | str j =>
      obtain ⟨hz, m⟩ := m
      exact op_add_str pins s σ H _ _ v u Q I rx ry ⟨i, j, rfl, rfl, small_line hz, k _ _ H m All.refl (.str _)⟩
    | _ => exact m.elim
  | tup q1 s1 =>
    cases r2 with
    | tup q2 s2 =>
      obtain ⟨hz, m⟩ := m
      have l1 := s1.length
      have l2 := s2.length
      refine op_catA pins s σ H _ _ v u Q I rx ry ⟨_, _, _, _, rfl, rfl, q1, q2, by rw [l1, l2]; exact small_line hz, fun z => ?_, fun n z => ?_, fun n n2 q hq => ?_⟩
      · subst z
        cases s1
        exact k _ _ H m All.refl (.tup q2 s2)
      · subst z
        cases s2
        rw [List.append_nil] at m
        exact k _ _ H m All.refl (.tup q1 s1)
      · exact k _ _ _ m (All.new hq) (rep_tup hq (s1.append s2))
    | _ => exact m.elim
  | lst q1 b1 s1 =>
    cases r2 with
    | lst q2 b2 s2 =>
      obtain ⟨hz, m⟩ := m
      have l1 := s1.length
      have l2 := s2.length
      exact op_cat pins s σ H _ _ v u Q I rx ry ⟨_, _, _, _, rfl, rfl, q1, q2, by rw [l1, l2]; exact small_line hz, fun q hq => k _ _ _ m (All.new hq) (rep_lst hb hq (s1.append s2))⟩
    | _ => exact m.elim
  | _ => exact m.elim
theorem op_subD : OpR X (binaryOp .Sub) (rD2 X.K opSub) := by
  intro pins s σ H x y v u Q I rx ry h
  obtain ⟨_, d, e, c, P, Xp, hb, r1, r2, m, k⟩ := h
  cases r1 with
  | int i =>
    cases r2 with
    | int j => exact op_sub pins s σ H _ _ v u Q I rx ry ⟨i, j, rfl, rfl, k _ _ H m All.refl (.int _)⟩
    | _ => exact m.elim
  | bl i =>
    cases r2 with
    | int j =>
      obtain ⟨tk, rfl⟩ := ry
      cases rx
      exact PySem.IntBool.sub_bool_int ⟨.int (DL.b2i i - j), H, I.tok _, ⟨_, rfl⟩, k _ _ H m All.refl (.int _)⟩
    | _ => exact m.elim
  | _ => exact m.elim
theorem op_mulD : OpR X (binaryOp .Mult) (rD2 X.K opMul) := by
  intro pins s σ H x y v u Q I rx ry h
  obtain ⟨_, d, e, c, P, Xp, hb, r1, r2, m, k⟩ := h
  cases r1 with
  | int i =>
    cases r2 with
    | int j => exact op_mul pins s σ H _ _ v u Q I rx ry ⟨i, j, rfl, rfl, m.1, k _ _ H m.2 All.refl (.int _)⟩
    | _ => exact m.elim
  | tup q1 s1 =>
    cases r2 with
    | int j =>
      obtain ⟨⟨h0, h1, h2, h3⟩, m⟩ := m
      have l1 := s1.length
      by_cases hj : j = 1
      · subst hj
        rw [rep_once] at m
        exact op_once I rx ry q1 (k _ _ H m All.refl (.tup q1 s1))
      by_cases hj0 : j = 0
      · subst hj0
        exact op_never I rx ry q1 (fun z => by subst z; cases s1; exact h0 rfl) (fun q hq => k _ _ _ m (All.new hq) (rep_tup hq .nil))
      refine op_repT pins s σ H _ _ v u Q I rx ry ⟨_, j, _, rfl, rfl, q1, fun z => ?_, by omega, h2, by rw [l1]; exact h3, fun q hq => k _ _ _ m (All.new hq) (rep_tup hq (s1.rep _))⟩
      subst z
      cases s1
      exact h0 rfl
    | _ => exact m.elim
  | lst q1 b1 s1 =>
    cases r2 with
    | int j =>
      obtain ⟨⟨h0, h1, h2⟩, m⟩ := m
      have l1 := s1.length
      have hj : j.toNat ≤ 1000 := by omega
      have hm : (_ : List V).length * j.toNat ≤ 1000 * 1000 := Nat.mul_le_mul (by rw [l1]; exact h2) hj
      exact op_rep pins s σ H _ _ v u Q I rx ry ⟨_, j, _, rfl, rfl, q1, by omega, by omega, Nat.le_trans hm (by rw [sizeLine_eq]; decide), fun q hq => k _ _ _ m (All.new hq) (rep_lst hb hq (s1.rep _))⟩
    | _ => exact m.elim
  | _ => exact m.elim
theorem op_fdivD : OpR X (binaryOp .FloorDiv) (rD2 X.K opFdiv) := by
  intro pins s σ H x y v u Q I rx ry h
  obtain ⟨_, d, e, c, P, Xp, hb, r1, r2, m, k⟩ := h
  cases r1 with
  | int i =>
    cases r2 with
    | int j => exact op_fdivW pins s σ H _ _ v u Q I rx ry ⟨i, j, rfl, rfl, ⟨m.1.1, (Nat.log2_lt (by have := m.1.1; omega)).mpr (Nat.lt_of_lt_of_le (show j.natAbs < 2 ^ 63 by have := m.1.2; have := m.1.1; omega) (Nat.pow_le_pow_right (by decide) (by decide)))⟩, k _ _ H m.2 All.refl (.int _)⟩
    | _ => exact m.elim
  | _ => exact m.elim
theorem op_modD : OpR X (binaryOp .Mod) (rD2 X.K opMod) := by
  intro pins s σ H x y v u Q I rx ry h
  obtain ⟨_, d, e, c, P, Xp, hb, r1, r2, m, k⟩ := h
  cases r1 with
  | int i =>
    cases r2 with
    | int j => exact op_mod pins s σ H _ _ v u Q I rx ry ⟨i, j, rfl, rfl, m.1, k _ _ H m.2 All.refl (.int _)⟩
    | _ => exact m.elim
  | _ => exact m.elim
theorem op_powD : OpR X (binaryOp .Pow) (rD2 X.K opPow) := by
  intro pins s σ H x y v u Q I rx ry h
  obtain ⟨_, d, e, c, P, Xp, hb, r1, r2, m, k⟩ := h
  cases r1 with
  | int i =>
    cases r2 with
    | int j => exact op_pow pins s σ H _ _ v u Q I rx ry ⟨i, j, rfl, rfl, ⟨m.1.1, Int.le_trans m.1.2.1 (by decide), m.1.2.2⟩, k _ _ H m.2 All.refl (.int _)⟩
    | _ => exact m.elim
  | _ => exact m.elim
theorem op_shlD : OpR X (binaryOp .LShift) (rD2 X.K opShl) := by
  intro pins s σ H x y v u Q I rx ry h
  obtain ⟨_, d, e, c, P, Xp, hb, r1, r2, m, k⟩ := h
  cases r1 with
  | int i =>
    cases r2 with
    | int j => exact op_shl pins s σ H _ _ v u Q I rx ry ⟨i, j, rfl, rfl, ⟨m.1.1, Int.le_trans m.1.2.1 (by decide), m.1.2.2⟩, k _ _ H m.2 All.refl (.int _)⟩
    | _ => exact m.elim
  | _ => exact m.elim
def opS : Op → Operator
  | .add => .Add
  | .sub => .Sub
  | .mul => .Mult
  | .fdiv => .FloorDiv
  | .mod => .Mod
  | .pow => .Pow
  | .shl => .LShift
theorem op_binD : ∀ o : Op, OpR X (binaryOp (opS o)) (rD2 X.K (opBin o))
  | .add => op_addD
  | .sub => op_subD
  | .mul => op_mulD
  | .fdiv => op_fdivD
  | .mod => op_modD
  | .pow => op_powD
  | .shl => op_shlD
theorem pd_bin {cb vb : Bool} (S : SitB cb vb X p k) (o : Op) {a b : Expr} {ma mb : XE} {pos : Pos} (ha : PD X p a ma) (hb : PD X p b mb) : PD X p (.BinOp a (opS o) b pos) (eBin o ma mb) := by
  obtain ⟨ta, a1, a2⟩ := ha.ex
  obtain ⟨tb, b1, b2⟩ := hb.ex
  exact ⟨_, pe_op (op_binD o) a1 b1, ev_bnd S.ok (fun _ _ _ _ h => h) a2 b2⟩
theorem un_negD : UnR X (unaryOp .USub) (rD1 X.K opNeg) := by
  intro pins s σ H x v Q I rx h
  obtain ⟨_, d, c, P, Xp, hb, r1, m, k⟩ := h
  cases r1 with
  | int i => exact un_neg pins s σ H _ v Q I rx ⟨i, rfl, k _ _ H m All.refl (.int _)⟩
  | _ => exact m.elim
theorem pd_neg {cb vb : Bool} (S : SitB cb vb X p k) {a : Expr} {ma : XE} {pos : Pos} (ha : PD X p a ma) : PD X p (.UnaryOp .USub a pos) (eNeg ma) := by
  obtain ⟨ta, a1, a2⟩ := ha.ex
  exact ⟨_, pe_un un_negD a1, ev_bnd1 S.ok (fun _ _ _ h => h) a2⟩
def cmpD (o : Cmp) (x y : D) : W D := bnd (opCmp o x y) fun c => ret (.bool c)
def cmpS : Cmp → CmpOp
  | .eq => .Eq
  | .ne => .NotEq
  | .lt => .Lt
  | .le => .LtE
  | .gt => .Gt
  | .ge => .GtE
  | .isN => .Is
  | .notN => .IsNot
theorem rep_non {B : Addr → Prop} {H : Hp} {v : V} {d : D} (r : Rep K B H v d) : decide (v = .non) = isNone d := by
  cases r <;> rfl
theorem nil_sizes {B : Addr → Prop} {pins : List (Addr × Obj)} {σ : L2.St} {H : Hp} {s : Shared} {x y : V} {v u : Value} {ds : List D} (I : Inv X pins σ H s) (rx : RelV x v) (ry : RelV y u) (r1 : Rep X.K B H x (.list ds)) (r2 : Rep X.K B H y (.list [])) :
    ∃ a b its its2, v = .ref a ∧ u = .ref b ∧ s.heap.IsList a its ∧ s.heap.IsList b its2 ∧ its.size = ds.length ∧ its2.size = 0 := by
  cases r1 with
  | lst e1 n1 q1 =>
    cases r2 with
    | lst e2 n2 q2 =>
      obtain ⟨its, v1, p1, _⟩ := I.list (.inl (.inl e1))
      obtain ⟨its2, v2, p2, _⟩ := I.list (.inl (.inl e2))
      refine ⟨_, _, its.toArray, its2.toArray, rx, ry, p1.isList, p2.isList, ?_, ?_⟩
      · rw [List.size_toArray, ← v1.length, q1.length]
      · rw [List.size_toArray, ← v2.length, q2.length]
        rfl
theorem eq_nilA {B : Addr → Prop} {pins : List (Addr × Obj)} {σ : L2.St} {H : Hp} {s : Shared} {x y : V} {v u : Value} {ds : List D} {Q : VK} (I : Inv X pins σ H s) (rx : RelV x v) (ry : RelV y u) (r1 : Rep X.K B H x (.list ds)) (r2 : Rep X.K B H y (.list [])) (hu : X.A.units < cLine)
    (q : Q (.bl (PyData.eqv (.list ds) (.list []))) H) : wpAny (model X.prog X.w) X.A (compareOp .Eq v u) (EP X pins σ Q) X.xe s := by
  obtain ⟨a, b, its, its2, rfl, rfl, i1, i2, z1, z2⟩ := nil_sizes I rx ry r1 r2
  cases ds with
  | nil => exact SeqAt.RcAt.lists (e := fun _ => true) i1 i2 (by rw [z1, z2]; rfl) hu (fun j h1 _ => absurd h1 (by rw [z1]; exact Nat.not_lt_zero j)) _ _ _ _ ⟨.bl true, H, I, by rw [z1]; rfl, q⟩
  | cons d ds => exact SeqAt.RcAt.lists_lengths i1 i2 (by rw [z1, z2]; rfl) hu _ _ _ _ ⟨.bl false, H, I, rfl, q⟩
theorem ne_nilA {B : Addr → Prop} {pins : List (Addr × Obj)} {σ : L2.St} {H : Hp} {s : Shared} {x y : V} {v u : Value} {ds : List D} {Q : VK} (I : Inv X pins σ H s) (rx : RelV x v) (ry : RelV y u) (r1 : Rep X.K B H x (.list ds)) (r2 : Rep X.K B H y (.list [])) (hu : X.A.units < cLine)
    (q : Q (.bl (!PyData.eqv (.list ds) (.list []))) H) : wpAny (model X.prog X.w) X.A (compareOp .NotEq v u) (EP X pins σ Q) X.xe s := by
  obtain ⟨a, b, its, its2, rfl, rfl, i1, i2, z1, z2⟩ := nil_sizes I rx ry r1 r2
  cases ds with
  | nil => exact SeqAt.RcNeAt.lists (e := fun _ => true) i1 i2 (by rw [z1, z2]; rfl) hu (fun j h1 _ => absurd h1 (by rw [z1]; exact Nat.not_lt_zero j)) _ _ _ _ ⟨.bl false, H, I, by rw [z1]; rfl, q⟩
  | cons d ds => exact SeqAt.RcNeAt.lists_lengths i1 i2 (by rw [z1, z2]; rfl) hu _ _ _ _ ⟨.bl true, H, I, rfl, q⟩
theorem nilT_sizes {B : Addr → Prop} {pins : List (Addr × Obj)} {σ : L2.St} {H : Hp} {s : Shared} {x y : V} {v u : Value} {ds : List D} (I : Inv X pins σ H s) (rx : RelV x v) (ry : RelV y u) (r1 : Rep X.K B H x (.tuple ds)) (r2 : Rep X.K B H y (.tuple [])) :
    ∃ a b its its2, v = .ref a ∧ u = .ref b ∧ IsTup s.heap a its ∧ IsTup s.heap b its2 ∧ its.size = ds.length ∧ its2.size = 0 := by
  cases r1 with
  | tup e1 q1 =>
    cases r2 with
    | tup e2 q2 =>
      obtain ⟨its, v1, p1, _⟩ := I.tuple e1
      obtain ⟨its2, v2, p2, _⟩ := I.tuple e2
      refine ⟨_, _, its.toArray, its2.toArray, rx, ry, p1, p2, ?_, ?_⟩
      · rw [List.size_toArray, ← v1.length, q1.length]
      · rw [List.size_toArray, ← v2.length, q2.length]
        rfl
theorem eqv_nilT (ds : List D) : PyData.eqv (.tuple ds) (.tuple []) = (ds.length == 0) := by
  cases ds <;> rfl
theorem eq_nilTA {B : Addr → Prop} {pins : List (Addr × Obj)} {σ : L2.St} {H : Hp} {s : Shared} {x y : V} {v u : Value} {ds : List D} {Q : VK} (I : Inv X pins σ H s) (rx : RelV x v) (ry : RelV y u) (r1 : Rep X.K B H x (.tuple ds)) (r2 : Rep X.K B H y (.tuple [])) (hu : X.A.units < cLine)
    (q : Q (.bl (PyData.eqv (.tuple ds) (.tuple []))) H) : wpAny (model X.prog X.w) X.A (compareOp .Eq v u) (EP X pins σ Q) X.xe s := by
  obtain ⟨a, b, its, its2, rfl, rfl, i1, i2, z1, z2⟩ := nilT_sizes I rx ry r1 r2
  refine SeqAt.RcAt.tuples (e := fun _ => true) i1 i2 hu (fun j _ h2 => absurd h2 (by rw [z2]; exact Nat.not_lt_zero j)) _ _ _ _ ⟨_, H, I, ?_, q⟩
  rw [eqv_nilT, z1, z2]
  simp
  rfl
theorem ne_nilTA {B : Addr → Prop} {pins : List (Addr × Obj)} {σ : L2.St} {H : Hp} {s : Shared} {x y : V} {v u : Value} {ds : List D} {Q : VK} (I : Inv X pins σ H s) (rx : RelV x v) (ry : RelV y u) (r1 : Rep X.K B H x (.tuple ds)) (r2 : Rep X.K B H y (.tuple [])) (hu : X.A.units < cLine)
    (q : Q (.bl (!PyData.eqv (.tuple ds) (.tuple []))) H) : wpAny (model X.prog X.w) X.A (compareOp .NotEq v u) (EP X pins σ Q) X.xe s := by
  obtain ⟨a, b, its, its2, rfl, rfl, i1, i2, z1, z2⟩ := nilT_sizes I rx ry r1 r2
  refine SeqAt.RcNeAt.tuples (e := fun _ => true) i1 i2 hu (fun j _ h2 => absurd h2 (by rw [z2]; exact Nat.not_lt_zero j)) _ _ _ _ ⟨_, H, I, ?_, q⟩
  rw [eqv_nilT, z1, z2]
  simp
  rfl
theorem eq_vsNil {B : Addr → Prop} {pins : List (Addr × Obj)} {σ : L2.St} {H : Hp} {s : Shared} {x y : V} {v u : Value} {d e : D} {Q : VK} (I : Inv X pins σ H s) (rx : RelV x v) (ry : RelV y u) (r1 : Rep X.K B H x d) (r2 : Rep X.K B H y e) (hu : X.A.units < cLine) (hv : vsNil d e = true)
    (q : Q (.bl (PyData.eqv d e)) H) : wpAny (model X.prog X.w) X.A (compareOp .Eq v u) (EP X pins σ Q) X.xe s := by
  unfold vsNil at hv
  split at hv
  · cases r1 with
    | lst e1 n1 q1 =>
      cases r2 with
      | tup e2 q2 =>
        obtain ⟨its, v1, p1, _⟩ := I.list (.inl (.inl e1))
        obtain ⟨its2, v2, p2, _⟩ := I.tuple e2
        cases (show v = _ from rx)
        cases (show u = _ from ry)
        exact SeqAt.RcAt.list_tuple p1.isList p2 hu _ _ _ _ ⟨.bl false, H, I, rfl, q⟩
  · cases r1 with
    | dct0 e1 n1 =>
      cases r2 with
      | tup e2 q2 =>
        obtain ⟨_, sm, vs, kv, o, es, ep, ho, ex, hd, _, pr, _⟩ := dk_of I.hok e1
        obtain ⟨its2, v2, p2, _⟩ := I.tuple e2
        cases (show v = _ from rx)
        cases (show u = _ from ry)
        exact rc_dict_tuple ho ex.1 p2 hu _ _ _ _ ⟨.bl false, H, I, rfl, q⟩
  · cases r1 with
    | dct1 e1 n1 q1 =>
      cases r2 with
      | tup e2 q2 =>
        obtain ⟨_, sm, vs, kv, o, es, ep, ho, ex, hd, _, pr, _⟩ := dk_of I.hok e1
        obtain ⟨its2, v2, p2, _⟩ := I.tuple e2
        cases (show v = _ from rx)
        cases (show u = _ from ry)
        exact rc_dict_tuple ho ex.1 p2 hu _ _ _ _ ⟨.bl false, H, I, rfl, q⟩
  · cases hv
theorem ne_vsNil {B : Addr → Prop} {pins : List (Addr × Obj)} {σ : L2.St} {H : Hp} {s : Shared} {x y : V} {v u : Value} {d e : D} {Q : VK} (I : Inv X pins σ H s) (rx : RelV x v) (ry : RelV y u) (r1 : Rep X.K B H x d) (r2 : Rep X.K B H y e) (hu : X.A.units < cLine) (hv : vsNil d e = true)
    (q : Q (.bl (!PyData.eqv d e)) H) : wpAny (model X.prog X.w) X.A (compareOp .NotEq v u) (EP X pins σ Q) X.xe s := by
  unfold vsNil at hv
  split at hv
  · cases r1 with
    | lst e1 n1 q1 =>
      cases r2 with
      | tup e2 q2 =>
        obtain ⟨its, v1, p1, _⟩ := I.list (.inl (.inl e1))
        obtain ⟨its2, v2, p2, _⟩ := I.tuple e2
        cases (show v = _ from rx)
        cases (show u = _ from ry)
        exact SeqAt.RcNeAt.list_tuple p1.isList p2 hu _ _ _ _ ⟨.bl true, H, I, rfl, q⟩
  · cases r1 with
    | dct0 e1 n1 =>
      cases r2 with
      | tup e2 q2 =>
        obtain ⟨_, sm, vs, kv, o, es, ep, ho, ex, hd, _, pr, _⟩ := dk_of I.hok e1
        obtain ⟨its2, v2, p2, _⟩ := I.tuple e2
        cases (show v = _ from rx)
        cases (show u = _ from ry)
        exact rc_dict_tuple_ne ho ex.1 p2 hu _ _ _ _ ⟨.bl true, H, I, rfl, q⟩
  · cases r1 with
    | dct1 e1 n1 q1 =>
      cases r2 with
      | tup e2 q2 =>
        obtain ⟨_, sm, vs, kv, o, es, ep, ho, ex, hd, _, pr, _⟩ := dk_of I.hok e1
        obtain ⟨its2, v2, p2, _⟩ := I.tuple e2
        cases (show v = _ from rx)
        cases (show u = _ from ry)
        exact rc_dict_tuple_ne ho ex.1 p2 hu _ _ _ _ ⟨.bl true, H, I, rfl, q⟩
  · cases hv
theorem op_cmpD (hu : X.A.units + 64 < cLine) : ∀ o : Cmp, OpR X (compareOp (cmpS o)) (rD2 X.K (cmpD o))
  | .eq => by
    intro pins s σ H x y v u Q I rx ry h
    obtain ⟨_, d, e, c, P, Xp, hb, r1, r2, ⟨hok, m⟩, k⟩ := h
    by_cases hs : ∃ a b, d = .str a ∧ e = .str b
    · obtain ⟨a, b, rfl, rfl⟩ := hs
      cases r1
      cases r2
      have es : decide (V.str a = V.str b) = (a == b) := by
        rw [Bool.eq_iff_iff]
        simp
      refine op_eq pins s σ H _ _ v u Q I rx ry ⟨rfl, ?_⟩
      rw [es]
      exact k _ _ H m All.refl (.bl _)
    · by_cases hz : ∃ ds, d = .list ds ∧ e = .list []
      · obtain ⟨ds, rfl, rfl⟩ := hz
        exact eq_nilA I rx ry r1 r2 (by omega) (k _ _ H m All.refl (.bl _))
      by_cases hy : ∃ ds, d = .tuple ds ∧ e = .tuple []
      · obtain ⟨ds, rfl, rfl⟩ := hy
        exact eq_nilTA I rx ry r1 r2 (by omega) (k _ _ H m All.refl (.bl _))
      have hh : vsNil d e = true ∨ (SeqAt.shaped d = true ∧ SeqAt.shaped e = true) := by
        unfold eqOk at hok
        split at hok
        · exact absurd ⟨_, _, rfl, rfl⟩ hs
        · exact absurd ⟨_, rfl, rfl⟩ hz
        · exact absurd ⟨_, rfl, rfl⟩ hy
        · exact hok
      rcases hh with hh | hh
      · exact eq_vsNil I rx ry r1 r2 (by omega) hh (k _ _ H m All.refl (.bl _))
      exact op_eqD hu pins s σ H _ _ v u Q I rx ry ⟨d, e, r1.dp (lay_of hh.1), r2.dp (lay_of hh.2), hh.1, hh.2, k _ _ H m All.refl (.bl _)⟩
  | .ne => by
    intro pins s σ H x y v u Q I rx ry h
    obtain ⟨_, d, e, c, P, Xp, hb, r1, r2, ⟨hok, m⟩, k⟩ := h
    by_cases hs : ∃ a b, d = .str a ∧ e = .str b
    · obtain ⟨a, b, rfl, rfl⟩ := hs
      cases r1
      cases r2
      have es : decide (V.str a = V.str b) = (a == b) := by
        rw [Bool.eq_iff_iff]
        simp
      refine op_ne pins s σ H _ _ v u Q I rx ry ⟨rfl, ?_⟩
      rw [es]
      exact k _ _ H m All.refl (.bl _)
    · by_cases hz : ∃ ds, d = .list ds ∧ e = .list []
      · obtain ⟨ds, rfl, rfl⟩ := hz
        exact ne_nilA I rx ry r1 r2 (by omega) (k _ _ H m All.refl (.bl _))
      by_cases hy : ∃ ds, d = .tuple ds ∧ e = .tuple []
      · obtain ⟨ds, rfl, rfl⟩ := hy
        exact ne_nilTA I rx ry r1 r2 (by omega) (k _ _ H m All.refl (.bl _))
      have hh : vsNil d e = true ∨ (SeqAt.shaped d = true ∧ SeqAt.shaped e = true) := by
        unfold eqOk at hok
        split at hok
        · exact absurd ⟨_, _, rfl, rfl⟩ hs
        · exact absurd ⟨_, rfl, rfl⟩ hz
        · exact absurd ⟨_, rfl, rfl⟩ hy
        · exact hok
      rcases hh with hh | hh
      · exact ne_vsNil I rx ry r1 r2 (by omega) hh (k _ _ H m All.refl (.bl _))
      exact op_neD hu pins s σ H _ _ v u Q I rx ry ⟨d, e, r1.dp (lay_of hh.1), r2.dp (lay_of hh.2), hh.1, hh.2, k _ _ H m All.refl (.bl _)⟩
  | .lt => by
    intro pins s σ H x y v u Q I rx ry h
    obtain ⟨_, d, e, c, P, Xp, hb, r1, r2, m, k⟩ := h
    cases r1 with
    | int i =>
      cases r2 with
      | int j => exact op_lt pins s σ H _ _ v u Q I rx ry ⟨i, j, rfl, rfl, k _ _ H m All.refl (.bl _)⟩
      | _ => exact m.elim
    | _ => exact m.elim
  | .le => by
    intro pins s σ H x y v u Q I rx ry h
    obtain ⟨_, d, e, c, P, Xp, hb, r1, r2, m, k⟩ := h
    cases r1 with
    | int i =>
      cases r2 with
      | int j => exact op_le pins s σ H _ _ v u Q I rx ry ⟨i, j, rfl, rfl, k _ _ H m All.refl (.bl _)⟩
      | _ => exact m.elim
    | _ => exact m.elim
  | .gt => by
    intro pins s σ H x y v u Q I rx ry h
    obtain ⟨_, d, e, c, P, Xp, hb, r1, r2, m, k⟩ := h
    cases r1 with
    | int i =>
      cases r2 with
      | int j => exact op_gt pins s σ H _ _ v u Q I rx ry ⟨i, j, rfl, rfl, k _ _ H m All.refl (.bl _)⟩
      | _ => exact m.elim
    | _ => cases r2 <;> exact m.elim
  | .ge => by
    intro pins s σ H x y v u Q I rx ry h
    obtain ⟨_, d, e, c, P, Xp, hb, r1, r2, m, k⟩ := h
    cases r1 with
    | int i =>
      cases r2 with
      | int j => exact op_ge pins s σ H _ _ v u Q I rx ry ⟨i, j, rfl, rfl, k _ _ H m All.refl (.bl _)⟩
      | _ => exact m.elim
    | _ => cases r2 <;> exact m.elim
  | .isN => by
    intro pins s σ H x y v u Q I rx ry h
    obtain ⟨_, d, e, c, P, Xp, hb, r1, r2, ⟨h1, m⟩, k⟩ := h
    by_cases hb2 : ∃ a b, d = .bool a ∧ e = .bool b
    · obtain ⟨a, b, rfl, rfl⟩ := hb2
      cases r1
      cases r2
      exact op_isBl pins s σ H _ _ v u Q I rx ry ⟨_, _, rfl, rfl, k _ _ H m All.refl (.bl _)⟩
    have h1 : e = .none := by
      unfold isOpOk at h1
      split at h1
      · exact absurd ⟨_, _, rfl, rfl⟩ hb2
      · exact h1
    subst h1
    cases r2
    refine op_isN pins s σ H _ _ v u Q I rx ry ⟨rfl, ?_⟩
    rw [rep_non r1, ← isOpV_none d]
    exact k _ _ H m All.refl (.bl _)
  | .notN => by
    intro pins s σ H x y v u Q I rx ry h
    obtain ⟨_, d, e, c, P, Xp, hb, r1, r2, ⟨h1, m⟩, k⟩ := h
    by_cases hb2 : ∃ a b, d = .bool a ∧ e = .bool b
    · obtain ⟨a, b, rfl, rfl⟩ := hb2
      cases r1
      cases r2
      exact op_notBl pins s σ H _ _ v u Q I rx ry ⟨_, _, rfl, rfl, k _ _ H m All.refl (.bl _)⟩
    have h1 : e = .none := by
      unfold isOpOk at h1
      split at h1
      · exact absurd ⟨_, _, rfl, rfl⟩ hb2
      · exact h1
    subst h1
    cases r2
    refine op_notN pins s σ H _ _ v u Q I rx ry ⟨rfl, ?_⟩
    rw [rep_non r1, ← isOpV_none d]
    exact k _ _ H m All.refl (.bl _)
theorem SitB.un {cb vb : Bool} (S : SitB cb vb X p k) : X.A.units + 64 < cLine := S.rm.units
theorem cmpS_mark (o : Cmp) (b : Expr) : behindInMarks (cmpS o) b = false := by cases o <;> exact nomark b
theorem pd_cmp {cb vb : Bool} (S : SitB cb vb X p k) (o : Cmp) {a b : Expr} {ma mb : XE} {pos : Pos} (ha : PD X p a ma) (hb : PD X p b mb) : PD X p (.Compare a [cmpS o] [b] pos) (eCmp o ma mb) := by
  obtain ⟨ta, a1, a2⟩ := ha.ex
  obtain ⟨tb, b1, b2⟩ := hb.ex
  exact ⟨_, pe_cmpR (op_cmpD S.un o) a1 b1 (cmpS_mark o b), ev_bnd S.ok (f := cmpD o) (fun _ _ _ _ h => h) a2 b2⟩
/-- a test from a value that is a bool -/
theorem et_bool {te : TE} {m : XE} (h : EvR K p te m) : EvT K p (tTest te) (fun E => bnd (m E) fun d => match d with | .bool b => ret b | _ => stuck) := by
  intro B H σ E c P Q s re mm k
  refine h B H σ E _ _ _ s re mm fun d c1 v H1 m1 e1 s1 r1 => ?_
  cases r1 with
  | bl b => exact ⟨b, rfl, k b _ H1 m1 e1 s1⟩
  | _ => exact m1.elim
def tBool (a : XE) : XT := fun E => bnd (a E) fun d => match d with | .bool b => ret b | _ => stuck
theorem pt_cmpD {cb vb : Bool} (S : SitB cb vb X p k) (o : Cmp) {a b : Expr} {ma mb : XE} {pos : Pos} (ha : PD X p a ma) (hb : PD X p b mb) : PDT X p (.Compare a [cmpS o] [b] pos) (tBool (eCmp o ma mb)) := by
  obtain ⟨ta, a1, a2⟩ := ha.ex
  obtain ⟨tb, b1, b2⟩ := hb.ex
  exact ⟨_, pt_cmpR (op_cmpD S.un o) a1 b1 (cmpS_mark o b), et_bool (m := eCmp o ma mb) (ev_bnd S.ok (f := cmpD o) (fun _ _ _ _ h => h) a2 b2)⟩
end
end DL
end
section
namespace DL
open PySem PySem.Spec PyProof.Rows L2
section
variable {X : Cx} {p : Par} {k : Nat} {K : PySem.W.Frag}
theorem isEmpty_reps {B : Addr → Prop} {H : Hp} {vs : List V} {ds : List D} (r : Reps K B H vs ds) : (!vs.isEmpty) = !ds.isEmpty := by
  cases r <;> rfl
theorem tru_of {B : Addr → Prop} {H : Hp} {v : V} {d : D} {n : Sx} {P : Bool → Sx → Prop} {Xp : Exn → Sx → Prop} (r : Rep K B H v d) (m : tru d n P Xp) : ∃ c, TruV K v H c ∧ P c n := by
  cases r with
  | non => exact ⟨false, rfl, m⟩
  | bl b => exact ⟨b, rfl, m⟩
  | int i => exact ⟨_, rfl, m⟩
  | str x => exact ⟨_, ⟨small_line m.1, rfl⟩, m.2⟩
  | lst e n s => exact ⟨_, Or.inl ⟨_, SqL.of e, rfl⟩, by rw [isEmpty_reps s]; exact m⟩
  | tup e s => exact ⟨_, Or.inr (Or.inl ⟨_, e, rfl⟩), by rw [isEmpty_reps s]; exact m⟩
  | _ => exact (show False from m).elim
theorem pt_tru {a : Expr} {ma : XE} (ha : PD X p a ma) (he : ∀ whole, isTrue a X.env whole = (do let v ← whole; standAt a.pos; holding [v] (truthy v)) := by intro _; rfl) : PDT X p a (tTru ma) := by
  obtain ⟨ta, a1, a2⟩ := ha.ex
  refine ⟨_, pt_truth a1 he, fun B H σ E c P Q s re m k => ?_⟩
  refine a2 B H σ E _ _ _ s re m fun d c1 v H1 m1 e1 s1 r1 => ?_
  obtain ⟨c, h1, h2⟩ := tru_of r1 m1
  exact ⟨c, h1, k c _ H1 h2 e1 s1⟩
theorem pt_notD {a : Expr} {t : XT} {pos : Pos} (ha : PDT X p a t) : PDT X p (.UnaryOp .Not a pos) (tNot t) := by
  obtain ⟨ta, a1, a2⟩ := ha.ex
  exact ⟨_, pt_not a1, fun B H σ E c P Q s re m k => a2 B H σ E _ _ _ s re m fun b c1 H1 m1 e1 s1 => k _ _ H1 m1 e1 s1⟩
theorem et_and {t u : TT} {mt mu : XT} (h1 : EvT K p t mt) (h2 : EvT K p u mu) : EvT K p (L2.tAnd t u) (tAnd mt mu) := by
  intro B H σ E c P Q s re m k
  refine h1 B H σ E _ _ _ s re m fun b c1 H1 m1 e1 s1 => ?_
  cases b with
  | true => exact h2 B H1 σ E _ _ _ (s.go e1 s1) (re.go s e1) m1 fun b2 c2' H2 m2 e2 s2 => k b2 _ H2 m2 (e1.trans e2) s2
  | false => exact k false _ H1 m1 e1 s1
theorem et_or {t u : TT} {mt mu : XT} (h1 : EvT K p t mt) (h2 : EvT K p u mu) : EvT K p (L2.tOr t u) (tOr mt mu) := by
  intro B H σ E c P Q s re m k
  refine h1 B H σ E _ _ _ s re m fun b c1 H1 m1 e1 s1 => ?_
  cases b with
  | false => exact h2 B H1 σ E _ _ _ (s.go e1 s1) (re.go s e1) m1 fun b2 c2' H2 m2 e2 s2 => k b2 _ H2 m2 (e1.trans e2) s2
  | true => exact k true _ H1 m1 e1 s1
theorem pw_and1D {a : Expr} {t : XT} {pos : Pos} (ha : PDT X p a t) : PDW X p (.BoolOp .And [a] pos) t := by
  obtain ⟨ta, a1, a2⟩ := ha.ex
  exact ⟨_, pw_and1 a1, a2⟩
theorem pw_or1D {a : Expr} {t : XT} {pos : Pos} (ha : PDT X p a t) : PDW X p (.BoolOp .Or [a] pos) t := by
  obtain ⟨ta, a1, a2⟩ := ha.ex
  exact ⟨_, pw_or1 a1, a2⟩
theorem pw_andD {a b : Expr} {rest : List Expr} {t u : XT} {pos : Pos} (ha : PDT X p a t) (hb : PDW X p (.BoolOp .And (b :: rest) pos) u) : PDW X p (.BoolOp .And (a :: b :: rest) pos) (tAnd t u) := by
  obtain ⟨ta, a1, a2⟩ := ha.ex
  obtain ⟨tb, b1, b2⟩ := hb.ex
  exact ⟨_, pw_and a1 b1, et_and a2 b2⟩
theorem pw_orD {a b : Expr} {rest : List Expr} {t u : XT} {pos : Pos} (ha : PDT X p a t) (hb : PDW X p (.BoolOp .Or (b :: rest) pos) u) : PDW X p (.BoolOp .Or (a :: b :: rest) pos) (tOr t u) := by
  obtain ⟨ta, a1, a2⟩ := ha.ex
  obtain ⟨tb, b1, b2⟩ := hb.ex
  exact ⟨_, pw_or a1 b1, et_or a2 b2⟩
theorem PDW.pt {e : Expr} {t : XT} (h : PDW X p e t) : PDT X p e t := by
  obtain ⟨ta, a1, a2⟩ := h.ex
  exact ⟨_, a1.pt, a2⟩
theorem pd_if {c a b : Expr} {t : XT} {ma mb : XE} {pos : Pos} (hc : PDT X p c t) (ha : PD X p a ma) (hb : PD X p b mb) : PD X p (.IfExp c a b pos) (eIf t ma mb) := by
  obtain ⟨tc, c1, c2⟩ := hc.ex
  obtain ⟨ta, a1, a2⟩ := ha.ex
  obtain ⟨tb, b1, b2⟩ := hb.ex
  refine ⟨_, pe_ifExp c1 a1 b1, fun B H σ E c P Q s re m k => ?_⟩
  refine c2 B H σ E _ _ _ s re m fun b c1 H1 m1 e1 s1 => ?_
  cases b with
  | true => exact a2 B H1 σ E _ _ _ (s.go e1 s1) (re.go s e1) m1 fun d2 c2' v2 H2 m2 e2 s2 r2 => k d2 _ v2 H2 m2 (e1.trans e2) s2 r2
  | false => exact b2 B H1 σ E _ _ _ (s.go e1 s1) (re.go s e1) m1 fun d2 c2' v2 H2 m2 e2 s2 r2 => k d2 _ v2 H2 m2 (e1.trans e2) s2 r2
theorem pda_nil : PDA X p [] aNil := ⟨_, pa_nil, fun B H σ E c P Q s re m k => k [] _ [] H m Ev.refl s.si .nil⟩
theorem pda_cons {e : Expr} {es : List Expr} {m : XE} {r : XA} (he : PD X p e m) (hr : PDA X p es r) (hs : starEach (e :: es) X.env = (false, eval e X.env) :: starEach es X.env := by rfl) : PDA X p (e :: es) (aCons m r) := by
  obtain ⟨ta, a1, a2⟩ := he.ex
  obtain ⟨tb, b1, b2⟩ := hr.ex
  refine ⟨_, pa_cons a1 b1 hs, fun B H σ E c P Q s re m k => ?_⟩
  refine a2 B H σ E _ _ _ s re m fun d c1 v H1 m1 e1 s1 r1 => ?_
  refine b2 B H1 σ E _ _ _ (s.go e1 s1) (re.go s e1) m1 fun ds c2' vs H2 m2 e2 s2 r2 => ?_
  exact k _ _ _ H2 m2 (e1.trans e2) s2 (.cons (r1.tr ((s.go e1 s1).up e2)) r2)
theorem pd_tup {cb : Bool} {vb : Bool} (S : SitB cb vb X p k) {es : List Expr} {x1} {pos : Pos} {m : XA} (h : PDA X p es m) : PD X p (.Tuple es x1 pos) (eTup m) := by
  obtain ⟨ta, a1, a2⟩ := h.ex
  refine ⟨_, pe_tup a1, fun B H σ E c P Q s re m k => ?_⟩
  refine a2 B H σ E _ _ _ s re m fun ds c1 vs H1 m1 e1 s1 r1 => ?_
  have st1 := s.go e1 s1
  refine ⟨by rw [r1.length]; exact small_line m1.1, fun q hq => ?_⟩
  exact k _ _ _ _ m1.2 (e1.trans (All.new hq).ev) (st1.all S.ok (All.new hq)) (rep_tup hq r1)
theorem pd_lst {cb : Bool} {vb : Bool} (S : SitB cb vb X p k) {es : List Expr} {pos : Pos} {m : XA} (h : PDA X p es m) : PD X p (.List es pos) (eLst m) := by
  obtain ⟨ta, a1, a2⟩ := h.ex
  refine ⟨_, pe_lst a1, fun B H σ E c P Q s re m k => ?_⟩
  refine a2 B H σ E _ _ _ s re m fun ds c1 vs H1 m1 e1 s1 r1 => ?_
  have st1 := s.go e1 s1
  refine ⟨by rw [r1.length]; exact small_line m1.1, fun q hq => ?_⟩
  exact k _ _ _ _ m1.2 (e1.trans (All.new hq).ev) (st1.all S.ok (All.new hq)) (rep_lst st1.trk hq r1)
theorem pd_call1 {cb : Bool} {vb : Bool} (S : SitB cb vb X p k) {x : Str} {id : String} {f : D → W D} {a : Expr} {m : XE} {pn pos : Pos} (hc : CallR X (.builtin id) (rC1 X.K f)) (hm : X.mg x = none) (ha : PD X p a m) (hg : Gl X x := by rfl) (hv : bootBuiltins x = some (.builtin id) := by decide +kernel)
    (hn : x ≠ "__name__" := by decide) (hdb : (x == ("__debug__" : Str)) = false := by decide) (hs : starEach [a] X.env = (false, eval a X.env) :: starEach [] X.env := by rfl) : PD X p (.Call (.Name x pn) [a] [] pos) (fun E => bnd (m E) f) := by
  obtain ⟨ta, a1, a2⟩ := ha.ex
  refine ⟨_, pe_callB hc hg hm hv (pa_cons a1 pa_nil hs) hn hdb hs (by rfl), fun B H σ E c P Q s re m k => ?_⟩
  refine a2 B H σ E _ _ _ s re m fun d c1 v H1 m1 e1 s1 r1 => ?_
  have st1 := s.go e1 s1
  exact ⟨v, rfl, _, d, _, P, p.XP, st1.trk, r1, m1, fun z v3 H3 pz a3 r3 => k z _ v3 H3 pz (e1.trans a3.ev) (st1.all S.ok a3) r3⟩
theorem pd_callT1 {cb : Bool} {vb : Bool} (S : SitB cb vb X p k) {x : Str} {id : String} {f : D → W D} {a : Expr} {m : XE} {pn pos : Pos} (hc : CallR X (.type id) (rC1 X.K f)) (hm : X.mg x = none) (ha : PD X p a m) (hg : Gl X x := by rfl) (hv : bootBuiltins x = some (.type id) := by decide +kernel)
    (hn : x ≠ "__name__" := by decide) (hdb : (x == ("__debug__" : Str)) = false := by decide) (hs : starEach [a] X.env = (false, eval a X.env) :: starEach [] X.env := by rfl) : PD X p (.Call (.Name x pn) [a] [] pos) (fun E => bnd (m E) f) := by
  obtain ⟨ta, a1, a2⟩ := ha.ex
  refine ⟨_, pe_callTy hc hg hm hv (pa_cons a1 pa_nil hs) hn hdb hs (by rfl), fun B H σ E c P Q s re m k => ?_⟩
  refine a2 B H σ E _ _ _ s re m fun d c1 v H1 m1 e1 s1 r1 => ?_
  have st1 := s.go e1 s1
  exact ⟨v, rfl, _, d, _, P, p.XP, st1.trk, r1, m1, fun z v3 H3 pz a3 r3 => k z _ v3 H3 pz (e1.trans a3.ev) (st1.all S.ok a3) r3⟩
theorem pd_call2 {cb : Bool} {vb : Bool} (S : SitB cb vb X p k) {x : Str} {id : String} {f : D → D → W D} {a b : Expr} {m n : XE} {pn pos : Pos} (hc : CallR X (.builtin id) (rC2 X.K f)) (hm : X.mg x = none) (ha : PD X p a m) (hb : PD X p b n) (hg : Gl X x := by rfl) (hv : bootBuiltins x = some (.builtin id) := by decide +kernel)
    (hn : x ≠ "__name__" := by decide) (hdb : (x == ("__debug__" : Str)) = false := by decide) (hs : starEach [a, b] X.env = (false, eval a X.env) :: starEach [b] X.env := by rfl) (hs2 : starEach [b] X.env = (false, eval b X.env) :: starEach [] X.env := by rfl) (hpl : (backTo pos (starEach [b] X.env)).any (·.1) = false := by rfl) :
    PD X p (.Call (.Name x pn) [a, b] [] pos) (fun E => bnd (m E) fun x => bnd (n E) fun y => f x y) := by
  obtain ⟨ta, a1, a2⟩ := ha.ex
  obtain ⟨tb, b1, b2⟩ := hb.ex
  refine ⟨_, pe_callB hc hg hm hv (pa_cons a1 (pa_cons b1 pa_nil hs2) hs) hn hdb hs hpl, fun B H σ E c P Q s re m k => ?_⟩
  refine a2 B H σ E _ _ _ s re m fun d c1 v H1 m1 e1 s1 r1 => ?_
  have st1 := s.go e1 s1
  refine b2 B H1 σ E _ _ _ st1 (re.go s e1) m1 fun d2 c2' v2 H2 m2 e2 s2 r2 => ?_
  have st2 := st1.go e2 s2
  exact ⟨v, v2, rfl, _, d, d2, _, P, p.XP, st2.trk, r1.tr (st1.up e2), r2, m2, fun z v3 H3 pz a3 r3 => k z _ v3 H3 pz (e1.trans (e2.trans a3.ev)) (st2.all S.ok a3) r3⟩
theorem c_len : CallR X (.builtin "len") (rC1 X.K (bi1 .len)) := by
  intro pins s σ H xs us Q I r h
  obtain ⟨x, rfl, B, d, c, P, Xp, hb, r1, m, k⟩ := h
  cases r1 with
  | lst e n t =>
    refine call_len_seq pins s σ H _ us Q I r ⟨_, _, rfl, .inl (SqL.of e), ?_⟩
    rw [t.length]
    exact k _ _ H m All.refl (.int _)
  | tup e t =>
    refine call_len_seq pins s σ H _ us Q I r ⟨_, _, rfl, .inr e, ?_⟩
    rw [t.length]
    exact k _ _ H m All.refl (.int _)
  | str x => exact call_len_str pins s σ H _ us Q I r ⟨x, rfl, small_line m.1, k _ _ H m.2 All.refl (.int _)⟩
  | _ => exact m.elim
theorem c_abs : CallR X (.builtin "abs") (rC1 X.K (bi1 .abs)) := by
  intro pins s σ H xs us Q I r h
  obtain ⟨x, rfl, B, d, c, P, Xp, hb, r1, m, k⟩ := h
  cases r1 with
  | int i => exact call_abs pins s σ H _ us Q I r ⟨i, rfl, k _ _ H m All.refl (.int _)⟩
  | _ => exact m.elim
theorem c_max2 (hc : X.calm = true) : CallR X (.builtin "max") (rC2 X.K (bi2 .max)) := by
  intro pins s σ H xs us Q I r h
  obtain ⟨x, y, rfl, B, d, e, c, P, Xp, hb, r1, r2, m, k⟩ := h
  cases r1 with
  | int i =>
    cases r2 with
    | int j => exact call_max2 hc pins s σ H _ us Q I r ⟨i, j, rfl, k _ _ H m All.refl (.int _)⟩
    | _ => exact m.elim
  | _ => cases r2 <;> exact m.elim
theorem c_min2 (hc : X.calm = true) : CallR X (.builtin "min") (rC2 X.K (bi2 .min)) := by
  intro pins s σ H xs us Q I r h
  obtain ⟨x, y, rfl, B, d, e, c, P, Xp, hb, r1, r2, m, k⟩ := h
  cases r1 with
  | int i =>
    cases r2 with
    | int j => exact call_min2 hc pins s σ H _ us Q I r ⟨i, j, rfl, k _ _ H m All.refl (.int _)⟩
    | _ => exact m.elim
  | _ => cases r2 <;> exact m.elim
/-- a sequence of ints -/
theorem ints_seq {B : Addr → Prop} {H : Hp} {v : V} {d : D} {c : Sx} {P : List Int → Sx → Prop} {Xp : Exn → Sx → Prop} (r : Rep K B H v d) (m : intsOf d c P Xp) :
    ∃ (a : Addr) (ns : List Int), v = .ref a ∧ (H a = some (.lst (ns.map V.int)) ∨ SqT K H a (ns.map V.int)) ∧ P ns c := by
  have go : ∀ {xs : List V} {ds : List D}, Reps K B H xs ds → (match ints? ds with | some ns => ret ns | none => stuck) c P Xp → ∃ ns : List Int, xs = ns.map V.int ∧ P ns c := by
    intro xs ds t h
    cases e : ints? ds with
    | none => rw [e] at h; exact h.elim
    | some ns => rw [e] at h; exact ⟨ns, t.ints e, h⟩
  cases r with
  | lst e n t =>
    obtain ⟨ns, h1, h2⟩ := go t m
    subst h1
    exact ⟨_, ns, rfl, .inl e, h2⟩
  | tup e t =>
    obtain ⟨ns, h1, h2⟩ := go t m
    subst h1
    exact ⟨_, ns, rfl, .inr e, h2⟩
  | _ => exact m.elim
theorem c_sum (hc : X.calm = true) : CallR X (.builtin "sum") (rC1 X.K (bi1 .sum)) := by
  intro pins s σ H xs us Q I r h
  obtain ⟨x, rfl, B, d, c, P, Xp, hb, r1, m, k⟩ := h
  obtain ⟨a, ns, rfl, h1, h2⟩ := ints_seq r1 (show intsOf d c _ Xp from m)
  rcases h1 with h1 | h1
  · exact cr_sum hc pins s σ H _ us Q I r ⟨a, ns, rfl, SqL.of h1, k _ _ H h2 All.refl (.int _)⟩
  · obtain ⟨its, rv, pt, hz⟩ := I.tuple h1
    rw [Vals.ref1 r]
    have hi := rv.ints
    obtain ⟨ys, e⟩ := hi.allInts.items
    have hn : numsOf (intItems ys).toList = ns := by rw [← e]; exact hi.numsOf
    rw [nums_intItems] at hn
    rw [e] at pt
    refine PySem.W.ktm_sumG (I.ok.hd hc) pt fun h' tk t' hk => ?_
    rw [preSum_eq, List.take_of_length_le (by simp), hn]
    exact ⟨.int ns.sum, H, I.kept hk, ⟨_, rfl⟩, k _ _ H h2 All.refl (.int _)⟩
theorem reads_ints {h : Heap} : ∀ {vs : List Value} {ns : List Int}, IntsAre vs ns → ∃ as, ReadsAll h vs (ns.map PyData.int) as
  | _, _, .nil => ⟨_, .nil⟩
  | _, _, .cons n t q => by
    obtain ⟨as, r⟩ := reads_ints (h := h) q
    exact ⟨_, .cons (.int n t) r⟩
theorem alike_ints (ns : List Int) : PySem.W.AlikeAll (ns.map PyData.int) := by
  refine ⟨fun x hx y hy => ?_, fun x hx => ?_⟩
  · obtain ⟨a, _, rfl⟩ := List.mem_map.mp hx
    obtain ⟨b, _, rfl⟩ := List.mem_map.mp hy
    rfl
  · obtain ⟨a, _, rfl⟩ := List.mem_map.mp hx
    exact fun z => nomatch z
theorem depth_ints : ∀ ns : List Int, PyData.depthAll (ns.map PyData.int) = 0
  | [] => by simp [PyData.depthAll]
  | a :: r => by simp [PyData.depthAll, PyData.depth, depth_ints r]
theorem of_reads_int {h : Heap} {v : Value} {i : Int} {as : List Addr} (r : Reads h v (.int i) as) : ∃ t, v = .int i t := by
  cases r
  exact ⟨_, rfl⟩
theorem c_max {vb : Bool} (S : SitB true vb X p k) : CallR X (.builtin "max") (rC1 X.K (bi1 .max)) := by
  intro pins s σ H xs us Q I r h
  obtain ⟨x, rfl, B, d, c, P, Xp, hb, r1, m, kk⟩ := h
  obtain ⟨a, ns, rfl, h1, h2⟩ := ints_seq r1 (show intsOf d c _ Xp from m)
  cases ns with
  | nil => exact h2.elim
  | cons n ns =>
    have hu : X.A.units + 1 + PyData.depthAll (PyData.int n :: ns.map PyData.int) < cLine := by
      have e := depth_ints (n :: ns)
      have q := S.un
      rw [List.map_cons] at e
      rw [e]
      omega
    have fin : ∀ (v : Value) (h' : Heap) (tk : Nat) (bs : List Addr), Reads h' v (PySem.W.maxD (.int n) (ns.map .int)) bs → (∀ b o, s.heap.get? b = some o → h'.get? b = some o) → EP X pins σ Q v { s with heap := h', toks := tk } := by
      intro v h' tk bs hr hk
      rw [PySem.W.maxD_ints] at hr
      obtain ⟨t, rfl⟩ := of_reads_int hr
      exact ⟨.int _, H, I.kept hk, ⟨_, rfl⟩, kk _ _ H h2 All.refl (.int _)⟩
    rw [Vals.ref1 r]
    rcases h1 with h1 | h1
    · obtain ⟨its, rv, pl, hz⟩ := I.list (SqL.of h1)
      obtain ⟨as, ra⟩ := reads_ints (h := s.heap) rv.ints
      exact PySem.W.max_list_data (I.ok.hd S.calm) pl.isList ra (alike_ints (n :: ns)) hu fun i v h' tk bs _ hr hk => fin v h' tk bs hr hk
    · obtain ⟨its, rv, pt, hz⟩ := I.tuple h1
      obtain ⟨as, ra⟩ := reads_ints (h := s.heap) rv.ints
      exact PySem.W.max_tuple_data (I.ok.hd S.calm) pt ra (alike_ints (n :: ns)) hu fun i v h' tk bs _ hr hk => fin v h' tk bs hr hk
theorem c_int : CallR X (.type "int") (rC1 X.K (bi1 .int)) := by
  intro pins s σ H xs us Q I r h
  obtain ⟨x, rfl, B, d, c, P, Xp, hb, r1, m, k⟩ := h
  cases r1 with
  | int i => exact call_int1 pins s σ H _ us Q I r (.inl ⟨i, rfl, k _ _ H m All.refl (.int _)⟩)
  | bl b => exact call_int1 pins s σ H _ us Q I r (.inr ⟨b, rfl, k _ _ H m All.refl (.int _)⟩)
  | _ => exact m.elim
theorem c_tuple : CallR X (.type "tuple") (rC1 X.K (bi1 .tuple)) := by
  intro pins s σ H xs us Q I r h
  obtain ⟨x, rfl, B, d, c, P, Xp, hb, r1, m, k⟩ := h
  cases r1 with
  | lst e n t => exact call_tuple_of pins s σ H _ us Q I r ⟨_, _, rfl, .inl ⟨SqL.of e, fun q hq => k _ _ _ m (All.new hq) (rep_tup hq t)⟩⟩
  | tup e t => exact call_tuple_of pins s σ H _ us Q I r ⟨_, _, rfl, .inr ⟨e, k _ _ H m All.refl (.tup e t)⟩⟩
  | _ => exact m.elim
theorem c_list : CallR X (.type "list") (rC1 X.K (bi1 .list)) := by
  intro pins s σ H xs us Q I r h
  obtain ⟨x, rfl, B, d, c, P, Xp, hb, r1, m, k⟩ := h
  cases r1 with
  | lst e n t => exact call_list_of pins s σ H _ us Q I r ⟨_, _, rfl, .inl (SqL.of e), fun q hq => k _ _ _ m (All.new hq) (rep_lst hb hq t)⟩
  | tup e t => exact call_list_of pins s σ H _ us Q I r ⟨_, _, rfl, .inr e, fun q hq => k _ _ _ m (All.new hq) (rep_lst hb hq t)⟩
  | _ => exact m.elim
theorem atI_rep {B : Addr → Prop} {H : Hp} {xs : List V} {ds : List D} (t : Reps K B H xs ds) {i : Int} {d : D} (h : atI ds i = some d) : ∃ v, atI xs i = some v ∧ Rep K B H v d := by
  unfold atI at h ⊢
  rw [t.length]
  cases e : ixN ds.length i with
  | none => rw [e] at h; cases h
  | some j =>
    rw [e] at h
    exact t.get h
theorem ix_D : IxR X (rD2 X.K opIdx) := by
  intro value slice pins s σ H x y v u Q I rx ry h hs
  obtain ⟨_, d, e, c, P, Xp, hb, r1, r2, m, k⟩ := h
  cases r1 with
  | @tup a xs ds q t =>
    cases r2 with
    | int i =>
      have m' : (match L2.atI ds i with | some d => ret d | none => stuck) c P Xp := m
      cases ea : atI ds i with
      | none => rw [ea] at m'; exact m'.elim
      | some z =>
        rw [ea] at m'
        obtain ⟨w, h1, h2⟩ := atI_rep t ea
        exact ix_tup value slice pins s σ H _ _ v u Q I rx ry ⟨a, xs, i, w, rfl, rfl, q, h1, k _ _ H m' All.refl h2⟩ hs
    | _ => exact m.elim
  | @lst a xs ds q n t =>
    cases r2 with
    | int i =>
      have m' : (match L2.atI ds i with | some d => ret d | none => stuck) c P Xp := m
      cases ea : atI ds i with
      | none => rw [ea] at m'; exact m'.elim
      | some z =>
        rw [ea] at m'
        obtain ⟨w, h1, h2⟩ := atI_rep t ea
        exact ix_list value slice pins s σ H _ _ v u Q I rx ry ⟨a, xs, i, w, rfl, rfl, SqL.of q, h1, k _ _ H m' All.refl h2⟩ hs
    | _ => exact m.elim
  | _ => exact m.elim
theorem pd_ix {cb : Bool} {vb : Bool} (S : SitB cb vb X p k) {a b : Expr} {ma mb : XE} {pos : Pos} (ha : PD X p a ma) (hb : PD X p b mb) (hs : PlainIx b := by exact fun _ _ => rfl) : PD X p (.Subscript a b pos) (eIdx ma mb) := by
  obtain ⟨ta, a1, a2⟩ := ha.ex
  obtain ⟨tb, b1, b2⟩ := hb.ex
  exact ⟨_, pe_ix ix_D a1 b1 hs, ev_bnd S.ok (fun _ _ _ _ h => h) a2 b2⟩
structure PDO (X : Cx) (p : Par) (e : Option Expr) (m : XO) : Prop where
  ex : ∃ t, PO X e t ∧ ∀ (B : Addr → Prop) (H : Hp) (σ : L2.St) (E : Env) (c : Sx) (P : Option Int → Sx → Prop) (Q : Option Int → Hp → Prop), St0 p c B H → EnvR X.K p c B H σ E → m E c P p.XP → (∀ o c' H', P o c' → Ev p c H c' H' → p.SI c' H' → Q o H') → t σ H Q
theorem pdo_none : PDO X p none oNone := ⟨_, po_none, fun B H σ E c P Q s re m k => k none _ H m Ev.refl s.si⟩
theorem pdo_some {a : Expr} {m : XE} (ha : PD X p a m) : PDO X p (some a) (oSome m) := by
  obtain ⟨ta, a1, a2⟩ := ha.ex
  refine ⟨_, po_some a1, fun B H σ E c P Q s re m k => ?_⟩
  refine a2 B H σ E _ _ _ s re m fun d c1 v H1 m1 e1 s1 r1 => ?_
  cases r1 with
  | int i => exact ⟨i, rfl, k _ _ H1 m1 e1 s1⟩
  | _ => exact m1.elim
theorem Reps.cut {B : Addr → Prop} {H : Hp} {xs : List V} {ds : List D} (t : Reps K B H xs ds) (lo hi : Option Int) : Reps K B H (cutV xs lo hi) (DL.cut ds lo hi) := by
  unfold cutV DL.cut
  rw [t.length]
  exact (t.drop _).take _
theorem cut_whole (ds : List D) (lo hi : Option Int) (h1 : HT.sIx ds.length 0 lo = 0) (h2 : HT.sIx ds.length ds.length hi = ds.length) : DL.cut ds lo hi = ds := by
  unfold DL.cut
  rw [h1, h2]
  simp
def rCut (K : PySem.W.Frag) : V → Option Int → Option Int → Hp → VK → Prop := fun x lo hi H Q => rD1 K (fun d => opCut d lo hi) x H Q
theorem sl_D : SlR X (rCut X.K) := by
  intro pins s σ H x v vl vu lo hi sl Q I rx hs pl pu h
  obtain ⟨_, d, c, P, Xp, hb, r1, m, k⟩ := h
  cases r1 with
  | @tup a xs ds q t =>
    refine sl_tupA pins s σ H _ v vl vu lo hi sl Q I rx hs pl pu ⟨a, xs, rfl, q, fun ⟨h1, h2⟩ => ?_, fun _ w hw => k _ _ _ m (All.new hw) (rep_tup hw (t.cut lo hi))⟩
    rw [t.length] at h1 h2
    refine k _ _ H m All.refl ?_
    rw [cut_whole ds lo hi h1 h2]
    exact .tup q t
  | @lst a xs ds q n t =>
    exact sl_list pins s σ H _ v vl vu lo hi sl Q I rx hs pl pu ⟨a, xs, rfl, SqL.of q, fun w hw => k _ _ _ m (All.new hw) (rep_lst hb hw (t.cut lo hi))⟩
  | str x => exact sl_str pins s σ H _ v vl vu lo hi sl Q I rx hs pl pu ⟨x, rfl, small_line m.1, k _ _ H m.2 All.refl (.str _)⟩
  | _ => exact m.elim
theorem pd_cut {cb : Bool} {vb : Bool} (S : SitB cb vb X p k) {e : Expr} {lo hi : Option Expr} {m : XE} {ml mh : XO} {p2 pos : Pos} (he : PD X p e m) (hl : PDO X p lo ml) (hh : PDO X p hi mh) : PD X p (.Subscript e (.Slice lo hi none p2) pos) (eCut m ml mh) := by
  obtain ⟨ta, a1, a2⟩ := he.ex
  obtain ⟨tl, l1, l2⟩ := hl.ex
  obtain ⟨th, h1, h2⟩ := hh.ex
  refine ⟨_, pe_slice sl_D a1 l1 h1, fun B H σ E c P Q s re m k => ?_⟩
  refine a2 B H σ E _ _ _ s re m fun d c1 v H1 m1 e1 s1 r1 => ?_
  have st1 := s.go e1 s1
  refine l2 B H1 σ E _ _ _ st1 (re.go s e1) m1 fun o1 c2' H2 m2 e2 s2 => ?_
  have st2 := st1.go e2 s2
  refine h2 B H2 σ E _ _ _ st2 ((re.go s e1).go st1 e2) m2 fun o2 c3' H3 m3 e3 s3 => ?_
  have st3 := st2.go e3 s3
  exact ⟨_, d, _, P, p.XP, st3.trk, (r1.tr (st1.up e2)).tr (st2.up e3), m3, fun z v3 H4 pz a3 r3 => k z _ v3 H4 pz (e1.trans (e2.trans (e3.trans a3.ev))) (st3.all S.ok a3) r3⟩
end
end DL
end
section
namespace DL
open PySem PySem.Spec PyProof.Rows L2
section
variable {K : PySem.W.Frag} {p : Par} {B B' : Addr → Prop} {H H' : Hp} {σ : L2.St} {E : Env} {n : Sx}
theorem getElem?_set_cases {α : Type} {l : List α} {i j : Nat} {a b : α} (h : (l.set i a)[j]? = some b) : (i = j ∧ j < l.length ∧ a = b) ∨ (i ≠ j ∧ l[j]? = some b) := by
  by_cases e : i = j
  · subst e
    by_cases hl : i < l.length
    · rw [List.getElem?_set_self hl] at h
      exact .inl ⟨rfl, hl, Option.some.inj h⟩
    · rw [List.getElem?_eq_none (by rw [List.length_set]; omega)] at h
      cases h
  · rw [List.getElem?_set_ne e] at h
    exact .inr ⟨e, h⟩
theorem EnvR.put (r : EnvR K p n B H σ E) (hf : p.fx = none) (i : Nat) {s : Option V} {e : Ent} (h : Slot K p n B H s e) (no : ∀ ds, e ≠ .own ds) : EnvR K p n B H (σ.set i s) (E.set i e) := by
  refine ⟨by rw [List.length_set, List.length_set]; exact r.len, fun j e' q => ?_, fun a b x xs ys h1 h2 h3 h4 => ?_, .no hf, fun j a xs hp hj => ?_⟩
  · rcases getElem?_set_cases q with ⟨rfl, hl, rfl⟩ | ⟨ne, q⟩
    · exact ⟨s, List.getElem?_set_self (by rw [r.len]; exact hl), h⟩
    · rw [List.getElem?_set_ne ne]
      exact r.at_ j e' q
  · rcases getElem?_set_cases h1 with ⟨_, _, z⟩ | ⟨n1, h1⟩
    · exact absurd z (no xs)
    · rcases getElem?_set_cases h2 with ⟨_, _, z⟩ | ⟨n2, h2⟩
      · exact absurd z (no ys)
      · rw [List.getElem?_set_ne n1] at h3
        rw [List.getElem?_set_ne n2] at h4
        exact r.nd a b x xs ys h1 h2 h3 h4
  · rcases getElem?_set_cases hj with ⟨_, _, z⟩ | ⟨n1, hj⟩
    · exact absurd z (no xs)
    · rw [List.getElem?_set_ne n1]
      exact r.pn j a xs hp hj
theorem EnvR.unk (r : EnvR K p n B H σ E) (hf : p.fx = none) (i : Nat) (s : Option V) : EnvR K p n B H (σ.set i s) (E.set i .unk) := r.put hf i (.unk s) fun _ z => nomatch z
theorem EnvR.val (r : EnvR K p n B H σ E) (hf : p.fx = none) (i : Nat) {v : V} {d : D} (h : Rep K (bm p B n) H v d) : EnvR K p n B H (σ.set i (some v)) (E.set i (.val d)) := r.put hf i (.val h) fun _ z => nomatch z
theorem EnvR.wipe (r : EnvR K p n B H σ E) (hf : p.fx = none) : ∀ vs : List Nat, EnvR K p n B H (L2.wipe σ vs) (wipeE E vs)
  | [] => r
  | v :: vs => (r.wipe hf vs).unk hf v none
/-- other places -/
theorem Slot.grow (h : ∀ a, B' a → H a ≠ none → B a) (k : ∀ a, B a → B' a) {x : Option V} {y : Ent} (s : Slot K p n B H x y) : Slot K p n B' H x y := by
  cases s with
  | unk _ => exact .unk _
  | val r => exact .val (r.grow fun a z q => z.imp (fun z => h a z q) id)
  | own b n nc h0 hl r => exact .own (k _ b) n nc h0 hl (r.grow fun a z q => z.imp (fun z => h a z q) id)
  | stm => exact .stm
  | scr q => exact .scr q
theorem EnvR.grow (r : EnvR K p n B H σ E) (hf : p.fx = none) (h : ∀ a, B' a → H a ≠ none → B a) (k : ∀ a, B a → B' a) : EnvR K p n B' H σ E :=
  ⟨r.len, fun i e q => let ⟨s, h1, h2⟩ := r.at_ i e q; ⟨s, h1, h2.grow h k⟩, r.nd, .no hf, r.pn⟩
/-- the own list at i is a value from here on: its place is no more of B -/
def less (B : Addr → Prop) (q : Addr) : Addr → Prop := fun a => B a ∧ a ≠ q
theorem EnvR.rel (r : EnvR K p n B H σ E) (hf : p.fx = none) (st : St0 p n B H) {i : Nat} {ds : List D} (h : E[i]? = some (.own ds)) :
    ∃ q, EnvR K p n (less B q) H σ (E.set i (.val (.list ds))) ∧ St0 p n (less B q) H ∧ ¬ p.B0 n q ∧ ¬ p.Bc q ∧ B q := by
  obtain ⟨s, h1, h2⟩ := r.at_ i _ h
  have ls : ∀ q a, bm p (less B q) n a → bm p B n a := fun q a z => z.imp (fun z => z.1) id
  cases h2 with
  | @own q xs _ b nb nc h0 hl rs =>
    refine ⟨q, ⟨by rw [List.length_set]; exact r.len, fun j e he => ?_, fun a b x xs ys g1 g2 g3 g4 => ?_, .no hf, fun j a xs hp hj => ?_⟩, ⟨fun a z => (st.subc a z).imp (fun b => ⟨b, fun e => nc (e ▸ z)⟩) id, fun a z => st.trk a (ls q a z), st.si, st.ext, fun a b h => st.old a b.1 h⟩, nb, nc, b⟩
    · rcases getElem?_set_cases he with ⟨rfl, _, rfl⟩ | ⟨ne, he⟩
      · exact ⟨_, h1, .val (.lst hl (fun z => z.elim (fun z => z.2 rfl) nb) (rs.less (ls q)))⟩
      · obtain ⟨s', g1, g2⟩ := r.at_ j e he
        refine ⟨s', g1, ?_⟩
        cases g2 with
        | unk _ => exact .unk _
        | val z => exact .val (z.less (ls q))
        | own b' n' nc' h0' hl' rs' => exact .own ⟨b', fun z => ne (r.nd i j q _ _ h he h1 (z ▸ g1))⟩ n' nc' h0' hl' (rs'.less (ls q))
        | stm => exact .stm
        | scr q => exact .scr q
    · rcases getElem?_set_cases g1 with ⟨_, _, z⟩ | ⟨n1, g1⟩
      · cases z
      · rcases getElem?_set_cases g2 with ⟨_, _, z⟩ | ⟨n2, g2⟩
        · cases z
        · exact r.nd a b x xs ys g1 g2 g3 g4
    · rcases getElem?_set_cases hj with ⟨_, _, z⟩ | ⟨n1, hj⟩
      · cases z
      · exact r.pn j a xs hp hj
/-- a new list is owned -/
def more (B : Addr → Prop) (q : Addr) : Addr → Prop := fun a => B a ∨ a = q
theorem EnvR.own (r : EnvR K p n B H σ E) (hp : ∀ i, p.pin i = none) (hf : p.fx = none) (st : St0 p n B H) (i : Nat) {q : Addr} {xs : List V} {ds : List D} (hq : H q = some (.lst xs)) (nb : ¬ B q) (nb0 : ¬ p.B0 n q) (h0 : p.H0 q = none) (fr : ∀ a, B a → a ≠ q) (rs : Reps K (bm p (more B q) n) H xs ds)
    (old : ∀ (j : Nat) (v : V) (d : D), E[j]? = some (.val d) → j ≠ i → σ[j]? = some (some v) → Rep K (bm p (more B q) n) H v d)
    (olo : ∀ (j : Nat) (a : Addr) (ys : List V) (es : List D), E[j]? = some (.own es) → σ[j]? = some (some (.ref a)) → H a = some (.lst ys) → Reps K (bm p (more B q) n) H ys es) :
    EnvR K p n (more B q) H (σ.set i (some (.ref q))) (E.set i (.own ds)) ∧ St0 p n (more B q) H := by
  refine ⟨⟨by rw [List.length_set, List.length_set]; exact r.len, fun j e he => ?_, fun a b x xs' ys g1 g2 g3 g4 => ?_, .no hf, fun j a xs h _ => by rw [hp j] at h; cases h⟩, ⟨fun a z => (st.subc a z).imp .inl id, fun a z => ?_, st.si, st.ext, fun a b h => b.elim (fun z => st.old a z h) fun z => absurd (z ▸ h0) h⟩⟩
  · rcases getElem?_set_cases he with ⟨rfl, hl, rfl⟩ | ⟨ne, he⟩
    · exact ⟨_, List.getElem?_set_self (by rw [r.len]; exact hl), .own (.inr rfl) nb0 (fun z => (st.subc _ z).elim nb nb0) h0 hq rs⟩
    · rw [List.getElem?_set_ne ne]
      obtain ⟨s, g1, g2⟩ := r.at_ j e he
      refine ⟨s, g1, ?_⟩
      cases g2 with
      | unk _ => exact .unk _
      | val z => exact .val (old j _ _ he (Ne.symm ne) g1)
      | own b' n' nc' h0' hl' rs' => exact .own (.inl b') n' nc' h0' hl' (olo j _ _ _ he g1 hl')
      | stm => exact .stm
      | scr q => exact .scr q
  · rcases getElem?_set_cases g1 with ⟨e1, l1, z1⟩ | ⟨n1, g1⟩
    · rcases getElem?_set_cases g2 with ⟨e2, l2, z2⟩ | ⟨n2, g2⟩
      · rw [← e1, ← e2]
      · subst e1
        rw [List.getElem?_set_self (by rw [r.len]; exact l1)] at g3
        rw [List.getElem?_set_ne n2] at g4
        have ex : q = x := by
          have := Option.some.inj (Option.some.inj g3)
          cases this
          rfl
        subst ex
        obtain ⟨s, k1, k2⟩ := r.at_ b _ g2
        rw [g4] at k1
        cases k1
        cases k2 with
        | own b' _ _ _ _ _ => exact absurd b' nb
    · rcases getElem?_set_cases g2 with ⟨e2, l2, z2⟩ | ⟨n2, g2⟩
      · subst e2
        rw [List.getElem?_set_self (by rw [r.len]; exact l2)] at g4
        rw [List.getElem?_set_ne n1] at g3
        have ex : q = x := by
          have := Option.some.inj (Option.some.inj g4)
          cases this
          rfl
        subst ex
        obtain ⟨s, k1, k2⟩ := r.at_ a _ g1
        rw [g3] at k1
        cases k1
        cases k2 with
        | own b' _ _ _ _ _ => exact absurd b' nb
      · rw [List.getElem?_set_ne n1] at g3
        rw [List.getElem?_set_ne n2] at g4
        exact r.nd a b x xs' ys g1 g2 g3 g4
  · rcases z with (z | z) | z
    · exact st.trk a (.inl z)
    · rw [z, hq]
      exact fun z => nomatch z
    · exact st.trk a (.inr z)
end
def SR (K : PySem.W.Frag) (p : Par) (ts : TS) (m : XS) : Prop :=
  ∀ (B : Addr → Prop) (H : Hp) (σ : L2.St) (E : Env) (c : Sx) (P : Out → Sx → Prop) (Dn : Ends), St0 p c B H → EnvR K p c B H σ E → m E c P p.XP →
    (∀ E' c' B' σ' H', P (.nx E') c' → St0 p c' B' H' → Tr (bm p B c) H (bm p B' c') H' → EnvR K p c' B' H' σ' E' → Dn.nx σ' H') →
    (∀ d c' v H', P (.rt d) c' → p.SI c' H' → Ev p p.c0 p.H0 c' H' → Rep K (bm p p.Bc c') H' v d → Dn.rt v H') →
    (∀ E' c' B' σ' H', P (.bk E') c' → St0 p c' B' H' → Tr (bm p B c) H (bm p B' c') H' → EnvR K p c' B' H' σ' E' → Dn.bk σ' H') →
    (∀ E' c' B' σ' H', P (.ct E') c' → St0 p c' B' H' → Tr (bm p B c) H (bm p B' c') H' → EnvR K p c' B' H' σ' E' → Dn.ct σ' H') → ts Dn σ H
structure PSD (X : Cx) (p : Par) (st : Stmt) (m : XS) : Prop where
  ex : ∃ ts, PS X st ts ∧ SR X.K p ts m
structure PSSD (X : Cx) (p : Par) (sts : List Stmt) (m : XS) : Prop where
  ex : ∃ ts, PSs X sts ts ∧ SR X.K p ts m
section
variable {X : Cx} {p : Par} {k : Nat} {K : PySem.W.Frag}
theorem ssd_nil : PSSD X p [] sSkip := ⟨_, pss_nil, fun B H σ E c P Dn st r m nx rt bk ct => nx E _ B σ H m st .refl r⟩
theorem sr_seq {t u : TS} {a b : XS} (h1 : SR K p t a) (h2 : SR K p u b) : SR K p (tSeq t u) (sSeq a b) := by
  intro B H σ E c P Dn st r m nx rt bk ct
  refine h1 B H σ E _ _ _ st r m (fun E' c1 B' σ' H' m1 st1 t1 r1 => ?_) (fun d c1 v H' m1 => rt d c1 v H' m1) (fun E' c1 B' σ' H' m1 => bk E' c1 B' σ' H' m1) (fun E' c1 B' σ' H' m1 => ct E' c1 B' σ' H' m1)
  refine h2 B' H' σ' E' _ P Dn st1 r1 m1 (fun E2 c2' B2 σ2 H2 m2 st2 t2 r2 => nx E2 c2' B2 σ2 H2 m2 st2 (t1.trans t2) r2) rt (fun E2 c2' B2 σ2 H2 m2 st2 t2 r2 => bk E2 c2' B2 σ2 H2 m2 st2 (t1.trans t2) r2) (fun E2 c2' B2 σ2 H2 m2 st2 t2 r2 => ct E2 c2' B2 σ2 H2 m2 st2 (t1.trans t2) r2)
theorem ssd_cons {st : Stmt} {rest : List Stmt} {a b : XS} (h1 : PSD X p st a) (h2 : PSSD X p rest b) : PSSD X p (st :: rest) (sSeq a b) := by
  obtain ⟨t1, a1, a2⟩ := h1.ex
  obtain ⟨t2, b1, b2⟩ := h2.ex
  exact ⟨_, pss_cons a1 b1, sr_seq a2 b2⟩
theorem ssd_one {st : Stmt} {a : XS} (h1 : PSD X p st a) : PSSD X p [st] a := by
  obtain ⟨t1, a1, a2⟩ := h1.ex
  exact ⟨_, pss_one a1, a2⟩
theorem sd_ret {e : Expr} {m : XE} {pos : Pos} (he : PD X p e m) : PSD X p (.Return (some e) pos) (sRet m) := by
  obtain ⟨te, a1, a2⟩ := he.ex
  refine ⟨_, ps_ret a1, fun B H σ E c P Dn st r m nx rt bk ct => ?_⟩
  exact a2 B H σ E _ _ _ st r m fun d c1 v H1 m1 e1 s1 r1 => rt d _ v H1 m1 s1 (st.ext.trans e1) (r1.less (st.go e1 s1).bc)
theorem sd_expr {e : Expr} {m : XE} {pos : Pos} (he : PD X p e m) (hs : swapsWith e none pos.line X.env = pure false := by rfl) : PSD X p (.Expr e pos) (sExpr m) := by
  obtain ⟨te, a1, a2⟩ := he.ex
  refine ⟨_, ps_expr a1 hs, fun B H σ E c P Dn st r m nx rt bk ct => ?_⟩
  exact a2 B H σ E _ _ _ st r m fun d c1 v H1 m1 e1 s1 r1 => nx E _ B σ H1 m1 (st.go e1 s1) (st.up e1) (r.go st e1)
theorem sd_if {c : Expr} {a b : List Stmt} {t : XT} {ma mb : XS} {pos : Pos} (hc : PDT X p c t) (ha : PSSD X p a ma) (hb : PSSD X p b mb) : PSD X p (.If c a b pos) (sIf t ma mb) := by
  obtain ⟨tc, c1, c2⟩ := hc.ex
  obtain ⟨ta, a1, a2⟩ := ha.ex
  obtain ⟨tb, b1, b2⟩ := hb.ex
  refine ⟨_, ps_if c1 a1 b1, fun B H σ E c P Dn st r m nx rt bk ct => ?_⟩
  refine c2 B H σ E _ _ _ st r m fun b c1 H1 m1 e1 s1 => ?_
  have st1 := st.go e1 s1
  have t1 : Tr (bm p B c) H (bm p B c1) H1 := st.up e1
  have r1 := r.go st e1
  cases b with
  | true => exact a2 B H1 σ E _ P Dn st1 r1 m1 (fun E2 c2' B2 σ2 H2 m2 st2 t2 r2 => nx E2 c2' B2 σ2 H2 m2 st2 (t1.trans t2) r2) rt (fun E2 c2' B2 σ2 H2 m2 st2 t2 r2 => bk E2 c2' B2 σ2 H2 m2 st2 (t1.trans t2) r2) (fun E2 c2' B2 σ2 H2 m2 st2 t2 r2 => ct E2 c2' B2 σ2 H2 m2 st2 (t1.trans t2) r2)
  | false => exact b2 B H1 σ E _ P Dn st1 r1 m1 (fun E2 c2' B2 σ2 H2 m2 st2 t2 r2 => nx E2 c2' B2 σ2 H2 m2 st2 (t1.trans t2) r2) rt (fun E2 c2' B2 σ2 H2 m2 st2 t2 r2 => bk E2 c2' B2 σ2 H2 m2 st2 (t1.trans t2) r2) (fun E2 c2' B2 σ2 H2 m2 st2 t2 r2 => ct E2 c2' B2 σ2 H2 m2 st2 (t1.trans t2) r2)
theorem sr_asg {te : TE} {m : XE} {i : Nat} (nf : p.fx = none) (h : EvR K p te m) : SR K p (tAsg te (gName i)) (sAsg i m) := by
  intro B H σ E c P Dn st r m nx rt bk ct
  exact h B H σ E _ _ _ st r m fun d c1 v H1 m1 e1 s1 r1 => nx _ _ B _ H1 m1 (st.go e1 s1) (st.up e1) ((r.go st e1).val nf i r1)
theorem sd_set {cb : Bool} (S : SitB cb true X p k) {i : Nat} {x : Str} {e : Expr} {m : XE} {pos pos' : Pos} (hi : X.N[i]? = some x) (hx : Loc X.env.scope x) (he : PD X p e m) (hs : swapsWith e (some (.Name x pos')) pos.line X.env = pure false := by rfl)
    (hf : X.fn x = true ∨ X.env.scope.names.lookup x = some .local := by first | exact .inl rfl | exact .inr rfl) : PSD X p (.Assign [.Name x pos'] e pos) (sAsg i m) := by
  obtain ⟨te, a1, a2⟩ := he.ex
  exact ⟨_, ps_set S.nd hi hx a1 hs hf, sr_asg S.nf a2⟩
end
end DL
end
section
namespace DL
open PySem PySem.Spec PyProof.Rows L2
def gNs : List Nat → TGs
  | [] => gNil
  | i :: is => gCons (gName i) (gNs is)
/-- (a, b, ..) = a tuple or a list of that length -/
def gTL (K : PySem.W.Frag) (n : Nat) (t : TGs) : TG := fun v σ H Q => gTup K n t v σ H Q ∨ gUnl K n t v σ H Q
theorem pg_tl {X : Cx} {pos : Pos} {es : List Expr} {k : Nat} {t : TGs} {n : Nat} (hc : X.calm = true) (h : PGs X es t)
    (hn : (assignEach es X.env).length = n := by rfl) (hst : (assignEach es X.env).findIdx? (·.1) = none := by rfl) : PG X (.Tuple es k pos) (gTL X.K n t) :=
  ⟨fun pins s σ H v u Q I r hw => hw.elim (fun q => (pg_tup hc h hn hst).run pins s σ H v u Q I r q) fun q => (pg_unl hc h hn hst).run pins s σ H v u Q I r q⟩
def gOf (K : PySem.W.Frag) : Tg → TG
  | .nm i => gName i
  | .tp is => gTL K is.length (gNs is)
  | .pr a b => gTL K 2 (gCons (gOf K a) (gCons (gOf K b) gNil))
def Tg.ix : Tg → List Nat
  | .nm i => [i]
  | .tp is => is
  | .pr a b => a.ix ++ b.ix
section
variable {K : PySem.W.Frag} {p : Par} {B B' : Addr → Prop} {H H' : Hp} {σ : L2.St} {E E' : Env} {n : Sx}
theorem gNs_put (nf : p.fx = none) : ∀ (is : List Nat) (vs : List V) (ds : List D) (σ : L2.St) (E : Env), EnvR K p n B H σ E → Reps K (bm p B n) H vs ds → setAll is ds E = some E' →
    ∀ Q : L2.St → Hp → Prop, (∀ σ', EnvR K p n B H σ' E' → σ'.length = σ.length → (∀ j, j ∉ is → σ'[j]? = σ[j]?) → Q σ' H) → gNs is vs σ H Q
  | [], vs, ds, σ, E, r, rs, h, Q, q => by
    cases rs with
    | nil =>
      have e : E = E' := Option.some.inj h
      subst e
      exact ⟨rfl, q σ r rfl fun _ _ => rfl⟩
    | cons _ _ => cases h
  | i :: is, vs, ds, σ, E, r, rs, h, Q, q => by
    cases rs with
    | nil => cases h
    | cons r1 rs =>
      refine ⟨_, _, rfl, gNs_put nf is _ _ _ _ (r.val nf i r1) rs h Q fun σ' g1 g2 g3 => q σ' g1 (by rw [g2, List.length_set]) fun j hj => ?_⟩
      rw [List.mem_cons, not_or] at hj
      rw [g3 j hj.2, List.getElem?_set_ne (Ne.symm hj.1)]
theorem gOf_put (nf : p.fx = none) {t : Tg} {v : V} {d : D} (r : EnvR K p n B H σ E) (rv : Rep K (bm p B n) H v d) (h : t.put d E = some E') (Q : L2.St → Hp → Prop)
    (q : ∀ σ', EnvR K p n B H σ' E' → σ'.length = σ.length → (∀ j, j ∉ t.ix → σ'[j]? = σ[j]?) → Q σ' H) : gOf K t v σ H Q := by
  induction t generalizing v d σ E E' Q with
  | nm i =>
    have e : E.set i (.val d) = E' := Option.some.inj h
    subst e
    exact q _ (r.val nf i rv) (List.length_set ..) fun j hj => List.getElem?_set_ne fun e => hj (by simp [Tg.ix, e])
  | tp is =>
    have hl : ∀ (is : List Nat) (ds : List D) (E E' : Env), setAll is ds E = some E' → ds.length = is.length := by
      intro is
      induction is with
      | nil => intro ds E E' h; cases ds with
        | nil => rfl
        | cons _ _ => cases h
      | cons i is ih => intro ds E E' h; cases ds with
        | nil => cases h
        | cons d ds => simp [ih ds _ _ h]
    cases rv with
    | @tup a xs ds hs rs =>
      have h' : setAll is ds E = some E' := h
      exact .inl ⟨a, xs, rfl, hs, by rw [rs.length]; exact hl _ _ _ _ h', gNs_put nf is xs ds σ E r rs h' Q q⟩
    | @lst a xs ds hs nb rs =>
      have h' : setAll is ds E = some E' := h
      exact .inr ⟨a, xs, rfl, SqL.of hs, by rw [rs.length]; exact hl _ _ _ _ h', gNs_put nf is xs ds σ E r rs h' Q q⟩
    | _ => exact nomatch (show none = some E' from h)
  | pr a b iha ihb =>
    cases rv with
    | @tup ad xs ds hs rs =>
      cases rs with
      | nil => exact nomatch (show none = some E' from h)
      | @cons v1 xs1 d1 ds1 r1 rs1 =>
        cases rs1 with
        | nil => exact nomatch (show none = some E' from h)
        | @cons v2 xs2 d2 ds2 r2 rs2 =>
          cases rs2 with
          | cons _ _ => exact nomatch (show none = some E' from h)
          | nil =>
            have h' : (match a.put d1 E with
              | some E1 => b.put d2 E1
              | none => none) = some E' := h
            cases h1 : a.put d1 E with
            | none => rw [h1] at h'; cases h'
            | some E1 =>
              rw [h1] at h'
              refine .inl ⟨ad, [v1, v2], rfl, hs, rfl, v1, [v2], rfl, iha r r1 h1 _ fun σ1 g1 g2 g3 => ?_⟩
              refine ⟨v2, [], rfl, ihb g1 r2 h' _ fun σ2 k1 k2 k3 => ?_⟩
              refine ⟨rfl, q σ2 k1 (k2.trans g2) fun j hj => ?_⟩
              have hj2 : j ∉ a.ix ++ b.ix := hj
              rw [List.mem_append, not_or] at hj2
              rw [k3 j hj2.2, g3 j hj2.1]
    | _ => exact nomatch (show none = some E' from h)
theorem wipe_get (σ : L2.St) : ∀ (vs : List Nat) (j : Nat), (L2.wipe σ vs)[j]? = if j ∈ vs then (if j < σ.length then some none else none) else σ[j]?
  | [], j => by simp [L2.wipe]
  | v :: vs, j => by
    unfold L2.wipe
    by_cases e : v = j
    · subst e
      rw [if_pos (List.mem_cons_self)]
      by_cases hl : v < σ.length
      · rw [if_pos hl, List.getElem?_set_self (by rw [L2.wipe_length]; exact hl)]
      · rw [if_neg hl, List.getElem?_eq_none (by rw [List.length_set, L2.wipe_length]; omega)]
    · rw [List.getElem?_set_ne e, wipe_get σ vs j]
      by_cases hm : j ∈ vs
      · rw [if_pos hm, if_pos (List.mem_cons_of_mem _ hm)]
      · rw [if_neg hm, if_neg fun z => by
          rcases List.mem_cons.mp z with z | z
          · exact e z.symm
          · exact hm z]
theorem wipe_same {σ σ' : L2.St} {vs : List Nat} (hl : σ'.length = σ.length) (h : ∀ j, j ∉ vs → σ'[j]? = σ[j]?) : L2.wipe σ' vs = L2.wipe σ vs := by
  apply List.ext_getElem?
  intro j
  rw [wipe_get, wipe_get, hl]
  by_cases hm : j ∈ vs
  · rw [if_pos hm, if_pos hm]
  · rw [if_neg hm, if_neg hm]
    exact h j hm
theorem wipe_wipe (σ : L2.St) (vs : List Nat) : L2.wipe (L2.wipe σ vs) vs = L2.wipe σ vs :=
  wipe_same (L2.wipe_length σ vs) fun j hj => by rw [wipe_get, if_neg hj]
end
structure WalkD (K : PySem.W.Frag) (B : Addr → Prop) (Hs : Hp) (J : It) (ds : List D) : Prop where
  ex : ∃ G : Hp → Prop, G Hs ∧ (∀ B1 H1, Tr B Hs B1 H1 → G H1) ∧
    Walk J ds.length G (fun i H x H' => All H H' ∧ ∀ B1, Tr B Hs B1 H → (∀ a, B1 a → H a ≠ none) → ∃ d, ds[i]? = some d ∧ Rep K B1 H' x d)
structure PDI (X : Cx) (p : Par) (tg e : Expr) (m : XA) : Prop where
  ex : ∃ wi, PI X tg e wi ∧ ∀ (B : Addr → Prop) (H : Hp) (σ : L2.St) (E : Env) (c : Sx) (P : List D → Sx → Prop) (R : It → Hp → Prop), St0 p c B H → EnvR X.K p c B H σ E → m E c P p.XP →
    (∀ ds c' J H', P ds c' → Ev p c H c' H' → p.SI c' H' → WalkD X.K (bm p B c') H' J ds → R J H') → wi σ H R
section
variable {X : Cx} {p : Par} {k : Nat} {K : PySem.W.Frag} {tg : Expr}
theorem Reps.at' {B : Addr → Prop} {H : Hp} : ∀ {vs : List V} {ds : List D}, Reps K B H vs ds → ∀ {i : Nat} {v : V}, vs[i]? = some v → ∃ d, ds[i]? = some d ∧ Rep K B H v d
  | _, _, .nil, i, v, e => by simp at e
  | _, _, .cons r t, 0, v, e => by
    have e' : _ = v := Option.some.inj e
    subst e'
    exact ⟨_, rfl, r⟩
  | _, _, .cons r t, i + 1, v, e => Reps.at' t (i := i) e
theorem walkD_list {B : Addr → Prop} {H : Hp} {a : Addr} {xs : List V} {ds : List D} (hl : H a = some (.lst xs)) (nb : ¬ B a) (rs : Reps K B H xs ds) : WalkD K B H (Itl K a) ds := by
  refine ⟨fun H => SqL K H a xs, SqL.of hl, fun B1 H1 t => SqL.of (t.ext.keep _ _ hl nb), ?_⟩
  rw [← rs.length]
  refine walk_list.mono (fun _ h => h) fun i H1 x H' hi hg y => ⟨fun b o e => by rw [y.1]; exact e, fun B1 t _ => ?_⟩
  obtain ⟨d, h1, h2⟩ := rs.at' y.2
  exact ⟨d, h1, by rw [y.1]; exact h2.tr t⟩
theorem walkD_tup {B : Addr → Prop} {H : Hp} {a : Addr} {xs : List V} {ds : List D} (hl : SqT K H a xs) (rs : Reps K B H xs ds) : WalkD K B H (Itt K a) ds := by
  refine ⟨fun H => SqT K H a xs, hl, fun B1 H1 t => t.ext.sqT hl, ?_⟩
  rw [← rs.length]
  refine walk_tup.mono (fun _ h => h) fun i H1 x H' hi hg y => ⟨fun b o e => by rw [y.1]; exact e, fun B1 t _ => ?_⟩
  obtain ⟨d, h1, h2⟩ := rs.at' y.2
  exact ⟨d, h1, by rw [y.1]; exact h2.tr t⟩
theorem rng_length (a b : Int) : (rng a b).length = (b - a).toNat := by
  unfold rng
  rw [List.length_map, List.length_range]
theorem rng_get (a b : Int) {i : Nat} (h : i < (b - a).toNat) : (rng a b)[i]? = some (.int (a + (i : Int))) := by
  unfold rng
  rw [List.getElem?_map, List.getElem?_range h]
  rfl
theorem walkD_rng {B : Addr → Prop} {H : Hp} {a b : Int} : WalkD K B H (Itr a (b - a).toNat) (rng a b) := by
  refine ⟨fun _ => True, True.intro, fun _ _ _ => True.intro, ?_⟩
  rw [rng_length]
  refine walk_range.mono (fun _ h => h) fun i H1 x H' hi hg y => ⟨fun b o e => by rw [y.1]; exact e, fun B1 t _ => ?_⟩
  refine ⟨_, rng_get a b hi, ?_⟩
  rw [y.2]
  exact .int _
def iLst (a : XE) : XA := fun E => bnd (a E) fun d => match d with | .list xs => ret xs | _ => stuck
theorem pi_lstD {e : Expr} {m : XE} (he : PD X p e m) : PDI X p tg e (iLst m) := by
  obtain ⟨te, a1, a2⟩ := he.ex
  refine ⟨_, pi_list a1, fun B H σ E c P R st r m k => ?_⟩
  refine a2 B H σ E _ _ _ st r m fun d c1 v H1 m1 e1 s1 r1 => ?_
  cases r1 with
  | lst q n t => exact ⟨_, rfl, ⟨_, SqL.of q⟩, k _ _ _ H1 m1 e1 s1 (walkD_list q n t)⟩
  | _ => exact m1.elim
theorem pi_rng1D {a : Expr} {m : XE} {pn pos : Pos} (ha : PD X p a m) (hm : X.mg "range" = none) (hg : Gl X "range" := by rfl) (hs : starEach [a] X.env = [(false, eval a X.env)] := by rfl) : PDI X p tg (.Call (.Name "range" pn) [a] [] pos) (iRng1 m) := by
  obtain ⟨ta, a1, a2⟩ := ha.ex
  refine ⟨_, pi_range1 hg hm (pa_cons a1 pa_nil (by rw [hs] <;> rfl)) hs, fun B H σ E c P R st r m k => ?_⟩
  refine a2 B H σ E _ _ _ st r m fun d c1 v H1 m1 e1 s1 r1 => ?_
  cases r1 with
  | int n =>
    obtain ⟨⟨h1, h2, h3, h4⟩, m1⟩ := m1
    refine ⟨n, rfl, by omega, by omega, k _ _ _ H1 m1 e1 s1 ?_⟩
    have w := walkD_rng (K := X.K) (B := bm p B c1) (H := H1) (a := 0) (b := n)
    rw [Int.sub_zero] at w
    exact w
  | _ => exact m1.elim
theorem forL_drop {t : Tg} {s : XS} {ds : List D} {i : Nat} {d : D} (h : ds[i]? = some d) (E : Env) : forL t s (ds.drop i) E = match t.put d E with
    | none => stuck
    | some E1 => bnd (s E1) fun o => match o with
      | .nx E' => forL t s (ds.drop (i + 1)) E'
      | .ct E' => forL t s (ds.drop (i + 1)) E'
      | .bk E' => ret (.nx E')
      | .rt d => ret (.rt d) := by
  obtain ⟨hl, e⟩ := List.getElem?_eq_some_iff.mp h
  rw [List.drop_eq_getElem_cons hl, e]
  rfl
theorem sd_for (S : SitB true true X p k) {iter : Expr} {body : List Stmt} {mi : XA} {t : Tg} {mb : XS} {pos : Pos} (hi : PDI X p tg iter mi) (hg : PG X tg (gOf X.K t)) (hb : PSSD X p body mb)
    (hs : ∀ x, foldedSetIterable iter X.env x = pure x := by intro _; rfl) : PSD X p (.For tg iter body [] pos) (sFor mi t mb) := by
  obtain ⟨wi, a1, a2⟩ := hi.ex
  obtain ⟨tb, b1, b2⟩ := hb.ex
  refine ⟨_, ps_for S.po S.calm a1 hg b1 hs, fun B H σ E c P Dn st r m nx rt bk ct => ?_⟩
  refine a2 B H σ E _ _ _ st r m fun ds c1 J H1 m1 e1 s1 w => ?_
  obtain ⟨G, g0, g1, wk⟩ := w.ex
  have st1 := st.go e1 s1
  refine for_it wk (fun i σ' H' => ∃ B' E' c', St0 p c' B' H' ∧ Tr (bm p B c1) H1 (bm p B' c') H' ∧ EnvR X.K p c' B' H' σ' E' ∧ forL t mb (ds.drop i) E' c' P p.XP) ⟨B, E, _, st1, .refl, r.go st e1, m1⟩ (fun i σ' H' _ ⟨B', E', _, _, t', _, _⟩ => g1 _ H' t') ?_ ?_
  · rintro i x σ' H' H'' hi' ⟨B', E', c', st', t', r', m'⟩ ⟨al, y⟩
    obtain ⟨d, hd, rd⟩ := y _ t' st'.trk
    rw [forL_drop hd] at m'
    cases hp : t.put d E' with
    | none => rw [hp] at m'; exact m'.elim
    | some E1 =>
      rw [hp] at m'
      have st2 : St0 p c' B' H'' := st'.go al.ev (st'.all S.ok al)
      have r2 := r'.go st' al.ev
      refine gOf_put S.nf r2 rd hp _ fun σ2 r3 _ _ => ?_
      have t2 : Tr (bm p B' c') H' (bm p B' c') H'' := .of al.ext
      refine b2 B' H'' σ2 E1 _ _ _ st2 r3 m' (fun E3 c3' B3 σ3 H3 m3 st3 t3 r3 => ?_) (fun d c3' v H3 m3 => rt d c3' v H3 m3) (fun E3 c3' B3 σ3 H3 m3 st3 t3 r3 => ?_) (fun E3 c3' B3 σ3 H3 m3 st3 t3 r3 => ?_)
      · exact ⟨B3, E3, _, st3, (t'.trans t2).trans t3, r3, m3⟩
      · exact nx E3 _ B3 σ3 H3 m3 st3 ((((st.up e1).trans t').trans t2).trans t3) r3
      · exact ⟨B3, E3, _, st3, (t'.trans t2).trans t3, r3, m3⟩
  · rintro σ' H' ⟨B', E', c', st', t', r', m'⟩
    rw [List.drop_length] at m'
    exact nx E' _ B' σ' H' m' st' ((st.up e1).trans t') r'
theorem sd_while {cb : Bool} (S : SitB cb true X p k) {c : Expr} {body : List Stmt} {mt : XT} {mb : XS} {pos : Pos} (hc : PDT X p c mt) (hb : PSSD X p body mb) : PSD X p (.While c body [] pos) (sWhile mt mb) := by
  obtain ⟨tc, a1, a2⟩ := hc.ex
  obtain ⟨tb, b1, b2⟩ := hb.ex
  refine ⟨_, ps_while S.po a1 b1, fun B H σ E c P Dn st r m nx rt bk ct => ?_⟩
  obtain ⟨n0, m⟩ := m
  refine ⟨fun n σ' H' => ∃ B' E' c', St0 p c' B' H' ∧ Tr (bm p B c) H (bm p B' c') H' ∧ EnvR X.K p c' B' H' σ' E' ∧ whileL mt mb n E' c' P p.XP, ⟨n0, B, E, _, st, .refl, r, m⟩, ?_⟩
  rintro n σ' H' ⟨B', E', c', st', t', r', m'⟩
  cases n with
  | zero => exact m'.elim
  | succ n =>
    refine a2 B' H' σ' E' _ _ _ st' r' m' fun b c1 H1 m1 e1 s1 => ?_
    have st1 := st'.go e1 s1
    have t1 : Tr (bm p B c) H (bm p B' c1) H1 := t'.trans (st'.up e1)
    have r1 := r'.go st' e1
    cases b with
    | true =>
      refine ⟨fun σ2 H2 => ∃ B2 E2 c2', St0 p c2' B2 H2 ∧ Tr (bm p B c) H (bm p B2 c2') H2 ∧ EnvR X.K p c2' B2 H2 σ2 E2 ∧ whileL mt mb n E2 c2' P p.XP, fun σ2 H2 h => ⟨n, Nat.lt_succ_self n, h⟩, ?_⟩
      exact b2 B' H1 σ' E' _ _ _ st1 r1 m1 (fun E3 c3' B3 σ3 H3 m3 st3 t3 r3 => ⟨B3, E3, _, st3, t1.trans t3, r3, m3⟩) (fun d c3' v H3 m3 => rt d c3' v H3 m3) (fun E3 c3' B3 σ3 H3 m3 st3 t3 r3 => nx E3 _ B3 σ3 H3 m3 st3 (t1.trans t3) r3) (fun E3 c3' B3 σ3 H3 m3 st3 t3 r3 => ⟨B3, E3, _, st3, t1.trans t3, r3, m3⟩)
    | false => exact nx E' _ B' σ' H1 m1 st1 t1 r1
end
end DL
end
section
namespace DL
open PySem PySem.Spec PyProof.Rows L2
def teOf (K : PySem.W.Frag) (p : Par) (m : XE) : TE := fun σ H Q => ∃ (B : Addr → Prop) (E : Env) (c : Sx) (P : D → Sx → Prop), St0 p c B H ∧ EnvR K p c B H σ E ∧ m E c P p.XP ∧
  ∀ d c' v H', P d c' → Ev p c H c' H' → p.SI c' H' → Rep K (bm p B c') H' v d → Q v H'
def ttOf (K : PySem.W.Frag) (p : Par) (m : XT) : TT := fun σ H Q => ∃ (B : Addr → Prop) (E : Env) (c : Sx) (P : Bool → Sx → Prop), St0 p c B H ∧ EnvR K p c B H σ E ∧ m E c P p.XP ∧
  ∀ b c' H', P b c' → Ev p c H c' H' → p.SI c' H' → Q b H'
section
variable {X : Cx} {p : Par} {k : Nat} {K : PySem.W.Frag}
theorem PD.pe {e : Expr} {m : XE} (h : PD X p e m) : PE X e (teOf X.K p m) := by
  obtain ⟨te, a1, a2⟩ := h.ex
  exact ⟨fun pins s σ H Q I ⟨B, E, c, P, st, r, mm, kk⟩ => a1.run pins s σ H Q I (a2 B H σ E c P Q st r mm kk)⟩
theorem PDT.pt {e : Expr} {m : XT} (h : PDT X p e m) : PT X e (ttOf X.K p m) := by
  obtain ⟨te, a1, a2⟩ := h.ex
  exact ⟨fun pins s σ H Q I ⟨B, E, c, P, st, r, mm, kk⟩ => a1.run pins s σ H Q I (a2 B H σ E c P Q st r mm kk)⟩
structure PDTs (X : Cx) (p : Par) (ifs : List Expr) (m : XT) : Prop where
  pts : PTs X ifs (ttOf X.K p m)
theorem pdts_nil : PDTs X p [] tYes := ⟨⟨fun pins s σ H Q I ⟨B, E, c, P, st, r, mm, kk⟩ => pts_nil.run pins s σ H Q I (kk true c H mm Ev.refl st.si)⟩⟩
theorem pdts_one {e : Expr} {m : XT} (h : PDT X p e m) : PDTs X p [e] m := ⟨pts_one h.pt⟩
/-- as EvR, of a list that is just made -/
def EvF (K : PySem.W.Frag) (p : Par) (te : TE) (m : XE) : Prop :=
  ∀ (B : Addr → Prop) (H : Hp) (σ : L2.St) (E : Env) (c : Sx) (P : D → Sx → Prop) (Q : VK), St0 p c B H → EnvR K p c B H σ E → m E c P p.XP →
    (∀ ds c' q xs H', P (.list ds) c' → Ev p c H c' H' → p.SI c' H' → (H q = none ∧ ¬ p.B0 c' q) → H' q = some (.lst xs) → Reps K (bm p (more B q) c') H' xs ds → Q (.ref q) H') → te σ H Q
structure PDF (X : Cx) (p : Par) (e : Expr) (m : XE) : Prop where
  ex : ∃ te, PE X e te ∧ EvF X.K p te m
theorem EvF.ev {te : TE} {m : XE} (h : EvF K p te m) : EvR K p te m := fun B H σ E c P Q st r mm kk =>
  h B H σ E c P Q st r mm fun ds c' q xs H' m1 e1 s1 hq h1 rs => kk _ c' _ H' m1 e1 s1 (.lst h1 (fun z => z.elim (fun z => st.trk q (.inl z) hq.1) hq.2) (rs.less fun _ z => z.imp .inl id))
theorem PDF.pd {e : Expr} {m : XE} (h : PDF X p e m) : PD X p e m := by
  obtain ⟨te, a1, a2⟩ := h.ex
  exact ⟨te, a1, a2.ev⟩
theorem q_new {B : Addr → Prop} {c c1 : Sx} {H H1 : Hp} {q : Addr} (st1 : St0 p c1 B H1) (e1 : Ev p c H c1 H1) (hq : H1 q = none) : H q = none ∧ ¬ p.B0 c1 q :=
  ⟨by
    cases x : H q with
    | none => rfl
    | some o => exact absurd hq (e1.ext.dom q (some_ne x)), fun z => st1.trk q (.inr z) hq⟩
theorem ext_none {B : Addr → Prop} {H H' : Hp} (e : Ext B H H') {q : Addr} (h : H' q = none) : H q = none := by
  cases x : H q with
  | none => rfl
  | some o => exact absurd h (e.dom q (some_ne x))
theorem bm_new {B : Addr → Prop} {n : Sx} {H : Hp} {q : Addr} (hq : H q = none) : ∀ a, bm p (more B q) n a → H a ≠ none → bm p B n a := fun a z nn => by
  rcases z with (z | z) | z
  · exact .inl z
  · exact absurd (z ▸ hq) nn
  · exact .inr z
theorem reps_more {B : Addr → Prop} {n : Sx} {H : Hp} {q : Addr} {xs : List V} {ds : List D} (hq : H q = none) (r : Reps K (bm p B n) H xs ds) : Reps K (bm p (more B q) n) H xs ds := r.grow (bm_new hq)
theorem rep_more {B : Addr → Prop} {n : Sx} {H : Hp} {q : Addr} {v : V} {d : D} (hq : H q = none) (r : Rep K (bm p B n) H v d) : Rep K (bm p (more B q) n) H v d := r.grow (bm_new hq)
theorem pf_lst {cb : Bool} {vb : Bool} (S : SitB cb vb X p k) {es : List Expr} {pos : Pos} {m : XA} (h : PDA X p es m) : PDF X p (.List es pos) (eLst m) := by
  obtain ⟨ta, a1, a2⟩ := h.ex
  refine ⟨_, pe_lst a1, fun B H σ E c P Q s re m k => ?_⟩
  refine a2 B H σ E _ _ _ s re m fun ds c1 vs H1 m1 e1 s1 r1 => ?_
  have st1 := s.go e1 s1
  refine ⟨by rw [r1.length]; exact small_line m1.1, fun q hq => ?_⟩
  exact k _ _ q _ _ m1.2 (e1.trans (All.new hq).ev) (st1.all S.ok (All.new hq)) (q_new st1 e1 hq) upd_same ((reps_more hq r1).mono (All.new hq).ext)
/-- list(x) -/
theorem pf_list {cb : Bool} {vb : Bool} (S : SitB cb vb X p k) {a : Expr} {m : XE} {pn pos : Pos} (hm : X.mg "list" = none) (ha : PD X p a m) (hg : Gl X "list" := by rfl) (hs : starEach [a] X.env = (false, eval a X.env) :: starEach [] X.env := by rfl) : PDF X p (.Call (.Name "list" pn) [a] [] pos) (eB1 .list m) := by
  obtain ⟨ta, a1, a2⟩ := ha.ex
  refine ⟨_, pe_callTy call_list_of hg hm (by decide +kernel) (pa_cons a1 pa_nil hs) (by decide) (by decide) hs (by rfl), fun B H σ E c P Q s re m k => ?_⟩
  refine a2 B H σ E _ _ _ s re m fun d c1 v H1 m1 e1 s1 r1 => ?_
  have st1 := s.go e1 s1
  cases r1 with
  | lst e n t => exact ⟨_, _, rfl, .inl (SqL.of e), fun q hq => k _ _ q _ _ m1 (e1.trans (All.new hq).ev) (st1.all S.ok (All.new hq)) (q_new st1 e1 hq) upd_same ((reps_more hq t).mono (All.new hq).ext)⟩
  | tup e t => exact ⟨_, _, rfl, .inr e, fun q hq => k _ _ q _ _ m1 (e1.trans (All.new hq).ev) (st1.all S.ok (All.new hq)) (q_new st1 e1 hq) upd_same ((reps_more hq t).mono (All.new hq).ext)⟩
  | _ => exact m1.elim
/-- name = a new list, owned -/
theorem own_put {B : Addr → Prop} {H H' : Hp} {σ : L2.St} {E : Env} {n n' : Sx} {q : Addr} {xs : List V} {ds : List D} (hp : ∀ i, p.pin i = none) (nf : p.fx = none) (i : Nat) (r : EnvR K p n B H σ E) (st : St0 p n B H) (e : Ev p n H n' H') (si : p.SI n' H') (hq : H q = none ∧ ¬ p.B0 n' q) (h1 : H' q = some (.lst xs)) (rs : Reps K (bm p (more B q) n') H' xs ds) :
    EnvR K p n' (more B q) H' (σ.set i (some (.ref q))) (E.set i (.own ds)) ∧ St0 p n' (more B q) H' ∧ Tr (bm p B n) H (bm p (more B q) n') H' := by
  have st1 := st.go e si
  have r1 := r.go st e
  have nb : ¬ B q := fun z => st.trk q (.inl z) hq.1
  have em : Tr (bm p (more B q) n) H (bm p (more B q) n') H' := e.tr
  obtain ⟨g1, g2⟩ := r1.own hp nf st1 i h1 nb hq.2 (ext_none st.ext.ext hq.1) (fun a z e => nb (e ▸ z)) rs
    (fun j v d hj _ hs => by
      obtain ⟨s, k1, k2⟩ := r.at_ j _ hj
      rw [hs] at k1
      cases k1
      cases k2 with
      | val z => exact (rep_more hq.1 z).tr em)
    (fun j a ys es hj hs hl => by
      obtain ⟨s, k1, k2⟩ := r.at_ j _ hj
      rw [hs] at k1
      cases k1
      cases k2 with
      | own b n' nc h0 hl' z =>
        have := e.ext.keep _ _ hl' n'
        rw [hl] at this
        cases this
        exact (reps_more hq.1 z).tr em)
  refine ⟨g1, g2, (st.up e).ext, fun a z nn => ?_⟩
  rcases z with (z | z) | z
  · exact .inl z
  · exact absurd (z ▸ hq.1) nn
  · exact .inr (e.old a z nn)
theorem sd_own {cb : Bool} (S : SitB cb true X p k) {i : Nat} {x : Str} {e : Expr} {m : XE} {pos pos' : Pos} (hi : X.N[i]? = some x) (hx : Loc X.env.scope x) (he : PDF X p e m) (hs : swapsWith e (some (.Name x pos')) pos.line X.env = pure false := by rfl)
    (hf : X.fn x = true ∨ X.env.scope.names.lookup x = some .local := by first | exact .inl rfl | exact .inr rfl)  (hp : ∀ i, p.pin i = none := by assumption): PSD X p (.Assign [.Name x pos'] e pos) (sOwn i m) := by
  obtain ⟨te, a1, a2⟩ := he.ex
  refine ⟨_, ps_set S.nd hi hx a1 hs hf, fun B H σ E c P Dn st r m nx rt bk ct => ?_⟩
  refine a2 B H σ E _ _ _ st r m fun ds c1 q xs H1 m1 e1 s1 hq h1 rs => ?_
  obtain ⟨g1, g2, g3⟩ := own_put hp S.nf i r st e1 s1 hq h1 rs
  exact nx _ _ _ _ H1 m1 g2 g3 g1
/-- a, b = x, y -/
theorem sd_par (S : SitB true true X p k) {i j : Nat} {x y : Str} {a b : Expr} {ma mb : XE} {px py pt pos : Pos} {kt k2 pt2} (hi : X.N[i]? = some x) (hj : X.N[j]? = some y) (hij : i ≠ j) (hx : X.env.scope.names.lookup x = some .local) (hy : X.env.scope.names.lookup y = some .local)
    (ha : PD X p a ma) (hb : PD X p b mb) (hw : swappedStores [.Tuple [.Name x px, .Name y py] kt pt] (.Tuple [a, b] k2 pt2) X.env = pure (some [x, y])) (hs : swapsWithSole [.Tuple [.Name x px, .Name y py] kt pt] (.Tuple [a, b] k2 pt2) pos.line X.env = pure false := by rfl)
    (h1 : starEach [a, b] X.env = (false, eval a X.env) :: starEach [b] X.env := by rfl) (h2 : starEach [b] X.env = (false, eval b X.env) :: starEach [] X.env := by rfl) :
    PSD X p (.Assign [.Tuple [.Name x px, .Name y py] kt pt] (.Tuple [a, b] k2 pt2) pos) (sPar i j ma mb) := by
  obtain ⟨ta, a1, a2⟩ := ha.ex
  obtain ⟨tb, b1, b2⟩ := hb.ex
  refine ⟨_, ps_par S.calm S.nd hi hj hij hx hy (pa_cons a1 (pa_cons b1 pa_nil h2) h1) hw hs, fun B H σ E c P Dn st r m nx rt bk ct => ?_⟩
  refine a2 B H σ E _ _ _ st r m fun d c1 v H1 m1 e1 s1 r1 => ?_
  have st1 := st.go e1 s1
  refine b2 B H1 σ E _ _ _ st1 (r.go st e1) m1 fun d2 c2' v2 H2 m2 e2 s2 r2 => ?_
  have st2 := st1.go e2 s2
  exact ⟨v, v2, rfl, nx _ _ B _ H2 m2 st2 (st.up (e1.trans e2)) ((((r.go st e1).go st1 e2).val S.nf i (r1.tr (st1.up e2))).val S.nf j r2)⟩
/-- a, b = [..], y: the first one owned -/
def sParO (i j : Nat) (a b : XE) : XS := fun E => bnd (a E) fun x => bnd (b E) fun y => match x with
  | .list ds => ret (.nx ((E.set i (.own ds)).set j (.val y)))
  | _ => stuck
end
section
variable {X : Cx} {p : Par} {k : Nat} {K : PySem.W.Frag}
/-- the own list at q is another one -/
theorem own_upd {B : Addr → Prop} {H : Hp} {σ : L2.St} {E : Env} {n : Sx} {i : Nat} {q : Addr} {xs ys : List V} {ds es : List D} (nf : p.fx = none) (ok : p.Ok K X.mg) (r : EnvR K p n B H σ E) (st : St0 p n B H) (hi : E[i]? = some (.own ds)) (hs : σ[i]? = some (some (.ref q))) (hq : H q = some (.lst xs))
    (rs : Reps K (bm p B n) H ys es) : EnvR K p n B (upd H q (.lst ys)) σ (E.set i (.own es)) ∧ St0 p n B (upd H q (.lst ys)) ∧ Tr (bm p B n) H (bm p B n) (upd H q (.lst ys)) := by
  obtain ⟨s, k1, k2⟩ := r.at_ i _ hi
  rw [hs] at k1
  cases k1
  cases k2 with
  | own b n' nc h0 hl z =>
    have ex : Ext (bm p B n) H (upd H q (.lst ys)) := by
      refine ⟨fun a o e nb => ?_, fun a o e im => ?_, fun a nn => ?_⟩
      · have ne : a ≠ q := fun z => nb (by rw [z]; exact .inl b)
        rw [upd_ne ne]
        exact e
      · have ne : a ≠ q := fun z => by
          subst z
          rw [hq] at e
          cases e
          exact im
        rw [upd_ne ne]
        exact e
      · by_cases z : a = q
        · rw [z, upd_same]
          exact fun z => nomatch z
        · rw [upd_ne z]
          exact nn
    refine ⟨⟨by rw [List.length_set]; exact r.len, fun j e he => ?_, fun a b' x zs ws g1 g2 g3 g4 => ?_, .no nf, fun j a zs hp hj => ?_⟩, ⟨st.subc, fun a z => ex.dom a (st.trk a z), ?_, ?_, st.old⟩, .of ex⟩
    · rcases getElem?_set_cases he with ⟨rfl, hl', rfl⟩ | ⟨ne, he⟩
      · exact ⟨_, hs, .own b n' nc h0 upd_same (rs.mono ex)⟩
      · obtain ⟨s', g1, g2⟩ := r.at_ j e he
        refine ⟨s', g1, ?_⟩
        cases g2 with
        | unk _ => exact .unk _
        | val z => exact .val (z.mono ex)
        | @own a2 _ _ b2 n2 nc2 h02 hl2 z2 =>
          have na : a2 ≠ q := fun z => ne (r.nd i j q _ _ hi he hs (by rw [← z]; exact g1))
          exact .own b2 n2 nc2 h02 (by rw [upd_ne na]; exact hl2) (z2.mono ex)
        | stm => exact .stm
        | scr z => exact .scr fun H2 hk => z H2 fun o ho him => hk o (ex.imm _ o ho him) him
    · rcases getElem?_set_cases g1 with ⟨rfl, _, _⟩ | ⟨n1, g1⟩
      · rcases getElem?_set_cases g2 with ⟨rfl, _, _⟩ | ⟨n2, g2⟩
        · rfl
        · exact r.nd _ _ x _ _ hi g2 g3 g4
      · rcases getElem?_set_cases g2 with ⟨rfl, _, _⟩ | ⟨n2, g2⟩
        · exact r.nd _ _ x _ _ g1 hi g3 g4
        · exact r.nd _ _ x _ _ g1 g2 g3 g4
    · rcases getElem?_set_cases hj with ⟨rfl, _, _⟩ | ⟨n1, hj⟩
      · exact r.pn _ a _ hp hi
      · exact r.pn j a zs hp hj
    · refine ok.stab n H _ st.si (fun a o ha e => ?_) ex.imm
      have na : a ≠ q := fun z => n' (by rw [← z]; exact ha)
      rw [upd_ne na]
      exact e
    · refine ⟨⟨fun a o e nb => ?_, fun a o e im => ex.imm a o (st.ext.ext.imm a o e im) im, fun a nn => ex.dom a (st.ext.ext.dom a nn)⟩, st.ext.up, st.ext.old, fun g a z => ex.dom a (st.ext.dom g a z)⟩
      have na : a ≠ q := fun z => by
        subst z
        rw [h0] at e
        cases e
      rw [upd_ne na]
      exact st.ext.ext.keep a o e nb
theorem own_at {B : Addr → Prop} {n : Sx} {H : Hp} {σ : L2.St} {E : Env} {i : Nat} {ds : List D} (r : EnvR K p n B H σ E) (hi : E[i]? = some (.own ds)) : ∃ q xs, σ[i]? = some (some (.ref q)) ∧ B q ∧ ¬ p.B0 n q ∧ H q = some (.lst xs) ∧ Reps K (bm p B n) H xs ds := by
  obtain ⟨s, k1, k2⟩ := r.at_ i _ hi
  cases k2 with
  | own b n nc h0 hl z => exact ⟨_, _, k1, b, n, hl, z⟩
/-- xs.append(e) -/
theorem sd_app {cb : Bool} (S : SitB cb true X p k) (i : Nat) {x : Str} {e : Expr} {me : XE} {px pa pc pos : Pos} (he : PD X p e me)
    (hpe : ∀ {te : TE}, PE X e te → PE X (.Call (.Attribute (.Name x px) "append" pa) [e] [] pc) (tBM X.K "list" rAppend (tVar i) (tCons te tNil)))
    (hs : swapsWith (.Call (.Attribute (.Name x px) "append" pa) [e] [] pc) none pos.line X.env = pure false := by rfl) :
    PSD X p (.Expr (.Call (.Attribute (.Name x px) "append" pa) [e] [] pc) pos) (sApp i me) := by
  obtain ⟨te, a1, a2⟩ := he.ex
  refine ⟨_, ps_expr (hpe a1) hs, fun B H σ E c P Dn st r m nx rt bk ct => ?_⟩
  have m' : (match E[i]? with | some (.own ds) => bnd (me E) fun d => grd (small ds.length) (ret (Out.nx (E.set i (.own (ds ++ [d]))))) | _ => stuck) c P p.XP := m
  cases h : E[i]? with
  | none => rw [h] at m'; exact m'.elim
  | some y =>
    rw [h] at m'
    cases y with
    | own ds =>
      obtain ⟨q, xs, hsq, hb, hn, hl, rs⟩ := own_at r h
      refine ⟨.ref q, hsq, .inl ⟨rfl, xs, SqL.of hl⟩, ?_⟩
      refine a2 B H σ E _ _ _ st r m' fun d c1 v H1 m1 e1 s1 r1 => ?_
      have st1 := st.go e1 s1
      have rr := r.go st e1
      have hl1 := e1.ext.keep _ _ hl hn
      have rs1 := rs.tr (st.up e1)
      obtain ⟨g1, g2, g3⟩ := own_upd (ys := xs ++ [v]) (es := ds ++ [d]) S.nf S.ok rr st1 h hsq hl1 (rs1.append (.cons r1 .nil))
      exact ⟨q, xs, v, rfl, rfl, hl1, by rw [rs.length]; exact small_lt m1.1, nx _ _ _ _ _ m1.2 g2 ((st.up e1).trans g3) g1⟩
    | _ => exact m'.elim
end
end DL
end
section
namespace DL
open PySem PySem.Spec PyProof.Rows L2
section
variable {X : Cx} {p : Par} {k : Nat} {K : PySem.W.Frag}
theorem sd_setI {cb : Bool} (S : SitB cb true X p k) (i : Nat) {x : Str} {a e : Expr} {ma me : XE} {px pt pos : Pos} (hg : PG X (.Subscript (.Name x px) a pt) (gSub (tVar i) (teOf X.K p ma) rSetL)) (he : PD X p e me)
    (hs : swapsWithSole [.Subscript (.Name x px) a pt] e pos.line X.env = pure false := by rfl) (hw : swappedStores [.Subscript (.Name x px) a pt] e X.env = pure none := by rfl) :
    PSD X p (.Assign [.Subscript (.Name x px) a pt] e pos) (sSet i ma me) := by
  obtain ⟨te, b1, b2⟩ := he.ex
  refine ⟨_, ps_asg b1 hg hs hw, fun B H σ E c P Dn st r m nx rt bk ct => ?_⟩
  have m' : (match E[i]? with | some (.own ds) => bnd (me E) fun d => bnd (ma E) fun n => (match n with | .int z => (match L2.ixN ds.length z with | some j => ret (Out.nx (E.set i (.own (ds.set j d)))) | none => stuck) | _ => stuck) | _ => stuck) c P p.XP := m
  cases h : E[i]? with
  | none => rw [h] at m'; exact m'.elim
  | some y =>
    rw [h] at m'
    cases y with
    | own ds =>
      obtain ⟨q, xs, hsq, hb, hn, hl, rs⟩ := own_at r h
      refine b2 B H σ E _ _ _ st r m' fun d c1 v H1 m1 e1 s1 r1 => ?_
      have st1 := st.go e1 s1
      refine ⟨.ref q, hsq, ?_⟩
      refine ⟨B, E, c1, _, st1, r.go st e1, m1, fun d2 c2' v2 H2 m2 e2 s2 r2 => ?_⟩
      have st2 := st1.go e2 s2
      cases r2 with
      | int z =>
        have m2' : (match L2.ixN ds.length z with | some j => ret (Out.nx (E.set i (.own (ds.set j d)))) | none => stuck) c2' P p.XP := m2
        cases hj : L2.ixN ds.length z with
        | none => rw [hj] at m2'; exact m2'.elim
        | some j =>
          rw [hj] at m2'
          have hl1 := e1.ext.keep _ _ hl hn
          have hl2 := e2.ext.keep _ _ hl1 fun z => hn (e1.old _ z (some_ne hl))
          have rs2 := (rs.tr (st.up e1)).tr (st1.up e2)
          obtain ⟨g1, g2, g3⟩ := own_upd (ys := xs.set j v) (es := ds.set j d) S.nf S.ok ((r.go st e1).go st1 e2) st2 h hsq hl2 (Reps.set (r1.tr (st1.up e2)) j rs2)
          exact ⟨q, xs, z, j, rfl, rfl, hl2, by rw [rs.length]; exact hj, nx _ _ _ _ _ m2' g2 ((st.up (e1.trans e2)).trans g3) g1⟩
      | _ => exact m2.elim
    | _ => exact m'.elim
theorem less_tr {B : Addr → Prop} {n : Sx} {H : Hp} {q : Addr} : Tr (bm p B n) H (bm p (less B q) n) H := ⟨Ext.refl, fun a z _ => z.imp (fun z => z.1) id⟩
theorem sd_rel {cb : Bool} (S : SitB cb true X p k) (i : Nat) {s : Stmt} {m : XS} (h : PSD X p s m) : PSD X p s (sRel i m) := by
  obtain ⟨ts, a1, a2⟩ := h.ex
  refine ⟨ts, a1, fun B H σ E c P Dn st r mm nx rt bk ct => ?_⟩
  have m' : (match E[i]? with | some (.own ds) => m (E.set i (.val (.list ds))) | _ => m E) c P p.XP := mm
  cases q : E[i]? with
  | none => rw [q] at m'; exact a2 B H σ E _ P Dn st r m' nx rt bk ct
  | some y =>
    rw [q] at m'
    cases y with
    | own ds =>
      obtain ⟨w, r1, st1, _, _, _⟩ := r.rel S.nf st q
      exact a2 (less B w) H σ _ _ P Dn st1 r1 m' (fun E2 c2' B2 σ2 H2 m2 st2 t2 r2 => nx E2 c2' B2 σ2 H2 m2 st2 (less_tr.trans t2) r2) rt (fun E2 c2' B2 σ2 H2 m2 st2 t2 r2 => bk E2 c2' B2 σ2 H2 m2 st2 (less_tr.trans t2) r2) (fun E2 c2' B2 σ2 H2 m2 st2 t2 r2 => ct E2 c2' B2 σ2 H2 m2 st2 (less_tr.trans t2) r2)
    | _ => exact a2 B H σ E _ P Dn st r m' nx rt bk ct
theorem pd_bor {cb : Bool} (S : SitB cb true X p k) (i : Nat) {e : Expr} {m : XE} (h : PD X p e m) : PD X p e (eBor i m) := by
  obtain ⟨te, a1, a2⟩ := h.ex
  refine ⟨te, a1, fun B H σ E c P Q st r mm kk => ?_⟩
  have m' : (match E[i]? with | some (.own ds) => bnd (m (E.set i (.val (.list ds)))) fun d => grd (flat d = true) (ret d) | _ => m E) c P p.XP := mm
  cases q : E[i]? with
  | none => rw [q] at m'; exact a2 B H σ E c P Q st r m' kk
  | some y =>
    rw [q] at m'
    cases y with
    | own ds =>
      obtain ⟨w, r1, st1, n0, _, hb⟩ := r.rel S.nf st q
      exact a2 (less B w) H σ _ _ _ Q st1 r1 m' fun d c1 v H1 m1 e1 s1 r1 => kk d c1 v H1 m1.2 e1 s1 (r1.flat m1.1)
    | _ => exact a2 B H σ E c P Q st r m' kk
theorem pt_bor {cb : Bool} (S : SitB cb true X p k) (i : Nat) {e : Expr} {m : XT} (h : PDT X p e m) : PDT X p e (tBor i m) := by
  obtain ⟨te, a1, a2⟩ := h.ex
  refine ⟨te, a1, fun B H σ E c P Q st r mm kk => ?_⟩
  have m' : (match E[i]? with | some (.own ds) => m (E.set i (.val (.list ds))) | _ => m E) c P p.XP := mm
  cases q : E[i]? with
  | none => rw [q] at m'; exact a2 B H σ E c P Q st r m' kk
  | some y =>
    rw [q] at m'
    cases y with
    | own ds =>
      obtain ⟨w, r1, st1, n0, _, hb⟩ := r.rel S.nf st q
      exact a2 (less B w) H σ _ _ _ Q st1 r1 m' fun d c1 H1 m1 e1 s1 => kk d c1 H1 m1 e1 s1
    | _ => exact a2 B H σ E c P Q st r m' kk
/-- within a comprehension: no error may leave -/
def Par.quiet (p : Par) : Par := { p with XP := fun _ _ => False, EK := fun _ _ _ _ => False, fx := none }
theorem EvB.quiet {c c' : Sx} {H H' : Hp} (e : Ev p c H c' H') : Ev p.quiet c H c' H' := ⟨e.ext, e.up, e.old, e.dom⟩
theorem EvB.loud {c c' : Sx} {H H' : Hp} (e : Ev p.quiet c H c' H') : Ev p c H c' H' := ⟨e.ext, e.up, e.old, e.dom⟩
theorem St0.quiet {n : Sx} {B : Addr → Prop} {H : Hp} (s : St0 p n B H) : St0 p.quiet n B H := ⟨s.subc, s.trk, s.si, s.ext.quiet, s.old⟩
theorem St0.loud {n : Sx} {B : Addr → Prop} {H : Hp} (s : St0 p.quiet n B H) : St0 p n B H := ⟨s.subc, s.trk, s.si, s.ext.loud, s.old⟩
theorem Slot.quiet {n : Sx} {B : Addr → Prop} {H : Hp} {x : Option V} {y : Ent} (s : Slot K p n B H x y) : Slot K p.quiet n B H x y := by
  cases s with
  | unk _ => exact .unk _
  | val r => exact .val r
  | own b n nc h0 hl r => exact .own b n nc h0 hl r
  | stm => exact .stm (p := p.quiet)
  | scr q => exact .scr q
theorem EnvR.quiet {n : Sx} {B : Addr → Prop} {H : Hp} {σ : L2.St} {E : Env} (r : EnvR K p n B H σ E) : EnvR K p.quiet n B H σ E :=
  ⟨r.len, fun i e q => let ⟨s, h1, h2⟩ := r.at_ i e q; ⟨s, h1, h2.quiet⟩, r.nd, .no rfl, r.pn⟩
theorem SitB.quiet {cb vb : Bool} (S : SitB cb vb X p k) {s : Shared} {H : Hp} {scope : Scope} {cenv : PySem.Env} {fp : List Addr} : SitB cb true (X.blk s H scope cenv fp) p.quiet k :=
  ⟨S.calm_, S.gd, S.rm, S.nd, ⟨S.ok.stab, fun _ _ _ _ _ _ _ _ _ _ _ h => h.elim⟩, PassesOwn.never, takes0D, fun _ => rfl, S.sm⟩
theorem compL_drop {t : Tg} {mt : XT} {me : XE} {ds acc : List D} {i : Nat} {d : D} (h : ds[i]? = some d) (E : Env) : compL t mt me (ds.drop i) acc E = match t.put d E with
    | none => stuck
    | some E1 => bnd (mt E1) fun c => if c = true then bnd (me E1) fun y => grd (small acc.length) (compL t mt me (ds.drop (i + 1)) (acc ++ [y]) E) else compL t mt me (ds.drop (i + 1)) acc E := by
  obtain ⟨hl, e⟩ := List.getElem?_eq_some_iff.mp h
  rw [List.drop_eq_getElem_cons hl, e]
  rfl
/-- the state's places and one new place -/
def plusQ (p : Par) (n : Sx) (q : Addr) : Addr → Prop := fun a => p.B0 n a ∨ a = q
structure EvQ (p : Par) (q : Addr) (n : Sx) (H : Hp) (n' : Sx) (H' : Hp) : Prop where
  ext : Ext (plusQ p n q) H H'
  up : ∀ a, p.B0 n a → p.B0 n' a
  old : ∀ a, p.B0 n' a → H a ≠ none → p.B0 n a
  dom : (∀ a, p.B0 n a → H a ≠ none) → ∀ a, p.B0 n' a → H' a ≠ none
theorem EvB.q {n n' : Sx} {H H' : Hp} {q : Addr} (e : Ev p n H n' H') : EvQ p q n H n' H' := ⟨e.ext.more fun a z => .inl z, e.up, e.old, e.dom⟩
theorem EvQ.trans {c c' c'' : Sx} {H H' H'' : Hp} {q : Addr} (a : EvQ p q c H c' H') (b : EvQ p q c' H' c'' H'') : EvQ p q c H c'' H'' where
  ext := ⟨fun x o e n => b.ext.keep x o (a.ext.keep x o e n) fun z => n (z.imp (fun z => a.old x z (some_ne e)) id), fun x o e i => b.ext.imm x o (a.ext.imm x o e i) i, fun x n => b.ext.dom x (a.ext.dom x n)⟩
  up := fun x h => b.up x (a.up x h)
  old := fun x z n => a.old x (b.old x z (a.ext.dom x n)) n
  dom := fun q => b.dom (a.dom q)
theorem EvQ.of {n : Sx} {H H' : Hp} {q : Addr} (e : Ext (plusQ p n q) H H') : EvQ p q n H n H' := ⟨e, fun _ z => z, fun _ z _ => z, fun g a z => e.dom a (g a z)⟩
theorem EvQ.ev {n n' : Sx} {H H' : Hp} {q : Addr} (hq : H q = none) (e : EvQ p q n H n' H') : Ev p n H n' H' :=
  ⟨⟨fun a o h n => e.ext.keep a o h (fun z => z.elim n (fun z => absurd (z ▸ h) (by rw [hq]; exact fun z => nomatch z))), e.ext.imm, e.ext.dom⟩, e.up, e.old, e.dom⟩
theorem tr_q {n n' : Sx} {B : Addr → Prop} {H H' : Hp} {q : Addr} (_ : St0 p n B H) (hq : H q = none) (e : EvQ p q n H n' H') : Tr (bm p B n) H (bm p (more B q) n') H' :=
  ⟨(e.ev hq).tr.ext, fun a z nn => by
    rcases z with (z | z) | z
    · exact .inl z
    · exact absurd (z ▸ hq) nn
    · exact .inr (e.old a z nn)⟩
theorem st_q {n n' : Sx} {B : Addr → Prop} {H H' : Hp} {q : Addr} (st : St0 p n B H) (hq : H q = none) (e : EvQ p q n H n' H') (si : p.SI n' H') (hn : H' q ≠ none) : St0 p n' (more B q) H' := by
  have s' := st.go (e.ev hq) si
  refine ⟨fun a z => (s'.subc a z).imp .inl id, fun a z => ?_, si, s'.ext, fun a b h => b.elim (fun z => s'.old a z h) fun z => absurd hq (st.ext.ext.dom q (z ▸ h))⟩
  rcases z with (z | z) | z
  · exact s'.trk a (.inl z)
  · rw [z]
    exact hn
  · exact s'.trk a (.inr z)
theorem env_q0 (nf : p.fx = none) {n n' : Sx} {B : Addr → Prop} {H H' : Hp} {q : Addr} {σ : L2.St} {E : Env} (r : EnvR K p n B H σ E) (st : St0 p n B H) (hq : H q = none) (e : EvQ p q n H n' H') : EnvR K p n' (more B q) H' σ E := by
  have em : Tr (bm p (more B q) n) H (bm p (more B q) n') H' := (e.ev hq).tr
  refine ⟨r.len, fun i x h => ?_, r.nd, .no nf, r.pn⟩
  obtain ⟨s, k1, k2⟩ := r.at_ i x h
  refine ⟨s, k1, ?_⟩
  cases k2 with
  | unk _ => exact .unk _
  | val z => exact .val ((rep_more hq z).tr em)
  | own b n' nc h0 hl z => exact .own (.inl b) (fun z => n' (e.old _ z (some_ne hl))) nc h0 ((e.ev hq).ext.keep _ _ hl n') ((reps_more hq z).tr em)
  | stm => exact .stm
  | scr z => exact .scr fun H2 hk => z H2 fun o ho hi => hk o (e.ext.imm _ o ho hi) hi
theorem env_q {n n' : Sx} {B : Addr → Prop} {H H' : Hp} {q : Addr} {σ : L2.St} {E : Env} (r : EnvR K p n B H σ E) (st : St0 p n B H) (hq : H q = none) (e : EvQ p q n H n' H') : EnvR K p.quiet n' (more B q) H' σ E :=
  env_q0 (p := p.quiet) rfl r.quiet st.quiet hq ⟨e.ext, e.up, e.old, e.dom⟩
theorem upd_q {B : Addr → Prop} {H : Hp} {q : Addr} {xs ys : List V} (b : B q) (hq : H q = some (.lst xs)) : Ext B H (upd H q (.lst ys)) := by
  refine ⟨fun a o e nb => ?_, fun a o e im => ?_, fun a nn => ?_⟩
  · have ne : a ≠ q := fun z => nb (by rw [z]; exact b)
    rw [upd_ne ne]
    exact e
  · have ne : a ≠ q := fun z => by
      subst z
      rw [hq] at e
      cases e
      exact im
    rw [upd_ne ne]
    exact e
  · by_cases z : a = q
    · rw [z, upd_same]
      exact fun z => nomatch z
    · rw [upd_ne z]
      exact nn
theorem ev_comp {cb : Bool} {vb : Bool} (S : SitB cb vb X p k) {wi : TI} {t : Tg} {mi : XA} {mt : XT} {me : XE} {vs : List Nat}
    (hi : ∀ (B : Addr → Prop) (H : Hp) (σ : L2.St) (E : Env) (c : Sx) (P : List D → Sx → Prop) (R : It → Hp → Prop), St0 p c B H → EnvR X.K p c B H σ E → mi E c P p.XP →
      (∀ ds c' J H', P ds c' → Ev p c H c' H' → p.SI c' H' → WalkD X.K (bm p B c') H' J ds → R J H') → wi σ H R) (hx : ∀ j ∈ t.ix, j ∈ vs) :
    EvF X.K p (tLc wi (gOf X.K t) (ttOf X.K p.quiet mt) (teOf X.K p.quiet me) vs) (eComp mi t mt me vs) := by
  intro B H σ E c P Q st r m kk
  refine hi B H σ E _ _ _ st r m fun ds c1 J H1 m1 e1 s1 w => ?_
  have st1 := st.go e1 s1
  intro q hq
  have q0 := q_new st1 e1 hq
  obtain ⟨G, g0, g1, wk⟩ := w.ex
  have r1 := r.go st e1
  have x0 : EvQ p q c1 H1 c1 (upd H1 q (.lst [])) := .of (All.new hq).ext
  refine lc_it wk (fun i H' => ∃ acc accD c', H' q = some (.lst acc) ∧ Reps X.K (bm p (more B q) c') H' acc accD ∧ p.SI c' H' ∧ (¬ p.B0 c' q ∧ EvQ p q c1 H1 c' H') ∧ compL t mt me (ds.drop i) accD (wipeE E vs) c' (fun ys n => P (.list ys) n) (fun _ _ => False))
    ⟨[], [], c1, upd_same, .nil, st1.all S.ok (All.new hq), ⟨q0.2, x0⟩, m1⟩ (fun i H' _ ⟨acc, accD, c', h1, h2, h3, h4, h5⟩ => g1 _ H' (tr_q st1 hq h4.2)) ?_ ?_
  · rintro i x H' H'' hi' ⟨acc, accD, c', h1, h2, h3, ⟨nq, h4⟩, h5⟩ ⟨al, y⟩
    have stq := st_q st1 hq h4 h3 (by rw [h1]; exact fun z => nomatch z)
    obtain ⟨d, hd, rd⟩ := y _ (tr_q st1 hq h4) stq.trk
    rw [compL_drop hd] at h5
    cases hp : t.put d (wipeE E vs) with
    | none => rw [hp] at h5; exact h5.elim
    | some E1 =>
      rw [hp] at h5
      have h4' : EvQ p q c1 H1 c' H'' := h4.trans (All.ev (Z := p.B0) al).q
      have s'' : p.SI c' H'' := stq.all S.ok al
      have hq'' : H'' q = some (.lst acc) := al q _ h1
      have stq2 := st_q st1 hq h4' s'' (by rw [hq'']; exact fun z => nomatch z)
      have rq2 := env_q r1 st1 hq h4'
      refine gOf_put rfl (rq2.wipe rfl vs) rd hp _ fun σ2 g2 gl gx => ?_
      refine ⟨?_, ?_⟩
      · exact (wipe_same gl fun j hj => gx j fun z => hj (hx j z)).trans (wipe_wipe σ vs)
      · refine ⟨more B q, E1, c', _, stq2.quiet, g2, h5, fun b c2 H3 m3 e3 s3 => ?_⟩
        have h43 : EvQ p q c1 H1 c2 H3 := h4'.trans e3.loud.q
        have nq3 : ¬ p.B0 c2 q := fun z => nq (e3.old q z (some_ne hq''))
        have hq3 : H3 q = some (.lst acc) := e3.ext.keep q _ hq'' nq
        have rs3 : Reps X.K (bm p (more B q) c2) H3 acc accD := (h2.mono al.ext).tr (stq2.up e3.loud)
        cases b with
        | false => exact ⟨acc, accD, c2, hq3, rs3, s3, ⟨nq3, h43⟩, m3⟩
        | true =>
          have stq3 := st_q st1 hq h43 s3 (by rw [hq3]; exact fun z => nomatch z)
          refine ⟨more B q, E1, c2, _, stq3.quiet, g2.go stq2.quiet e3, m3, fun y c4 v H4 m4 e4 s4 r4 => ?_⟩
          have h44 : EvQ p q c1 H1 c4 H4 := h43.trans e4.loud.q
          have nq4 : ¬ p.B0 c4 q := fun z => nq3 (e4.old q z (some_ne hq3))
          have hq4 : H4 q = some (.lst acc) := e4.ext.keep q _ hq3 nq3
          have rs4 := rs3.tr (stq3.up e4.loud)
          have x5 : Ext (plusQ p c4 q) H4 (upd H4 q (.lst (acc ++ [v]))) := upd_q (.inr rfl) hq4
          have x5' : Ext (bm p (more B q) c4) H4 (upd H4 q (.lst (acc ++ [v]))) := upd_q (.inl (.inr rfl)) hq4
          refine ⟨acc, hq4, by rw [rs4.length]; exact small_lt m4.1, acc ++ [v], accD ++ [y], c4, upd_same, (rs4.append (.cons r4 .nil)).mono x5', ?_, ⟨nq4, h44.trans (.of x5)⟩, m4.2⟩
          refine S.ok.stab c4 H4 _ s4 (fun a o ha e => ?_) x5.imm
          have na : a ≠ q := fun z => nq4 (by rw [← z]; exact ha)
          rw [upd_ne na]
          exact e
  · rintro H' ⟨acc, accD, c', h1, h2, h3, ⟨nq, h4⟩, h5⟩
    rw [List.drop_length] at h5
    exact kk accD c' q acc H' h5 (e1.trans (h4.ev hq)) h3 ⟨q0.1, nq⟩ h1 h2
theorem pf_comp {vb : Bool} (S : SitB true vb X p k) {elt tg iter : Expr} {ifs : List Expr} {scope : Scope} {pos : Pos} {t : Tg} {mi : XA} {mt : XT} {me : XE} (own : List (Str × Nat)) (hi : PDI X p tg iter mi) (ok : BlkOk X.N X.env.scope scope own) (hx : ∀ j ∈ t.ix, j ∈ own.map (·.2))
    (hg : ∀ (s : Shared) (H : Hp) (C : Addr) (cl : List (Str × Addr)) (fp : List Addr), PG (X.blk s H scope (compEnvC scope cl C X.env) fp) tg (gOf X.K t))
    (ht : ∀ (s : Shared) (H : Hp) (C : Addr) (cl : List (Str × Addr)) (fp : List Addr), Sit (X.blk s H scope (compEnvC scope cl C X.env) fp) p.quiet k → PDTs (X.blk s H scope (compEnvC scope cl C X.env) fp) p.quiet ifs mt)
    (he : ∀ (s : Shared) (H : Hp) (C : Addr) (cl : List (Str × Addr)) (fp : List Addr), Sit (X.blk s H scope (compEnvC scope cl C X.env) fp) p.quiet k → PD (X.blk s H scope (compEnvC scope cl C X.env) fp) p.quiet elt me)
    (hs : ∀ x, foldedSetIterable iter X.env x = pure x := by intro _; rfl) : PDF X p (.ListComp elt [⟨tg, iter, ifs, 0⟩] scope pos) (eComp mi t mt me (own.map (·.2))) := by
  obtain ⟨wi, a1, a2⟩ := hi.ex
  exact ⟨_, pe_lc (tt := ttOf X.K p.quiet mt) (te := teOf X.K p.quiet me) S.calm S.nd a1 ok hg (fun s H C cl fp => (ht s H C cl fp S.quiet).pts) (fun s H C cl fp => (he s H C cl fp S.quiet).pe) hs, ev_comp S a2 hx⟩
/-- name = [..]: the name a local; w: owned -/
theorem sd_comp (S : SitB true true X p k) {i : Nat} {y : Str} {py spos : Pos} {elt tg iter : Expr} {ifs : List Expr} {scope : Scope} {pos : Pos} {t : Tg} {mi : XA} {mt : XT} {me : XE} (own : List (Str × Nat)) (hy : X.N[i]? = some y) (hyl : X.env.scope.names.lookup y = some .local)
    (hsw : swapsWith (.ListComp elt [⟨tg, iter, ifs, 0⟩] scope pos) (some (.Name y py)) spos.line X.env = pure true) (hi : PDI X p tg iter mi) (ok : BlkOk X.N X.env.scope scope own) (hx : ∀ j ∈ t.ix, j ∈ own.map (·.2))
    (hg : ∀ (s : Shared) (H : Hp) (C : Addr) (cl : List (Str × Addr)) (fp : List Addr), PG (X.blk s H scope (compEnvC scope cl C X.env) fp) tg (gOf X.K t))
    (ht : ∀ (s : Shared) (H : Hp) (C : Addr) (cl : List (Str × Addr)) (fp : List Addr), Sit (X.blk s H scope (compEnvC scope cl C X.env) fp) p.quiet k → PDTs (X.blk s H scope (compEnvC scope cl C X.env) fp) p.quiet ifs mt)
    (he : ∀ (s : Shared) (H : Hp) (C : Addr) (cl : List (Str × Addr)) (fp : List Addr), Sit (X.blk s H scope (compEnvC scope cl C X.env) fp) p.quiet k → PD (X.blk s H scope (compEnvC scope cl C X.env) fp) p.quiet elt me)
    (hs : ∀ x, foldedSetIterable iter X.env x = pure x := by intro _; rfl) : PSD X p (.Assign [.Name y py] (.ListComp elt [⟨tg, iter, ifs, 0⟩] scope pos) spos) (sAsg i (eComp mi t mt me (own.map (·.2)))) := by
  obtain ⟨wi, a1, a2⟩ := hi.ex
  exact ⟨_, ps_setLc (tt := ttOf X.K p.quiet mt) (te := teOf X.K p.quiet me) S.calm S.nd hy hyl hsw a1 ok hg (fun s H C cl fp => (ht s H C cl fp S.quiet).pts) (fun s H C cl fp => (he s H C cl fp S.quiet).pe) hs, sr_asg S.nf (ev_comp S a2 hx).ev⟩
end
end DL
end
section
namespace DL
open PySem PySem.Spec PyProof.Rows L2
/-- a def of the module, without defaults; .. with keyword-only ones -/
abbrev FnPk (K : PySem.W.Frag) (x qual : Str) (st : Stmt) (kws : List (Str × V)) (f : Addr) (fd : FuncData) : Prop := FunD K x qual (defArgs st) (defBody st) (defScope st) [] kws f fd
abbrev FnP (K : PySem.W.Frag) (x qual : Str) (st : Stmt) (f : Addr) (fd : FuncData) : Prop := FnPk K x qual st [] f fd
/-- a def keeps its promise wherever no repr is under way -/
structure FnG (cb : Bool) (P : Program) (w : World) (K : PySem.W.Frag) (mg : Str → Option Value) (base : Heap) (k : Nat) (f : Addr) (fd : FuncData) (ps : List Str) (sp : Sp) : Prop where
  len : ∀ vs H Q E, sp vs H Q E → vs.length = ps.length
  go : ∀ (A : Around) (outer : List PySem.Env) (s : Shared) (H : Hp) (args : Args) (us : List Value) (vs : List V) (Q : VK) (E : XK), RoomB cb k A → A.guards = some [] → Env0 P w K mg base A outer s H →
    BindsTo s fd args (ps.zip us) → Vals vs us → sp vs H Q E → codeAny (model P w) A (.call (.ref f) args) (CR (CXd K P w) outer P w H s Q E) s
section
variable {P : Program} {w : World} {K : PySem.W.Frag} {mg : Str → Option Value} {base : Heap} {cb : Bool}
theorem FnG.mono {j k : Nat} {f : Addr} {fd : FuncData} {ps : List Str} {sp : Sp} (F : FnG cb P w K mg base j f fd ps sp) (h : j ≤ k) : FnG cb P w K mg base k f fd ps sp :=
  ⟨F.len, fun A outer s H args us vs Q E hr => F.go A outer s H args us vs Q E (hr.mono h)⟩
/-- a body's context; cb: nothing is handled -/
abbrev bodyX (cb : Bool) (P : Program) (w : World) (K : PySem.W.Frag) (mg : Str → Option Value) (base : Heap) (N : List Str) (qual : Str) (st : Stmt) (f : Addr) (cdv : Value) (A : Around) (outer : List PySem.Env) (s : Shared) (H : Hp) (E : XK) : Cx :=
  { cxOf (CXd K P w) P w K mg base N qual (defScope st) f cdv A outer s H E with calm := cb }
/-- .. at its start, also where something is handled -/
theorem inv_cool {cb : Bool} {A A' : Around} {N : List Str} {qual : Str} {st : Stmt} {f : Addr} {cdv : Value} {outer : List PySem.Env} {s s1 : Shared} {H : Hp} {E : XK} {σ : L2.St} (hc : cb = true → A.handled = none) (hf : A.frames = A'.frames)
    (I : Inv (cxOf (CXd K P w) P w K mg base N qual (defScope st) f cdv A' outer s H E) [] σ H s1) : Inv (bodyX cb P w K mg base N qual st f cdv A outer s H E) [] σ H s1 := by
  have k := I.ok
  have fr : (A.deeper (envOfC qual (defScope st) s.heap.objs.size f cdv)).frames = some (envOfC qual (defScope st) s.heap.objs.size f cdv :: outer) := by
    have e1 : (A'.deeper (envOfC qual (defScope st) s.heap.objs.size f cdv)).frames = some (envOfC qual (defScope st) s.heap.objs.size f cdv :: outer) := k.frames
    have e2 : ∀ B : Around, (B.deeper (envOfC qual (defScope st) s.heap.objs.size f cdv)).frames = B.frames.map (envOfC qual (defScope st) s.heap.objs.size f cdv :: ·) := fun B => rfl
    rw [e2] at e1 ⊢
    rw [hf]
    exact e1
  exact ⟨⟨k.mod, k.kind, k.glob, k.blt, k.above, k.inj, k.has, k.cab, hc, fr, k.stk, k.exf, k.bs, k.bsz, k.noex, k.exfs, k.funs, k.frf⟩, I.os, I.bare, I.base, I.loc, I.cell, I.free, I.freeC, I.pin, I.hok, I.len⟩
/-- a def by its body -/
theorem fnG_body {x qual : Str} {st : Stmt} {f : Addr} {fd : FuncData} {N ps : List Str} {k : Nat} {sp : Sp} {kws : List (Str × V)} (F : FnPk K x qual st kws f fd) (S : FnScope N ps (defScope st)) (len : ∀ vs H Q E, sp vs H Q E → vs.length = ps.length)
    (body : ∀ (cdv : Value) (A : Around) (outer : List PySem.Env) (s : Shared) (H : Hp) (vs : List V) (Q : VK) (E : XK), RoomB cb k (A.deeper (envOfC qual (defScope st) s.heap.objs.size f cdv)) → (A.deeper (envOfC qual (defScope st) s.heap.objs.size f cdv)).guards = some [] → sp vs H Q E →
      ∃ t, PSs (bodyX cb P w K mg base N qual st f cdv A outer s H E) (defBody st) t ∧ t { nx := fun _ H' => Q .non H', rt := Q } (L2.start N vs) H) : FnG cb P w K mg base (k + 1) f fd ps sp := by
  obtain ⟨oc, od, dV, kV, doc, pm, an, cdv, ct, osl, rfl, lk, hcd, _, _⟩ := F.ex
  refine ⟨len, fun A outer s H args us vs Q E hr hgd e0 hb rv hsp => ?_⟩
  have lengths := len vs H Q E hsp
  have inHeap : K.In s.heap := e0.mod.kin.keeps (fun b o q => (e0.bs b o q).1)
  have noLimit : s.heap.NoLimit := e0.mod.nolimit.keeps (fun b o q => (e0.bs b o q).1)
  refine codeAny_call_function hr.depth (inHeap f _ lk) rfl S.co S.gen rfl (PySem.W.codeRec_of inHeap hcd) (hb _ _ _ _ ?_)
  refine wpAny_newFunctionEnv_cells S.kind (fun y hy => ?_) (fun env henv s1 entered => ?_)
  · obtain ⟨n, v⟩ := y
    rcases S.par n (List.of_mem_zip hy).1 with hl | hc
    · exact Or.inl hl
    · exact Or.inr ⟨hc, PySem.W.cellsFrom_some _ _ _ (Or.inl hc)⟩
  · subst henv
    refine ⟨noLimit.keeps entered.toInCall.keep, codeAny_func ?_⟩
    obtain ⟨t, ht, hq⟩ := body cdv A outer s H vs Q E (hr.deeper _) hgd hsp
    have e1 : Env0 P w K mg base ({ A with handled := none }) outer s H := ⟨e0.frames, e0.mod, e0.bs, e0.bsz, e0.funs, e0.frf, e0.hok, e0.bare⟩
    have J0 := inv_cool (A := A) (cb := cb) hr.hd_ rfl (A' := { A with handled := none }) (inv_start (A := { A with handled := none }) (CX := CXd K P w) (P := P) (w := w) (mg := mg) (base := base) (E := E) S rfl e1 lengths rv entered)
    refine wpAny_mono (ht.run [] s1 (L2.start N vs) H _ J0 hq) (fun fl s' done => ?_) (fun _ _ left => left)
    cases fl with
    | brk => obtain ⟨_, _, _, no⟩ := done; exact no.elim
    | cont => obtain ⟨_, _, _, no⟩ := done; exact no.elim
    | next =>
      obtain ⟨σ', H', J, q⟩ := done
      exact ⟨V.non, H', J.os, J.bare, J.base, J.hok, rfl, q⟩
    | ret u =>
      obtain ⟨v, σ', H', J, r, q⟩ := done
      exact ⟨v, H', J.os, J.bare, J.base, J.hok, r, q⟩
end
section
variable {X : Cx} {p : Par} {k : Nat} {cb vb : Bool}
/-- the callee runs; what it may let out is taken -/
theorem run_G {pins : List (Addr × Obj)} {σ : L2.St} {H : Hp} {s : Shared} {Q : VK} {us : List Value} {vs : List V} {f : Addr} {fd : FuncData} {ps : List Str} {sp : Sp} {E : XK} (F : FnG cb X.prog X.w X.K X.mg X.base k f fd ps sp) (hr : RoomB cb k X.A) (hg : X.A.guards = some []) (hb : Binds X.K fd ps [])
    (hx : PassesAt (CXd X.K X.prog X.w) X σ E) (I : Inv X pins σ H s) (r : Vals vs us) (h : sp vs H Q E) : wpAny (model X.prog X.w) X.A (call (.ref f) us) (EP X pins σ Q) X.xe s := by
  have hl : us.length = ps.length := r.length.symm.trans (F.len vs H Q E h)
  have bound := hb s us I.kIn (by rw [List.append_nil]; exact hl)
  rw [List.append_nil] at bound
  refine wpAny_call (codeAny_mono (F.go X.A X.stack s H ⟨us, []⟩ us vs Q E hr hg I.env0 bound r h) (fun res s' hq => ?_))
  match res, hq with
  | .error e, hq => exact hx pins H s e s' I hq
  | .ok (.ret u), hq => exact I.after hq
  | .ok .next, hq => exact hq.elim
  | .ok .brk, hq => exact hq.elim
  | .ok .cont, hq => exact hq.elim
theorem pe_G {f : Addr} {fd : FuncData} {ps : List Str} {sp : Sp} {E : L2.St → XK} {x : Str} {pn pos : Pos} {e : Expr} {es : List Expr} {t : TA} (F : FnG cb X.prog X.w X.K X.mg X.base k f fd ps sp) (hr : RoomB cb k X.A) (hgd : X.A.guards = some []) (hm : X.mg x = some (.ref f)) (hk : PySem.W.keepIn X.K (.ref f) = true)
    (hb : Binds X.K fd ps []) (hx : ∀ σ, PassesAt (CXd X.K X.prog X.w) X σ (E σ)) (ha : PA X (e :: es) t) (hg : Gl X x := by rfl) (hdb : (x == ("__debug__" : Str)) = false := by decide) (he : starEach (e :: es) X.env = (false, eval e X.env) :: starEach es X.env := by rfl)
    (hpl : (backTo pos (starEach es X.env)).any (·.1) = false := by rfl) : PE X (.Call (.Name x pn) (e :: es) [] pos) (tCallSD sp [] E t) := by
  refine ⟨fun pins s σ H Q I h => wpAny_Call_Name_kw (ld_glob I hg hm ?_ hdb)⟩
  refine PySem.W.callWith_K (h₀ := X.base) I.ok.mod.kin hk (thn (ha.run pos pins s σ H _ I h) ?_) he hpl
  rintro us s1 ⟨vs, H1, I1, r1, q1⟩
  rw [List.append_nil] at q1
  exact ⟨I1.kIn, run_G F hr hgd hb (hx σ) I1 r1 q1⟩
end
theorem exrep_go {K : PySem.W.Frag} {mg : Str → Option Value} {B B' : Addr → Prop} {H : Hp} {x : Exn} {c : Value} {d : Option Addr} (h : ∀ a, B' a → B a) (r : ExRep K mg B H x c d) : ExRep K mg B' H x c d := by
  obtain ⟨h1, h2, h3⟩ := r
  refine ⟨h1, h2, ?_⟩
  obtain ⟨xc, xf⟩ := x
  match xf, h3 with
  | [], h3 => exact h3
  | [(f, y)], ⟨dd, v, e1, e2, e4, e3⟩ => exact ⟨dd, v, e1, e2, fun z => e4 (h _ z), e3.less h⟩
  | _ :: _ :: _, h3 => exact h3
/-- a def that draws nothing: it does what m does of its arguments -/
def spF (K : PySem.W.Frag) (mg : Str → Option Value) (m : Fn) : Sp := fun vs H Q EK => ∃ (B : Addr → Prop) (ds : List D) (c : Sx) (P : D → Sx → Prop) (XP : Exn → Sx → Prop),
  (∀ a, B a → H a ≠ none) ∧ Reps K B H vs ds ∧ m ds c P XP ∧ (∀ d v H', P d c → All H H' → Rep K B H' v d → Q v H') ∧ ∀ x cl dd H', XP x c → All H H' → ExRep K mg B H' x cl dd → EK cl dd H'
/-- the stream at S: its large cells at L, its cells at C -/
def strB (S L C : Addr) : Addr → Prop := fun a => a = S ∨ a = L ∨ a = C
structure StrI (S L C : Addr) (c : Nat) (H : Hp) : Prop where
  sl : S ≠ L
  sc : S ≠ C
  lc : L ≠ C
  ex : ∃ (ls cs : List Int) (t : Nat), t ≤ c ∧ H S = some (.lst [.ref L, .ref C, .int t]) ∧ H L = some (.lst (ls.map V.int)) ∧ H C = some (.lst (cs.map V.int)) ∧ cs ≠ [] ∧ (∀ x ∈ ls, 0 ≤ x) ∧ (∀ x ∈ cs, 0 ≤ x) ∧ cs.length ≤ 1000
theorem StrI.at_ {S L C a : Addr} {c : Nat} {H : Hp} (h : StrI S L C c H) (b : strB S L C a) : H a ≠ none := by
  obtain ⟨ls, cs, t, _, h1, h2, h3, _⟩ := h.ex
  rcases b with rfl | rfl | rfl
  · rw [h1]; exact fun z => nomatch z
  · rw [h2]; exact fun z => nomatch z
  · rw [h3]; exact fun z => nomatch z
/-- what the text must say of a class whose objects have cells -/
structure ClsP (K : PySem.W.Frag) (n : Str) : Prop where
  cls : Cls K (He.ga K n)
  nat : ∀ f ∈ fldN, NoAttr K (He.ga K n) f
/-- the table of the code objects of the lambdas that the def x makes -/
def lamQ (x : Str) : Str := (envOfC x default 0 0 .none).qual ++ "<lambda>"
/-- what a cell is in the heap: its data holds no lists but cells -/
inductive CellAt (K : PySem.W.Frag) (H : Hp) (a : Addr) : Cell → Prop
  | lst {xs : List V} {ds : List D} : H a = some (.lst xs) → flatAll ds = true → Reps K (fun _ => False) H xs ds → CellAt K H a (.lst ds)
  | ins {n : Str} {dx : Addr} {xs : List (Str × V)} {fs : List (Str × D)} : ClsP K n → (∀ f ∈ fs.map (·.1), f ∈ fldN) → (fs.map (·.1)).Nodup → H a = some (.ins (He.ga K n) dx xs) → xs.map (·.1) = fs.map (·.1) → flatAll (fs.map (·.2)) = true → Reps K (fun _ => False) H (xs.map (·.2)) (fs.map (·.2)) → CellAt K H a (.ins n fs)
  | tab {x : Str} {c : Addr} : PySem.W.tabIn K x = some (c, a) → LamX.TabS H a (lamQ x) → CellAt K H a (.tab x)
/-- the places of the state: the stream's, the cells -/
def cB (S L C : Addr) (c : Sx) : Addr → Prop := fun a => strB S L C a ∨ c.mu a ≠ none
structure StI (K : PySem.W.Frag) (S L C : Addr) (c : Sx) (H : Hp) : Prop where
  str : StrI S L C c.n H
  at_ : ∀ a x, c.mu a = some x → ¬ strB S L C a ∧ CellAt K H a x
theorem CellAt.there {K : PySem.W.Frag} {H : Hp} {a : Addr} {x : Cell} (h : CellAt K H a x) : H a ≠ none := by
  cases h with
  | lst e _ _ => exact some_ne e
  | ins _ _ _ e _ _ _ => exact some_ne e
  | tab _ t => obtain ⟨_, e, _⟩ := t; exact some_ne e
theorem StI.there {K : PySem.W.Frag} {S L C a : Addr} {c : Sx} {H : Hp} (h : StI K S L C c H) (b : cB S L C c a) : H a ≠ none := by
  rcases b with b | b
  · exact h.str.at_ b
  · cases e : c.mu a with
    | none => exact absurd e b
    | some x => exact (h.at_ a x e).2.there
/-- data that holds no lists: what is locked is kept -/
def Kept (H H' : Hp) : Prop := ∀ a o, H a = some o → Imm o → H' a = some o
theorem Kept.sqT {K : PySem.W.Frag} {H H' : Hp} (h : Kept H H') {a : Addr} {xs : List V} (q : SqT K H a xs) : SqT K H' a xs := by
  rcases q with (q | ⟨o, q⟩) | q
  · exact .inl (.inl (h a _ q True.intro))
  · exact .inl (.inr ⟨o, h a _ q True.intro⟩)
  · exact .inr q
mutual
theorem Rep.kept {K : PySem.W.Frag} {B B' : Addr → Prop} {H H' : Hp} (h : Kept H H') : ∀ {v : V} {d : PyData}, DL.flat d = true → Rep K B H v d → Rep K B' H' v d
  | _, _, _, .non => .non
  | _, _, _, .bl b => .bl b
  | _, _, _, .int i => .int i
  | _, _, _, .str x => .str x
  | _, _, h, .lst _ _ _ => by simp [DL.flat] at h
  | _, _, g, .tup e r => .tup (h.sqT e) (Reps.kept h (by simpa [DL.flat] using g) r)
  | _, _, h, .dct0 _ _ => by simp [DL.flat] at h
  | _, _, h, .dct1 _ _ _ => by simp [DL.flat] at h
  | _, _, h, .exn0 _ _ _ => by simp [DL.flat, xD] at h
  | _, _, h, .exn1 _ _ _ _ _ _ => by simp [DL.flat, xD] at h
  | _, _, _, .rf a => .rf a
  | _, _, h, .wr _ _ _ => by simp [DL.flat, wD] at h
  | _, _, h, .tn _ _ _ _ => by simp [DL.flat, tD] at h
theorem Reps.kept {K : PySem.W.Frag} {B B' : Addr → Prop} {H H' : Hp} (h : Kept H H') : ∀ {vs : List V} {ds : List PyData}, DL.flatAll ds = true → Reps K B H vs ds → Reps K B' H' vs ds
  | _, _, _, .nil => .nil
  | _, _, g, .cons r t => by
    simp only [DL.flatAll, Bool.and_eq_true] at g
    exact .cons (Rep.kept h g.1 r) (Reps.kept h g.2 t)
end
theorem CellAt.go {K : PySem.W.Frag} {H H' : Hp} {a : Addr} {x : Cell} (h : CellAt K H a x) (k : Kept H H') (same : ∀ o, H a = some o → H' a = some o) : CellAt K H' a x := by
  cases h with
  | lst e f r => exact .lst (same _ e) f (r.kept k f)
  | ins h1 h2 h3 e q f r => exact .ins h1 h2 h3 (same _ e) q f (r.kept k f)
  | tab h t =>
    obtain ⟨ps, e, ok, am⟩ := t
    exact .tab h ⟨ps, same _ e, ok, fun pos cv hc => let ⟨c, e1, e2⟩ := am pos cv hc; ⟨c, e1, k _ _ e2 True.intro⟩⟩
theorem StrI.same {S L C : Addr} {c : Nat} {H H' : Hp} (h : StrI S L C c H) (k : ∀ a o, strB S L C a → H a = some o → H' a = some o) : StrI S L C c H' := by
  obtain ⟨ls, cs, t, ht, h1, h2, h3, h4⟩ := h.ex
  exact ⟨h.sl, h.sc, h.lc, ls, cs, t, ht, k _ _ (.inl rfl) h1, k _ _ (.inr (.inl rfl)) h2, k _ _ (.inr (.inr rfl)) h3, h4⟩
theorem StI.same {K : PySem.W.Frag} {S L C : Addr} {c : Sx} {H H' : Hp} (h : StI K S L C c H) (k : ∀ a o, cB S L C c a → H a = some o → H' a = some o) (im : Kept H H') : StI K S L C c H' :=
  ⟨h.str.same fun a o b e => k a o (.inl b) e, fun a x e => ⟨(h.at_ a x e).1, (h.at_ a x e).2.go im fun o q => k a o (.inr (by rw [e]; exact fun z => nomatch z)) q⟩⟩
/-- the places of a caller and those of the state -/
def bc (B : Addr → Prop) (S L C : Addr) (c : Sx) : Addr → Prop := fun a => B a ∨ cB S L C c a
/-- a def that goes on from one state to another; the stream is its first argument (st), or it is not handed over -/
def spG (st : Bool) (K : PySem.W.Frag) (mg : Str → Option Value) (m : Fn) : Sp := fun vs H Q EK => ∃ (S L C : Addr) (ws : List V) (B : Addr → Prop) (ds : List D) (c : Sx) (P : D → Sx → Prop) (XP : Exn → Sx → Prop),
  vs = (if st = true then [.ref S] else []) ++ ws ∧ (∀ a, bc B S L C c a → H a ≠ none) ∧ StI K S L C c H ∧ Reps K (bc B S L C c) H ws ds ∧ m ds c P XP ∧
  (∀ d c' v H', P d c' → EvB (cB S L C) c H c' H' → StI K S L C c' H' → Rep K (bc B S L C c') H' v d → Q v H') ∧
  ∀ x c' cl dd H', XP x c' → EvB (cB S L C) c H c' H' → StI K S L C c' H' → ExRep K mg (bc B S L C c') H' x cl dd → EK cl dd H'
/-- a def whose first argument is the stream -/
abbrev spS := spG true
/-- a def that is not handed the stream -/
abbrev spC := spG false
section
variable {P : Program} {w : World} {K : PySem.W.Frag} {mg : Str → Option Value} {base : Heap} {cb : Bool}
/-- the body's par: a def that draws nothing -/
def parF (H : Hp) (B : Addr → Prop) (c : Sx) (XP : Exn → Sx → Prop) (EK : XK) : Par := ⟨fun _ _ => False, fun c' _ => c' = c, 0, H, c, B, XP, fun _ => EK, none, fun _ => none⟩
def parS (K : PySem.W.Frag) (S L C : Addr) (H : Hp) (c : Sx) (B : Addr → Prop) (XP : Exn → Sx → Prop) (EK : XK) : Par := ⟨cB S L C, StI K S L C, S, H, c, B, XP, fun _ => EK, none, fun _ => none⟩
theorem sit_body {qual : Str} {st : Stmt} {f : Addr} {N ps : List Str} {k : Nat} {p : Par} {cdv : Value} {A : Around} {outer : List PySem.Env} {s : Shared} {H : Hp} {E : XK} (S : FnScope N ps (defScope st))
    (hr : RoomB cb k (A.deeper (envOfC qual (defScope st) s.heap.objs.size f cdv))) (hg : (A.deeper (envOfC qual (defScope st) s.heap.objs.size f cdv)).guards = some []) (ok : p.Ok K mg) (hE : ∀ σ c d H, p.EK σ c d H → E c d H) (nf : p.fx = none) (sm : HasSm base) :
    SitB cb true (bodyX cb P w K mg base N qual st f cdv A outer s H E) p k where
  calm_ := fun h => h
  gd := hg
  rm := hr
  nd := S.nd
  ok := ok
  po := passes_of rfl
  tk := (takes_ofD (E := E) rfl rfl rfl rfl).imp fun c d σ H h => hE σ c d H h
  nf_ := fun _ => nf
  sm := sm
theorem env_start {p : Par} {n : Sx} {B : Addr → Prop} {H : Hp} {vs : List V} {E : Env} {N : List Str} (hl : vs.length ≤ N.length) (hE : vs.length = E.length) (r : ∀ (i : Nat) (e : Ent), E[i]? = some e → ∃ v, vs[i]? = some v ∧ Slot K p n B H (some v) e) (no : ∀ (i : Nat) (ds : List D), E[i]? ≠ some (.own ds)) (nf : p.fx = none) :
    EnvR K p n B H (L2.start N vs) (DL.start N.length E) := by
  have l1 : (L2.start N vs).length = N.length := by
    unfold L2.start
    rw [List.length_append, List.length_map, List.length_replicate]
    omega
  have l2 : (DL.start N.length E).length = N.length := by
    unfold DL.start
    rw [List.length_append, List.length_replicate]
    omega
  have own : ∀ (i : Nat) (ds : List D), (DL.start N.length E)[i]? ≠ some (.own ds) := by
    intro i ds h
    unfold DL.start at h
    by_cases hi : i < E.length
    · rw [List.getElem?_append_left hi] at h
      exact no i ds h
    · rw [List.getElem?_append_right (by omega), List.getElem?_replicate] at h
      split at h <;> cases h
  refine ⟨l1.trans l2.symm, fun i e h => ?_, fun i j a xs ys h => absurd h (own i xs), .no nf, fun i a xs _ h => absurd h (own i xs)⟩
  unfold DL.start at h
  by_cases hi : i < E.length
  · rw [List.getElem?_append_left hi] at h
    obtain ⟨v, h1, h2⟩ := r i e h
    refine ⟨some v, ?_, h2⟩
    unfold L2.start
    rw [List.getElem?_append_left (by rw [List.length_map]; omega), List.getElem?_map, h1]
    rfl
  · rw [List.getElem?_append_right (by omega), List.getElem?_replicate] at h
    split at h
    · cases h
      have : i < (L2.start N vs).length := by rw [l1]; omega
      exact ⟨_, List.getElem?_eq_getElem this, .unk _⟩
    · cases h
theorem vals_at {n : Sx} {B : Addr → Prop} {H : Hp} {p : Par} {vs : List V} {ds : List D} (r : Reps K (bm p B n) H vs ds) (i : Nat) (e : Ent) (h : (ds.map Ent.val)[i]? = some e) : ∃ v, vs[i]? = some v ∧ Slot K p n B H (some v) e := by
  rw [List.getElem?_map] at h
  cases q : ds[i]? with
  | none => rw [q] at h; cases h
  | some d =>
    rw [q] at h
    cases h
    obtain ⟨v, h1, h2⟩ := r.get q
    exact ⟨v, h1, .val h2⟩
theorem all_of {H H' : Hp} (e : Ext (fun _ => False) H H') : All H H' := fun a o h => e.keep a o h fun z => z
theorem bmF {H : Hp} {B B2 : Addr → Prop} {c c' : Sx} {XP : Exn → Sx → Prop} {EK : XK} : ∀ a, bm (parF H B c XP EK) B2 c' a → B2 a := fun a z => z.elim id fun z => z.elim
/-- a def that draws nothing, by its body's words -/
theorem fn_pure (sm : HasSm base) {x qual : Str} {st : Stmt} {f : Addr} {fd : FuncData} {N ps : List Str} {k : Nat} {m : XS} (F : FnP K x qual st f fd) (S : FnScope N ps (defScope st)) (hl : ps.length ≤ N.length)
    (body : ∀ (cdv : Value) (A : Around) (outer : List PySem.Env) (s : Shared) (H : Hp) (E : XK) (p : Par), SitB cb true (bodyX cb P w K mg base N qual st f cdv A outer s H E) p k → (∀ n n' H H', p.SI n H → p.SI n' H' → p.SI n H') → (∀ i, p.pin i = none) → PSSD (bodyX cb P w K mg base N qual st f cdv A outer s H E) p (defBody st) m) :
    FnG cb P w K mg base (k + 1) f fd ps (spF K mg (fn ps.length N.length m)) := by
  refine fnG_body F S (fun vs H Q E ⟨_, _, _, _, _, _, rs, mm, _⟩ => rs.length.trans mm.1) (fun cdv A outer s H vs Q E hr hg hsp => ?_)
  obtain ⟨B, ds, c, Pd, XP, trk, rs, ⟨hn, mm⟩, kq, ke⟩ := hsp
  have ok : (parF H B c XP E).Ok K mg := ⟨fun _ _ _ h _ _ => h, fun n n' x cl d B1 H1 H' σ st _ hx hs he hr => by
    have hc : n' = c := hs
    subst hc
    exact ke x cl d H' hx (all_of (st.ext.trans he).ext) (exrep_go (fun a z => bm_more he.up a (st.subc a z)) hr)⟩
  have S' := sit_body (P := P) (w := w) (base := base) (mg := mg) (f := f) (outer := outer) (H := H) (p := parF H B c XP E) (E := E) S hr hg ok (fun _ _ _ _ h => h) rfl sm
  obtain ⟨ts, a1, a2⟩ := (body cdv A outer s H E _ S' (fun n n' H1 H2 (h1 : n = c) _ => h1) fun _ => rfl).ex
  refine ⟨ts, a1, a2 B H _ (DL.start N.length (ds.map Ent.val)) c (fun o c' => endOf o c' Pd XP) _ ⟨fun _ z => .inl z, fun a z => trk a (bmF a z), rfl, Ev.refl, fun _ z _ => .inl z⟩ ?_ mm ?_ ?_ ?_ ?_⟩
  · refine env_start (by rw [rs.length]; omega) (by rw [List.length_map]; exact rs.length) (fun i e h => vals_at (rs.less bmF) i e h) (fun i es h => ?_) rfl
    rw [List.getElem?_map] at h
    cases q : ds[i]? with
    | none => rw [q] at h; cases h
    | some d => rw [q] at h; cases h
  · intro E' c' B' σ' H' m1 st1 t1 r1
    have hc : c' = c := st1.si
    subst hc
    exact kq .none .non H' m1 (all_of st1.ext.ext) .non
  · intro d c' v H' m1 s1 e1 r1
    have hc : c' = c := s1
    subst hc
    exact kq d v H' m1 (all_of e1.ext) (r1.less fun _ z => .inl z)
  · intro E' c' B' σ' H' m1
    exact m1.elim
  · intro E' c' B' σ' H' m1
    exact m1.elim
/-- a def that goes on from one state to another, by its body's words; b: the stream is its first argument -/
def fnGo (b : Bool) (k n : Nat) (s : XS) : Fn := if b = true then fnS k n s else fn k n s
theorem fn_go {b : Bool} (sm : HasSm base) {x qual : Str} {st : Stmt} {f : Addr} {fd : FuncData} {N ps : List Str} {k : Nat} {m : XS} {kws : List (Str × V)} (F : FnPk K x qual st kws f fd) (S : FnScope N ps (defScope st)) (hl : ps.length ≤ N.length)
    (body : ∀ (cdv : Value) (A : Around) (outer : List PySem.Env) (s : Shared) (H : Hp) (E : XK) (p : Par), SitB cb true (bodyX cb P w K mg base N qual st f cdv A outer s H E) p k → (∃ S L C, p.B0 = cB S L C ∧ p.SI = StI K S L C ∧ p.S = S) → (∀ i, p.pin i = none) → PSSD (bodyX cb P w K mg base N qual st f cdv A outer s H E) p (defBody st) m) :
    FnG cb P w K mg base (k + 1) f fd ps (spG b K mg (fnGo b ps.length N.length m)) := by
  have hlen : ∀ vs H Q E, spG b K mg (fnGo b ps.length N.length m) vs H Q E → vs.length = ps.length := by
    rintro vs H Q E ⟨_, _, _, ws, _, _, _, _, _, e, _, _, rs, mm, _⟩
    cases b with
    | true => rw [e, List.length_append, rs.length, Nat.add_comm]; exact mm.1
    | false => rw [e, List.length_append, rs.length, Nat.add_comm]; exact mm.1
  refine fnG_body F S hlen (fun cdv A outer s H vs Q E hr hg hsp => ?_)
  have hvl := hlen vs H Q E hsp
  obtain ⟨S1, L1, C1, ws, B, ds, c, Pd, XP, rfl, trk, si, rs, mm, kq, ke⟩ := hsp
  have hlw := rs.length
  have ok : (parS K S1 L1 C1 H c B XP E).Ok K mg :=
    ⟨fun n H1 H2 h hk im => StI.same h hk im, fun n n' x cl d B1 H1 H' σ st _ hx hs he hr => ke x n' cl d H' hx (st.ext.trans he) hs (exrep_go (fun a z => z.elim (fun z => bm_more he.up a (st.subc a z)) .inr) hr)⟩
  have S' := sit_body (P := P) (w := w) (base := base) (mg := mg) (f := f) (outer := outer) (H := H) (p := parS K S1 L1 C1 H c B XP E) (E := E) S hr hg ok (fun _ _ _ _ h => h) rfl sm
  obtain ⟨ts, a1, a2⟩ := (body cdv A outer s H E _ S' ⟨S1, L1, C1, rfl, rfl, rfl⟩ fun _ => rfl).ex
  have e0 : ((if b = true then [Ent.stm] else []) ++ ds.map Ent.val).length = ((if b = true then [V.ref S1] else []) ++ ws).length := by
    cases b <;> simp [hlw]
  have mm' : (m (DL.start N.length ((if b = true then [Ent.stm] else []) ++ ds.map Ent.val))) c (fun o c' => endOf o c' Pd XP) XP := by
    cases b with
    | true => exact mm.2
    | false => exact mm.2
  refine ⟨ts, a1, a2 B H _ (DL.start N.length ((if b = true then [Ent.stm] else []) ++ ds.map Ent.val)) c (fun o c' => endOf o c' Pd XP) _ ⟨fun _ z => .inl z, trk, si, Ev.refl, fun _ z _ => .inl z⟩ ?_ mm' ?_ ?_ ?_ ?_⟩
  · refine env_start (by omega) e0.symm (fun i e h => ?_) (fun i es h => ?_) rfl
    · cases b with
      | true =>
        cases i with
        | zero =>
          cases h
          exact ⟨_, rfl, .stm (p := parS K S1 L1 C1 H c B XP E)⟩
        | succ i => exact vals_at rs i e h
      | false => exact vals_at rs i e h
    · have no : ∀ i, (ds.map Ent.val)[i]? ≠ some (Ent.own es) := fun i h' => by
        rw [List.getElem?_map] at h'
        cases q : ds[i]? with
        | none => rw [q] at h'; cases h'
        | some d => rw [q] at h'; cases h'
      cases b with
      | true =>
        cases i with
        | zero => cases h
        | succ i => exact no i h
      | false => exact no i h
  · intro E' c' B' σ' H' m1 st1 t1 r1
    exact kq .none c' .non H' m1 st1.ext st1.si .non
  · intro d c' v H' m1 s1 e1 r1
    exact kq d c' v H' m1 e1 s1 r1
  · intro E' c' B' σ' H' m1
    exact m1.elim
  · intro E' c' B' σ' H' m1
    exact m1.elim
/-- a def whose first argument is the stream -/
theorem fn_str (sm : HasSm base) {x qual : Str} {st : Stmt} {f : Addr} {fd : FuncData} {N ps : List Str} {k : Nat} {m : XS} (F : FnP K x qual st f fd) (S : FnScope N ps (defScope st)) (hl : ps.length ≤ N.length)
    (body : ∀ (cdv : Value) (A : Around) (outer : List PySem.Env) (s : Shared) (H : Hp) (E : XK) (p : Par), SitB cb true (bodyX cb P w K mg base N qual st f cdv A outer s H E) p k → (∃ S L C, p.B0 = cB S L C ∧ p.SI = StI K S L C ∧ p.S = S) → (∀ i, p.pin i = none) → PSSD (bodyX cb P w K mg base N qual st f cdv A outer s H E) p (defBody st) m) :
    FnG cb P w K mg base (k + 1) f fd ps (spS K mg (fnS ps.length N.length m)) := fn_go (b := true) sm F S hl body
end
section
variable {X : Cx} {p : Par} {k : Nat} {cb vb : Bool}
/-- what the caller knows of a def: where it stands, how it is called -/
structure Def (K : PySem.W.Frag) (mg : Str → Option Value) (x : Str) (f : Addr) (fd : FuncData) (ps : List Str) : Prop where
  mg : mg x = some (.ref f)
  kp : PySem.W.keepIn K (.ref f) = true
  bd : Binds K fd ps []
theorem pd_fn (S : SitB cb vb X p k) {j : Nat} {x : Str} {f : Addr} {fd : FuncData} {ps : List Str} {m : Fn} {e : Expr} {es : List Expr} {ma : XA} {pn pos : Pos} (F : FnG cb X.prog X.w X.K X.mg X.base j f fd ps (spF X.K X.mg m)) (hj : j ≤ k) (D : Def X.K X.mg x f fd ps) (ha : PDA X p (e :: es) ma)
    (hg : Gl X x := by rfl) (hdb : (x == ("__debug__" : Str)) = false := by decide) (he : starEach (e :: es) X.env = (false, eval e X.env) :: starEach es X.env := by rfl) (hpl : (backTo pos (starEach es X.env)).any (·.1) = false := by rfl) : PD X p (.Call (.Name x pn) (e :: es) [] pos) (eCall m ma) := by
  obtain ⟨ta, a1, a2⟩ := ha.ex
  refine ⟨_, pe_G F (S.rm.mono hj) S.gd D.mg D.kp D.bd S.ps a1 hg hdb he hpl, fun B H σ E c P Q st r mm kk => ?_⟩
  refine a2 B H σ E _ _ _ st r mm fun ds c1 vs H1 m1 e1 s1 r1 => ?_
  have st1 := st.go e1 s1
  rw [List.append_nil]
  refine ⟨_, ds, c1, P, p.XP, st1.trk, r1, m1, fun d v H2 pd al rd => kk d c1 v H2 pd (e1.trans al.ev) (st1.all S.ok al) rd, fun y cl dd H2 hx al hr => ?_⟩
  exact S.ok.exc c1 c1 y cl dd B H1 H2 σ st1 (r.go st e1).fx hx (st1.all S.ok al) al.ev hr
/-- the stream is what p says -/
def IsStr (K : PySem.W.Frag) (p : Par) : Prop := ∃ S L C, p.B0 = cB S L C ∧ p.SI = StI K S L C ∧ p.S = S
/-- q is a body's own within p's -/
structure SubP (p q : Par) : Prop where
  str : ∀ K, IsStr K p → IsStr K q
  h0 : q.H0 = p.H0
  c0 : q.c0 = p.c0
  bc : q.Bc = p.Bc
  b0 : q.B0 = p.B0
  si : q.SI = p.SI
  ss : q.S = p.S
instance {p q : Par} : CoeFun (SubP p q) (fun _ => ∀ K, IsStr K p → IsStr K q) := ⟨SubP.str⟩
/-- what a callee that goes on from a state wants, of what the caller wants -/
theorem go_of {b : Bool} (S : SitB cb vb X p k) (Z : IsStr X.K p) {m : Fn} {B : Addr → Prop} {H H0 : Hp} {σ : L2.St} {c c0 : Sx} {P : D → Sx → Prop} {vs : List V} {ds : List D} {Q : VK} (st : St0 p c B H) (fx : Fix p c B H σ) (e0 : Ev p c0 H0 c H) (rs : Reps X.K (bm p B c) H vs ds) (mm : m ds c P p.XP)
    (kk : ∀ d c' v H', P d c' → Ev p c0 H0 c' H' → p.SI c' H' → Rep X.K (bm p B c') H' v d → Q v H') : spG b X.K X.mg m ((if b = true then [V.ref p.S] else []) ++ vs) H Q (p.EK σ) := by
  obtain ⟨S1, L1, C1, z1, z2, z3⟩ := Z
  have zb : ∀ c, bm p B c = bc B S1 L1 C1 c := fun c => by unfold bm bc; rw [z1]
  have si := st.si
  rw [z2] at si
  refine ⟨S1, L1, C1, vs, B, ds, c, P, p.XP, by rw [z3], by rw [← zb]; exact st.trk, si, by rw [← zb]; exact rs, mm, fun d c2 v H2 pd al s2 rd => ?_, fun y c2 cl dd H2 hx al s2 hr => ?_⟩
  · rw [← z1] at al
    rw [← z2] at s2
    rw [← zb] at rd
    exact kk d c2 v H2 pd (e0.trans al) s2 rd
  · rw [← z1] at al
    rw [← z2] at s2
    rw [← zb] at hr
    exact S.ok.exc c c2 y cl dd B H H2 σ st fx hx s2 al hr
theorem pd_fnS (S : SitB cb vb X p k) (Z : IsStr X.K p) {j i : Nat} {x y : Str} {f : Addr} {fd : FuncData} {ps : List Str} {m : Fn} {es : List Expr} {ma : XA} {py pn pos : Pos} (F : FnG cb X.prog X.w X.K X.mg X.base j f fd ps (spS X.K X.mg m)) (hj : j ≤ k) (D : Def X.K X.mg x f fd ps) (hy : PE X (.Name y py) (tVar i)) (ha : PDA X p es ma)
    (hg : Gl X x := by rfl) (hdb : (x == ("__debug__" : Str)) = false := by decide) (he : starEach (.Name y py :: es) X.env = (false, eval (.Name y py) X.env) :: starEach es X.env := by rfl) (hpl : (backTo pos (starEach es X.env)).any (·.1) = false := by rfl) : PD X p (.Call (.Name x pn) (.Name y py :: es) [] pos) (eCallS m i ma) := by
  obtain ⟨ta, a1, a2⟩ := ha.ex
  refine ⟨_, pe_G F (S.rm.mono hj) S.gd D.mg D.kp D.bd S.ps (pa_cons hy a1 he) hg hdb he hpl, fun B H σ E c P Q st r mm kk => ?_⟩
  have m' : (match E[i]? with | some .stm => bnd (ma E) m | _ => stuck) c P p.XP := mm
  cases h : E[i]? with
  | none => rw [h] at m'; exact m'.elim
  | some e =>
    rw [h] at m'
    cases e with
    | stm =>
      obtain ⟨s, h1, h2⟩ := r.at_ i _ h
      cases h2
      refine ⟨_, h1, ?_⟩
      refine a2 B H σ E _ _ _ st r m' fun ds c1 vs H1 m1 e1 s1 r1 => ?_
      have st1 := st.go e1 s1
      show spS X.K X.mg m ((V.ref p.S :: vs) ++ []) H1 Q (p.EK σ)
      rw [List.append_nil]
      exact go_of (b := true) S Z st1 (r.go st e1).fx e1 r1 m1 kk
    | _ => exact m'.elim
end
end DL
end
section
namespace DL
open PySem PySem.Spec PyProof.Rows L2
/-- the stream with its lists told -/
structure StrL (S L C : Addr) (ls cs : List Int) (t : Nat) (H : Hp) : Prop where
  sl : S ≠ L
  sc : S ≠ C
  lc : L ≠ C
  hs : H S = some (.lst [.ref L, .ref C, .int t])
  hl : H L = some (.lst (ls.map V.int))
  hc : H C = some (.lst (cs.map V.int))
  nc : cs ≠ []
  pl : ∀ x ∈ ls, 0 ≤ x
  pc : ∀ x ∈ cs, 0 ≤ x
  few : cs.length ≤ 1000
theorem StrL.str {S L C : Addr} {ls cs : List Int} {t c : Nat} {H : Hp} (h : StrL S L C ls cs t H) (ht : t ≤ c) : StrI S L C c H :=
  ⟨h.sl, h.sc, h.lc, ls, cs, t, ht, h.hs, h.hl, h.hc, h.nc, h.pl, h.pc, h.few⟩
theorem StrI.told {S L C : Addr} {c : Nat} {H : Hp} (h : StrI S L C c H) : ∃ (ls cs : List Int) (t : Nat), t ≤ c ∧ StrL S L C ls cs t H := by
  obtain ⟨ls, cs, t, ht, h1, h2, h3, h4, h5, h6, h7⟩ := h.ex
  exact ⟨ls, cs, t, ht, h.sl, h.sc, h.lc, h1, h2, h3, h4, h5, h6, h7⟩
theorem StrL.all {S L C : Addr} {ls cs : List Int} {t : Nat} {H H' : Hp} (h : StrL S L C ls cs t H) (e : All H H') : StrL S L C ls cs t H' :=
  ⟨h.sl, h.sc, h.lc, e _ _ h.hs, e _ _ h.hl, e _ _ h.hc, h.nc, h.pl, h.pc, h.few⟩
theorem upd_strB {S L C : Addr} {H : Hp} {a : Addr} {xs ys : List V} (b : strB S L C a) (hq : H a = some (.lst xs)) : Ext (strB S L C) H (upd H a (.lst ys)) := upd_q b hq
/-- no place may change -/
abbrev nB : Addr → Prop := fun _ => False
section
variable {K : PySem.W.Frag}
def tS (K : PySem.W.Frag) (i : Int) : TE := tOp (rIxL K) (tVar 0) (tC (.int i))
def tOpD (K : PySem.W.Frag) (o : Op) (a b : TE) : TE := tOp (rD2 K (opBin o)) a b
def tDrawTest (K : PySem.W.Frag) : TT := tTest (tOp (rD2 K (cmpD .ne)) (tS K 0) (tLst tNil))
def tDrawTurn (K : PySem.W.Frag) : TS := tSeq (tAsg (tOp (rD2 K opIdx) (tS K 0) (tC (.int 0))) (gName 2)) (tSeq (tIfS (tTest (tOp (rD2 K (cmpD .gt)) (tVar 2) (tC (.int 0))))
  (tSeq (tAsg (tOpD K .fdiv (tVar 2) (tVar 1)) (gSub (tS K 0) (tC (.int 0)) rSetL)) (tRet (tOpD K .mod (tVar 2) (tVar 1)))) tNext)
  (tDrop (tBM K "list" rPopAt (tS K 0) (tCons (tC (.int 0)) tNil))))
theorem s_at {S L C : Addr} {ls cs : List Int} {t : Nat} {H : Hp} {i : Int} {v : V} {Q : VK} {σ : L2.St} (h : StrL S L C ls cs t H) (h0 : σ[0]? = some (some (.ref S))) (hi : atI [V.ref L, V.ref C, V.int t] i = some v) (q : Q v H) : tS K i σ H Q :=
  ⟨_, h0, S, _, i, v, rfl, rfl, SqL.of h.hs, hi, q⟩
theorem rep_ints {B : Addr → Prop} {H : Hp} {a : Addr} {ns : List Int} (h : H a = some (.lst (ns.map V.int))) (hb : ¬ B a) : Rep K B H (.ref a) (.list (ns.map PyData.int)) :=
  .lst h hb (Reps.of_ints ns)
theorem ne_nil_int (x : Int) (ls : List Int) : PyData.eqv (.list (((x :: ls) : List Int).map PyData.int)) (.list []) = false := by rfl
theorem nil_nil_int : PyData.eqv (.list (([] : List Int).map PyData.int)) (.list []) = true := by rfl
theorem lay_ints : ∀ ns : List Int, PyData.canLayAll0 (ns.map PyData.int) = true
  | [] => rfl
  | a :: r => by
    show (PyData.canLay0 (.int a) && PyData.canLayAll0 (r.map PyData.int)) = true
    rw [lay_ints r]
    rfl
theorem shaped_ints (ns : List Int) : SeqAt.shaped (.list (ns.map PyData.int)) = true := by
  have e : PyData.depth (.list (ns.map PyData.int)) ≤ 64 := by
    simp only [PyData.depth, depth_ints]
    decide
  unfold SeqAt.shaped
  rw [decide_eq_true e, Bool.and_true]
  exact lay_ints ns
theorem ixN_zero (n : Nat) : ixN (n + 1) 0 = some 0 := by
  unfold ixN
  rw [if_pos (Int.le_refl 0), if_pos (by omega)]
  rfl
theorem atI_zero {α : Type} (x : α) (xs : List α) : atI (x :: xs) 0 = some x := by
  show (ixN (xs.length + 1) 0).bind _ = _
  rw [ixN_zero]
  rfl
theorem opIdx_zero (x : D) (xs : List D) (c : Sx) (P : D → Sx → Prop) (Xp : Exn → Sx → Prop) (h : P x c) : opIdx (.list (x :: xs)) (.int 0) c P Xp := by
  show (match L2.atI (x :: xs) 0 with | some d => ret d | none => stuck) c P Xp
  rw [atI_zero]
  exact h
theorem draw_while {S L C : Addr} {cs : List Int} {t : Nat} {many : Int} {H0 : Hp} {D : Ends} {x3 x4 x5 : Option V} (hm : 0 < many ∧ many < 9223372036854775808)
    (nx : ∀ x2 H, Ext (strB S L C) H0 H → StrL S L C [] cs t H → D.nx [some (.ref S), some (.int many), x2, x3, x4, x5] H)
    (rt : ∀ (r : Int) ls H, Ext (strB S L C) H0 H → StrL S L C ls cs t H → 0 ≤ r → r < many → D.rt (.int r) H)
    {x2 : Option V} {ls : List Int} (hS : StrL S L C ls cs t H0) : tWhile (tDrawTest K) (tDrawTurn K) D [some (.ref S), some (.int many), x2, x3, x4, x5] H0 := by
  refine ⟨fun n σ H => ∃ (x2 : Option V) (ls : List Int), σ = [some (.ref S), some (.int many), x2, x3, x4, x5] ∧ ls.length = n ∧ Ext (strB S L C) H0 H ∧ StrL S L C ls cs t H, ⟨_, x2, ls, rfl, rfl, Ext.refl, hS⟩, ?_⟩
  rintro n σ H ⟨x2, ls, rfl, hn, e, hL⟩
  refine s_at hL rfl rfl ⟨Nat.zero_le _, fun q hq => ?_⟩
  have h1 := hL.all (All.new (o := .lst []) hq)
  have e1 : Ext (strB S L C) H0 (upd H q (.lst [])) := e.trans (All.new hq).ext
  refine ⟨nB, .list (ls.map PyData.int), .list [], .z 0, fun d _ => d = .bool (!(PyData.eqv (.list (ls.map PyData.int)) (.list []))), fun _ _ => False, fun _ z => z.elim, rep_ints h1.hl id, .lst upd_same id .nil, ⟨eqOk_of (shaped_ints ls) rfl, rfl⟩, ?_⟩
  rintro z v H2 rfl a2 rv
  cases rv
  refine ⟨_, rfl, ?_⟩
  have h2 := h1.all a2
  have e2 := e1.trans (a2.ext (B := strB S L C))
  cases ls with
  | nil =>
    rw [nil_nil_int]
    exact nx x2 H2 e2 h2
  | cons x ls =>
    rw [ne_nil_int]
    refine (if_pos rfl).mpr ?_
    refine ⟨fun σ H => ∃ (x2 : Option V) (ls' : List Int), σ = [some (.ref S), some (.int many), x2, x3, x4, x5] ∧ ls' = ls ∧ Ext (strB S L C) H0 H ∧ StrL S L C ls' cs t H, ?_, ?_⟩
    · rintro σ' H' ⟨x2', ls', rfl, rfl, e', h'⟩
      exact ⟨ls'.length, by rw [← hn]; exact Nat.lt_succ_self _, x2', ls', rfl, rfl, e', h'⟩
    · refine s_at h2 rfl rfl ⟨nB, .list ((x :: ls).map PyData.int), .int 0, .z 0, fun d _ => d = .int x, fun _ _ => False, fun _ z => z.elim, rep_ints h2.hl id, .int 0, opIdx_zero _ _ _ _ _ rfl, ?_⟩
      rintro z v H3 rfl a3 rv
      cases rv
      have h3 := h2.all a3
      have e3 := e2.trans (a3.ext (B := strB S L C))
      refine ⟨_, rfl, nB, .int x, .int 0, .z 0, fun d _ => d = .bool (decide (0 < x)), fun _ _ => False, fun _ z => z.elim, .int _, .int _, rfl, ?_⟩
      rintro z v H4 rfl a4 rv
      cases rv
      have h4 := h3.all a4
      have e4 := e3.trans (a4.ext (B := strB S L C))
      refine ⟨_, rfl, ?_⟩
      by_cases hx : 0 < x
      · rw [decide_eq_true hx]
        refine (if_pos rfl).mpr ?_
        refine ⟨_, rfl, _, rfl, nB, .int x, .int many, .z 0, fun d _ => d = .int (x / many), fun _ _ => False, fun _ z => z.elim, .int _, .int _, ⟨hm, rfl⟩, ?_⟩
        rintro z v H5 rfl a5 rv
        cases rv
        have h5 := h4.all a5
        have e5 := e4.trans (a5.ext (B := strB S L C))
        refine s_at h5 rfl rfl ⟨L, _, 0, 0, rfl, rfl, h5.hl, ixN_zero _, ?_⟩
        have h6 : StrL S L C ((x / many) :: ls) cs t (upd H5 L (.lst (((x / many) :: ls).map V.int))) := by
          refine ⟨h5.sl, h5.sc, h5.lc, ?_, upd_same, ?_, h5.nc, fun y hy => ?_, h5.pc, h5.few⟩
          · rw [upd_ne h5.sl]; exact h5.hs
          · rw [upd_ne h5.lc.symm]; exact h5.hc
          · rcases List.mem_cons.mp hy with rfl | hy
            · exact Int.ediv_nonneg (Int.le_of_lt hx) (Int.le_of_lt hm.1)
            · exact h5.pl y (.tail _ hy)
        have e6 := e5.trans (upd_strB (ys := ((x / many) :: ls).map V.int) (.inr (.inl rfl)) h5.hl)
        refine ⟨_, rfl, _, rfl, nB, .int x, .int many, .z 0, fun d _ => d = .int (x % many), fun _ _ => False, fun _ z => z.elim, .int _, .int _, ⟨hm.1, rfl⟩, ?_⟩
        rintro z v H7 rfl a7 rv
        cases rv
        exact rt _ _ H7 (e6.trans a7.ext) (h6.all a7) (Int.emod_nonneg _ (by omega)) (Int.emod_lt_of_pos _ hm.1)
      · rw [decide_eq_false hx]
        refine (if_neg (by decide)).mpr ?_
        refine s_at h4 rfl rfl ⟨.inl ⟨rfl, _, SqL.of h4.hl⟩, ?_⟩
        refine ⟨L, _, 0, 0, V.int x, rfl, rfl, h4.hl, by decide, by decide, ?_, rfl, ?_⟩
        · simp [PySem.seqIndex?]
        · refine ⟨some (.int x), ls, rfl, rfl, e4.trans (upd_strB (.inr (.inl rfl)) h4.hl), ?_⟩
          refine ⟨h4.sl, h4.sc, h4.lc, ?_, upd_same, ?_, h4.nc, fun y hy => h4.pl y (.tail _ hy), h4.pc, h4.few⟩
          · rw [upd_ne h4.sl]; exact h4.hs
          · rw [upd_ne h4.lc.symm]; exact h4.hc
/-- in every later heap it gives that value, and makes at most new things -/
def Gives (te : TE) (σ : L2.St) (H : Hp) (v : V) : Prop := ∀ H1, All H H1 → ∀ Q : VK, (∀ H', All H1 H' → Q v H') → te σ H1 Q
variable {σ : L2.St} {H : Hp}
theorem gives_var {i : Nat} {v : V} (h : σ[i]? = some (some v)) : Gives (tVar i) σ H v := fun H1 _ Q q => ⟨v, h, q H1 All.refl⟩
theorem gives_c {v : V} : Gives (tC v) σ H v := fun H1 _ Q q => q H1 All.refl
theorem gives_op {ta tb : TE} {a b r : Int} (o : Op) (ha : Gives ta σ H (.int a)) (hb : Gives tb σ H (.int b)) (h : ∀ c (P : D → Sx → Prop) Xp, P (.int r) c → opBin o (.int a) (.int b) c P Xp) : Gives (tOpD K o ta tb) σ H (.int r) := by
  intro H1 e1 Q q
  refine ha H1 e1 _ fun H2 e2 => hb H2 (e1.trans e2) _ fun H3 e3 => ?_
  refine ⟨nB, .int a, .int b, .z 0, fun d _ => d = .int r, fun _ _ => False, fun _ z => z.elim, .int _, .int _, h _ _ _ rfl, ?_⟩
  rintro z v H4 rfl a4 rv
  cases rv
  exact q H4 (e2.trans (e3.trans a4))
theorem gives_s {S L C : Addr} {ls cs : List Int} {t : Nat} {i : Int} {v : V} (h : StrL S L C ls cs t H) (h0 : σ[0]? = some (some (.ref S))) (hi : atI [V.ref L, V.ref C, V.int t] i = some v) : Gives (tS K i) σ H v :=
  fun H1 e1 Q q => s_at (h.all e1) h0 hi (q H1 All.refl)
theorem gives_len {te : TE} {a : Addr} {ns : List Int} (h : Gives te σ H (.ref a)) (ha : H a = some (.lst (ns.map V.int))) : Gives (tCB (rC1 K (bi1 .len)) (tCons te tNil)) σ H (.int ns.length) := by
  intro H1 e1 Q q
  refine h H1 e1 _ fun H2 e2 => ?_
  refine ⟨_, rfl, nB, .list (ns.map PyData.int), .z 0, fun d _ => d = .int ns.length, fun _ _ => False, fun _ z => z.elim, rep_ints (e2 _ _ (e1 _ _ ha)) id, ?_, ?_⟩
  · show (.int ((ns.map PyData.int).length : Int) : D) = .int ns.length
    rw [List.length_map]
  · rintro z v H4 rfl a4 rv
    cases rv
    exact q H4 (e2.trans a4)
theorem gives_ix {ta tb : TE} {a : Addr} {ns : List Int} {i x : Int} (h : Gives ta σ H (.ref a)) (hb : Gives tb σ H (.int i)) (ha : H a = some (.lst (ns.map V.int))) (hx : atI ns i = some x) : Gives (tOp (rD2 K opIdx) ta tb) σ H (.int x) := by
  intro H1 e1 Q q
  refine h H1 e1 _ fun H2 e2 => hb H2 (e1.trans e2) _ fun H3 e3 => ?_
  refine ⟨nB, .list (ns.map PyData.int), .int i, .z 0, fun d _ => d = .int x, fun _ _ => False, fun _ z => z.elim, rep_ints (e3 _ _ (e2 _ _ (e1 _ _ ha))) id, .int _, ?_, ?_⟩
  · show (match L2.atI (ns.map PyData.int) i with | some d => ret d | none => stuck) (.z 0) _ _
    have e : L2.atI (ns.map PyData.int) i = some (.int x) := by
      unfold atI at hx ⊢
      rw [List.length_map]
      cases q : ixN ns.length i with
      | none => rw [q] at hx; cases hx
      | some j =>
        rw [q] at hx
        have hx' : ns[j]? = some x := hx
        show (ns.map PyData.int)[j]? = _
        rw [List.getElem?_map, hx']
        rfl
    rw [e]
    rfl
  · rintro z v H4 rfl a4 rv
    cases rv
    exact q H4 (e2.trans (e3.trans a4))
theorem asg_gives {te : TE} {i : Nat} {v : V} {D : Ends} (h : Gives te σ H v) (q : ∀ H', All H H' → D.nx (σ.set i (some v)) H') : tAsg te (gName i) D σ H := h H All.refl _ fun H' e => q H' e
def tDrawRest (K : PySem.W.Frag) : TS := tSeq (tAsg (tOpD K .add (tS K 2) (tC (.int 1))) (gName 3)) (tSeq (tAsg (tVar 3) (gSub (tVar 0) (tC (.int 2)) rSetL))
  (tSeq (tAsg (tOpD K .mod (tOp (rD2 K opIdx) (tS K 1) (tOpD K .mod (tVar 3) (tCB (rC1 K (bi1 .len)) (tCons (tS K 1) tNil)))) (tC (.int 2147483587))) (gName 4))
  (tSeq (tAsg (tOpD K .mod (tOpD K .add (tOpD K .add (tOpD K .mul (tVar 4) (tOpD K .add (tC (.int 16807)) (tOpD K .mul (tC (.int 69621)) (tVar 3)))) (tOpD K .mul (tOpD K .mul (tC (.int 40692)) (tVar 3)) (tVar 3))) (tC (.int 53))) (tC (.int 2147483647))) (gName 5))
  (tRet (tOpD K .mod (tOpD K .fdiv (tOpD K .mod (tOpD K .mul (tVar 5) (tVar 5)) (tC (.int 2147483629))) (tC (.int 16))) (tVar 1))))))
theorem g_add {ta tb : TE} {a b : Int} (ha : Gives ta σ H (.int a)) (hb : Gives tb σ H (.int b)) : Gives (tOpD K .add ta tb) σ H (.int (a + b)) := gives_op .add ha hb fun _ _ _ h => h
theorem g_mul {ta tb : TE} {a b : Int} (ha : Gives ta σ H (.int a)) (hb : Gives tb σ H (.int b)) (h : mulOk a b) : Gives (tOpD K .mul ta tb) σ H (.int (a * b)) := gives_op .mul ha hb fun _ _ _ q => ⟨h, q⟩
theorem g_mod {ta tb : TE} {a b : Int} (ha : Gives ta σ H (.int a)) (hb : Gives tb σ H (.int b)) (h : 0 < b) : Gives (tOpD K .mod ta tb) σ H (.int (a % b)) := gives_op .mod ha hb fun _ _ _ q => ⟨h, q⟩
theorem g_fdiv {ta tb : TE} {a b : Int} (ha : Gives ta σ H (.int a)) (hb : Gives tb σ H (.int b)) (h : 0 < b ∧ b < 9223372036854775808) : Gives (tOpD K .fdiv ta tb) σ H (.int (a / b)) := gives_op .fdiv ha hb fun _ _ _ q => ⟨h, q⟩
theorem draw_rest {S L C : Addr} {ls cs : List Int} {t : Nat} {many : Int} {H0 : Hp} {D : Ends} {x2 x3 x4 x5 : Option V} (hm : 0 < many ∧ many < 9223372036854775808) (ht : t < 2 ^ 40)
    (rt : ∀ (r : Int) H, Ext (strB S L C) H0 H → StrL S L C ls cs (t + 1) H → 0 ≤ r → r < many → D.rt (.int r) H)
    (hS : StrL S L C ls cs t H0) : tDrawRest K D [some (.ref S), some (.int many), x2, x3, x4, x5] H0 := by
  have ht' : (t : Int) < 2 ^ 40 := by exact_mod_cast ht
  have t0 : (0 : Int) ≤ t := Int.natCast_nonneg t
  refine asg_gives (g_add (gives_s hS rfl rfl) gives_c) fun H1 e1 => ?_
  have h1 := hS.all e1
  refine ⟨_, rfl, _, rfl, S, _, 2, 2, rfl, rfl, h1.hs, rfl, ?_⟩
  have x2' := (e1.ext (B := strB S L C)).trans (upd_strB (S := S) (L := L) (C := C) (ys := [.ref L, .ref C, .int ((t : Int) + 1)]) (.inl rfl) h1.hs)
  have h2 : StrL S L C ls cs (t + 1) (upd H1 S (.lst [.ref L, .ref C, .int ((t : Int) + 1)])) := by
    refine ⟨h1.sl, h1.sc, h1.lc, upd_same, ?_, ?_, h1.nc, h1.pl, h1.pc, h1.few⟩
    · rw [upd_ne h1.sl.symm]; exact h1.hl
    · rw [upd_ne h1.sc.symm]; exact h1.hc
  show tSeq _ _ D _ (upd H1 S (.lst [.ref L, .ref C, .int ((t : Int) + 1)]))
  generalize upd H1 S (.lst [.ref L, .ref C, .int ((t : Int) + 1)]) = H2 at x2' h2
  have hlen : 0 < cs.length := List.length_pos_iff.mpr h2.nc
  have hi0 : 0 ≤ ((t : Int) + 1) % (cs.length : Int) := Int.emod_nonneg _ (by omega)
  have hi1 : ((t : Int) + 1) % (cs.length : Int) < cs.length := Int.emod_lt_of_pos _ (by omega)
  obtain ⟨x, hx⟩ : ∃ x, atI cs (((t : Int) + 1) % (cs.length : Int)) = some x := by
    unfold atI ixN
    rw [if_pos hi0, if_pos hi1]
    exact ⟨_, List.getElem?_eq_getElem (by omega)⟩
  refine asg_gives (g_mod (gives_ix (gives_s h2 rfl rfl) (g_mod (gives_var rfl) (gives_len (gives_s h2 rfl rfl) h2.hc) (by omega)) h2.hc hx) gives_c (by decide)) fun H3 e3 => ?_
  have h3 := h2.all e3
  have c0 : 0 ≤ x % 2147483587 := Int.emod_nonneg _ (by decide)
  have c1 : x % 2147483587 < 2147483587 := Int.emod_lt_of_pos _ (by decide)
  refine asg_gives (g_mod (g_add (g_add (g_mul (gives_var rfl) (g_add gives_c (g_mul gives_c (gives_var rfl) (.inl (by decide)))) (.inl ⟨by omega, by omega⟩)) (g_mul (g_mul gives_c (gives_var rfl) (.inl (by decide))) (gives_var rfl) (.inr ⟨by omega, by omega⟩))) gives_c) gives_c (by decide)) fun H4 e4 => ?_
  have h4 := h3.all e4
  refine g_mod (g_fdiv (g_mod (g_mul (gives_var rfl) (gives_var rfl) (.inl ⟨?_, ?_⟩)) gives_c (by decide)) gives_c (by decide)) (gives_var rfl) hm.1 H4 All.refl _ fun H5 e5 => ?_
  · exact Int.lt_of_lt_of_le (by decide) (Int.emod_nonneg _ (by decide))
  · exact Int.lt_trans (Int.emod_lt_of_pos _ (by decide)) (by decide)
  · exact rt _ H5 (x2'.trans ((e3.trans (e4.trans e5)).ext)) (h4.all e5) (Int.emod_nonneg _ (by omega)) (Int.emod_lt_of_pos _ hm.1)
/-- the draw's body does what the draw says -/
theorem draw_sem {S L C : Addr} {c : Nat} {many : Int} {H0 : Hp} {D : Ends} (hm : 0 < many ∧ many < 9223372036854775808) (hc : c < 2 ^ 40) (hS : StrI S L C c H0)
    (rt : ∀ (r : Int) H, Ext (strB S L C) H0 H → StrI S L C (c + 1) H → 0 ≤ r → r < many → D.rt (.int r) H) :
    tSeq (tWhile (tDrawTest K) (tDrawTurn K)) (tDrawRest K) D [some (.ref S), some (.int many), none, none, none, none] H0 := by
  obtain ⟨ls, cs, t, ht, hL⟩ := hS.told
  show tWhile (tDrawTest K) (tDrawTurn K) { D with nx := tDrawRest K D } _ _
  refine draw_while (D := { D with nx := tDrawRest K D }) hm (fun x2 H e h => ?_) (fun r ls' H e h a b => rt r H e (h.str (by omega)) a b) hL
  exact draw_rest hm (by omega) (fun r H' e' h' a b => rt r H' (e.trans e') (h'.str (by omega)) a b) h
end
section
variable {P : Program} {w : World} {K : PySem.W.Frag} {mg : Str → Option Value} {base : Heap}
theorem fdraw_told {ds : List D} {c : Sx} {P : D → Sx → Prop} {XP : Exn → Sx → Prop} (h : fDraw ds c P XP) : ∃ many : Int, ds = [.int many] ∧ (0 < many ∧ many < 9223372036854775808 ∧ c.n < 2 ^ 40) ∧ ∀ r : Int, 0 ≤ r → r < many → P (.int r) c.up := by
  unfold fDraw at h
  split at h
  · rename_i many
    exact ⟨many, rfl, h.1, h.2⟩
  · exact h.elim
theorem fn_draw (sm : HasSm base) {x qual : Str} {st : Stmt} {f : Addr} {fd : FuncData} {N : List Str} {x0 x1 : Str} {k : Nat} (F : FnP K x qual st f fd) (S : FnScope N [x0, x1] (defScope st)) (hl : N.length = 6)
    (body : ∀ (cdv : Value) (A : Around) (outer : List PySem.Env) (s : Shared) (H : Hp) (E : XK) (p : Par), Sit (bodyX true P w K mg base N qual st f cdv A outer s H E) p k → PSs (bodyX true P w K mg base N qual st f cdv A outer s H E) (defBody st) (tSeq (tWhile (tDrawTest K) (tDrawTurn K)) (tDrawRest K))) :
    FnG true P w K mg base (k + 1) f fd [x0, x1] (spS K mg fDraw) := by
  refine fnG_body F S (fun vs H Q E ⟨_, _, _, ws, _, _, _, _, _, e, _, _, rs, mm, _⟩ => by
    obtain ⟨many, e2, _⟩ := fdraw_told mm
    rw [e, List.length_append, rs.length, e2]
    rfl) (fun cdv A outer s H vs Q E hr hg hsp => ?_)
  obtain ⟨S1, L1, C1, ws, B, ds, c, Pd, XP, rfl, trk, si, rs, mm, kq, ke⟩ := hsp
  obtain ⟨many, rfl, ⟨m1, m2, hc⟩, mr⟩ := fdraw_told mm
  have ok : (parS K S1 L1 C1 H c B XP E).Ok K mg :=
    ⟨fun n H1 H2 h hk im => StI.same h hk im, fun n n' x cl d B1 H1 H' σ st _ hx hs he hr => ke x n' cl d H' hx (st.ext.trans he) hs (exrep_go (fun a z => z.elim (fun z => bm_more he.up a (st.subc a z)) .inr) hr)⟩
  have S' := sit_body (P := P) (w := w) (base := base) (mg := mg) (f := f) (outer := outer) (H := H) (p := parS K S1 L1 C1 H c B XP E) (E := E) S hr hg ok (fun _ _ _ _ h => h) rfl sm
  refine ⟨_, body cdv A outer s H E _ S', ?_⟩
  cases rs with
  | cons r t =>
    cases t
    cases r
    have e : L2.start N ((if true = true then [V.ref S1] else []) ++ [V.int many]) = [some (.ref S1), some (.int many), none, none, none, none] := by
      show L2.start N [V.ref S1, V.int many] = _
      unfold L2.start
      rw [hl]
      rfl
    rw [e]
    refine draw_sem ⟨m1, m2⟩ hc si.str fun r H' e h a b => kq (.int r) c.up _ H' (mr r a b) ⟨e.more fun _ z => .inl z, fun _ z => z, fun _ z _ => z, fun g a z => e.dom a (g a z)⟩ ⟨h, fun a x q => ?_⟩ (.int r)
    have q1 := si.at_ a x q
    exact ⟨q1.1, q1.2.go e.imm fun o ho => e.keep a o ho q1.1⟩
end
section
variable {P : Program} {w : World} {K : PySem.W.Frag} {mg : Str → Option Value} {base : Heap} {X : Cx} {p : Par} {k : Nat}
/-- the script, walked -/
theorem pi_scr (i : Nat) {tg e : Expr} (he : PE X e (tVar i)) : PDI X p tg e (iScr i) := by
  refine ⟨_, pi_list he, fun B H σ E c P R st r m kk => ?_⟩
  have m' : (match E[i]? with | some (.scr ns) => ret (ns.map PyData.int) | _ => stuck) c P p.XP := m
  cases h : E[i]? with
  | none => rw [h] at m'; exact m'.elim
  | some y =>
    rw [h] at m'
    cases y with
    | scr ns =>
      obtain ⟨s, h1, h2⟩ := r.at_ i _ h
      cases h2 with
      | scr q =>
        rename_i a
        refine ⟨_, h1, a, rfl, ⟨_, q H fun o ho _ => ho⟩, kk _ c _ H m' Ev.refl st.si ?_⟩
        refine ⟨fun H' => SqL X.K H' a (ns.map V.int), q H fun o ho _ => ho, fun B1 H1 t => q H1 fun o ho hi => t.ext.imm a o ho hi, ?_⟩
        have wk := walk_list (K := X.K) (a := a) (xs := ns.map V.int)
        rw [List.length_map] at wk ⊢
        refine wk.mono (fun _ h => h) fun i H1 x H' hi hg y => ⟨fun b o e => by rw [y.1]; exact e, fun B1 t _ => ?_⟩
        obtain ⟨n, hn, rfl⟩ : ∃ n, ns[i]? = some n ∧ x = V.int n := by
          have y2 := y.2
          rw [List.getElem?_map] at y2
          cases e : ns[i]? with
          | none => rw [e] at y2; cases y2
          | some n => rw [e] at y2; exact ⟨n, rfl, (Option.some.inj y2).symm⟩
        exact ⟨.int n, by rw [List.getElem?_map, hn]; rfl, .int n⟩
    | _ => exact m'.elim
def spMake (K : PySem.W.Frag) : Sp := fun vs H Q EK => ∃ (a : Addr) (ns : List Int), vs = [.ref a] ∧ ns.length ≤ 63 ∧ (∀ H' : Hp, (∀ o, H a = some o → Imm o → H' a = some o) → SqL K H' a (ns.map V.int)) ∧
  ∀ (S L C : Addr) (H' : Hp), All H H' → StrI S L C 0 H' → Q (.ref S) H'
end
end DL
end
section
namespace DL
open PySem PySem.Spec PyProof.Rows L2
section
variable {P : Program} {w : World} {K : PySem.W.Frag} {mg : Str → Option Value} {base : Heap} {X : Cx} {p : Par} {k : Nat}
/-- the words of the stream's def -/
def mCells : XE := eComp (iScr 0) (.nm 2) tYes (eB1 .abs (eVar 2)) [2]
def mLarge : XE := eComp (iLst (eVar 1)) (.nm 2) (tBool (eCmp .ge (eVar 2) (eBin .pow (eCon (.int 10)) (eCon (.int 18))))) (eVar 2) [2]
def mSmall : XE := eIf (tBool (eCmp .ne (eVar 1) (eLst aNil))) (eVar 1) (eLst (aCons (eCon (.int 41)) aNil))
def absI (i : Int) : Int := if i < 0 then -i else i
theorem comp_abs (E : Env) (h : E.length = 3) : ∀ (ns : List Int) (acc : List D), acc.length + ns.length ≤ 1000 → compL (.nm 2) tYes (eB1 .abs (eVar 2)) (ns.map PyData.int) acc E = ret (acc ++ (ns.map absI).map PyData.int)
  | [], acc, _ => by simp [compL]
  | n :: ns, acc, hl => by
    simp only [List.length_cons] at hl
    have e : (E.set 2 (Ent.val (.int n)))[2]? = some (Ent.val (.int n)) := by rw [List.getElem?_set_self (by omega)]
    have hs : small acc.length := by unfold small; omega
    show bnd (tYes (E.set 2 (Ent.val (.int n)))) _ = _
    simp only [tYes, bnd_ret, if_true, eB1, eVar, e, bi1]
    rw [grd_pos hs, comp_abs E h ns _ (by rw [List.length_append]; simp only [List.length_singleton]; omega)]
    simp [absI]
theorem comp_large (E : Env) (h : E.length = 3) : ∀ (ns : List Int) (acc : List D), acc.length + ns.length ≤ 1000 → compL (.nm 2) (tBool (eCmp .ge (eVar 2) (eBin .pow (eCon (.int 10)) (eCon (.int 18))))) (eVar 2) (ns.map PyData.int) acc E =
      ret (acc ++ (ns.filter fun n => decide (10 ^ 18 ≤ n)).map PyData.int)
  | [], acc, _ => by simp [compL]
  | n :: ns, acc, hl => by
    simp only [List.length_cons] at hl
    have e : (E.set 2 (Ent.val (.int n)))[2]? = some (Ent.val (.int n)) := by rw [List.getElem?_set_self (by omega)]
    have hs : small acc.length := by unfold small; omega
    have hp : opPow (.int 10) (.int 18) = ret (.int (10 ^ 18)) := by
      show grd _ _ = _
      rw [grd_pos (by decide)]
      rfl
    show bnd (tBool _ (E.set 2 (Ent.val (.int n)))) _ = _
    simp only [tBool, eCmp, eBin, eCon, eVar, e, bnd_ret, opBin, hp, opCmp, opLe]
    by_cases hn : (10 : Int) ^ 18 ≤ n
    · rw [decide_eq_true hn, if_pos rfl, grd_pos hs, comp_large E h ns _ (by rw [List.length_append]; simp only [List.length_singleton]; omega), List.filter_cons_of_pos (by simpa using hn)]
      simp
    · rw [decide_eq_false hn, if_neg (by decide), comp_large E h ns _ (by omega), List.filter_cons_of_neg (by simpa using hn)]
/-- the body's par: a def that knows no state -/
def parN (H : Hp) (Q : XK) : Par := ⟨fun _ _ => False, fun _ _ => True, 0, H, .z 0, nB, fun _ _ => False, fun _ => Q, none, fun _ => none⟩
theorem bmN {H : Hp} {Q : XK} {B : Addr → Prop} {c : Sx} : ∀ a, bm (parN H Q) B c a → B a := fun a z => z.elim id fun z => z.elim
theorem st_triv {Q : XK} {H : Hp} : St0 (parN H Q) (.z 0) nB H := ⟨fun _ z => .inl z, fun a z => (bmN a z).elim, True.intro, Ev.refl, fun _ z => z.elim⟩
theorem absI_nonneg (i : Int) : 0 ≤ absI i := by unfold absI; split <;> omega
theorem stream_sem {EK : XK} {H0 : Hp} {ts1 : TS} {te1 te2 : TE} {a : Addr} {ns : List Int} {D : Ends} (hl : ns.length ≤ 63) (hq : ∀ H' : Hp, (∀ o, H0 a = some o → Imm o → H' a = some o) → SqL K H' a (ns.map V.int))
    (a2 : SR K (parN H0 EK) ts1 (sAsg 1 mCells)) (b2 : EvF K (parN H0 EK) te1 mLarge) (c2 : EvR K (parN H0 EK) te2 mSmall)
    (q : ∀ (S L C : Addr) (H' : Hp), All H0 H' → StrI S L C 0 H' → D.rt (.ref S) H') :
    tSeq ts1 (tRet (tLst (tCons te1 (tCons te2 (tCons (tC (.int 0)) tNil))))) D [some (.ref a), none, none] H0 := by
  refine a2 nB H0 _ [.scr ns, .unk, .unk] (.z 0) (fun o _ => o = .nx [.scr ns, .val (.list ((ns.map absI).map PyData.int)), .unk]) _ st_triv ?_ ?_ ?_ ?_ ?_ ?_
  · refine ⟨rfl, fun i e h => ?_, fun i j b xs ys h => ?_, .no rfl, fun j a xs z _ => by cases z⟩
    · match i, h with
      | 0, h => cases h; exact ⟨_, rfl, .scr hq⟩
      | 1, h => cases h; exact ⟨_, rfl, .unk _⟩
      | 2, h => cases h; exact ⟨_, rfl, .unk _⟩
    · match i, h with
      | 0, h => cases h
      | 1, h => cases h
      | 2, h => cases h
  · show bnd (eComp (iScr 0) (.nm 2) tYes (eB1 .abs (eVar 2)) [2] [.scr ns, .unk, .unk]) _ (.z 0) _ _
    show bnd (bnd (ret (ns.map PyData.int)) _) _ (.z 0) _ _
    simp only [bnd_ret]
    rw [comp_abs _ rfl ns [] (by simp only [List.length_nil]; omega)]
    rfl
  · rintro E' c' B' σ' H' hE st' tr' r'
    cases hE
    refine b2 B' H' σ' _ c' (fun d _ => d = .list (((ns.map absI).filter fun n => decide (10 ^ 18 ≤ n)).map PyData.int)) _ st' r' ?_ ?_
    · show bnd (bnd (ret _) _) _ c' _ _
      show bnd (noX (compL (.nm 2) (tBool (eCmp .ge (eVar 2) (eBin .pow (eCon (.int 10)) (eCon (.int 18))))) (eVar 2) ((ns.map absI).map PyData.int) [] _)) _ c' _ _
      rw [comp_large _ rfl (ns.map absI) [] (by simp only [List.length_nil, List.length_map]; omega)]
      rfl
    · rintro ds c1 L xs H1 hds e1 _ hL h1 rs
      cases hds
      have hxs := rs.ints (ints?_map _)
      subst hxs
      have st1 := st_q st' hL.1 e1.q True.intro (some_ne h1) (n' := c1)
      have r1 := env_q0 rfl r' st' hL.1 e1.q
      refine c2 _ H1 σ' _ c1 (fun d _ => d = .list ((if ns = [] then [41] else ns.map absI).map PyData.int)) _ st1 r1 ?_ ?_
      · have he : opEq (.list ((ns.map absI).map PyData.int)) (.list []) = ret (decide (ns = [])) := by
          unfold opEq
          rw [grd_pos (eqOk_of (shaped_ints _) rfl)]
          cases ns with
          | nil => rfl
          | cons n r => rfl
        have g0 : small ([] : List PyData).length := Nat.zero_le _
        have g1 : small [PyData.int 41].length := by show 1 ≤ 1000000; omega
        simp only [mSmall, eIf, tBool, eCmp, eVar, eLst, aNil, aCons, eCon, List.getElem?_cons_succ, List.getElem?_cons_zero, bnd_ret, grd_pos g0, grd_pos g1, opCmp, he]
        by_cases hn : ns = []
        · rw [hn]
          rfl
        · rw [decide_eq_false hn, if_neg hn]
          rfl
      · rintro d c3 v H2 rfl e2 _ rv
        cases rv with
        | lst h2 nb rs2 =>
          rename_i C ys
          have hys := rs2.ints (ints?_map _)
          subst hys
          have hLC : L ≠ C := fun z => nb (.inl (.inr z.symm))
          have h1' : H2 L = some (.lst (((ns.map absI).filter fun n => decide (10 ^ 18 ≤ n)).map V.int)) := e2.ext.keep _ _ h1 fun z => z
          refine ⟨by rw [sizeLine_eq]; show 3 ≤ _; decide, fun S hS => ?_⟩
          have nL : S ≠ L := fun z => by rw [z, h1'] at hS; cases hS
          have nC : S ≠ C := fun z => by rw [z, h2] at hS; cases hS
          refine q S L C _ ((all_of st'.ext.ext).trans ((all_of e1.ext).trans ((all_of e2.ext).trans (All.new hS)))) ⟨nL, nC, hLC, (ns.map absI).filter fun n => decide (10 ^ 18 ≤ n), if ns = [] then [41] else ns.map absI, 0, Nat.le_refl 0, upd_same, ?_, ?_, ?_, ?_, ?_, ?_⟩
          · rw [upd_ne nL.symm]; exact h1'
          · rw [upd_ne nC.symm]; exact h2
          · split
            · exact fun z => nomatch z
            · rename_i hn
              exact fun z => hn (List.map_eq_nil_iff.mp z)
          · intro x hx
            obtain ⟨y, _, rfl⟩ := List.mem_map.mp (List.mem_filter.mp hx).1
            exact absI_nonneg y
          · intro x hx
            split at hx
            · rw [List.mem_singleton.mp hx]; decide
            · obtain ⟨y, _, rfl⟩ := List.mem_map.mp hx
              exact absI_nonneg y
          · split
            · decide
            · rw [List.length_map]; omega
  · rintro d c' v H' h; cases h
  · rintro E' c' B' σ' H' h; cases h
  · rintro E' c' B' σ' H' h; cases h
end
section
variable {P : Program} {w : World} {K : PySem.W.Frag} {mg : Str → Option Value} {base : Heap}
/-- the stream's def -/
theorem fn_stream (sm : HasSm base) {x qual : Str} {st : Stmt} {f : Addr} {fd : FuncData} {N : List Str} {x0 : Str} {k : Nat} (F : FnP K x qual st f fd) (S : FnScope N [x0] (defScope st)) (hl : N.length = 3)
    (body : ∀ (cdv : Value) (A : Around) (outer : List PySem.Env) (s : Shared) (H : Hp) (E : XK) (p : Par), Sit (bodyX true P w K mg base N qual st f cdv A outer s H E) p k →
      ∃ (s1 : Stmt) (e1 e2 : Expr), (∀ t1 te1 te2, PS (bodyX true P w K mg base N qual st f cdv A outer s H E) s1 t1 → PE (bodyX true P w K mg base N qual st f cdv A outer s H E) e1 te1 → PE (bodyX true P w K mg base N qual st f cdv A outer s H E) e2 te2 →
          PSs (bodyX true P w K mg base N qual st f cdv A outer s H E) (defBody st) (tSeq t1 (tRet (tLst (tCons te1 (tCons te2 (tCons (tC (.int 0)) tNil))))))) ∧
        PSD (bodyX true P w K mg base N qual st f cdv A outer s H E) p s1 (sAsg 1 mCells) ∧ PDF (bodyX true P w K mg base N qual st f cdv A outer s H E) p e1 mLarge ∧ PD (bodyX true P w K mg base N qual st f cdv A outer s H E) p e2 mSmall) :
    FnG true P w K mg base (k + 1) f fd [x0] (spMake K) := by
  refine fnG_body F S (fun vs H Q E ⟨_, _, e, _⟩ => by rw [e]; rfl) (fun cdv A outer s H vs Q E hr hg hsp => ?_)
  obtain ⟨a, ns, rfl, hn, hS, kq⟩ := hsp
  have ok : (parN H E).Ok K mg := ⟨fun _ _ _ _ _ _ => True.intro, fun _ _ _ _ _ _ _ _ _ _ _ z => z.elim⟩
  have S' := sit_body (P := P) (w := w) (base := base) (mg := mg) (f := f) (outer := outer) (H := H) (p := parN H E) (E := E) S hr hg ok (fun _ _ _ _ h => h) rfl sm
  obtain ⟨s1, e1, e2, mk, h1, h2, h3⟩ := body cdv A outer s H E _ S'
  obtain ⟨t1, a1, a2⟩ := h1.ex
  obtain ⟨t2, b1, b2⟩ := h2.ex
  obtain ⟨t3, c1, c2⟩ := h3.ex
  refine ⟨_, mk t1 t2 t3 a1 b1 c1, ?_⟩
  have e : L2.start N [V.ref a] = [some (.ref a), none, none] := by
    unfold L2.start
    rw [hl]
    rfl
  rw [e]
  exact stream_sem hn hS a2 b2 c2 fun S L C H' al si => kq S L C H' al si
theorem pss_any {X : Cx} {ss : List Stmt} : PSs X ss (fun D σ H => ∃ ts, PSs X ss ts ∧ ts D σ H) := ⟨fun pins s σ H D I ⟨_, h, q⟩ => h.run pins s σ H D I q⟩
/-- what the law is asked -/
def spLaw (K : PySem.W.Frag) : Sp := fun vs H Q _ => ∃ (a : Addr) (ns : List Int), vs = [.ref a] ∧ ns.length ≤ 63 ∧ (∀ H' : Hp, (∀ o, H a = some o → Imm o → H' a = some o) → SqL K H' a (ns.map V.int)) ∧ ∀ H', Q (.bl true) H'
/-- the law's own environment: the stream at i -/
def lawE (n i : Nat) : Env := (List.replicate n Ent.unk).set i .stm
theorem fn_law (sm : HasSm base) {x qual : Str} {st : Stmt} {f fM : Addr} {fd fdM : FuncData} {N : List Str} {x0 : Str} {j k i : Nat} {m : XS} (F : FnP K x qual st f fd) (S : FnScope N [x0] (defScope st)) (hi : i < N.length) (h0 : 0 < N.length)
    (G : FnG true P w K mg base j fM fdM [x0] (spMake K)) (hj : j ≤ k)
    (body : ∀ (cdv : Value) (A : Around) (outer : List PySem.Env) (s : Shared) (H : Hp) (E : XK), ∃ rest,
      (∀ ts, (RoomB true k (bodyX true P w K mg base N qual st f cdv A outer s H E).A → (bodyX true P w K mg base N qual st f cdv A outer s H E).A.guards = some [] → (∀ σ, PassesAt (CXd K P w) (bodyX true P w K mg base N qual st f cdv A outer s H E) σ E) → PSs (bodyX true P w K mg base N qual st f cdv A outer s H E) rest ts →
        PSs (bodyX true P w K mg base N qual st f cdv A outer s H E) (defBody st) (tSeq (tAsg (tCallSD (spMake K) [] (fun _ => E) (tCons (tVar 0) tNil)) (gName i)) ts))) ∧
      ∀ (p : Par), Sit (bodyX true P w K mg base N qual st f cdv A outer s H E) p k → IsStr K p → (∀ i, p.pin i = none) → PSSD (bodyX true P w K mg base N qual st f cdv A outer s H E) p rest m)
    (math : m (lawE N.length i) (.z 0) (fun o _ => o = .rt (.bool true)) fun _ _ => False) : FnG true P w K mg base (k + 1) f fd [x0] (spLaw K) := by
  refine fnG_body F S (fun vs H Q E ⟨_, _, e, _⟩ => by rw [e]; rfl) (fun cdv A outer s H vs Q E hr hg hsp => ?_)
  obtain ⟨a, ns, rfl, hn, hS, kq⟩ := hsp
  obtain ⟨rest, mk, hb⟩ := body cdv A outer s H E
  refine ⟨_, mk _ hr hg (fun σ => passes_callD (E := E) (takes_ofD rfl rfl rfl rfl) (fun _ _ _ _ h => h) σ) pss_any, ?_⟩
  have e0 : (L2.start N [V.ref a])[0]? = some (some (.ref a)) := rfl
  refine ⟨.ref a, e0, a, ns, rfl, hn, hS, fun S1 L1 C1 H1 al si => ?_⟩
  have okp : (parS K S1 L1 C1 H1 (.z 0) nB (fun _ _ => False) E).Ok K mg :=
    ⟨fun n Ha Hb h hk im => StI.same h hk im, fun _ _ _ _ _ _ _ _ _ _ _ z => z.elim⟩
  have sti : StI K S1 L1 C1 (.z 0) H1 := ⟨si, fun a x e => by cases e⟩
  have S' := sit_body (P := P) (w := w) (base := base) (mg := mg) (f := f) (outer := outer) (H := H) (p := parS K S1 L1 C1 H1 (.z 0) nB (fun _ _ => False) E) (E := E) S hr hg okp (fun _ _ _ _ h => h) rfl sm
  obtain ⟨ts, t1, t2⟩ := (hb _ S' ⟨S1, L1, C1, rfl, rfl, rfl⟩ fun _ => rfl).ex
  refine ⟨ts, t1, ?_⟩
  have l1 : (L2.start N [V.ref a]).length = N.length := by
    unfold L2.start
    rw [List.length_append, List.length_map, List.length_replicate, List.length_singleton]
    omega
  refine t2 nB H1 _ (lawE N.length i) (.z 0) (fun o _ => o = .rt (.bool true)) _ ⟨fun _ z => .inl z, fun a z => z.elim (fun z => z.elim) fun z => sti.there z, sti, Ev.refl, fun _ z => z.elim⟩ ⟨?_, fun q e h => ?_, fun q r b xs ys h => ?_, .no rfl, fun j a xs z _ => by cases z⟩ math ?_ ?_ ?_ ?_
  · unfold lawE
    rw [List.length_set, List.length_set, l1, List.length_replicate]
  · unfold lawE at h
    rw [List.getElem?_set] at h ⊢
    by_cases hq : i = q
    · rw [if_pos hq] at h ⊢
      rw [List.length_replicate, if_pos hi] at h
      rw [l1, if_pos hi]
      cases h
      exact ⟨_, rfl, .stm (p := parS K S1 L1 C1 H1 (.z 0) nB (fun _ _ => False) E)⟩
    · rw [if_neg hq] at h ⊢
      rw [List.getElem?_replicate] at h
      split at h
      · cases h
        rename_i hlt
        exact ⟨_, List.getElem?_eq_getElem (by rw [l1]; exact hlt), .unk _⟩
      · cases h
  · unfold lawE at h
    rw [List.getElem?_set] at h
    by_cases hq : i = q
    · rw [if_pos hq] at h
      split at h <;> cases h
    · rw [if_neg hq, List.getElem?_replicate] at h
      split at h <;> cases h
  · rintro E' c' B' σ' H' h; cases h
  · intro d c' v H' h _ _ rv
    cases h
    cases rv
    exact kq H'
  · rintro E' c' B' σ' H' h; cases h
  · rintro E' c' B' σ' H' h; cases h
end
section
variable {P : Program} {w : World} {K : PySem.W.Frag} {mg mb : Str → Option Value}
theorem enter_law {k : Nat} {f a : Addr} {fd : FuncData} {x : Str} {s : Shared} {us : List Value} {ns : List Int} (inK : K.In s.heap) (g : s.heap.Ns mainGlobals mg) (b : s.heap.Ns builtinsNs mb) (bb : ∀ y : Str, y ≠ "__name__" → mb y = bootBuiltins y)
    (lim : s.heap.NoLimit) (noGens : s.gens = #[]) (hObj : s.heap.get? a = some { cls := .type "list", data := .seq us.toArray }) (isI : IntsAre us ns) (few : ns.length ≤ 63) (room : Room k callerA)
    (G : ∀ bh : Heap, K.In bh → bh.Ns mainGlobals mg → FnG true P w K mg bh k f fd [x] (spLaw K)) (binds : ∀ (t : Shared) (u : Value), BindsTo t fd ⟨[u], []⟩ [(x, u)]) :
    codeAny (model P w) callerA (.call (.ref f) ⟨[.ref a], []⟩) (fun r t => r = .ok (.ret (.bool true)) ∧ OldK s.heap t.heap ∧ t.os = s.os ∧ AllBare t.gens) s := by
  have vals := vals_ints isI
  have fewL : ns.length ≤ sizeLine := Nat.le_trans few (by rw [sizeLine_eq]; decide)
  have lens := isI.length
  classical
  let fz : HO := .frz { cls := .type "list", data := .seq us.toArray } (.lst (ns.map V.int))
  let H : Hp := fun c => if c = a ∧ K.lookup a = none then some fz else none
  have Hin : ∀ c o, H c = some o → c = a ∧ K.lookup a = none ∧ o = fz := fun c o h => by
    by_cases hc : c = a ∧ K.lookup a = none
    · have z := (if_pos hc).symm.trans h
      cases z
      exact ⟨hc.1, hc.2, rfl⟩
    · have z := (if_neg hc).symm.trans h
      cases z
  have Hno : ∀ c, (c ≠ a ∨ K.lookup a ≠ none) → H c = none := fun c h => if_neg fun z => h.elim (fun q => q z.1) fun q => q z.2
  have seqA : ∀ H' : Hp, (∀ o, H a = some o → Imm o → H' a = some o) → SqL K H' a (ns.map V.int) := by
    intro H' hk
    cases q : K.lookup a with
    | none => exact .inl (.inr ⟨_, hk fz (if_pos ⟨rfl, q⟩) True.intro⟩)
    | some o =>
      have e := inK a o q
      rw [hObj] at e
      cases e
      exact .inr ⟨_, us.toArray, _, q, rfl, rfl, rfl, by rw [List.size_toArray, lens]; exact fewL, by simpa using vals⟩
  have kept : ∀ {c : Addr} {o : Obj}, s.heap.get? c = some o → H c = none → (hidT s.heap H).get? c = some o := fun h1 h2 => hidT_get h1 h2
  have dictNo : ∀ {c : Addr} {o : Obj} {es : Array DictEntry} {n : Nat}, s.heap.get? c = some o → o.data = .dict es n → H c = none := fun {c o es n} h1 h2 => Hno c (.inl fun z => by
    rw [z, hObj] at h1
    cases h1
    have h3 : Data.seq us.toArray _ = Data.dict es n := h2
    cases h3)
  have nsTo : ∀ {c : Addr} {m : Str → Option Value}, s.heap.Ns c m → (hidT s.heap H).Ns c m := fun {c m} ⟨o, es, n, h1, h2, h3⟩ => ⟨o, es, n, kept h1 (dictNo h1 h2), h2, h3⟩
  have inB : K.In (hidT s.heap H) := fun c o h => kept (inK c o h) (Hno c (by
    by_cases z : c = a
    · exact .inr (by rw [← z, h]; exact fun q => nomatch q)
    · exact .inl z))
  have md : Mod K mg (hidT s.heap H) := ⟨inB, nsTo g, ⟨mb, nsTo b, bb⟩, let ⟨m2, y1, y2⟩ := lim; ⟨m2, nsTo y1, y2⟩⟩
  have good : HOk P w H s.heap := fun c o h => by
    obtain ⟨rfl, _, rfl⟩ := Hin c o h
    exact ⟨hObj, by rw [List.length_map]; exact fewL, us, _, vals, hObj⟩
  have start0 : Env0 P w K mg (hidT s.heap H) callerA [] s H := ⟨rfl, md, fun c o h => of_hidT h, Nat.le_of_eq (hidT_size _ _), trivial, fun c hc => (nomatch hc), good, .of_eq noGens⟩
  have asked : spLaw K [.ref a] H (fun v _ => v = .bl true) fun _ _ _ => False := ⟨a, ns, rfl, few, seqA, fun _ => rfl⟩
  have ran := (G _ inB (nsTo g)).go callerA [] s H ⟨[.ref a], []⟩ [.ref a] [.ref a] _ _ (.of room) rfl start0 (binds s (.ref a)) (.cons rfl .nil) asked
  refine codeAny_mono ran fun r t h => ?_
  match r, h with
  | .error e, h =>
    exact (no_cxD (fun _ _ _ z => z) h).elim
  | .ok (.ret u), h =>
    obtain ⟨v, H2, os2, bare2, un2, ok2, rel2, veq⟩ := h
    have veq' : v = .bl true := veq
    rw [veq'] at rel2
    have ueq : u = Value.bool true := rel2
    rw [ueq]
    refine ⟨rfl, OldK.of_keep fun c o hc => ?_, os2, bare2⟩
    cases q : H c with
    | none => exact un2.keep c o hc q (fun z => (nomatch z)) (fun z => (nomatch z))
    | some o2 =>
      obtain ⟨rfl, _, rfl⟩ := Hin c o2 q
      obtain ⟨g1, _⟩ := good c _ q
      obtain ⟨g2, _⟩ := ok2 c _ (un2.frzs c _ _ q)
      rw [hc] at g1
      cases g1
      exact g2
  | .ok .next, h => exact h.elim
  | .ok .brk, h => exact h.elim
  | .ok .cont, h => exact h.elim
end
theorem walk_law {l : PySem.W.OpenLaw} {k : Nat} {q : Program} {loose : List Str} {XP : (Str → Option Value) → Heap → Prop} {YP : World → Heap → Prop} {d : DefRec} {x : Str} (hn : l.most = some 63) (hdf : d.params.defaults = []) (room : Room k callerA)
    (F : ∀ (w : World) (mg : Str → Option Value) (f : Addr) (h : Heap), YP w h → h.Ns mainGlobals mg → mg d.name = some (.ref f) →
      ∃ (K : PySem.W.Frag) (fd : FuncData), K.In h ∧ (∀ (t : Shared) (u : Value), BindsTo t fd ⟨[u], []⟩ [(x, u)]) ∧ ∀ bh : Heap, K.In bh → bh.Ns mainGlobals mg → FnG true l.prog w K mg bh k f fd [x] (spLaw K)) :
    PySem.W.WalkO q loose XP YP l.row.toRowW d [] (fun f vs => PySem.call f vs) := by
  refine Att.attach_call hn hdf fun w s0 s mg mb f o pm cd doc a us ns gr Y _ _ _ hmg hObj isI few noGens => ?_
  obtain ⟨K, fd, inK, bd, G⟩ := F w mg f _ Y gr.T.g hmg
  exact enter_law inK gr.T.g gr.T.b gr.T.builtins gr.T.nolimit noGens hObj isI few room G bd
end DL
end
section
namespace DL
open PySem PySem.Spec PyProof.Rows L2
section
variable {X : Cx} {p : Par} {k : Nat} {tg : Expr}
def wAny (K : PySem.W.Frag) (te : TE) : TI := fun σ H R => te σ H fun x H1 => ∃ a, x = .ref a ∧ ((∃ xs, SqL K H1 a xs ∧ R (Itl K a) H1) ∨ (∃ xs, SqT K H1 a xs ∧ R (Itt K a) H1))
theorem pi_any {e : Expr} {te : TE} (he : PE X e te) : PI X tg e (wAny X.K te) := by
  constructor
  intro pins s σ H R I h
  refine thn (he.run pins s σ H _ I h) fun v s2 ⟨x, H2, I2, rel, a, xe, alt⟩ => ?_
  subst xe
  cases rel
  have youngest : ∀ c, c ∈ [s2.heap.objs.size] → FpOk X pins H2 c := fun c hc => by
    rw [List.mem_singleton.mp hc]
    exact I2.fpOk (Nat.le_refl _) (I2.hok.fresh (Nat.le_refl _))
  rcases alt with ⟨xs, sq, r⟩ | ⟨xs, sq, r⟩
  · obtain ⟨its, vals, isl, _⟩ := I2.list sq
    exact wpAny_pyIter_list isl.isList ⟨s2.heap.objs.size, [s2.heap.objs.size], _, _, H2, rfl, I2.kept (t' := s2.toks) fun c o h => Heap.get?_push_of_some _ h, turn_list a _, ⟨_, Heap.get?_push_size _ rfl, rfl, rfl⟩, youngest, r⟩
  · obtain ⟨its, vals, ist, _⟩ := I2.tuple sq
    exact wpAny_pyIter_tuple (show s2.heap.IsTuple a its.toArray from ist) ⟨s2.heap.objs.size, [s2.heap.objs.size], _, _, H2, rfl, I2.kept (t' := s2.toks) fun c o h => Heap.get?_push_of_some _ h, turn_tuple a _, ⟨_, Heap.get?_push_size _ rfl, rfl, rfl⟩, youngest, r⟩
theorem pi_seq {e : Expr} {m : XE} (he : PD X p e m) : PDI X p tg e (iSeq m) := by
  obtain ⟨te, a1, a2⟩ := he.ex
  refine ⟨_, pi_any a1, fun B H σ E c P R st r m k => ?_⟩
  refine a2 B H σ E _ _ _ st r m fun d c1 v H1 m1 e1 s1 r1 => ?_
  cases r1 with
  | lst q n t => exact ⟨_, rfl, .inl ⟨_, SqL.of q, k _ _ _ H1 m1 e1 s1 (walkD_list q n t)⟩⟩
  | tup q t => exact ⟨_, rfl, .inr ⟨_, q, k _ _ _ H1 m1 e1 s1 (walkD_tup q t)⟩⟩
  | _ => exact m1.elim
/-- names = e -/
theorem sd_put {cb : Bool} (S : SitB cb true X p k) {e : Expr} {m : XE} {t : Tg} {pos : Pos} (hg : PG X tg (gOf X.K t)) (he : PD X p e m) (hs : swapsWithSole [tg] e pos.line X.env = pure false := by rfl) (hw : swappedStores [tg] e X.env = pure none := by rfl)
    (h1 : (assignEach [tg] X.env).map (·.2) = [assign tg X.env] := by rfl) : PSD X p (.Assign [tg] e pos) (sPut t m) := by
  obtain ⟨te, a1, a2⟩ := he.ex
  refine ⟨_, ps_asg a1 hg hs hw h1, fun B H σ E c P Dn st r m nx rt bk ct => ?_⟩
  refine a2 B H σ E _ _ _ st r m fun d c1 v H1 m1 e1 s1 r1 => ?_
  have m1' : (match t.put d E with | some E' => ret (Out.nx E') | none => stuck) c1 P p.XP := m1
  cases h : t.put d E with
  | none => rw [h] at m1'; exact m1'.elim
  | some E' =>
    rw [h] at m1'
    exact gOf_put S.nf (r.go st e1) r1 h _ fun σ' g _ _ => nx _ _ B _ H1 m1' (st.go e1 s1) ((st.up e1)) g
end
end DL
end
section
namespace DL
open PySem PySem.Spec PyProof.Rows L2
/-- a sequence, by its kind: a tuple, a list -/
def SqX (K : PySem.W.Frag) (t : Bool) (H : Hp) (a : Addr) (xs : List V) : Prop := if t = true then SqT K H a xs else SqL K H a xs
def ItX (t : Bool) (h : Heap) (it a : Addr) (i : Nat) : Prop := if t = true then h.IsTupleIter it a i else h.IsListIter it a i
def ObX (t : Bool) (h : Heap) (a : Addr) (its : List Value) : Prop := if t = true then h.IsTuple a its.toArray else h.IsList a its.toArray
def cellX (t : Bool) (a : Addr) : Obj := if t = true then { cls := .type "tuple_iterator", data := .fields #[.ref a, .int 0 0] } else { cls := .type "list_iterator", data := .fields #[.ref a, .int 0 0] }
theorem ItX.at_ {t : Bool} {h h' : Heap} {it a : Addr} {i : Nat} (x : ItX t h it a i) (e : ∀ o, h.get? it = some o → h'.get? it = some o) : ItX t h' it a i := by
  cases t
  · exact Heap.IsListIter.at (h := h) x e
  · exact Heap.IsTupleIter.at (h := h) x e
theorem ItX.get {t : Bool} {h : Heap} {it a : Addr} {i : Nat} (x : ItX t h it a i) : ∃ o vs, h.get? it = some o ∧ o.data = .fields vs := by
  cases t
  · obtain ⟨o, e, _, d⟩ := (show h.IsListIter it a i from x); exact ⟨o, _, e, d⟩
  · obtain ⟨o, e, _, d⟩ := (show h.IsTupleIter it a i from x); exact ⟨o, _, e, d⟩
theorem drawsX {P : Program} {w : World} {A : Around} (hh : A.handled = none) (t : Bool) (it a : Addr) (hne : a ≠ it) (its : List Value) :
    Draws P w A it [it, a] its.length (fun i v => its[i]? = some v) (fun i h => ItX t h it a i ∧ ObX t h a its) := by
  cases t
  · have := Draws.list (prog := P) (w := w) hh it a hne its.toArray
    simpa [ItX, ObX] using this
  · have := Draws.tuple (prog := P) (w := w) hh it a hne its.toArray
    simpa [ItX, ObX] using this
section
variable {X : Cx} {pins : List (Addr × Obj)} {σ : L2.St} {H : Hp} {s : Shared}
theorem inv_X {t : Bool} {a : Addr} {xs : List V} (I : Inv X pins σ H s) (h : SqX X.K t H a xs) : ∃ its : List Value, Vals xs its ∧ ObX t s.heap a its := by
  cases t
  · obtain ⟨its, r, p, _⟩ := I.list (show SqL X.K H a xs from h)
    exact ⟨its, r, p.isList⟩
  · obtain ⟨its, r, p, _⟩ := I.tuple (show SqT X.K H a xs from h)
    exact ⟨its, r, (show s.heap.IsTuple a its.toArray from p)⟩
theorem inj_X {t : Bool} {a : Addr} {xs ys : List V} (I : Inv X pins σ H s) (h : SqX X.K t H a xs) (h' : SqX X.K t H a ys) : xs = ys := by
  cases t
  · exact I.list_inj h h'
  · exact I.tuple_inj h h'
end
theorem obX_ne {t : Bool} {h : Heap} {a it : Addr} {its : List Value} {o : Obj} {vs : Array Value} (x : ObX t h a its) (e : h.get? it = some o) (d : o.data = .fields vs) : a ≠ it := by
  rintro rfl
  cases t
  · obtain ⟨o', e', _, n, d'⟩ := (show h.IsList a its.toArray from x)
    rw [e] at e'
    cases e'
    rw [d] at d'
    cases d'
  · obtain ⟨o', e', _, n, d'⟩ := (show h.IsTuple a its.toArray from x)
    rw [e] at e'
    cases e'
    rw [d] at d'
    cases d'
theorem obX_dict {t : Bool} {h : Heap} {a e it : Addr} {c : Int} {old : Value} {its : List Value} (x : ObX t h a its) (he : IsEnum h e it c old) : a ≠ e := obX_ne x he rfl
/-- the sequence at a as it stands at each turn, each item in a new pair with its number, from c on -/
def IteX (K : PySem.W.Frag) (t : Bool) (c : Int) (a : Addr) : It :=
  ⟨fun i H => ∃ (xs : List V) (x : V), SqX K t H a xs ∧ xs[i]? = some x,
   fun i H v H' => ∃ T x, v = .ref T ∧ H T = none ∧ H' = upd H T (.tup [.int (c + (i : Int)), x]) ∧ ∀ xs, SqX K t H a xs → xs[i]? = some x,
   fun i H => ∃ xs : List V, SqX K t H a xs ∧ xs.length = i⟩
theorem turn_enumX {P : Program} {w : World} {K : PySem.W.Frag} {elts : List Expr} {kk : Nat} {tpos : Pos} (t : Bool) (c : Int) (a e it : Addr) :
    Turn P w K (.Tuple elts kk tpos) (IteX K t c a) [e, it] e (fun i h => (∃ old, IsEnum h e it (c + (i : Int)) old) ∧ ItX t h it a i ∧ e ≠ it) where
  mem := List.mem_cons_self ..
  obj := fun i h st b hb => by
    obtain ⟨⟨old, he⟩, hi, _⟩ := st
    rcases List.mem_cons.mp hb with rfl | hb
    · exact ⟨_, he, fun v q => nomatch q⟩
    · rw [List.mem_singleton.mp hb]
      obtain ⟨o, vs, ho, hd⟩ := hi.get
      exact ⟨o, ho, fun v q => by rw [hd] at q; cases q⟩
  keep := fun i h h' st k => by
    obtain ⟨⟨old, he⟩, hi, hne⟩ := st
    exact ⟨⟨old, k e (List.mem_cons_self ..) _ he⟩, hi.at_ fun o q => k it (.tail _ (List.mem_singleton.mpr rfl)) o q, hne⟩
  item := by
    intro X hP hw hK calm i pins s σ H E I fresh st going
    subst hP hw hK
    obtain ⟨⟨old, he⟩, hi, hne⟩ := st
    obtain ⟨xs, x, sq, hx⟩ := going
    obtain ⟨its, vals, ob⟩ := inv_X I sq
    obtain ⟨u, hu, ru⟩ := vals.get hx
    obtain ⟨io, ivs, hio, hid⟩ := hi.get
    have ai : a ≠ it := obX_ne ob hio hid
    have ae : a ≠ e := obX_dict ob he
    have eLt : e < s.heap.objs.size := Heap.lt_size he
    have iLt : it < s.heap.objs.size := Heap.lt_size hio
    have nh : X.A.in1.handled = none := I.ok.hd calm
    refine wpAny_pyNext_enum_itemC (drawsX nh t it a ai its) he ⟨hi, ob⟩ (List.getElem?_eq_some_iff.mp hu).1 hne (fun z => by
      rcases List.mem_cons.mp z with z | z
      · exact hne z
      · exact ae (List.mem_singleton.mp z).symm) fun y h2 tk hy out st2 hT hsz kept => ?_
    have hyu : y = u := Option.some.inj (hy.symm.trans hu)
    subst hyu
    refine ⟨_, rfl, wpAny_letOwnedTupleGo_enum (s := { s with heap := h2, toks := tk + 1 }) out fun h3 he3 same => ?_⟩
    have hT3 : h3.get? s.heap.objs.size = some { cls := .type "tuple", data := .seq #[.int (c + (i : Int)) tk, y] } := (same.2 _ (Nat.ne_of_gt eLt)).trans hT
    have made : ObjOk X.prog X.w (upd H s.heap.objs.size (.tup [.int (c + (i : Int)), x])) h3 s.heap.objs.size (.tup [.int (c + (i : Int)), x]) :=
      ⟨by show 2 ≤ sizeLine; rw [sizeLine_eq]; decide, [.int (c + (i : Int)) tk, y], .cons ⟨_, rfl⟩ (.cons ru .nil), ⟨_, hT3, rfl, _, rfl⟩⟩
    have I3 : Inv X pins σ (upd H s.heap.objs.size (.tup [.int (c + (i : Int)), x])) { s with heap := h3, toks := tk + 1 } :=
      I.turnedNew (ch := [e, it]) (fun b ob2 hb q => (same.2 b (fun z => hb (by rw [z]; exact List.mem_cons_self ..))).trans (kept b ob2 (fun z => hb (by rw [z]; exact List.mem_cons_self ..)) (fun z => hb (by rw [z]; exact .tail _ (List.mem_singleton.mpr rfl))) q)) fresh (Nat.le_refl _) made
    refine ⟨.ref s.heap.objs.size, _, I3, rfl, ⟨_, x, rfl, I.hok.fresh (Nat.le_refl _), rfl, fun ys hys => by rw [inj_X I hys sq]; exact hx⟩, ⟨⟨y, ?_⟩, st2.1.at_ fun o q => (same.2 it (Ne.symm hne)).trans q, hne⟩, fun b hb => ?_⟩
    · rw [show c + ((i + 1 : Nat) : Int) = c + (i : Int) + 1 by omega]
      exact he3
    · have bLt : b < s.heap.objs.size := by
        rcases List.mem_cons.mp hb with rfl | hb
        · exact eLt
        · rw [List.mem_singleton.mp hb]; exact iLt
      rw [upd_ne (Nat.ne_of_lt bLt)]
      exact (fresh b hb).1
  done := by
    intro X hP hw hK calm i pins s σ H E I fresh st ending
    subst hP hw hK
    obtain ⟨⟨old, he⟩, hi, hne⟩ := st
    obtain ⟨xs, sq, hx⟩ := ending
    obtain ⟨its, vals, ob⟩ := inv_X I sq
    obtain ⟨io, ivs, hio, hid⟩ := hi.get
    have ai : a ≠ it := obX_ne ob hio hid
    have nh : X.A.in1.handled = none := I.ok.hd calm
    have len := vals.length
    obtain ⟨f0, f1, f2, f3, f4, f5⟩ := fresh it (.tail _ (List.mem_singleton.mpr rfl))
    have at_end : ItX t s.heap it a its.length ∧ ObX t s.heap a its := by
      rw [← len, hx]
      exact ⟨hi, ob⟩
    exact wpAny_pyNext_enum_endD (drawsX nh t it a ai its) he at_end fun h2 ext => ⟨rfl, I.turned (t' := s.toks) (fun b o hb q => ext b o hb q) f0 f1 f3 f4 f5⟩
  self := fun A i s Q E st h => by
    obtain ⟨⟨_, he⟩, _⟩ := st
    exact wpAny_pyIter_enum he h
theorem meets_enumB {v : Value} {o : Obj} {Hh : Heap → Prop} (B : Begins v o Hh) :
    Meets (Builtin.«enumerate.__new__» ⟨[.type "enumerate", v], []⟩) (fun _ R s => Hh s.heap ∧ R (.ok (.ret (.ref (s.heap.push o).objs.size)))
      { s with heap := (s.heap.push o).push { cls := .type "enumerate", data := .fields #[.none, .bool false, .ref s.heap.objs.size, rawInt 0, .none, .none] } }) :=
  .of_wp fun P w A R s h => by
    obtain ⟨heap, gens, drawn, toks, os⟩ := s
    obtain ⟨there, h⟩ := h
    have below := sub_enumerate
    have walk : ∀ {A2 : Around} {E : Value → Shared → Prop} {Q : Value → Shared → Prop}, Q (.ref heap.objs.size) ⟨heap.push o, gens, drawn, toks, os⟩ → wpAny (model P w) A2 (pyIter v) Q E ⟨heap, gens, drawn, toks, os⟩ :=
      fun q => B.iter P w _ _ ⟨heap, gens, drawn, toks, os⟩ _ there q
    wp_walk using walk
    refine wpAny_stack_any fun frames => wpAny_pure ?_
    split
    · rename_i k _ _ _ _ _
      cases (k == Value.type "enumerate") <;> (wp_walk using walk; exact ⟨_, rfl, h⟩)
    · wp_walk using walk
      exact ⟨_, rfl, h⟩
theorem enum_new {P : Program} {w : World} {A : Around} {E : Value → Shared → Prop} {s : Shared} {v : Value} {o : Obj} {Hh : Heap → Prop} {Q : Value → Shared → Prop} (B : Begins v o Hh) (there : Hh s.heap)
    (h : ∀ h', IsEnum h' (s.heap.objs.size + 1) s.heap.objs.size 0 .none → h'.get? s.heap.objs.size = some o → (∀ b u, s.heap.get? b = some u → h'.get? b = some u) → Q (.ref (s.heap.objs.size + 1)) { s with heap := h' }) :
    wpAny (model P w) A (call (.type "enumerate") [v]) Q E s := by
  refine callType_new F.called_enumerate (by decide) (F.typeCall_enumerate_1 _) (F.newCall_enumerate_1 _) (fun obj => F.args_object_init_2 obj _) F.entry_enumerate_new (meets_enumB B) ⟨there, ?_⟩
  have sz : (s.heap.push o).objs.size = s.heap.objs.size + 1 := Heap.size_push ..
  show _ ∧ _
  rw [sz]
  have is : IsEnum ((s.heap.push o).push { cls := .type "enumerate", data := .fields #[.none, .bool false, .ref s.heap.objs.size, rawInt 0, .none, .none] }) (s.heap.objs.size + 1) s.heap.objs.size 0 .none := by
    have at_ := Heap.get?_push_size (s.heap.push o) (o := { cls := .type "enumerate", data := .fields #[.none, .bool false, .ref s.heap.objs.size, rawInt 0, .none, .none] }) rfl
    rw [sz] at at_
    exact at_
  exact ⟨⟨_, is, rfl⟩, h _ is (Heap.get?_push_of_some _ (Heap.get?_push_size _ B.free)) fun b u q => Heap.get?_push_of_some _ (Heap.get?_push_of_some _ q)⟩
theorem beginsX (t : Bool) (a : Addr) (its : List Value) : Begins (.ref a) (cellX t a) fun h => ObX t h a its := by
  cases t
  · exact begins_list a its.toArray
  · exact begins_tuple a its.toArray
theorem itX_new {t : Bool} {h : Heap} {it a : Addr} (e : h.get? it = some (cellX t a)) : ItX t h it a 0 := by
  cases t <;> exact ⟨_, e, rfl, rfl⟩
section
variable {X : Cx} {p : Par} {k : Nat}
def qEnum (K : PySem.W.Frag) (R : It → Hp → Prop) (c : Int) (x : V) (H1 : Hp) : Prop := (-(2 ^ 63) ≤ c ∧ c < 2 ^ 63) ∧ ∃ a t xs, x = .ref a ∧ SqX K t H1 a xs ∧ R (IteX K t c a) H1
def wEnum (K : PySem.W.Frag) (c : Int) (te : TE) : TI := fun σ H R => te σ H fun x H1 => qEnum K R c x H1
theorem enum_ends {pins : List (Addr × Obj)} {σ : L2.St} {H : Hp} {s : Shared} {R : It → Hp → Prop} {elts : List Expr} {kk : Nat} {tpos : Pos} {t : Bool} {c : Int} {a : Addr} {h' : Heap} (I : Inv X pins σ H s)
    (he : IsEnum h' (s.heap.objs.size + 1) s.heap.objs.size c .none) (hi : h'.get? s.heap.objs.size = some (cellX t a)) (kept : ∀ b u, s.heap.get? b = some u → h'.get? b = some u) (r : R (IteX X.K t c a) H) :
    wpAny (model X.prog X.w) X.A (pyIter (.ref (s.heap.objs.size + 1))) (PIE X pins σ (.Tuple elts kk tpos) R) X.xe { s with heap := h' } := by
  refine wpAny_pyIter_enum he ?_
  have I2 : Inv X pins σ H { s with heap := h' } := I.kept (t' := s.toks) kept
  refine ⟨s.heap.objs.size + 1, [s.heap.objs.size + 1, s.heap.objs.size], _, _, H, rfl, I2, turn_enumX t c a (s.heap.objs.size + 1) s.heap.objs.size, ⟨⟨.none, ?_⟩, itX_new hi, Nat.succ_ne_self _⟩, fun b hb => ?_, r⟩
  · show IsEnum h' _ _ (c + ((0 : Nat) : Int)) _
    rw [show c + ((0 : Nat) : Int) = c by omega]
    exact he
  · have above : s.heap.objs.size ≤ b := by
      rcases List.mem_cons.mp hb with rfl | hb
      · exact Nat.le_succ _
      · rw [List.mem_singleton.mp hb]; exact Nat.le_refl _
    exact I.fpOk above (I.hok.fresh above)
end
end DL
end
section
namespace DL
open PySem PySem.Spec PyProof.Rows L2
section
variable {X : Cx} {p : Par} {k : Nat}
theorem pi_enum1 {e : Expr} {te : TE} {pn pos tpos : Pos} {elts : List Expr} {kk : Nat} (he : PE X e te) (hm : X.mg "enumerate" = none) (hg : Gl X "enumerate" := by rfl) (hs : starEach [e] X.env = [(false, eval e X.env)] := by rfl) :
    PI X (.Tuple elts kk tpos) (.Call (.Name "enumerate" pn) [e] [] pos) (wEnum X.K 0 te) := by
  constructor
  intro pins s σ H R I h
  have arg : PA X [e] (tCons te tNil) := pa_cons he pa_nil (by rw [hs] <;> rfl)
  let Q1 : List V → Hp → Prop := fun vs H1 => match vs with | [x] => qEnum X.K R 0 x H1 | _ => False
  have h1 : tCons te tNil σ H Q1 := h
  refine Call_ (ld_blt I hg hm boot_enumerate (PyProof.Rows.callWith_type1 (thn (arg.run pos pins s σ H _ I h1) fun us s1 ⟨vs, H1, I1, r1, q1⟩ => ?_) hs rfl))
  match vs, r1, q1 with
  | [x], .cons r .nil, q1 =>
    obtain ⟨_, a, t, xs, rfl, sq, q⟩ := (show qEnum X.K R 0 x H1 from q1)
    cases r
    obtain ⟨its, _, ob⟩ := inv_X I1 sq
    exact enum_new (beginsX t a its) ob fun h' he hi kept => enum_ends I1 he hi kept q
  | [], _, q1 => exact q1.elim
  | _ :: _ :: _, _, q1 => exact q1.elim
/-- the pairs -/
def pairs (c : Int) : List D → List D
  | [] => []
  | d :: ds => .tuple [.int c, d] :: pairs (c + 1) ds
theorem pairs_get : ∀ (ds : List D) (c : Int) (i : Nat) (d : D), ds[i]? = some d → (pairs c ds)[i]? = some (.tuple [.int (c + (i : Int)), d])
  | [], _, _, _, h => by simp at h
  | x :: ds, c, 0, d, h => by
    cases h
    show some _ = some _
    rw [show c + ((0 : Nat) : Int) = c by omega]
  | x :: ds, c, i + 1, d, h => by
    have e := pairs_get ds (c + 1) i d h
    show (pairs (c + 1) ds)[i]? = _
    rw [e, show c + 1 + (i : Int) = c + ((i + 1 : Nat) : Int) by omega]
theorem pairs_len : ∀ (ds : List D) (c : Int), (pairs c ds).length = ds.length
  | [], _ => rfl
  | _ :: ds, c => by
    show (pairs (c + 1) ds).length + 1 = _
    rw [pairs_len ds (c + 1)]
    rfl
def iEnumC (c : Int) (a : XE) : XA := fun E => bnd (a E) fun d => bnd (itemsOf d) fun xs => grd (-(2 ^ 63) ≤ c ∧ c < 2 ^ 63) (ret (pairs c xs))
theorem walkD_enum {K : PySem.W.Frag} {B : Addr → Prop} {H : Hp} {a : Addr} {t : Bool} {c : Int} {xs : List V} {ds : List D} (sq : SqX K t H a xs) (kept : ∀ B1 H1, Tr B H B1 H1 → SqX K t H1 a xs) (rs : Reps K B H xs ds) : WalkD K B H (IteX K t c a) (pairs c ds) := by
  refine ⟨fun H => SqX K t H a xs, sq, kept, ?_⟩
  rw [pairs_len, ← rs.length]
  refine ⟨fun i _ hi q => ⟨xs, xs[i], q, List.getElem?_eq_getElem hi⟩, fun _ q => ⟨xs, q, rfl⟩, fun i H1 v H2 hi q y => ?_⟩
  obtain ⟨T, x, rfl, hT, rfl, hx⟩ := y
  refine ⟨All.new hT, fun B1 tr _ => ?_⟩
  obtain ⟨d, hd, rd⟩ := rs.at' (hx xs q)
  exact ⟨_, pairs_get ds c i d hd, rep_tup hT (.cons (.int _) (.cons (rd.tr tr) .nil))⟩
theorem pi_enum1D {e : Expr} {m : XE} {pn pos tpos : Pos} {elts : List Expr} {kk : Nat} (he : PD X p e m) (hm : X.mg "enumerate" = none) (hg : Gl X "enumerate" := by rfl) (hs : starEach [e] X.env = [(false, eval e X.env)] := by rfl) :
    PDI X p (.Tuple elts kk tpos) (.Call (.Name "enumerate" pn) [e] [] pos) (iEnumC 0 m) := by
  obtain ⟨te, a1, a2⟩ := he.ex
  refine ⟨_, pi_enum1 a1 hm hg hs, fun B H σ E c P R st r m k => ?_⟩
  refine a2 B H σ E _ _ _ st r m fun d c1 v H1 m1 e1 s1 r1 => ?_
  cases r1 with
  | lst q n t => exact ⟨m1.1, _, false, _, rfl, SqL.of q, k _ _ _ H1 m1.2 e1 s1 (walkD_enum (SqL.of q) (fun B1 H2 tr => SqL.of (tr.ext.keep _ _ q n)) t)⟩
  | tup q t => exact ⟨m1.1, _, true, _, rfl, q, k _ _ _ H1 m1.2 e1 s1 (walkD_enum (t := true) q (fun B1 H2 tr => tr.ext.sqT q) t)⟩
  | _ => exact m1.elim
end
end DL
end
section
namespace DL
open PySem PySem.Spec PyProof.Rows L2
/-- two sequences as they stand at each turn, their items in new pairs -/
def ItzX (K : PySem.W.Frag) (t u : Bool) (a b : Addr) : It :=
  ⟨fun i H => ∃ (xs ys : List V) (x y : V), SqX K t H a xs ∧ SqX K u H b ys ∧ xs[i]? = some x ∧ ys[i]? = some y,
   fun i H v H' => ∃ T x y, v = .ref T ∧ H T = none ∧ H' = upd H T (.tup [x, y]) ∧ (∀ xs, SqX K t H a xs → xs[i]? = some x) ∧ ∀ ys, SqX K u H b ys → ys[i]? = some y,
   fun i H => ∃ xs ys : List V, SqX K t H a xs ∧ SqX K u H b ys ∧ i = min xs.length ys.length⟩
theorem turn_zipX {P : Program} {w : World} {K : PySem.W.Frag} {elts : List Expr} {kk : Nat} {tpos : Pos} (t u : Bool) {a b z TI TO i1 i2 : Addr} (D : ZipSep2 z TI TO i1 i2 [i1, a] [i2, b]) :
    Turn P w K (.Tuple elts kk tpos) (ItzX K t u a b) [z, TI, TO, i1, i2] z
      (fun i h => IsZip h z TI TO .none ∧ IsTupOf2 h TI (.ref i1) (.ref i2) ∧ (∃ x y, IsTupOf2 h TO x y) ∧ ItX t h i1 a i ∧ ItX u h i2 b i) where
  mem := List.mem_cons_self ..
  obj := fun i h st c hc => by
    obtain ⟨hz, hTI, ⟨x, y, hTO⟩, h1, h2⟩ := st
    obtain ⟨o1, v1, e1, d1⟩ := h1.get
    obtain ⟨o2, v2, e2, d2⟩ := h2.get
    have cases5 : c = z ∨ c = TI ∨ c = TO ∨ c = i1 ∨ c = i2 := by simpa using hc
    rcases cases5 with q | q | q | q | q <;> rw [q]
    · exact ⟨_, hz, fun v q => nomatch q⟩
    · exact ⟨_, hTI, fun v q => nomatch q⟩
    · exact ⟨_, hTO, fun v q => nomatch q⟩
    · exact ⟨o1, e1, fun v q => by rw [d1] at q; cases q⟩
    · exact ⟨o2, e2, fun v q => by rw [d2] at q; cases q⟩
  keep := fun i h h' st k => by
    obtain ⟨hz, hTI, ⟨x, y, hTO⟩, h1, h2⟩ := st
    exact ⟨k z (by simp) _ hz, k TI (by simp) _ hTI, ⟨x, y, k TO (by simp) _ hTO⟩, h1.at_ fun o q => k i1 (by simp) o q, h2.at_ fun o q => k i2 (by simp) o q⟩
  item := by
    intro X hP hw hK calm i pins s σ H E I fresh st going
    subst hP hw hK
    obtain ⟨hz, hTI, ⟨x0, y0, hTO⟩, h1, h2⟩ := st
    obtain ⟨xs, ys, x, y, sx, sy, hx, hy⟩ := going
    obtain ⟨its1, vals1, ob1⟩ := inv_X I sx
    obtain ⟨its2, vals2, ob2⟩ := inv_X I sy
    obtain ⟨u1, hu1, ru1⟩ := vals1.get hx
    obtain ⟨u2, hu2, ru2⟩ := vals2.get hy
    obtain ⟨o1, v1, e1, d1⟩ := h1.get
    obtain ⟨o2, v2, e2, d2⟩ := h2.get
    have nh : X.A.in1.handled = none := I.ok.hd calm
    have D1 := drawsX (P := X.prog) (w := X.w) nh t i1 a (obX_ne ob1 e1 d1) its1
    have D2 := drawsX (P := X.prog) (w := X.w) nh u i2 b (obX_ne ob2 e2 d2) its2
    have zLt : z < s.heap.objs.size := Heap.lt_size hz
    refine wpAny_pyNext_zipD2_item D D1 D2 hz hTI hTO ⟨h1, ob1⟩ ⟨h2, ob2⟩ (List.getElem?_eq_some_iff.mp hu1).1 (List.getElem?_eq_some_iff.mp hu2).1 fun y1 y2 h' tk hy1 hy2 z' TO' st1 st2 hT hsz kept => ?_
    have q1 : y1 = u1 := Option.some.inj (hy1.symm.trans hu1)
    have q2 : y2 = u2 := Option.some.inj (hy2.symm.trans hu2)
    subst q1 q2
    refine ⟨_, rfl, wpAny_letOwnedTupleGo_zip (s := { s with heap := h', toks := tk }) z' fun h3 z3 same => ?_⟩
    have hT3 : h3.get? s.heap.objs.size = some { cls := .type "tuple", data := .seq #[y1, y2] } := (same.2 _ (Nat.ne_of_gt zLt)).trans hT
    have made : ObjOk X.prog X.w (upd H s.heap.objs.size (.tup [x, y])) h3 s.heap.objs.size (.tup [x, y]) :=
      ⟨by show 2 ≤ sizeLine; rw [sizeLine_eq]; decide, [y1, y2], .cons ru1 (.cons ru2 .nil), ⟨_, hT3, rfl, _, rfl⟩⟩
    have I3 : Inv X pins σ (upd H s.heap.objs.size (.tup [x, y])) { s with heap := h3, toks := tk } :=
      I.turnedNew (t' := tk) (ch := [z, TI, TO, i1, i2]) (fun c o hb q => (same.2 c (fun q' => hb (by simp [q']))).trans (kept c o (fun q' => hb (by simp [q'])) (fun q' => hb (by simp [q'])) (fun q' => hb (by simp [q'])) (fun q' => hb (by simp [q'])) q)) fresh (Nat.le_refl _) made
    have ni1 : i1 ≠ z := fun q => D.zi1 q.symm
    have ni2 : i2 ≠ z := fun q => D.zi2 q.symm
    refine ⟨.ref s.heap.objs.size, _, I3, rfl, ⟨_, x, y, rfl, I.hok.fresh (Nat.le_refl _), rfl, fun l hl => by rw [inj_X I hl sx]; exact hx, fun l hl => by rw [inj_X I hl sy]; exact hy⟩, ⟨z3, ?_, ⟨y1, y2, ?_⟩, ?_, ?_⟩, fun c hcm => ?_⟩
    · have TIi2 : TI ≠ i2 := D.TIi2
      exact (same.2 _ D.TIz).trans (kept _ _ D.TIz D.TITO D.TIi1 TIi2 hTI)
    · exact (same.2 _ D.TOz).trans TO'
    · exact st1.1.at_ fun o q => (same.2 _ ni1).trans q
    · exact st2.1.at_ fun o q => (same.2 _ ni2).trans q
    · have lt : c < s.heap.objs.size := by
        have cases5 : c = z ∨ c = TI ∨ c = TO ∨ c = i1 ∨ c = i2 := by simpa using hcm
        rcases cases5 with q | q | q | q | q <;> rw [q]
        · exact zLt
        · exact Heap.lt_size hTI
        · exact Heap.lt_size hTO
        · exact Heap.lt_size e1
        · exact Heap.lt_size e2
      rw [upd_ne (Nat.ne_of_lt lt)]
      exact (fresh c hcm).1
  done := by
    intro X hP hw hK calm i pins s σ H E I fresh st ending
    subst hP hw hK
    obtain ⟨hz, hTI, ⟨x0, y0, hTO⟩, h1, h2⟩ := st
    obtain ⟨xs, ys, sx, sy, hi⟩ := ending
    obtain ⟨its1, vals1, ob1⟩ := inv_X I sx
    obtain ⟨its2, vals2, ob2⟩ := inv_X I sy
    obtain ⟨o1, v1, e1, d1⟩ := h1.get
    obtain ⟨o2, v2, e2, d2⟩ := h2.get
    have nh : X.A.in1.handled = none := I.ok.hd calm
    have D1 := drawsX (P := X.prog) (w := X.w) nh t i1 a (obX_ne ob1 e1 d1) its1
    have D2 := drawsX (P := X.prog) (w := X.w) nh u i2 b (obX_ne ob2 e2 d2) its2
    have l1 := vals1.length
    have l2 := vals2.length
    exact wpAny_pyNext_zipD2_end D D1 D2 hz hTI hTO ⟨h1, ob1⟩ ⟨h2, ob2⟩ (by omega) (by omega) (by omega) fun h' tk kept => ⟨rfl, I.turnedL (t' := tk) (ch := [z, TI, TO, i1, i2]) (fun c o hb q =>
      kept c o (fun q' => hb (by simp [q'])) (fun q' => hb (by simp [q'])) (fun q' => hb (by simp [q'])) (fun q' => hb (by simp [q'])) q) fresh⟩
  self := fun A i s Q E st h => wpAny_pyIter_zip st.1 h
section
variable {X : Cx} {p : Par} {k : Nat}
def qZip (K : PySem.W.Frag) (R : It → Hp → Prop) (x y : V) (H1 : Hp) : Prop := ∃ a b t u xs ys, x = .ref a ∧ y = .ref b ∧ SqX K t H1 a xs ∧ SqX K u H1 b ys ∧ R (ItzX K t u a b) H1
def wZip (K : PySem.W.Frag) (te tf : TE) : TI := fun σ H R => te σ H fun x H1 => tf σ H1 fun y H2 => qZip K R x y H2
theorem obX_lt {t : Bool} {h : Heap} {a : Addr} {its : List Value} (x : ObX t h a its) : a < h.objs.size := by
  cases t
  · obtain ⟨o, e, _⟩ := (show h.IsList a its.toArray from x); exact Heap.lt_size e
  · obtain ⟨o, e, _⟩ := (show h.IsTuple a its.toArray from x); exact Heap.lt_size e
theorem pi_zipX {e f : Expr} {te tf : TE} {pn pos tpos : Pos} {elts : List Expr} {kk : Nat} (he : PE X e te) (hf : PE X f tf) (hm : X.mg "zip" = none) (hg : Gl X "zip" := by rfl)
    (hs : starEach [e, f] X.env = (false, eval e X.env) :: starEach [f] X.env := by rfl) (hs2 : starEach [f] X.env = (false, eval f X.env) :: starEach [] X.env := by rfl) (hpl : (backTo pos (starEach [f] X.env)).any (·.1) = false := by rfl) :
    PI X (.Tuple elts kk tpos) (.Call (.Name "zip" pn) [e, f] [] pos) (wZip X.K te tf) := by
  constructor
  intro pins s σ H R I h
  have arg : PA X [e, f] (tCons te (tCons tf tNil)) := pa_cons he (pa_cons hf pa_nil hs2) hs
  let Q1 : List V → Hp → Prop := fun vs H1 => match vs with | [x, y] => qZip X.K R x y H1 | _ => False
  have h1 : tCons te (tCons tf tNil) σ H Q1 := h
  refine Call_ (ld_blt I hg hm PyProof.Rows.boot_zip (PyProof.Rows.callWith_type1 (thn (arg.run pos pins s σ H _ I h1) fun us s1 ⟨vs, H1, I1, r1, q1⟩ => ?_) hs hpl))
  cases r1 with
  | nil => exact (show False from q1).elim
  | @cons x v vs2 us2 r rest =>
    cases rest with
    | nil => exact (show False from q1).elim
    | @cons y u vs3 us3 r' rest =>
      cases rest with
      | cons _ _ => exact (show False from q1).elim
      | nil =>
        obtain ⟨a, b, t, u', xs, ys, rfl, rfl, sx, sy, q⟩ := (show qZip X.K R x y H1 from q1)
        cases r
        cases r'
        obtain ⟨its1, _, ob1⟩ := inv_X I1 sx
        obtain ⟨its2, _, ob2⟩ := inv_X I1 sy
        refine zip_begins2 (beginsX t a its1) (beginsX u' b its2) ob1 ob2 fun h' hz hTI hTO hi1 hi2 hsz kept => wpAny_pyIter_zip hz ?_
        have I2 : Inv X pins σ H1 { s1 with heap := h' } := I1.kept (t' := s1.toks) kept
        have apart := zip_sep2 (N := s1.heap.objs.size) (fp1 := [a]) (fp2 := [b]) (fun c hc => by rw [List.mem_singleton.mp hc]; exact obX_lt ob1) (fun c hc => by rw [List.mem_singleton.mp hc]; exact obX_lt ob2)
        refine ⟨s1.heap.objs.size + 4, [s1.heap.objs.size + 4, s1.heap.objs.size + 2, s1.heap.objs.size + 3, s1.heap.objs.size, s1.heap.objs.size + 1], _, _, H1, rfl, I2, turn_zipX t u' apart, ⟨hz, hTI, ⟨_, _, hTO⟩, itX_new hi1, itX_new hi2⟩, fun c hc => ?_, q⟩
        have above : s1.heap.objs.size ≤ c := by
          have cases5 : c = s1.heap.objs.size + 4 ∨ c = s1.heap.objs.size + 2 ∨ c = s1.heap.objs.size + 3 ∨ c = s1.heap.objs.size ∨ c = s1.heap.objs.size + 1 := by simpa using hc
          rcases cases5 with z | z | z | z | z <;> rw [z]
          · exact Nat.le_add_right _ _
          · exact Nat.le_add_right _ _
          · exact Nat.le_add_right _ _
          · exact Nat.le_refl _
          · exact Nat.le_add_right _ _
        exact I1.fpOk above (I1.hok.fresh above)
/-- the pairs of two lists -/
def twos : List D → List D → List D
  | d :: ds, e :: es => .tuple [d, e] :: twos ds es
  | _, _ => []
theorem twos_get : ∀ (ds es : List D) (i : Nat) (d e : D), ds[i]? = some d → es[i]? = some e → (twos ds es)[i]? = some (.tuple [d, e])
  | [], _, _, _, _, h, _ => by simp at h
  | _ :: _, [], _, _, _, _, h => by simp at h
  | x :: ds, y :: es, 0, d, e, h, h2 => by cases h; cases h2; rfl
  | x :: ds, y :: es, i + 1, d, e, h, h2 => twos_get ds es i d e h h2
theorem twos_len : ∀ (ds es : List D), (twos ds es).length = min ds.length es.length
  | [], _ => by simp [twos]
  | _ :: _, [] => by simp [twos]
  | x :: ds, y :: es => by
    show (twos ds es).length + 1 = _
    rw [twos_len ds es, List.length_cons, List.length_cons]
    omega
def iTwos (a b : XE) : XA := fun E => bnd (a E) fun x => bnd (b E) fun y => bnd (itemsOf x) fun xs => bnd (itemsOf y) fun ys => ret (twos xs ys)
theorem walkD_zip {K : PySem.W.Frag} {B : Addr → Prop} {H : Hp} {a b : Addr} {t u : Bool} {xs ys : List V} {ds es : List D} (sx : SqX K t H a xs) (sy : SqX K u H b ys) (kx : ∀ B1 H1, Tr B H B1 H1 → SqX K t H1 a xs) (ky : ∀ B1 H1, Tr B H B1 H1 → SqX K u H1 b ys)
    (rx : Reps K B H xs ds) (ry : Reps K B H ys es) : WalkD K B H (ItzX K t u a b) (twos ds es) := by
  refine ⟨fun H => SqX K t H a xs ∧ SqX K u H b ys, ⟨sx, sy⟩, fun B1 H1 tr => ⟨kx B1 H1 tr, ky B1 H1 tr⟩, ?_⟩
  rw [twos_len, ← rx.length, ← ry.length]
  refine ⟨fun i _ hi q => ⟨xs, ys, xs[i], ys[i], q.1, q.2, List.getElem?_eq_getElem (by omega), List.getElem?_eq_getElem (by omega)⟩, fun _ q => ⟨xs, ys, q.1, q.2, rfl⟩, fun i H1 v H2 hi q y => ?_⟩
  obtain ⟨T, x, z, rfl, hT, rfl, hx, hy⟩ := y
  refine ⟨All.new hT, fun B1 tr _ => ?_⟩
  obtain ⟨d, hd, rd⟩ := rx.at' (hx xs q.1)
  obtain ⟨e, he, re⟩ := ry.at' (hy ys q.2)
  exact ⟨_, twos_get ds es i d e hd he, rep_tup hT (.cons (rd.tr tr) (.cons (re.tr tr) .nil))⟩
/-- a sequence's kind -/
theorem seq_kind {K : PySem.W.Frag} {B : Addr → Prop} {H : Hp} {v : V} {d : D} {ds : List D} {c : Sx} {P : List D → Sx → Prop} {Xp : Exn → Sx → Prop} (r : Rep K B H v d) (m : itemsOf d c P Xp) :
    ∃ a t xs ds, v = .ref a ∧ SqX K t H a xs ∧ (∀ B1 H1, Tr B H B1 H1 → SqX K t H1 a xs) ∧ Reps K B H xs ds ∧ itemsOf d = ret ds := by
  cases r with
  | lst q n t => exact ⟨_, false, _, _, rfl, SqL.of q, fun B1 H2 tr => SqL.of (tr.ext.keep _ _ q n), t, rfl⟩
  | tup q t => exact ⟨_, true, _, _, rfl, q, fun B1 H2 tr => tr.ext.sqT q, t, rfl⟩
  | _ => exact m.elim
theorem pi_zipD {cb : Bool} {vb : Bool} (S : SitB cb vb X p k) {e f : Expr} {m n : XE} {pn pos tpos : Pos} {elts : List Expr} {kk : Nat} (he : PD X p e m) (hf : PD X p f n) (hm : X.mg "zip" = none) (hg : Gl X "zip" := by rfl)
    (hs : starEach [e, f] X.env = (false, eval e X.env) :: starEach [f] X.env := by rfl) (hs2 : starEach [f] X.env = (false, eval f X.env) :: starEach [] X.env := by rfl) (hpl : (backTo pos (starEach [f] X.env)).any (·.1) = false := by rfl) :
    PDI X p (.Tuple elts kk tpos) (.Call (.Name "zip" pn) [e, f] [] pos) (iTwos m n) := by
  obtain ⟨te, a1, a2⟩ := he.ex
  obtain ⟨tf, b1, b2⟩ := hf.ex
  refine ⟨_, pi_zipX a1 b1 hm hg hs hs2 hpl, fun B H σ E c P R st r mm k => ?_⟩
  refine a2 B H σ E _ _ _ st r mm fun d c1 v H1 m1 e1 s1 r1 => ?_
  have st1 := st.go e1 s1
  refine b2 B H1 σ E _ _ _ st1 (r.go st e1) m1 fun d2 c2' v2 H2 m2 e2 s2 r2 => ?_
  have r1' := r1.tr (st1.up e2)
  obtain ⟨a, t, xs, ds, rfl, sx, kx, rx, ex⟩ := seq_kind (ds := []) r1' m2
  have m2' : bnd (itemsOf d) (fun xs => bnd (itemsOf d2) fun ys => ret (twos xs ys)) c2' P p.XP := m2
  rw [ex, bnd_ret] at m2'
  obtain ⟨b, u, ys, es, rfl, sy, ky, ry, ey⟩ := seq_kind (ds := []) r2 m2'
  rw [ey, bnd_ret] at m2'
  exact ⟨a, b, t, u, xs, ys, rfl, rfl, sx, sy, k _ c2' _ H2 m2' (e1.trans e2) s2 (walkD_zip sx sy kx ky rx ry)⟩
end
end DL
end
section
namespace DL
open PySem PySem.Spec PyProof.Rows L2
section
variable {X : Cx} {p : Par} {k : Nat}
theorem pda_star {e : Expr} {es : List Expr} {m : XE} {r : XA} {ps : Pos} (he : PD X p e m) (hr : PDA X p es r) (hs : starEach (.Starred e ps :: es) X.env = (true, eval e X.env) :: starEach es X.env := by rfl) : PDA X p (.Starred e ps :: es) (aStar m r) := by
  obtain ⟨te, a1, a2⟩ := he.ex
  obtain ⟨tr, b1, b2⟩ := hr.ex
  refine ⟨_, StX.pa_star a1 b1 hs, fun B H σ E c P Q st re mm kk => ?_⟩
  refine a2 B H σ E _ _ _ st re mm fun d c1 v H1 m1 e1 s1 r1 => ?_
  have st1 := st.go e1 s1
  have go : ∀ (a : Addr) (xs : List V) (ds : List D), itemsOf d = ret ds → Reps X.K (bm p B c1) H1 xs ds → (SqT X.K H1 a xs ∨ SqL X.K H1 a xs) → ∃ a' xs', V.ref a = V.ref a' ∧ (SqT X.K H1 a' xs' ∨ SqL X.K H1 a' xs') ∧ tr σ H1 fun vs H2 => Q (xs' ++ vs) H2 := by
    intro a xs ds hd rs sq
    have m1' : bnd (itemsOf d) (fun ys => bnd (r E) fun zs => ret (ys ++ zs)) c1 P p.XP := m1
    rw [hd, bnd_ret] at m1'
    refine ⟨a, xs, rfl, sq, ?_⟩
    exact b2 B H1 σ E _ _ _ st1 (re.go st e1) m1' fun es2 c2' vs H2 m2 e2 s2 r2 => kk _ c2' _ H2 m2 (e1.trans e2) s2 ((rs.tr (st1.up e2)).append r2)
  cases r1 with
  | lst q n t => exact go _ _ _ rfl t (.inr (SqL.of q))
  | tup q t => exact go _ _ _ rfl t (.inl q)
  | _ => exact m1.elim
end
end DL
end
section
namespace DL
open PySem PySem.Spec PyProof.Rows L2
section
variable {X : Cx} {p : Par} {k : Nat}
/-- a, b, c = x, y, z -/
def sPar3 (i j l : Nat) (a b c : XE) : XS := fun E => bnd (a E) fun x => bnd (b E) fun y => bnd (c E) fun z => ret (.nx (((E.set i (.val x)).set j (.val y)).set l (.val z)))
theorem sd_par3 (S : SitB true true X p k) {i j l : Nat} {x y z : Str} {a b c : Expr} {ma mb mc : XE} {px py pz pt pos : Pos} {kt k2 pt2} (hi : X.N[i]? = some x) (hj : X.N[j]? = some y) (hl : X.N[l]? = some z) (hij : i ≠ j) (hil : i ≠ l) (hjl : j ≠ l)
    (hx : X.env.scope.names.lookup x = some .local) (hy : X.env.scope.names.lookup y = some .local) (hz : X.env.scope.names.lookup z = some .local) (ha : PD X p a ma) (hb : PD X p b mb) (hc : PD X p c mc)
    (hw : swappedStores [.Tuple [.Name x px, .Name y py, .Name z pz] kt pt] (.Tuple [a, b, c] k2 pt2) X.env = pure (some [x, y, z]))
    (hs : swapsWithSole [.Tuple [.Name x px, .Name y py, .Name z pz] kt pt] (.Tuple [a, b, c] k2 pt2) pos.line X.env = pure false := by rfl)
    (h1 : starEach [a, b, c] X.env = (false, eval a X.env) :: starEach [b, c] X.env := by rfl) (h2 : starEach [b, c] X.env = (false, eval b X.env) :: starEach [c] X.env := by rfl) (h3 : starEach [c] X.env = (false, eval c X.env) :: starEach [] X.env := by rfl) :
    PSD X p (.Assign [.Tuple [.Name x px, .Name y py, .Name z pz] kt pt] (.Tuple [a, b, c] k2 pt2) pos) (sPar3 i j l ma mb mc) := by
  obtain ⟨ta, a1, a2⟩ := ha.ex
  obtain ⟨tb, b1, b2⟩ := hb.ex
  obtain ⟨tc, c1, c2⟩ := hc.ex
  refine ⟨_, ps_par3 S.calm S.nd hi hj hl hij hil hjl hx hy hz (pa_cons a1 (pa_cons b1 (pa_cons c1 pa_nil h3) h2) h1) hw hs, fun B H σ E c0 P Dn st r m nx rt bk ct => ?_⟩
  refine a2 B H σ E _ _ _ st r m fun d n1 v H1 m1 e1 s1 r1 => ?_
  have st1 := st.go e1 s1
  have rr1 := r.go st e1
  refine b2 B H1 σ E _ _ _ st1 rr1 m1 fun d2 n2 v2 H2 m2 e2 s2 r2 => ?_
  have st2 := st1.go e2 s2
  have rr2 := rr1.go st1 e2
  refine c2 B H2 σ E _ _ _ st2 rr2 m2 fun d3 n3 v3 H3 m3 e3 s3 r3 => ?_
  have st3 := st2.go e3 s3
  have rr3 := rr2.go st2 e3
  exact ⟨v, v2, v3, rfl, nx _ _ B _ H3 m3 st3 ((st.up (e1.trans (e2.trans e3)))) (((rr3.val S.nf i ((r1.tr (st1.up e2)).tr (st2.up e3))).val S.nf j (r2.tr (st2.up e3))).val S.nf l r3)⟩
end
end DL
end
section
namespace DL
open PySem PySem.Spec PyProof.Rows L2
/-- the exception that is made: its object, its own dict -/
structure Made1 (h h' : Heap) (e C d : Addr) (f : Str) (v : Value) : Prop where
  keep : ∀ b o, h.get? b = some o → h'.get? b = some o
  new : h.objs.size ≤ e
  obj : ∃ t1 : Addr, h'.get? e = some { cls := .ref C, dict := some d, data := .fields #[.ref t1, .none, .none, .none, .bool false, .none] }
  dbig : h.objs.size ≤ d
  dne : d ≠ e
  ns : h'.Ns1 d (fun y => if y = f then some v else none)
section
variable {prog : Program} {w : World} {A : Around} {E : Value → Shared → Prop} {R : Result → Shared → Prop} {K : PySem.W.Frag} {C L : Addr}
/-- the first field of a fresh exception -/
theorem put_field {hp : Heap} {g : Array GenState} {dr : Drawn} {t : Nat} {os : OsState} {name : Str} {tk : Tok} {v : Value} {x t1 : Addr} (b : Bs) (X : K.In hp) (hx : hp.get? x = some (PySem.HandSPX.excO C t1)) (ov : PySem.W.excOver K C b.tl = true) (hh : PySem.W.hasDictIn K C = true) (ha : PySem.W.findIn K (.ref C) name = some none)
    (hq : ∀ h' tk' dx, (∀ b o, b ≠ x → hp.get? b = some o → h'.get? b = some o) → hp.objs.size ≤ dx → dx ≠ x → h'.get? x = some { cls := .ref C, dict := some dx, data := .fields #[.ref t1, .none, .none, .none, .bool false, .none] } →
      h'.Ns1 dx (fun y => if y = name then some v else none) → R (.ok (.ret .none)) ⟨h', g, dr, tk', os⟩) :
    codeAny (model prog w) A (.call (.builtin "object.__setattr__") ⟨[.ref x, .str name tk, v], []⟩) R ⟨hp, g, dr, t, os⟩ := by
  have hxs : x < hp.objs.size := Heap.lt_size hx
  refine PySem.W.osa_openX (s := ⟨hp, g, dr, t, os⟩) (od := none) (r := none) b.sf X ⟨hx, rfl, rfl, trivial⟩ ov ?_ fun bb => ?_
  · show (PySem.W.findIn K (.ref C) name).bind _ = _
    rw [ha]
    rfl
  · obtain ⟨cd, hc, hd'⟩ := PySem.W.any_some hh
    refine wpAny_bind (wpAny_pure (wpAny_bind (PySem.W.instanceDict_exc (s := ⟨hp, g, dr, t, os⟩) (c2 := .none) hx (PySem.W.looks_clsIn X hc) hd' ?_)))
    show wpAny _ _ (Builtin.ObjectAttr.storeInDict hp.objs.size (.str name tk) name v) _ _ _
    have ne : hp.objs.size ≠ x := Nat.ne_of_gt hxs
    refine PySem.HandSPX.store_in_new (hp := (hp.push (PySem.W.dictOf [] 0)).update x fun o => { o with dict := some hp.objs.size }) ⟨_, #[], _, (Heap.get?_update_ne _ _ _ _ ne).trans (Heap.get?_push_at rfl rfl), rfl, fun e he => absurd he (by simp), fun _ => rfl⟩ fun h' tk' hn' hs => ?_
    have hx1 : (hp.push (PySem.W.dictOf [] 0)).get? x = some (PySem.HandSPX.excO C t1) := Heap.get?_push_of_some _ hx
    refine hq h' tk' hp.objs.size (fun b o hb ho => ?_) (Nat.le_refl _) ne ?_ hn'
    · exact (hs.2 b (Nat.ne_of_lt (Heap.lt_size ho))).trans ((Heap.get?_update_ne _ _ _ _ hb).trans (Heap.get?_push_of_some _ ho))
    · exact (hs.2 x ne.symm).trans (Heap.get?_update_self _ hx1 rfl)
end
theorem one_line (v : Value) : [v].length ≤ sizeLine := by
  rw [sizeLine_eq]
  exact (by decide : 1 ≤ 16777216)
/-- a name of __init__'s frame -/
theorem ini_name {M : Model} {s : Shared} {q : Str} {sc : Scope} {L a : Addr} {cd : Value} {m : Str → Option Value} {x : Str} {pos : Pos} {v : Value} {Q : Value → Shared → Prop} {A : Around} {E : Value → Shared → Prop} (hn : s.heap.Ns L m) (hv : m x = some v) (hk : sc.kind = .function)
    (hl : (envOfC q sc L a cd).kindOf x = some .local) (hd : (x == ("__debug__" : Str)) = false) (h : Q v s) : wpAny M A (eval (.Name x pos) (envOfC q sc L a cd)) Q E s := wpAny_Name (wpAny_loadName_local hk hl hn hv h) hd
section
variable {prog : Program} {w : World} {A : Around} {E : Value → Shared → Prop} {R : Result → Shared → Prop} {s : Shared} {K : PySem.W.Frag} {n : Str}
/-- what __init__ leaves of a fresh exception -/
theorem run_init {f : Fl} {b : Bs} (T : ErrT K n f b) {x t0 : Addr} {v : Value} (X : K.In s.heap) (hlim : s.heap.NoLimit) (hx : s.heap.get? x = some (PySem.HandSPX.excO (He.ga K n) t0)) (hroom : A.depth < recursionLimit)
    (hq : ∀ h' tk dx, (∀ b o, b ≠ x → s.heap.get? b = some o → h'.get? b = some o) → h'.get? x = some { cls := .ref (He.ga K n), dict := some dx, data := .fields #[.ref t0, .none, .none, .none, .bool false, .none] } → s.heap.objs.size ≤ dx → dx ≠ x →
      h'.Ns1 dx (fun y => if y = f.s then some v else none) → R (.ok (.ret .none)) { s with heap := h', toks := tk }) :
    codeAny (model prog w) A (.call (.ref (He.ma K (He.ga K n) "__init__")) ⟨[.ref x, v], []⟩) R s := by
  obtain ⟨q, p1, p2, q1, q2, q3, q4, fd, F⟩ := T.fn
  have bd : BindsTo s fd ⟨[.ref x, v], []⟩ [("self", .ref x), (f.s, v)] := by
    cases f <;> exact L2.FunD.bindsA (ps := ["self", _]) F (fun _ _ _ _ _ _ us hl => match us, hl with | [_, _], _ => rfl) s [.ref x, v] rfl
  obtain ⟨oc, od, dV, kV, doc, pm, an, cdv, ct, osl, rfl, ho, hcd, dv, kv⟩ := F.ex
  refine Att.call_fn (binds := [("self", .ref x), (f.s, v)]) X hlim ho hcd hroom bd (by cases f <;> rfl) (fun s₁ IC => ?_) rfl rfl rfl
  obtain ⟨h₁, tk₁, rfl⟩ := IC.toInCall.same
  have k : ∀ b o, s.heap.get? b = some o → h₁.get? b = some o := IC.toInCall.keep
  have hn := IC.toInCall.ns
  have X₁ : K.In h₁ := X.keeps k
  have hx₁ := k _ _ hx
  have hk1 : (envOfC q (iniS f.s) s.heap.objs.size (He.ma K (He.ga K n) "__init__") cdv).kindOf f.s = some .local := by cases f <;> rfl
  have hk2 : (envOfC q (iniS f.s) s.heap.objs.size (He.ma K (He.ga K n) "__init__") cdv).kindOf "self" = some .local := rfl
  show wpAny _ _ (execs _ _) _ _ _
  refine wpAny_execs_cons (plainObj_wpAny_Assign_Attribute ?_)
  refine ini_name hn (v := v) (by cases f <;> rfl) rfl hk1 (by cases f <;> rfl) ?_
  refine ini_name hn (v := .ref x) (by cases f <;> rfl) rfl hk2 rfl ?_
  refine PySem.W.set_plain X₁ (ox := PySem.HandSPX.excO (He.ga K n) t0) (od := none) ⟨hx₁, rfl, rfl, trivial⟩ T.sa ?_
  refine put_field b X₁ hx₁ T.ov T.c.hdC (T.c.nof f) fun h₃ tk₃ dx k₃ dn dne hx₃ hn₃ => ?_
  show wpAny _ _ (execs _ _) _ _ _
  have z : s.heap.objs.size < h₁.objs.size := hn.lt
  exact wpAny_execs_nil (hq h₃ tk₃ dx (fun b o hb e => k₃ b o hb (k b o e)) hx₃ (Nat.le_of_lt (Nat.lt_of_lt_of_le z dn)) dne hn₃)
/-- C(v) -/
theorem run_made {f : Fl} {b : Bs} (T : ErrT K n f b) {v : Value} (X : K.In s.heap) (hlim : s.heap.NoLimit) (hroom : A.depth + 1 < recursionLimit)
    (hq : ∀ h' tk e d, Made1 s.heap h' e (He.ga K n) d f.s v → R (.ok (.ret (.ref e))) { s with heap := h', toks := tk }) : codeAny (model prog w) A (.call (.ref (He.ga K n)) ⟨[v], []⟩) R s := by
  obtain ⟨nm, N, q, bs, bm, hdct, sn, sub, ab, col, dd, k0, k1, k2, k3, k5, hC, hT⟩ := PySem.W.excInit_of X T.ini
  obtain ⟨hp, g, dr, tk, os⟩ := s
  have k : ∀ b o, hp.get? b = some o → ((hp.push (PySem.W.kdv_tup [v])).push (PySem.HandSPX.excO (He.ga K n) hp.objs.size)).get? b = some o := fun b o e => Heap.get?_push_of_some _ (Heap.get?_push_of_some _ e)
  have hget : ((hp.push (PySem.W.kdv_tup [v])).push (PySem.HandSPX.excO (He.ga K n) hp.objs.size)).get? (hp.objs.size + 1) = some (PySem.HandSPX.excO (He.ga K n) hp.objs.size) := by heap_get
  refine PySem.HandSPX.call_own b.fb hT hC (PySem.W.looks_findIn X T.iC) (fun self => PySem.W.bind_fn X self T.tC) (one_line v) ?_
  refine run_init (s := ⟨(hp.push (PySem.W.kdv_tup [v])).push (PySem.HandSPX.excO (He.ga K n) hp.objs.size), g, dr, tk, os⟩) T (X.keeps k) (hlim.keeps k) hget ?_ fun h' tk' dx k' hx dn dne hns => ?_
  · show A.depth + 1 < recursionLimit
    exact hroom
  · have z : hp.objs.size + 1 + 1 ≤ dx := by
      first
        | (simpa only [Heap.size_push] using dn)
        | exact dn
        | (have q := dn; rw [Heap.size_push, Heap.size_push] at q; exact q)
    exact ⟨rfl, hq h' tk' (hp.objs.size + 1) dx ⟨fun b o e => k' b o (Nat.ne_of_lt (Nat.lt_succ_of_lt (Heap.lt_size e))) (k b o e), Nat.le_succ _, ⟨_, hx⟩, Nat.le_trans (Nat.le_trans (Nat.le_succ _) (Nat.le_succ _)) z, dne, hns⟩⟩
end
theorem relO_field {v : V} {v' : Value} (r : RelV v v') (g f : Str) : RelO (List.lookup f [(g, v)]) (if f = g then some v' else none) := by
  by_cases h : f = g
  · subst h
    have e : List.lookup f [(f, v)] = some v := by simp [List.lookup]
    rw [if_pos rfl, e]
    exact r
  · have e : (f == g) = false := by simpa using h
    have e2 : List.lookup f [(g, v)] = none := by simp [List.lookup, e]
    rw [if_neg h, e2]
    trivial
section
variable {X : Cx} {n : Str}
/-- C(e) -/
def tMk1 (C : Addr) (f : Str) (ta : TA) : L2.St → Hp → XK → Prop := fun σ H Q => ta σ H fun vs H1 => ∃ v, vs = [v] ∧ ∀ d, H1 d = none → Q (.ref C) (some d) (upd H1 d (.xd [(f, v)]))
theorem pmk1s {f : Fl} {b : Bs} {a : Expr} {ta : TA} {p pos : Pos} (T : ErrT X.K n f b) (gC : X.mg n = some (.ref (He.ga X.K n))) (hr : X.A.depth + 1 < recursionLimit) (ha : PA X [a] ta) (hg : Gl X n) (hdb : (n == ("__debug__" : Str)) = false)
    (he : starEach (a :: []) X.env = (false, eval a X.env) :: starEach [] X.env := by rfl) (hpl : (backTo pos (starEach [] X.env)).any (·.1) = false := by rfl) : L2H.PMk5 X (.Call (.Name n p) [a] [] pos) (tMk1 (He.ga X.K n) f.s ta) := by
  intro pins s σ H Q I h
  refine wpAny_Call_Name_kw (ld_glob I hg gC ?_ hdb)
  refine PySem.W.callWith_K (h₀ := X.base) I.ok.mod.kin T.c.kC (thn (ha.run pos pins s σ H _ I h) fun us s1 hh => ?_) he hpl
  obtain ⟨vs, H1, I1, r1, v, ev, q1⟩ := hh
  subst ev
  refine ⟨I1.kIn, ?_⟩
  cases r1 with
  | @cons _ v' _ us' rv rn =>
    cases rn
    show wpAny _ _ (call (.ref (He.ga X.K n)) [v']) _ _ _
    have hlim := I1.nolimit
    obtain ⟨hp, g, dr, tk, os⟩ := s1
    refine wpAny_call (run_made T I1.kIn hlim hr fun h' tk' e d M => ?_)
    obtain ⟨t1, hoe⟩ := M.obj
    refine ⟨?_, fun a o v y1 y2 y3 => by
      cases y1
      cases hoe.symm.trans y2
      cases y3
      exact (by decide : 4 < 6)⟩
    show L2N.MkP X pins σ Q (.ref e) ⟨h', g, dr, tk', os⟩
    obtain ⟨G', g1, g2⟩ := restrict h' fun b => decide (b ≠ e)
    have gk : ∀ b, b ≠ e → G'.get? b = h'.get? b := fun b hb => g1 b (decide_eq_true hb)
    have ge : G'.get? e = none := g2 e (by simp)
    have old : ∀ b o, hp.get? b = some o → G'.get? b = some o := fun b o q => (gk b (Nat.ne_of_lt (Nat.lt_of_lt_of_le (Heap.lt_size q) M.new))).trans (M.keep b o q)
    have ob : ObjOk X.prog X.w (upd H1 d (.xd [(f.s, v)])) G' d (.xd [(f.s, v)]) := ⟨_, M.ns.at (fun o q => (gk d M.dne).trans q), fun g => relO_field rv f.s g⟩
    have J : Inv X pins σ (upd H1 d (.xd [(f.s, v)])) ⟨G', g, dr, tk', os⟩ := I1.laid (t' := tk') old M.dbig ob
    refine ⟨e, _, _, ⟨G', g, dr, tk', os⟩, _, .ref (He.ga X.K n), some d, rfl, J, fun b o q => ?_, ge, hoe, ⟨rfl, rfl, fun vs q => by cases q; rfl⟩, rfl, rfl, ?_, rfl, I1.bare, raises_own T.c.exC T.c.tyC, q1 d (I1.hok.fresh M.dbig)⟩
    · by_cases hb : b = e
      · rw [hb] at q
        exact absurd (q.symm.trans ge) (by simp)
      · exact (gk b hb).symm.trans q
    · rw [upd_ne (Ne.symm M.dne)]
      exact I1.hok.fresh M.new
theorem pmk1 {f : Fl} {b : Bs} {a : Expr} {ta : TA} {p pos : Pos} (T : ErrT X.K n f b) (gC : X.mg n = some (.ref (He.ga X.K n))) (hr : X.A.depth + 1 < recursionLimit) (ha : PA X [a] ta) (hg : Gl X n) (hdb : (n == ("__debug__" : Str)) = false)
    (he : starEach (a :: []) X.env = (false, eval a X.env) :: starEach [] X.env := by rfl) (hpl : (backTo pos (starEach [] X.env)).any (·.1) = false := by rfl) : L2N.PMk X (.Call (.Name n p) [a] [] pos) (tMk1 (He.ga X.K n) f.s ta) := (pmk1s T gC hr ha hg hdb he hpl).pmk
end
section
variable {X : Cx} {p : Par} {k : Nat} {n : Str}
theorem sd_raise1 {vb : Bool} (S : SitB true vb X p k) {f : Fl} {b : Bs} (T : ErrT X.K n f b) (gC : X.mg n = some (.ref (He.ga X.K n))) {a : Expr} {m : XE} {pn pos pos2 : Pos} (ha : PD X p a m) (hg : Gl X n := by rfl) (hdb : (n == ("__debug__" : Str)) = false := by decide)
    (he : starEach (a :: []) X.env = (false, eval a X.env) :: starEach [] X.env := by rfl) (hpl : (backTo pos (starEach [] X.env)).any (·.1) = false := by rfl) : PSD X p (.Raise (some (.Call (.Name n pn) [a] [] pos)) none pos2) (sRaise n [f.s] (aCons m aNil)) := by
  obtain ⟨ta, a1, a2⟩ := ha.ex
  refine ⟨_, L2N.ps_raise S.calm S.tk.n (pmk1 T gC (by have := S.rm.dp; omega) (pa_cons a1 pa_nil he) hg hdb he hpl), fun B H σ E c P Dn st r mm nx rt bk ct => ?_⟩
  refine a2 B H σ E _ _ _ st r mm fun d c1 v H1 m1 e1 s1 r1 => ?_
  refine ⟨v, rfl, fun dx hd => ?_⟩
  have st1 := st.go e1 s1
  have al : All H1 (upd H1 dx (.xd [(f.s, v)])) := All.new hd
  exact S.ok.exc c1 c1 ⟨n, [(f.s, d)]⟩ _ _ B H1 _ σ st1 (r.go st e1).fx m1 (st1.all S.ok al) al.ev ⟨rfl, T.c, dx, v, rfl, upd_same, fun z => st1.trk dx z hd, r1.mono al.ext⟩
end
end DL
end
section
namespace DL
open PySem PySem.Spec PyProof.Rows L2
section
variable {X : Cx} {pins : List (Addr × Obj)} {σ : L2.St} {H : Hp} {s : Shared}
/-- the exception a is looked at: sI is the state without it -/
structure Aloft (X : Cx) (pins : List (Addr × Obj)) (σ : L2.St) (H : Hp) (a : Addr) (cls : Value) (d yo : Option Addr) (B : Heap) (sI s : Shared) : Prop where
  J : Inv X pins σ H sI
  nb : ∀ b o, sI.heap.get? b = some o → b ∉ frs X.stack → B.get? b = some o
  up : sI.heap.UpToSlots s.heap
  fl : PySem.HandSPX.FlyingZ B (X.env :: X.outer) a (Zy X.K yo cls d) s.heap
  na : H a = none
  os : s.os = sI.os
  ag : AllBare s.gens
  gd : Gd yo B H
section
variable {a : Addr} {cls : Value} {d yo : Option Addr} {B : Heap} {sI : Shared}
theorem Aloft.inv (q : Aloft X pins σ H a cls d yo B sI s) : Inv X pins σ H s := q.J.landed q.nb q.fl.1 q.up q.os q.ag
/-- more objects -/
theorem Aloft.grow {h' : Heap} {tk : Nat} (q : Aloft X pins σ H a cls d yo B sI s) (k : ∀ b o, s.heap.get? b = some o → h'.get? b = some o) : Aloft X pins σ H a cls d yo B sI { s with heap := h', toks := tk } := by
  obtain ⟨f1, f2, f3, oe, vs, T, oT, ts, e1, e2, e3, e4, e5, e6, e7, e8, e9⟩ := q.fl
  exact ⟨q.J, q.nb, q.up.trans (Heap.UpToSlots.of_keeps k), ⟨fun b o e => k b o (f1 b o e), f2, Heap.FunFrames.of_keeps (fun b o e _ => ⟨o, k b o e, rfl⟩) f3, oe, vs, T, oT, ts, k _ _ e1, e2, e3, e4, e5, e6, k _ _ e7, e8, e9⟩, q.na, q.os, q.ag, q.gd⟩
theorem Aloft.set {h' : Heap} (q : Aloft X pins σ H a cls d yo B sI s) (f : PySem.HandSPX.FlyingZ B (X.env :: X.outer) a (Zy X.K yo cls d) h') (up : s.heap.UpToSlots h') : Aloft X pins σ H a cls d yo B sI { s with heap := h' } :=
  ⟨q.J, q.nb, q.up.trans up, f, q.na, q.os, q.ag, q.gd⟩
/-- .. pinned, in a suite -/
theorem Aloft.pin (q : Aloft X pins σ H a cls d yo B sI s) (hs : X.stack = X.env :: X.outer) (hf : X.env.frame = some X.env.locals) : ∃ oe : Obj, s.heap.get? a = some oe ∧ Zy X.K yo cls d oe ∧ (∃ vs, oe.data = .fields vs) ∧ Inv (X.suite a ((a, oe) :: (X.pn ++ pins))) [] σ H s := by
  obtain ⟨oe, vs, he, hz, hd⟩ := q.fl.there
  have nfr : a ∉ frs (X.env :: X.outer) := fun hm => by
    obtain ⟨_, o', e', hnf⟩ := q.fl.2.2.1.mem hm
    rw [he] at e'
    cases e'
    exact hnf _ hd
  have nL : a ≠ X.env.locals := fun z => nfr (List.mem_filterMap.mpr ⟨X.env, List.mem_cons_self, by rw [hf, z]⟩)
  have nF : a ∉ X.fs := fun hm => by
    obtain ⟨e, h1, h2⟩ := List.mem_filterMap.mp hm
    exact nfr (List.mem_filterMap.mpr ⟨e, List.mem_cons_of_mem _ h1, h2⟩)
  exact ⟨oe, he, hz, ⟨vs, hd⟩, q.inv.suite he hd q.na nL nF⟩
end
end
end DL
end
section
namespace DL
open PySem PySem.Spec PyProof.Rows L2
def xnOf : D → Option Str
  | .dict ((.none, .str n) :: _) => some n
  | _ => none
def fldOf (f : Str) : D → W D
  | .dict [(.none, .str _), (.str g, d)] => if f = g then ret d else stuck
  | _ => stuck
/-- e.f of an error -/
def eFld (a : XE) (f : Str) : XE := fun E => bnd (a E) (fldOf f)
def tyOf? (m : Str) : Option Ty :=
  if m == "int" then some .int else if m == "bool" then some .bool else if m == "tuple" then some .tuple else if m == "str" then some .str else if m == "list" then some .list else if m == "dict" then some .dict else none
def isTm (d : D) (m : Str) : Bool := match tyOf? m with | some t => isTy t d | none => false
/-- isinstance(a, classes) -/
def isC (ms : List Str) (d : D) : W D := match xnOf d with
  | some n => grd (ms.all (fun m => allN.contains m) = true) (ret (.bool (ms.any (subC n))))
  | none => grd (noXn d = true ∧ ms.all (fun m => (tyOf? m).isSome) = true) (ret (.bool (ms.any (isTm d))))
def eIsC (ms : List Str) (a : XE) : XE := fun E => bnd (a E) (isC ms)
/-- an error as data -/
def Exn.d (x : Exn) : D := xD x.cls x.fs
def eSetO (oi : Option Nat) (e : Ent) (E : Env) : Env := match oi with
  | none => E
  | some i => E.set i e
def Out.clear (oi : Option Nat) : Out → Out
  | .nx E => .nx (eSetO oi .unk E)
  | .bk E => .bk (eSetO oi .unk E)
  | .ct E => .ct (eSetO oi .unk E)
  | .rt d => .rt d
/-- an expression that names a class m -/
structure NmC (X : Cx) (m : Str) : Prop where
  all : allN.contains m = true
  here : here X.K m = true
  nm : Names X m (clsV X.K m)
section
variable {X : Cx}
theorem NmC.one {m n : Str} (h : NmC X m) (c : ErrC X.K n) : PySem.W.exmOne X.K (.ref (He.ga X.K n)) (clsV X.K m) = some (subC n m) ∧ PySem.W.kitOne X.K (.ref (He.ga X.K n)) (clsV X.K m) = some (subC n m) :=
  c.kn m (by simpa using h.all) h.here
end
/-- what is handled lies in the heap, its context None -/
def HotH (A : Around) (H : Hp) : Prop := ∃ (a : Addr) (oe : Obj), A.handled = some (.ref a) ∧ H a = some (xob a oe) ∧ EndC oe
section
variable {X : Cx} {p : Par} {k : Nat} {cb : Bool} {K : PySem.W.Frag}
theorem Slot.loud {p : Par} {n : Sx} {B : Addr → Prop} {H : Hp} {x : Option V} {y : Ent} (s : Slot K p.quiet n B H x y) : Slot K p n B H x y := by
  cases s with
  | unk _ => exact .unk _
  | val r => exact .val r
  | own b n nc h0 hl r => exact .own b n nc h0 hl r
  | stm => exact .stm (p := p)
  | scr q => exact .scr q
theorem EnvR.loud {p : Par} (nf : p.fx = none) {n : Sx} {B : Addr → Prop} {H : Hp} {σ : L2.St} {E : Env} (r : EnvR K p.quiet n B H σ E) : EnvR K p n B H σ E :=
  ⟨r.len, fun i e q => let ⟨s, h1, h2⟩ := r.at_ i e q; ⟨s, h1, h2.loud⟩, r.nd, .no nf, r.pn⟩
end
end DL
end
section
namespace DL
open PySem PySem.Spec PyProof.Rows L2
end DL
end
section
namespace DL
open PySem PySem.Spec PyProof.Rows L2
/-- the objects that are looked at -/
def asH (g : Addr → Option Obj) (n : Nat) : List Addr := sysModules :: He.asD g n
abbrev AlH : Type := He.AlD × Bool
def obsH (n : Nat) (fa : List He.Fa) (fn : List He.DefD) (ex : PySem.W.Frag → Bool) (g : Addr → Option Obj) : AlH := (He.obsD fa fn (He.frG g (asH g n)), ex (He.frG g (asH g n)))
structure SaysH (fa : List He.Fa) (fn : List He.DefD) (ex : PySem.W.Frag → Bool) (K : PySem.W.Frag) : Prop where
  d : He.SaysD fa fn K
  x : ex K = true
def hookH (n : Nat) (fa : List He.Fa) (fn : List He.DefD) (ex : PySem.W.Frag → Bool) : PySem.W.Hook where
  α := AlH
  obs := fun s => obsH n fa fn ex s.heap.get?
  val := fun _ => (He.valD fn, true)
  says := fun _ h => ∃ K : PySem.W.Frag, K.In h ∧ SaysH fa fn ex K
  of := fun _ _ e => ⟨_, He.frG_in, congrArg (fun z : AlH => z.1) e, congrArg (fun z : AlH => z.2) e⟩
  keeps := fun _ _ _ ⟨K, hK, c⟩ k => ⟨K, PySem.W.Frag.In.keeps hK k, c⟩
theorem obsH_eq {n : Nat} {fa : List He.Fa} {fn : List He.DefD} {ex : PySem.W.Frag → Bool} {g : Addr → Option Obj} {s : Shared} (h : ∀ a, g a = s.heap.get? a) : obsH n fa fn ex g = (hookH n fa fn ex).obs s := by
  have e : g = s.heap.get? := funext h
  rw [e] <;> rfl
/-- sys.modules is there -/
def smB (K : PySem.W.Frag) : Bool := (K.lookup sysModules).isSome
theorem smB_ok {K : PySem.W.Frag} {base : Heap} (h : smB K = true) (X : K.In base) : HasSm base := by
  obtain ⟨o, e⟩ := Option.isSome_iff_exists.mp h
  exact ⟨o, X _ _ e⟩
/-- a class's body -/
def clsBody : Stmt → List Stmt
  | .ClassDef _ _ _ body _ _ _ _ _ _ _ => body
  | _ => []
theorem here_of {K : PySem.W.Frag} {m : Str} (h : (He.Fa.glo m).ok K = true) : here K m = true := by
  unfold here
  rw [h, Bool.or_true]
end DL
end
section
namespace DL
open PySem PySem.Spec PyProof.Rows L2
section
variable {X : Cx} {p : Par} {k : Nat} {cb vb : Bool} {K : PySem.W.Frag}
def isIn (neg : Bool) (x : D) (ys : List D) : D := .bool (neg != ys.any fun y => PyData.eqv y x)
def opIn (neg : Bool) : D → D → W D
  | x, .tuple ys => grd (SeqAt.shaped x = true ∧ SeqAt.shaped (.tuple ys) = true) (ret (isIn neg x ys))
  | x, .list ys => grd (SeqAt.shaped x = true ∧ SeqAt.shaped (.list ys) = true) (ret (isIn neg x ys))
  | _, _ => stuck
def eIn (neg : Bool) (a b : XE) : XE := fun E => bnd (a E) fun x => bnd (b E) fun y => opIn neg x y
theorem shp {d : D} (h : SeqAt.shaped d = true) : PyData.canLay0 d = true ∧ PyData.depth d ≤ 64 := by
  unfold SeqAt.shaped at h
  rw [Bool.and_eq_true, decide_eq_true_eq] at h
  exact h
theorem op_inA (hu : X.A.units + 66 < cLine) (neg : Bool) : OpR X (compareOp (if neg then .NotIn else .In)) (rD2 X.K (opIn neg)) := by
  intro pins s σ H x y v u Q I rx ry h
  obtain ⟨_, d, e, c, P, Xp, hb, r1, r2, m, kk⟩ := h
  have fin : ∀ ys : List D, P (isIn neg d ys) c → EP X pins σ Q (.bool (neg != ys.any fun y => PyData.eqv y d)) s := fun ys hm => ⟨.bl _, H, I, rfl, kk _ _ H hm All.refl (.bl _)⟩
  cases r2 with
  | @lst a xs ds q nb t =>
    obtain ⟨⟨h1, h2⟩, m⟩ := m
    obtain ⟨as, q1⟩ := Dp.reads I d x v (r1.dp (lay_of h1)) rx
    obtain ⟨bs, q2⟩ := Dp.reads I (.list ds) (.ref a) u (Rep.dp (lay_of h2) (.lst q nb t)) ry
    have l2 := (shp h2).1
    have hlen : X.A.units + 1 + min (PyData.depthAll ds) d.depth < cLine := by have := (shp h1).2; omega
    cases neg with
    | false => exact SeqAt.in_list_reads q2 q1 (by simpa [PyData.canLay0] using l2) (shp h1).1 hlen (by simpa using fin ds m)
    | true => exact SeqAt.notIn_list_reads q2 q1 (by simpa [PyData.canLay0] using l2) (shp h1).1 hlen (by simpa using fin ds m)
  | @tup a xs ds q t =>
    obtain ⟨⟨h1, h2⟩, m⟩ := m
    obtain ⟨as, q1⟩ := Dp.reads I d x v (r1.dp (lay_of h1)) rx
    obtain ⟨bs, q2⟩ := Dp.reads I (.tuple ds) (.ref a) u (Rep.dp (lay_of h2) (.tup q t)) ry
    have l2 := (shp h2).1
    have hlen : X.A.units + 1 + min (PyData.depthAll ds) d.depth < cLine := by have := (shp h1).2; omega
    cases neg with
    | false => exact SeqAt.in_tuple_reads q2 q1 (by simpa [PyData.canLay0] using l2) (shp h1).1 hlen (by simpa using fin ds m)
    | true => exact SeqAt.notIn_tuple_reads q2 q1 (by simpa [PyData.canLay0] using l2) (shp h1).1 hlen (by simpa using fin ds m)
  | _ => exact (show False from m).elim
theorem pt_inD (S : SitB cb vb X p k) {a b : Expr} {ma mb : XE} {pos : Pos} (ha : PD X p a ma) (hb : PD X p b mb) (mk : behindInMarks .In b = false := by first | exact nomark _ | rfl) : PDT X p (.Compare a [.In] [b] pos) (tBool (eIn false ma mb)) := by
  obtain ⟨ta, a1, a2⟩ := ha.ex
  obtain ⟨tb, b1, b2⟩ := hb.ex
  exact ⟨_, pt_cmpR (op_inA (by have := S.rm.un; omega) false) a1 b1 mk, et_bool (m := eIn false ma mb) (ev_bnd S.ok (f := opIn false) (fun _ _ _ _ h => h) a2 b2)⟩
theorem pt_notInD (S : SitB cb vb X p k) {a b : Expr} {ma mb : XE} {pos : Pos} (ha : PD X p a ma) (hb : PD X p b mb) (mk : behindInMarks .NotIn b = false := by first | exact nomark _ | rfl) : PDT X p (.Compare a [.NotIn] [b] pos) (tBool (eIn true ma mb)) := by
  obtain ⟨ta, a1, a2⟩ := ha.ex
  obtain ⟨tb, b1, b2⟩ := hb.ex
  exact ⟨_, pt_cmpR (op_inA (by have := S.rm.un; omega) true) a1 b1 mk, et_bool (m := eIn true ma mb) (ev_bnd S.ok (f := opIn true) (fun _ _ _ _ h => h) a2 b2)⟩
def opCnt : D → D → W D
  | .list xs, .bool b => match bools? xs with | some bs => ret (.int (bs.count b : Nat)) | none => stuck
  | _, _ => stuck
def eCnt (a b : XE) : XE := fun E => bnd (a E) fun x => match x with | .list xs => bnd (b E) fun y => opCnt (.list xs) y | _ => stuck
end
end DL
end
section
namespace DL
open PySem PySem.Spec PyProof.Rows L2
end DL
end
section
namespace DL
open PySem PySem.Spec PyProof.Rows L2
def sIns (i : Nat) (a : XA) : XS := fun E => match E[i]? with
  | some (.own ds) => bnd (a E) fun as => match as with
    | [.int z, d] => grd (0 ≤ z ∧ z < 2 ^ 63 ∧ small ds.length) (ret (.nx (E.set i (.own (ds.take z.toNat ++ [d] ++ ds.drop z.toNat)))))
    | _ => stuck
  | _ => stuck
def rInsL : V → List V → Hp → VK → Prop := fun x vs H Q => ∃ (l : Addr) (xs : List V) (i : Int) (y : V), x = .ref l ∧ vs = [.int i, y] ∧ H l = some (.lst xs) ∧ xs.length < sizeLine ∧ 0 ≤ i ∧ i < 2 ^ 63 ∧
    Q .non (upd H l (.lst (xs.take i.toNat ++ [y] ++ xs.drop i.toNat)))
section
variable {X : Cx} {p : Par} {k : Nat} {cb : Bool}
theorem mt_insL : MtR X "list.insert" rInsL := mt_insert
theorem sd_ins (S : SitB cb true X p k) (i : Nat) {x : Str} {es : List Expr} {m : XA} {px pa pc pos : Pos} (he : PDA X p es m)
    (hpe : ∀ {t : TA}, PA X es t → PE X (.Call (.Attribute (.Name x px) "insert" pa) es [] pc) (tBM X.K "list" rInsL (tVar i) t))
    (hs : swapsWith (.Call (.Attribute (.Name x px) "insert" pa) es [] pc) none pos.line X.env = pure false := by rfl) :
    PSD X p (.Expr (.Call (.Attribute (.Name x px) "insert" pa) es [] pc) pos) (sIns i m) := by
  obtain ⟨te, a1, a2⟩ := he.ex
  refine ⟨_, ps_expr (hpe a1) hs, fun B H σ E c P Dn st r mm nx rt bk ct => ?_⟩
  have m' : (match E[i]? with
    | some (.own ds) => bnd (m E) fun as => match as with
      | [.int z, d] => grd (0 ≤ z ∧ z < 2 ^ 63 ∧ small ds.length) (ret (Out.nx (E.set i (.own (ds.take z.toNat ++ [d] ++ ds.drop z.toNat)))))
      | _ => stuck
    | _ => stuck) c P p.XP := mm
  cases h : E[i]? with
  | none => rw [h] at m'; exact m'.elim
  | some y =>
    rw [h] at m'
    cases y with
    | own ds =>
      obtain ⟨q, xs, hsq, hb, hn, hl, rs⟩ := own_at r h
      refine ⟨.ref q, hsq, .inl ⟨rfl, xs, SqL.of hl⟩, ?_⟩
      refine a2 B H σ E _ _ _ st r m' fun as c1 vs H1 m1 e1 s1 r1 => ?_
      have st1 := st.go e1 s1
      have rr := r.go st e1
      have hl1 := e1.ext.keep _ _ hl hn
      have rs1 := rs.tr (st.up e1)
      dsimp only at m1
      split at m1
      · next z d =>
        cases r1 with
        | cons ra rb =>
          cases ra with
          | int z =>
            cases rb with
            | cons rd re =>
              cases re with
              | nil =>
                obtain ⟨g1, g2, g3⟩ := own_upd (ys := xs.take z.toNat ++ [_] ++ xs.drop z.toNat) (es := ds.take z.toNat ++ [d] ++ ds.drop z.toNat) S.nf S.ok rr st1 h hsq hl1 (((rs1.take _).append (.cons rd .nil)).append (rs1.drop _))
                exact ⟨q, xs, z, _, rfl, rfl, hl1, by rw [rs.length]; exact small_lt m1.1.2.2, m1.1.1, m1.1.2.1, nx _ _ _ _ _ m1.2 g2 (((st.up e1)).trans g3) g1⟩
      · exact m1.elim
    | _ => exact m'.elim
end
end DL
end
section
namespace DL
open PySem PySem.Spec PyProof.Rows L2
def sPopI (i : Nat) (e : XE) : XS := fun E => match E[i]? with
  | some (.own ds) => bnd (e E) fun d => match d with
    | .int z => match seqIndex? z ds.length with
      | some j => grd (-(2 ^ 63) ≤ z ∧ z < 2 ^ 63 ∧ j < ds.length) (ret (.nx (E.set i (.own (ds.eraseIdx j)))))
      | none => stuck
    | _ => stuck
  | _ => stuck
/-- two lists, one after the other: a new list -/
def eAddL (a b : XE) : XE := fun E => bnd (a E) fun x => bnd (b E) fun y => match x, y with
  | .list xs, .list ys => grd (small (xs.length + ys.length)) (ret (.list (xs ++ ys)))
  | _, _ => stuck
theorem Reps.erase {K : PySem.W.Frag} {B : Addr → Prop} {H : Hp} {vs : List V} {ds : List PyData} (j : Nat) (r : Reps K B H vs ds) : Reps K B H (vs.eraseIdx j) (ds.eraseIdx j) := by
  rw [List.eraseIdx_eq_take_drop_succ, List.eraseIdx_eq_take_drop_succ]
  exact (r.take j).append (r.drop (j + 1))
section
variable {X : Cx} {p : Par} {k : Nat} {cb : Bool}
theorem sd_popI (S : SitB cb true X p k) (i : Nat) {x : Str} {e : Expr} {m : XE} {px pa pc pos : Pos} (he : PD X p e m)
    (hpe : ∀ {te : TE}, PE X e te → PE X (.Call (.Attribute (.Name x px) "pop" pa) [e] [] pc) (tBM X.K "list" rPopAt (tVar i) (tCons te tNil)))
    (hs : swapsWith (.Call (.Attribute (.Name x px) "pop" pa) [e] [] pc) none pos.line X.env = pure false := by rfl) :
    PSD X p (.Expr (.Call (.Attribute (.Name x px) "pop" pa) [e] [] pc) pos) (sPopI i m) := by
  obtain ⟨te, a1, a2⟩ := he.ex
  refine ⟨_, ps_expr (hpe a1) hs, fun B H σ E c P Dn st r mm nx rt bk ct => ?_⟩
  have m' : (match E[i]? with
    | some (.own ds) => bnd (m E) fun d => match d with
      | .int z => match seqIndex? z ds.length with
        | some j => grd (-(2 ^ 63) ≤ z ∧ z < 2 ^ 63 ∧ j < ds.length) (ret (Out.nx (E.set i (.own (ds.eraseIdx j)))))
        | none => stuck
      | _ => stuck
    | _ => stuck) c P p.XP := mm
  cases h : E[i]? with
  | none => rw [h] at m'; exact m'.elim
  | some y =>
    rw [h] at m'
    cases y with
    | own ds =>
      obtain ⟨q, xs, hsq, hb, hn, hl, rs⟩ := own_at r h
      refine ⟨.ref q, hsq, .inl ⟨rfl, xs, SqL.of hl⟩, ?_⟩
      refine a2 B H σ E _ _ _ st r m' fun d c1 v H1 m1 e1 s1 r1 => ?_
      have st1 := st.go e1 s1
      have rr := r.go st e1
      have hl1 := e1.ext.keep _ _ hl hn
      have rs1 := rs.tr (st.up e1)
      have hlen : xs.length = ds.length := rs.length
      cases r1 with
      | int z =>
        have m2 : (match seqIndex? z ds.length with
          | some j => grd (-(2 ^ 63) ≤ z ∧ z < 2 ^ 63 ∧ j < ds.length) (ret (Out.nx (E.set i (.own (ds.eraseIdx j)))))
          | none => stuck) c1 P p.XP := m1
        cases hj : seqIndex? z ds.length with
        | none => rw [hj] at m2; exact m2.elim
        | some j =>
          rw [hj] at m2
          obtain ⟨⟨z0, z1, jl⟩, m3⟩ := m2
          obtain ⟨g1, g2, g3⟩ := own_upd (ys := xs.eraseIdx j) (es := ds.eraseIdx j) S.nf S.ok rr st1 h hsq hl1 (rs1.erase j)
          exact ⟨q, xs, z, j, _, rfl, rfl, hl1, z0, z1, by rw [hlen]; exact hj, List.getElem?_eq_getElem (by omega), nx _ _ _ _ _ m3 g2 ((st.up e1).trans g3) g1⟩
      | _ => exact m1.elim
    | _ => exact m'.elim
theorem pf_add {vb : Bool} (S : SitB cb vb X p k) {a b : Expr} {ma mb : XE} {pos : Pos} (ha : PD X p a ma) (hb : PD X p b mb) : PDF X p (.BinOp a .Add b pos) (eAddL ma mb) := by
  obtain ⟨ta, a1, a2⟩ := ha.ex
  obtain ⟨tb, b1, b2⟩ := hb.ex
  refine ⟨_, pe_op op_cat a1 b1, fun B H σ E c P Q s re m k => ?_⟩
  refine a2 B H σ E _ _ _ s re m fun d c1 v H1 m1 e1 s1 r1 => ?_
  have st1 := s.go e1 s1
  refine b2 B H1 σ E _ _ _ st1 (re.go s e1) m1 fun d2 c2 v2 H2 m2 e2 s2 r2 => ?_
  have st2 := st1.go e2 s2
  have e12 := e1.trans e2
  have r1' := r1.tr (st1.up e2)
  cases r1' with
  | lst q1 n1 t1 =>
    cases r2 with
    | lst q2 n2 t2 =>
      obtain ⟨hz, m3⟩ := m2
      exact ⟨_, _, _, _, rfl, rfl, q1, q2, by rw [t1.length, t2.length]; exact small_line hz, fun q hq => k _ _ q _ _ m3 (e12.trans (All.new hq).ev) (st2.all S.ok (All.new hq)) (q_new st2 e12 hq) upd_same ((reps_more hq (t1.append t2)).mono (All.new hq).ext)⟩
    | _ => exact m2.elim
  | _ => exact m2.elim
def max3I (a b c : Int) : Int := if b > a then (if c > b then c else b) else (if c > a then c else a)
/-- max of three ints -/
def eMax3 (a : XA) : XE := fun E => bnd (a E) fun xs => match xs with
  | [.int i, .int j, .int l] => ret (.int (max3I i j l))
  | _ => stuck
theorem call_max3 (hc : X.calm = true) : CallR X (.builtin "max") (fun xs H Q => ∃ i j l, xs = [.int i, .int j, .int l] ∧ Q (.int (max3I i j l)) H) := by
  intro pins s σ H xs us Q I r h
  obtain ⟨i, j, l, rfl, q⟩ := h
  cases r with
  | cons ra r =>
    cases r with
    | cons rb r =>
      cases r with
      | cons rc r =>
        cases r
        obtain ⟨t1, rfl⟩ := ra
        obtain ⟨t2, rfl⟩ := rb
        obtain ⟨t3, rfl⟩ := rc
        refine PySem.max_three_ints (I.ok.hd hc) fun h' tk kk => ⟨_, H, I.kept kk, ?_, q⟩
        unfold max3I
        by_cases h1 : j > i
        · rw [if_pos h1, if_pos h1]
          by_cases h2 : l > j
          · rw [if_pos h2, if_pos h2]; exact ⟨_, rfl⟩
          · rw [if_neg h2, if_neg h2]; exact ⟨_, rfl⟩
        · rw [if_neg h1, if_neg h1]
          by_cases h2 : l > i
          · rw [if_pos h2, if_pos h2]; exact ⟨_, rfl⟩
          · rw [if_neg h2, if_neg h2]; exact ⟨_, rfl⟩
theorem pd_max3 {vb : Bool} (S : SitB true vb X p k) {a b c : Expr} {m : XA} {pn pos : Pos} (hm : X.mg "max" = none) (he : PDA X p [a, b, c] m) (hg : Gl X "max" := by rfl)
    (hs : starEach [a, b, c] X.env = (false, eval a X.env) :: starEach [b, c] X.env := by rfl) (hpl : (backTo pos (starEach [b, c] X.env)).any (·.1) = false := by rfl) :
    PD X p (.Call (.Name "max" pn) [a, b, c] [] pos) (eMax3 m) := by
  obtain ⟨ta, a1, a2⟩ := he.ex
  refine ⟨_, pe_callB (call_max3 S.calm) hg hm (by decide +kernel) a1 (by decide) (by decide) hs hpl, fun B H σ E c P Q s re mm kk => ?_⟩
  refine a2 B H σ E _ _ _ s re mm fun ds c1 vs H1 m1 e1 s1 r1 => ?_
  dsimp only at m1
  split at m1
  · next i j l =>
    cases r1 with
    | cons ra r1 =>
      cases r1 with
      | cons rb r1 =>
        cases r1 with
        | cons rc r1 =>
          cases r1
          cases ra
          cases rb
          cases rc
          exact ⟨i, j, l, rfl, kk _ _ _ _ m1 e1 s1 (.int _)⟩
  · exact m1.elim
end
end DL
end
section
namespace DL
open PySem
def pairD (q : Int × List Int) : D := .tuple [.int q.1, .tuple (q.2.map PyData.int)]
/-- few different ints -/
def setOk (ns : List Int) : Prop := ns.length ≤ 60 ∨ (ns.length ≤ 4000 ∧ ∀ k ∈ ns, 0 ≤ k ∧ k < 60)
end DL
end
section
namespace DL
open PySem
def w_is_integer_0 : Fn := fn 3 3 (sRet (eAnd (eIs .int (eVar 0)) (eAnd (eNot (eIs .bool (eVar 0))) (eChain .le .le (eVar 1) (eVar 0) (eVar 2)))))
def w_extent_of_0 : Fn := fn 3 3 (sRet (eBin .sub (eBin .add (eB1 .sum (eCut (eVar 0) (oSome (eVar 1)) (oSome (eBin .add (eVar 2) (eCon (.int 1)))))) (eVar 2)) (eVar 1)))
def w__law_row_drawn_0 : Fn := fnS 2 8 (sSeq (sPar 2 3 (eBin .add (eCon (.int 1)) (eCallS fDraw 0 (aCons (eVar 1) (aNil)))) (eCallS fDraw 0 (aCons (eCon (.int 6)) (aNil))))
    (sSeq (sAsg 4 (eIdx (eLst (aCons (eCon (.int 3)) (aCons (eCon (.int 60)) (aCons (eCon (.int 9)) (aCons (eCon (.int 2)) (aCons (eCon (.int 12)) (aCons (eCon (.int 5)) (aNil)))))))) (eVar 3)))
    (sSeq (sOwn 5 (eComp (iRng1 (eVar 2)) (.nm 7) (tYes) (eBin .add (eCon (.int 1)) (eCallS fDraw 0 (aCons (eVar 4) (aNil)))) [7]))
    (sSeq (sIf (DL.tOr (tBool (eCmp .eq (eVar 3) (eCon (.int 2)))) (tBool (eCmp .eq (eVar 3) (eCon (.int 3))))) (sSet 5 (eCallS fDraw 0 (aCons (eVar 2) (aNil))) (eBin .add (eCon (.int 1)) (eCallS fDraw 0 (aCons (eCon (.int 60)) (aNil))))) (sSkip))
    (sSeq (sIf (tBool (eCmp .eq (eVar 3) (eCon (.int 5)))) (sSeq (sAsg 6 (eBin .add (eCon (.int 1)) (eCallS fDraw 0 (aCons (eB2 .min (eVar 2) (eCon (.int 4))) (aNil)))))
    (sRel 5 (sOwn 5 (eComp (iRng1 (eVar 2)) (.nm 7) (tYes) (eIdx (eVar 5) (eBin .mod (eVar 7) (eVar 6))) [7])))) (sSkip))
    (sRel 5 (sRet (eB1 .tuple (eVar 5)))))))))
def w_next_start_0 : Fn := fn 3 4 (sSeq (sAsg 3 (eBin .add (eVar 2) (eCon (.int 1))))
    (sSeq (sWhile (DL.tAnd (tBool (eCmp .lt (eVar 3) (eB1 .len (eVar 0)))) (tBool (eCmp .le (eCall w_extent_of_0 (aCons (eVar 0) (aCons (eVar 2) (aCons (eVar 3) (aNil))))) (eVar 1)))) (sAsg 3 (eBin .add (eVar 3) (eCon (.int 1)))))
    (sRet (eVar 3))))
def w_starts_of_0 : Fn := fn 2 4 (sSeq (sOwn 2 (eLst (aCons (eCon (.int 0)) (aNil))))
    (sSeq (sAsg 3 (eCall w_next_start_0 (aCons (eVar 0) (aCons (eVar 1) (aCons (eCon (.int 0)) (aNil))))))
    (sSeq (sWhile (tBool (eCmp .lt (eVar 3) (eB1 .len (eVar 0)))) (sSeq (sApp 2 (eVar 3))
    (sAsg 3 (eCall w_next_start_0 (aCons (eVar 0) (aCons (eVar 1) (aCons (eVar 3) (aNil))))))))
    (sRel 2 (sRet (eB1 .tuple (eVar 2)))))))
def w_check_fits_0 : Fn := fn 2 4 (sFor (iEnumC 0 (eVar 0)) (.tp [2, 3]) (sIf (tBool (eCmp .gt (eVar 3) (eVar 1))) (sRaise "TooNarrow" [Fl.s .place] (aCons (eVar 2) aNil)) (sSkip)))
def w__law_width_drawn_0 : Fn := fnS 2 6 (sSeq (sAsg 2 (eCallS fDraw 0 (aCons (eB1 .len (eVar 1)) (aNil))))
    (sSeq (sAsg 3 (eBin .add (eVar 2) (eCallS fDraw 0 (aCons (eB2 .min (eBin .sub (eB1 .len (eVar 1)) (eVar 2)) (eCon (.int 6))) (aNil)))))
    (sSeq (sAsg 4 (eBin .sub (eBin .add (eB1 .sum (eCut (eVar 1) (oSome (eVar 2)) (oSome (eBin .add (eVar 3) (eCon (.int 1)))))) (eVar 3)) (eVar 2)))
    (sSeq (sAsg 5 (eLst (aCons (eB1 .max (eVar 1)) (aCons (eVar 4) (aCons (eBin .sub (eVar 4) (eCon (.int 1))) (aCons (eBin .add (eVar 4) (eCon (.int 1))) (aCons (eBin .sub (eBin .add (eB1 .sum (eVar 1)) (eB1 .len (eVar 1))) (eCon (.int 1))) (aCons (eBin .add (eCon (.int 1)) (eCallS fDraw 0 (aCons (eCon (.int 80)) (aNil)))) (aCons (eCon (.int 2000)) (aNil))))))))))
    (sRet (eB2 .max (eCon (.int 1)) (eIdx (eVar 5) (eCallS fDraw 0 (aCons (eCon (.int 7)) (aNil))))))))))
def w_starts_at_0 : Fn := fn 2 2 (sSeq (sExpr (eCall w_check_fits_0 (aCons (eVar 0) (aCons (eVar 1) (aNil)))))
    (sRet (eCall w_starts_of_0 (aCons (eVar 0) (aCons (eVar 1) (aNil))))))
def w_lines_of_0 : Fn := fn 2 5 (sSeq (sAsg 2 (eLst (aStar (eCut (eVar 1) (oSome (eCon (.int 1))) (oNone)) (aCons (eB1 .len (eVar 0)) (aNil)))))
    (sRet (eB1 .tuple (eComp (iTwos (eVar 1) (eVar 2)) (.tp [3, 4]) (tYes) (eCut (eVar 0) (oSome (eVar 3)) (oSome (eVar 4))) [3, 4]))))
def w_lines_at_0 : Fn := fn 2 2 (sRet (eCall w_lines_of_0 (aCons (eVar 0) (aCons (eCall w_starts_at_0 (aCons (eVar 0) (aCons (eVar 1) (aNil)))) (aNil)))))
def w_meeting_0 : Fn := fn 3 6 (sSeq (sExpr (eCall w_check_fits_0 (aCons (eVar 0) (aCons (eVar 2) (aNil)))))
    (sSeq (sExpr (eCall w_check_fits_0 (aCons (eVar 1) (aCons (eVar 2) (aNil)))))
    (sSeq (sAsg 3 (eCall w_starts_of_0 (aCons (eVar 1) (aCons (eVar 2) (aNil)))))
    (sSeq (sFor (iSeq (eCall w_starts_of_0 (aCons (eVar 0) (aCons (eVar 2) (aNil))))) (.nm 4) (sSeq (sAsg 5 (eBin .sub (eBin .add (eVar 4) (eB1 .len (eVar 1))) (eB1 .len (eVar 0))))
    (sIf (DL.tAnd (tBool (eIn false (eVar 5) (eVar 3))) (tBool (eCmp .eq (eCut (eVar 0) (oSome (eVar 4)) (oNone)) (eCut (eVar 1) (oSome (eVar 5)) (oNone))))) (sRet (eTup (aCons (eVar 4) (aCons (eVar 5) (aNil))))) (sSkip))))
    (sRet (eCon .none))))))
def w__law_near_row_0 : Fn := fnS 2 7 (sSeq (sOwn 2 (eB1 .list (eVar 1)))
    (sSeq (sFor (iRng1 (eBin .add (eCon (.int 1)) (eCallS fDraw 0 (aCons (eCon (.int 2)) (aNil))))) (.nm 3) (sSeq (sPar3 4 5 6 (eBor 2 (eCallS fDraw 0 (aCons (eB1 .len (eVar 2)) (aNil)))) (eCallS fDraw 0 (aCons (eCon (.int 5)) (aNil))) (eBin .add (eCon (.int 1)) (eCallS fDraw 0 (aCons (eB1 .max (eVar 1)) (aNil)))))
    (sIf (tBor 2 (DL.tAnd (tBool (eCmp .eq (eVar 5) (eCon (.int 0)))) (tBool (eCmp .lt (eB1 .len (eVar 2)) (eCon (.int 24)))))) (sIns 2 (aCons (eVar 4) (aCons (eVar 6) aNil))) (sIf (tBor 2 (DL.tAnd (tBool (eCmp .eq (eVar 5) (eCon (.int 1)))) (tBool (eCmp .gt (eB1 .len (eVar 2)) (eCon (.int 1)))))) (sPopI 2 (eVar 4)) (sIf (tBool (eCmp .eq (eVar 5) (eCon (.int 2)))) (sRel 2 (sOwn 2 (eAddL (eCut (eVar 2) (oSome (eVar 4)) (oNone)) (eCut (eVar 2) (oNone) (oSome (eVar 4)))))) (sSet 2 (eVar 4) (eVar 6)))))))
    (sRel 2 (sRet (eIdx (eLst (aCons (eB1 .tuple (eVar 2)) (aCons (eCallS w__law_row_drawn_0 0 (aCons (eCon (.int 24)) (aNil))) (aNil)))) (eB1 .int (eCmp .eq (eCallS fDraw 0 (aCons (eCon (.int 9)) (aNil))) (eCon (.int 0)))))))))
end DL
end
section
namespace DL
open PySem
end DL
end
section
namespace DL
open PySem
end DL
end
section
namespace DL
open PySem
end DL
end
section
namespace DL
open PySem
end DL
end
section
namespace DL
open PySem
/-- what an instance holds -/
def heldOf : D → W D
  | .dict [(.none, .int 0), (.str _, d)] => ret d
  | _ => stuck
def eHeld (a : XE) : XE := fun E => bnd (a E) heldOf
end DL
end
section
namespace DL
open PySem
def w_check_width_0 : Fn := fn 1 1 (sIf (tNot (tTru (eCall w_is_integer_0 (aCons (eVar 0) (aCons (eCon (.int 1)) (aCons (eCon (.int (2000))) (aNil))))))) (sRaise "NoWidth" [Fl.s .value] (aCons (eVar 0) aNil)) (sSkip))
def w_WR_call_0 : Fn := fn 2 2 (sSeq (sExpr (eCall w_check_width_0 (aCons (eVar 1) (aNil))))
    (sRet (eCall w_starts_at_0 (aCons (eHeld (eVar 0)) (aCons (eVar 1) (aNil))))))
end DL
end
section
namespace DL
open PySem PySem.Spec PyProof.Rows L2
end DL
end
section
namespace DL
open PySem PySem.Spec PyProof.Rows L2
theorem flat_intsV : ∀ ns : List Int, (ns.map V.int).all flatV = true
  | [] => rfl
  | _ :: r => flat_intsV r
theorem first_at {α : Type} [BEq α] [LawfulBEq α] {ns : List α} {k : α} {j : Nat} (h : ns.findIdx? (· == k) = some j) : ns[j]? = some k ∧ ∀ m, m < j → ∀ z, ns[m]? = some z → (z == k) = false := by
  obtain ⟨h1, h2, h3⟩ := List.findIdx?_eq_some_iff_getElem.mp h
  refine ⟨by rw [List.getElem?_eq_getElem h1, eq_of_beq h2], fun m hm z hz => ?_⟩
  have := h3 m hm
  obtain ⟨q1, q2⟩ := List.getElem?_eq_some_iff.mp hz
  rw [q2] at this
  simpa using this
end DL
end
section
namespace DL
open PySem PySem.Spec PyProof.Rows L2
end DL
end
section
namespace DL
open PySem PySem.Spec PyProof.Rows L2
end DL
end
section
namespace DL
open PySem PySem.Spec PyProof.Rows L2
end DL
end
section
namespace DL
open PySem PySem.Spec PyProof.Rows L2
end DL
end
section
namespace DL
open PySem PySem.Spec PyProof.Rows L2
end DL
end
section
namespace DL
open PySem PySem.Spec PyProof.Rows L2
section
variable {X : Cx} {p : Par} {k : Nat} {cb vb : Bool}
theorem RoomB.in1 {k : Nat} {A : Around} (r : RoomB cb (k + 1) A) : RoomB cb k A.in1 :=
  ⟨r.hd_, by have := r.dp; show A.depth + 3 * k + 5 < _; omega, by have := r.un; show A.units + 1 + 16 * k + 200 < _; omega⟩
end
end DL
end
section
namespace DL
open PySem PySem.Spec PyProof.Rows L2
end DL
end
section
namespace DL
open PySem PySem.Spec PyProof.Rows L2
/-- objects without fields stand in no data -/
def Bare (o : HO) : Prop := ∃ C dx, o = .ins C dx []
def Skips (H H' : Hp) : Prop := ∀ a o, H a = some o → ¬ Bare o → H' a = some o
theorem Skips.sqT {K : PySem.W.Frag} {H H' : Hp} (h : Skips H H') {a : Addr} {xs : List V} (q : SqT K H a xs) : SqT K H' a xs := by
  rcases q with (q | ⟨o, q⟩) | q
  · exact .inl (.inl (h a _ q fun ⟨_, _, z⟩ => nomatch z))
  · exact .inl (.inr ⟨o, h a _ q fun ⟨_, _, z⟩ => nomatch z⟩)
  · exact .inr q
end DL
end
section
namespace DL
open PySem
/-- the place that a reference names -/
def rOf : D → Option Nat
  | .dict [(.none, .bool true), (.none, .int i)] => some i.toNat
  | _ => none
def Sx.set (c : Sx) (a : Nat) (x : Cell) : Sx := ⟨c.n, fun b => if b = a then some x else c.mu b⟩
def lstAt (d : D) (c : Sx) : Option (Nat × List D) := (rOf d).bind fun a => match c.mu a with
  | some (.lst ds) => some (a, ds)
  | _ => none
def getL (d : D) : W (Nat × List D) := fun c P _ => ∃ q, lstAt d c = some q ∧ P q c
/-- a method, a property: by the class -/
abbrev Tb := List (Str × Fn)
end DL
end
section
namespace DL
open PySem PySem.Spec PyProof.Rows L2
end DL
end
section
namespace DL
open PySem PySem.Spec PyProof.Rows L2
section
variable {X : Cx} {p : Par} {k : Nat} {cb vb : Bool}
theorem IsStr.quiet {K : PySem.W.Frag} (Z : IsStr K p) : IsStr K p.quiet := Z
/-- the method m of the class n does f -/
structure MetN (cb : Bool) (X : Cx) (k : Nat) (n m : Str) (f : Fn) : Prop where
  ex : ∃ (j : Nat) (g : Addr) (fd : FuncData) (ps : List Str), j ≤ k ∧ FnG cb X.prog X.w X.K X.mg X.base j g fd ps (spC X.K X.mg f) ∧ Meth X.K (He.ga X.K n) m g ∧ Binds X.K fd ps []
inductive MetT (cb : Bool) (X : Cx) (k : Nat) (m : Str) : Tb → Prop
  | nil : MetT cb X k m []
  | cons {n : Str} {f : Fn} {tb : Tb} (h : MetN cb X k n m f) (t : MetT cb X k m tb) : MetT cb X k m ((n, f) :: tb)
theorem MetT.at_ {m : Str} {n : Str} {f : Fn} : ∀ {tb : Tb}, MetT cb X k m tb → tb.lookup n = some f → MetN cb X k n m f
  | _, .nil, h => by cases h
  | _, .cons (n := n') (f := f') h t, e => by
    rw [List.lookup_cons] at e
    by_cases hn : (n == n') = true
    · rw [hn] at e
      cases e
      rw [beq_iff_eq] at hn
      subst hn
      exact h
    · rw [Bool.not_eq_true] at hn
      rw [hn] at e
      exact t.at_ e
end
end DL
end
section
namespace DL
open PySem PySem.Spec PyProof.Rows L2
section
variable {X : Cx} {p : Par} {k : Nat} {cb vb : Bool}
structure PropN (cb : Bool) (X : Cx) (k : Nat) (n m : Str) (f : Fn) : Prop where
  ex : ∃ (j : Nat) (q g : Addr) (fd : FuncData) (ps : List Str), j + 1 ≤ k ∧ FnG cb X.prog X.w X.K X.mg X.base j g fd ps (spC X.K X.mg f) ∧ PropOf X.K (He.ga X.K n) m q g ∧ Binds X.K fd ps []
inductive PropT (cb : Bool) (X : Cx) (k : Nat) (m : Str) : Tb → Prop
  | nil : PropT cb X k m []
  | cons {n : Str} {f : Fn} {tb : Tb} (h : PropN cb X k n m f) (t : PropT cb X k m tb) : PropT cb X k m ((n, f) :: tb)
theorem PropT.at_ {m : Str} {n : Str} {f : Fn} : ∀ {tb : Tb}, PropT cb X k m tb → tb.lookup n = some f → PropN cb X k n m f
  | _, .nil, h => by cases h
  | _, .cons (n := n') (f := f') h t, e => by
    rw [List.lookup_cons] at e
    by_cases hn : (n == n') = true
    · rw [hn] at e
      cases e
      rw [beq_iff_eq] at hn
      subst hn
      exact h
    · rw [Bool.not_eq_true] at hn
      rw [hn] at e
      exact t.at_ e
end
end DL
end
section
namespace DL
open PySem PySem.Spec PyProof.Rows L2
end DL
end
section
namespace DL
open PySem
end DL
end
section
namespace DL
open PySem PySem.Spec PyProof.Rows L2
end DL
end
section
namespace DL
open PySem PySem.Spec PyProof.Rows L2
/-- the name is a property at q whose setter is at s -/
structure PropSt (K : PySem.W.Frag) (C : Addr) (f : Str) (q s : Addr) : Prop where
  tk : PySem.W.takerIn K C f = some (some (.ref q))
  ty : PySem.W.typeIn K (.ref q) = some (.type "property")
  rec_ : ∃ a rest, PySem.W.recIn K q "property" = some (a :: .ref s :: rest)
section
variable {X : Cx} {p : Par} {k : Nat} {cb vb : Bool}
structure PropSN (cb : Bool) (X : Cx) (k : Nat) (n m : Str) (f : Fn) : Prop where
  ex : ∃ (j : Nat) (q g : Addr) (fd : FuncData) (ps : List Str), j + 2 ≤ k ∧ FnG cb X.prog X.w X.K X.mg X.base j g fd ps (spC X.K X.mg f) ∧ PropSt X.K (He.ga X.K n) m q g ∧ Binds X.K fd ps []
inductive PropST (cb : Bool) (X : Cx) (k : Nat) (m : Str) : Tb → Prop
  | nil : PropST cb X k m []
  | cons {n : Str} {f : Fn} {tb : Tb} (h : PropSN cb X k n m f) (t : PropST cb X k m tb) : PropST cb X k m ((n, f) :: tb)
theorem PropST.at_ {m : Str} {n : Str} {f : Fn} : ∀ {tb : Tb}, PropST cb X k m tb → tb.lookup n = some f → PropSN cb X k n m f
  | _, .nil, h => by cases h
  | _, .cons (n := n') (f := f') h t, e => by
    rw [List.lookup_cons] at e
    by_cases hn : (n == n') = true
    · rw [hn] at e
      cases e
      rw [beq_iff_eq] at hn
      subst hn
      exact h
    · rw [Bool.not_eq_true] at hn
      rw [hn] at e
      exact t.at_ e
end
end DL
end
section
namespace DL
open PySem
end DL
end
section
namespace DL
open PySem PySem.Spec PyProof.Rows L2 HotX
end DL
end
section
namespace DL
open PySem PySem.Spec PyProof.Rows L2
end DL
end
section
namespace DL
open PySem PySem.Spec PyProof.Rows L2 HotX
/-- the contexts from x on: none, or one whose own context is None -/
def Chn (h : Heap) (x : Addr) : Prop := ∃ o : Obj, h.get? x = some o ∧ (EndC o ∨ ∃ (y : Addr) (vs : Array Value) (oy : Obj), o.data = .fields vs ∧ vs[2]? = some (.ref y) ∧ h.get? y = some oy ∧ EndC oy ∧ y ≠ x)
theorem Chn.keep {h h' : Heap} {x : Addr} (c : Chn h x) (k : ∀ b o, h.get? b = some o → (∃ vs, o.data = .fields vs) → h'.get? b = some o ∨ False) : Chn h' x := by
  obtain ⟨o, e, z⟩ := c
  rcases z with z | ⟨y, vs, oy, z1, z2, z3, z4, z5⟩
  · exact ⟨o, (k x o e (let ⟨vs, q, _⟩ := z; ⟨vs, q⟩)).elim id False.elim, .inl z⟩
  · exact ⟨o, (k x o e ⟨vs, z1⟩).elim id False.elim, .inr ⟨y, vs, oy, z1, z2, (k y oy z3 (let ⟨v, q, _⟩ := z4; ⟨v, q⟩)).elim id False.elim, z4, z5⟩⟩
theorem Chn.keeps {h h' : Heap} {x : Addr} (c : Chn h x) (k : ∀ b o, h.get? b = some o → h'.get? b = some o) : Chn h' x := c.keep fun b o e _ => .inl (k b o e)
/-- what is handled -/
def HotN (A : Around) (h : Heap) : Prop := ∃ x, A.handled = some (.ref x) ∧ Chn h x
theorem HotN.keeps {A : Around} {h h' : Heap} (c : HotN A h) (k : ∀ b o, h.get? b = some o → h'.get? b = some o) : HotN A h' := by
  obtain ⟨x, hh, c⟩ := c
  exact ⟨x, hh, c.keeps k⟩
/-- in X, what is handled is known -/
def HotS (X : Cx) : Prop := ∀ (pins : List (Addr × Obj)) (σ : L2.St) (H : Hp) (s : Shared), Inv X pins σ H s → HotN X.A s.heap
theorem HotS.of {X : Cx} {a : Addr} {oe : Obj} (hh : X.A.handled = some (.ref a)) (ha : (a, oe) ∈ X.pn) (h : EndC oe ∨ ∃ (y : Addr) (vs : Array Value) (oy : Obj), oe.data = .fields vs ∧ vs[2]? = some (.ref y) ∧ (y, oy) ∈ X.pn ∧ EndC oy ∧ y ≠ a) : HotS X := fun pins σ H s I => by
  refine ⟨a, hh, oe, (I.pin (a, oe) (List.mem_append_left _ ha)).1, ?_⟩
  rcases h with h | ⟨y, vs, oy, h1, h2, h3, h4, h5⟩
  · exact .inl h
  · exact .inr ⟨y, vs, oy, h1, h2, (I.pin (y, oy) (List.mem_append_left _ h3)).1, h4, h5⟩
/-- in X, tuples may be unpacked -/
def UnpX (X : Cx) : Prop := ∀ (es : List Expr) (k : _) (pos : Pos) (t : TGs) (n : Nat), PGs X es t → (assignEach es X.env).length = n → (assignEach es X.env).findIdx? (·.1) = none → PG X (.Tuple es k pos) (gTup X.K n t)
theorem UnpX.calm {X : Cx} (h : X.calm = true) : UnpX X := fun _ _ _ _ _ a b c => pg_tup h a b c
end DL
end
section
namespace DL
open PySem PySem.Spec PyProof.Rows L2
end DL
end
section
namespace DL
open PySem
end DL
end
section
namespace DL
open PySem PySem.Spec PyProof.Rows L2
end DL
end
section
namespace DL
open PySem
end DL
end
section
namespace DL
open PySem
end DL
end
section
namespace DL
open PySem
end DL
end
section
namespace DL
open PySem
end DL
end
section
namespace DL
open PySem
end DL
end
section
namespace DL
open PySem
end DL
end
section
namespace DL
open PySem
end DL
end
section
namespace DL
open PySem
end DL
end
section
namespace DL
open PySem
end DL
end
section
namespace DL
open PySem
end DL
end
section
namespace DL
open PySem
end DL
end
section
namespace DL
open PySem
end DL
end
section
namespace DL
open PySem
end DL
end
section
namespace DL
open PySem
end DL
end
section
namespace DL
open PySem PySem.Spec PyProof.Rows L2
structure AllT (R : Str → Fn → Prop) (tb : Tb) : Prop where
  at_ : ∀ n f, tb.lookup n = some f → R n f
theorem AllT.nil {R : Str → Fn → Prop} : AllT R [] := ⟨fun n f h => by cases h⟩
theorem AllT.cons {R : Str → Fn → Prop} {n : Str} {f : Fn} {tb : Tb} (h : R n f) (t : AllT R tb) : AllT R ((n, f) :: tb) := ⟨fun m g e => by
  rw [List.lookup_cons] at e
  by_cases hn : (m == n) = true
  · rw [hn] at e
    cases e
    rw [beq_iff_eq] at hn
    subst hn
    exact h
  · rw [Bool.not_eq_true] at hn
    rw [hn] at e
    exact t.at_ _ _ e⟩
end DL
end
section
namespace DL
open PySem PySem.Spec PyProof.Rows L2
end DL
end
section
namespace DL
open PySem PySem.Spec PyProof.Rows L2
end DL
end
section
namespace DL
open PySem PySem.Spec PyProof.Rows L2 HotX
end DL
end
section
namespace DL
open PySem PySem.Spec PyProof.Rows L2 HotX
end DL
end
section
namespace DL
open PySem PySem.Spec PyProof.Rows L2
end DL
end
section
namespace DL
open PySem PySem.Spec PyProof.Rows L2
end DL
end
section
namespace DL
open PySem
end DL
end
section
namespace DL
open PySem PySem.Spec PyProof.Rows L2 HotX
theorem HotH.n {X : Cx} {pins : List (Addr × Obj)} {σ : L2.St} {H : Hp} {s : Shared} (h : HotH X.A H) (I : Inv X pins σ H s) : HotN X.A s.heap := by
  obtain ⟨a, oe, h1, h2, h3⟩ := h
  exact ⟨a, h1, oe, (I.hok a _ h2).1, .inl h3⟩
theorem HotH.ext {A : Around} {B : Addr → Prop} {H H' : Hp} (h : HotH A H) (e : Ext B H H') : HotH A H' := by
  obtain ⟨a, oe, h1, h2, h3⟩ := h
  exact ⟨a, oe, h1, e.imm a _ h2 trivial, h3⟩
end DL
end
section
namespace DL
open PySem PySem.Spec PyProof.Rows L2
end DL
end
section
namespace DL
open PySem
end DL
end
section
namespace DL
open PySem PySem.Spec PyProof.Rows L2
/-- which functions stand at which places -/
abbrev Phi := Nat → Option Fn
end DL
end
section
namespace DL
open PySem
end DL
end
section
namespace DL
open PySem PySem.Spec PyProof.Rows L2
/-- what a function at a place does: from where it was made on -/
def spL (K : PySem.W.Frag) (mg : Str → Option Value) (S L C : Addr) (c0 : Sx) (H0 : Hp) (B0 : Addr → Prop) (m : Fn) : Sp := fun vs H Q EK => ∃ (B : Addr → Prop) (ds : List D) (c : Sx) (P : D → Sx → Prop) (XP : Exn → Sx → Prop),
  (∀ a, B a → H0 a ≠ none → bc B0 S L C c0 a) ∧ EvB (cB S L C) c0 H0 c H ∧ (∀ a, bc B S L C c a → H a ≠ none) ∧ StI K S L C c H ∧ Reps K (bc B S L C c) H vs ds ∧ m ds c P XP ∧
  (∀ d c' v H', P d c' → EvB (cB S L C) c H c' H' → StI K S L C c' H' → Rep K (bc B S L C c') H' v d → Q v H') ∧
  ∀ x c' cl dd H', XP x c' → EvB (cB S L C) c H c' H' → StI K S L C c' H' → ExRep K mg (bc B S L C c') H' x cl dd → EK cl dd H'
/-- the functions of φ keep their promises, in all frames that are entered later -/
def Live (P : Program) (w : World) (K : PySem.W.Frag) (mg : Str → Option Value) (base : Heap) (j : Nat) (S L C : Addr) (φ : Phi) (outer : List PySem.Env) (s : Shared) (H : Hp) (c : Sx) (B : Addr → Prop) : Prop :=
  ∀ a m, φ a = some m → H a = none ∧ a ∉ frs outer ∧ PySem.W.FnAt a s.heap ∧ ∀ (A : Around) (outer' : List PySem.Env) (s' : Shared) (H' : Hp) (us : List Value) (vs : List V) (Q : VK) (E : XK), RoomB true j A → A.guards = some [] → Env0 P w K mg base A outer' s' H' →
    Un (frs outer) [] H H' s.heap s'.heap → Vals vs us → spL K mg S L C c H B m vs H' Q E → codeAny (model P w) A (.call (.ref a) ⟨us, []⟩) (CR (CXd K P w) outer' P w H' s' Q E) s'
/-- .. where a body stands -/
structure LiveZ (Z : Cx) (q : Par) (φ : Phi) (j : Nat) : Prop where
  h0 : q.H0 = Z.H_0
  ex : Z.ex = []
  go : ∃ S L C, q.B0 = cB S L C ∧ q.SI = StI Z.K S L C ∧ q.S = S ∧ Live Z.prog Z.w Z.K Z.mg Z.base j S L C φ Z.outer Z.s_0 Z.H_0 q.c0 q.Bc
theorem LiveZ.sub {Z : Cx} {p q : Par} {φ : Phi} {j : Nat} {pn : List (Addr × Obj)} {xe : Value → Shared → Prop} (h : LiveZ Z p φ j) (s : SubP p q) : LiveZ (Z.tr pn xe) q φ j := by
  obtain ⟨h1, h2, S, L, C, e1, e2, e3, l⟩ := h
  refine ⟨s.h0.trans h1, h2, S, L, C, s.b0.trans e1, s.si.trans e2, s.ss.trans e3, ?_⟩
  rw [s.c0, s.bc]
  exact l
section
variable {P : Program} {w : World} {K : PySem.W.Frag} {mg : Str → Option Value} {base : Heap} {cb : Bool}
/-- as spG, with functions that keep their promises -/
def spGL (b : Bool) (K : PySem.W.Frag) (mg : Str → Option Value) (m : Fn) (Λ : Addr → Addr → Addr → Sx → (Addr → Prop) → Prop) : Sp := fun vs H Q EK => ∃ (S L C : Addr) (ws : List V) (B : Addr → Prop) (ds : List D) (c : Sx) (P : D → Sx → Prop) (XP : Exn → Sx → Prop),
  vs = (if b = true then [.ref S] else []) ++ ws ∧ (∀ a, bc B S L C c a → H a ≠ none) ∧ StI K S L C c H ∧ Reps K (bc B S L C c) H ws ds ∧ m ds c P XP ∧ Λ S L C c B ∧
  (∀ d c' v H', P d c' → EvB (cB S L C) c H c' H' → StI K S L C c' H' → Rep K (bc B S L C c') H' v d → Q v H') ∧
  ∀ x c' cl dd H', XP x c' → EvB (cB S L C) c H c' H' → StI K S L C c' H' → ExRep K mg (bc B S L C c') H' x cl dd → EK cl dd H'
/-- a def that is handed functions keeps its promise -/
structure FnL (cb : Bool) (P : Program) (w : World) (K : PySem.W.Frag) (mg : Str → Option Value) (base : Heap) (k j : Nat) (f : Addr) (fd : FuncData) (ps : List Str) (b : Bool) (m : Phi → Fn) : Prop where
  len : ∀ φ Λ vs H Q E, spGL b K mg (m φ) Λ vs H Q E → vs.length = ps.length
  go : ∀ (φ : Phi) (A : Around) (outer : List PySem.Env) (s : Shared) (H : Hp) (args : Args) (us : List Value) (vs : List V) (Q : VK) (E : XK), RoomB cb k A → A.guards = some [] → Env0 P w K mg base A outer s H →
    BindsTo s fd args (ps.zip us) → Vals vs us → spGL b K mg (m φ) (fun S L C c B => Live P w K mg base j S L C φ outer s H c B) vs H Q E → codeAny (model P w) A (.call (.ref f) args) (CR (CXd K P w) outer P w H s Q E) s
theorem FnL.mono {k k' j : Nat} {f : Addr} {fd : FuncData} {ps : List Str} {b : Bool} {m : Phi → Fn} (F : FnL cb P w K mg base k j f fd ps b m) (h : k ≤ k') : FnL cb P w K mg base k' j f fd ps b m :=
  ⟨F.len, fun φ A outer s H args us vs Q E hr => F.go φ A outer s H args us vs Q E (hr.mono h)⟩
end
end DL
end
section
namespace DL
open PySem PySem.Spec PyProof.Rows L2
/-- a def f(*v) keeps its promise, called by position -/
structure FnV (cb : Bool) (P : Program) (w : World) (K : PySem.W.Frag) (mg : Str → Option Value) (base : Heap) (k : Nat) (f : Addr) (sp : Sp) : Prop where
  go : ∀ (A : Around) (outer : List PySem.Env) (s : Shared) (H : Hp) (us : List Value) (vs : List V) (Q : VK) (E : XK), RoomB cb k A → A.guards = some [] → Env0 P w K mg base A outer s H →
    Vals vs us → sp vs H Q E → codeAny (model P w) A (.call (.ref f) ⟨us, []⟩) (CR (CXd K P w) outer P w H s Q E) s
section
variable {P : Program} {w : World} {K : PySem.W.Frag} {mg : Str → Option Value} {base : Heap} {cb : Bool}
theorem FnV.imp {k : Nat} {f : Addr} {sp sp' : Sp} (F : FnV cb P w K mg base k f sp) (h : ∀ vs H Q E, sp' vs H Q E → sp vs H Q E) : FnV cb P w K mg base k f sp' :=
  ⟨fun A outer s H us vs Q E hr hg e0 rv hq => F.go A outer s H us vs Q E hr hg e0 rv (h vs H Q E hq)⟩
end
end DL
end
section
namespace DL
open PySem PySem.Spec PyProof.Rows L2
end DL
end
section
namespace DL
open PySem PySem.Spec PyProof.Rows L2
/-- such a def, D the class in whose body it stands -/
structure FunS (K : PySem.W.Frag) (fl x qual : Str) (params : Arguments) (body : List Stmt) (scope : Scope) (kws : List (Str × V)) (D f : Addr) (fd : FuncData) : Prop where
  ex : ∃ (oc : Value) (od : Option Addr) (dV kV doc pm : Value) (an : Option Addr) (cda cc : Addr) (ct : Value) (osl : Array (Option Value)),
    fd = PySem.W.ksFn x qual params body scope dV kV doc pm an (.ref cda) ct cc ∧ K.lookup f = some ⟨oc, od, .func fd, osl⟩ ∧ PySem.W.codeIn K (.ref cda) qual = true ∧ DflV K dV [] ∧ KwdV K kV kws ∧
    (∃ (cl : Value) (cdd : Option Addr) (vs : Array Value) (ccs : Array (Option Value)) (tf : Tok), K.lookup cda = some ⟨cl, cdd, .fields vs, ccs⟩ ∧ vs[2]? = some (.str fl tf)) ∧
    (∃ (cl : Value) (cld : Option Addr) (csl : Array (Option Value)), K.lookup cc = some ⟨cl, cld, .cell (some (.ref D)), csl⟩)
  kp : PySem.W.keepIn K (.ref f) = true
theorem FunS.bindsN {K : PySem.W.Frag} {fl x qual : Str} {params : Arguments} {body : List Stmt} {scope : Scope} {kws : List (Str × V)} {D f : Addr} {fd : FuncData} {ps : List Str} (F : FunS K fl x qual params body scope kws D f fd)
    (h : ∀ (kV doc pm : Value) (an : Option Addr) (cdv ct : Value) (cc : Addr) (us : List Value), us.length = ps.length → bindArgs (PySem.W.ksFn x qual params body scope .none kV doc pm an cdv ct cc) ⟨us, []⟩ = pure (ps.zip us)) : Binds K fd ps [] := by
  obtain ⟨oc, od, dV, kV, doc, pm, an, cda, cc, ct, osl, rfl, lk, hcd, hD, hK, _⟩ := F.ex
  rcases hD with ⟨_, rfl⟩ | ⟨e, _⟩
  · exact .all (h kV doc pm an (.ref cda) ct cc)
  · exact absurd rfl e
abbrev AtC (X : Cx) (c : Code) {α : Type} (t : Sem α) (Q : α → Shared → Prop) (s : Shared) : Prop := PySem.wpAt (model X.prog X.w) X.A c t Q X.xe s
structure PEAt (X : Cx) (c : Code) (e : Expr) (t : TE) : Prop where
  run : ∀ (pins : List (Addr × Obj)) (s : Shared) (σ : L2.St) (H : Hp) (Q : VK), Inv X pins σ H s → t σ H Q → AtC X c (eval e X.env) (EP X pins σ Q) s
structure PSsAt (X : Cx) (c : Code) (sts : List Stmt) (t : TS) : Prop where
  run : ∀ (pins : List (Addr × Obj)) (s : Shared) (σ : L2.St) (H : Hp) (D : Ends), Inv X pins σ H s → t D σ H → AtC X c (execs sts X.env) (SP X pins D) s
structure PDat (X : Cx) (c : Code) (p : Par) (e : Expr) (m : XE) : Prop where
  ex : ∃ te, PEAt X c e te ∧ EvR X.K p te m
structure SSat (X : Cx) (c : Code) (p : Par) (sts : List Stmt) (m : XS) : Prop where
  ex : ∃ ts, PSsAt X c sts ts ∧ SR X.K p ts m
section
variable {X : Cx} {p : Par} {k : Nat} {cb vb : Bool} {c : Code}
theorem PD.at_ {e : Expr} {m : XE} (h : PD X p e m) : PDat X c p e m := by
  obtain ⟨te, a1, a2⟩ := h.ex
  exact ⟨te, ⟨fun pins s σ H Q I q => wpAt_of_wpAny (a1.run pins s σ H Q I q)⟩, a2⟩
theorem PSSD.at_ {sts : List Stmt} {m : XS} (h : PSSD X p sts m) : SSat X c p sts m := by
  obtain ⟨ts, a1, a2⟩ := h.ex
  exact ⟨ts, ⟨fun pins s σ H Q I q => wpAt_of_wpAny (a1.run pins s σ H Q I q)⟩, a2⟩
end
end DL
end
section
namespace DL
open PySem PySem.Spec PyProof.Rows L2
section
variable {X : Cx} {p : Par} {k : Nat} {cb vb : Bool} {c : Code} {D : Addr}
/-- the method m of what stands behind D, of the class n, does f -/
structure SupN (cb : Bool) (X : Cx) (k : Nat) (D : Addr) (n m : Str) (f : Fn) : Prop where
  ex : ∃ (j : Nat) (g : Addr) (fd : FuncData) (ps : List Str), j ≤ k ∧ FnG cb X.prog X.w X.K X.mg X.base j g fd ps (spC X.K X.mg f) ∧ PySem.W.mroIn X.K (He.ga X.K n) (.ref D) = some true ∧ PySem.W.ks_superIn X.K (He.ga X.K n) D m = some (some (.ref g)) ∧
    PySem.W.typeIn X.K (.ref g) = some (.type "function") ∧ PySem.W.fnIn X.K g = true ∧ Binds X.K fd ps []
inductive SupT (cb : Bool) (X : Cx) (k : Nat) (D : Addr) (m : Str) : Tb → Prop
  | nil : SupT cb X k D m []
  | cons {n : Str} {f : Fn} {tb : Tb} (h : SupN cb X k D n m f) (t : SupT cb X k D m tb) : SupT cb X k D m ((n, f) :: tb)
theorem SupT.at_ {m : Str} {n : Str} {f : Fn} : ∀ {tb : Tb}, SupT cb X k D m tb → tb.lookup n = some f → SupN cb X k D n m f
  | _, .nil, h => by cases h
  | _, .cons (n := n') (f := f') h t, e => by
    rw [List.lookup_cons] at e
    by_cases hn : (n == n') = true
    · rw [hn] at e
      cases e
      rw [beq_iff_eq] at hn
      subst hn
      exact h
    · rw [Bool.not_eq_true] at hn
      rw [hn] at e
      exact t.at_ e
end
end DL
end
section
namespace DL
open PySem PySem.Spec PyProof.Rows L2
structure PAat (X : Cx) (c : Code) (es : List Expr) (t : TA) : Prop where
  run : ∀ (pos : Pos) (pins : List (Addr × Obj)) (s : Shared) (σ : L2.St) (H : Hp) (Q : List V → Hp → Prop), Inv X pins σ H s → t σ H Q → AtC X c (spliced (backTo pos (starEach es X.env))) (AP X pins σ Q) s
structure PDAat (X : Cx) (c : Code) (p : Par) (es : List Expr) (m : XA) : Prop where
  ex : ∃ ta, PAat X c es ta ∧ EvA X.K p ta m
section
variable {X : Cx} {p : Par} {k : Nat} {cb vb : Bool} {c : Code} {D : Addr}
theorem PDA.at_ {es : List Expr} {m : XA} (h : PDA X p es m) : PDAat X c p es m := by
  obtain ⟨ta, a1, a2⟩ := h.ex
  exact ⟨ta, ⟨fun pos pins s σ H Q I q => PySem.wpAt_of_wpAny (a1.run pos pins s σ H Q I q)⟩, a2⟩
end
end DL
end
section
namespace DL
open PySem PySem.Spec PyProof.Rows L2
structure DefA where
  at_ : PySem.W.Frag → Addr
  name : Str
  qual : Str
  params : Arguments
  body : List Stmt
  scope : Scope
  /-- with `super()`: the file, the class -/
  clo : Option (Str × Str)
  kwd : List (Str × He.Dv) := []
def DefA.kws (K : PySem.W.Frag) (d : DefA) : List (Str × V) := d.kwd.map fun q => (q.1, q.2.v K)
def fnA (K : PySem.W.Frag) (a : Addr) : He.FnW := match K.lookup a with
  | some ⟨_, _, .func fd, _⟩ => some (fd.name, fd.qualname, fd.params, fd.body, fd.scope, fd.globals, fd.closure.map (fun q => (q.1, (0 : Addr))), fd.builtins)
  | _ => none
def DefA.val (d : DefA) : He.FnW := some (d.name, d.qual, d.params, .stmts d.body, d.scope, mainGlobals, (if d.clo.isSome then [(("__class__" : Str), (0 : Addr))] else []), builtinsNs)
/-- its cell, its code -/
def cloB (K : PySem.W.Frag) (fd : FuncData) (q : Str × Str) : Bool :=
  (match fd.closure with
  | [(_, cc)] => (match K.lookup cc with
    | some ⟨_, _, .cell (some (.ref D)), _⟩ => decide (D = He.ga K q.2)
    | _ => false)
  | _ => false) && (match fd.code with
  | .ref cda => (match K.lookup cda with
    | some ⟨_, _, .fields vs, _⟩ => (match (vs[2]? : Option Value) with
      | some (.str x _) => decide (x = q.1)
      | _ => false)
    | _ => false)
  | _ => false)
def DefA.ok (K : PySem.W.Frag) (d : DefA) : Bool := PySem.W.keepIn K (.ref (d.at_ K)) && (match K.lookup (d.at_ K) with
  | some ⟨_, _, .func fd, _⟩ => PySem.W.codeIn K fd.code d.qual && (He.dflB K fd.defaults [] && (He.kwdB K fd.kwdefaults (d.kws K) && (match d.clo with
    | some q => cloB K fd q
    | none => true)))
  | _ => false)
theorem DefA.funD {K : PySem.W.Frag} {d : DefA} (hc : d.clo = none) (e : fnA K (d.at_ K) = d.val) (c : d.ok K = true) : ∃ fd, FunD K d.name d.qual d.params d.body d.scope [] (d.kws K) (d.at_ K) fd := by
  obtain ⟨kp, c2⟩ := He.ba c
  unfold fnA at e
  unfold DefA.val at e
  rw [hc] at e c2
  cases q : K.lookup (d.at_ K) with
  | none => rw [q] at c2; cases c2
  | some o =>
    obtain ⟨oc, od, dt, osl⟩ := o
    rw [q] at c2 e
    cases dt with
    | func fd =>
      obtain ⟨a1, a2, a3, a4, a5, a6, a7, dv, kv, dc, pm, an, cdv, ct, bn⟩ := fd
      have e2 : (some (a1, a2, a3, a4, a5, a6, a7.map (fun q => (q.1, (0 : Addr))), bn) : He.FnW) = some (d.name, d.qual, d.params, .stmts d.body, d.scope, mainGlobals, [], builtinsNs) := e
      simp only [Option.some.injEq, Prod.mk.injEq, List.map_eq_nil_iff] at e2
      obtain ⟨g1, g2, g3, g4, g5, g6, g7, g8⟩ := e2
      subst g1 g2 g3 g4 g5 g6 g7 g8
      have c3 : (PySem.W.codeIn K cdv d.qual && (He.dflB K dv [] && (He.kwdB K kv (d.kws K) && true))) = true := c2
      obtain ⟨k1, k2⟩ := He.ba c3
      obtain ⟨k3, k4⟩ := He.ba k2
      obtain ⟨k4, _⟩ := He.ba k4
      exact ⟨_, ⟨oc, od, dv, kv, dc, pm, an, cdv, ct, osl, rfl, q, k1, He.dflB_ok k3, He.kwdB_ok k4⟩, kp⟩
    | _ => cases c2
structure SaysW (fa : List He.Fa) (fn : List He.DefD) (fp : List DefA) (ex : PySem.W.Frag → Bool) (K : PySem.W.Frag) : Prop where
  d : He.SaysD fa fn K
  x : ex K = true
  ok : (fp.all fun d => d.ok K) = true
  e : (fp.map fun d => fnA K (d.at_ K)) = fp.map DefA.val
theorem SaysW.def_ {fa : List He.Fa} {fn : List He.DefD} {fp : List DefA} {ex : PySem.W.Frag → Bool} {K : PySem.W.Frag} (c : SaysW fa fn fp ex K) (i : Nat) {d : DefA} (h : fp[i]? = some d := by rfl) (hc : d.clo = none := by rfl) : ∃ fd, FunD K d.name d.qual d.params d.body d.scope [] (d.kws K) (d.at_ K) fd := by
  have e2 : (fp.map fun d => fnA K (d.at_ K))[i]? = (fp.map DefA.val)[i]? := by rw [c.e]
  rw [List.getElem?_map, List.getElem?_map, h] at e2
  exact DefA.funD hc (Option.some.inj e2) (List.all_eq_true.mp c.ok d (List.mem_of_getElem? h))
end DL
end
section
namespace DL
open PySem PySem.Spec PyProof.Rows L2
end DL
end
section
namespace DL
open PySem PySem.Spec PyProof.Rows L2
end DL
end
section
namespace DL
open PySem
end DL
end
section
namespace PySem
end PySem
end
section
namespace DL
open PySem PySem.Spec PyProof.Rows L2
end DL
end
section
namespace PySem
end PySem
namespace DL
open PySem PySem.Spec PyProof.Rows L2
section
variable {X : Cx} {p : Par} {k : Nat} {cb vb : Bool} {wr : Bool} {l : List Str} {sb : Str → Str → Bool}
theorem SitB.mono {j : Nat} (S : SitB cb vb X p k) (h : j ≤ k) : SitB cb vb X p j := ⟨S.calm_, S.gd, S.rm.mono h, S.nd, S.ok, S.po, S.tk, S.nf_, S.sm⟩
end
end DL
end
section
namespace DL
open PySem PySem.Spec PyProof.Rows L2
end DL
end
section
namespace DL
open PySem PySem.Spec PyProof.Rows L2
end DL
end
section
namespace DL
open PySem PySem.Spec PyProof.Rows L2
section
variable {X : Cx} {p : Par} {k : Nat} {cb vb : Bool} {wr : Bool} {l : List Str} {sb : Str → Str → Bool}
/-- methods that are found as plain functions -/
structure MetNF (cb : Bool) (X : Cx) (k : Nat) (n m : Str) (f : Fn) : Prop where
  ex : ∃ (j : Nat) (g : Addr) (fd : FuncData) (ps : List Str), j ≤ k ∧ FnG cb X.prog X.w X.K X.mg X.base j g fd ps (spC X.K X.mg f) ∧ Meth X.K (He.ga X.K n) m g ∧ Binds X.K fd ps [] ∧ PySem.W.fnIn X.K g = true
inductive MetTF (cb : Bool) (X : Cx) (k : Nat) (m : Str) : Tb → Prop
  | nil : MetTF cb X k m []
  | cons {n : Str} {f : Fn} {tb : Tb} (h : MetNF cb X k n m f) (t : MetTF cb X k m tb) : MetTF cb X k m ((n, f) :: tb)
theorem MetTF.at_ {m : Str} {n : Str} {f : Fn} : ∀ {tb : Tb}, MetTF cb X k m tb → tb.lookup n = some f → MetNF cb X k n m f
  | _, .nil, h => by cases h
  | _, .cons (n := n') (f := f') h t, e => by
    rw [List.lookup_cons] at e
    by_cases hn : (n == n') = true
    · rw [hn] at e
      cases e
      rw [beq_iff_eq] at hn
      subst hn
      exact h
    · rw [Bool.not_eq_true] at hn
      rw [hn] at e
      exact t.at_ e
end
end DL
end
section
namespace DL
open PySem PySem.Spec PyProof.Rows L2
end DL
end
section
namespace DL
open PySem PySem.Spec PyProof.Rows L2
end DL
end
section
namespace DL
open PySem PySem.Spec PyProof.Rows L2
end DL
end
section
namespace DL
open PySem
end DL
end
section
namespace L2
open PySem PySem.Spec PyProof.Rows GenW
section
variable {X : Cx}
theorem GI.less {S : Addr} {ip : List (Addr × Obj)} {fp : List Addr} {h : Heap} {ys : List V} {σ : St} {H : Hp} {s : Shared} (g : GI X S (ip ++ pinsAt fp h) ys σ H s) : GI X S ip ys σ H s := by
  obtain ⟨acc, c, r, I⟩ := g
  refine ⟨acc, c, r, I.pins_of fun p hp => I.pin p (List.mem_append_right _ ?_)⟩
  rcases List.mem_cons.mp hp with hp | hp
  · rw [hp]; exact List.mem_cons_self
  · exact List.mem_cons_of_mem _ (List.mem_append_left _ hp)
end
end L2
end
section
namespace DL
open PySem PySem.Spec PyProof.Rows L2
/-- pairs of numbers and the rows, as new tuples -/
structure Handed (H : Hp) (rows outs : List V) (i : Nat) : Prop where
  len : outs.length = i
  at_ : ∀ (j : Nat) (x : V), j < i → rows[j]? = some x → ∃ q, outs[j]? = some (.ref q) ∧ H q = some (.tup [.int (j : Int), x])
def ExtH (H H' : Hp) : Prop := ∀ b o, H b = some o → H' b = some o
theorem ExtH.new {H : Hp} {q : Addr} {o : HO} (h : H q = none) : ExtH H (upd H q o) := fun b u e => by
  rw [upd_ne (fun z => by rw [z, h] at e; cases e)]
  exact e
theorem ExtH.trans {H H1 H2 : Hp} (a : ExtH H H1) (b : ExtH H1 H2) : ExtH H H2 := fun c o e => b c o (a c o e)
theorem Handed.ext {H H' : Hp} {rows outs : List V} {i : Nat} (h : Handed H rows outs i) (e : ExtH H H') : Handed H' rows outs i :=
  ⟨h.len, fun j x hj hx => by obtain ⟨q, h1, h2⟩ := h.at_ j x hj hx; exact ⟨q, h1, e _ _ h2⟩⟩
theorem Handed.push {H : Hp} {rows outs : List V} {i : Nat} {q : Addr} {x : V} (h : Handed H rows outs i) (hx : rows[i]? = some x) (hq : H q = none) : Handed (upd H q (.tup [.int (i : Int), x])) rows (outs ++ [.ref q]) (i + 1) := by
  have h2 := h.ext (ExtH.new (o := .tup [.int (i : Int), x]) hq)
  refine ⟨by simp [h.len], fun j y hj hy => ?_⟩
  by_cases e : j = i
  · subst e
    rw [hx] at hy
    cases hy
    exact ⟨q, by rw [List.getElem?_append_right (by rw [h.len]; exact Nat.le_refl _), h.len]; simp, upd_same⟩
  · obtain ⟨p, h3, h4⟩ := h2.at_ j y (by omega) hy
    exact ⟨p, by rw [List.getElem?_append_left (by rw [h.len]; omega)]; exact h3, h4⟩
/-- what the method promises -/
def spWalk (K : PySem.W.Frag) (f : Str) : SpG := fun vs H cont _ => ∃ (a C dx t : Addr) (fs : List (Str × V)) (rows : List V), vs = [.ref a] ∧ H a = some (.ins C dx fs) ∧ Cls K C ∧ NoAttr K C f ∧ fs.lookup f = some (.ref t) ∧ SqT K H t rows ∧ rows.length ≤ 1000 ∧
  ∀ outs H', ExtH H H' → Handed H' rows outs rows.length → cont outs H'
end DL
end
section
namespace DL
open PySem PySem.Spec PyProof.Rows L2
section
variable {X : Cx} {p : Par} {k : Nat} {cb vb : Bool}
/-- the method, as each of the classes finds it -/
structure GenW (X : Cx) (k : Nat) (cs : List Str) (m f : Str) : Prop where
  at_ : ∀ n, cs.contains n = true → ∃ (g : Addr) (fd : FuncData), Meth X.K (He.ga X.K n) m g ∧ GFn X.prog X.w X.K X.mg X.base k g fd ["self"] (spWalk X.K f) ∧ Binds X.K fd ["self"] []
theorem GenW.of {X : Cx} {k : Nat} {cs : List Str} {m f : Str} (h : ∀ n ∈ cs, ∃ (g : Addr) (fd : FuncData), Meth X.K (He.ga X.K n) m g ∧ GFn X.prog X.w X.K X.mg X.base k g fd ["self"] (spWalk X.K f) ∧ Binds X.K fd ["self"] []) : GenW X k cs m f := ⟨fun n hn => h n (List.contains_iff_mem.mp hn)⟩
end
end DL
end
section
namespace EnlR
open PySem PySem.Spec PyProof.Rows
/-- the first i pairs stand in acc -/
def Outs (h : Heap) (N S e it : Addr) (items acc : Array Value) (i : Nat) : Prop :=
  acc.size = i ∧ ∀ j, j < i → ∃ T t u, acc[j]? = some (.ref T) ∧ N ≤ T ∧ T ≠ S ∧ T ≠ e ∧ T ≠ it ∧ items[j]? = some u ∧ h.get? T = some { cls := .type "tuple", data := .seq #[.int (j : Nat) t, u] }
theorem Outs.keep {h h' : Heap} {N S e it : Addr} {items acc : Array Value} {i : Nat} (o : Outs h N S e it items acc i) (hk : ∀ b ob, b ≠ S → b ≠ e → b ≠ it → h.get? b = some ob → h'.get? b = some ob) : Outs h' N S e it items acc i :=
  ⟨o.1, fun j hj => let ⟨T, t, u, a1, a2, a3, a4, a5, a6, a7⟩ := o.2 j hj; ⟨T, t, u, a1, a2, a3, a4, a5, a6, hk T _ a3 a4 a5 a7⟩⟩
theorem Outs.push {h : Heap} {N S e it : Addr} {items acc : Array Value} {i : Nat} (o : Outs h N S e it items acc i) {T : Addr} {t : Tok} {u : Value} (hN : N ≤ T) (h1 : T ≠ S) (h2 : T ≠ e) (h3 : T ≠ it) (hu : items[i]? = some u)
    (hT : h.get? T = some { cls := .type "tuple", data := .seq #[.int (i : Nat) t, u] }) : Outs h N S e it items (acc.push (.ref T)) (i + 1) := by
  refine ⟨by rw [Array.size_push, o.1], fun j hj => ?_⟩
  by_cases q : j = i
  · subst q
    exact ⟨T, t, u, by rw [← o.1]; exact Array.getElem?_push_size, hN, h1, h2, h3, hu, hT⟩
  · obtain ⟨T', t', u', a1, a⟩ := o.2 j (by omega)
    refine ⟨T', t', u', ?_, a⟩
    rw [Array.getElem?_push_lt (by rw [o.1]; omega)]
    rw [Array.getElem?_eq_getElem (by rw [o.1]; omega)] at a1
    exact a1
end EnlR
namespace L2
open PySem PySem.Spec PyProof.Rows EnlR
end L2
namespace DL
open PySem PySem.Spec PyProof.Rows L2
end DL
end
section
namespace DL
open PySem PySem.Spec PyProof.Rows L2
end DL
end
section
namespace DL
open PySem
end DL
end
section
namespace L2
open PySem PySem.Spec PyProof.Rows
def kvs (tb : List (Str × Int)) : List (Key × V) := tb.map fun q => ((.inr q.1 : Key), V.int q.2)
end L2
namespace DL
open PySem PySem.Spec PyProof.Rows L2
end DL
end
section
namespace DL
open PySem
end DL
end
section
namespace DL
open PySem PySem.Spec PyProof.Rows L2
end DL
end
section
namespace DL
open PySem PySem.Spec PyProof.Rows L2
end DL
end
section
namespace DL
open PySem
end DL
end
section
namespace DL
open PySem PySem.Spec PyProof.Rows L2
end DL
end
section
namespace DL
open PySem PySem.Spec PyProof.Rows L2
end DL
end
section
namespace DL
open PySem PySem.Spec PyProof.Rows L2
end DL
end
section
namespace DL
open PySem
end DL
end
section
namespace DL
open PySem
end DL
end
section
namespace DL
open PySem PySem.Spec PyProof.Rows L2
end DL
end
section
namespace DL
open PySem PySem.Spec PyProof.Rows L2
end DL
end
section
namespace DL
open PySem PySem.Spec PyProof.Rows L2
end DL
end
section
namespace DL
open PySem PySem.Spec PyProof.Rows L2
structure AllTL (R : Str → (Phi → Fn) → Prop) (φ : Phi) (tb : Tb) : Prop where
  at_ : ∀ n f, tb.lookup n = some f → ∃ g, f = g φ ∧ R n g
theorem AllTL.nil {R : Str → (Phi → Fn) → Prop} {φ : Phi} : AllTL R φ [] := ⟨fun n f h => by cases h⟩
theorem AllTL.cons {R : Str → (Phi → Fn) → Prop} {φ : Phi} {n : Str} {f : Phi → Fn} {tb : Tb} (h : R n f) (t : AllTL R φ tb) : AllTL R φ ((n, f φ) :: tb) := ⟨fun m g e => by
  rw [List.lookup_cons] at e
  by_cases hn : (m == n) = true
  · rw [hn] at e
    cases e
    rw [beq_iff_eq] at hn
    subst hn
    exact ⟨f, rfl, h⟩
  · rw [Bool.not_eq_true] at hn
    rw [hn] at e
    exact t.at_ _ _ e⟩
end DL
end
section
namespace DL
open PySem PySem.Spec PyProof.Rows L2
/-- one parameter x of its own, else captured names and globals -/
structure LamS1 (sc scope : Scope) (x : Str) : Prop where
  kind : scope.kind = .function
  co : scope.isCoroutine = false
  gen : scope.isGenerator = false
  own : ∀ y ∈ scope.names, (y.2 = .local → y.1 = x) ∧ y.2 ≠ .cell
  par : scope.names.lookup x = some .local
  free : ∀ y ∈ scope.names, y.2 = .free → sc.names.lookup y.1 = some .cell ∨ sc.names.lookup y.1 = some .free
theorem LamS1.has {X : Cx} {scope : Scope} {x : Str} (L : LamS1 X.env.scope scope x) (ok : X.Ok) : ∀ y ∈ scope.names, y.2 = .free → ∃ c, X.env.cells.lookup y.1 = some c := fun y hy e => by
  rcases L.free y hy e with k | k
  · exact ok.has _ (.inl k)
  · exact ok.has _ (.inr k)
end DL
end
section
namespace DL
open PySem PySem.Spec PyProof.Rows L2
abbrev TbL := List (Str × (Phi → Fn))
structure AllG (R : Str → (Phi → Fn) → Prop) (tb : TbL) : Prop where
  at_ : ∀ n g, tb.lookup n = some g → R n g
theorem AllG.nil {R : Str → (Phi → Fn) → Prop} : AllG R [] := ⟨fun n f h => by cases h⟩
theorem AllG.cons {R : Str → (Phi → Fn) → Prop} {n : Str} {f : Phi → Fn} {tb : TbL} (h : R n f) (t : AllG R tb) : AllG R ((n, f) :: tb) := ⟨fun m g e => by
  rw [List.lookup_cons] at e
  by_cases hn : (m == n) = true
  · rw [hn] at e
    cases e
    rw [beq_iff_eq] at hn
    subst hn
    exact h
  · rw [Bool.not_eq_true] at hn
    rw [hn] at e
    exact t.at_ _ _ e⟩
end DL
end
section
namespace DL
open PySem PySem.Spec PyProof.Rows L2
def rvL (f : D → W D) : List D → W (List D)
  | [] => ret []
  | d :: ds => bnd (f d) fun x => bnd (rvL f ds) fun xs => ret (x :: xs)
def rvD (f : D → W D) : D → W D
  | .list ds => bnd (rvL f ds) fun xs => ret (.list xs)
  | d => ret d
def rvF (f : D → W D) (d : D) : W D := match rOf d with
  | some _ => bnd (getL d) fun q => bnd (rvL f q.2) fun xs => ret (.list xs)
  | none => rvD f d
/-- what stands there, to the depth n -/
def rv : Nat → D → W D
  | 0 => fun _ => stuck
  | n + 1 => rvF (rv n)
end DL
end
section
namespace DL
open PySem
end DL
end
section
namespace DL
open PySem PySem.Spec PyProof.Rows _root_.GenW
open Sem (wp)
/-- a sleeping generator that cannot be woken -/
def frz : GenState → GenState
  | .suspended _ l c p fs cl => .suspended (fun _ => .unsupported "") l c p fs cl
  | x => x
def Susp : GenState → Prop
  | .suspended .. => True
  | _ => False
/-- it sleeps, or it runs: code that does not wake it leaves it so -/
def Stay : GenState → Prop
  | .suspended .. => True
  | .running => True
  | _ => False
/-- no generator's frame among its frames -/
def NG : GenState → Prop
  | .suspended _ _ _ _ fs _ => splitAtGen fs = none
  | _ => True
theorem frz_bare (x : GenState) : (frz x).bare = x.bare := by cases x <;> rfl
/-- z is s with the generators of F frozen -/
structure Fz (F : Nat → Option GenState) (s z : Shared) : Prop where
  heap : z.heap = s.heap
  drawn : z.drawn = s.drawn
  toks : z.toks = s.toks
  os : z.os = s.os
  size : z.gens.size = s.gens.size
  fr : ∀ g x, F g = some x → s.gens[g]? = some x ∧ z.gens[g]? = some (frz x)
  un : ∀ g, F g = none → z.gens[g]? = s.gens[g]?
  ng : ∀ g x, F g = none → z.gens[g]? = some x → NG x
section
variable {F : Nat → Option GenState} {s z : Shared}
theorem Fz.tok (h : Fz F s z) : Fz F { s with toks := s.toks + 1 } { z with toks := z.toks + 1 } :=
  ⟨h.heap, h.drawn, by show z.toks + 1 = s.toks + 1; rw [h.toks], h.os, h.size, h.fr, h.un, h.ng⟩
theorem Fz.push (h : Fz F s z) (c : GenState) (hc : NG c) : Fz F { s with gens := s.gens.push c } { z with gens := z.gens.push c } where
  heap := h.heap
  drawn := h.drawn
  toks := h.toks
  os := h.os
  size := by simp [h.size]
  fr := fun g x e => by
    obtain ⟨h1, h2⟩ := h.fr g x e
    have l1 := (Array.getElem?_eq_some_iff.mp h1).1
    have l2 := (Array.getElem?_eq_some_iff.mp h2).1
    refine ⟨?_, ?_⟩
    · show (s.gens.push c)[g]? = _
      rw [Array.getElem?_push, if_neg (by omega)]; exact h1
    · show (z.gens.push c)[g]? = _
      rw [Array.getElem?_push, if_neg (by omega)]; exact h2
  un := fun g e => by
    show (z.gens.push c)[g]? = (s.gens.push c)[g]?
    rw [Array.getElem?_push, Array.getElem?_push, h.size, h.un g e]
  ng := fun g x e q => by
    have q : (z.gens.push c)[g]? = some x := q
    rw [Array.getElem?_push] at q
    split at q
    · cases q; exact hc
    · exact h.ng g x e q
theorem Fz.set (h : Fz F s z) {g : Nat} (hg : F g = Option.none) (x : GenState) (hx : NG x) : Fz F (s.setGen g x) (z.setGen g x) where
  heap := h.heap
  drawn := h.drawn
  toks := h.toks
  os := h.os
  size := by rw [setGen_size, setGen_size, h.size]
  fr := fun i y e => by
    have ne : g ≠ i := fun q => by rw [q, e] at hg; cases hg
    obtain ⟨h1, h2⟩ := h.fr i y e
    refine ⟨?_, ?_⟩
    · show (s.gens.setIfInBounds g x)[i]? = _
      rw [Array.getElem?_setIfInBounds_ne ne]; exact h1
    · show (z.gens.setIfInBounds g x)[i]? = _
      rw [Array.getElem?_setIfInBounds_ne ne]; exact h2
  un := fun i e => by
    show (z.gens.setIfInBounds g x)[i]? = (s.gens.setIfInBounds g x)[i]?
    rw [Array.getElem?_setIfInBounds, Array.getElem?_setIfInBounds, h.size, h.un i e]
  ng := fun i y e q => by
    have q : (z.gens.setIfInBounds g x)[i]? = some y := q
    rw [Array.getElem?_setIfInBounds] at q
    split at q
    · split at q
      · cases q; exact hx
      · cases q
    · exact h.ng i y e q
end
theorem Fz.no {F : Nat → Option GenState} {s z : Shared} (f : Fz F s z) (sus : ∀ g x, F g = some x → Stay x) {g : Nat} {st : GenState} (hg : z.gens[g]? = some st) (h : ¬ Stay st) : F g = none := by
  cases q : F g with
  | none => rfl
  | some x =>
    have f2 := (f.fr g x q).2
    rw [hg] at f2
    have := sus g x q
    cases x <;> simp [frz, Stay] at f2 this
    all_goals
      subst f2
      exact (h trivial).elim
/-- all that sleeps or runs in s, but S -/
def asleepBut (S : Nat → Bool) (s : Shared) (g : Nat) : Option GenState := if S g = true then none else match s.gens[g]? with
  | some (.suspended k l c p fs cl) => some (.suspended k l c p fs cl)
  | some .running => some .running
  | _ => none
abbrev asleep (s : Shared) : Nat → Option GenState := asleepBut (fun _ => false) s
theorem asleep_of {S : Nat → Bool} {s : Shared} {g : Nat} {x : GenState} (h : s.gens[g]? = some x) (q : Stay x) (hS : ¬ S g = true) : asleepBut S s g = some x := by
  unfold asleepBut
  rw [if_neg hS, h]
  cases x <;> first | rfl | exact q.elim
theorem Fz.keptBut {S : Nat → Bool} {s s' z' : Shared} (f : Fz (asleepBut S s) s' z') {g : Nat} {x : GenState} (h : s.gens[g]? = some x) (q : Stay x) (hS : ¬ S g = true) : s'.gens[g]? = some x := (f.fr g x (asleep_of h q hS)).1
theorem Fz.kept {s s' z' : Shared} (f : Fz (asleep s) s' z') {g : Nat} {x : GenState} (h : s.gens[g]? = some x) (q : Stay x) : s'.gens[g]? = some x := f.keptBut h q (by simp)
theorem Fz.bare {F : Nat → Option GenState} {s z : Shared} (f : Fz F s z) (h : AllBare z.gens) : AllBare s.gens := fun y hy => by
  obtain ⟨i, hi, e⟩ := Array.mem_iff_getElem.mp hy
  have e1 : s.gens[i]? = some y := by rw [Array.getElem?_eq_getElem hi, e]
  cases q : F i with
  | none =>
    have e2 := f.un i q
    rw [e1] at e2
    exact h y (Array.mem_of_getElem? e2)
  | some x =>
    obtain ⟨f1, f2⟩ := f.fr i x q
    rw [e1] at f1
    cases f1
    rw [← frz_bare]
    exact h _ (Array.mem_of_getElem? f2)
end DL
end
section
namespace DL
open PySem PySem.Spec PyProof.Rows L2 _root_.GenW
open Sem (wp)
def Sg (M : Model) (A : Around) (post : End → Shared → Prop) (c : Code) (t : Sem PySem.Fin) (fs : List Frame) (s : Shared) : Prop :=
  ∀ (Γ : PySem.Ctx) p, Γ.code = c → Γ.Woken A → ∃ e s', Runs M Γ p t fs s e s' ∧ post e s'
section
variable {M : Model} {A : Around} {T : End → Shared → Prop} {c : Code} {fs : List Frame} {s : Shared} {env : PySem.Env}
  {K : Flow → Sem PySem.Fin} {H : Value → Sem PySem.Fin} {gd : Bool → Bool} {lv : List Value → List Value}
theorem Sg.mono {T' : End → Shared → Prop} {t : Sem PySem.Fin} (h : Sg M A T c t fs s) (k : ∀ e s', T e s' → T' e s') : Sg M A T' c t fs s := fun Γ p e w => by
  obtain ⟨a, b, r, q⟩ := h Γ p e w
  exact ⟨a, b, r, k _ _ q⟩
end
end DL
end
section
namespace DL
open PySem PySem.Spec PyProof.Rows L2 _root_.GenW
theorem Inv.gens {X : Cx} {pins : List (Addr × Obj)} {σ : L2.St} {H : Hp} {z s : Shared} (I : Inv X pins σ H z) (h : s.heap = z.heap) (o : s.os = z.os) (b : AllBare s.gens) : Inv X pins σ H s :=
  ⟨I.ok, by rw [o]; exact I.os, b, by rw [h]; exact I.base, by rw [h]; exact I.loc, by rw [h]; exact I.cell, I.free, I.freeC, by rw [h]; exact I.pin, by rw [h]; exact I.hok, I.len⟩
theorem CXd.gens {K : PySem.W.Frag} {P : Program} {w : World} {o : List PySem.Env} {H : Hp} {s z' s' : Shared} {E : XK} {u : Value} (x : CXd K P w o H s E u z') (h : s'.heap = z'.heap) (q : s'.os = z'.os) (b : AllBare s'.gens) : CXd K P w o H s E u s' := by
  obtain ⟨a, B, H', cls, d, yo, h1, h2, h3, h4, h5, h6, h7, h8, h9⟩ := x
  exact ⟨a, B, H', cls, d, yo, h1, by rw [h]; exact h2, h3, by rw [h]; exact h4, h5, q.trans h6, b, h8, h9⟩
theorem CXd.bare {K : PySem.W.Frag} {P : Program} {w : World} {o : List PySem.Env} {H : Hp} {s z' : Shared} {E : XK} {u : Value} (x : CXd K P w o H s E u z') : AllBare z'.gens := by
  obtain ⟨a, B, H', cls, d, yo, h1, h2, h3, h4, h5, h6, h7, h8, h9⟩ := x
  exact h7
/-- a generator's body's context: pn: the generator's own object -/
abbrev genX (P : Program) (w : World) (K : PySem.W.Frag) (mg : Str → Option Value) (base : Heap) (N : List Str) (qual : Str) (st : Stmt) (f : Addr) (cdv : Value) (L : Addr) (A : Around) (outer : List PySem.Env) (s : Shared) (H : Hp) (E : XK) (pn : List (Addr × Obj)) : Cx where
  prog := P
  w := w
  K := K
  mg := mg
  base := base
  A := A.deeper (envOfC qual (defScope st) L f cdv)
  N := N
  s_0 := s
  H_0 := H
  env := envOfC qual (defScope st) L f cdv
  outer := outer
  stack := envOfC qual (defScope st) L f cdv :: outer
  ex := []
  fn := fun _ => true
  calm := true
  pn := pn
  xe := fun e s' => wpAny (model P w) (A.deeper (envOfC qual (defScope st) L f cdv)) (leaving (envOfC qual (defScope st) L f cdv) e)
      (fun _ s'' => CXd K P w outer H s E e s'' ∧ ∀ p ∈ pn, s''.heap.get? p.1 = some p.2) (fun _ _ => False) s'
theorem XEq.leaveP {X : Cx} {W : WX} {E : XK} {s' : Shared} (hs : X.stack = X.env :: X.outer) (hf : X.env.frame = some X.env.locals) (hex : X.ex = []) {E₁ : Value → Shared → Prop} (hW : ∀ cls d σ H, W cls d σ H → E cls d H) {u : Value} (x : XEq X W u s') :
    wpAny (model X.prog X.w) X.A (leaving X.env u) (fun _ s'' => CXd X.K X.prog X.w X.outer X.H_0 X.s_0 E u s'' ∧ ∀ p ∈ X.pn, s''.heap.get? p.1 = some p.2) E₁ s' := by
  obtain ⟨a, B, sI, pins, σ, H, cls, d, yo, rfl, I, nb, up, sky, na, os, ag, gd, w⟩ := x
  have fr : X.A.frames = some (X.env :: X.outer) := I.ok.frames.trans (by rw [hs])
  have old : ∀ b o, X.s_0.heap.get? b = some o → b ∉ X.fs → b ∉ frs X.stack := fun b o e n m => by
    rcases List.mem_cons.mp (I.stkSub b m) with z | z
    · have l1 := Heap.lt_size e
      have l2 := I.ok.above
      rw [z] at l1
      exact absurd (Nat.lt_of_lt_of_le l1 l2) (Nat.lt_irrefl _)
    · exact n z
  have nex : ∀ b, b ∉ X.ex := fun b m => by
    rw [hex] at m
    exact (nomatch m)
  have pinB : ∀ p ∈ X.pn, B.get? p.1 = some p.2 := fun p hp => by
    obtain ⟨h1, _, h3, h4, _⟩ := I.pin p (List.mem_append_left _ hp)
    refine nb p.1 p.2 h1 fun hm => ?_
    rcases List.mem_cons.mp (I.stkSub p.1 hm) with z | z
    · exact h3 z
    · exact h4 z
  have done : ∀ h', PySem.HandSPX.FlyingZ B X.outer a (Zy X.K yo cls d) h' → s'.heap.UpToSlots h' → CXd X.K X.prog X.w X.outer X.H_0 X.s_0 E (.ref a) { s' with heap := h' } ∧ ∀ p ∈ X.pn, ({ s' with heap := h' } : Shared).heap.get? p.1 = some p.2 := fun h' fl up' => by
    refine ⟨⟨a, B, H, cls, d, yo, rfl, fl, I.inGround nb, ⟨fun b o e n m => nb b o (I.base.keep b o e n m (nex b)) (old b o e m), fun b o e m => ?_, fun b o e n => I.base.free b o e n (nex b), fun b o e m => ?_, I.base.tups, I.base.frzs, I.base.tbls⟩,
      na, os.trans I.os, ag, gd, hW _ _ _ _ w⟩, fun p hp => fl.1 p.1 p.2 (pinB p hp)⟩
    · obtain ⟨_, o0, e0, nf⟩ := I.ok.funs.mem m
      have eo : o = o0 := Option.some.inj (e.symm.trans e0)
      subst eo
      obtain ⟨s1, e1⟩ := I.base.slot b o e (I.ok.frf b m) m (nex b)
      obtain ⟨s2, e2⟩ := up b _ e1 nf
      obtain ⟨s3, e3⟩ := up' b _ e2 nf
      exact ⟨s3, e3⟩
    · obtain ⟨o', e1⟩ := I.base.there b o e (nex b)
      exact ⟨o', nb b o' e1 (old b o e m)⟩
  rw [hs] at sky
  rcases sky with ⟨k1, k2, k3, oe, vs, k4, k5, k6, k7⟩ | fl | hd
  · exact PXN.leaving_firstZ Zy.steady fr k3 hf k4 k1 k2 k6 k7 k5 done
  · exact PXN.leaves_onZ Zy.steady fr hf fl done
  · exact PySem.HandSPX.leaves_heldZ hf hd done
section
variable {P : Program} {w : World} {K : PySem.W.Frag} {mg : Str → Option Value} {base : Heap} {N ps : List Str} {qual : Str} {st : Stmt} {f : Addr} {cdv : Value} {L : Addr} {A : Around} {outer : List PySem.Env} {k : Nat}
theorem sit_gen {s : Shared} {H : Hp} {E : XK} {pn : List (Addr × Obj)} {p : Par} (nd : N.Nodup)
    (hr : RoomB true k (A.deeper (envOfC qual (defScope st) L f cdv))) (hg : (A.deeper (envOfC qual (defScope st) L f cdv)).guards = some []) (ok : p.Ok K mg) (hE : ∀ σ c d H, p.EK σ c d H → E c d H) (nf : p.fx = none) (sm : HasSm base) :
    SitB true true (genX P w K mg base N qual st f cdv L A outer s H E pn) p k where
  calm_ := fun _ => rfl
  gd := hg
  rm := hr
  nd := nd
  ok := ok
  po := passes_of (X := genX P w K mg base N qual st f cdv L A outer s H E pn) (K := fun e s'' => CXd K P w outer H s E e s'' ∧ ∀ p ∈ pn, s''.heap.get? p.1 = some p.2) (E₁ := fun _ _ => False) rfl
  tk := .of fun u s' x => XEq.leaveP (X := genX P w K mg base N qual st f cdv L A outer s H E pn) (E := E) rfl rfl rfl (fun cls d σ H' h => hE σ cls d H' h) x
  nf_ := fun _ => nf
  sm := sm
end
def cutH (L : Addr) (h : Heap) : Heap := { h with objs := h.objs.extract 0 L }
def cutS (L : Addr) (s : Shared) : Shared := { s with heap := cutH L s.heap }
theorem ex_get {α : Type} (xs : Array α) (L b : Nat) : (xs.extract 0 L)[b]? = if b < L then xs[b]? else none := by
  rw [Array.getElem?_extract]
  by_cases h1 : b < L
  · rw [if_pos h1]
    by_cases h2 : b < xs.size
    · rw [if_pos (by omega), Nat.zero_add]
    · rw [if_neg (by omega), Array.getElem?_eq_none (by omega)]
  · rw [if_neg h1, if_neg (by omega)]
theorem cutH_get {L b : Addr} {h : Heap} : (cutH L h).get? b = if b < L then h.get? b else none := by
  have e : (cutH L h).objs[b]? = if b < L then h.objs[b]? else none := ex_get h.objs L b
  unfold Heap.get?
  rw [e]
  by_cases hb : b < L
  · rw [if_pos hb, if_pos hb]
  · rw [if_neg hb, if_neg hb]
/-- what may change without the waker's knowing: the generator's own objects, cells that came after it -/
def Pv (L : Addr) (gpw : List Addr) (ws : Shared) (b : Addr) : Prop := b ∈ gpw ∨ (L ≤ b ∧ ∃ v, ws.heap.IsCell b v)
/-- no object that stood there at the wake, but the generator's own -/
def Nw (gpw : List Addr) (ws : Shared) (b : Addr) : Prop := b ∈ gpw ∨ ws.heap.get? b = none ∨ ∃ v, ws.heap.IsCell b v
/-- no generator that slept or ran at the wake, but the generator's own -/
def Ng (slw : List Nat) (ws : Shared) (g : Nat) : Prop := g ∈ slw ∨ ∀ x, ws.gens[g]? = some x → ¬ Stay x
/-- lo: what stood below the generator's place at the stretch's start -/
structure EndOk (P : Program) (w : World) (outer : List PySem.Env) (L : Addr) (gn : Nat) (gpw : List Addr) (slw : List Nat) (lo : Heap) (ws : Shared) (H0 H' : Hp) (s1 : Shared) : Prop where
  os : s1.os = ws.os
  bare : AllBare s1.gens
  hok : HOk P w H' s1.heap
  all : All H0 H'
  keepLo : ∀ b o, lo.get? b = some o → H0 b = none → b ∉ frs outer → s1.heap.get? b = some o
  slot : ∀ b o, lo.get? b = some o → H0 b = none → b ∈ frs outer → ∃ sl, s1.heap.get? b = some { o with slots := sl }
  freeLo : ∀ b o, lo.get? b = some o → H0 b = none → H' b = none
  keepHi : ∀ b o, L ≤ b → ws.heap.get? b = some o → H0 b = none → ¬ Pv L gpw ws b → s1.heap.get? b = some o
  freeHi : ∀ b o, L ≤ b → ws.heap.get? b = some o → H0 b = none → ¬ Pv L gpw ws b → H' b = none
  oth : ∀ g x, ws.gens[g]? = some x → Stay x → g ∉ slw → g ≠ gn → s1.gens[g]? = some x
/-- asleep: what stands still till it is woken -/
structure Slp (L a : Addr) (gn : Nat) (go : Obj) (gpw : List Addr) (slw : List Nat) (ws : Shared) (H' : Hp) (s1 : Shared) (gp : List (Addr × Obj)) (sl : List (Nat × GenState)) : Prop where
  at_ : ∀ p ∈ gp, s1.heap.get? p.1 = some p.2 ∧ H' p.1 = none ∧ L ≤ p.1 ∧ Nw gpw ws p.1 ∧ ∀ v, p.2.data ≠ .cell v
  gens : ∀ q ∈ sl, s1.gens[q.1]? = some q.2 ∧ Susp q.2 ∧ NG q.2 ∧ Ng slw ws q.1
  run : s1.gens[gn]? = some .running
  gen : (a, go) ∈ gp
structure WakeOk (P : Program) (w : World) (K : PySem.W.Frag) (mg : Str → Option Value) (base : Heap) (A : Around) (outer : List PySem.Env) (gn : Nat) (H' : Hp) (gp : List (Addr × Obj)) (sl : List (Nat × GenState)) (s3 : Shared) (H3 : Hp) : Prop where
  e0 : Env0 P w K mg base A outer s3 H3
  at_ : ∀ p ∈ gp, s3.heap.get? p.1 = some p.2 ∧ H3 p.1 = none
  gens : ∀ q ∈ sl, s3.gens[q.1]? = some q.2
  run : s3.gens[gn]? = some .running
  kept : Kept H' H3
section
variable (P : Program) (w : World) (K : PySem.W.Frag) (mg : Str → Option Value) (base : Heap) (A : Around) (outer : List PySem.Env) (L a : Addr) (gn : Nat) (go : Obj)
/-- what is wanted of a stretch's end: xs is still to come; ws: the state at the wake -/
def PostOf : List D → Heap → Shared → Hp → List Addr → List Nat → End → Shared → Prop
  | [] => fun lo ws H0 gpw slw e s1 => match e with
    | .ret r => (r = .ok (.ret .none) ∨ r = .ok .next) ∧ ∃ H', EndOk P w outer L gn gpw slw lo ws H0 H' s1
    | .susp .. => False
  | x :: xs => fun lo ws H0 gpw slw e s1 => match e with
    | .ret _ => False
    | .susp v gd _ k c _ fs => (gd || fs.any Frame.guarded) = false ∧ splitAtGen fs = none ∧ ∃ v' H' gp sl, RelV v' v ∧ flat x = true ∧ Rep K (fun _ => False) H' v' x ∧ EndOk P w outer L gn gpw slw lo ws H0 H' s1 ∧ Slp L a gn go gpw slw ws H' s1 gp sl ∧
      ∀ s3 H3, WakeOk P w K mg base A outer gn H' gp sl s3 H3 → Sg (model P w) A (PostOf xs (cutH L s3.heap) s3 H3 (gp.map (·.1)) (sl.map (·.1))) c (k (.send .none)) fs s3
end
/-- what is to come: data, or an error at once -/
abbrev Outc := List D ⊕ Exn
def xpOf : Outc → Exn → Sx → Prop
  | .inl _ => fun _ _ => False
  | .inr x => fun y _ => y = x
def sx0 : Sx := Sx.z 0
/-- a stretch: where it began -/
structure Sq where
  s0 : Shared
  H0 : Hp
  E : XK
  B : Addr → Prop
  XP : Exn → Sx → Prop
  ws : Shared
  gpw : List Addr
  slw : List Nat
def Sq.par (q : Sq) : Par := parF q.H0 q.B sx0 q.XP q.E
open Classical in
/-- what is pinned besides: others' objects that came after the generator -/
noncomputable def Sq.yp (L : Addr) (q : Sq) : List (Addr × Obj) := (List.range q.ws.heap.objs.size).filterMap fun b => match q.ws.heap.get? b with
  | some o => if L ≤ b ∧ q.H0 b = none ∧ b ∉ q.gpw ∧ ∀ v, o.data ≠ .cell v then some (b, o) else none
  | none => none
end DL
end
section
namespace DL
open PySem PySem.Spec PyProof.Rows L2 _root_.GenW
section
variable (P : Program) (w : World) (K : PySem.W.Frag) (mg : Str → Option Value) (base : Heap) (N : List Str) (qual : Str) (st : Stmt) (f : Addr) (cdv : Value) (k : Nat) (A : Around) (outer : List PySem.Env) (L a : Addr) (gn : Nat) (go : Obj)
/-- what is fixed for a generator's whole life -/
structure DynOk : Prop where
  hr : RoomB true k (A.deeper (envOfC qual (defScope st) L f cdv))
  hg : (A.deeper (envOfC qual (defScope st) L f cdv)).guards = some []
  fr : A.frames = some outer
  sm : HasSm base
  mod : Mod K mg base
  nd : N.Nodup
  kind : (defScope st).kind = .function
  names : ∀ y ∈ (defScope st).names, y.2 ≠ .free ∧ y.2 ≠ .cell
  cells : cellsFrom (L + 1) (defScope st).names [] = []
  fl : ∀ b ∈ frs outer, b < L
  La : L < a
  goc : ∀ v, go.data ≠ .cell v
  bsz : base.objs.size ≤ L
/-- what is fixed for a stretch -/
structure QOk (q : Sq) : Prop where
  sz : q.s0.heap.objs.size = L
  os : q.s0.os = q.ws.os
  gpw : ∀ b ∈ q.gpw, L ≤ b
  gL : L ∈ q.gpw
  ga : a ∈ q.gpw
  wa : a < q.ws.heap.objs.size
  frf : ∀ b ∈ frs outer, q.H0 b = none
  fun_ : ∀ b ∈ frs outer, ∃ o, q.ws.heap.get? b = some o ∧ ∀ vs, o.data ≠ .fields vs
  exc : ∀ x cl dd H', q.XP x sx0 → All q.H0 H' → ExRep K mg q.B H' x cl dd → q.E cl dd H'
/-- within a stretch -/
structure GAt (q : Sq) (ip : List (Addr × Obj)) (sl : List (Nat × GenState)) (σ : L2.St) (H : Hp) (s : Shared) (E : Env) : Prop where
  inv : Inv (genX P w K mg base N qual st f cdv L A outer q.s0 q.H0 q.E [(a, go)]) (ip ++ q.yp L) σ H s
  bd : ∃ B, St0 q.par sx0 B H ∧ EnvR K q.par sx0 B H σ E
  sl : ∀ x ∈ sl, s.gens[x.1]? = some x.2 ∧ Susp x.2 ∧ NG x.2 ∧ Ng q.slw q.ws x.1
  run : s.gens[gn]? = some .running
  oth : ∀ g x, q.ws.gens[g]? = some x → Stay x → g ∉ q.slw → g ≠ gn → s.gens[g]? = some x
  ipq : ∀ p ∈ ip, L ≤ p.1 ∧ Nw q.gpw q.ws p.1
end
section
variable {P : Program} {w : World} {K : PySem.W.Frag} {mg : Str → Option Value} {base : Heap} {N : List Str} {qual : Str} {st : Stmt} {f : Addr} {cdv : Value} {k : Nat} {A : Around} {outer : List PySem.Env} {L a : Addr} {gn : Nat} {go : Obj}
theorem GAt.all {q : Sq} {ip : List (Addr × Obj)} {sl : List (Nat × GenState)} {σ : L2.St} {H : Hp} {s : Shared} {E : Env} (h : GAt P w K mg base N qual st f cdv A outer L a gn go q ip sl σ H s E) : All q.H0 H := by
  obtain ⟨B, h1, _⟩ := h.bd
  exact all_of h1.ext.ext
end
end DL
end
section
namespace DL
open PySem PySem.Spec PyProof.Rows L2 _root_.GenW
section
variable (P : Program) (w : World) (K : PySem.W.Frag) (mg : Str → Option Value) (base : Heap) (N : List Str) (qual : Str) (st : Stmt) (f : Addr) (cdv : Value) (k : Nat) (A : Around) (outer : List PySem.Env) (L a : Addr) (gn : Nat) (go : Obj)
def postQ (q : Sq) : Outc → End → Shared → Prop
  | .inl xs => PostOf P w K mg base A outer L a gn go xs q.s0.heap q.ws q.H0 q.gpw q.slw
  | .inr _ => fun e s1 => ∃ ex, e = .ret (.error ex) ∧ CXd K P w outer q.H0 q.s0 q.E ex s1 ∧ s1.heap.get? a = some go
end
section
variable (P : Program) (w : World) (K : PySem.W.Frag) (mg : Str → Option Value) (base : Heap) (N : List Str) (qual : Str) (st : Stmt) (f : Addr) (cdv : Value) (k : Nat) (b : Bool)
/-- all that the words of a part of the body may lean on -/
def InGen (T : Cx → Par → Prop) : Prop := ∀ (cdv : Value) (L : Addr) (A : Around) (outer : List PySem.Env) (s : Shared) (H : Hp) (E : XK) (pn : List (Addr × Obj)) (p : Par), SitB true true (genX P w K mg base N qual st f cdv L A outer s H E pn) p k → (∀ n n' H H', p.SI n H → p.SI n' H' → p.SI n H') → (∀ i, p.pin i = none) → T (genX P w K mg base N qual st f cdv L A outer s H E pn) p
end
section
variable {P : Program} {w : World} {K : PySem.W.Frag} {mg : Str → Option Value} {base : Heap} {N : List Str} {qual : Str} {st : Stmt} {f : Addr} {cdv : Value} {k : Nat} {b : Bool} {A : Around} {outer : List PySem.Env} {L a : Addr} {gn : Nat} {go : Obj}
theorem par_ok {q : Sq} (Q : QOk K mg outer L a q) : q.par.Ok K mg := ⟨fun _ _ _ h _ _ => h, fun n n' x cl d B1 H1 H' σ st _ hx hs he hr => by
  have hc : n' = sx0 := hs
  subst hc
  exact Q.exc x cl d H' hx (all_of (st.ext.trans he).ext) (exrep_go (fun a z => bm_more he.up a (st.subc a z)) hr)⟩
theorem DynOk.sit (Dy : DynOk K mg base N qual st f cdv k A outer L a go) {q : Sq} (Q : QOk K mg outer L a q) : SitB true true (genX P w K mg base N qual st f cdv L A outer q.s0 q.H0 q.E [(a, go)]) q.par k :=
  sit_gen Dy.nd Dy.hr Dy.hg (par_ok Q) (fun _ _ _ _ h => h) rfl Dy.sm
theorem InGen.at {T : Cx → Par → Prop} (h : InGen P w K mg base N qual st f k T) (Dy : DynOk K mg base N qual st f cdv k A outer L a go) {q : Sq} (Q : QOk K mg outer L a q) : T (genX P w K mg base N qual st f cdv L A outer q.s0 q.H0 q.E [(a, go)]) q.par :=
  h cdv L A outer q.s0 q.H0 q.E [(a, go)] q.par (Dy.sit Q) (fun n n' H1 H2 (h1 : n = sx0) _ => h1) fun _ => rfl
end
end DL
end
section
namespace DL
open PySem PySem.Spec PyProof.Rows L2 _root_.GenW
theorem Kept.refl {H : Hp} : Kept H H := fun _ _ e _ => e
theorem Kept.trans {H H1 H2 : Hp} (a : Kept H H1) (b : Kept H1 H2) : Kept H H2 := fun x o e i => b x o (a x o e i) i
theorem All.kept {H H1 : Hp} (a : All H H1) : Kept H H1 := fun x o e _ => a x o e
end DL
end
section
namespace DL
open PySem PySem.Spec PyProof.Rows L2 _root_.GenW
/-- the stretch from the call on -/
def firstQ (s : Shared) (H : Hp) (EX : XK) (B : Addr → Prop) (out : Outc) (s2 : Shared) (n : Nat) : Sq :=
  ⟨s, H, (match out with | .inl _ => fun _ _ _ => False | .inr _ => EX), B, xpOf out, s2, List.range' s.heap.objs.size (n - s.heap.objs.size), []⟩
/-- what a call of a generator def gives -/
structure GMadeN (P : Program) (w : World) (K : PySem.W.Frag) (mg : Str → Option Value) (base : Heap) (k : Nat) (outer : List PySem.Env) (s : Shared) (H : Hp) (B : Addr → Prop) (out : Outc) (EX : XK) (u : Value) (s' : Shared) : Prop where
  ex : ∃ (a : Addr) (gn : Nat) (go : Obj) (c : Code) (nm qn : Value), u = .ref a ∧ s.heap.objs.size < a ∧ a < s'.heap.objs.size ∧ s'.heap.get? a = some go ∧ go.cls = .type "generator" ∧ go.data = .fields #[.int gn 0, nm, qn] ∧ go.slots = #[] ∧
    s'.gens[gn]? = some (.fresh c) ∧ s.gens.size ≤ gn ∧ s'.os = s.os ∧ AllBare s'.gens ∧ s'.heap.NoLimit ∧ (∀ b o, s.heap.get? b = some o → s'.heap.get? b = some o) ∧ (∀ (g : Nat) (x : GenState), s.gens[g]? = some x → s'.gens[g]? = some x) ∧
    ∀ (A : Around) (s2 : Shared), RoomB true k A → A.guards = some [] → A.frames = some outer → (∀ b o, s'.heap.get? b = some o → s2.heap.get? b = some o) → s2.os = s.os → AllBare s2.gens → s2.gens[gn]? = some .running →
      Sg (model P w) A (postQ P w K mg base A outer s.heap.objs.size a gn go (firstQ s H EX B out s2 s'.heap.objs.size) out) c ((model P w).den c) [] s2
abbrev GSp := List D → Outc → Prop
structure GFnN (P : Program) (w : World) (K : PySem.W.Frag) (mg : Str → Option Value) (base : Heap) (k : Nat) (f : Addr) (fd : FuncData) (ps : List Str) (sp : GSp) : Prop where
  len : ∀ ds out, sp ds out → ds.length = ps.length
  run : ∀ (A : Around) (outer : List PySem.Env) (s : Shared) (H : Hp) (args : Args) (us : List Value) (vs : List V) (ds : List D) (B : Addr → Prop) (out : Outc) (EX : XK), RoomB true k A → Env0 P w K mg base A outer s H → BindsTo s fd args (ps.zip us) → Vals vs us → (∀ a, B a → H a ≠ none) → Reps K B H vs ds → sp ds out →
    (∀ x cl dd H', out = .inr x → All H H' → ExRep K mg B H' x cl dd → EX cl dd H') →
    codeAny (model P w) A (.call (.ref f) args) (fun r s' => match r with | .ok (.ret u) => GMadeN P w K mg base k outer s H B out EX u s' | _ => False) s
theorem GFnN.mono {P : Program} {w : World} {K : PySem.W.Frag} {mg : Str → Option Value} {base : Heap} {j k : Nat} {f : Addr} {fd : FuncData} {ps : List Str} {sp : GSp} (F : GFnN P w K mg base j f fd ps sp) (h : j ≤ k) : GFnN P w K mg base k f fd ps sp := by
  refine ⟨F.len, fun A outer s H args us vs ds B out EX hr e0 hb rv trk rs hsp he => codeAny_mono (F.run A outer s H args us vs ds B out EX (hr.mono h) e0 hb rv trk rs hsp he) fun r s' q => ?_⟩
  match r, q with
  | .ok (.ret u), q =>
    obtain ⟨a, gn, go, c, nm, qn, h1, h2, h3, h4, h5, h6, h7, h8, h9, h10, h11, h12, h13, h15, h14⟩ := q.ex
    exact ⟨a, gn, go, c, nm, qn, h1, h2, h3, h4, h5, h6, h7, h8, h9, h10, h11, h12, h13, h15, fun A s2 hr => h14 A s2 (hr.mono h)⟩
end DL
end
section
namespace DL
open PySem PySem.Spec PyProof.Rows L2 _root_.GenW
theorem ok_has {P : Program} {w : World} {H : Hp} {h : Heap} {a : Addr} {o : HO} (x : ObjOk P w H h a o) : ∃ ob, h.get? a = some ob := by
  cases o with
  | lst xs => obtain ⟨_, _, _, _, e⟩ := x; exact ⟨_, e⟩
  | tup xs => obtain ⟨_, _, _, o, e, _⟩ := x; exact ⟨_, e⟩
  | dK kvs => obtain ⟨_, _, _, _, o, _, _, e, _⟩ := x; exact ⟨_, e⟩
  | dT kvs => obtain ⟨_, _, _, _, o, _, _, e, _⟩ := x; exact ⟨_, e⟩
  | set S n => obtain ⟨o, _, _, _, e, _⟩ := x; exact ⟨_, e⟩
  | ins C dx fs => obtain ⟨_, _, _, e, _⟩ := x; exact ⟨_, e⟩
  | own y => exact x
  | xd fs => obtain ⟨_, ⟨_, _, _, e, _⟩, _⟩ := x; exact ⟨_, e⟩
  | rng lo hi => obtain ⟨_, _, _, e⟩ := x; exact ⟨_, e⟩
  | frz ob u => obtain ⟨e, _⟩ := x; exact ⟨_, e⟩
  | tbl ps => exact ⟨_, (show h.get? a = some _ from x)⟩
  | met f y => exact ⟨_, (show h.get? a = some _ from x)⟩
  | ext φ => obtain ⟨_, e, _⟩ := x; exact e
section
variable {X : Cx} {pins : List (Addr × Obj)} {σ : L2.St} {H H' : Hp} {s : Shared}
theorem Inv.fsStk (I : Inv X pins σ H s) {b : Addr} (h : b ∈ X.fs) : b ∈ frs X.stack := by
  rcases I.ok.stk with e | ⟨e, hf⟩
  · rw [e]; exact h
  · rw [e]
    unfold frs
    rw [List.filterMap_cons, hf]
    exact List.mem_cons_of_mem _ h
/-- behind the first stretch: all that stood at the call -/
theorem EndOk.un {P : Program} {w : World} {outer : List PySem.Env} {L : Addr} {gn : Nat} {gpw : List Addr} {slw : List Nat} {s ws s1 : Shared} {H H' : Hp} (e : EndOk P w outer L gn gpw slw s.heap ws H H' s1) : Un (frs outer) [] H H' s.heap s1.heap where
  keep := fun b o h n hb _ => e.keepLo b o h n hb
  slot := fun b o h n hb _ => e.slot b o h n hb
  free := fun b o h n _ => e.freeLo b o h n
  there := fun b o h _ => by
    cases q : H b with
    | some u => exact ok_has (e.hok b u (e.all b u q))
    | none =>
      by_cases hb : b ∈ frs outer
      · obtain ⟨sl, h1⟩ := e.slot b o h q hb; exact ⟨_, h1⟩
      · exact ⟨o, e.keepLo b o h q hb⟩
  tups := fun b xs h => e.all b _ h
  frzs := fun b o u h => e.all b _ h
  tbls := fun b ps h => ⟨#[], by rw [e.all b _ h]; simp⟩
/-- behind a later stretch -/
theorem EndOk.inv (I : Inv X pins σ H s) {L : Addr} {gn : Nat} {gpw : List Addr} {slw : List Nat} {ws s1 : Shared} (hw : ws.heap = s.heap) (ho : ws.os = s.os) (e : EndOk X.prog X.w X.stack L gn gpw slw (cutH L s.heap) ws H H' s1) (y0 : X.s_0.heap.objs.size ≤ L) (y1 : X.env.locals < L) (y2 : ∀ x c, X.env.cells.lookup x = some c → c < L)
    (gl : ∀ b ∈ gpw, L ≤ b) (dis : ∀ b ∈ gpw, ∀ r ∈ X.pn ++ pins, r.1 ≠ b) : Inv X pins σ H' s1 := by
  classical
  let cs : List Addr := (List.range s.heap.objs.size).filter fun b => decide (L ≤ b ∧ ∃ v, s.heap.IsCell b v)
  have mcs : ∀ b, b ∈ cs ↔ L ≤ b ∧ ∃ v, s.heap.IsCell b v := fun b => by
    constructor
    · intro h
      exact of_decide_eq_true (List.mem_filter.mp h).2
    · intro h
      obtain ⟨v, o, ho, _⟩ := h.2
      exact List.mem_filter.mpr ⟨List.mem_range.mpr (Heap.lt_size ho), decide_eq_true h⟩
  have big : ∀ b ∈ gpw ++ cs, L ≤ b := fun b hb => (List.mem_append.mp hb).elim (gl b) fun z => ((mcs b).mp z).1
  have npv : ∀ b, b ∉ gpw ++ cs → ¬ Pv L gpw ws b := fun b hb z => by
    rw [List.mem_append, not_or] at hb
    rcases z with z | ⟨z1, v, z2⟩
    · exact hb.1 z
    · rw [Heap.IsCell, hw] at z2
      exact hb.2 ((mcs b).mpr ⟨z1, v, z2⟩)
  have lo : ∀ b o, b < L → s.heap.get? b = some o → (cutH L s.heap).get? b = some o := fun b o h q => by rw [cutH_get, if_pos h]; exact q
  have keep : ∀ b o, b ∉ frs X.stack → b ∉ gpw ++ cs → s.heap.get? b = some o → H b = none → s1.heap.get? b = some o := fun b o hf hc q n => by
    by_cases hL : b < L
    · exact e.keepLo b o (lo b o hL q) n hf
    · exact e.keepHi b o (Nat.le_of_not_lt hL) (by rw [hw]; exact q) n (npv b hc)
  have slot : ∀ b o, b ∈ frs X.stack → s.heap.get? b = some o → H b = none → ∃ sl, s1.heap.get? b = some { o with slots := sl } := fun b o hf q n => by
    refine e.slot b o (lo b o ?_ q) n hf
    rcases List.mem_cons.mp (I.stkSub b hf) with z | z
    · rw [z]; exact y1
    · obtain ⟨_, o0, e0, _⟩ := I.ok.funs.mem z
      exact Nat.lt_of_lt_of_le (Heap.lt_size e0) y0
  obtain ⟨hh, g, d, t, os1⟩ := s1
  have eo : os1 = s.os := e.os.trans ho
  subst eo
  refine I.step (g' := g) (t' := t) (d' := d) (ch := gpw ++ cs) (fun b hb => ⟨.inr (Nat.le_trans y0 (big b hb)), Nat.ne_of_gt (Nat.lt_of_lt_of_le y1 (big b hb)), fun x c q => Nat.ne_of_lt (Nat.lt_of_lt_of_le (y2 x c q) (big b hb)), fun r hr => ?_⟩)
    (fun b o h1 h2 h3 q n => keep b o (fun z => (List.mem_cons.mp (I.stkSub b z)).elim h1 h2) h3 q n) (fun b o h1 h2 h3 q n => slot b o (Inv.fsStk I h2) q n) (fun b o h1 q n => ?_) (fun b o h1 q => ?_) (fun b xs q => e.all b _ q) (fun b o u q => e.all b _ q) (fun b ps q => ⟨#[], by rw [e.all b _ q]; simp⟩) (fun m hm => ?_) e.hok e.bare
  · rcases List.mem_append.mp hb with z | z
    · exact dis b z r hr
    · intro er
      obtain ⟨g1, _, _, _, g5⟩ := I.pin r hr
      obtain ⟨_, v, o, ho, hd⟩ := (mcs b).mp z
      rw [er, ho] at g1
      cases g1
      exact g5 v hd
  · by_cases hL : b < L
    · exact e.freeLo b o (lo b o hL q) n
    · exact e.freeHi b o (Nat.le_of_not_lt hL) (by rw [hw]; exact q) n (npv b h1)
  · cases n : H b with
    | some u => exact ok_has (e.hok b u (e.all b u n))
    | none =>
      by_cases hf : b ∈ frs X.stack
      · obtain ⟨sl, z⟩ := slot b o hf q n; exact ⟨_, z⟩
      · exact ⟨o, keep b o hf h1 q n⟩
  · obtain ⟨o, es, ep, h1, h2, h3⟩ := hm
    by_cases hf : X.env.locals ∈ frs X.stack
    · obtain ⟨sl, z⟩ := slot _ o hf h1 I.free
      exact ⟨_, es, ep, z, h2, h3⟩
    · exact ⟨o, es, ep, keep _ o hf (fun z => absurd (big _ z) (Nat.not_le.mpr y1)) h1 I.free, h2, h3⟩
end
end DL
end
section
namespace DL
open PySem PySem.Spec PyProof.Rows L2 _root_.GenW
/-- the generators that are not this one's are as they were -/
def Oth (gn : Nat) (slw : List Nat) (s s' : Shared) : Prop := ∀ (g : Nat) (x : GenState), s.gens[g]? = some x → Stay x → g ∉ slw → g ≠ gn → s'.gens[g]? = some x
theorem Oth.trans {gn : Nat} {slw slw' : List Nat} {s s1 s2 : Shared} (a : Oth gn slw s s1) (b : Oth gn slw' s1 s2) (h : ∀ g x, s.gens[g]? = some x → Stay x → g ∈ slw' → g ∈ slw ∨ g = gn) : Oth gn slw s s2 := fun g x e st n1 n2 =>
  b g x (a g x e st n1 n2) st (fun z => (h g x e st z).elim n1 n2) n2
end DL
end
section
namespace DL
open PySem PySem.Spec PyProof.Rows L2 _root_.GenW
end DL
end
section
namespace DL
open PySem PySem.Spec PyProof.Rows L2 _root_.GenW
end DL
end
section
namespace DL
open PySem PySem.Spec PyProof.Rows L2 _root_.GenW
end DL
end
section
namespace DL
open PySem PySem.Spec PyProof.Rows L2 _root_.GenW
end DL
end
section
namespace DL
open PySem PySem.Spec PyProof.Rows L2 _root_.GenW
end DL
end
section
namespace DL
open PySem PySem.Spec PyProof.Rows L2
end DL
end
section
namespace DL
open PySem PySem.Spec PyProof.Rows L2
section
variable {X : Cx} {p : Par} {k : Nat} {cb vb : Bool}
/-- set(xs), a list or a tuple of ints -/
def rSetL (K : PySem.W.Frag) (w : World) : List V → Hp → VK → Prop := fun xs H Q => ∃ (l : Addr) (ns : List Int), xs = [.ref l] ∧ (SqL K H l (ns.map V.int) ∨ SqT K H l (ns.map V.int)) ∧ setOk ns ∧ ∀ q c, H q = none → c ≤ 60 → Q (.ref q) (upd H q (SetO w q (fun j => decide (j ∈ ns)) c))
end
end DL
end
section
namespace DL
open PySem PySem.Spec PyProof.Rows L2
end DL
end
section
namespace DL
open PySem
end DL
end
section
namespace DL
open PySem PySem.Spec PyProof.Rows L2 _root_.PySem.W
end DL
end
section
namespace DL
open PySem
end DL
end
section
namespace DL
open PySem PySem.Spec PyProof.Rows L2 _root_.GenW
end DL
end
section
namespace DL
open PySem PySem.Spec PyProof.Rows L2 _root_.GenW
end DL
end
section
namespace DL
open PySem PySem.Spec PyProof.Rows L2 _root_.GenW
/-- the field's items, at self -/
structure WalkH (K : PySem.W.Frag) (fld : Str) (H : Hp) (a : Addr) (ds : List D) : Prop where
  ex : ∃ (C dx t : Addr) (fs : List (Str × V)) (rows : List V), H a = some (.ins C dx fs) ∧ Cls K C ∧ NoAttr K C fld ∧ fs.lookup fld = some (.ref t) ∧ SqT K H t rows ∧ Reps K (fun _ => False) H rows ds
  fl : flatAll ds = true
structure GFnW (P : Program) (w : World) (K : PySem.W.Frag) (mg : Str → Option Value) (base : Heap) (k : Nat) (f : Addr) (fd : FuncData) (fld : Str) : Prop where
  run : ∀ (A : Around) (outer : List PySem.Env) (s : Shared) (H : Hp) (args : Args) (us : List Value) (a : Addr) (ds : List D), RoomB true k A → Env0 P w K mg base A outer s H → BindsTo s fd args ((["self"] : List Str).zip us) → Vals [.ref a] us → WalkH K fld H a ds →
    codeAny (model P w) A (.call (.ref f) args) (fun r s' => match r with | .ok (.ret u) => GMadeN P w K mg base k outer s H (fun _ => False) (.inl (pairs 0 ds)) (fun _ _ _ => False) u s' | _ => False) s
end DL
end
section
namespace DL
open PySem PySem.Spec PyProof.Rows L2 _root_.GenW
structure GenWN (X : Cx) (k : Nat) (cs : List Str) (m f : Str) : Prop where
  at_ : ∀ n, cs.contains n = true → ∃ (g : Addr) (fd : FuncData), Meth X.K (He.ga X.K n) m g ∧ GFnW X.prog X.w X.K X.mg X.base k g fd f ∧ Binds X.K fd ["self"] []
theorem GenWN.of {X : Cx} {k : Nat} {cs : List Str} {m f : Str} (h : ∀ n ∈ cs, ∃ (g : Addr) (fd : FuncData), Meth X.K (He.ga X.K n) m g ∧ GFnW X.prog X.w X.K X.mg X.base k g fd f ∧ Binds X.K fd ["self"] []) : GenWN X k cs m f := ⟨fun n hn => h n (List.contains_iff_mem.mp hn)⟩
end DL
end
section
namespace DL
open PySem PySem.Spec PyProof.Rows L2 _root_.GenW
end DL
end
section
namespace DL
open PySem PySem.Spec PyProof.Rows L2 _root_.GenW
end DL
end
section
namespace DL
open PySem PySem.Spec PyProof.Rows L2 _root_.GenW
end DL
end
section
namespace DL
open PySem PySem.Spec PyProof.Rows L2
end DL
end
section
namespace DL
open PySem PySem.Spec PyProof.Rows L2
end DL
end
section
namespace DL
open PySem
end DL
end
section
namespace DL
open PySem PySem.Spec PyProof.Rows L2
/-- tuple(a list), known as such -/
def tupN : D → W D
  | .list ds => ret (tD ds)
  | _ => stuck
def eTupN (m : XE) : XE := fun E => bnd (m E) tupN
/-- such a tuple as any tuple -/
def unN : D → W D
  | .dict [(.none, .bool false), (.none, .tuple ds)] => ret (.tuple ds)
  | _ => stuck
def eUn (m : XE) : XE := fun E => bnd (m E) unN
/-- t.index(an int) -/
def ixN : D → D → W D
  | .tuple ds, .int i => match ints? ds with
    | some ns => match ns.findIdx? (· == i) with
      | some j => ret (.int (j : Int))
      | none => stuck
    | none => stuck
  | _, _ => stuck
def eIxN (a b : XE) : XE := fun E => bnd (a E) fun x => bnd (unN x) fun t => bnd (b E) fun y => ixN t y
section
variable {X : Cx} {p : Par} {k : Nat} {cb vb : Bool}
theorem call_tupleN : CallR X (.type "tuple") (fun xs H Q => ∃ q ys, xs = [.ref q] ∧ SqL X.K H q ys ∧ ∀ l o, H l = none → o.cls = .type "tuple" → o.dict = none → Q (.ref l) (upd H l (.frz o (.tup ys)))) := by
  intro pins s σ H xs us Q I r h
  obtain ⟨q, ys, rfl, hq, kk⟩ := h
  obtain ⟨u, rfl, rx⟩ := vals1 r
  cases rx
  obtain ⟨its, r', pl, hz⟩ := I.list hq
  have hlen := r'.length
  refine call_tuple_list pl.isList (fun h' kp => ?_) (by simp only [List.size_toArray] <;> omega)
  have I1 : Inv X pins σ H { s with heap := h' } := I.kept (t' := s.toks) kp
  have I2 : Inv X pins σ (upd H h'.objs.size (.frz { cls := .type "tuple", data := .seq its.toArray } (.tup ys))) { s with heap := h'.push { cls := .type "tuple", data := .seq its.toArray } } :=
    I1.laid (t' := s.toks) (fun b o e => Heap.get?_push_of_some _ e) (Nat.le_refl _) (show ObjOk X.prog X.w _ _ _ (.frz _ (.tup ys)) from ⟨Heap.get?_push_size _ rfl, hz, its, r', IsTup.new _ _⟩)
  exact ⟨.ref h'.objs.size, _, I2, rfl, kk _ _ (I1.hok.fresh (Nat.le_refl _)) rfl rfl⟩
theorem mt_tup_indexI : MtR X "tuple.index" (fun x xs H Q => ∃ p, ∃ ys : List Int, ∃ z j, x = .ref p ∧ xs = [.int z] ∧ SqT X.K H p (ys.map V.int) ∧ ys[j]? = some z ∧ (∀ m, m < j → ys[m]? ≠ some z) ∧ Q (.int (j : Nat)) H) := by
  intro pins s σ H x xs v us Q I rx rs h
  obtain ⟨p, ys, z, j, rfl, rfl, hq, hy, hno, q⟩ := h
  cases rx
  obtain ⟨u, rfl, t, rfl⟩ := vals1 rs
  obtain ⟨its, r, pl, hz⟩ := I.tuple hq
  obtain ⟨⟨cls, dd, dt, sl⟩, ho, hc, n, hd⟩ := pl
  simp only at hc hd
  subst hc
  subst hd
  have hl : its.toArray.size = ys.length := by rw [List.size_toArray, ← r.length, List.length_map]
  have hj : j < its.toArray.size := by rw [hl]; exact (List.getElem?_eq_some_iff.mp hy).1
  have at' : ∀ (m : Nat) (hm : m < its.toArray.size), ∃ y t', ys[m]? = some y ∧ its.toArray[m] = Value.int y t' := fun m hm => by
    have hm' : m < ys.length := by rw [← hl]; exact hm
    obtain ⟨w, hw, t', hw'⟩ := r.get (i := m) (x := .int ys[m]) (by simp [hm'])
    refine ⟨ys[m], t', List.getElem?_eq_getElem hm', ?_⟩
    have e := (List.getElem?_eq_some_iff.mp hw).2
    rw [← hw', ← e]
    simp
  refine call_meets PySem.F.slot_tuple_index ⟨_, ho, rfl⟩ PySem.F.entry_tuple_index (PySem.F.args_tuple_index_2 _ _) (TI.tuple_indexAt p its.toArray n dd sl (.int z t) (eqU (.int z)) j hj ?_ ?_)
    ⟨ho, fun w hw => mem_eqAt (x := .int z) ⟨t, rfl⟩ rfl r (flat_intsV ys) w (by simpa using hw), ⟨.int (j : Nat), H, I.tok _, ⟨_, rfl⟩, q⟩⟩
  · obtain ⟨y, t', h1, h2⟩ := at' j hj
    rw [hy] at h1
    cases h1
    rw [h2]
    show eqV (.int z) (.int z) = true
    simp [eqV]
  · intro m hm hmj
    obtain ⟨y, t', h1, h2⟩ := at' m hm
    rw [h2]
    show eqV (.int y) (.int z) = false
    have ne : y ≠ z := fun e => hno m hmj (e ▸ h1)
    simp [eqV, ne]
theorem pd_tupN {a : Expr} {m : XE} {pn pos : Pos} (S : SitB cb vb X p k) (hm : X.mg "tuple" = none) (ha : PD X p a m) (hg : Gl X "tuple" := by rfl) (hs : starEach [a] X.env = (false, eval a X.env) :: starEach [] X.env := by rfl) :
    PD X p (.Call (.Name "tuple" pn) [a] [] pos) (eTupN m) := by
  obtain ⟨ta, a1, a2⟩ := ha.ex
  refine ⟨_, pe_callTy call_tupleN hg hm (by decide +kernel) (pa_cons a1 pa_nil hs) (by decide) (by decide) hs (by rfl), fun B H σ E c P Q s re mm kk => ?_⟩
  refine a2 B H σ E _ _ _ s re mm fun d c1 v H1 m1 e1 s1 r1 => ?_
  have st1 := s.go e1 s1
  cases r1 with
  | @lst q xs ds hq nb t =>
    refine ⟨q, xs, rfl, SqL.of hq, fun l o hl h1 h2 => ?_⟩
    have al : All H1 (upd H1 l (.frz o (.tup xs))) := All.new hl
    exact kk (tD ds) c1 _ _ m1 (e1.trans al.ev) (st1.all S.ok al) (.tn upd_same h1 h2 (t.mono al.ext))
  | _ => exact m1.elim
theorem pd_un {e : Expr} {m : XE} (he : PD X p e m) : PD X p e (eUn m) := by
  obtain ⟨te, a1, a2⟩ := he.ex
  refine ⟨te, a1, fun B H σ E c P Q st r mm kk => ?_⟩
  refine a2 B H σ E _ _ _ st r mm fun d c1 v H1 m1 e1 s1 r1 => ?_
  cases r1 with
  | tn h c d t => exact kk _ c1 _ H1 m1 e1 s1 (.tup (.inl (.inr ⟨_, h⟩)) t)
  | _ => exact m1.elim
def tBN (r : V → List V → Hp → VK → Prop) (to : TE) (t : TA) : TE := fun σ H Q => to σ H fun x H1 => (∃ a o u, x = .ref a ∧ H1 a = some (.frz o u) ∧ o.cls = .type "tuple" ∧ o.dict = none) ∧ t σ H1 fun xs H2 => r x xs H2 Q
theorem pe_bmN {o e : Expr} {es : List Expr} {to : TE} {t : TA} {name : Str} {apos cpos : Pos} {id : String} {r : V → List V → Hp → VK → Prop}
    (pa : PlainAttrs "tuple") (slot : PySem.Slot "tuple" name id) (hty : typeOf (.builtin id) = pure (.type "method_descriptor")) (hm : MtR X id r) (ho : PE X o to) (ha : PA X (e :: es) t)
    (hbase : attributeBase o name X.env (eval o X.env) = eval o X.env := by rfl)
    (hfew : ((backTo cpos (starEach (e :: es) X.env)).all (fun x => !x.1) && (backToKw cpos (keywordEach [] X.env)).all (fun x => x.1.isSome)
      && decide ((e :: es).length + ([] : List Keyword).length + (if ([] : List Keyword).isEmpty then 0 else 1) < 30)) = true := by rfl)
    (hline : (apos.endLine == cpos.line) = true := by rfl) (hs : starEach (e :: es) X.env = (false, eval e X.env) :: starEach es X.env := by rfl) (hplain : (backTo cpos (starEach es X.env)).any (·.1) = false := by rfl) :
    PE X (.Call (.Attribute o name apos) (e :: es) [] cpos) (tBN r to t) := by
  refine ⟨fun pins s σ H Q I h => ?_⟩
  refine wpAny_Call_method_late hbase hfew hline rfl (thn (ho.run pins s σ H _ I h) fun v s1 ⟨x, H1, I1, r1, ty, q1⟩ => ?_)
  obtain ⟨a, ob, u, rfl, hf, hc, hd⟩ := ty
  cases r1
  have hob : s1.heap.get? a = some ob := (I1.hok a _ hf).1
  refine ⟨"tuple", id, pa, slot, hty, ⟨ob, hob, hc⟩, fun b e => ?_, ?_⟩
  · cases e
    exact ⟨ob, hob, hd⟩
  have hA := ha.run cpos pins s1 σ H1 _ I1 q1
  rw [hs] at hA ⊢
  refine Calls.callWith_builtin (by show (false || (backTo cpos (starEach es X.env)).any (·.1)) = false; rw [hplain] <;> rfl) (Calls.evalArgs_plain ?_)
  exact thn hA fun us s2 ⟨vs, H2, I2, r2, q2⟩ => hm pins s2 σ H2 (.ref a) vs (.ref a) us Q I2 rfl r2 q2
theorem pd_ixN {a b : Expr} {ma mb : XE} {pa pc : Pos} (ha : PD X p a ma) (hb : PD X p b mb)
    (hbase : attributeBase a "index" X.env (eval a X.env) = eval a X.env := by rfl) (hfew : ((backTo pc (starEach [b] X.env)).all (fun x => !x.1) && (backToKw pc (keywordEach [] X.env)).all (fun x => x.1.isSome)
      && decide ([b].length + ([] : List Keyword).length + (if ([] : List Keyword).isEmpty then 0 else 1) < 30)) = true := by rfl)
    (hline : (pa.endLine == pc.line) = true := by rfl) (hs : starEach [b] X.env = (false, eval b X.env) :: starEach [] X.env := by rfl) (hplain : (backTo pc (starEach [] X.env)).any (·.1) = false := by rfl) :
    PD X p (.Call (.Attribute a "index" pa) [b] [] pc) (eIxN ma mb) := by
  obtain ⟨ta, a1, a2⟩ := ha.ex
  obtain ⟨tb, b1, b2⟩ := hb.ex
  refine ⟨_, pe_bmN PySem.F.plainAttrs_tuple PySem.F.slot_tuple_index PySem.F.type_tuple_index mt_tup_indexI a1 (pa_cons b1 pa_nil hs) hbase hfew hline hs hplain, fun B H σ E c P Q st r mm kk => ?_⟩
  refine a2 B H σ E _ _ _ st r mm fun d c1 v H1 m1 e1 s1 r1 => ?_
  have st1 := st.go e1 s1
  cases r1 with
  | @tn q o xs ds hq hc hd t =>
    refine ⟨⟨q, o, _, rfl, hq, hc, hd⟩, ?_⟩
    refine b2 B H1 σ E _ _ _ st1 (r.go st e1) m1 fun d2 c2 v2 H2 m2 e2 s2 r2 => ?_
    have hq2 : SqT X.K H2 q xs := (st1.up e2).ext.sqT (.inl (.inr ⟨_, hq⟩))
    cases r2 with
    | int i =>
      have m3 : ((match ints? ds with | some ns => (match ns.findIdx? (· == i) with | some j => ret (PyData.int (j : Int)) | none => stuck) | none => stuck : W D)) c2 P p.XP := m2
      cases hi : ints? ds with
      | none => rw [hi] at m3; exact m3.elim
      | some ns =>
        rw [hi] at m3
        have ex := t.ints hi
        subst ex
        cases hf : ns.findIdx? (· == i) with
        | none => simp only [hf] at m3; exact m3.elim
        | some j =>
          simp only [hf] at m3
          obtain ⟨f1, f2⟩ := first_at hf
          exact ⟨q, ns, i, j, rfl, rfl, hq2, f1, fun m hm hz => by simpa using f2 m hm _ hz, kk _ _ _ H2 m3 (e1.trans e2) s2 (.int _)⟩
    | _ => exact m2.elim
  | _ => exact m1.elim
end
end DL
end
section
namespace DL
open PySem
def w_starts_of_t_0 : Fn := fn 2 4 (sSeq (sOwn 2 (eLst (aCons (eCon (.int 0)) (aNil))))
    (sSeq (sAsg 3 (eCall w_next_start_0 (aCons (eVar 0) (aCons (eVar 1) (aCons (eCon (.int 0)) (aNil))))))
    (sSeq (sWhile (tBool (eCmp .lt (eVar 3) (eB1 .len (eVar 0)))) (sSeq (sApp 2 (eVar 3))
    (sAsg 3 (eCall w_next_start_0 (aCons (eVar 0) (aCons (eVar 1) (aCons (eVar 3) (aNil))))))))
    (sRel 2 (sRet (eTupN (eVar 2)))))))
def w_starts_at_t_0 : Fn := fn 2 2 (sSeq (sExpr (eCall w_check_fits_0 (aCons (eVar 0) (aCons (eVar 1) (aNil)))))
    (sRet (eCall w_starts_of_t_0 (aCons (eVar 0) (aCons (eVar 1) (aNil))))))
def w__law_right_7 : Fn := fn 3 11 (sSeq (sPar3 3 4 5 (eCall w_meeting_0 (aCons (eVar 0) (aCons (eVar 1) (aCons (eVar 2) (aNil))))) (eCall w_starts_at_t_0 (aCons (eVar 0) (aCons (eVar 2) (aNil)))) (eCall w_starts_at_t_0 (aCons (eVar 1) (aCons (eVar 2) (aNil)))))
    (sSeq (sIf (tBool (eCmp .isN (eVar 3) (eCon .none))) (sRet (eCmp .ne (eIdx (eCall w_lines_at_0 (aCons (eVar 0) (aCons (eVar 2) (aNil)))) (eNeg (eCon (.int 1)))) (eIdx (eCall w_lines_at_0 (aCons (eVar 1) (aCons (eVar 2) (aNil)))) (eNeg (eCon (.int 1)))))) (sSkip))
    (sSeq (sPut (.tp [6, 7]) (eVar 3))
    (sSeq (sIf (DL.tOr (tBool (eIn true (eVar 6) (eUn (eVar 4)))) (DL.tOr (tBool (eIn true (eVar 7) (eUn (eVar 5)))) (tBool (eCmp .ne (eBin .sub (eB1 .len (eVar 0)) (eVar 6)) (eBin .sub (eB1 .len (eVar 1)) (eVar 7)))))) (sRet (eCon (.bool false))) (sSkip))
    (sSeq (sPar 8 9 (eIxN (eVar 4) (eVar 6)) (eIxN (eVar 5) (eVar 7)))
    (sSeq (sIf (tBool (eCmp .ne (eCut (eCall w_lines_at_0 (aCons (eVar 0) (aCons (eVar 2) (aNil)))) (oSome (eVar 8)) (oNone)) (eCut (eCall w_lines_at_0 (aCons (eVar 1) (aCons (eVar 2) (aNil)))) (oSome (eVar 9)) (oNone)))) (sRet (eCon (.bool false))) (sSkip))
    (sSeq (sIf (DL.tAnd (tBool (eCmp .gt (eVar 8) (eCon (.int 0)))) (DL.tAnd (tBool (eCmp .gt (eVar 9) (eCon (.int 0)))) (tBool (eCmp .eq (eIdx (eCall w_lines_at_0 (aCons (eVar 0) (aCons (eVar 2) (aNil)))) (eBin .sub (eVar 8) (eCon (.int 1)))) (eIdx (eCall w_lines_at_0 (aCons (eVar 1) (aCons (eVar 2) (aNil)))) (eBin .sub (eVar 9) (eCon (.int 1)))))))) (sRet (eCon (.bool false))) (sSkip))
    (sRet (eCmp .eq (eComp (iSeq (eCall w_starts_at_0 (aCons (eCut (eVar 0) (oSome (eVar 6)) (oNone)) (aCons (eVar 2) (aNil))))) (.nm 10) (tYes) (eBin .add (eVar 10) (eVar 6)) [10]) (eB1 .list (eCut (eUn (eVar 4)) (oSome (eVar 8)) (oNone))))))))))))
end DL
end
section
namespace Wk52
open PySem DL
def m_law : XS := sSeq (sFor (iRng1 (eCon (.int 8))) (.nm 2) (sSeq (sAsg 3 (eCallS w__law_row_drawn_0 1 (aCons (eIdx (eLst (aCons (eCon (.int 24)) (aCons (eCon (.int 24)) (aCons (eCon (.int 5)) (aNil))))) (eBin .mod (eVar 2) (eCon (.int 3)))) (aNil))))
    (sFor (iRng1 (eCon (.int 4))) (.nm 4) (sSeq (sAsg 5 (eCallS w__law_near_row_0 1 (aCons (eVar 3) (aNil))))
    (sSeq (sAsg 6 (eMax3 (aCons (eB1 .max (eVar 3)) (aCons (eB1 .max (eVar 5)) (aCons (eCallS w__law_width_drawn_0 1 (aCons (eVar 3) (aNil))) (aNil))))))
    (sSeq (sIf (DL.tOr (tNot (tTru (eCall w__law_right_7 (aCons (eVar 3) (aCons (eVar 5) (aCons (eVar 6) (aNil))))))) (tNot (tTru (eCall w__law_right_7 (aCons (eVar 5) (aCons (eVar 3) (aCons (eVar 6) (aNil)))))))) (sRet (eCon (.bool false))) (sSkip))
    (sIf (tBool (eCmp .ne (eCall w_meeting_0 (aCons (eVar 3) (aCons (eVar 3) (aCons (eVar 6) (aNil))))) (eTup (aCons (eCon (.int 0)) (aCons (eCon (.int 0)) (aNil)))))) (sRet (eCon (.bool false))) (sSkip))))))))
    (sRet (eCon (.bool true)))
end Wk52
end
section
namespace Wk52
open PySem PySem.Spec PyProof.Rows DL
def top (i : Nat) : Stmt := PySem.Challenge.pw_wrapwidths_k52_whole_lines_behind_a_meet.main.body.getD i (.Pass ⟨0, 0, 0, 0⟩)
abbrev s_extent_of : Stmt := top 4
abbrev s_check_fits : Stmt := top 6
abbrev s_next_start : Stmt := top 7
abbrev s_starts_of : Stmt := top 8
abbrev s_starts_at : Stmt := top 9
abbrev s_lines_of : Stmt := top 10
abbrev s_lines_at : Stmt := top 11
abbrev s_meeting : Stmt := top 13
abbrev s__law_stream : Stmt := top 15
abbrev s__law_draw : Stmt := top 16
abbrev s__law_row_drawn : Stmt := top 17
abbrev s__law_width_drawn : Stmt := top 18
abbrev s__law_near_row : Stmt := top 19
abbrev s__law_right : Stmt := top 20
abbrev s_law : Stmt := top 21
theorem sc_extent_of : L2.FnScope ["row", "first", "last"] ["row", "first", "last"] (L2.defScope s_extent_of) := ⟨rfl, rfl, rfl, by decide +kernel, rfl, by decide +kernel, by decide +kernel⟩
theorem sc_check_fits : L2.FnScope ["row", "width", "place", "length"] ["row", "width"] (L2.defScope s_check_fits) := ⟨rfl, rfl, rfl, by decide +kernel, rfl, by decide +kernel, by decide +kernel⟩
theorem sc_next_start : L2.FnScope ["row", "width", "start", "following"] ["row", "width", "start"] (L2.defScope s_next_start) := ⟨rfl, rfl, rfl, by decide +kernel, rfl, by decide +kernel, by decide +kernel⟩
theorem sc_starts_of : L2.FnScope ["row", "width", "starts", "following"] ["row", "width"] (L2.defScope s_starts_of) := ⟨rfl, rfl, rfl, by decide +kernel, rfl, by decide +kernel, by decide +kernel⟩
theorem sc_starts_at : L2.FnScope ["row", "width"] ["row", "width"] (L2.defScope s_starts_at) := ⟨rfl, rfl, rfl, by decide +kernel, rfl, by decide +kernel, by decide +kernel⟩
theorem sc_lines_of : L2.FnScope ["row", "starts", "ends", "start", "end"] ["row", "starts"] (L2.defScope s_lines_of) := ⟨rfl, rfl, rfl, by decide +kernel, rfl, by decide +kernel, by decide +kernel⟩
theorem sc_lines_at : L2.FnScope ["row", "width"] ["row", "width"] (L2.defScope s_lines_at) := ⟨rfl, rfl, rfl, by decide +kernel, rfl, by decide +kernel, by decide +kernel⟩
theorem sc_meeting : L2.FnScope ["one", "other", "width", "starts", "start", "second"] ["one", "other", "width"] (L2.defScope s_meeting) := ⟨rfl, rfl, rfl, by decide +kernel, rfl, by decide +kernel, by decide +kernel⟩
theorem sc__law_stream : L2.FnScope ["_law_script", "_law_cells", "_law_cell"] ["_law_script"] (L2.defScope s__law_stream) := ⟨rfl, rfl, rfl, by decide +kernel, rfl, by decide +kernel, by decide +kernel⟩
theorem sc__law_draw : L2.FnScope ["_law_stream_here", "_law_many", "_law_rest", "_law_turn", "_law_cell", "_law_mixed"] ["_law_stream_here", "_law_many"] (L2.defScope s__law_draw) := ⟨rfl, rfl, rfl, by decide +kernel, rfl, by decide +kernel, by decide +kernel⟩
theorem sc__law_row_drawn : L2.FnScope ["_law_stream_here", "_law_most", "_law_size", "_law_way", "_law_top", "_law_found", "_law_part", "_law_k"] ["_law_stream_here", "_law_most"] (L2.defScope s__law_row_drawn) := ⟨rfl, rfl, rfl, by decide +kernel, rfl, by decide +kernel, by decide +kernel⟩
theorem sc__law_width_drawn : L2.FnScope ["_law_stream_here", "_law_row", "_law_first", "_law_last", "_law_wide", "_law_some"] ["_law_stream_here", "_law_row"] (L2.defScope s__law_width_drawn) := ⟨rfl, rfl, rfl, by decide +kernel, rfl, by decide +kernel, by decide +kernel⟩
theorem sc__law_near_row : L2.FnScope ["_law_stream_here", "_law_row", "_law_found", "_law_again", "_law_place", "_law_way", "_law_length"] ["_law_stream_here", "_law_row"] (L2.defScope s__law_near_row) := ⟨rfl, rfl, rfl, by decide +kernel, rfl, by decide +kernel, by decide +kernel⟩
theorem sc__law_right : L2.FnScope ["_law_one", "_law_other", "_law_width", "_law_told", "_law_first", "_law_second", "_law_start", "_law_point", "_law_left", "_law_right_here", "_law_at"] ["_law_one", "_law_other", "_law_width"] (L2.defScope s__law_right) := ⟨rfl, rfl, rfl, by decide +kernel, rfl, by decide +kernel, by decide +kernel⟩
theorem sc_law : L2.FnScope ["_law_script", "_law_stream_here", "_law_turn", "_law_one", "_law_k", "_law_other", "_law_width"] ["_law_script"] (L2.defScope s_law) := ⟨rfl, rfl, rfl, by decide +kernel, rfl, by decide +kernel, by decide +kernel⟩
abbrev i_TooNarrow : Stmt := (clsBody (top 2)).getD 0 (.Pass ⟨0, 0, 0, 0⟩)
structure Txt (K : PySem.W.Frag) (mg : Str → Option Value) where
  fd_extent_of : FuncData
  F_extent_of : FnP K "extent_of" "extent_of" s_extent_of (He.ga K "extent_of") fd_extent_of
  D_extent_of : Def K mg "extent_of" (He.ga K "extent_of") fd_extent_of ["row", "first", "last"]
  fd_check_fits : FuncData
  F_check_fits : FnP K "check_fits" "check_fits" s_check_fits (He.ga K "check_fits") fd_check_fits
  D_check_fits : Def K mg "check_fits" (He.ga K "check_fits") fd_check_fits ["row", "width"]
  fd_next_start : FuncData
  F_next_start : FnP K "next_start" "next_start" s_next_start (He.ga K "next_start") fd_next_start
  D_next_start : Def K mg "next_start" (He.ga K "next_start") fd_next_start ["row", "width", "start"]
  fd_starts_of : FuncData
  F_starts_of : FnP K "starts_of" "starts_of" s_starts_of (He.ga K "starts_of") fd_starts_of
  D_starts_of : Def K mg "starts_of" (He.ga K "starts_of") fd_starts_of ["row", "width"]
  fd_starts_at : FuncData
  F_starts_at : FnP K "starts_at" "starts_at" s_starts_at (He.ga K "starts_at") fd_starts_at
  D_starts_at : Def K mg "starts_at" (He.ga K "starts_at") fd_starts_at ["row", "width"]
  fd_lines_of : FuncData
  F_lines_of : FnP K "lines_of" "lines_of" s_lines_of (He.ga K "lines_of") fd_lines_of
  D_lines_of : Def K mg "lines_of" (He.ga K "lines_of") fd_lines_of ["row", "starts"]
  fd_lines_at : FuncData
  F_lines_at : FnP K "lines_at" "lines_at" s_lines_at (He.ga K "lines_at") fd_lines_at
  D_lines_at : Def K mg "lines_at" (He.ga K "lines_at") fd_lines_at ["row", "width"]
  fd_meeting : FuncData
  F_meeting : FnP K "meeting" "meeting" s_meeting (He.ga K "meeting") fd_meeting
  D_meeting : Def K mg "meeting" (He.ga K "meeting") fd_meeting ["one", "other", "width"]
  fd__law_stream : FuncData
  F__law_stream : FnP K "_law_stream" "_law_stream" s__law_stream (He.ga K "_law_stream") fd__law_stream
  D__law_stream : Def K mg "_law_stream" (He.ga K "_law_stream") fd__law_stream ["_law_script"]
  fd__law_draw : FuncData
  F__law_draw : FnP K "_law_draw" "_law_draw" s__law_draw (He.ga K "_law_draw") fd__law_draw
  D__law_draw : Def K mg "_law_draw" (He.ga K "_law_draw") fd__law_draw ["_law_stream_here", "_law_many"]
  fd__law_row_drawn : FuncData
  F__law_row_drawn : FnP K "_law_row_drawn" "_law_row_drawn" s__law_row_drawn (He.ga K "_law_row_drawn") fd__law_row_drawn
  D__law_row_drawn : Def K mg "_law_row_drawn" (He.ga K "_law_row_drawn") fd__law_row_drawn ["_law_stream_here", "_law_most"]
  fd__law_width_drawn : FuncData
  F__law_width_drawn : FnP K "_law_width_drawn" "_law_width_drawn" s__law_width_drawn (He.ga K "_law_width_drawn") fd__law_width_drawn
  D__law_width_drawn : Def K mg "_law_width_drawn" (He.ga K "_law_width_drawn") fd__law_width_drawn ["_law_stream_here", "_law_row"]
  fd__law_near_row : FuncData
  F__law_near_row : FnP K "_law_near_row" "_law_near_row" s__law_near_row (He.ga K "_law_near_row") fd__law_near_row
  D__law_near_row : Def K mg "_law_near_row" (He.ga K "_law_near_row") fd__law_near_row ["_law_stream_here", "_law_row"]
  fd__law_right : FuncData
  F__law_right : FnP K "_law_right" "_law_right" s__law_right (He.ga K "_law_right") fd__law_right
  D__law_right : Def K mg "_law_right" (He.ga K "_law_right") fd__law_right ["_law_one", "_law_other", "_law_width"]
  fd_law : FuncData
  F_law : FnP K "law" "law" s_law (He.ga K "law") fd_law
  D_law : Def K mg "law" (He.ga K "law") fd_law ["_law_script"]
  g_abs : mg "abs" = none
  g_enumerate : mg "enumerate" = none
  g_int : mg "int" = none
  g_len : mg "len" = none
  g_list : mg "list" = none
  g_max : mg "max" = none
  g_min : mg "min" = none
  g_range : mg "range" = none
  g_sum : mg "sum" = none
  g_tuple : mg "tuple" = none
  g_zip : mg "zip" = none
  m_TooNarrow : mg "TooNarrow" = some (.ref (He.ga K "TooNarrow"))
  p_TooNarrow : here K "TooNarrow" = true
  E_TooNarrow : ErrT K "TooNarrow" .place .ve
section
variable {P : Program} {w : World} {K : PySem.W.Frag} {mg : Str → Option Value} {base : Heap}
theorem Txt.ok_extent_of (T : Txt K mg) (sm : HasSm base) : FnG true P w K mg base 1 (He.ga K "extent_of") T.fd_extent_of ["row", "first", "last"] (spF K mg w_extent_of_0) :=
  fn_pure sm T.F_extent_of sc_extent_of (by decide) fun cdv A outer s H E p S Z hp => ssd_one (sd_ret (pd_bin S .sub (pd_bin S .add (pd_call1 S (c_sum S.calm) T.g_sum (pd_cut S (pd_var 0) (pdo_some (pd_var 1)) (pdo_some (pd_bin S .add (pd_var 2) (pd_int))))) (pd_var 2)) (pd_var 1)))
theorem Txt.ok_check_fits (T : Txt K mg) (sm : HasSm base) : FnG true P w K mg base 1 (He.ga K "check_fits") T.fd_check_fits ["row", "width"] (spF K mg w_check_fits_0) :=
  fn_pure sm T.F_check_fits sc_check_fits (by decide) fun cdv A outer s H E p S Z hp => ssd_one (sd_for S (t := .tp [2, 3]) (pi_enum1D (pd_var 0) T.g_enumerate) (pg_tl S.calm (L2.pgs_cons (L2.pg_name (i := 2) S.nd rfl (Or.inl rfl)) (L2.pgs_cons (L2.pg_name (i := 3) S.nd rfl (Or.inl rfl)) (L2.pgs_nil)))) (ssd_one (sd_if (pt_cmpD S .gt (pd_var 3) (pd_var 1)) (ssd_one (sd_raise1 S T.E_TooNarrow T.m_TooNarrow (pd_var 2))) (ssd_nil))))
theorem Txt.ok_lines_of (T : Txt K mg) (sm : HasSm base) : FnG true P w K mg base 1 (He.ga K "lines_of") T.fd_lines_of ["row", "starts"] (spF K mg w_lines_of_0) :=
  fn_pure sm T.F_lines_of sc_lines_of (by decide) fun cdv A outer s H E p S Z hp => ssd_cons (sd_set S (i := 2) rfl (Or.inl rfl) (pd_lst S (pda_star (pd_cut S (pd_var 1) (pdo_some (pd_int)) (pdo_none)) (pda_cons (pd_call1 S c_len T.g_len (pd_var 0)) (pda_nil)))))
    (ssd_one (sd_ret (pd_callT1 S c_tuple T.g_tuple (PDF.pd (pf_comp S (t := .tp [3, 4]) [("start", 3), ("end", 4)] (pi_zipD S (pd_var 1) (pd_var 2) T.g_zip) (L2.blkOk_by (N := ["row", "starts", "ends", "start", "end"]) (sc := L2.defScope s_lines_of) (by decide +kernel)) (by decide) (fun _ _ _ _ _ => pg_tl S.calm (L2.pgs_cons (L2.pg_name (i := 3) S.nd rfl (Or.inl rfl)) (L2.pgs_cons (L2.pg_name (i := 4) S.nd rfl (Or.inl rfl)) (L2.pgs_nil)))) (fun _ _ _ _ _ S => pdts_nil) (fun _ _ _ _ _ S => pd_cut S (pd_var 0) (pdo_some (pd_var 3)) (pdo_some (pd_var 4))))))))
theorem Txt.ok__law_stream (T : Txt K mg) (sm : HasSm base) : FnG true P w K mg base 1 (He.ga K "_law_stream") T.fd__law_stream ["_law_script"] (spMake K) :=
  fn_stream sm T.F__law_stream sc__law_stream rfl fun cdv A outer s H E p S =>
    ⟨_, _, _, fun t1 te1 te2 h1 h2 h3 => L2.pss_cons h1 (L2.pss_one (L2.ps_ret (L2.pe_lst (L2.pa_cons h2 (L2.pa_cons h3 (L2.pa_cons L2.pe_int L2.pa_nil)))))),
      sd_comp S (i := 1) (t := .nm 2) [("_law_cell", 2)] rfl rfl (L2.sw_true rfl rfl rfl (by decide +kernel)) (pi_scr 0 (L2.pv 0)) (L2.blkOk_by (N := ["_law_script", "_law_cells", "_law_cell"]) (sc := L2.defScope s__law_stream) (by decide +kernel)) (by decide) (fun _ _ _ _ _ => L2.pg_name (i := 2) S.nd rfl (Or.inl rfl)) (fun _ _ _ _ _ S => pdts_nil) (fun _ _ _ _ _ S => pd_call1 S c_abs T.g_abs (pd_var 2)),
      pf_comp S (t := .nm 2) [("_law_cell", 2)] (pi_lstD (pd_var 1)) (L2.blkOk_by (N := ["_law_script", "_law_cells", "_law_cell"]) (sc := L2.defScope s__law_stream) (by decide +kernel)) (by decide) (fun _ _ _ _ _ => L2.pg_name (i := 2) S.nd rfl (Or.inl rfl)) (fun _ _ _ _ _ S => pdts_one (pt_cmpD S .ge (pd_var 2) (pd_bin S .pow pd_int pd_int))) (fun _ _ _ _ _ S => pd_var 2),
      pd_if (pt_cmpD S .ne (pd_var 1) (pd_lst S pda_nil)) (pd_var 1) (pd_lst S (pda_cons pd_int pda_nil))⟩
theorem Txt.ok__law_draw (T : Txt K mg) (sm : HasSm base) : FnG true P w K mg base 1 (He.ga K "_law_draw") T.fd__law_draw ["_law_stream_here", "_law_many"] (spS K mg fDraw) :=
  fn_draw sm T.F__law_draw sc__law_draw rfl fun cdv A outer s H E p S =>
    L2.pss_cons (L2.ps_while S.po (L2.pt_cmpR (op_cmpD S.un .ne) (L2.pe_ix L2.ix_list (L2.pv 0) L2.pe_int (fun _ _ => rfl)) (L2.pe_lst L2.pa_nil) (L2.nomark _))
      (L2.pss_cons (L2.ps_set (i := 2) S.nd rfl (Or.inl rfl) (L2.pe_ix ix_D (L2.pe_ix L2.ix_list (L2.pv 0) L2.pe_int (fun _ _ => rfl)) L2.pe_int (fun _ _ => rfl)))
        (L2.pss_cons (L2.ps_if (L2.pt_cmpR (op_cmpD S.un .gt) (L2.pv 2) L2.pe_int (L2.nomark _))
            (L2.pss_cons (L2.ps_asg (L2.pe_op (op_binD .fdiv) (L2.pv 2) (L2.pv 1)) (L2.pg_sub (L2.pe_ix L2.ix_list (L2.pv 0) L2.pe_int (fun _ _ => rfl)) L2.pe_int L2.set_list)) (L2.pss_one (L2.ps_ret (L2.pe_op (op_binD .mod) (L2.pv 2) (L2.pv 1))))) L2.pss_nil)
          (L2.pss_one (L2.ps_expr (L2.pe_bm PySem.F.plainAttrs_list PySem.F.slot_list_pop PySem.F.type_list_pop L2.mt_popAt (L2.pe_ix L2.ix_list (L2.pv 0) L2.pe_int (fun _ _ => rfl)) (L2.pa_cons L2.pe_int L2.pa_nil)))))))
    (L2.pss_cons (L2.ps_set (i := 3) S.nd rfl (Or.inl rfl) (L2.pe_op (op_binD .add) (L2.pe_ix L2.ix_list (L2.pv 0) L2.pe_int (fun _ _ => rfl)) L2.pe_int))
    (L2.pss_cons (L2.ps_asg (L2.pv 3) (L2.pg_sub (L2.pv 0) L2.pe_int L2.set_list))
    (L2.pss_cons (L2.ps_set (i := 4) S.nd rfl (Or.inl rfl) (L2.pe_op (op_binD .mod) (L2.pe_ix ix_D (L2.pe_ix L2.ix_list (L2.pv 0) L2.pe_int (fun _ _ => rfl)) (L2.pe_op (op_binD .mod) (L2.pv 3) (L2.pe_callB c_len rfl T.g_len (by decide +kernel) (L2.pa_cons (L2.pe_ix L2.ix_list (L2.pv 0) L2.pe_int (fun _ _ => rfl)) L2.pa_nil))) (fun _ _ => rfl)) L2.pe_int))
    (L2.pss_cons (L2.ps_set (i := 5) S.nd rfl (Or.inl rfl) (L2.pe_op (op_binD .mod) (L2.pe_op (op_binD .add) (L2.pe_op (op_binD .add) (L2.pe_op (op_binD .mul) (L2.pv 4) (L2.pe_op (op_binD .add) L2.pe_int (L2.pe_op (op_binD .mul) L2.pe_int (L2.pv 3)))) (L2.pe_op (op_binD .mul) (L2.pe_op (op_binD .mul) L2.pe_int (L2.pv 3)) (L2.pv 3))) L2.pe_int) L2.pe_int))
    (L2.pss_one (L2.ps_ret (L2.pe_op (op_binD .mod) (L2.pe_op (op_binD .fdiv) (L2.pe_op (op_binD .mod) (L2.pe_op (op_binD .mul) (L2.pv 5) (L2.pv 5)) L2.pe_int) L2.pe_int) (L2.pv 1))))))))
theorem Txt.ok_next_start (T : Txt K mg) (sm : HasSm base) : FnG true P w K mg base 2 (He.ga K "next_start") T.fd_next_start ["row", "width", "start"] (spF K mg w_next_start_0) :=
  fn_pure sm T.F_next_start sc_next_start (by decide) fun cdv A outer s H E p S Z hp => ssd_cons (sd_set S (i := 3) rfl (Or.inl rfl) (pd_bin S .add (pd_var 2) (pd_int)))
    (ssd_cons (sd_while S (PDW.pt (pw_andD (pt_cmpD S .lt (pd_var 3) (pd_call1 S c_len T.g_len (pd_var 0))) (pw_and1D (pt_cmpD S .le (pd_fn S (T.ok_extent_of sm) (by decide) T.D_extent_of (pda_cons (pd_var 0) (pda_cons (pd_var 2) (pda_cons (pd_var 3) (pda_nil))))) (pd_var 1))))) (ssd_one (sd_set S (i := 3) rfl (Or.inl rfl) (pd_bin S .add (pd_var 3) (pd_int)))))
    (ssd_one (sd_ret (pd_var 3))))
theorem Txt.ok__law_row_drawn (T : Txt K mg) (sm : HasSm base) : FnG true P w K mg base 2 (He.ga K "_law_row_drawn") T.fd__law_row_drawn ["_law_stream_here", "_law_most"] (spS K mg w__law_row_drawn_0) :=
  fn_str sm T.F__law_row_drawn sc__law_row_drawn (by decide) fun cdv A outer s H E p S Z hp => ssd_cons (sd_par S (i := 2) (j := 3) rfl rfl (by decide) rfl rfl (pd_bin S .add (pd_int) (pd_fnS S Z (T.ok__law_draw sm) (by decide) T.D__law_draw (L2.pv 0) (pda_cons (pd_var 1) (pda_nil)))) (pd_fnS S Z (T.ok__law_draw sm) (by decide) T.D__law_draw (L2.pv 0) (pda_cons (pd_int) (pda_nil))) rfl)
    (ssd_cons (sd_set S (i := 4) rfl (Or.inr rfl) (pd_ix S (pd_lst S (pda_cons (pd_int) (pda_cons (pd_int) (pda_cons (pd_int) (pda_cons (pd_int) (pda_cons (pd_int) (pda_cons (pd_int) (pda_nil)))))))) (pd_var 3)))
    (ssd_cons (sd_own S (i := 5) rfl (Or.inr rfl) (pf_comp S (t := .nm 7) [("_law_k", 7)] (pi_rng1D (pd_var 2) T.g_range) (L2.blkOk_by (N := ["_law_stream_here", "_law_most", "_law_size", "_law_way", "_law_top", "_law_found", "_law_part", "_law_k"]) (sc := L2.defScope s__law_row_drawn) (by decide +kernel)) (by decide) (fun _ _ _ _ _ => L2.pg_name (i := 7) S.nd rfl (Or.inl rfl)) (fun _ _ _ _ _ S => pdts_nil) (fun _ _ _ _ _ S => pd_bin S .add (pd_int) (pd_fnS S Z (T.ok__law_draw sm) (by decide) T.D__law_draw (L2.pv 0) (pda_cons (pd_var 4) (pda_nil))))))
    (ssd_cons (sd_if (PDW.pt (pw_orD (pt_cmpD S .eq (pd_var 3) (pd_int)) (pw_or1D (pt_cmpD S .eq (pd_var 3) (pd_int))))) (ssd_one (sd_setI S 5 (L2.pg_sub (L2.pv 5) (PD.pe (pd_fnS S Z (T.ok__law_draw sm) (by decide) T.D__law_draw (L2.pv 0) (pda_cons (pd_var 2) (pda_nil)))) L2.set_list) (pd_bin S .add (pd_int) (pd_fnS S Z (T.ok__law_draw sm) (by decide) T.D__law_draw (L2.pv 0) (pda_cons (pd_int) (pda_nil)))))) (ssd_nil))
    (ssd_cons (sd_if (pt_cmpD S .eq (pd_var 3) (pd_int)) (ssd_cons (sd_set S (i := 6) rfl (Or.inr rfl) (pd_bin S .add (pd_int) (pd_fnS S Z (T.ok__law_draw sm) (by decide) T.D__law_draw (L2.pv 0) (pda_cons (pd_call2 S (c_min2 S.calm) T.g_min (pd_var 2) (pd_int)) (pda_nil)))))
    (ssd_one (sd_rel S 5 (sd_own S (i := 5) rfl (Or.inr rfl) (pf_comp S (t := .nm 7) [("_law_k", 7)] (pi_rng1D (pd_var 2) T.g_range) (L2.blkOk_by (N := ["_law_stream_here", "_law_most", "_law_size", "_law_way", "_law_top", "_law_found", "_law_part", "_law_k"]) (sc := L2.defScope s__law_row_drawn) (by decide +kernel)) (by decide) (fun _ _ _ _ _ => L2.pg_name (i := 7) S.nd rfl (Or.inl rfl)) (fun _ _ _ _ _ S => pdts_nil) (fun _ _ _ _ _ S => pd_ix S (pd_var 5) (pd_bin S .mod (pd_var 7) (pd_var 6)))))))) (ssd_nil))
    (ssd_one (sd_rel S 5 (sd_ret (pd_callT1 S c_tuple T.g_tuple (pd_var 5)))))))))
theorem Txt.ok__law_width_drawn (T : Txt K mg) (sm : HasSm base) : FnG true P w K mg base 2 (He.ga K "_law_width_drawn") T.fd__law_width_drawn ["_law_stream_here", "_law_row"] (spS K mg w__law_width_drawn_0) :=
  fn_str sm T.F__law_width_drawn sc__law_width_drawn (by decide) fun cdv A outer s H E p S Z hp => ssd_cons (sd_set S (i := 2) rfl (Or.inl rfl) (pd_fnS S Z (T.ok__law_draw sm) (by decide) T.D__law_draw (L2.pv 0) (pda_cons (pd_call1 S c_len T.g_len (pd_var 1)) (pda_nil))))
    (ssd_cons (sd_set S (i := 3) rfl (Or.inl rfl) (pd_bin S .add (pd_var 2) (pd_fnS S Z (T.ok__law_draw sm) (by decide) T.D__law_draw (L2.pv 0) (pda_cons (pd_call2 S (c_min2 S.calm) T.g_min (pd_bin S .sub (pd_call1 S c_len T.g_len (pd_var 1)) (pd_var 2)) (pd_int)) (pda_nil)))))
    (ssd_cons (sd_set S (i := 4) rfl (Or.inl rfl) (pd_bin S .sub (pd_bin S .add (pd_call1 S (c_sum S.calm) T.g_sum (pd_cut S (pd_var 1) (pdo_some (pd_var 2)) (pdo_some (pd_bin S .add (pd_var 3) (pd_int))))) (pd_var 3)) (pd_var 2)))
    (ssd_cons (sd_set S (i := 5) rfl (Or.inl rfl) (pd_lst S (pda_cons (pd_call1 S (c_max S) T.g_max (pd_var 1)) (pda_cons (pd_var 4) (pda_cons (pd_bin S .sub (pd_var 4) (pd_int)) (pda_cons (pd_bin S .add (pd_var 4) (pd_int)) (pda_cons (pd_bin S .sub (pd_bin S .add (pd_call1 S (c_sum S.calm) T.g_sum (pd_var 1)) (pd_call1 S c_len T.g_len (pd_var 1))) (pd_int)) (pda_cons (pd_bin S .add (pd_int) (pd_fnS S Z (T.ok__law_draw sm) (by decide) T.D__law_draw (L2.pv 0) (pda_cons (pd_int) (pda_nil)))) (pda_cons (pd_int) (pda_nil))))))))))
    (ssd_one (sd_ret (pd_call2 S (c_max2 S.calm) T.g_max (pd_int) (pd_ix S (pd_var 5) (pd_fnS S Z (T.ok__law_draw sm) (by decide) T.D__law_draw (L2.pv 0) (pda_cons (pd_int) (pda_nil))))))))))
theorem Txt.ok_starts_of_c (T : Txt K mg) (sm : HasSm base) : FnG true P w K mg base 3 (He.ga K "starts_of") T.fd_starts_of ["row", "width"] (spF K mg w_starts_of_t_0) :=
  fn_pure sm T.F_starts_of sc_starts_of (by decide) fun cdv A outer s H E p S Z hp => ssd_cons (sd_own S (i := 2) rfl (Or.inl rfl) (pf_lst S (pda_cons (pd_int) (pda_nil))))
    (ssd_cons (sd_set S (i := 3) rfl (Or.inl rfl) (pd_fn S (T.ok_next_start sm) (by decide) T.D_next_start (pda_cons (pd_var 0) (pda_cons (pd_var 1) (pda_cons (pd_int) (pda_nil))))))
    (ssd_cons (sd_while S (pt_cmpD S .lt (pd_var 3) (pd_call1 S c_len T.g_len (pd_var 0))) (ssd_cons (sd_app S 2 (pd_var 3) (fun h => L2.pe_bm PySem.F.plainAttrs_list PySem.F.slot_list_append PySem.F.type_list_append L2.mt_append (L2.pv 2) (L2.pa_cons h L2.pa_nil)))
    (ssd_one (sd_set S (i := 3) rfl (Or.inl rfl) (pd_fn S (T.ok_next_start sm) (by decide) T.D_next_start (pda_cons (pd_var 0) (pda_cons (pd_var 1) (pda_cons (pd_var 3) (pda_nil)))))))))
    (ssd_one (sd_rel S 2 (sd_ret (pd_tupN S T.g_tuple (pd_var 2)))))))
theorem Txt.ok_starts_of (T : Txt K mg) (sm : HasSm base) : FnG true P w K mg base 3 (He.ga K "starts_of") T.fd_starts_of ["row", "width"] (spF K mg w_starts_of_0) :=
  fn_pure sm T.F_starts_of sc_starts_of (by decide) fun cdv A outer s H E p S Z hp => ssd_cons (sd_own S (i := 2) rfl (Or.inl rfl) (pf_lst S (pda_cons (pd_int) (pda_nil))))
    (ssd_cons (sd_set S (i := 3) rfl (Or.inl rfl) (pd_fn S (T.ok_next_start sm) (by decide) T.D_next_start (pda_cons (pd_var 0) (pda_cons (pd_var 1) (pda_cons (pd_int) (pda_nil))))))
    (ssd_cons (sd_while S (pt_cmpD S .lt (pd_var 3) (pd_call1 S c_len T.g_len (pd_var 0))) (ssd_cons (sd_app S 2 (pd_var 3) (fun h => L2.pe_bm PySem.F.plainAttrs_list PySem.F.slot_list_append PySem.F.type_list_append L2.mt_append (L2.pv 2) (L2.pa_cons h L2.pa_nil)))
    (ssd_one (sd_set S (i := 3) rfl (Or.inl rfl) (pd_fn S (T.ok_next_start sm) (by decide) T.D_next_start (pda_cons (pd_var 0) (pda_cons (pd_var 1) (pda_cons (pd_var 3) (pda_nil)))))))))
    (ssd_one (sd_rel S 2 (sd_ret (pd_callT1 S c_tuple T.g_tuple (pd_var 2)))))))
theorem Txt.ok__law_near_row (T : Txt K mg) (sm : HasSm base) : FnG true P w K mg base 3 (He.ga K "_law_near_row") T.fd__law_near_row ["_law_stream_here", "_law_row"] (spS K mg w__law_near_row_0) :=
  fn_str sm T.F__law_near_row sc__law_near_row (by decide) fun cdv A outer s H E p S Z hp => ssd_cons (sd_own S (i := 2) rfl (Or.inl rfl) (pf_list S T.g_list (pd_var 1)))
    (ssd_cons (sd_for S (t := .nm 3) (pi_rng1D (pd_bin S .add (pd_int) (pd_fnS S Z (T.ok__law_draw sm) (by decide) T.D__law_draw (L2.pv 0) (pda_cons (pd_int) (pda_nil)))) T.g_range) (L2.pg_name (i := 3) S.nd rfl (Or.inl rfl)) (ssd_cons (sd_par3 S (i := 4) (j := 5) (l := 6) rfl rfl rfl (by decide) (by decide) (by decide) rfl rfl rfl (pd_bor S 2 (pd_fnS S Z (T.ok__law_draw sm) (by decide) T.D__law_draw (L2.pv 0) (pda_cons (pd_call1 S c_len T.g_len (pd_var 2)) (pda_nil)))) (pd_fnS S Z (T.ok__law_draw sm) (by decide) T.D__law_draw (L2.pv 0) (pda_cons (pd_int) (pda_nil))) (pd_bin S .add (pd_int) (pd_fnS S Z (T.ok__law_draw sm) (by decide) T.D__law_draw (L2.pv 0) (pda_cons (pd_call1 S (c_max S) T.g_max (pd_var 1)) (pda_nil)))) rfl)
    (ssd_one (sd_if (pt_bor S 2 (PDW.pt (pw_andD (pt_cmpD S .eq (pd_var 5) (pd_int)) (pw_and1D (pt_cmpD S .lt (pd_call1 S c_len T.g_len (pd_var 2)) (pd_int)))))) (ssd_one (sd_ins S 2 (pda_cons (pd_var 4) (pda_cons (pd_var 6) pda_nil)) (fun h => L2.pe_bm PySem.F.plainAttrs_list PySem.F.slot_list_insert PySem.F.type_list_insert mt_insL (L2.pv 2) h))) (ssd_one (sd_if (pt_bor S 2 (PDW.pt (pw_andD (pt_cmpD S .eq (pd_var 5) (pd_int)) (pw_and1D (pt_cmpD S .gt (pd_call1 S c_len T.g_len (pd_var 2)) (pd_int)))))) (ssd_one (sd_popI S 2 (pd_var 4) (fun h => L2.pe_bm PySem.F.plainAttrs_list PySem.F.slot_list_pop PySem.F.type_list_pop L2.mt_popAt (L2.pv 2) (L2.pa_cons h L2.pa_nil)))) (ssd_one (sd_if (pt_cmpD S .eq (pd_var 5) (pd_int)) (ssd_one (sd_rel S 2 (sd_own S (i := 2) rfl (Or.inl rfl) (pf_add S (pd_cut S (pd_var 2) (pdo_some (pd_var 4)) (pdo_none)) (pd_cut S (pd_var 2) (pdo_none) (pdo_some (pd_var 4))))))) (ssd_one (sd_setI S 2 (L2.pg_sub (L2.pv 2) (PD.pe (pd_var 4)) L2.set_list) (pd_var 6)))))))))))
    (ssd_one (sd_rel S 2 (sd_ret (pd_ix S (pd_lst S (pda_cons (pd_callT1 S c_tuple T.g_tuple (pd_var 2)) (pda_cons (pd_fnS S Z (T.ok__law_row_drawn sm) (by decide) T.D__law_row_drawn (L2.pv 0) (pda_cons (pd_int) (pda_nil))) (pda_nil)))) (pd_callT1 S c_int T.g_int (pd_cmp S .eq (pd_fnS S Z (T.ok__law_draw sm) (by decide) T.D__law_draw (L2.pv 0) (pda_cons (pd_int) (pda_nil))) (pd_int))))))))
theorem Txt.ok_starts_at_c (T : Txt K mg) (sm : HasSm base) : FnG true P w K mg base 4 (He.ga K "starts_at") T.fd_starts_at ["row", "width"] (spF K mg w_starts_at_t_0) :=
  fn_pure sm T.F_starts_at sc_starts_at (by decide) fun cdv A outer s H E p S Z hp => ssd_cons (sd_expr (pd_fn S (T.ok_check_fits sm) (by decide) T.D_check_fits (pda_cons (pd_var 0) (pda_cons (pd_var 1) (pda_nil)))))
    (ssd_one (sd_ret (pd_fn S (T.ok_starts_of_c sm) (by decide) T.D_starts_of (pda_cons (pd_var 0) (pda_cons (pd_var 1) (pda_nil))))))
theorem Txt.ok_starts_at (T : Txt K mg) (sm : HasSm base) : FnG true P w K mg base 4 (He.ga K "starts_at") T.fd_starts_at ["row", "width"] (spF K mg w_starts_at_0) :=
  fn_pure sm T.F_starts_at sc_starts_at (by decide) fun cdv A outer s H E p S Z hp => ssd_cons (sd_expr (pd_fn S (T.ok_check_fits sm) (by decide) T.D_check_fits (pda_cons (pd_var 0) (pda_cons (pd_var 1) (pda_nil)))))
    (ssd_one (sd_ret (pd_fn S (T.ok_starts_of sm) (by decide) T.D_starts_of (pda_cons (pd_var 0) (pda_cons (pd_var 1) (pda_nil))))))
theorem Txt.ok_meeting (T : Txt K mg) (sm : HasSm base) : FnG true P w K mg base 4 (He.ga K "meeting") T.fd_meeting ["one", "other", "width"] (spF K mg w_meeting_0) :=
  fn_pure sm T.F_meeting sc_meeting (by decide) fun cdv A outer s H E p S Z hp => ssd_cons (sd_expr (pd_fn S (T.ok_check_fits sm) (by decide) T.D_check_fits (pda_cons (pd_var 0) (pda_cons (pd_var 2) (pda_nil)))))
    (ssd_cons (sd_expr (pd_fn S (T.ok_check_fits sm) (by decide) T.D_check_fits (pda_cons (pd_var 1) (pda_cons (pd_var 2) (pda_nil)))))
    (ssd_cons (sd_set S (i := 3) rfl (Or.inl rfl) (pd_fn S (T.ok_starts_of sm) (by decide) T.D_starts_of (pda_cons (pd_var 1) (pda_cons (pd_var 2) (pda_nil)))))
    (ssd_cons (sd_for S (t := .nm 4) (pi_seq (pd_fn S (T.ok_starts_of sm) (by decide) T.D_starts_of (pda_cons (pd_var 0) (pda_cons (pd_var 2) (pda_nil))))) (L2.pg_name (i := 4) S.nd rfl (Or.inl rfl)) (ssd_cons (sd_set S (i := 5) rfl (Or.inl rfl) (pd_bin S .sub (pd_bin S .add (pd_var 4) (pd_call1 S c_len T.g_len (pd_var 1))) (pd_call1 S c_len T.g_len (pd_var 0))))
    (ssd_one (sd_if (PDW.pt (pw_andD (pt_inD S (pd_var 5) (pd_var 3)) (pw_and1D (pt_cmpD S .eq (pd_cut S (pd_var 0) (pdo_some (pd_var 4)) (pdo_none)) (pd_cut S (pd_var 1) (pdo_some (pd_var 5)) (pdo_none)))))) (ssd_one (sd_ret (pd_tup S (pda_cons (pd_var 4) (pda_cons (pd_var 5) (pda_nil)))))) (ssd_nil)))))
    (ssd_one (sd_ret (pd_non))))))
theorem Txt.ok_lines_at (T : Txt K mg) (sm : HasSm base) : FnG true P w K mg base 5 (He.ga K "lines_at") T.fd_lines_at ["row", "width"] (spF K mg w_lines_at_0) :=
  fn_pure sm T.F_lines_at sc_lines_at (by decide) fun cdv A outer s H E p S Z hp => ssd_one (sd_ret (pd_fn S (T.ok_lines_of sm) (by decide) T.D_lines_of (pda_cons (pd_var 0) (pda_cons (pd_fn S (T.ok_starts_at sm) (by decide) T.D_starts_at (pda_cons (pd_var 0) (pda_cons (pd_var 1) (pda_nil)))) (pda_nil)))))
theorem Txt.ok__law_right (T : Txt K mg) (sm : HasSm base) : FnG true P w K mg base 6 (He.ga K "_law_right") T.fd__law_right ["_law_one", "_law_other", "_law_width"] (spF K mg w__law_right_7) :=
  fn_pure sm T.F__law_right sc__law_right (by decide) fun cdv A outer s H E p S Z hp => ssd_cons (sd_par3 S (i := 3) (j := 4) (l := 5) rfl rfl rfl (by decide) (by decide) (by decide) rfl rfl rfl (pd_fn S (T.ok_meeting sm) (by decide) T.D_meeting (pda_cons (pd_var 0) (pda_cons (pd_var 1) (pda_cons (pd_var 2) (pda_nil))))) (pd_fn S (T.ok_starts_at_c sm) (by decide) T.D_starts_at (pda_cons (pd_var 0) (pda_cons (pd_var 2) (pda_nil)))) (pd_fn S (T.ok_starts_at_c sm) (by decide) T.D_starts_at (pda_cons (pd_var 1) (pda_cons (pd_var 2) (pda_nil)))) rfl)
    (ssd_cons (sd_if (pt_cmpD S .isN (pd_var 3) (pd_non)) (ssd_one (sd_ret (pd_cmp S .ne (pd_ix S (pd_fn S (T.ok_lines_at sm) (by decide) T.D_lines_at (pda_cons (pd_var 0) (pda_cons (pd_var 2) (pda_nil)))) (pd_neg S (pd_int))) (pd_ix S (pd_fn S (T.ok_lines_at sm) (by decide) T.D_lines_at (pda_cons (pd_var 1) (pda_cons (pd_var 2) (pda_nil)))) (pd_neg S (pd_int)))))) (ssd_nil))
    (ssd_cons (sd_put S (t := .tp [6, 7]) (pg_tl S.calm (L2.pgs_cons (L2.pg_name (i := 6) S.nd rfl (Or.inr rfl)) (L2.pgs_cons (L2.pg_name (i := 7) S.nd rfl (Or.inl rfl)) (L2.pgs_nil)))) (pd_var 3))
    (ssd_cons (sd_if (PDW.pt (pw_orD (pt_notInD S (pd_var 6) (pd_un (pd_var 4))) (pw_orD (pt_notInD S (pd_var 7) (pd_un (pd_var 5))) (pw_or1D (pt_cmpD S .ne (pd_bin S .sub (pd_call1 S c_len T.g_len (pd_var 0)) (pd_var 6)) (pd_bin S .sub (pd_call1 S c_len T.g_len (pd_var 1)) (pd_var 7))))))) (ssd_one (sd_ret (pd_bl))) (ssd_nil))
    (ssd_cons (sd_par S (i := 8) (j := 9) rfl rfl (by decide) rfl rfl (pd_ixN (pd_var 4) (pd_var 6)) (pd_ixN (pd_var 5) (pd_var 7)) rfl)
    (ssd_cons (sd_if (pt_cmpD S .ne (pd_cut S (pd_fn S (T.ok_lines_at sm) (by decide) T.D_lines_at (pda_cons (pd_var 0) (pda_cons (pd_var 2) (pda_nil)))) (pdo_some (pd_var 8)) (pdo_none)) (pd_cut S (pd_fn S (T.ok_lines_at sm) (by decide) T.D_lines_at (pda_cons (pd_var 1) (pda_cons (pd_var 2) (pda_nil)))) (pdo_some (pd_var 9)) (pdo_none))) (ssd_one (sd_ret (pd_bl))) (ssd_nil))
    (ssd_cons (sd_if (PDW.pt (pw_andD (pt_cmpD S .gt (pd_var 8) (pd_int)) (pw_andD (pt_cmpD S .gt (pd_var 9) (pd_int)) (pw_and1D (pt_cmpD S .eq (pd_ix S (pd_fn S (T.ok_lines_at sm) (by decide) T.D_lines_at (pda_cons (pd_var 0) (pda_cons (pd_var 2) (pda_nil)))) (pd_bin S .sub (pd_var 8) (pd_int))) (pd_ix S (pd_fn S (T.ok_lines_at sm) (by decide) T.D_lines_at (pda_cons (pd_var 1) (pda_cons (pd_var 2) (pda_nil)))) (pd_bin S .sub (pd_var 9) (pd_int)))))))) (ssd_one (sd_ret (pd_bl))) (ssd_nil))
    (ssd_one (sd_ret (pd_cmp S .eq (PDF.pd (pf_comp S (t := .nm 10) [("_law_at", 10)] (pi_seq (pd_fn S (T.ok_starts_at sm) (by decide) T.D_starts_at (pda_cons (pd_cut S (pd_var 0) (pdo_some (pd_var 6)) (pdo_none)) (pda_cons (pd_var 2) (pda_nil))))) (L2.blkOk_by (N := ["_law_one", "_law_other", "_law_width", "_law_told", "_law_first", "_law_second", "_law_start", "_law_point", "_law_left", "_law_right_here", "_law_at"]) (sc := L2.defScope s__law_right) (by decide +kernel)) (by decide) (fun _ _ _ _ _ => L2.pg_name (i := 10) S.nd rfl (Or.inl rfl)) (fun _ _ _ _ _ S => pdts_nil) (fun _ _ _ _ _ S => pd_bin S .add (pd_var 10) (pd_var 6)))) (pd_callT1 S c_list T.g_list (pd_cut S (pd_un (pd_var 4)) (pdo_some (pd_var 8)) (pdo_none))))))))))))
theorem Txt.ok_law (T : Txt K mg) (sm : HasSm base) (math : m_law (lawE 7 1) (.z 0) (fun o _ => o = .rt (.bool true)) fun _ _ => False) : FnG true P w K mg base 7 (He.ga K "law") T.fd_law ["_law_script"] (spLaw K) :=
  fn_law sm (i := 1) T.F_law sc_law (by decide) (by decide) (T.ok__law_stream sm) (by decide : 1 ≤ 6) (fun cdv A outer s H E => ⟨_, fun ts hr hg hx h => L2.pss_cons (L2.ps_set (i := 1) sc_law.nd rfl (Or.inl rfl) (pe_G (T.ok__law_stream sm) (hr.mono (by decide)) hg T.D__law_stream.mg T.D__law_stream.kp T.D__law_stream.bd hx (L2.pa_cons (L2.pv 0) L2.pa_nil))) h, fun p S Z hp => ssd_cons (sd_for S (t := .nm 2) (pi_rng1D (pd_int) T.g_range) (L2.pg_name (i := 2) S.nd rfl (Or.inl rfl)) (ssd_cons (sd_set S (i := 3) rfl (Or.inl rfl) (pd_fnS S Z (T.ok__law_row_drawn sm) (by decide) T.D__law_row_drawn (L2.pv 1) (pda_cons (pd_ix S (pd_lst S (pda_cons (pd_int) (pda_cons (pd_int) (pda_cons (pd_int) (pda_nil))))) (pd_bin S .mod (pd_var 2) (pd_int))) (pda_nil))))
    (ssd_one (sd_for S (t := .nm 4) (pi_rng1D (pd_int) T.g_range) (L2.pg_name (i := 4) S.nd rfl (Or.inl rfl)) (ssd_cons (sd_set S (i := 5) rfl (Or.inl rfl) (pd_fnS S Z (T.ok__law_near_row sm) (by decide) T.D__law_near_row (L2.pv 1) (pda_cons (pd_var 3) (pda_nil))))
    (ssd_cons (sd_set S (i := 6) rfl (Or.inl rfl) (pd_max3 S T.g_max (pda_cons (pd_call1 S (c_max S) T.g_max (pd_var 3)) (pda_cons (pd_call1 S (c_max S) T.g_max (pd_var 5)) (pda_cons (pd_fnS S Z (T.ok__law_width_drawn sm) (by decide) T.D__law_width_drawn (L2.pv 1) (pda_cons (pd_var 3) (pda_nil))) (pda_nil))))))
    (ssd_cons (sd_if (PDW.pt (pw_orD (pt_notD (pt_tru (pd_fn S (T.ok__law_right sm) (by decide) T.D__law_right (pda_cons (pd_var 3) (pda_cons (pd_var 5) (pda_cons (pd_var 6) (pda_nil))))))) (pw_or1D (pt_notD (pt_tru (pd_fn S (T.ok__law_right sm) (by decide) T.D__law_right (pda_cons (pd_var 5) (pda_cons (pd_var 3) (pda_cons (pd_var 6) (pda_nil)))))))))) (ssd_one (sd_ret (pd_bl))) (ssd_nil))
    (ssd_one (sd_if (pt_cmpD S .ne (pd_fn S (T.ok_meeting sm) (by decide) T.D_meeting (pda_cons (pd_var 3) (pda_cons (pd_var 3) (pda_cons (pd_var 6) (pda_nil))))) (pd_tup S (pda_cons (pd_int) (pda_cons (pd_int) (pda_nil))))) (ssd_one (sd_ret (pd_bl))) (ssd_nil))))))))))
    (ssd_one (sd_ret (pd_bl)))⟩) math
end
def d_extent_of : He.DefD := ⟨("extent_of", none), "extent_of", "extent_of", L2.defArgs s_extent_of, L2.defBody s_extent_of, L2.defScope s_extent_of, [], []⟩
def d_check_fits : He.DefD := ⟨("check_fits", none), "check_fits", "check_fits", L2.defArgs s_check_fits, L2.defBody s_check_fits, L2.defScope s_check_fits, [], []⟩
def d_next_start : He.DefD := ⟨("next_start", none), "next_start", "next_start", L2.defArgs s_next_start, L2.defBody s_next_start, L2.defScope s_next_start, [], []⟩
def d_starts_of : He.DefD := ⟨("starts_of", none), "starts_of", "starts_of", L2.defArgs s_starts_of, L2.defBody s_starts_of, L2.defScope s_starts_of, [], []⟩
def d_starts_at : He.DefD := ⟨("starts_at", none), "starts_at", "starts_at", L2.defArgs s_starts_at, L2.defBody s_starts_at, L2.defScope s_starts_at, [], []⟩
def d_lines_of : He.DefD := ⟨("lines_of", none), "lines_of", "lines_of", L2.defArgs s_lines_of, L2.defBody s_lines_of, L2.defScope s_lines_of, [], []⟩
def d_lines_at : He.DefD := ⟨("lines_at", none), "lines_at", "lines_at", L2.defArgs s_lines_at, L2.defBody s_lines_at, L2.defScope s_lines_at, [], []⟩
def d_meeting : He.DefD := ⟨("meeting", none), "meeting", "meeting", L2.defArgs s_meeting, L2.defBody s_meeting, L2.defScope s_meeting, [], []⟩
def d__law_stream : He.DefD := ⟨("_law_stream", none), "_law_stream", "_law_stream", L2.defArgs s__law_stream, L2.defBody s__law_stream, L2.defScope s__law_stream, [], []⟩
def d__law_draw : He.DefD := ⟨("_law_draw", none), "_law_draw", "_law_draw", L2.defArgs s__law_draw, L2.defBody s__law_draw, L2.defScope s__law_draw, [], []⟩
def d__law_row_drawn : He.DefD := ⟨("_law_row_drawn", none), "_law_row_drawn", "_law_row_drawn", L2.defArgs s__law_row_drawn, L2.defBody s__law_row_drawn, L2.defScope s__law_row_drawn, [], []⟩
def d__law_width_drawn : He.DefD := ⟨("_law_width_drawn", none), "_law_width_drawn", "_law_width_drawn", L2.defArgs s__law_width_drawn, L2.defBody s__law_width_drawn, L2.defScope s__law_width_drawn, [], []⟩
def d__law_near_row : He.DefD := ⟨("_law_near_row", none), "_law_near_row", "_law_near_row", L2.defArgs s__law_near_row, L2.defBody s__law_near_row, L2.defScope s__law_near_row, [], []⟩
def d__law_right : He.DefD := ⟨("_law_right", none), "_law_right", "_law_right", L2.defArgs s__law_right, L2.defBody s__law_right, L2.defScope s__law_right, [], []⟩
def d_law : He.DefD := ⟨("law", none), "law", "law", L2.defArgs s_law, L2.defBody s_law, L2.defScope s_law, [], []⟩
def di_TooNarrow : He.DefD := ⟨("TooNarrow", some "__init__"), "__init__", "TooNarrow.__init__", L2.defArgs i_TooNarrow, L2.defBody i_TooNarrow, L2.defScope i_TooNarrow, [], []⟩
def fnl : List He.DefD := [d_extent_of, d_check_fits, d_next_start, d_starts_of, d_starts_at, d_lines_of, d_lines_at, d_meeting, d__law_stream, d__law_draw, d__law_row_drawn, d__law_width_drawn, d__law_near_row, d__law_right, d_law, di_TooNarrow]
def exl (K : PySem.W.Frag) : Bool := smB K && (errTB K "TooNarrow" .ve)
def fal : List He.Fa := [.glo "extent_of", .glo "check_fits", .glo "next_start", .glo "starts_of", .glo "starts_at", .glo "lines_of", .glo "lines_at", .glo "meeting", .glo "_law_stream", .glo "_law_draw", .glo "_law_row_drawn", .glo "_law_width_drawn", .glo "_law_near_row", .glo "_law_right", .glo "law", .free "abs", .free "enumerate", .free "int", .free "len", .free "list", .free "max", .free "min", .free "range", .free "sum", .free "tuple", .free "zip", .glo "TooNarrow"]
abbrev R : PySem.W.OpenRow := PySem.W.OpenLaw.row PySem.Challenge.rw_wrapwidths_k52_whole_lines_behind_a_meet
abbrev hk : PySem.W.Hook := hookH 4 fal fnl exl
def ob (s : PySem.W.SharedT) : AlH := obsH 4 fal fnl exl (HandSHeadRun.getT s)
theorem ob_eq (s : PySem.W.SharedT) : ob s = hk.obs s.abs := obsH_eq (HandSHeadRun.getT_eq s)
theorem run (w : World) : HandSHeadRun.RunEq R (PySem.W.view R.prog [21]) hk ob 6000 ["WrapError", "TooNarrow", "extent_of", "check_fits", "next_start", "starts_of", "starts_at", "lines_of", "lines_at", "meeting", "_law_stream", "_law_draw", "_law_row_drawn", "_law_width_drawn", "_law_near_row", "_law_right"] w := by
  intro os
  kernel_rfl
theorem facts {P : Program} {w : World} {K : PySem.W.Frag} {h : Heap} {mg : Str → Option Value} {f : Addr} (X : K.In h) (G : h.Ns mainGlobals mg) (hfa : mg ("law" : Str) = some (.ref f)) (ch : SaysH fal fnl exl K)
    (math : m_law (lawE 7 1) (.z 0) (fun o _ => o = .rt (.bool true)) fun _ _ => False) :
    ∃ fd : FuncData, (∀ (s : Shared) (v : Value), BindsTo s fd ⟨[v], []⟩ [("_law_script", v)]) ∧ ∀ base : Heap, K.In base → base.Ns mainGlobals mg → FnG true P w K mg base 7 f fd ["_law_script"] (spLaw K) := by
  have c := ch.d
  have hx := ch.x
  obtain ⟨fd_extent_of, F_extent_of⟩ := c.def_ 0 (d := d_extent_of) rfl
  have G_extent_of : mg "extent_of" = some (.ref (He.ga K "extent_of")) := He.glo_ok X G (c.fact 0 (f := .glo "extent_of") rfl)
  have B_extent_of : L2.Binds K fd_extent_of ["row", "first", "last"] [] := L2.FunD.bindsN F_extent_of fun _ _ _ _ _ _ us hl => match us, hl with | [_, _, _], _ => rfl
  obtain ⟨fd_check_fits, F_check_fits⟩ := c.def_ 1 (d := d_check_fits) rfl
  have G_check_fits : mg "check_fits" = some (.ref (He.ga K "check_fits")) := He.glo_ok X G (c.fact 1 (f := .glo "check_fits") rfl)
  have B_check_fits : L2.Binds K fd_check_fits ["row", "width"] [] := L2.FunD.bindsN F_check_fits fun _ _ _ _ _ _ us hl => match us, hl with | [_, _], _ => rfl
  obtain ⟨fd_next_start, F_next_start⟩ := c.def_ 2 (d := d_next_start) rfl
  have G_next_start : mg "next_start" = some (.ref (He.ga K "next_start")) := He.glo_ok X G (c.fact 2 (f := .glo "next_start") rfl)
  have B_next_start : L2.Binds K fd_next_start ["row", "width", "start"] [] := L2.FunD.bindsN F_next_start fun _ _ _ _ _ _ us hl => match us, hl with | [_, _, _], _ => rfl
  obtain ⟨fd_starts_of, F_starts_of⟩ := c.def_ 3 (d := d_starts_of) rfl
  have G_starts_of : mg "starts_of" = some (.ref (He.ga K "starts_of")) := He.glo_ok X G (c.fact 3 (f := .glo "starts_of") rfl)
  have B_starts_of : L2.Binds K fd_starts_of ["row", "width"] [] := L2.FunD.bindsN F_starts_of fun _ _ _ _ _ _ us hl => match us, hl with | [_, _], _ => rfl
  obtain ⟨fd_starts_at, F_starts_at⟩ := c.def_ 4 (d := d_starts_at) rfl
  have G_starts_at : mg "starts_at" = some (.ref (He.ga K "starts_at")) := He.glo_ok X G (c.fact 4 (f := .glo "starts_at") rfl)
  have B_starts_at : L2.Binds K fd_starts_at ["row", "width"] [] := L2.FunD.bindsN F_starts_at fun _ _ _ _ _ _ us hl => match us, hl with | [_, _], _ => rfl
  obtain ⟨fd_lines_of, F_lines_of⟩ := c.def_ 5 (d := d_lines_of) rfl
  have G_lines_of : mg "lines_of" = some (.ref (He.ga K "lines_of")) := He.glo_ok X G (c.fact 5 (f := .glo "lines_of") rfl)
  have B_lines_of : L2.Binds K fd_lines_of ["row", "starts"] [] := L2.FunD.bindsN F_lines_of fun _ _ _ _ _ _ us hl => match us, hl with | [_, _], _ => rfl
  obtain ⟨fd_lines_at, F_lines_at⟩ := c.def_ 6 (d := d_lines_at) rfl
  have G_lines_at : mg "lines_at" = some (.ref (He.ga K "lines_at")) := He.glo_ok X G (c.fact 6 (f := .glo "lines_at") rfl)
  have B_lines_at : L2.Binds K fd_lines_at ["row", "width"] [] := L2.FunD.bindsN F_lines_at fun _ _ _ _ _ _ us hl => match us, hl with | [_, _], _ => rfl
  obtain ⟨fd_meeting, F_meeting⟩ := c.def_ 7 (d := d_meeting) rfl
  have G_meeting : mg "meeting" = some (.ref (He.ga K "meeting")) := He.glo_ok X G (c.fact 7 (f := .glo "meeting") rfl)
  have B_meeting : L2.Binds K fd_meeting ["one", "other", "width"] [] := L2.FunD.bindsN F_meeting fun _ _ _ _ _ _ us hl => match us, hl with | [_, _, _], _ => rfl
  obtain ⟨fd__law_stream, F__law_stream⟩ := c.def_ 8 (d := d__law_stream) rfl
  have G__law_stream : mg "_law_stream" = some (.ref (He.ga K "_law_stream")) := He.glo_ok X G (c.fact 8 (f := .glo "_law_stream") rfl)
  have B__law_stream : L2.Binds K fd__law_stream ["_law_script"] [] := L2.FunD.bindsN F__law_stream fun _ _ _ _ _ _ us hl => match us, hl with | [_], _ => rfl
  obtain ⟨fd__law_draw, F__law_draw⟩ := c.def_ 9 (d := d__law_draw) rfl
  have G__law_draw : mg "_law_draw" = some (.ref (He.ga K "_law_draw")) := He.glo_ok X G (c.fact 9 (f := .glo "_law_draw") rfl)
  have B__law_draw : L2.Binds K fd__law_draw ["_law_stream_here", "_law_many"] [] := L2.FunD.bindsN F__law_draw fun _ _ _ _ _ _ us hl => match us, hl with | [_, _], _ => rfl
  obtain ⟨fd__law_row_drawn, F__law_row_drawn⟩ := c.def_ 10 (d := d__law_row_drawn) rfl
  have G__law_row_drawn : mg "_law_row_drawn" = some (.ref (He.ga K "_law_row_drawn")) := He.glo_ok X G (c.fact 10 (f := .glo "_law_row_drawn") rfl)
  have B__law_row_drawn : L2.Binds K fd__law_row_drawn ["_law_stream_here", "_law_most"] [] := L2.FunD.bindsN F__law_row_drawn fun _ _ _ _ _ _ us hl => match us, hl with | [_, _], _ => rfl
  obtain ⟨fd__law_width_drawn, F__law_width_drawn⟩ := c.def_ 11 (d := d__law_width_drawn) rfl
  have G__law_width_drawn : mg "_law_width_drawn" = some (.ref (He.ga K "_law_width_drawn")) := He.glo_ok X G (c.fact 11 (f := .glo "_law_width_drawn") rfl)
  have B__law_width_drawn : L2.Binds K fd__law_width_drawn ["_law_stream_here", "_law_row"] [] := L2.FunD.bindsN F__law_width_drawn fun _ _ _ _ _ _ us hl => match us, hl with | [_, _], _ => rfl
  obtain ⟨fd__law_near_row, F__law_near_row⟩ := c.def_ 12 (d := d__law_near_row) rfl
  have G__law_near_row : mg "_law_near_row" = some (.ref (He.ga K "_law_near_row")) := He.glo_ok X G (c.fact 12 (f := .glo "_law_near_row") rfl)
  have B__law_near_row : L2.Binds K fd__law_near_row ["_law_stream_here", "_law_row"] [] := L2.FunD.bindsN F__law_near_row fun _ _ _ _ _ _ us hl => match us, hl with | [_, _], _ => rfl
  obtain ⟨fd__law_right, F__law_right⟩ := c.def_ 13 (d := d__law_right) rfl
  have G__law_right : mg "_law_right" = some (.ref (He.ga K "_law_right")) := He.glo_ok X G (c.fact 13 (f := .glo "_law_right") rfl)
  have B__law_right : L2.Binds K fd__law_right ["_law_one", "_law_other", "_law_width"] [] := L2.FunD.bindsN F__law_right fun _ _ _ _ _ _ us hl => match us, hl with | [_, _, _], _ => rfl
  obtain ⟨fd_law, F_law⟩ := c.def_ 14 (d := d_law) rfl
  have G_law : mg "law" = some (.ref (He.ga K "law")) := He.glo_ok X G (c.fact 14 (f := .glo "law") rfl)
  have B_law : L2.Binds K fd_law ["_law_script"] [] := L2.FunD.bindsN F_law fun _ _ _ _ _ _ us hl => match us, hl with | [_], _ => rfl
  simp only [exl, Bool.and_eq_true] at hx
  obtain ⟨h0, h_TooNarrow⟩ := hx
  obtain ⟨fi_TooNarrow, FI_TooNarrow⟩ := c.def_ 15 (d := di_TooNarrow) rfl
  have T : Txt K mg := ⟨fd_extent_of, F_extent_of, ⟨G_extent_of, F_extent_of.kp, B_extent_of⟩, fd_check_fits, F_check_fits, ⟨G_check_fits, F_check_fits.kp, B_check_fits⟩, fd_next_start, F_next_start, ⟨G_next_start, F_next_start.kp, B_next_start⟩, fd_starts_of, F_starts_of, ⟨G_starts_of, F_starts_of.kp, B_starts_of⟩, fd_starts_at, F_starts_at, ⟨G_starts_at, F_starts_at.kp, B_starts_at⟩, fd_lines_of, F_lines_of, ⟨G_lines_of, F_lines_of.kp, B_lines_of⟩, fd_lines_at, F_lines_at, ⟨G_lines_at, F_lines_at.kp, B_lines_at⟩, fd_meeting, F_meeting, ⟨G_meeting, F_meeting.kp, B_meeting⟩, fd__law_stream, F__law_stream, ⟨G__law_stream, F__law_stream.kp, B__law_stream⟩, fd__law_draw, F__law_draw, ⟨G__law_draw, F__law_draw.kp, B__law_draw⟩, fd__law_row_drawn, F__law_row_drawn, ⟨G__law_row_drawn, F__law_row_drawn.kp, B__law_row_drawn⟩, fd__law_width_drawn, F__law_width_drawn, ⟨G__law_width_drawn, F__law_width_drawn.kp, B__law_width_drawn⟩, fd__law_near_row, F__law_near_row, ⟨G__law_near_row, F__law_near_row.kp, B__law_near_row⟩, fd__law_right, F__law_right, ⟨G__law_right, F__law_right.kp, B__law_right⟩, fd_law, F_law, ⟨G_law, F_law.kp, B_law⟩, He.free_ok X G (c.fact 15 (f := .free "abs") rfl), He.free_ok X G (c.fact 16 (f := .free "enumerate") rfl), He.free_ok X G (c.fact 17 (f := .free "int") rfl), He.free_ok X G (c.fact 18 (f := .free "len") rfl), He.free_ok X G (c.fact 19 (f := .free "list") rfl), He.free_ok X G (c.fact 20 (f := .free "max") rfl), He.free_ok X G (c.fact 21 (f := .free "min") rfl), He.free_ok X G (c.fact 22 (f := .free "range") rfl), He.free_ok X G (c.fact 23 (f := .free "sum") rfl), He.free_ok X G (c.fact 24 (f := .free "tuple") rfl), He.free_ok X G (c.fact 25 (f := .free "zip") rfl), He.glo_ok X G (c.fact 26 (f := .glo "TooNarrow") rfl), here_of (c.fact 26 (f := .glo "TooNarrow") rfl), errT_ok h_TooNarrow ⟨_, _, _, _, _, _, _, _, FI_TooNarrow⟩⟩
  have e := hfa.symm.trans T.D_law.mg
  cases e
  have b := L2.FunD.bindsA (ps := ["_law_script"]) T.F_law fun _ _ _ _ _ _ us hl => match us, hl with | [_], _ => rfl
  exact ⟨T.fd_law, fun s v => b s [v] rfl, fun base XB _ => T.ok_law (smB_ok h0 XB) math⟩
end Wk52
open PySem PySem.W PySem.Calls PyProof.Rows
theorem Wk52.end_ (math : Wk52.m_law (DL.lawE 7 1) (.z 0) (fun o _ => o = .rt (.bool true)) fun _ _ => False) : PySem.Challenge.rw_wrapwidths_k52_whole_lines_behind_a_meet.Holds := by
  w_on; o_law
  refine HandSHeadRun.head_any (r := OpenLaw.row PySem.Challenge.rw_wrapwidths_k52_whole_lines_behind_a_meet) (q := view (OpenLaw.row PySem.Challenge.rw_wrapwidths_k52_whole_lines_behind_a_meet).prog [21]) (H := Wk52.hk) (ob := Wk52.ob) (M := 6000) (loose := ["WrapError", "TooNarrow", "extent_of", "check_fits", "next_start", "starts_of", "starts_at", "lines_of", "lines_at", "meeting", "_law_stream", "_law_draw", "_law_row_drawn", "_law_width_drawn", "_law_near_row", "_law_right"])
    (d := HandSHeadRun.topDef (OpenLaw.row PySem.Challenge.rw_wrapwidths_k52_whole_lines_behind_a_meet).prog 21) (kwd := []) Wk52.ob_eq
    (by kernel_rfl) (fun s => by kernel_rfl) Wk52.run (by kernel_rfl) (by kernel_rfl) (by kernel_rfl) (by rfl) (by first | assumption | decide +kernel) (by decide +kernel) ⟨rfl, rfl, rfl, rfl, rfl, by decide +kernel⟩ ?hw ?hc
  case hw => w_witness2
  case hc =>
    refine DL.walk_law (l := PySem.Challenge.rw_wrapwidths_k52_whole_lines_behind_a_meet) (k := 7) (x := "_law_script") rfl (by kernel_rfl) ⟨rfl, by decide, by decide⟩ ?F
    intro w mg f h Y G hmg0
    obtain ⟨K, KX, c⟩ := Y
    have hmg : mg ("law" : PySem.Str) = some (.ref f) := by
      have e : (HandSHeadRun.topDef (OpenLaw.row PySem.Challenge.rw_wrapwidths_k52_whole_lines_behind_a_meet).prog 21).name = ("law" : PySem.Str) := by kernel_rfl
      rw [← e]
      exact hmg0
    obtain ⟨fd, hb, hF⟩ := Wk52.facts (P := (PySem.Challenge.rw_wrapwidths_k52_whole_lines_behind_a_meet).prog) (w := w) KX G hmg c math
    exact ⟨K, fd, KX, hb, hF⟩
end
section
namespace DL
open PySem
/-- m gives what Q says, drawing at most n times -/
def Ok {α : Type} (m : W α) (n : Nat) (Q : α → Prop) : Prop := ∀ (c : Sx) (P : α → Sx → Prop) (X : Exn → Sx → Prop), c.n + n < 2 ^ 40 → (∀ a c', (c'.n ≤ c.n + n ∧ c'.mu = c.mu) → Q a → P a c') → m c P X
section
variable {α β : Type} {m : W α} {n n' k : Nat} {Q R : α → Prop}
theorem Ok.ret {a : α} (h : Q a) : Ok (ret a) n Q := fun c P X _ k => k a c ⟨by omega, rfl⟩ h
theorem Ok.bnd {f : α → W β} {S : β → Prop} (h : Ok m n Q) (hf : ∀ a, Q a → Ok (f a) k S) : Ok (bnd m f) (n + k) S := fun c P X hc kk =>
  h c _ X (by omega) fun a c' hc' q => hf a q c' P X (by have := hc'.1; omega) fun b c'' h2 s => kk b c'' ⟨by have := hc'.1; have := h2.1; omega, h2.2.trans hc'.2⟩ s
theorem Ok.bnd' {f : α → W β} {S : β → Prop} (t : Nat) (h : Ok m n Q) (hn : n ≤ t) (hf : ∀ a, Q a → Ok (f a) (t - n) S) : Ok (DL.bnd m f) t S := by
  have := Ok.bnd h hf
  rw [Nat.add_sub_cancel' hn] at this
  exact this
theorem Ok.mono (h : Ok m n Q) (hn : n ≤ n') (hq : ∀ a, Q a → R a) : Ok m n' R := fun c P X hc kk => h c P X (by omega) fun a c' h1 h2 => kk a c' ⟨by have := h1.1; omega, h1.2⟩ (hq a h2)
theorem Ok.le (h : Ok m n Q) (hn : n ≤ n') : Ok m n' Q := h.mono hn fun _ h => h
theorem Ok.imp (h : Ok m n Q) (hq : ∀ a, Q a → R a) : Ok m n R := h.mono (Nat.le_refl _) hq
theorem Ok.grd {c : Prop} (hc : c) (h : Ok m n Q) : Ok (grd c m) n Q := by rw [grd_pos hc]; exact h
theorem Ok.eq {m' : W α} (e : m = m') (h : Ok m' n Q) : Ok m n Q := by rw [e]; exact h
theorem Ok.run {P : α → Prop} {X : Exn → Sx → Prop} (h : Ok m n Q) (hn : n < 2 ^ 40) (hq : ∀ a, Q a → P a) : m (.z 0) (fun a _ => P a) X := h (.z 0) _ X (by show 0 + n < _; omega) fun a _ _ q => hq a q
theorem Ok.draw {many : Int} (h0 : 0 < many) (h1 : many < 9223372036854775808) : Ok (fDraw [.int many]) (n + 1) (fun d => ∃ r : Int, d = .int r ∧ 0 ≤ r ∧ r < many) := fun c P X hc k =>
  ⟨⟨h0, h1, by omega⟩, fun r a b => k _ _ ⟨by show c.n + 1 ≤ _; omega, rfl⟩ ⟨r, rfl, a, b⟩⟩
theorem Ok.drawB {many : Int} {f : D → W β} {S : β → Prop} (h0 : 0 < many) (h1 : many < 9223372036854775808) (hf : ∀ r : Int, 0 ≤ r → r < many → Ok (f (.int r)) n S) : Ok (DL.bnd (fDraw [.int many]) f) (n + 1) S := by
  refine Ok.bnd' (n + 1) (Ok.draw (n := 0) h0 h1) (by omega) ?_
  rintro a ⟨r, rfl, h2, h3⟩
  exact hf r h2 h3
theorem Ok.noX (h : Ok m n Q) : Ok (noX m) n Q := fun c P X hc k => h c P _ hc k
theorem Ok.ite {c : Prop} [Decidable c] {a b : W α} (ha : c → Ok a n Q) (hb : ¬ c → Ok b n Q) : Ok (if c then a else b) n Q := by
  split
  · exact ha ‹_›
  · exact hb ‹_›
theorem bnd_ite {c : Prop} [Decidable c] (a b : W α) (f : α → W β) : DL.bnd (if c then a else b) f = if c then DL.bnd a f else DL.bnd b f := by split <;> rfl
theorem bnd_assoc {γ : Type} (m : W α) (f : α → W β) (g : β → W γ) : DL.bnd (DL.bnd m f) g = DL.bnd m fun a => DL.bnd (f a) g := id rfl
theorem bnd_id (m : W α) : DL.bnd m DL.ret = m := id rfl
end
/-- a walk: the invariant by the turn -/
theorem forL_ok {tg : Tg} {s : XS} {b : Nat} {Q : Out → Prop} (I : Nat → Env → Prop) : ∀ (ds : List D) (i : Nat) (E : Env), I i E →
    (∀ j d E, ds[j]? = some d → I (i + j) E → ∃ E1, tg.put d E = some E1 ∧ Ok (s E1) b fun o => match o with | .nx E' => I (i + j + 1) E' | .ct E' => I (i + j + 1) E' | .bk E' => Q (.nx E') | .rt d => Q (.rt d)) →
    (∀ E, I (i + ds.length) E → Q (.nx E)) → Ok (forL tg s ds E) (ds.length * b) Q
  | [], i, E, h0, _, hd => by
    show Ok (ret (Out.nx E)) _ _
    exact Ok.ret (hd E h0)
  | d :: ds, i, E, h0, hs, hd => by
    obtain ⟨E1, e1, h1⟩ := hs 0 d E rfl h0
    show Ok (match tg.put d E with | none => stuck | some E1 => bnd (s E1) fun o => match o with
      | .nx E' => forL tg s ds E' | .ct E' => forL tg s ds E' | .bk E' => ret (.nx E') | .rt d => ret (.rt d)) _ _
    rw [e1, List.length_cons, Nat.succ_mul, Nat.add_comm]
    have rest : ∀ E', I (i + 1) E' → Ok (forL tg s ds E') (ds.length * b) Q := fun E' h' => forL_ok I ds (i + 1) E' h'
      (fun j d E hj hI => by
        have e : i + 1 + j = i + (j + 1) := by omega
        rw [e] at hI ⊢
        exact hs (j + 1) d E hj hI) fun E hI => hd E (by
        have e : i + 1 + ds.length = i + (d :: ds).length := by simp only [List.length_cons]; omega
        rw [← e]; exact hI)
    refine Ok.bnd h1 fun o ho => ?_
    cases o with
    | nx E' => exact rest E' ho
    | ct E' => exact rest E' ho
    | bk E' => exact Ok.ret ho
    | rt d => exact Ok.ret ho
theorem for_ok {tg : Tg} {s : XS} {ds : List D} {E : Env} {b t : Nat} {Q : Out → Prop} (I : Nat → Env → Prop) (h0 : I 0 E) (ht : ds.length * b ≤ t)
    (hs : ∀ j d E, ds[j]? = some d → I j E → ∃ E1, tg.put d E = some E1 ∧ Ok (s E1) b fun o => match o with | .nx E' => I (j + 1) E' | .ct E' => I (j + 1) E' | .bk E' => Q (.nx E') | .rt d => Q (.rt d))
    (hd : ∀ E, I ds.length E → Q (.nx E)) : Ok (forL tg s ds E) t Q :=
  (forL_ok (b := b) (Q := Q) I ds 0 E h0 (fun j d E h1 h2 => by rw [Nat.zero_add] at h2 ⊢; exact hs j d E h1 h2) fun E h => hd E (by rw [Nat.zero_add] at h; exact h)).le ht
/-- the new list: each item's own words -/
theorem comp_ok {tg : Tg} {t : XT} {e : XE} {b : Nat} {E : Env} {G : D → Prop} : ∀ (ds acc : List D), acc.length + ds.length ≤ 1000000 → (∀ d ∈ acc, G d) →
    (∀ d ∈ ds, ∃ E1, tg.put d E = some E1 ∧ t E1 = ret true ∧ Ok (e E1) b G) → Ok (compL tg t e ds acc E) (ds.length * b) fun ys => ys.length = acc.length + ds.length ∧ ∀ d ∈ ys, G d
  | [], acc, _, ha, _ => Ok.ret ⟨rfl, ha⟩
  | d :: ds, acc, hl, ha, hs => by
    obtain ⟨E1, e1, e2, h1⟩ := hs d (.head _)
    show Ok (match tg.put d E with | none => stuck | some E1 => bnd (t E1) fun c => if c = true then bnd (e E1) fun y => grd (small acc.length) (compL tg t e ds (acc ++ [y]) E) else compL tg t e ds acc E) _ _
    simp only [e1, e2, bnd_ret, if_true]
    rw [List.length_cons, Nat.succ_mul, Nat.add_comm]
    simp only [List.length_cons] at hl
    refine Ok.bnd h1 fun y hy => Ok.grd (by unfold small; omega) ?_
    refine (comp_ok ds (acc ++ [y]) (by rw [List.length_append, List.length_singleton]; omega) ?_ fun d hd => hs d (.tail _ hd)).imp ?_
    · intro d hd
      rcases List.mem_append.mp hd with h | h
      · exact ha d h
      · rw [List.mem_singleton.mp h]; exact hy
    · rintro ys ⟨h2, h3⟩
      exact ⟨by rw [h2, List.length_append, List.length_cons, List.length_nil]; omega, h3⟩
/-- .. all items pure: the list itself -/
theorem comp_map {tg : Tg} {t : XT} {e : XE} {E : Env} (f : D → D) : ∀ (ds acc : List D), acc.length + ds.length ≤ 1000000 →
    (∀ d ∈ ds, ∃ E1, tg.put d E = some E1 ∧ t E1 = ret true ∧ e E1 = ret (f d)) → compL tg t e ds acc E = ret (acc ++ ds.map f)
  | [], acc, _, _ => by simp [compL]
  | d :: ds, acc, hl, hs => by
    obtain ⟨E1, e1, e2, e3⟩ := hs d (.head _)
    simp only [List.length_cons] at hl
    have hs' : small acc.length := by unfold small; omega
    show (match tg.put d E with | none => stuck | some E1 => bnd (t E1) fun c => if c = true then bnd (e E1) fun y => grd (small acc.length) (compL tg t e ds (acc ++ [y]) E) else compL tg t e ds acc E) = _
    simp only [e1, e2, e3, bnd_ret, if_true, grd_pos hs']
    rw [comp_map f ds (acc ++ [f d]) (by simp only [List.length_append, List.length_singleton]; omega) fun d hd => hs d (.tail _ hd)]
    simp
section
variable {E : Env}
theorem x_var (i : Nat) : eVar i E = match E[i]? with | some (.val d) => ret d | _ => stuck := id rfl
theorem x_con (d : D) : eCon d E = ret d := id rfl
theorem x_bin (o : Op) (a b : XE) : eBin o a b E = bnd (a E) fun x => bnd (b E) fun y => opBin o x y := id rfl
theorem x_neg (a : XE) : eNeg a E = bnd (a E) opNeg := id rfl
theorem x_cmp (o : Cmp) (a b : XE) : eCmp o a b E = bnd (a E) fun x => bnd (b E) fun y => bnd (opCmp o x y) fun c => ret (.bool c) := id rfl
theorem x_chain (o o' : Cmp) (a b c : XE) : eChain o o' a b c E = bnd (a E) fun x => bnd (b E) fun y => bnd (opCmp o x y) fun k => if k = true then bnd (c E) fun z => bnd (opCmp o' y z) fun k' => ret (.bool k') else ret (.bool false) := id rfl
theorem x_tTru (a : XE) : tTru a E = bnd (a E) tru := id rfl
theorem x_tNot (t : XT) : tNot t E = bnd (t E) fun c => ret (!c) := id rfl
theorem x_tAnd (t u : XT) : tAnd t u E = bnd (t E) fun c => if c = true then u E else ret false := id rfl
theorem x_tOr (t u : XT) : tOr t u E = bnd (t E) fun c => if c = true then ret true else u E := id rfl
theorem x_tBool (a : XE) : tBool a E = bnd (a E) fun d => match d with | .bool b => ret b | _ => stuck := id rfl
theorem x_tYes : tYes E = ret true := id rfl
theorem x_not (a : XE) : eNot a E = bnd (a E) fun x => bnd (tru x) fun c => ret (.bool (!c)) := id rfl
theorem x_and (a b : XE) : eAnd a b E = bnd (a E) fun x => bnd (tru x) fun c => if c = true then b E else ret x := id rfl
theorem x_or (a b : XE) : eOr a b E = bnd (a E) fun x => bnd (tru x) fun c => if c = true then ret x else b E := id rfl
theorem x_if (t : XT) (a b : XE) : eIf t a b E = bnd (t E) fun c => if c = true then a E else b E := id rfl
theorem x_b1 (f : B1) (a : XE) : eB1 f a E = bnd (a E) (bi1 f) := id rfl
theorem x_b2 (f : B2) (a b : XE) : eB2 f a b E = bnd (a E) fun x => bnd (b E) fun y => bi2 f x y := id rfl
theorem x_is (t : Ty) (a : XE) : eIs t a E = bnd (a E) fun x => grd (noXn x = true) (ret (.bool (isTy t x))) := id rfl
theorem x_isC (ms : List Str) (a : XE) : eIsC ms a E = bnd (a E) (isC ms) := id rfl
theorem x_fld (a : XE) (f : Str) : eFld a f E = bnd (a E) (fldOf f) := id rfl
theorem x_in (n : Bool) (a b : XE) : eIn n a b E = bnd (a E) fun x => bnd (b E) fun y => opIn n x y := id rfl
theorem x_count (a b : XE) : eCnt a b E = bnd (a E) fun x => match x with | .list xs => bnd (b E) fun y => opCnt (.list xs) y | _ => stuck := id rfl
theorem x_lstR (a : XA) : eLstR a E = bnd (a E) fun xs => grd (small xs.length) (ret (.list xs)) := id rfl
theorem x_tupR (a : XA) : eTupR a E = bnd (a E) fun xs => grd (small xs.length) (ret (.tuple xs)) := id rfl
theorem x_raise (n : Str) (fs : List Str) (a : XA) : sRaise n fs a E = bnd (a E) fun xs => thr ⟨n, fs.zip xs⟩ := id rfl
theorem x_star (a : XE) (r : XA) : aStar a r E = bnd (a E) fun x => bnd (itemsOf x) fun ys => bnd (r E) fun xs => ret (ys ++ xs) := id rfl
theorem x_idx (a b : XE) : eIdx a b E = bnd (a E) fun x => bnd (b E) fun y => opIdx x y := id rfl
theorem x_oNone : oNone E = ret none := id rfl
theorem x_oSome (a : XE) : oSome a E = bnd (a E) fun x => bnd (asInt x) fun i => ret (some i) := id rfl
theorem x_cut (a : XE) (lo hi : XO) : eCut a lo hi E = bnd (a E) fun x => bnd (lo E) fun l => bnd (hi E) fun h => opCut x l h := id rfl
theorem x_aNil : aNil E = ret [] := id rfl
theorem x_aCons (a : XE) (r : XA) : aCons a r E = bnd (a E) fun x => bnd (r E) fun xs => ret (x :: xs) := id rfl
theorem x_tup (a : XA) : eTup a E = bnd (a E) fun xs => grd (small xs.length) (ret (.tuple xs)) := id rfl
theorem x_lst (a : XA) : eLst a E = bnd (a E) fun xs => grd (small xs.length) (ret (.list xs)) := id rfl
theorem x_call (f : Fn) (a : XA) : eCall f a E = bnd (a E) f := id rfl
theorem x_callS (f : Fn) (s : Nat) (a : XA) : eCallS f s a E = match E[s]? with | some .stm => bnd (a E) f | _ => stuck := id rfl
theorem x_iSeq (a : XE) : iSeq a E = bnd (a E) itemsOf := id rfl
theorem x_iRng1 (a : XE) : iRng1 a E = bnd (a E) fun x => bnd (asInt x) fun n => grd (rngOk 0 n) (ret (rng 0 n)) := id rfl
theorem x_iRng2 (a b : XE) : iRng2 a b E = bnd (a E) fun x => bnd (b E) fun y => bnd (asInt x) fun n => bnd (asInt y) fun m => grd (rngOk n m) (ret (rng n m)) := id rfl
theorem x_comp (it : XA) (tg : Tg) (t : XT) (e : XE) (vs : List Nat) : eComp it tg t e vs E = bnd (it E) fun ds => bnd (noX (compL tg t e ds [] (wipeE E vs))) fun ys => ret (.list ys) := id rfl
theorem x_bor (i : Nat) (e : XE) : eBor i e E = match E[i]? with | some (.own ds) => bnd (e (E.set i (.val (.list ds)))) fun d => grd (flat d = true) (ret d) | _ => e E := id rfl
theorem x_tBor (i : Nat) (t : XT) : tBor i t E = match E[i]? with | some (.own ds) => t (E.set i (.val (.list ds))) | _ => t E := id rfl
theorem x_seq (a b : XS) : sSeq a b E = bnd (a E) fun o => match o with | .nx E' => b E' | o => ret o := id rfl
theorem x_skip : sSkip E = ret (.nx E) := id rfl
theorem x_asg (i : Nat) (e : XE) : sAsg i e E = bnd (e E) fun d => ret (.nx (E.set i (.val d))) := id rfl
theorem x_put (tg : Tg) (e : XE) : sPut tg e E = bnd (e E) fun d => match tg.put d E with | some E' => ret (.nx E') | none => stuck := id rfl
theorem x_par (i j : Nat) (a b : XE) : sPar i j a b E = bnd (a E) fun x => bnd (b E) fun y => ret (.nx ((E.set i (.val x)).set j (.val y))) := id rfl
theorem x_parO (i j : Nat) (a b : XE) : sParO i j a b E = bnd (a E) fun x => bnd (b E) fun y => match x with | .list ds => ret (.nx ((E.set i (.own ds)).set j (.val y))) | _ => stuck := id rfl
theorem x_own (i : Nat) (e : XE) : sOwn i e E = bnd (e E) fun d => match d with | .list ds => ret (.nx (E.set i (.own ds))) | _ => stuck := id rfl
theorem x_rel (i : Nat) (s : XS) : sRel i s E = match E[i]? with | some (.own ds) => s (E.set i (.val (.list ds))) | _ => s E := id rfl
theorem x_app (i : Nat) (e : XE) : sApp i e E = match E[i]? with | some (.own ds) => bnd (e E) fun d => grd (small ds.length) (ret (.nx (E.set i (.own (ds ++ [d]))))) | _ => stuck := id rfl
theorem x_setI (i : Nat) (k e : XE) : sSet i k e E = match E[i]? with
  | some (.own ds) => bnd (e E) fun d => bnd (k E) fun n => match n with
    | .int z => match L2.ixN ds.length z with
      | some j => ret (.nx (E.set i (.own (ds.set j d))))
      | none => stuck
    | _ => stuck
  | _ => stuck := id rfl
theorem x_sIf (t : XT) (a b : XS) : sIf t a b E = bnd (t E) fun c => if c = true then a E else b E := id rfl
theorem x_for (it : XA) (tg : Tg) (s : XS) : sFor it tg s E = bnd (it E) fun ds => forL tg s ds E := id rfl
theorem x_ret (e : XE) : sRet e E = bnd (e E) fun d => ret (.rt d) := id rfl
theorem x_retN : sRetN E = ret (.rt .none) := id rfl
theorem x_expr (e : XE) : sExpr e E = bnd (e E) fun _ => ret (.nx E) := id rfl
theorem x_brk : sBreak E = ret (.bk E) := id rfl
theorem x_cnt : sCont E = ret (.ct E) := id rfl
theorem x_fnS (k n : Nat) (s : XS) (ds : List D) : fnS k n s ds = grd (ds.length + 1 = k) (bnd (s (start n (.stm :: ds.map .val))) endOf) := id rfl
theorem x_put1 (i : Nat) (d : D) (E : Env) : Tg.put (.nm i) d E = some (E.set i (.val d)) := id rfl
end
theorem grd_tt {α : Type} (m : W α) : grd (true = true) m = m := grd_pos rfl m
theorem nx_int (i : Int) : noXn (.int i) = true := id rfl
theorem nx_bool (i : Bool) : noXn (.bool i) = true := id rfl
theorem nx_str (i : Str) : noXn (.str i) = true := id rfl
theorem nx_none : noXn .none = true := id rfl
theorem nx_tup (i : List D) : noXn (.tuple i) = true := id rfl
theorem nx_lst (i : List D) : noXn (.list i) = true := id rfl
theorem nx_plain : ∀ {d : D}, plain d = true → noXn d = true
  | .none, _ => rfl
  | .bool _, _ => rfl
  | .int _, _ => rfl
  | .str _, _ => rfl
  | .tuple _, _ => rfl
  | .list _, _ => rfl
  | .dict [], _ => rfl
  | .dict ((.none, _) :: _), h => by simp [plain] at h
  | .dict ((.bool _, _) :: _), _ => rfl
  | .dict ((.int _, _) :: _), _ => rfl
  | .dict ((.str _, _) :: _), _ => rfl
  | .dict ((.list _, _) :: _), _ => rfl
  | .dict ((.tuple _, _) :: _), _ => rfl
  | .dict ((.dict _, _) :: _), _ => rfl
theorem fld_x (n f : Str) (d : D) : fldOf f (xD n [(f, d)]) = ret d := by
  show (if f = f then ret d else stuck) = _
  rw [if_pos rfl]
theorem exn_d (n : Str) (fs : List (Str × D)) : Exn.d ⟨n, fs⟩ = xD n fs := id rfl
/-- ints -/
theorem o_add (a b : Int) : opBin .add (.int a) (.int b) = ret (.int (a + b)) := id rfl
theorem o_sub (a b : Int) : opBin .sub (.int a) (.int b) = ret (.int (a - b)) := id rfl
theorem o_mod (a b : Int) : opBin .mod (.int a) (.int b) = grd (0 < b) (ret (.int (a % b))) := id rfl
theorem o_neg (a : Int) : opNeg (.int a) = ret (.int (-a)) := id rfl
theorem eqv_int (a b : Int) : opEq (.int a) (.int b) = ret (decide (a = b)) := by
  unfold opEq
  rw [grd_pos (eqOk_of rfl rfl)]
  rfl
theorem o_eq (a b : Int) : opCmp .eq (.int a) (.int b) = ret (decide (a = b)) := eqv_int a b
theorem o_ne (a b : Int) : opCmp .ne (.int a) (.int b) = ret (!decide (a = b)) := by
  show bnd (opEq _ _) _ = _
  rw [eqv_int]
  rfl
theorem o_lt (a b : Int) : opCmp .lt (.int a) (.int b) = ret (decide (a < b)) := id rfl
theorem o_le (a b : Int) : opCmp .le (.int a) (.int b) = ret (decide (a ≤ b)) := id rfl
theorem o_gt (a b : Int) : opCmp .gt (.int a) (.int b) = ret (decide (b < a)) := id rfl
theorem o_ge (a b : Int) : opCmp .ge (.int a) (.int b) = ret (decide (b ≤ a)) := id rfl
theorem eqv_str (a b : Str) : opEq (.str a) (.str b) = ret (decide (a = b)) := by
  unfold opEq
  rw [grd_pos (show eqOk (.str a) (.str b) from True.intro)]
  show ret (a == b) = _
  have e : (a == b) = decide (a = b) := by
    rw [Bool.eq_iff_iff]
    simp
  rw [e]
theorem o_eqS (a b : Str) : opCmp .eq (.str a) (.str b) = ret (decide (a = b)) := eqv_str a b
theorem o_neS (a b : Str) : opCmp .ne (.str a) (.str b) = ret (!decide (a = b)) := by
  show bnd (opEq _ _) _ = _
  rw [eqv_str]
  rfl
end DL
end
section
namespace DL
open PySem
/-- tame data, to be shown: at most n items in all, k deep, its ints of at most 45 digits -/
structure Tame (n k : Nat) (d : D) : Prop where
  short : PyData.leavesShort 48 d = true
  able : PyData.showable d = true
  bulk : PyData.bulk d ≤ n
  deep : PyData.depth d ≤ k
  pln : plain d = true
theorem Tame.mono {n k n' k' : Nat} {d : D} (h : Tame n k d) (hn : n ≤ n') (hk : k ≤ k') : Tame n' k' d := ⟨h.short, h.able, Nat.le_trans h.bulk hn, Nat.le_trans h.deep hk, h.pln⟩
structure TameAll (n k : Nat) (ds : List D) : Prop where
  short : PyData.leavesShortAll 48 ds = true
  able : PyData.showableAll ds = true
  bulk : PyData.bulkAll ds ≤ n
  deep : PyData.depthAll ds ≤ k
  pln : plainAll ds = true
theorem TameAll.mono {n k n' k' : Nat} {ds : List D} (h : TameAll n k ds) (hn : n ≤ n') (hk : k ≤ k') : TameAll n' k' ds := ⟨h.short, h.able, Nat.le_trans h.bulk hn, Nat.le_trans h.deep hk, h.pln⟩
theorem deep_ints : ∀ ns : List Int, PyData.depthAll (ns.map PyData.int) = 0
  | [] => rfl
  | _ :: r => by rw [List.map_cons, PyData.depthAll, deep_ints r]; rfl
theorem eqvAll_ints : ∀ a b : List Int, PyData.eqvAll (a.map PyData.int) (b.map PyData.int) = decide (a = b)
  | [], [] => rfl
  | [], _ :: _ => rfl
  | _ :: _, [] => rfl
  | x :: a, y :: b => by
    rw [List.map_cons, List.map_cons, PyData.eqvAll, eqvAll_ints a b]
    have e : PyData.eqv (.int x) (.int y) = decide (x = y) := rfl
    rw [e]
    simp
theorem shp_ints (ns : List Int) : SeqAt.shaped (.tuple (ns.map PyData.int)) = true := by
  unfold SeqAt.shaped
  simp [PyData.canLay0, lay_ints, PyData.depth, deep_ints]
theorem eq_ints (a b : List Int) : opEq (.tuple (a.map PyData.int)) (.tuple (b.map PyData.int)) = ret (decide (a = b)) := by
  unfold opEq
  rw [grd_pos (eqOk_of (shp_ints a) (shp_ints b))]
  show ret (PyData.eqvAll _ _) = _
  rw [eqvAll_ints]
theorem o_eqT (a b : List Int) : opCmp .eq (.tuple (a.map PyData.int)) (.tuple (b.map PyData.int)) = ret (decide (a = b)) := eq_ints a b
theorem o_neT (a b : List Int) : opCmp .ne (.tuple (a.map PyData.int)) (.tuple (b.map PyData.int)) = ret (!decide (a = b)) := by
  show bnd (opEq _ _) _ = _
  rw [eq_ints]
  rfl
theorem shp_of {d : D} (h : PyData.canLay0 d = true) (k : PyData.depth d ≤ 64) : SeqAt.shaped d = true := by
  unfold SeqAt.shaped
  rw [h, decide_eq_true k]
  rfl
section
variable {E : Env} {n k : Nat} {Q : Out → Prop}
theorem Ok.seq {a b : XS} (t : Nat) (R : Env → Prop) (h : Ok (a E) n fun o => match o with | .nx E' => R E' | .rt d => Q (.rt d) | .bk E' => Q (.bk E') | .ct E' => Q (.ct E')) (hn : n ≤ t) (hb : ∀ E', R E' → Ok (b E') (t - n) Q) : Ok (sSeq a b E) t Q := by
  refine Ok.bnd' t h hn fun o ho => ?_
  cases o with
  | nx E' => exact hb E' ho
  | rt d => exact Ok.ret ho
  | bk E' => exact Ok.ret ho
  | ct E' => exact Ok.ret ho
theorem Ok.fn {s : XS} {Q : D → Prop} (h : Ok (s E) n fun o => match o with | .rt d => Q d | .nx _ => Q .none | _ => False) : Ok (DL.bnd (s E) endOf) n Q := by
  refine Ok.bnd' n h (Nat.le_refl _) fun o ho => ?_
  cases o with
  | nx E' => exact Ok.ret ho
  | rt d => exact Ok.ret ho
  | bk E' => exact ho.elim
  | ct E' => exact ho.elim
theorem s_asg (i : Nat) (e : XE) (b : XS) : sSeq (sAsg i e) b E = bnd (e E) fun d => b (E.set i (.val d)) := id rfl
theorem s_par (i j : Nat) (x y : XE) (b : XS) : sSeq (sPar i j x y) b E = bnd (x E) fun v => bnd (y E) fun w => b ((E.set i (.val v)).set j (.val w)) := id rfl
theorem s_own (i : Nat) (e : XE) (b : XS) : sSeq (sOwn i e) b E = bnd (e E) fun d => match d with | .list ds => b (E.set i (.own ds)) | _ => stuck := by
  show bnd (bnd (e E) _) _ = _
  rw [bnd_assoc]
  congr 1
  funext d
  cases d <;> rfl
theorem s_parO (i j : Nat) (x y : XE) (b : XS) : sSeq (sParO i j x y) b E = bnd (x E) fun v => bnd (y E) fun w => match v with | .list ds => b ((E.set i (.own ds)).set j (.val w)) | _ => stuck := by
  show bnd (bnd (x E) _) _ = _
  rw [bnd_assoc]
  congr 1
  funext v
  rw [bnd_assoc]
  congr 1
  funext w
  cases v <;> rfl
theorem s_app (i : Nat) (e : XE) (b : XS) {ds : List D} (h : E[i]? = some (.own ds)) : sSeq (sApp i e) b E = bnd (e E) fun d => grd (small ds.length) (b (E.set i (.own (ds ++ [d])))) := by
  show bnd (sApp i e E) _ = _
  rw [x_app, h]
  rfl
theorem s_put (tg : Tg) (e : XE) (b : XS) : sSeq (sPut tg e) b E = bnd (e E) fun d => match tg.put d E with | some E' => b E' | none => stuck := by
  show bnd (bnd (e E) _) _ = _
  rw [bnd_assoc]
  congr 1
  funext d
  cases tg.put d E <;> rfl
theorem s_expr (e : XE) (b : XS) : sSeq (sExpr e) b E = bnd (e E) fun _ => b E := id rfl
theorem s_ret (e : XE) (b : XS) : sSeq (sRet e) b E = bnd (e E) fun d => ret (.rt d) := id rfl
theorem s_skip (b : XS) : sSeq sSkip b E = b E := id rfl
theorem s_seq (a b c : XS) : sSeq (sSeq a b) c E = sSeq a (sSeq b c) E := by
  show bnd (bnd (a E) _) _ = bnd (a E) _
  rw [bnd_assoc]
  congr 1
  funext o
  cases o <;> rfl
theorem s_if (t : XT) (x y b : XS) : sSeq (sIf t x y) b E = bnd (t E) fun c => if c = true then sSeq x b E else sSeq y b E := by
  show bnd (bnd (t E) _) _ = _
  rw [bnd_assoc]
  congr 1
  funext c
  cases c <;> rfl
theorem s_rel (i : Nat) (s b : XS) : sSeq (sRel i s) b E = match E[i]? with | some (.own ds) => sSeq s b (E.set i (.val (.list ds))) | _ => sSeq s b E := by
  show bnd (sRel i s E) _ = _
  rw [x_rel]
  cases h : E[i]? with
  | none => rfl
  | some y => cases y <;> rfl
theorem b1_if {α β : Type} (c : Bool) (x y : W α) (f : α → W β) : bnd (if c = true then x else y) f = if c = true then bnd x f else bnd y f := by cases c <;> rfl
end
theorem idx_list {ds : List D} {i : Int} (h0 : 0 ≤ i) (h1 : i < ds.length) : opIdx (.list ds) (.int i) = ret (ds[i.toNat]'(by omega)) := by
  show (match L2.atI ds i with | some d => ret d | none => stuck) = _
  have e : L2.atI ds i = some (ds[i.toNat]'(by omega)) := by
    unfold L2.atI L2.ixN
    rw [if_pos h0, if_pos h1]
    exact List.getElem?_eq_getElem _
  rw [e]
theorem idx_intsL {ns : List Int} {i : Int} (h0 : 0 ≤ i) (h1 : i < ns.length) : opIdx (.list (ns.map PyData.int)) (.int i) = ret (.int (ns[i.toNat]'(by omega))) := by
  rw [idx_list h0 (by rw [List.length_map]; exact h1), List.getElem_map]
theorem ixN_ok {n : Nat} {i : Int} (h0 : 0 ≤ i) (h1 : i < n) : L2.ixN n i = some i.toNat := by
  unfold L2.ixN
  rw [if_pos h0, if_pos h1]
theorem ok_comp {β : Type} {it : XA} {tg : Tg} {t : XT} {e : XE} {vs : List Nat} {E : Env} {ds : List D} {b T : Nat} {G : D → Prop} {f : D → W β} {Q : β → Prop} (hit : it E = ret ds) (hl : ds.length ≤ 1000000)
    (hs : ∀ d ∈ ds, ∃ E1, tg.put d (wipeE E vs) = some E1 ∧ t E1 = ret true ∧ Ok (e E1) b G) (hT : ds.length * b ≤ T)
    (hf : ∀ ys : List D, ys.length = ds.length → (∀ d ∈ ys, G d) → Ok (f (.list ys)) (T - ds.length * b) Q) : Ok (DL.bnd (eComp it tg t e vs E) f) T Q := by
  rw [x_comp, hit, bnd_ret, bnd_assoc]
  refine Ok.bnd' T (Ok.noX (comp_ok (G := G) (b := b) ds [] (by simp only [List.length_nil]; omega) (fun d hd => (nomatch hd)) hs)) hT ?_
  rintro ys ⟨h1, h2⟩
  rw [bnd_ret]
  exact hf ys (by rw [h1, List.length_nil, Nat.zero_add]) h2
theorem ints_of {Q : Int → Prop} : ∀ {ds : List D}, (∀ d ∈ ds, ∃ x : Int, d = .int x ∧ Q x) → ∃ ns : List Int, ds = ns.map PyData.int ∧ ∀ x ∈ ns, Q x
  | [], _ => ⟨[], rfl, fun _ h => (nomatch h)⟩
  | d :: ds, h => by
    obtain ⟨x, rfl, hx⟩ := h d (.head _)
    obtain ⟨ns, rfl, hn⟩ := ints_of fun d hd => h d (.tail _ hd)
    refine ⟨x :: ns, rfl, fun y hy => ?_⟩
    rcases List.mem_cons.mp hy with rfl | hy
    · exact hx
    · exact hn y hy
theorem rng_len (a b : Int) : (rng a b).length = (b - a).toNat := by
  unfold rng
  rw [List.length_map, List.length_range]
theorem rng_mem {a b : Int} {d : D} (h : d ∈ rng a b) : ∃ i : Int, d = .int i ∧ a ≤ i ∧ i < b := by
  unfold rng at h
  obtain ⟨i, hi, rfl⟩ := List.mem_map.mp h
  exact ⟨_, rfl, by omega, by have := List.mem_range.mp hi; omega⟩
theorem rng_at {a b : Int} {j : Nat} {d : D} (h : (rng a b)[j]? = some d) : d = .int (a + j) ∧ a + j < b := by
  unfold rng at h
  rw [List.getElem?_map] at h
  cases e : (List.range (b - a).toNat)[j]? with
  | none => rw [e] at h; cases h
  | some i =>
    rw [e] at h
    obtain ⟨h1, h2⟩ := List.getElem?_eq_some_iff.mp e
    rw [List.getElem_range] at h2
    rw [List.length_range] at h1
    subst h2
    cases h
    exact ⟨rfl, by omega⟩
theorem f_fn {k n : Nat} {s : XS} {ds : List D} (h : ds.length = k) : fn k n s ds = bnd (s (start n (ds.map .val))) endOf := grd_pos h _
end DL
end
section
namespace DL
open PySem
/-- a row of words -/
def RowD (most : Int) (d : D) : Prop := ∃ ns : List Int, d = .tuple (ns.map PyData.int) ∧ 1 ≤ ns.length ∧ (ns.length : Int) ≤ most ∧ ∀ x ∈ ns, 1 ≤ x ∧ x ≤ 60
theorem row_drawn_0 {most : Int} (h : 1 ≤ most ∧ most ≤ 24) : Ok (w__law_row_drawn_0 [.int most]) 60 (RowD most) := by
  unfold w__law_row_drawn_0
  rw [x_fnS]
  refine Ok.grd rfl (Ok.fn ?_)
  simp only [x_var, x_con, x_bin, x_neg, x_cmp, x_chain, x_tTru, x_tNot, x_tAnd, x_tOr, x_tBool, x_tYes, x_not, x_and, x_or, x_if, x_b1, x_b2, x_is, x_idx, x_oNone, x_oSome, x_cut, x_aNil, x_aCons, x_tup, x_lst, x_call, x_callS,
    x_iSeq, x_iRng1, x_iRng2, x_bor, x_tBor, x_put1, List.map_cons, List.map_nil, List.cons_append, List.nil_append, List.length_cons, List.length_nil, Nat.zero_add, Nat.reduceAdd, Nat.reduceSub, List.reduceReplicate, start,
    List.getElem?_cons_zero, List.getElem?_cons_succ, List.set_cons_zero, List.set_cons_succ, bnd_ret, bnd_assoc, bnd_grd, b1_if, bnd_ite, small, Nat.reduceLeDiff, grd_true, o_add, o_sub, o_neg, o_eq, o_ne, o_lt, o_le, o_gt, o_ge, o_eqS, o_neS,
    decide_eq_true_eq, reduceIte, decide_true, decide_false, Bool.not_true, Bool.not_false, Bool.false_eq_true, itemsOf, asInt, bi2, endOf, isTy,
    grd_tt, nx_int, nx_bool, nx_str, nx_none, nx_tup, nx_lst, x_isC, x_fld, x_in, x_count, x_lstR, x_tupR, x_raise, x_star, bnd_thr, noX_ret, fld_x, exn_d, eSetO, Out.clear, List.zip_cons_cons, List.zip_nil_left, List.zip_nil_right, s_asg, s_par, s_own, s_parO, s_put, s_expr, s_ret, s_skip, s_seq, s_rel, x_asg, x_par, x_own, x_parO, x_put, x_expr, x_ret, x_retN, x_skip, x_rel, x_app, x_setI, x_sIf, x_for, x_brk, x_cnt]
  refine Ok.drawB (n := 59) (by omega) (by omega) fun r h0 h1 => ?_
  simp only [o_add, bnd_ret]
  refine Ok.drawB (n := 58) (by omega) (by omega) fun way h2 h3 => ?_
  have top : ∃ z : Int, opIdx (PyData.list [PyData.int 3, PyData.int 60, PyData.int 9, PyData.int 2, PyData.int 12, PyData.int 5]) (.int way) = ret (.int z) ∧ 1 ≤ z ∧ z ≤ 60 := by
    obtain rfl | rfl | rfl | rfl | rfl | rfl : way = 0 ∨ way = 1 ∨ way = 2 ∨ way = 3 ∨ way = 4 ∨ way = 5 := by omega
    · exact ⟨3, rfl, by decide⟩
    · exact ⟨60, rfl, by decide⟩
    · exact ⟨9, rfl, by decide⟩
    · exact ⟨2, rfl, by decide⟩
    · exact ⟨12, rfl, by decide⟩
    · exact ⟨5, rfl, by decide⟩
  obtain ⟨z, e, z0, z1⟩ := top
  rw [e, bnd_ret]
  refine ok_comp (ds := rng 0 (1 + r)) (b := 1) (G := fun d => ∃ x : Int, d = .int x ∧ 1 ≤ x ∧ x ≤ 60) ?_ (by rw [rng_len]; omega) ?_ (by rw [rng_len]; omega) ?_
  · simp only [x_var, x_con, x_bin, x_neg, x_cmp, x_chain, x_tTru, x_tNot, x_tAnd, x_tOr, x_tBool, x_tYes, x_not, x_and, x_or, x_if, x_b1, x_b2, x_is, x_idx, x_oNone, x_oSome, x_cut, x_aNil, x_aCons, x_tup, x_lst, x_call, x_callS,
    x_iSeq, x_iRng1, x_iRng2, x_bor, x_tBor, x_put1, List.map_cons, List.map_nil, List.cons_append, List.nil_append, List.length_cons, List.length_nil, Nat.zero_add, Nat.reduceAdd, Nat.reduceSub, List.reduceReplicate, start,
    List.getElem?_cons_zero, List.getElem?_cons_succ, List.set_cons_zero, List.set_cons_succ, bnd_ret, bnd_assoc, bnd_grd, b1_if, bnd_ite, small, Nat.reduceLeDiff, grd_true, o_add, o_sub, o_neg, o_eq, o_ne, o_lt, o_le, o_gt, o_ge, o_eqS, o_neS,
    decide_eq_true_eq, reduceIte, decide_true, decide_false, Bool.not_true, Bool.not_false, Bool.false_eq_true, itemsOf, asInt, bi2, endOf, isTy,
    grd_tt, nx_int, nx_bool, nx_str, nx_none, nx_tup, nx_lst, x_isC, x_fld, x_in, x_count, x_lstR, x_tupR, x_raise, x_star, bnd_thr, noX_ret, fld_x, exn_d, eSetO, Out.clear, List.zip_cons_cons, List.zip_nil_left, List.zip_nil_right]
    exact grd_pos (by unfold rngOk; omega) _
  · intro d hd
    refine ⟨_, rfl, rfl, ?_⟩
    simp only [x_var, x_con, x_bin, x_neg, x_cmp, x_chain, x_tTru, x_tNot, x_tAnd, x_tOr, x_tBool, x_tYes, x_not, x_and, x_or, x_if, x_b1, x_b2, x_is, x_idx, x_oNone, x_oSome, x_cut, x_aNil, x_aCons, x_tup, x_lst, x_call, x_callS,
    x_iSeq, x_iRng1, x_iRng2, x_bor, x_tBor, x_put1, List.map_cons, List.map_nil, List.cons_append, List.nil_append, List.length_cons, List.length_nil, Nat.zero_add, Nat.reduceAdd, Nat.reduceSub, List.reduceReplicate, start,
    List.getElem?_cons_zero, List.getElem?_cons_succ, List.set_cons_zero, List.set_cons_succ, bnd_ret, bnd_assoc, bnd_grd, b1_if, bnd_ite, small, Nat.reduceLeDiff, grd_true, o_add, o_sub, o_neg, o_eq, o_ne, o_lt, o_le, o_gt, o_ge, o_eqS, o_neS,
    decide_eq_true_eq, reduceIte, decide_true, decide_false, Bool.not_true, Bool.not_false, Bool.false_eq_true, itemsOf, asInt, bi2, endOf, isTy,
    grd_tt, nx_int, nx_bool, nx_str, nx_none, nx_tup, nx_lst, x_isC, x_fld, x_in, x_count, x_lstR, x_tupR, x_raise, x_star, bnd_thr, noX_ret, fld_x, exn_d, eSetO, Out.clear, List.zip_cons_cons, List.zip_nil_left, List.zip_nil_right, wipeE]
    refine Ok.drawB (n := 0) (by omega) (by omega) fun x h4 h5 => ?_
    exact Ok.ret ⟨_, rfl, by omega, by omega⟩
  · intro ys hy hG
    obtain ⟨ns, rfl, hn⟩ := ints_of hG
    rw [List.length_map, rng_len] at hy
    rw [rng_len]
    simp only
    refine Ok.seq _ (fun E => ∃ ms : List Int, E = [.stm, .val (.int most), .val (.int (1 + r)), .val (.int way), .val (.int z), .own (ms.map PyData.int), .unk, .unk] ∧ ms.length = (1 + r).toNat ∧ ∀ x ∈ ms, 1 ≤ x ∧ x ≤ 60) (n := 2) ?_ (by omega) ?_
    · simp only [x_var, x_con, x_bin, x_neg, x_cmp, x_chain, x_tTru, x_tNot, x_tAnd, x_tOr, x_tBool, x_tYes, x_not, x_and, x_or, x_if, x_b1, x_b2, x_is, x_idx, x_oNone, x_oSome, x_cut, x_aNil, x_aCons, x_tup, x_lst, x_call, x_callS,
    x_iSeq, x_iRng1, x_iRng2, x_bor, x_tBor, x_put1, List.map_cons, List.map_nil, List.cons_append, List.nil_append, List.length_cons, List.length_nil, Nat.zero_add, Nat.reduceAdd, Nat.reduceSub, List.reduceReplicate, start,
    List.getElem?_cons_zero, List.getElem?_cons_succ, List.set_cons_zero, List.set_cons_succ, bnd_ret, bnd_assoc, bnd_grd, b1_if, bnd_ite, small, Nat.reduceLeDiff, grd_true, o_add, o_sub, o_neg, o_eq, o_ne, o_lt, o_le, o_gt, o_ge, o_eqS, o_neS,
    decide_eq_true_eq, reduceIte, decide_true, decide_false, Bool.not_true, Bool.not_false, Bool.false_eq_true, itemsOf, asInt, bi2, endOf, isTy,
    grd_tt, nx_int, nx_bool, nx_str, nx_none, nx_tup, nx_lst, x_isC, x_fld, x_in, x_count, x_lstR, x_tupR, x_raise, x_star, bnd_thr, noX_ret, fld_x, exn_d, eSetO, Out.clear, List.zip_cons_cons, List.zip_nil_left, List.zip_nil_right, x_sIf, x_skip]
      have stay : Ok (ret (Out.nx [Ent.stm, .val (.int most), .val (.int (1 + r)), .val (.int way), .val (.int z), .own (ns.map PyData.int), .unk, .unk])) 2 fun o => match o with
        | .nx E' => ∃ ms : List Int, E' = [Ent.stm, .val (.int most), .val (.int (1 + r)), .val (.int way), .val (.int z), .own (ms.map PyData.int), .unk, .unk] ∧ ms.length = (1 + r).toNat ∧ ∀ x ∈ ms, 1 ≤ x ∧ x ≤ 60
        | .rt d => RowD most d
        | .bk _ => False
        | .ct _ => False := Ok.ret ⟨ns, rfl, by omega, hn⟩
      have chg : ∀ E, E = [Ent.stm, .val (.int most), .val (.int (1 + r)), .val (.int way), .val (.int z), .own (ns.map PyData.int), .unk, .unk] → Ok (sSet 5 (eCallS fDraw 0 (aCons (eVar 2) aNil)) (eBin Op.add (eCon (PyData.int 1)) (eCallS fDraw 0 (aCons (eCon (PyData.int 60)) aNil))) E) 2 fun o => match o with
        | .nx E' => ∃ ms : List Int, E' = [Ent.stm, .val (.int most), .val (.int (1 + r)), .val (.int way), .val (.int z), .own (ms.map PyData.int), .unk, .unk] ∧ ms.length = (1 + r).toNat ∧ ∀ x ∈ ms, 1 ≤ x ∧ x ≤ 60
        | .rt d => RowD most d
        | .bk _ => False
        | .ct _ => False := by
        rintro E rfl
        simp only [x_var, x_con, x_bin, x_neg, x_cmp, x_chain, x_tTru, x_tNot, x_tAnd, x_tOr, x_tBool, x_tYes, x_not, x_and, x_or, x_if, x_b1, x_b2, x_is, x_idx, x_oNone, x_oSome, x_cut, x_aNil, x_aCons, x_tup, x_lst, x_call, x_callS,
    x_iSeq, x_iRng1, x_iRng2, x_bor, x_tBor, x_put1, List.map_cons, List.map_nil, List.cons_append, List.nil_append, List.length_cons, List.length_nil, Nat.zero_add, Nat.reduceAdd, Nat.reduceSub, List.reduceReplicate, start,
    List.getElem?_cons_zero, List.getElem?_cons_succ, List.set_cons_zero, List.set_cons_succ, bnd_ret, bnd_assoc, bnd_grd, b1_if, bnd_ite, small, Nat.reduceLeDiff, grd_true, o_add, o_sub, o_neg, o_eq, o_ne, o_lt, o_le, o_gt, o_ge, o_eqS, o_neS,
    decide_eq_true_eq, reduceIte, decide_true, decide_false, Bool.not_true, Bool.not_false, Bool.false_eq_true, itemsOf, asInt, bi2, endOf, isTy,
    grd_tt, nx_int, nx_bool, nx_str, nx_none, nx_tup, nx_lst, x_isC, x_fld, x_in, x_count, x_lstR, x_tupR, x_raise, x_star, bnd_thr, noX_ret, fld_x, exn_d, eSetO, Out.clear, List.zip_cons_cons, List.zip_nil_left, List.zip_nil_right, s_asg, s_par, s_own, s_parO, s_put, s_expr, s_ret, s_skip, s_seq, s_rel, x_asg, x_par, x_own, x_parO, x_put, x_expr, x_ret, x_retN, x_skip, x_rel, x_app, x_setI, x_sIf, x_for, x_brk, x_cnt]
        refine Ok.drawB (n := 1) (by omega) (by omega) fun u hu0 hu1 => ?_
        simp only [x_var, x_con, x_bin, x_neg, x_cmp, x_chain, x_tTru, x_tNot, x_tAnd, x_tOr, x_tBool, x_tYes, x_not, x_and, x_or, x_if, x_b1, x_b2, x_is, x_idx, x_oNone, x_oSome, x_cut, x_aNil, x_aCons, x_tup, x_lst, x_call, x_callS,
    x_iSeq, x_iRng1, x_iRng2, x_bor, x_tBor, x_put1, List.map_cons, List.map_nil, List.cons_append, List.nil_append, List.length_cons, List.length_nil, Nat.zero_add, Nat.reduceAdd, Nat.reduceSub, List.reduceReplicate, start,
    List.getElem?_cons_zero, List.getElem?_cons_succ, List.set_cons_zero, List.set_cons_succ, bnd_ret, bnd_assoc, bnd_grd, b1_if, bnd_ite, small, Nat.reduceLeDiff, grd_true, o_add, o_sub, o_neg, o_eq, o_ne, o_lt, o_le, o_gt, o_ge, o_eqS, o_neS,
    decide_eq_true_eq, reduceIte, decide_true, decide_false, Bool.not_true, Bool.not_false, Bool.false_eq_true, itemsOf, asInt, bi2, endOf, isTy,
    grd_tt, nx_int, nx_bool, nx_str, nx_none, nx_tup, nx_lst, x_isC, x_fld, x_in, x_count, x_lstR, x_tupR, x_raise, x_star, bnd_thr, noX_ret, fld_x, exn_d, eSetO, Out.clear, List.zip_cons_cons, List.zip_nil_left, List.zip_nil_right, s_asg, s_par, s_own, s_parO, s_put, s_expr, s_ret, s_skip, s_seq, s_rel, x_asg, x_par, x_own, x_parO, x_put, x_expr, x_ret, x_retN, x_skip, x_rel, x_app, x_setI, x_sIf, x_for, x_brk, x_cnt]
        refine Ok.drawB (n := 0) (by omega) (by omega) fun i hi0 hi1 => ?_
        simp only [x_var, x_con, x_bin, x_neg, x_cmp, x_chain, x_tTru, x_tNot, x_tAnd, x_tOr, x_tBool, x_tYes, x_not, x_and, x_or, x_if, x_b1, x_b2, x_is, x_idx, x_oNone, x_oSome, x_cut, x_aNil, x_aCons, x_tup, x_lst, x_call, x_callS,
    x_iSeq, x_iRng1, x_iRng2, x_bor, x_tBor, x_put1, List.map_cons, List.map_nil, List.cons_append, List.nil_append, List.length_cons, List.length_nil, Nat.zero_add, Nat.reduceAdd, Nat.reduceSub, List.reduceReplicate, start,
    List.getElem?_cons_zero, List.getElem?_cons_succ, List.set_cons_zero, List.set_cons_succ, bnd_ret, bnd_assoc, bnd_grd, b1_if, bnd_ite, small, Nat.reduceLeDiff, grd_true, o_add, o_sub, o_neg, o_eq, o_ne, o_lt, o_le, o_gt, o_ge, o_eqS, o_neS,
    decide_eq_true_eq, reduceIte, decide_true, decide_false, Bool.not_true, Bool.not_false, Bool.false_eq_true, itemsOf, asInt, bi2, endOf, isTy,
    grd_tt, nx_int, nx_bool, nx_str, nx_none, nx_tup, nx_lst, x_isC, x_fld, x_in, x_count, x_lstR, x_tupR, x_raise, x_star, bnd_thr, noX_ret, fld_x, exn_d, eSetO, Out.clear, List.zip_cons_cons, List.zip_nil_left, List.zip_nil_right, s_asg, s_par, s_own, s_parO, s_put, s_expr, s_ret, s_skip, s_seq, s_rel, x_asg, x_par, x_own, x_parO, x_put, x_expr, x_ret, x_retN, x_skip, x_rel, x_app, x_setI, x_sIf, x_for, x_brk, x_cnt]
        rw [ixN_ok hi0 (by rw [List.length_map, hy]; omega)]
        refine Ok.ret ⟨ns.set i.toNat (1 + u), by rw [List.map_set], by rw [List.length_set]; omega, fun x hx => ?_⟩
        rcases List.mem_or_eq_of_mem_set hx with h | h
        · exact hn x h
        · omega
      refine Ok.ite (fun _ => ?_) fun _ => ?_
      · exact chg _ rfl
      · refine Ok.ite (fun _ => ?_) fun _ => ?_
        · exact chg _ rfl
        · exact stay
    · rintro E ⟨ms, rfl, hl, hm⟩
      refine Ok.seq _ (fun E => ∃ (ms : List Int) (e6 e7 : Ent), E = [.stm, .val (.int most), .val (.int (1 + r)), .val (.int way), .val (.int z), .own (ms.map PyData.int), e6, e7] ∧ ms.length = (1 + r).toNat ∧ ∀ x ∈ ms, 1 ≤ x ∧ x ≤ 60) (n := 1) ?_ (by omega) ?_
      · simp only [x_var, x_con, x_bin, x_neg, x_cmp, x_chain, x_tTru, x_tNot, x_tAnd, x_tOr, x_tBool, x_tYes, x_not, x_and, x_or, x_if, x_b1, x_b2, x_is, x_idx, x_oNone, x_oSome, x_cut, x_aNil, x_aCons, x_tup, x_lst, x_call, x_callS,
    x_iSeq, x_iRng1, x_iRng2, x_bor, x_tBor, x_put1, List.map_cons, List.map_nil, List.cons_append, List.nil_append, List.length_cons, List.length_nil, Nat.zero_add, Nat.reduceAdd, Nat.reduceSub, List.reduceReplicate, start,
    List.getElem?_cons_zero, List.getElem?_cons_succ, List.set_cons_zero, List.set_cons_succ, bnd_ret, bnd_assoc, bnd_grd, b1_if, bnd_ite, small, Nat.reduceLeDiff, grd_true, o_add, o_sub, o_neg, o_eq, o_ne, o_lt, o_le, o_gt, o_ge, o_eqS, o_neS,
    decide_eq_true_eq, reduceIte, decide_true, decide_false, Bool.not_true, Bool.not_false, Bool.false_eq_true, itemsOf, asInt, bi2, endOf, isTy,
    grd_tt, nx_int, nx_bool, nx_str, nx_none, nx_tup, nx_lst, x_isC, x_fld, x_in, x_count, x_lstR, x_tupR, x_raise, x_star, bnd_thr, noX_ret, fld_x, exn_d, eSetO, Out.clear, List.zip_cons_cons, List.zip_nil_left, List.zip_nil_right, s_asg, s_par, s_own, s_parO, s_put, s_expr, s_ret, s_skip, s_seq, s_rel, x_asg, x_par, x_own, x_parO, x_put, x_expr, x_ret, x_retN, x_skip, x_rel, x_app, x_setI, x_sIf, x_for, x_brk, x_cnt]
        refine Ok.ite (fun _ => ?_) fun _ => Ok.ret ⟨ms, _, _, rfl, hl, hm⟩
        refine Ok.drawB (n := 0) (by split <;> omega) (by split <;> omega) fun u hu0 hu1 => ?_
        simp only [x_var, x_con, x_bin, x_neg, x_cmp, x_chain, x_tTru, x_tNot, x_tAnd, x_tOr, x_tBool, x_tYes, x_not, x_and, x_or, x_if, x_b1, x_b2, x_is, x_idx, x_oNone, x_oSome, x_cut, x_aNil, x_aCons, x_tup, x_lst, x_call, x_callS,
    x_iSeq, x_iRng1, x_iRng2, x_bor, x_tBor, x_put1, List.map_cons, List.map_nil, List.cons_append, List.nil_append, List.length_cons, List.length_nil, Nat.zero_add, Nat.reduceAdd, Nat.reduceSub, List.reduceReplicate, start,
    List.getElem?_cons_zero, List.getElem?_cons_succ, List.set_cons_zero, List.set_cons_succ, bnd_ret, bnd_assoc, bnd_grd, b1_if, bnd_ite, small, Nat.reduceLeDiff, grd_true, o_add, o_sub, o_neg, o_eq, o_ne, o_lt, o_le, o_gt, o_ge, o_eqS, o_neS,
    decide_eq_true_eq, reduceIte, decide_true, decide_false, Bool.not_true, Bool.not_false, Bool.false_eq_true, itemsOf, asInt, bi2, endOf, isTy,
    grd_tt, nx_int, nx_bool, nx_str, nx_none, nx_tup, nx_lst, x_isC, x_fld, x_in, x_count, x_lstR, x_tupR, x_raise, x_star, bnd_thr, noX_ret, fld_x, exn_d, eSetO, Out.clear, List.zip_cons_cons, List.zip_nil_left, List.zip_nil_right, s_asg, s_par, s_own, s_parO, s_put, s_expr, s_ret, s_skip, s_seq, s_rel, x_asg, x_par, x_own, x_parO, x_put, x_expr, x_ret, x_retN, x_skip, x_rel, x_app, x_setI, x_sIf, x_for, x_brk, x_cnt]
        refine ok_comp (ds := rng 0 (1 + r)) (b := 0) (G := fun d => ∃ x : Int, d = .int x ∧ 1 ≤ x ∧ x ≤ 60) ?_ (by rw [rng_len]; omega) ?_ (Nat.le_refl _) ?_
        · simp only [x_var, x_con, x_bin, x_neg, x_cmp, x_chain, x_tTru, x_tNot, x_tAnd, x_tOr, x_tBool, x_tYes, x_not, x_and, x_or, x_if, x_b1, x_b2, x_is, x_idx, x_oNone, x_oSome, x_cut, x_aNil, x_aCons, x_tup, x_lst, x_call, x_callS,
    x_iSeq, x_iRng1, x_iRng2, x_bor, x_tBor, x_put1, List.map_cons, List.map_nil, List.cons_append, List.nil_append, List.length_cons, List.length_nil, Nat.zero_add, Nat.reduceAdd, Nat.reduceSub, List.reduceReplicate, start,
    List.getElem?_cons_zero, List.getElem?_cons_succ, List.set_cons_zero, List.set_cons_succ, bnd_ret, bnd_assoc, bnd_grd, b1_if, bnd_ite, small, Nat.reduceLeDiff, grd_true, o_add, o_sub, o_neg, o_eq, o_ne, o_lt, o_le, o_gt, o_ge, o_eqS, o_neS,
    decide_eq_true_eq, reduceIte, decide_true, decide_false, Bool.not_true, Bool.not_false, Bool.false_eq_true, itemsOf, asInt, bi2, endOf, isTy,
    grd_tt, nx_int, nx_bool, nx_str, nx_none, nx_tup, nx_lst, x_isC, x_fld, x_in, x_count, x_lstR, x_tupR, x_raise, x_star, bnd_thr, noX_ret, fld_x, exn_d, eSetO, Out.clear, List.zip_cons_cons, List.zip_nil_left, List.zip_nil_right]
          exact grd_pos (by unfold rngOk; omega) _
        · intro d hd
          obtain ⟨i, rfl, hi0, hi1⟩ := rng_mem hd
          refine ⟨_, rfl, rfl, ?_⟩
          simp only [x_var, x_con, x_bin, x_neg, x_cmp, x_chain, x_tTru, x_tNot, x_tAnd, x_tOr, x_tBool, x_tYes, x_not, x_and, x_or, x_if, x_b1, x_b2, x_is, x_idx, x_oNone, x_oSome, x_cut, x_aNil, x_aCons, x_tup, x_lst, x_call, x_callS,
    x_iSeq, x_iRng1, x_iRng2, x_bor, x_tBor, x_put1, List.map_cons, List.map_nil, List.cons_append, List.nil_append, List.length_cons, List.length_nil, Nat.zero_add, Nat.reduceAdd, Nat.reduceSub, List.reduceReplicate, start,
    List.getElem?_cons_zero, List.getElem?_cons_succ, List.set_cons_zero, List.set_cons_succ, bnd_ret, bnd_assoc, bnd_grd, b1_if, bnd_ite, small, Nat.reduceLeDiff, grd_true, o_add, o_sub, o_neg, o_eq, o_ne, o_lt, o_le, o_gt, o_ge, o_eqS, o_neS,
    decide_eq_true_eq, reduceIte, decide_true, decide_false, Bool.not_true, Bool.not_false, Bool.false_eq_true, itemsOf, asInt, bi2, endOf, isTy,
    grd_tt, nx_int, nx_bool, nx_str, nx_none, nx_tup, nx_lst, x_isC, x_fld, x_in, x_count, x_lstR, x_tupR, x_raise, x_star, bnd_thr, noX_ret, fld_x, exn_d, eSetO, Out.clear, List.zip_cons_cons, List.zip_nil_left, List.zip_nil_right, wipeE, o_mod]
          refine Ok.grd (by omega) ?_
          have hlt : i % (1 + u) < ms.length := by
            have := Int.emod_lt_of_pos i (show 0 < 1 + u by omega)
            have hb : 1 + u ≤ 1 + r := by split at hu1 <;> omega
            omega
          rw [idx_intsL (Int.emod_nonneg _ (by omega)) hlt]
          exact Ok.ret ⟨_, rfl, hm _ (List.getElem_mem _)⟩
        · intro ys hy2 hG2
          obtain ⟨ms2, rfl, hm2⟩ := ints_of hG2
          rw [List.length_map, rng_len] at hy2
          exact Ok.ret ⟨ms2, _, _, rfl, by omega, hm2⟩
      · rintro E ⟨ms, e6, e7, rfl, hl, hm⟩
        simp only [x_var, x_con, x_bin, x_neg, x_cmp, x_chain, x_tTru, x_tNot, x_tAnd, x_tOr, x_tBool, x_tYes, x_not, x_and, x_or, x_if, x_b1, x_b2, x_is, x_idx, x_oNone, x_oSome, x_cut, x_aNil, x_aCons, x_tup, x_lst, x_call, x_callS,
    x_iSeq, x_iRng1, x_iRng2, x_bor, x_tBor, x_put1, List.map_cons, List.map_nil, List.cons_append, List.nil_append, List.length_cons, List.length_nil, Nat.zero_add, Nat.reduceAdd, Nat.reduceSub, List.reduceReplicate, start,
    List.getElem?_cons_zero, List.getElem?_cons_succ, List.set_cons_zero, List.set_cons_succ, bnd_ret, bnd_assoc, bnd_grd, b1_if, bnd_ite, small, Nat.reduceLeDiff, grd_true, o_add, o_sub, o_neg, o_eq, o_ne, o_lt, o_le, o_gt, o_ge, o_eqS, o_neS,
    decide_eq_true_eq, reduceIte, decide_true, decide_false, Bool.not_true, Bool.not_false, Bool.false_eq_true, itemsOf, asInt, bi2, endOf, isTy,
    grd_tt, nx_int, nx_bool, nx_str, nx_none, nx_tup, nx_lst, x_isC, x_fld, x_in, x_count, x_lstR, x_tupR, x_raise, x_star, bnd_thr, noX_ret, fld_x, exn_d, eSetO, Out.clear, List.zip_cons_cons, List.zip_nil_left, List.zip_nil_right, s_asg, s_par, s_own, s_parO, s_put, s_expr, s_ret, s_skip, s_seq, s_rel, x_asg, x_par, x_own, x_parO, x_put, x_expr, x_ret, x_retN, x_skip, x_rel, x_app, x_setI, x_sIf, x_for, x_brk, x_cnt]
        exact Ok.ret ⟨ms, rfl, by omega, by omega, hm⟩
end DL
end
section
namespace DL
open PySem
/-- the extent of a stretch -/
def ext (ns : List Int) (i j : Nat) : Int := ((ns.drop i).take (j + 1 - i)).sum + j - i
theorem cut_nat (ds : List D) (i j : Nat) (hi : i ≤ ds.length) (hj : j ≤ ds.length) : DL.cut ds (some (i : Int)) (some (j : Int)) = (ds.drop i).take (j - i) := by
  unfold DL.cut
  rw [HT.sIx_nat, HT.sIx_nat, Nat.min_eq_left hi, Nat.min_eq_left hj]
theorem sum_ints (ns : List Int) : bi1 .sum (.tuple (ns.map PyData.int)) = ret (.int ns.sum) := by
  show bnd (intsOf (.tuple (ns.map PyData.int))) _ = _
  simp only [intsOf, itemsOf, bnd_ret, ints?_map]
theorem extent_of_0 {ns : List Int} {i j : Nat} (h : i ≤ j) (hj : j < ns.length) : w_extent_of_0 [.tuple (ns.map PyData.int), .int i, .int j] = ret (.int (ext ns i j)) := by
  unfold w_extent_of_0
  refine (f_fn (by rfl)).trans ?_
  simp only [x_var, x_con, x_bin, x_neg, x_cmp, x_chain, x_tTru, x_tNot, x_tAnd, x_tOr, x_tBool, x_tYes, x_not, x_and, x_or, x_if, x_b1, x_b2, x_is, x_idx, x_oNone, x_oSome, x_cut, x_aNil, x_aCons, x_tup, x_lst, x_call, x_callS,
    x_iSeq, x_iRng1, x_iRng2, x_bor, x_tBor, x_put1, List.map_cons, List.map_nil, List.cons_append, List.nil_append, List.length_cons, List.length_nil, Nat.zero_add, Nat.reduceAdd, Nat.reduceSub, List.reduceReplicate, start,
    List.getElem?_cons_zero, List.getElem?_cons_succ, List.set_cons_zero, List.set_cons_succ, bnd_ret, bnd_assoc, bnd_grd, b1_if, bnd_ite, small, Nat.reduceLeDiff, grd_true, o_add, o_sub, o_neg, o_eq, o_ne, o_lt, o_le, o_gt, o_ge, o_eqS, o_neS,
    decide_eq_true_eq, reduceIte, decide_true, decide_false, Bool.not_true, Bool.not_false, Bool.false_eq_true, itemsOf, asInt, bi2, endOf, isTy,
    grd_tt, nx_int, nx_bool, nx_str, nx_none, nx_tup, nx_lst, x_isC, x_fld, x_in, x_count, x_lstR, x_tupR, x_raise, x_star, bnd_thr, noX_ret, fld_x, exn_d, eSetO, Out.clear, List.zip_cons_cons, List.zip_nil_left, List.zip_nil_right, s_asg, s_par, s_own, s_parO, s_put, s_expr, s_ret, s_skip, s_seq, s_rel, x_asg, x_par, x_own, x_parO, x_put, x_expr, x_ret, x_retN, x_skip, x_rel, x_app, x_setI, x_sIf, x_for, x_brk, x_cnt, opCut]
  rw [show ((j : Int) + 1) = ((j + 1 : Nat) : Int) by omega, cut_nat _ i (j + 1) (by rw [List.length_map]; omega) (by rw [List.length_map]; omega), ← List.map_drop, ← List.map_take, sum_ints]
  simp only [x_var, x_con, x_bin, x_neg, x_cmp, x_chain, x_tTru, x_tNot, x_tAnd, x_tOr, x_tBool, x_tYes, x_not, x_and, x_or, x_if, x_b1, x_b2, x_is, x_idx, x_oNone, x_oSome, x_cut, x_aNil, x_aCons, x_tup, x_lst, x_call, x_callS,
    x_iSeq, x_iRng1, x_iRng2, x_bor, x_tBor, x_put1, List.map_cons, List.map_nil, List.cons_append, List.nil_append, List.length_cons, List.length_nil, Nat.zero_add, Nat.reduceAdd, Nat.reduceSub, List.reduceReplicate, start,
    List.getElem?_cons_zero, List.getElem?_cons_succ, List.set_cons_zero, List.set_cons_succ, bnd_ret, bnd_assoc, bnd_grd, b1_if, bnd_ite, small, Nat.reduceLeDiff, grd_true, o_add, o_sub, o_neg, o_eq, o_ne, o_lt, o_le, o_gt, o_ge, o_eqS, o_neS,
    decide_eq_true_eq, reduceIte, decide_true, decide_false, Bool.not_true, Bool.not_false, Bool.false_eq_true, itemsOf, asInt, bi2, endOf, isTy,
    grd_tt, nx_int, nx_bool, nx_str, nx_none, nx_tup, nx_lst, x_isC, x_fld, x_in, x_count, x_lstR, x_tupR, x_raise, x_star, bnd_thr, noX_ret, fld_x, exn_d, eSetO, Out.clear, List.zip_cons_cons, List.zip_nil_left, List.zip_nil_right, s_asg, s_par, s_own, s_parO, s_put, s_expr, s_ret, s_skip, s_seq, s_rel, x_asg, x_par, x_own, x_parO, x_put, x_expr, x_ret, x_retN, x_skip, x_rel, x_app, x_setI, x_sIf, x_for, x_brk, x_cnt]
  unfold ext
  rfl
theorem ext_self {ns : List Int} {i : Nat} {x : Int} (h : ns[i]? = some x) : ext ns i i = x := by
  unfold ext
  obtain ⟨hl, e⟩ := List.getElem?_eq_some_iff.mp h
  rw [show i + 1 - i = 1 by omega, List.drop_eq_getElem_cons hl, e]
  simp
theorem ext_next {ns : List Int} {i j : Nat} {x : Int} (hij : i ≤ j) (h : ns[j + 1]? = some x) : ext ns i (j + 1) = ext ns i j + 1 + x := by
  unfold ext
  have e : ((ns.drop i).take (j + 1 + 1 - i)) = (ns.drop i).take (j + 1 - i) ++ [x] := by
    rw [show j + 1 + 1 - i = (j + 1 - i) + 1 by omega, List.take_succ, List.getElem?_drop, show i + (j + 1 - i) = j + 1 by omega, h]
    rfl
  rw [e, List.sum_append]
  simp
  omega
theorem sum_bound : ∀ {ns : List Int} {b : Int}, 0 ≤ b → (∀ x ∈ ns, 0 ≤ x ∧ x ≤ b) → 0 ≤ ns.sum ∧ ns.sum ≤ b * ns.length
  | [], b, _, _ => by simp
  | x :: ns, b, hb, h => by
    have := sum_bound hb fun y hy => h y (.tail _ hy)
    have hx := h x (.head _)
    rw [List.sum_cons, List.length_cons]
    have e : b * ((ns.length + 1 : Nat) : Int) = b * ns.length + b := by rw [Int.natCast_add, Int.mul_add]; simp
    omega
end DL
end
section
namespace DL
open PySem
/-- a while that draws nothing: so many turns, from here to there -/
inductive Runs (t : XT) (s : XS) : Nat → Env → Env → Prop
  | stop {E : Env} : t E = ret false → Runs t s 0 E E
  | turn {k : Nat} {E E' E2 : Env} : t E = ret true → s E = ret (.nx E') → Runs t s k E' E2 → Runs t s (k + 1) E E2
theorem Runs.at_ {t : XT} {s : XS} : ∀ {k : Nat} {E E2 : Env}, Runs t s k E E2 → ∀ n, whileL t s n E = if k < n then ret (.nx E2) else stuck
  | _, _, _, _, 0 => by simp [whileL]
  | _, E, _, .stop h, n + 1 => by
    show bnd (t E) _ = _
    rw [h, bnd_ret, if_neg (by decide), if_pos (Nat.succ_pos n)]
  | _, E, _, .turn (k := k) (E' := E') h1 h2 r, n + 1 => by
    show bnd (t E) _ = _
    rw [h1, bnd_ret, if_pos rfl, h2, bnd_ret]
    show whileL t s n E' = _
    rw [Runs.at_ r n]
    by_cases h : k < n
    · rw [if_pos h, if_pos (by omega)]
    · rw [if_neg h, if_neg (by omega)]
theorem Runs.eq {t : XT} {s : XS} {k : Nat} {E E2 : Env} (r : Runs t s k E E2) : sWhile t s E = ret (.nx E2) := by
  funext c P X
  show (∃ n, whileL t s n E c P X) = _
  refine propext ⟨fun ⟨n, h⟩ => ?_, fun h => ⟨k + 1, ?_⟩⟩
  · rw [r.at_ n] at h
    split at h
    · exact h
    · exact h.elim
  · rw [r.at_ (k + 1), if_pos (Nat.lt_succ_self k)]
    exact h
/-- the least place from j on whose stretch from i on is too long, or the end -/
def nxFrom (ns : List Int) (w : Int) (i : Nat) : Nat → Nat → Nat
  | 0, j => j
  | f + 1, j => if j < ns.length ∧ ext ns i j ≤ w then nxFrom ns w i f (j + 1) else j
def nx (ns : List Int) (w : Int) (i : Nat) : Nat := nxFrom ns w i (ns.length - i) (i + 1)
theorem extent_ofZ {ns : List Int} {i j : Nat} (h : i ≤ j) (hj : j < ns.length) : w_extent_of_0 [.tuple (ns.map PyData.int), .int (i : Int), .int (j : Int)] = ret (.int (ext ns i j)) := extent_of_0 h hj
theorem next_start_runs {ns : List Int} {w : Int} {i : Nat} : ∀ (f j : Nat), i ≤ j → ns.length ≤ j + f → j ≤ ns.length → ∃ k, Runs (tAnd (tBool (eCmp .lt (eVar 3) (eB1 .len (eVar 0)))) (tBool (eCmp .le (eCall w_extent_of_0 (aCons (eVar 0) (aCons (eVar 2) (aCons (eVar 3) (aNil))))) (eVar 1))))
      (sAsg 3 (eBin .add (eVar 3) (eCon (.int 1)))) k [.val (.tuple (ns.map PyData.int)), .val (.int w), .val (.int i), .val (.int j)] [.val (.tuple (ns.map PyData.int)), .val (.int w), .val (.int i), .val (.int (nxFrom ns w i f j))]
  | 0, j, hij, hf, hj => by
    refine ⟨0, .stop ?_⟩
    simp only [x_var, x_con, x_bin, x_neg, x_cmp, x_chain, x_tTru, x_tNot, x_tAnd, x_tOr, x_tBool, x_tYes, x_not, x_and, x_or, x_if, x_b1, x_b2, x_is, x_idx, x_oNone, x_oSome, x_cut, x_aNil, x_aCons, x_tup, x_lst, x_call, x_callS,
    x_iSeq, x_iRng1, x_iRng2, x_bor, x_tBor, x_put1, List.map_cons, List.map_nil, List.cons_append, List.nil_append, List.length_cons, List.length_nil, Nat.zero_add, Nat.reduceAdd, Nat.reduceSub, List.reduceReplicate, start,
    List.getElem?_cons_zero, List.getElem?_cons_succ, List.set_cons_zero, List.set_cons_succ, bnd_ret, bnd_assoc, bnd_grd, b1_if, bnd_ite, small, Nat.reduceLeDiff, grd_true, o_add, o_sub, o_neg, o_eq, o_ne, o_lt, o_le, o_gt, o_ge, o_eqS, o_neS,
    decide_eq_true_eq, reduceIte, decide_true, decide_false, Bool.not_true, Bool.not_false, Bool.false_eq_true, itemsOf, asInt, bi2, endOf, isTy,
    grd_tt, nx_int, nx_bool, nx_str, nx_none, nx_tup, nx_lst, x_isC, x_fld, x_in, x_count, x_lstR, x_tupR, x_raise, x_star, bnd_thr, noX_ret, fld_x, exn_d, eSetO, Out.clear, List.zip_cons_cons, List.zip_nil_left, List.zip_nil_right, bi1, List.length_map]
    rw [if_neg (by omega)]
  | f + 1, j, hij, hf, hj => by
    by_cases h : j < ns.length ∧ ext ns i j ≤ w
    · obtain ⟨k, r⟩ := next_start_runs (ns := ns) (w := w) (i := i) f (j + 1) (by omega) (by omega) (by omega)
      refine ⟨k + 1, .turn (E' := [.val (.tuple (ns.map PyData.int)), .val (.int w), .val (.int i), .val (.int ((j + 1 : Nat) : Int))]) ?_ ?_ ?_⟩
      · simp only [x_var, x_con, x_bin, x_neg, x_cmp, x_chain, x_tTru, x_tNot, x_tAnd, x_tOr, x_tBool, x_tYes, x_not, x_and, x_or, x_if, x_b1, x_b2, x_is, x_idx, x_oNone, x_oSome, x_cut, x_aNil, x_aCons, x_tup, x_lst, x_call, x_callS,
    x_iSeq, x_iRng1, x_iRng2, x_bor, x_tBor, x_put1, List.map_cons, List.map_nil, List.cons_append, List.nil_append, List.length_cons, List.length_nil, Nat.zero_add, Nat.reduceAdd, Nat.reduceSub, List.reduceReplicate, start,
    List.getElem?_cons_zero, List.getElem?_cons_succ, List.set_cons_zero, List.set_cons_succ, bnd_ret, bnd_assoc, bnd_grd, b1_if, bnd_ite, small, Nat.reduceLeDiff, grd_true, o_add, o_sub, o_neg, o_eq, o_ne, o_lt, o_le, o_gt, o_ge, o_eqS, o_neS,
    decide_eq_true_eq, reduceIte, decide_true, decide_false, Bool.not_true, Bool.not_false, Bool.false_eq_true, itemsOf, asInt, bi2, endOf, isTy,
    grd_tt, nx_int, nx_bool, nx_str, nx_none, nx_tup, nx_lst, x_isC, x_fld, x_in, x_count, x_lstR, x_tupR, x_raise, x_star, bnd_thr, noX_ret, fld_x, exn_d, eSetO, Out.clear, List.zip_cons_cons, List.zip_nil_left, List.zip_nil_right, bi1, List.length_map]
        rw [if_pos (by omega), extent_ofZ hij h.1]
        simp only [x_var, x_con, x_bin, x_neg, x_cmp, x_chain, x_tTru, x_tNot, x_tAnd, x_tOr, x_tBool, x_tYes, x_not, x_and, x_or, x_if, x_b1, x_b2, x_is, x_idx, x_oNone, x_oSome, x_cut, x_aNil, x_aCons, x_tup, x_lst, x_call, x_callS,
    x_iSeq, x_iRng1, x_iRng2, x_bor, x_tBor, x_put1, List.map_cons, List.map_nil, List.cons_append, List.nil_append, List.length_cons, List.length_nil, Nat.zero_add, Nat.reduceAdd, Nat.reduceSub, List.reduceReplicate, start,
    List.getElem?_cons_zero, List.getElem?_cons_succ, List.set_cons_zero, List.set_cons_succ, bnd_ret, bnd_assoc, bnd_grd, b1_if, bnd_ite, small, Nat.reduceLeDiff, grd_true, o_add, o_sub, o_neg, o_eq, o_ne, o_lt, o_le, o_gt, o_ge, o_eqS, o_neS,
    decide_eq_true_eq, reduceIte, decide_true, decide_false, Bool.not_true, Bool.not_false, Bool.false_eq_true, itemsOf, asInt, bi2, endOf, isTy,
    grd_tt, nx_int, nx_bool, nx_str, nx_none, nx_tup, nx_lst, x_isC, x_fld, x_in, x_count, x_lstR, x_tupR, x_raise, x_star, bnd_thr, noX_ret, fld_x, exn_d, eSetO, Out.clear, List.zip_cons_cons, List.zip_nil_left, List.zip_nil_right]
        rw [decide_eq_true h.2]
      · simp only [x_var, x_con, x_bin, x_neg, x_cmp, x_chain, x_tTru, x_tNot, x_tAnd, x_tOr, x_tBool, x_tYes, x_not, x_and, x_or, x_if, x_b1, x_b2, x_is, x_idx, x_oNone, x_oSome, x_cut, x_aNil, x_aCons, x_tup, x_lst, x_call, x_callS,
    x_iSeq, x_iRng1, x_iRng2, x_bor, x_tBor, x_put1, List.map_cons, List.map_nil, List.cons_append, List.nil_append, List.length_cons, List.length_nil, Nat.zero_add, Nat.reduceAdd, Nat.reduceSub, List.reduceReplicate, start,
    List.getElem?_cons_zero, List.getElem?_cons_succ, List.set_cons_zero, List.set_cons_succ, bnd_ret, bnd_assoc, bnd_grd, b1_if, bnd_ite, small, Nat.reduceLeDiff, grd_true, o_add, o_sub, o_neg, o_eq, o_ne, o_lt, o_le, o_gt, o_ge, o_eqS, o_neS,
    decide_eq_true_eq, reduceIte, decide_true, decide_false, Bool.not_true, Bool.not_false, Bool.false_eq_true, itemsOf, asInt, bi2, endOf, isTy,
    grd_tt, nx_int, nx_bool, nx_str, nx_none, nx_tup, nx_lst, x_isC, x_fld, x_in, x_count, x_lstR, x_tupR, x_raise, x_star, bnd_thr, noX_ret, fld_x, exn_d, eSetO, Out.clear, List.zip_cons_cons, List.zip_nil_left, List.zip_nil_right, s_asg, s_par, s_own, s_parO, s_put, s_expr, s_ret, s_skip, s_seq, s_rel, x_asg, x_par, x_own, x_parO, x_put, x_expr, x_ret, x_retN, x_skip, x_rel, x_app, x_setI, x_sIf, x_for, x_brk, x_cnt]
        rfl
      · have e : nxFrom ns w i (f + 1) j = nxFrom ns w i f (j + 1) := by
          show (if j < ns.length ∧ ext ns i j ≤ w then nxFrom ns w i f (j + 1) else j) = _
          rw [if_pos h]
        rw [e]
        exact r
    · have e : nxFrom ns w i (f + 1) j = j := by
        show (if j < ns.length ∧ ext ns i j ≤ w then nxFrom ns w i f (j + 1) else j) = _
        rw [if_neg h]
      rw [e]
      refine ⟨0, .stop ?_⟩
      simp only [x_var, x_con, x_bin, x_neg, x_cmp, x_chain, x_tTru, x_tNot, x_tAnd, x_tOr, x_tBool, x_tYes, x_not, x_and, x_or, x_if, x_b1, x_b2, x_is, x_idx, x_oNone, x_oSome, x_cut, x_aNil, x_aCons, x_tup, x_lst, x_call, x_callS,
    x_iSeq, x_iRng1, x_iRng2, x_bor, x_tBor, x_put1, List.map_cons, List.map_nil, List.cons_append, List.nil_append, List.length_cons, List.length_nil, Nat.zero_add, Nat.reduceAdd, Nat.reduceSub, List.reduceReplicate, start,
    List.getElem?_cons_zero, List.getElem?_cons_succ, List.set_cons_zero, List.set_cons_succ, bnd_ret, bnd_assoc, bnd_grd, b1_if, bnd_ite, small, Nat.reduceLeDiff, grd_true, o_add, o_sub, o_neg, o_eq, o_ne, o_lt, o_le, o_gt, o_ge, o_eqS, o_neS,
    decide_eq_true_eq, reduceIte, decide_true, decide_false, Bool.not_true, Bool.not_false, Bool.false_eq_true, itemsOf, asInt, bi2, endOf, isTy,
    grd_tt, nx_int, nx_bool, nx_str, nx_none, nx_tup, nx_lst, x_isC, x_fld, x_in, x_count, x_lstR, x_tupR, x_raise, x_star, bnd_thr, noX_ret, fld_x, exn_d, eSetO, Out.clear, List.zip_cons_cons, List.zip_nil_left, List.zip_nil_right, bi1, List.length_map]
      by_cases hl : j < ns.length
      · rw [if_pos (by omega), extent_ofZ hij hl]
        simp only [x_var, x_con, x_bin, x_neg, x_cmp, x_chain, x_tTru, x_tNot, x_tAnd, x_tOr, x_tBool, x_tYes, x_not, x_and, x_or, x_if, x_b1, x_b2, x_is, x_idx, x_oNone, x_oSome, x_cut, x_aNil, x_aCons, x_tup, x_lst, x_call, x_callS,
    x_iSeq, x_iRng1, x_iRng2, x_bor, x_tBor, x_put1, List.map_cons, List.map_nil, List.cons_append, List.nil_append, List.length_cons, List.length_nil, Nat.zero_add, Nat.reduceAdd, Nat.reduceSub, List.reduceReplicate, start,
    List.getElem?_cons_zero, List.getElem?_cons_succ, List.set_cons_zero, List.set_cons_succ, bnd_ret, bnd_assoc, bnd_grd, b1_if, bnd_ite, small, Nat.reduceLeDiff, grd_true, o_add, o_sub, o_neg, o_eq, o_ne, o_lt, o_le, o_gt, o_ge, o_eqS, o_neS,
    decide_eq_true_eq, reduceIte, decide_true, decide_false, Bool.not_true, Bool.not_false, Bool.false_eq_true, itemsOf, asInt, bi2, endOf, isTy,
    grd_tt, nx_int, nx_bool, nx_str, nx_none, nx_tup, nx_lst, x_isC, x_fld, x_in, x_count, x_lstR, x_tupR, x_raise, x_star, bnd_thr, noX_ret, fld_x, exn_d, eSetO, Out.clear, List.zip_cons_cons, List.zip_nil_left, List.zip_nil_right]
        rw [decide_eq_false fun z => h ⟨hl, z⟩]
      · rw [if_neg (by omega)]
theorem next_start_0 {ns : List Int} {w : Int} {i : Nat} (hi : i < ns.length) : w_next_start_0 [.tuple (ns.map PyData.int), .int w, .int (i : Int)] = ret (.int (nx ns w i : Nat)) := by
  unfold w_next_start_0
  refine (f_fn (by rfl)).trans ?_
  simp only [x_var, x_con, x_bin, x_neg, x_cmp, x_chain, x_tTru, x_tNot, x_tAnd, x_tOr, x_tBool, x_tYes, x_not, x_and, x_or, x_if, x_b1, x_b2, x_is, x_idx, x_oNone, x_oSome, x_cut, x_aNil, x_aCons, x_tup, x_lst, x_call, x_callS,
    x_iSeq, x_iRng1, x_iRng2, x_bor, x_tBor, x_put1, List.map_cons, List.map_nil, List.cons_append, List.nil_append, List.length_cons, List.length_nil, Nat.zero_add, Nat.reduceAdd, Nat.reduceSub, List.reduceReplicate, start,
    List.getElem?_cons_zero, List.getElem?_cons_succ, List.set_cons_zero, List.set_cons_succ, bnd_ret, bnd_assoc, bnd_grd, b1_if, bnd_ite, small, Nat.reduceLeDiff, grd_true, o_add, o_sub, o_neg, o_eq, o_ne, o_lt, o_le, o_gt, o_ge, o_eqS, o_neS,
    decide_eq_true_eq, reduceIte, decide_true, decide_false, Bool.not_true, Bool.not_false, Bool.false_eq_true, itemsOf, asInt, bi2, endOf, isTy,
    grd_tt, nx_int, nx_bool, nx_str, nx_none, nx_tup, nx_lst, x_isC, x_fld, x_in, x_count, x_lstR, x_tupR, x_raise, x_star, bnd_thr, noX_ret, fld_x, exn_d, eSetO, Out.clear, List.zip_cons_cons, List.zip_nil_left, List.zip_nil_right, s_asg, s_par, s_own, s_parO, s_put, s_expr, s_ret, s_skip, s_seq, s_rel, x_asg, x_par, x_own, x_parO, x_put, x_expr, x_ret, x_retN, x_skip, x_rel, x_app, x_setI, x_sIf, x_for, x_brk, x_cnt]
  obtain ⟨k, r⟩ := next_start_runs (ns := ns) (w := w) (i := i) (ns.length - i) (i + 1) (by omega) (by omega) (by omega)
  have e := r.eq
  rw [show ((i : Int) + 1) = ((i + 1 : Nat) : Int) by omega]
  rw [x_seq, e]
  simp only [x_var, x_con, x_bin, x_neg, x_cmp, x_chain, x_tTru, x_tNot, x_tAnd, x_tOr, x_tBool, x_tYes, x_not, x_and, x_or, x_if, x_b1, x_b2, x_is, x_idx, x_oNone, x_oSome, x_cut, x_aNil, x_aCons, x_tup, x_lst, x_call, x_callS,
    x_iSeq, x_iRng1, x_iRng2, x_bor, x_tBor, x_put1, List.map_cons, List.map_nil, List.cons_append, List.nil_append, List.length_cons, List.length_nil, Nat.zero_add, Nat.reduceAdd, Nat.reduceSub, List.reduceReplicate, start,
    List.getElem?_cons_zero, List.getElem?_cons_succ, List.set_cons_zero, List.set_cons_succ, bnd_ret, bnd_assoc, bnd_grd, b1_if, bnd_ite, small, Nat.reduceLeDiff, grd_true, o_add, o_sub, o_neg, o_eq, o_ne, o_lt, o_le, o_gt, o_ge, o_eqS, o_neS,
    decide_eq_true_eq, reduceIte, decide_true, decide_false, Bool.not_true, Bool.not_false, Bool.false_eq_true, itemsOf, asInt, bi2, endOf, isTy,
    grd_tt, nx_int, nx_bool, nx_str, nx_none, nx_tup, nx_lst, x_isC, x_fld, x_in, x_count, x_lstR, x_tupR, x_raise, x_star, bnd_thr, noX_ret, fld_x, exn_d, eSetO, Out.clear, List.zip_cons_cons, List.zip_nil_left, List.zip_nil_right, s_asg, s_par, s_own, s_parO, s_put, s_expr, s_ret, s_skip, s_seq, s_rel, x_asg, x_par, x_own, x_parO, x_put, x_expr, x_ret, x_retN, x_skip, x_rel, x_app, x_setI, x_sIf, x_for, x_brk, x_cnt]
  rfl
theorem nxFrom_ge (ns : List Int) (w : Int) (i : Nat) : ∀ f j, j ≤ nxFrom ns w i f j
  | 0, _ => Nat.le_refl _
  | f + 1, j => by
    unfold nxFrom
    split
    · exact Nat.le_trans (Nat.le_succ j) (nxFrom_ge ns w i f (j + 1))
    · exact Nat.le_refl _
theorem nx_gt (ns : List Int) (w : Int) (i : Nat) : i < nx ns w i := nxFrom_ge ns w i _ (i + 1)
/-- the starts from j on -/
def restF (ns : List Int) (w : Int) : Nat → Nat → List Nat
  | 0, _ => []
  | f + 1, j => if j < ns.length then j :: restF ns w f (nx ns w j) else []
def starts (ns : List Int) (w : Int) : List Nat := 0 :: restF ns w ns.length (nx ns w 0)
def natsD (l : List Nat) : List D := l.map fun (n : Nat) => PyData.int (n : Int)
theorem starts_runs {ns : List Int} {w : Int} : ∀ (f j : Nat) (acc : List Nat), ns.length ≤ j + f → acc.length + f ≤ 1000 → ∃ k e3, Runs (tBool (eCmp .lt (eVar 3) (eB1 .len (eVar 0))))
      (sSeq (sApp 2 (eVar 3)) (sAsg 3 (eCall w_next_start_0 (aCons (eVar 0) (aCons (eVar 1) (aCons (eVar 3) (aNil))))))) k
      [.val (.tuple (ns.map PyData.int)), .val (.int w), .own (natsD acc), .val (.int j)] [.val (.tuple (ns.map PyData.int)), .val (.int w), .own (natsD (acc ++ restF ns w f j)), e3]
  | 0, j, acc, hf, ha => by
    refine ⟨0, .val (.int j), ?_⟩
    rw [show acc ++ restF ns w 0 j = acc by simp [restF]]
    refine .stop ?_
    simp only [x_var, x_con, x_bin, x_neg, x_cmp, x_chain, x_tTru, x_tNot, x_tAnd, x_tOr, x_tBool, x_tYes, x_not, x_and, x_or, x_if, x_b1, x_b2, x_is, x_idx, x_oNone, x_oSome, x_cut, x_aNil, x_aCons, x_tup, x_lst, x_call, x_callS,
    x_iSeq, x_iRng1, x_iRng2, x_bor, x_tBor, x_put1, List.map_cons, List.map_nil, List.cons_append, List.nil_append, List.length_cons, List.length_nil, Nat.zero_add, Nat.reduceAdd, Nat.reduceSub, List.reduceReplicate, start,
    List.getElem?_cons_zero, List.getElem?_cons_succ, List.set_cons_zero, List.set_cons_succ, bnd_ret, bnd_assoc, bnd_grd, b1_if, bnd_ite, small, Nat.reduceLeDiff, grd_true, o_add, o_sub, o_neg, o_eq, o_ne, o_lt, o_le, o_gt, o_ge, o_eqS, o_neS,
    decide_eq_true_eq, reduceIte, decide_true, decide_false, Bool.not_true, Bool.not_false, Bool.false_eq_true, itemsOf, asInt, bi2, endOf, isTy,
    grd_tt, nx_int, nx_bool, nx_str, nx_none, nx_tup, nx_lst, x_isC, x_fld, x_in, x_count, x_lstR, x_tupR, x_raise, x_star, bnd_thr, noX_ret, fld_x, exn_d, eSetO, Out.clear, List.zip_cons_cons, List.zip_nil_left, List.zip_nil_right, bi1, List.length_map]
    rw [decide_eq_false (by omega)]
  | f + 1, j, acc, hf, ha => by
    by_cases h : j < ns.length
    · have hg := nx_gt ns w j
      obtain ⟨k, e3, r⟩ := starts_runs (ns := ns) (w := w) f (nx ns w j) (acc ++ [j]) (by omega) (by rw [List.length_append, List.length_singleton]; omega)
      have e : acc ++ restF ns w (f + 1) j = acc ++ [j] ++ restF ns w f (nx ns w j) := by
        show acc ++ (if j < ns.length then j :: restF ns w f (nx ns w j) else []) = _
        rw [if_pos h]
        simp
      rw [e]
      refine ⟨k + 1, e3, .turn ?_ ?_ r⟩
      · simp only [x_var, x_con, x_bin, x_neg, x_cmp, x_chain, x_tTru, x_tNot, x_tAnd, x_tOr, x_tBool, x_tYes, x_not, x_and, x_or, x_if, x_b1, x_b2, x_is, x_idx, x_oNone, x_oSome, x_cut, x_aNil, x_aCons, x_tup, x_lst, x_call, x_callS,
    x_iSeq, x_iRng1, x_iRng2, x_bor, x_tBor, x_put1, List.map_cons, List.map_nil, List.cons_append, List.nil_append, List.length_cons, List.length_nil, Nat.zero_add, Nat.reduceAdd, Nat.reduceSub, List.reduceReplicate, start,
    List.getElem?_cons_zero, List.getElem?_cons_succ, List.set_cons_zero, List.set_cons_succ, bnd_ret, bnd_assoc, bnd_grd, b1_if, bnd_ite, small, Nat.reduceLeDiff, grd_true, o_add, o_sub, o_neg, o_eq, o_ne, o_lt, o_le, o_gt, o_ge, o_eqS, o_neS,
    decide_eq_true_eq, reduceIte, decide_true, decide_false, Bool.not_true, Bool.not_false, Bool.false_eq_true, itemsOf, asInt, bi2, endOf, isTy,
    grd_tt, nx_int, nx_bool, nx_str, nx_none, nx_tup, nx_lst, x_isC, x_fld, x_in, x_count, x_lstR, x_tupR, x_raise, x_star, bnd_thr, noX_ret, fld_x, exn_d, eSetO, Out.clear, List.zip_cons_cons, List.zip_nil_left, List.zip_nil_right, bi1, List.length_map]
        rw [decide_eq_true (by omega)]
      · have hs : small (natsD acc).length := by unfold natsD small; rw [List.length_map]; omega
        rw [s_app 2 (eVar 3) _ (ds := natsD acc) rfl]
        simp only [x_var, List.getElem?_cons_zero, List.getElem?_cons_succ, bnd_ret, grd_pos hs]
        simp only [x_var, x_con, x_bin, x_neg, x_cmp, x_chain, x_tTru, x_tNot, x_tAnd, x_tOr, x_tBool, x_tYes, x_not, x_and, x_or, x_if, x_b1, x_b2, x_is, x_idx, x_oNone, x_oSome, x_cut, x_aNil, x_aCons, x_tup, x_lst, x_call, x_callS,
    x_iSeq, x_iRng1, x_iRng2, x_bor, x_tBor, x_put1, List.map_cons, List.map_nil, List.cons_append, List.nil_append, List.length_cons, List.length_nil, Nat.zero_add, Nat.reduceAdd, Nat.reduceSub, List.reduceReplicate, start,
    List.getElem?_cons_zero, List.getElem?_cons_succ, List.set_cons_zero, List.set_cons_succ, bnd_ret, bnd_assoc, bnd_grd, b1_if, bnd_ite, small, Nat.reduceLeDiff, grd_true, o_add, o_sub, o_neg, o_eq, o_ne, o_lt, o_le, o_gt, o_ge, o_eqS, o_neS,
    decide_eq_true_eq, reduceIte, decide_true, decide_false, Bool.not_true, Bool.not_false, Bool.false_eq_true, itemsOf, asInt, bi2, endOf, isTy,
    grd_tt, nx_int, nx_bool, nx_str, nx_none, nx_tup, nx_lst, x_isC, x_fld, x_in, x_count, x_lstR, x_tupR, x_raise, x_star, bnd_thr, noX_ret, fld_x, exn_d, eSetO, Out.clear, List.zip_cons_cons, List.zip_nil_left, List.zip_nil_right, s_asg, s_par, s_own, s_parO, s_put, s_expr, s_ret, s_skip, s_seq, s_rel, x_asg, x_par, x_own, x_parO, x_put, x_expr, x_ret, x_retN, x_skip, x_rel, x_app, x_setI, x_sIf, x_for, x_brk, x_cnt]
        rw [next_start_0 h]
        simp only [bnd_ret]
        rw [show natsD (acc ++ [j]) = natsD acc ++ [PyData.int j] by simp [natsD]]
    · have e : acc ++ restF ns w (f + 1) j = acc := by
        show acc ++ (if j < ns.length then j :: restF ns w f (nx ns w j) else []) = _
        rw [if_neg h]
        simp
      rw [e]
      refine ⟨0, .val (.int j), .stop ?_⟩
      simp only [x_var, x_con, x_bin, x_neg, x_cmp, x_chain, x_tTru, x_tNot, x_tAnd, x_tOr, x_tBool, x_tYes, x_not, x_and, x_or, x_if, x_b1, x_b2, x_is, x_idx, x_oNone, x_oSome, x_cut, x_aNil, x_aCons, x_tup, x_lst, x_call, x_callS,
    x_iSeq, x_iRng1, x_iRng2, x_bor, x_tBor, x_put1, List.map_cons, List.map_nil, List.cons_append, List.nil_append, List.length_cons, List.length_nil, Nat.zero_add, Nat.reduceAdd, Nat.reduceSub, List.reduceReplicate, start,
    List.getElem?_cons_zero, List.getElem?_cons_succ, List.set_cons_zero, List.set_cons_succ, bnd_ret, bnd_assoc, bnd_grd, b1_if, bnd_ite, small, Nat.reduceLeDiff, grd_true, o_add, o_sub, o_neg, o_eq, o_ne, o_lt, o_le, o_gt, o_ge, o_eqS, o_neS,
    decide_eq_true_eq, reduceIte, decide_true, decide_false, Bool.not_true, Bool.not_false, Bool.false_eq_true, itemsOf, asInt, bi2, endOf, isTy,
    grd_tt, nx_int, nx_bool, nx_str, nx_none, nx_tup, nx_lst, x_isC, x_fld, x_in, x_count, x_lstR, x_tupR, x_raise, x_star, bnd_thr, noX_ret, fld_x, exn_d, eSetO, Out.clear, List.zip_cons_cons, List.zip_nil_left, List.zip_nil_right, bi1, List.length_map]
      rw [decide_eq_false (by omega)]
theorem starts_of_0 {ns : List Int} {w : Int} (h1 : 0 < ns.length) (h2 : ns.length ≤ 900) : w_starts_of_0 [.tuple (ns.map PyData.int), .int w] = ret (.tuple (natsD (starts ns w))) := by
  unfold w_starts_of_0
  refine (f_fn (by rfl)).trans ?_
  simp only [x_var, x_con, x_bin, x_neg, x_cmp, x_chain, x_tTru, x_tNot, x_tAnd, x_tOr, x_tBool, x_tYes, x_not, x_and, x_or, x_if, x_b1, x_b2, x_is, x_idx, x_oNone, x_oSome, x_cut, x_aNil, x_aCons, x_tup, x_lst, x_call, x_callS,
    x_iSeq, x_iRng1, x_iRng2, x_bor, x_tBor, x_put1, List.map_cons, List.map_nil, List.cons_append, List.nil_append, List.length_cons, List.length_nil, Nat.zero_add, Nat.reduceAdd, Nat.reduceSub, List.reduceReplicate, start,
    List.getElem?_cons_zero, List.getElem?_cons_succ, List.set_cons_zero, List.set_cons_succ, bnd_ret, bnd_assoc, bnd_grd, b1_if, bnd_ite, small, Nat.reduceLeDiff, grd_true, o_add, o_sub, o_neg, o_eq, o_ne, o_lt, o_le, o_gt, o_ge, o_eqS, o_neS,
    decide_eq_true_eq, reduceIte, decide_true, decide_false, Bool.not_true, Bool.not_false, Bool.false_eq_true, itemsOf, asInt, bi2, endOf, isTy,
    grd_tt, nx_int, nx_bool, nx_str, nx_none, nx_tup, nx_lst, x_isC, x_fld, x_in, x_count, x_lstR, x_tupR, x_raise, x_star, bnd_thr, noX_ret, fld_x, exn_d, eSetO, Out.clear, List.zip_cons_cons, List.zip_nil_left, List.zip_nil_right, s_asg, s_par, s_own, s_parO, s_put, s_expr, s_ret, s_skip, s_seq, s_rel, x_asg, x_par, x_own, x_parO, x_put, x_expr, x_ret, x_retN, x_skip, x_rel, x_app, x_setI, x_sIf, x_for, x_brk, x_cnt]
  have e0 := next_start_0 (ns := ns) (w := w) (i := 0) h1
  rw [show (((0 : Nat) : Int)) = 0 from rfl] at e0
  rw [e0]
  simp only [x_var, x_con, x_bin, x_neg, x_cmp, x_chain, x_tTru, x_tNot, x_tAnd, x_tOr, x_tBool, x_tYes, x_not, x_and, x_or, x_if, x_b1, x_b2, x_is, x_idx, x_oNone, x_oSome, x_cut, x_aNil, x_aCons, x_tup, x_lst, x_call, x_callS,
    x_iSeq, x_iRng1, x_iRng2, x_bor, x_tBor, x_put1, List.map_cons, List.map_nil, List.cons_append, List.nil_append, List.length_cons, List.length_nil, Nat.zero_add, Nat.reduceAdd, Nat.reduceSub, List.reduceReplicate, start,
    List.getElem?_cons_zero, List.getElem?_cons_succ, List.set_cons_zero, List.set_cons_succ, bnd_ret, bnd_assoc, bnd_grd, b1_if, bnd_ite, small, Nat.reduceLeDiff, grd_true, o_add, o_sub, o_neg, o_eq, o_ne, o_lt, o_le, o_gt, o_ge, o_eqS, o_neS,
    decide_eq_true_eq, reduceIte, decide_true, decide_false, Bool.not_true, Bool.not_false, Bool.false_eq_true, itemsOf, asInt, bi2, endOf, isTy,
    grd_tt, nx_int, nx_bool, nx_str, nx_none, nx_tup, nx_lst, x_isC, x_fld, x_in, x_count, x_lstR, x_tupR, x_raise, x_star, bnd_thr, noX_ret, fld_x, exn_d, eSetO, Out.clear, List.zip_cons_cons, List.zip_nil_left, List.zip_nil_right, s_asg, s_par, s_own, s_parO, s_put, s_expr, s_ret, s_skip, s_seq, s_rel, x_asg, x_par, x_own, x_parO, x_put, x_expr, x_ret, x_retN, x_skip, x_rel, x_app, x_setI, x_sIf, x_for, x_brk, x_cnt]
  obtain ⟨k, e3, r⟩ := starts_runs (ns := ns) (w := w) ns.length (nx ns w 0) [0] (by omega) (by simp only [List.length_singleton]; omega)
  have e := r.eq
  have n0 : natsD [0] = [PyData.int 0] := rfl
  rw [n0] at e
  rw [x_seq, e]
  simp only [x_var, x_con, x_bin, x_neg, x_cmp, x_chain, x_tTru, x_tNot, x_tAnd, x_tOr, x_tBool, x_tYes, x_not, x_and, x_or, x_if, x_b1, x_b2, x_is, x_idx, x_oNone, x_oSome, x_cut, x_aNil, x_aCons, x_tup, x_lst, x_call, x_callS,
    x_iSeq, x_iRng1, x_iRng2, x_bor, x_tBor, x_put1, List.map_cons, List.map_nil, List.cons_append, List.nil_append, List.length_cons, List.length_nil, Nat.zero_add, Nat.reduceAdd, Nat.reduceSub, List.reduceReplicate, start,
    List.getElem?_cons_zero, List.getElem?_cons_succ, List.set_cons_zero, List.set_cons_succ, bnd_ret, bnd_assoc, bnd_grd, b1_if, bnd_ite, small, Nat.reduceLeDiff, grd_true, o_add, o_sub, o_neg, o_eq, o_ne, o_lt, o_le, o_gt, o_ge, o_eqS, o_neS,
    decide_eq_true_eq, reduceIte, decide_true, decide_false, Bool.not_true, Bool.not_false, Bool.false_eq_true, itemsOf, asInt, bi2, endOf, isTy,
    grd_tt, nx_int, nx_bool, nx_str, nx_none, nx_tup, nx_lst, x_isC, x_fld, x_in, x_count, x_lstR, x_tupR, x_raise, x_star, bnd_thr, noX_ret, fld_x, exn_d, eSetO, Out.clear, List.zip_cons_cons, List.zip_nil_left, List.zip_nil_right, s_asg, s_par, s_own, s_parO, s_put, s_expr, s_ret, s_skip, s_seq, s_rel, x_asg, x_par, x_own, x_parO, x_put, x_expr, x_ret, x_retN, x_skip, x_rel, x_app, x_setI, x_sIf, x_for, x_brk, x_cnt, bi1]
  rfl
theorem nxFrom_eq {ns : List Int} {w : Int} {i m : Nat} (hm : m ≤ ns.length) (ho : m < ns.length → w < ext ns i m) : ∀ f j, j ≤ m → m ≤ j + f → (∀ k, j ≤ k → k < m → ext ns i k ≤ w) → nxFrom ns w i f j = m
  | 0, j, h1, h2, _ => by
    show j = m
    omega
  | f + 1, j, h1, h2, hk => by
    show (if j < ns.length ∧ ext ns i j ≤ w then nxFrom ns w i f (j + 1) else j) = m
    by_cases e : j = m
    · subst e
      rw [if_neg]
      rintro ⟨h3, h4⟩
      have := ho h3
      omega
    · rw [if_pos ⟨by omega, hk j (Nat.le_refl _) (by omega)⟩]
      exact nxFrom_eq hm ho f (j + 1) (by omega) (by omega) fun k a b => hk k (by omega) b
theorem nx_eq {ns : List Int} {w : Int} {i m : Nat} (hi : i < m) (hm : m ≤ ns.length) (hk : ∀ k, i < k → k < m → ext ns i k ≤ w) (ho : m < ns.length → w < ext ns i m) : nx ns w i = m :=
  nxFrom_eq hm ho _ _ hi (by omega) fun k a b => hk k a b
theorem nx_le (ns : List Int) (w : Int) (i : Nat) (hi : i < ns.length) : nx ns w i ≤ ns.length := by
  have go : ∀ f j, j ≤ ns.length → nxFrom ns w i f j ≤ ns.length := by
    intro f
    induction f with
    | zero => intro j h; exact h
    | succ f ih =>
      intro j h
      unfold nxFrom
      split
      · exact ih (j + 1) (by omega)
      · exact h
  exact go _ _ hi
/-- a walk over the words: the starts so far, the last of them, what the line holds -/
structure Greedy (ns : List Int) (w : Int) (acc : List Nat) (last p : Nat) : Prop where
  fits : ∀ k, last < k → k ≤ p → ext ns last k ≤ w
  le : last ≤ p
  rest : ∃ f, ns.length ≤ last + f ∧ starts ns w = acc ++ restF ns w f (nx ns w last)
theorem Greedy.new {ns : List Int} {w : Int} {acc : List Nat} {last p : Nat} (g : Greedy ns w acc last p) (hp : p + 1 < ns.length) (h : w < ext ns last (p + 1)) : Greedy ns w (acc ++ [p + 1]) (p + 1) (p + 1) := by
  have hle := g.le
  obtain ⟨f, hf, hs⟩ := g.rest
  have e : nx ns w last = p + 1 := nx_eq (by omega) (by omega) (fun k a b => g.fits k a (by omega)) fun _ => h
  refine ⟨fun k a b => by omega, Nat.le_refl _, ?_⟩
  cases f with
  | zero => omega
  | succ f =>
    refine ⟨f, by omega, ?_⟩
    rw [hs, e]
    show acc ++ (if p + 1 < ns.length then (p + 1) :: restF ns w f (nx ns w (p + 1)) else []) = _
    rw [if_pos hp]
    simp
theorem Greedy.same {ns : List Int} {w : Int} {acc : List Nat} {last p : Nat} (g : Greedy ns w acc last p) (h : ext ns last (p + 1) ≤ w) : Greedy ns w acc last (p + 1) := by
  refine ⟨fun k a b => ?_, Nat.le_succ_of_le g.le, g.rest⟩
  by_cases e : k = p + 1
  · rw [e]; exact h
  · exact g.fits k a (by omega)
theorem Greedy.all {ns : List Int} {w : Int} {acc : List Nat} {last p : Nat} (g : Greedy ns w acc last p) (hp : p + 1 = ns.length) : acc = starts ns w := by
  have hle := g.le
  obtain ⟨f, hf, hs⟩ := g.rest
  have e : nx ns w last = ns.length := nx_eq (by omega) (Nat.le_refl _) (fun k a b => g.fits k a (by omega)) fun h => by omega
  rw [hs, e]
  cases f with
  | zero => simp [restF]
  | succ f => simp [restF]
theorem Greedy.start (ns : List Int) (w : Int) : Greedy ns w [0] 0 0 := ⟨fun k a b => by omega, Nat.le_refl _, ns.length, by omega, rfl⟩
/-- a walk that draws nothing, by what holds at each turn -/
theorem forL_inv {tg : Tg} {s : XS} (I : Nat → Env → Prop) : ∀ (ds : List D) (i : Nat) (E : Env), I i E → (∀ j d E, ds[j]? = some d → I (i + j) E → ∃ E1 E2, tg.put d E = some E1 ∧ s E1 = ret (.nx E2) ∧ I (i + j + 1) E2) →
    ∃ E', forL tg s ds E = ret (.nx E') ∧ I (i + ds.length) E'
  | [], i, E, h, _ => ⟨E, rfl, h⟩
  | d :: ds, i, E, h, hs => by
    obtain ⟨E1, E2, e1, e2, h2⟩ := hs 0 d E rfl h
    obtain ⟨E', e3, h3⟩ := forL_inv (tg := tg) (s := s) I ds (i + 1) E2 h2 fun j d E hj hI => by
      have := hs (j + 1) d E hj
      rw [show i + (j + 1) = i + 1 + j by omega] at this
      exact this hI
    refine ⟨E', ?_, ?_⟩
    · show (match tg.put d E with | none => stuck | some E1 => bnd (s E1) fun o => match o with
        | .nx E' => forL tg s ds E' | .ct E' => forL tg s ds E' | .bk E' => ret (.nx E') | .rt d => ret (.rt d)) = _
      rw [e1]
      simp only [e2, bnd_ret]
      exact e3
    · rw [List.length_cons, show i + (ds.length + 1) = i + 1 + ds.length by omega]
      exact h3
end DL
end
section
namespace DL
open PySem
/-- the first k turns of a walk, by what holds at each -/
theorem forL_to {tg : Tg} {s : XS} (I : Nat → Env → Prop) : ∀ (k : Nat) (ds : List D) (i : Nat) (E : Env), k ≤ ds.length → I i E → (∀ j d E, j < k → ds[j]? = some d → I (i + j) E → ∃ E1 E2, tg.put d E = some E1 ∧ s E1 = ret (.nx E2) ∧ I (i + j + 1) E2) →
    ∃ E', forL tg s ds E = forL tg s (ds.drop k) E' ∧ I (i + k) E'
  | 0, ds, i, E, _, h, _ => ⟨E, rfl, h⟩
  | k + 1, [], i, E, hk, _, _ => by simp at hk
  | k + 1, d :: ds, i, E, hk, h, hs => by
    obtain ⟨E1, E2, e1, e2, h2⟩ := hs 0 d E (by omega) rfl h
    obtain ⟨E', e3, h3⟩ := forL_to (tg := tg) (s := s) I k ds (i + 1) E2 (by simp at hk; omega) h2 fun j d E hj hd hI => by
      have := hs (j + 1) d E (by omega) hd
      rw [show i + (j + 1) = i + 1 + j by omega] at this
      exact this hI
    refine ⟨E', ?_, ?_⟩
    · show (match tg.put d E with | none => stuck | some E1 => bnd (s E1) fun o => match o with
        | .nx E' => forL tg s ds E' | .ct E' => forL tg s ds E' | .bk E' => ret (.nx E') | .rt d => ret (.rt d)) = _
      rw [e1]
      simp only [e2, bnd_ret]
      exact e3
    · rw [show i + (k + 1) = i + 1 + k by omega]
      exact h3
theorem x_forc (tg : Tg) (s : XS) (d : D) (ds : List D) (E : Env) : forL tg s (d :: ds) E = match tg.put d E with | none => stuck | some E1 => bnd (s E1) fun o => match o with
        | .nx E' => forL tg s ds E' | .ct E' => forL tg s ds E' | .bk E' => ret (.nx E') | .rt d => ret (.rt d) := id rfl
theorem pairs_at : ∀ (c : Int) (ds : List D) (j : Nat), (pairs c ds)[j]? = (ds[j]?).map fun d => .tuple [.int (c + j), d]
  | c, [], j => by simp [pairs]
  | c, d :: ds, 0 => by simp [pairs]
  | c, d :: ds, j + 1 => by
    show (pairs (c + 1) ds)[j]? = _
    rw [pairs_at (c + 1) ds j, List.getElem?_cons_succ, show c + 1 + (j : Int) = c + ((j + 1 : Nat) : Int) by omega]
theorem x_iEnumC (c : Int) (a : XE) (E : Env) : iEnumC c a E = bnd (a E) fun d => bnd (itemsOf d) fun xs => grd (-(2 ^ 63) ≤ c ∧ c < 2 ^ 63) (ret (pairs c xs)) := id rfl
/-- no word is longer than the line, or there is a first one that is -/
inductive Long (ns : List Int) (w : Int) : Option Nat → Prop
  | no : (∀ (j : Nat) (x : Int), ns[j]? = some x → x ≤ w) → Long ns w none
  | yes {j : Nat} {x : Int} : ns[j]? = some x → w < x → (∀ (k : Nat) (y : Int), k < j → ns[k]? = some y → y ≤ w) → Long ns w (some j)
theorem Long.cases (w : Int) : ∀ ns : List Int, ∃ o, Long ns w o
  | [] => ⟨none, .no fun j x h => by simp at h⟩
  | a :: ns => by
    by_cases h : w < a
    · exact ⟨some 0, .yes (x := a) rfl h fun k y hk => by omega⟩
    · obtain ⟨o, ho⟩ := Long.cases w ns
      cases ho with
      | no g =>
        refine ⟨none, .no fun j x hj => ?_⟩
        cases j with
        | zero => simp at hj; omega
        | succ j => exact g j x hj
      | yes g1 g2 g3 =>
        refine ⟨some _, .yes (j := _ + 1) g1 g2 fun k y hk hy => ?_⟩
        cases k with
        | zero => simp at hy; omega
        | succ k => exact g3 k y (by omega) hy
def tooNarrow (j : Nat) : Exn := ⟨"TooNarrow", [("place", .int (j : Int))]⟩
theorem check_fits_0 {ns : List Int} {w : Int} {o : Option Nat} (h : Long ns w o) : w_check_fits_0 [.tuple (ns.map PyData.int), .int w] = match o with | none => ret .none | some j => thr (tooNarrow j) := by
  unfold w_check_fits_0
  refine (f_fn (by rfl)).trans ?_
  simp only [x_var, x_con, x_bin, x_neg, x_cmp, x_chain, x_tTru, x_tNot, x_tAnd, x_tOr, x_tBool, x_tYes, x_not, x_and, x_or, x_if, x_b1, x_b2, x_is, x_idx, x_oNone, x_oSome, x_cut, x_aNil, x_aCons, x_tup, x_lst, x_call, x_callS,
    x_iSeq, x_iRng1, x_iRng2, x_bor, x_tBor, x_put1, List.map_cons, List.map_nil, List.cons_append, List.nil_append, List.length_cons, List.length_nil, Nat.zero_add, Nat.reduceAdd, Nat.reduceSub, List.reduceReplicate, start,
    List.getElem?_cons_zero, List.getElem?_cons_succ, List.set_cons_zero, List.set_cons_succ, bnd_ret, bnd_assoc, bnd_grd, b1_if, bnd_ite, small, Nat.reduceLeDiff, grd_true, o_add, o_sub, o_neg, o_eq, o_ne, o_lt, o_le, o_gt, o_ge, o_eqS, o_neS,
    decide_eq_true_eq, reduceIte, decide_true, decide_false, Bool.not_true, Bool.not_false, Bool.false_eq_true, itemsOf, asInt, bi2, endOf, isTy,
    grd_tt, nx_int, nx_bool, nx_str, nx_none, nx_tup, nx_lst, x_isC, x_fld, x_in, x_count, x_lstR, x_tupR, x_raise, x_star, bnd_thr, noX_ret, fld_x, exn_d, eSetO, Out.clear, List.zip_cons_cons, List.zip_nil_left, List.zip_nil_right, s_asg, s_par, s_own, s_parO, s_put, s_expr, s_ret, s_skip, s_seq, s_rel, x_asg, x_par, x_own, x_parO, x_put, x_expr, x_ret, x_retN, x_skip, x_rel, x_app, x_setI, x_sIf, x_for, x_brk, x_cnt, x_iEnumC]
  rw [grd_pos (by decide)]
  cases h with
  | no g =>
    obtain ⟨E', e, _⟩ := forL_inv (tg := .tp [2, 3]) (s := sIf (tBool (eCmp .gt (eVar 3) (eVar 1))) (sRaise "TooNarrow" [Fl.s .place] (aCons (eVar 2) aNil)) sSkip)
      (fun p E => ∃ e2 e3, E = [.val (.tuple (ns.map PyData.int)), .val (.int w), e2, e3]) (pairs 0 (ns.map PyData.int)) 0 [.val (.tuple (ns.map PyData.int)), .val (.int w), .unk, .unk] ⟨_, _, rfl⟩ (by
        rintro j d E hj ⟨e2, e3, rfl⟩
        rw [pairs_at, List.getElem?_map] at hj
        obtain ⟨x, hx, rfl⟩ : ∃ x, ns[j]? = some x ∧ d = .tuple [.int (0 + j), .int x] := by
          cases hh : ns[j]? with
          | none => rw [hh] at hj; cases hj
          | some x => rw [hh] at hj; exact ⟨x, rfl, (Option.some.inj hj).symm⟩
        refine ⟨_, [.val (.tuple (ns.map PyData.int)), .val (.int w), .val (.int (0 + j)), .val (.int x)], rfl, ?_, _, _, rfl⟩
        simp only [x_var, x_con, x_bin, x_neg, x_cmp, x_chain, x_tTru, x_tNot, x_tAnd, x_tOr, x_tBool, x_tYes, x_not, x_and, x_or, x_if, x_b1, x_b2, x_is, x_idx, x_oNone, x_oSome, x_cut, x_aNil, x_aCons, x_tup, x_lst, x_call, x_callS,
    x_iSeq, x_iRng1, x_iRng2, x_bor, x_tBor, x_put1, List.map_cons, List.map_nil, List.cons_append, List.nil_append, List.length_cons, List.length_nil, Nat.zero_add, Nat.reduceAdd, Nat.reduceSub, List.reduceReplicate, start,
    List.getElem?_cons_zero, List.getElem?_cons_succ, List.set_cons_zero, List.set_cons_succ, bnd_ret, bnd_assoc, bnd_grd, b1_if, bnd_ite, small, Nat.reduceLeDiff, grd_true, o_add, o_sub, o_neg, o_eq, o_ne, o_lt, o_le, o_gt, o_ge, o_eqS, o_neS,
    decide_eq_true_eq, reduceIte, decide_true, decide_false, Bool.not_true, Bool.not_false, Bool.false_eq_true, itemsOf, asInt, bi2, endOf, isTy,
    grd_tt, nx_int, nx_bool, nx_str, nx_none, nx_tup, nx_lst, x_isC, x_fld, x_in, x_count, x_lstR, x_tupR, x_raise, x_star, bnd_thr, noX_ret, fld_x, exn_d, eSetO, Out.clear, List.zip_cons_cons, List.zip_nil_left, List.zip_nil_right, s_asg, s_par, s_own, s_parO, s_put, s_expr, s_ret, s_skip, s_seq, s_rel, x_asg, x_par, x_own, x_parO, x_put, x_expr, x_ret, x_retN, x_skip, x_rel, x_app, x_setI, x_sIf, x_for, x_brk, x_cnt]
        rw [if_neg (by have := g j x hx; omega)])
    rw [e]
    rfl
  | yes g1 g2 g3 =>
    rename_i j x
    have hl : j < ns.length := (List.getElem?_eq_some_iff.mp g1).1
    obtain ⟨E', e, e2, e3, rfl⟩ := forL_to (tg := .tp [2, 3]) (s := sIf (tBool (eCmp .gt (eVar 3) (eVar 1))) (sRaise "TooNarrow" [Fl.s .place] (aCons (eVar 2) aNil)) sSkip)
      (fun p E => ∃ e2 e3, E = [.val (.tuple (ns.map PyData.int)), .val (.int w), e2, e3]) j (pairs 0 (ns.map PyData.int)) 0 [.val (.tuple (ns.map PyData.int)), .val (.int w), .unk, .unk] (by rw [pairs_len, List.length_map]; omega) ⟨_, _, rfl⟩ (by
        rintro k d E hk hj ⟨e2, e3, rfl⟩
        rw [pairs_at, List.getElem?_map] at hj
        obtain ⟨x, hx, rfl⟩ : ∃ x, ns[k]? = some x ∧ d = .tuple [.int (0 + k), .int x] := by
          cases hh : ns[k]? with
          | none => rw [hh] at hj; cases hj
          | some x => rw [hh] at hj; exact ⟨x, rfl, (Option.some.inj hj).symm⟩
        refine ⟨_, [.val (.tuple (ns.map PyData.int)), .val (.int w), .val (.int (0 + k)), .val (.int x)], rfl, ?_, _, _, rfl⟩
        simp only [x_var, x_con, x_bin, x_neg, x_cmp, x_chain, x_tTru, x_tNot, x_tAnd, x_tOr, x_tBool, x_tYes, x_not, x_and, x_or, x_if, x_b1, x_b2, x_is, x_idx, x_oNone, x_oSome, x_cut, x_aNil, x_aCons, x_tup, x_lst, x_call, x_callS,
    x_iSeq, x_iRng1, x_iRng2, x_bor, x_tBor, x_put1, List.map_cons, List.map_nil, List.cons_append, List.nil_append, List.length_cons, List.length_nil, Nat.zero_add, Nat.reduceAdd, Nat.reduceSub, List.reduceReplicate, start,
    List.getElem?_cons_zero, List.getElem?_cons_succ, List.set_cons_zero, List.set_cons_succ, bnd_ret, bnd_assoc, bnd_grd, b1_if, bnd_ite, small, Nat.reduceLeDiff, grd_true, o_add, o_sub, o_neg, o_eq, o_ne, o_lt, o_le, o_gt, o_ge, o_eqS, o_neS,
    decide_eq_true_eq, reduceIte, decide_true, decide_false, Bool.not_true, Bool.not_false, Bool.false_eq_true, itemsOf, asInt, bi2, endOf, isTy,
    grd_tt, nx_int, nx_bool, nx_str, nx_none, nx_tup, nx_lst, x_isC, x_fld, x_in, x_count, x_lstR, x_tupR, x_raise, x_star, bnd_thr, noX_ret, fld_x, exn_d, eSetO, Out.clear, List.zip_cons_cons, List.zip_nil_left, List.zip_nil_right, s_asg, s_par, s_own, s_parO, s_put, s_expr, s_ret, s_skip, s_seq, s_rel, x_asg, x_par, x_own, x_parO, x_put, x_expr, x_ret, x_retN, x_skip, x_rel, x_app, x_setI, x_sIf, x_for, x_brk, x_cnt]
        rw [if_neg (by have := g3 k x hk hx; omega)])
    rw [e]
    have hd : (pairs 0 (ns.map PyData.int)).drop j = .tuple [.int (0 + j), .int x] :: (pairs 0 (ns.map PyData.int)).drop (j + 1) := by
      have hl2 : j < (pairs 0 (ns.map PyData.int)).length := by rw [pairs_len, List.length_map]; omega
      rw [List.drop_eq_getElem_cons hl2]
      have := List.getElem?_eq_getElem hl2
      rw [pairs_at, List.getElem?_map, g1] at this
      rw [← Option.some.inj this]
    rw [hd, x_forc]
    simp only [Tg.put, setAll, x_var, x_con, x_bin, x_neg, x_cmp, x_chain, x_tTru, x_tNot, x_tAnd, x_tOr, x_tBool, x_tYes, x_not, x_and, x_or, x_if, x_b1, x_b2, x_is, x_idx, x_oNone, x_oSome, x_cut, x_aNil, x_aCons, x_tup, x_lst, x_call, x_callS,
    x_iSeq, x_iRng1, x_iRng2, x_bor, x_tBor, x_put1, List.map_cons, List.map_nil, List.cons_append, List.nil_append, List.length_cons, List.length_nil, Nat.zero_add, Nat.reduceAdd, Nat.reduceSub, List.reduceReplicate, start,
    List.getElem?_cons_zero, List.getElem?_cons_succ, List.set_cons_zero, List.set_cons_succ, bnd_ret, bnd_assoc, bnd_grd, b1_if, bnd_ite, small, Nat.reduceLeDiff, grd_true, o_add, o_sub, o_neg, o_eq, o_ne, o_lt, o_le, o_gt, o_ge, o_eqS, o_neS,
    decide_eq_true_eq, reduceIte, decide_true, decide_false, Bool.not_true, Bool.not_false, Bool.false_eq_true, itemsOf, asInt, bi2, endOf, isTy,
    grd_tt, nx_int, nx_bool, nx_str, nx_none, nx_tup, nx_lst, x_isC, x_fld, x_in, x_count, x_lstR, x_tupR, x_raise, x_star, bnd_thr, noX_ret, fld_x, exn_d, eSetO, Out.clear, List.zip_cons_cons, List.zip_nil_left, List.zip_nil_right, s_asg, s_par, s_own, s_parO, s_put, s_expr, s_ret, s_skip, s_seq, s_rel, x_asg, x_par, x_own, x_parO, x_put, x_expr, x_ret, x_retN, x_skip, x_rel, x_app, x_setI, x_sIf, x_for, x_brk, x_cnt]
    rw [if_pos g2, Int.zero_add]
    rfl
theorem starts_at_0 {ns : List Int} {w : Int} {o : Option Nat} (h : Long ns w o) (h1 : 0 < ns.length) (h2 : ns.length ≤ 900) : w_starts_at_0 [.tuple (ns.map PyData.int), .int w] = match o with | none => ret (.tuple (natsD (starts ns w))) | some j => thr (tooNarrow j) := by
  unfold w_starts_at_0
  refine (f_fn (by rfl)).trans ?_
  simp only [x_var, x_con, x_bin, x_neg, x_cmp, x_chain, x_tTru, x_tNot, x_tAnd, x_tOr, x_tBool, x_tYes, x_not, x_and, x_or, x_if, x_b1, x_b2, x_is, x_idx, x_oNone, x_oSome, x_cut, x_aNil, x_aCons, x_tup, x_lst, x_call, x_callS,
    x_iSeq, x_iRng1, x_iRng2, x_bor, x_tBor, x_put1, List.map_cons, List.map_nil, List.cons_append, List.nil_append, List.length_cons, List.length_nil, Nat.zero_add, Nat.reduceAdd, Nat.reduceSub, List.reduceReplicate, start,
    List.getElem?_cons_zero, List.getElem?_cons_succ, List.set_cons_zero, List.set_cons_succ, bnd_ret, bnd_assoc, bnd_grd, b1_if, bnd_ite, small, Nat.reduceLeDiff, grd_true, o_add, o_sub, o_neg, o_eq, o_ne, o_lt, o_le, o_gt, o_ge, o_eqS, o_neS,
    decide_eq_true_eq, reduceIte, decide_true, decide_false, Bool.not_true, Bool.not_false, Bool.false_eq_true, itemsOf, asInt, bi2, endOf, isTy,
    grd_tt, nx_int, nx_bool, nx_str, nx_none, nx_tup, nx_lst, x_isC, x_fld, x_in, x_count, x_lstR, x_tupR, x_raise, x_star, bnd_thr, noX_ret, fld_x, exn_d, eSetO, Out.clear, List.zip_cons_cons, List.zip_nil_left, List.zip_nil_right, s_asg, s_par, s_own, s_parO, s_put, s_expr, s_ret, s_skip, s_seq, s_rel, x_asg, x_par, x_own, x_parO, x_put, x_expr, x_ret, x_retN, x_skip, x_rel, x_app, x_setI, x_sIf, x_for, x_brk, x_cnt]
  rw [check_fits_0 h]
  cases o with
  | none => simp only [x_var, x_con, x_bin, x_neg, x_cmp, x_chain, x_tTru, x_tNot, x_tAnd, x_tOr, x_tBool, x_tYes, x_not, x_and, x_or, x_if, x_b1, x_b2, x_is, x_idx, x_oNone, x_oSome, x_cut, x_aNil, x_aCons, x_tup, x_lst, x_call, x_callS,
    x_iSeq, x_iRng1, x_iRng2, x_bor, x_tBor, x_put1, List.map_cons, List.map_nil, List.cons_append, List.nil_append, List.length_cons, List.length_nil, Nat.zero_add, Nat.reduceAdd, Nat.reduceSub, List.reduceReplicate, start,
    List.getElem?_cons_zero, List.getElem?_cons_succ, List.set_cons_zero, List.set_cons_succ, bnd_ret, bnd_assoc, bnd_grd, b1_if, bnd_ite, small, Nat.reduceLeDiff, grd_true, o_add, o_sub, o_neg, o_eq, o_ne, o_lt, o_le, o_gt, o_ge, o_eqS, o_neS,
    decide_eq_true_eq, reduceIte, decide_true, decide_false, Bool.not_true, Bool.not_false, Bool.false_eq_true, itemsOf, asInt, bi2, endOf, isTy,
    grd_tt, nx_int, nx_bool, nx_str, nx_none, nx_tup, nx_lst, x_isC, x_fld, x_in, x_count, x_lstR, x_tupR, x_raise, x_star, bnd_thr, noX_ret, fld_x, exn_d, eSetO, Out.clear, List.zip_cons_cons, List.zip_nil_left, List.zip_nil_right, s_asg, s_par, s_own, s_parO, s_put, s_expr, s_ret, s_skip, s_seq, s_rel, x_asg, x_par, x_own, x_parO, x_put, x_expr, x_ret, x_retN, x_skip, x_rel, x_app, x_setI, x_sIf, x_for, x_brk, x_cnt, starts_of_0 h1 h2]
  | some j => rfl
theorem Long.lt {ns : List Int} {w : Int} {j : Nat} (h : Long ns w (some j)) : j < ns.length := by
  cases h with
  | yes g1 g2 g3 => exact (List.getElem?_eq_some_iff.mp g1).1
theorem natsD_ints (l : List Nat) : natsD l = (l.map fun n : Nat => (n : Int)).map PyData.int := by
  unfold natsD
  rw [List.map_map]
  rfl
theorem restF_lt {ns : List Int} {w : Int} : ∀ (f j : Nat), ∀ n ∈ restF ns w f j, n < ns.length
  | 0, j, n, h => by cases h
  | f + 1, j, n, h => by
    unfold restF at h
    split at h
    · cases h with
      | head => assumption
      | tail _ h => exact restF_lt f _ n h
    · cases h
theorem restF_len {ns : List Int} {w : Int} : ∀ (f j : Nat), (restF ns w f j).length ≤ f
  | 0, j => Nat.le_refl _
  | f + 1, j => by
    unfold restF
    split
    · exact Nat.succ_le_succ (restF_len f _)
    · exact Nat.zero_le _
theorem starts_lt {ns : List Int} {w : Int} (h : 0 < ns.length) : ∀ n ∈ starts ns w, n < ns.length := fun n hn => by
  cases hn with
  | head => exact h
  | tail _ hn => exact restF_lt _ _ n hn
theorem starts_len (ns : List Int) (w : Int) : (starts ns w).length ≤ ns.length + 1 := Nat.succ_le_succ (restF_len _ _)
theorem max_ints {ns : List Int} (h : 0 < ns.length) : ∃ m, bi1 .max (.tuple (ns.map PyData.int)) = ret (.int m) ∧ m ∈ ns := by
  match ns, h with
  | a :: r, _ =>
    refine ⟨greatest a r, ?_, ?_⟩
    · show bnd (intsOf (.tuple ((a :: r).map PyData.int))) _ = _
      simp only [intsOf, itemsOf, bnd_ret, ints?_map]
    · have go : ∀ (r : List Int) (a : Int), r.foldl max a = a ∨ r.foldl max a ∈ r := by
        intro r
        induction r with
        | nil => intro a; exact .inl rfl
        | cons b r ih =>
          intro a
          rw [List.foldl_cons]
          rcases ih (max a b) with h | h
          · rw [h]
            by_cases hb : b ≤ a
            · exact .inl (Int.max_eq_left hb)
            · rw [Int.max_eq_right (by omega)]
              exact .inr (.head _)
          · exact .inr (.tail _ h)
      rcases go r a with h | h
      · unfold greatest; rw [h]; exact .head _
      · exact .tail _ h
theorem b_lenT (xs : List D) : bi1 .len (.tuple xs) = ret (.int xs.length) := id rfl
theorem b_lenL (xs : List D) : bi1 .len (.list xs) = ret (.int xs.length) := id rfl
theorem b_tupL (xs : List D) : bi1 .tuple (.list xs) = ret (.tuple xs) := id rfl
theorem b_tupT (xs : List D) : bi1 .tuple (.tuple xs) = ret (.tuple xs) := id rfl
theorem b_max2 (i j : Int) : bi2 .max (.int i) (.int j) = ret (.int (if j > i then j else i)) := id rfl
theorem b_min2 (i j : Int) : bi2 .min (.int i) (.int j) = ret (.int (if j < i then j else i)) := id rfl
theorem o_addL (xs ys : List D) : opBin .add (.list xs) (.list ys) = grd (small (xs.length + ys.length)) (ret (.list (xs ++ ys))) := id rfl
theorem o_addT (xs ys : List D) : opBin .add (.tuple xs) (.tuple ys) = grd (small (xs.length + ys.length)) (ret (.tuple (xs ++ ys))) := id rfl
theorem cut_ints {ns : List Int} {i j : Int} (h0 : 0 ≤ i) (h1 : i ≤ ns.length) (h2 : 0 ≤ j) (h3 : j ≤ ns.length) : opCut (.tuple (ns.map PyData.int)) (some i) (some j) = ret (.tuple (((ns.drop i.toNat).take (j.toNat - i.toNat)).map PyData.int)) := by
  obtain ⟨a, rfl⟩ := Int.eq_ofNat_of_zero_le h0
  obtain ⟨b, rfl⟩ := Int.eq_ofNat_of_zero_le h2
  show ret (PyData.tuple (DL.cut (ns.map PyData.int) (some (a : Int)) (some (b : Int)))) = _
  rw [cut_nat _ a b (by rw [List.length_map]; omega) (by rw [List.length_map]; omega), ← List.map_drop, ← List.map_take]
  rfl
theorem sum_part {ns : List Int} {i k : Nat} (hn : ∀ x ∈ ns, 1 ≤ x ∧ x ≤ 60) (h2 : ns.length ≤ 24) : 0 ≤ ((ns.drop i).take k).sum ∧ ((ns.drop i).take k).sum ≤ 1440 := by
  have := sum_bound (ns := (ns.drop i).take k) (b := 60) (by decide) fun x hx => by
    have := hn x (List.mem_of_mem_drop (List.mem_of_mem_take hx))
    omega
  have hl2 : ((ns.drop i).take k).length ≤ 24 := by
    rw [List.length_take, List.length_drop]; omega
  omega
theorem s_chk (t : XT) (a : XE) (b : XS) (E : Env) : sSeq (sIf t (sRet a) sSkip) b E = bnd (t E) fun c => if c = true then bnd (a E) (fun d => ret (.rt d)) else b E := by
  rw [s_if]
  refine congrArg (bnd (t E)) (funext fun c => ?_)
  cases c <;> rfl
theorem s_brk (b : XS) (E : Env) : sSeq sBreak b E = ret (.bk E) := id rfl
theorem s_cnt (b : XS) (E : Env) : sSeq sCont b E = ret (.ct E) := id rfl
theorem s_retN (b : XS) (E : Env) : sSeq sRetN b E = ret (.rt .none) := id rfl
theorem t_bool (b : Bool) : tru (.bool b) = ret b := id rfl
theorem s_for (it : XA) (tg : Tg) (s b : XS) (E : Env) : sSeq (sFor it tg s) b E = bnd (it E) fun ds => bnd (forL tg s ds E) fun o => match o with | .nx E' => b E' | o => ret o := id rfl
theorem g_rng {α : Type} {a b : Int} {m : W α} (h0 : -1000000 ≤ a) (h1 : a ≤ 1000000) (h2 : -1000000 ≤ b) (h3 : b ≤ 1000000) : grd (rngOk a b) m = m := grd_pos (by unfold rngOk; omega) m
theorem g_le {α : Type} {a b : Nat} {m : W α} (h : a ≤ b) : grd (a ≤ b) m = m := grd_pos h m
theorem width_drawn_0 {ns : List Int} (h1 : 1 ≤ ns.length) (h2 : ns.length ≤ 24) (hn : ∀ x ∈ ns, 1 ≤ x ∧ x ≤ 60) : Ok (w__law_width_drawn_0 [.tuple (ns.map PyData.int)]) 4 fun d => ∃ w : Int, d = .int w ∧ 1 ≤ w ∧ w ≤ 2000 := by
  unfold w__law_width_drawn_0
  rw [x_fnS]
  refine Ok.grd rfl (Ok.fn ?_)
  simp only [x_var, x_con, x_bin, x_neg, x_cmp, x_chain, x_tTru, x_tNot, x_tAnd, x_tOr, x_tBool, x_tYes, x_not, x_and, x_or, x_if, x_b1, x_b2, x_is, x_idx, x_oNone, x_oSome, x_cut, x_aNil, x_aCons, x_tup, x_lst, x_call, x_callS,
    x_iSeq, x_iRng1, x_iRng2, x_bor, x_tBor, x_put1, List.map_cons, List.map_nil, List.cons_append, List.nil_append, List.length_cons, List.length_nil, Nat.zero_add, Nat.reduceAdd, Nat.reduceSub, List.reduceReplicate, start,
    List.getElem?_cons_zero, List.getElem?_cons_succ, List.set_cons_zero, List.set_cons_succ, bnd_ret, bnd_assoc, bnd_grd, b1_if, bnd_ite, small, Nat.reduceLeDiff, grd_true, o_add, o_sub, o_neg, o_eq, o_ne, o_lt, o_le, o_gt, o_ge, o_eqS, o_neS,
    decide_eq_true_eq, reduceIte, decide_true, decide_false, Bool.not_true, Bool.not_false, Bool.false_eq_true, itemsOf, asInt, endOf, isTy,
    grd_tt, nx_int, nx_bool, nx_str, nx_none, nx_tup, nx_lst, x_isC, x_fld, x_in, x_count, x_lstR, x_tupR, x_raise, x_star, bnd_thr, noX_ret, fld_x, exn_d, eSetO, Out.clear, List.zip_cons_cons, List.zip_nil_left, List.zip_nil_right, s_asg, s_par, s_own, s_parO, s_put, s_expr, s_ret, s_skip, s_seq, s_rel, x_asg, x_par, x_own, x_parO, x_put, x_expr, x_ret, x_retN, x_skip, x_rel, x_app, x_setI, x_sIf, x_for, x_brk, x_cnt, b_lenT, b_lenL, b_tupL, b_tupT, b_max2, b_min2, o_addL, o_addT, cut_ints, sum_ints, s_chk, s_for, s_brk, s_cnt, s_retN, t_bool, g_rng, g_le, List.length_map]
  refine Ok.drawB (n := 3) (by omega) (by omega) fun i h0 h1 => ?_
  simp only [x_var, x_con, x_bin, x_neg, x_cmp, x_chain, x_tTru, x_tNot, x_tAnd, x_tOr, x_tBool, x_tYes, x_not, x_and, x_or, x_if, x_b1, x_b2, x_is, x_idx, x_oNone, x_oSome, x_cut, x_aNil, x_aCons, x_tup, x_lst, x_call, x_callS,
    x_iSeq, x_iRng1, x_iRng2, x_bor, x_tBor, x_put1, List.map_cons, List.map_nil, List.cons_append, List.nil_append, List.length_cons, List.length_nil, Nat.zero_add, Nat.reduceAdd, Nat.reduceSub, List.reduceReplicate, start,
    List.getElem?_cons_zero, List.getElem?_cons_succ, List.set_cons_zero, List.set_cons_succ, bnd_ret, bnd_assoc, bnd_grd, b1_if, bnd_ite, small, Nat.reduceLeDiff, grd_true, o_add, o_sub, o_neg, o_eq, o_ne, o_lt, o_le, o_gt, o_ge, o_eqS, o_neS,
    decide_eq_true_eq, reduceIte, decide_true, decide_false, Bool.not_true, Bool.not_false, Bool.false_eq_true, itemsOf, asInt, endOf, isTy,
    grd_tt, nx_int, nx_bool, nx_str, nx_none, nx_tup, nx_lst, x_isC, x_fld, x_in, x_count, x_lstR, x_tupR, x_raise, x_star, bnd_thr, noX_ret, fld_x, exn_d, eSetO, Out.clear, List.zip_cons_cons, List.zip_nil_left, List.zip_nil_right, s_asg, s_par, s_own, s_parO, s_put, s_expr, s_ret, s_skip, s_seq, s_rel, x_asg, x_par, x_own, x_parO, x_put, x_expr, x_ret, x_retN, x_skip, x_rel, x_app, x_setI, x_sIf, x_for, x_brk, x_cnt, b_lenT, b_lenL, b_tupL, b_tupT, b_max2, b_min2, o_addL, o_addT, cut_ints, sum_ints, s_chk, s_for, s_brk, s_cnt, s_retN, t_bool, g_rng, g_le, List.length_map]
  refine Ok.drawB (n := 2) (by split <;> omega) (by split <;> omega) fun k h3 h4 => ?_
  have hk : i + k < ns.length := by split at h4 <;> omega
  obtain ⟨m, em, hm⟩ := max_ints (show 0 < ns.length by omega)
  simp (disch := omega) only [x_var, x_con, x_bin, x_neg, x_cmp, x_chain, x_tTru, x_tNot, x_tAnd, x_tOr, x_tBool, x_tYes, x_not, x_and, x_or, x_if, x_b1, x_b2, x_is, x_idx, x_oNone, x_oSome, x_cut, x_aNil, x_aCons, x_tup, x_lst, x_call, x_callS,
    x_iSeq, x_iRng1, x_iRng2, x_bor, x_tBor, x_put1, List.map_cons, List.map_nil, List.cons_append, List.nil_append, List.length_cons, List.length_nil, Nat.zero_add, Nat.reduceAdd, Nat.reduceSub, List.reduceReplicate, start,
    List.getElem?_cons_zero, List.getElem?_cons_succ, List.set_cons_zero, List.set_cons_succ, bnd_ret, bnd_assoc, bnd_grd, b1_if, bnd_ite, small, Nat.reduceLeDiff, grd_true, o_add, o_sub, o_neg, o_eq, o_ne, o_lt, o_le, o_gt, o_ge, o_eqS, o_neS,
    decide_eq_true_eq, reduceIte, decide_true, decide_false, Bool.not_true, Bool.not_false, Bool.false_eq_true, itemsOf, asInt, endOf, isTy,
    grd_tt, nx_int, nx_bool, nx_str, nx_none, nx_tup, nx_lst, x_isC, x_fld, x_in, x_count, x_lstR, x_tupR, x_raise, x_star, bnd_thr, noX_ret, fld_x, exn_d, eSetO, Out.clear, List.zip_cons_cons, List.zip_nil_left, List.zip_nil_right, s_asg, s_par, s_own, s_parO, s_put, s_expr, s_ret, s_skip, s_seq, s_rel, x_asg, x_par, x_own, x_parO, x_put, x_expr, x_ret, x_retN, x_skip, x_rel, x_app, x_setI, x_sIf, x_for, x_brk, x_cnt, b_lenT, b_lenL, b_tupL, b_tupT, b_max2, b_min2, o_addL, o_addT, cut_ints, sum_ints, s_chk, s_for, s_brk, s_cnt, s_retN, t_bool, g_rng, g_le, List.length_map, em]
  refine Ok.drawB (n := 1) (by omega) (by omega) fun u hu0 hu1 => ?_
  simp only [x_var, x_con, x_bin, x_neg, x_cmp, x_chain, x_tTru, x_tNot, x_tAnd, x_tOr, x_tBool, x_tYes, x_not, x_and, x_or, x_if, x_b1, x_b2, x_is, x_idx, x_oNone, x_oSome, x_cut, x_aNil, x_aCons, x_tup, x_lst, x_call, x_callS,
    x_iSeq, x_iRng1, x_iRng2, x_bor, x_tBor, x_put1, List.map_cons, List.map_nil, List.cons_append, List.nil_append, List.length_cons, List.length_nil, Nat.zero_add, Nat.reduceAdd, Nat.reduceSub, List.reduceReplicate, start,
    List.getElem?_cons_zero, List.getElem?_cons_succ, List.set_cons_zero, List.set_cons_succ, bnd_ret, bnd_assoc, bnd_grd, b1_if, bnd_ite, small, Nat.reduceLeDiff, grd_true, o_add, o_sub, o_neg, o_eq, o_ne, o_lt, o_le, o_gt, o_ge, o_eqS, o_neS,
    decide_eq_true_eq, reduceIte, decide_true, decide_false, Bool.not_true, Bool.not_false, Bool.false_eq_true, itemsOf, asInt, endOf, isTy,
    grd_tt, nx_int, nx_bool, nx_str, nx_none, nx_tup, nx_lst, x_isC, x_fld, x_in, x_count, x_lstR, x_tupR, x_raise, x_star, bnd_thr, noX_ret, fld_x, exn_d, eSetO, Out.clear, List.zip_cons_cons, List.zip_nil_left, List.zip_nil_right, s_asg, s_par, s_own, s_parO, s_put, s_expr, s_ret, s_skip, s_seq, s_rel, x_asg, x_par, x_own, x_parO, x_put, x_expr, x_ret, x_retN, x_skip, x_rel, x_app, x_setI, x_sIf, x_for, x_brk, x_cnt, b_lenT, b_lenL, b_tupL, b_tupT, b_max2, b_min2, o_addL, o_addT, cut_ints, sum_ints, s_chk, s_for, s_brk, s_cnt, s_retN, t_bool, g_rng, g_le, List.length_map]
  refine Ok.drawB (n := 0) (by omega) (by omega) fun v hv0 hv1 => ?_
  have s1 := sum_part (i := i.toNat) (k := (i + k + 1).toNat - i.toNat) hn h2
  have s2 := sum_part (i := 0) (k := 24) hn h2
  rw [List.drop_zero, List.take_of_length_le h2] at s2
  generalize ((ns.drop i.toNat).take ((i + k + 1).toNat - i.toNat)).sum = s at s1 ⊢
  have hm2 := hn m hm
  have fin : ∀ z : Int, z ≤ 2000 → Ok (bnd (ret (PyData.int z)) fun a => bnd (bi2 .max (.int 1) a) fun d => ret (Out.rt d)) 0 fun o => match o with | .rt d => ∃ w : Int, d = .int w ∧ 1 ≤ w ∧ w ≤ 2000 | .nx E => ∃ w : Int, PyData.none = .int w ∧ 1 ≤ w ∧ w ≤ 2000 | _ => False := fun z hz => by
    simp only [bnd_ret, b_max2]
    refine Ok.ret ⟨_, rfl, ?_, ?_⟩ <;> split <;> omega
  obtain rfl | rfl | rfl | rfl | rfl | rfl | rfl : v = 0 ∨ v = 1 ∨ v = 2 ∨ v = 3 ∨ v = 4 ∨ v = 5 ∨ v = 6 := by omega
  · exact fin m (by omega)
  · exact fin _ (by omega)
  · exact fin _ (by omega)
  · exact fin _ (by omega)
  · exact fin _ (by omega)
  · exact fin _ (by omega)
  · exact fin _ (by omega)
end DL
end
section
namespace DL
open PySem
theorem x_iTwos (a b : XE) (E : Env) : iTwos a b E = bnd (a E) fun x => bnd (b E) fun y => bnd (itemsOf x) fun xs => bnd (itemsOf y) fun ys => ret (twos xs ys) := id rfl
def cutN (ns : List Int) (a b : Nat) : List Int := (ns.drop a).take (b - a)
def part (ns : List Int) (a b : Nat) : D := .tuple ((cutN ns a b).map PyData.int)
/-- the lines that begin at the given places and end at e -/
def parts (ns : List Int) : List Nat → Nat → List D
  | [], _ => []
  | [a], e => [part ns a e]
  | a :: b :: r, e => part ns a b :: parts ns (b :: r) e
theorem parts_len (ns : List Int) (e : Nat) : ∀ l : List Nat, (parts ns l e).length = l.length
  | [] => rfl
  | [b] => rfl
  | b :: c :: r => congrArg (· + 1) (parts_len ns e (c :: r))
theorem cut_tail (ds : List D) : DL.cut ds (some 1) none = ds.tail := by
  cases ds with
  | nil => rfl
  | cons d ds =>
    unfold DL.cut
    rw [show (1 : Int) = ((1 : Nat) : Int) from rfl, HT.sIx_nat, show HT.sIx (d :: ds).length (d :: ds).length none = (d :: ds).length from rfl, List.length_cons, Nat.min_eq_left (by omega)]
    simp
theorem cut_tailT (ds : List D) : opCut (.tuple ds) (some 1) none = ret (.tuple ds.tail) := by rw [← cut_tail]; rfl
theorem natsD_tail (l : List Nat) : (natsD l).tail = natsD l.tail := by cases l <;> rfl
def partF (ns : List Int) (d : D) : D := match d with
  | .tuple [.int a, .int b] => part ns a.toNat b.toNat
  | d => d
theorem twos_parts (ns : List Int) (e : Nat) : ∀ l : List Nat, (twos (natsD l) (natsD l.tail ++ [.int (e : Int)])).map (partF ns) = parts ns l e
  | [] => rfl
  | [a] => rfl
  | a :: b :: r => congrArg (part ns a b :: ·) (twos_parts ns e (b :: r))
theorem twos_mem {e : Nat} : ∀ {l : List Nat} {d : D}, d ∈ twos (natsD l) (natsD l.tail ++ [.int (e : Int)]) → ∃ a b : Nat, d = .tuple [.int (a : Int), .int (b : Int)] ∧ a ∈ l ∧ (b ∈ l ∨ b = e)
  | [], d, h => by cases h
  | [a], d, h => by
    cases h with
    | head => exact ⟨a, e, rfl, .head _, .inr rfl⟩
    | tail _ h => cases h
  | a :: b :: r, d, h => by
    cases h with
    | head => exact ⟨a, b, rfl, .head _, .inl (.tail _ (.head _))⟩
    | tail _ h =>
      obtain ⟨x, y, e1, e2, e3⟩ := twos_mem (l := b :: r) h
      exact ⟨x, y, e1, .tail _ e2, e3.imp (.tail _) id⟩
theorem opCut_nat {ns : List Int} {a b : Nat} (ha : a ≤ ns.length) (hb : b ≤ ns.length) : opCut (.tuple (ns.map PyData.int)) (some (a : Int)) (some (b : Int)) = ret (part ns a b) := by
  rw [cut_ints (by omega) (by omega) (by omega) (by omega)]
  rfl
theorem lines_of_0 {ns : List Int} {l : List Nat} (h2 : ns.length ≤ 900) (hl : l.length ≤ 1000) (h : ∀ a ∈ l, a ≤ ns.length) : w_lines_of_0 [.tuple (ns.map PyData.int), .tuple (natsD l)] = ret (.tuple (parts ns l ns.length)) := by
  unfold w_lines_of_0
  refine (f_fn (by rfl)).trans ?_
  have hn : (natsD l).length = l.length := by unfold natsD; rw [List.length_map]
  have ht : (natsD l.tail ++ [PyData.int (ns.length : Int)]).length ≤ 1000000 := by
    rw [List.length_append, ← natsD_tail, List.length_tail, hn]; simp; omega
  simp only [x_var, x_con, x_bin, x_neg, x_cmp, x_chain, x_tTru, x_tNot, x_tAnd, x_tOr, x_tBool, x_tYes, x_not, x_and, x_or, x_if, x_b1, x_b2, x_is, x_idx, x_oNone, x_oSome, x_cut, x_aNil, x_aCons, x_tup, x_lst, x_call, x_callS,
    x_iSeq, x_iRng1, x_iRng2, x_bor, x_tBor, x_put1, List.map_cons, List.map_nil, List.cons_append, List.nil_append, List.length_cons, List.length_nil, Nat.zero_add, Nat.reduceAdd, Nat.reduceSub, List.reduceReplicate, start,
    List.getElem?_cons_zero, List.getElem?_cons_succ, List.set_cons_zero, List.set_cons_succ, bnd_ret, bnd_assoc, bnd_grd, b1_if, bnd_ite, small, Nat.reduceLeDiff, grd_true, o_add, o_sub, o_neg, o_eq, o_ne, o_lt, o_le, o_gt, o_ge, o_eqS, o_neS,
    decide_eq_true_eq, reduceIte, decide_true, decide_false, Bool.not_true, Bool.not_false, Bool.false_eq_true, itemsOf, asInt, endOf, isTy,
    grd_tt, nx_int, nx_bool, nx_str, nx_none, nx_tup, nx_lst, x_isC, x_fld, x_in, x_count, x_lstR, x_tupR, x_raise, x_star, bnd_thr, noX_ret, fld_x, exn_d, eSetO, Out.clear, List.zip_cons_cons, List.zip_nil_left, List.zip_nil_right, s_asg, s_par, s_own, s_parO, s_put, s_expr, s_ret, s_skip, s_seq, s_rel, x_asg, x_par, x_own, x_parO, x_put, x_expr, x_ret, x_retN, x_skip, x_rel, x_app, x_setI, x_sIf, x_for, x_brk, x_cnt, b_lenT, b_lenL, b_tupL, b_tupT, b_max2, b_min2, o_addL, o_addT, cut_ints, sum_ints, s_chk, s_for, s_brk, s_cnt, s_retN, t_bool, g_rng, g_le, List.length_map, cut_tailT, natsD_tail]
  rw [grd_pos ht]
  simp only [x_var, x_con, x_bin, x_neg, x_cmp, x_chain, x_tTru, x_tNot, x_tAnd, x_tOr, x_tBool, x_tYes, x_not, x_and, x_or, x_if, x_b1, x_b2, x_is, x_idx, x_oNone, x_oSome, x_cut, x_aNil, x_aCons, x_tup, x_lst, x_call, x_callS,
    x_iSeq, x_iRng1, x_iRng2, x_bor, x_tBor, x_put1, List.map_cons, List.map_nil, List.cons_append, List.nil_append, List.length_cons, List.length_nil, Nat.zero_add, Nat.reduceAdd, Nat.reduceSub, List.reduceReplicate, start,
    List.getElem?_cons_zero, List.getElem?_cons_succ, List.set_cons_zero, List.set_cons_succ, bnd_ret, bnd_assoc, bnd_grd, b1_if, bnd_ite, small, Nat.reduceLeDiff, grd_true, o_add, o_sub, o_neg, o_eq, o_ne, o_lt, o_le, o_gt, o_ge, o_eqS, o_neS,
    decide_eq_true_eq, reduceIte, decide_true, decide_false, Bool.not_true, Bool.not_false, Bool.false_eq_true, itemsOf, asInt, endOf, isTy,
    grd_tt, nx_int, nx_bool, nx_str, nx_none, nx_tup, nx_lst, x_isC, x_fld, x_in, x_count, x_lstR, x_tupR, x_raise, x_star, bnd_thr, noX_ret, fld_x, exn_d, eSetO, Out.clear, List.zip_cons_cons, List.zip_nil_left, List.zip_nil_right, s_asg, s_par, s_own, s_parO, s_put, s_expr, s_ret, s_skip, s_seq, s_rel, x_asg, x_par, x_own, x_parO, x_put, x_expr, x_ret, x_retN, x_skip, x_rel, x_app, x_setI, x_sIf, x_for, x_brk, x_cnt, b_lenT, b_lenL, b_tupL, b_tupT, b_max2, b_min2, o_addL, o_addT, cut_ints, sum_ints, s_chk, s_for, s_brk, s_cnt, s_retN, t_bool, g_rng, g_le, List.length_map, x_comp, x_iTwos, wipeE]
  have e := comp_map (tg := .tp [3, 4]) (t := tYes) (e := eCut (eVar 0) (oSome (eVar 3)) (oSome (eVar 4))) (E := [.val (.tuple (ns.map PyData.int)), .val (.tuple (natsD l)), .val (.list (natsD l.tail ++ [.int (ns.length : Int)])), .unk, .unk]) (partF ns)
    (twos (natsD l) (natsD l.tail ++ [.int (ns.length : Int)])) [] (by have := twos_len (natsD l) (natsD l.tail ++ [.int (ns.length : Int)]); simp; omega) (by
    intro d hd
    obtain ⟨a, b, rfl, ha, hb⟩ := twos_mem hd
    have ha2 := h a ha
    have hb2 : b ≤ ns.length := by
      rcases hb with hb | rfl
      · exact h b hb
      · exact Nat.le_refl _
    refine ⟨_, rfl, rfl, ?_⟩
    simp only [x_var, x_con, x_bin, x_neg, x_cmp, x_chain, x_tTru, x_tNot, x_tAnd, x_tOr, x_tBool, x_tYes, x_not, x_and, x_or, x_if, x_b1, x_b2, x_is, x_idx, x_oNone, x_oSome, x_cut, x_aNil, x_aCons, x_tup, x_lst, x_call, x_callS,
    x_iSeq, x_iRng1, x_iRng2, x_bor, x_tBor, x_put1, List.map_cons, List.map_nil, List.cons_append, List.nil_append, List.length_cons, List.length_nil, Nat.zero_add, Nat.reduceAdd, Nat.reduceSub, List.reduceReplicate, start,
    List.getElem?_cons_zero, List.getElem?_cons_succ, List.set_cons_zero, List.set_cons_succ, bnd_ret, bnd_assoc, bnd_grd, b1_if, bnd_ite, small, Nat.reduceLeDiff, grd_true, o_add, o_sub, o_neg, o_eq, o_ne, o_lt, o_le, o_gt, o_ge, o_eqS, o_neS,
    decide_eq_true_eq, reduceIte, decide_true, decide_false, Bool.not_true, Bool.not_false, Bool.false_eq_true, itemsOf, asInt, bi2, endOf, isTy,
    grd_tt, nx_int, nx_bool, nx_str, nx_none, nx_tup, nx_lst, x_isC, x_fld, x_in, x_count, x_lstR, x_tupR, x_raise, x_star, bnd_thr, noX_ret, fld_x, exn_d, eSetO, Out.clear, List.zip_cons_cons, List.zip_nil_left, List.zip_nil_right, s_asg, s_par, s_own, s_parO, s_put, s_expr, s_ret, s_skip, s_seq, s_rel, x_asg, x_par, x_own, x_parO, x_put, x_expr, x_ret, x_retN, x_skip, x_rel, x_app, x_setI, x_sIf, x_for, x_brk, x_cnt, opCut_nat ha2 hb2, partF, Int.toNat_natCast])
  rw [e]
  simp only [x_var, x_con, x_bin, x_neg, x_cmp, x_chain, x_tTru, x_tNot, x_tAnd, x_tOr, x_tBool, x_tYes, x_not, x_and, x_or, x_if, x_b1, x_b2, x_is, x_idx, x_oNone, x_oSome, x_cut, x_aNil, x_aCons, x_tup, x_lst, x_call, x_callS,
    x_iSeq, x_iRng1, x_iRng2, x_bor, x_tBor, x_put1, List.map_cons, List.map_nil, List.cons_append, List.nil_append, List.length_cons, List.length_nil, Nat.zero_add, Nat.reduceAdd, Nat.reduceSub, List.reduceReplicate, start,
    List.getElem?_cons_zero, List.getElem?_cons_succ, List.set_cons_zero, List.set_cons_succ, bnd_ret, bnd_assoc, bnd_grd, b1_if, bnd_ite, small, Nat.reduceLeDiff, grd_true, o_add, o_sub, o_neg, o_eq, o_ne, o_lt, o_le, o_gt, o_ge, o_eqS, o_neS,
    decide_eq_true_eq, reduceIte, decide_true, decide_false, Bool.not_true, Bool.not_false, Bool.false_eq_true, itemsOf, asInt, endOf, isTy,
    grd_tt, nx_int, nx_bool, nx_str, nx_none, nx_tup, nx_lst, x_isC, x_fld, x_in, x_count, x_lstR, x_tupR, x_raise, x_star, bnd_thr, noX_ret, fld_x, exn_d, eSetO, Out.clear, List.zip_cons_cons, List.zip_nil_left, List.zip_nil_right, s_asg, s_par, s_own, s_parO, s_put, s_expr, s_ret, s_skip, s_seq, s_rel, x_asg, x_par, x_own, x_parO, x_put, x_expr, x_ret, x_retN, x_skip, x_rel, x_app, x_setI, x_sIf, x_for, x_brk, x_cnt, b_lenT, b_lenL, b_tupL, b_tupT, b_max2, b_min2, o_addL, o_addT, cut_ints, sum_ints, s_chk, s_for, s_brk, s_cnt, s_retN, t_bool, g_rng, g_le, List.length_map, twos_parts]
theorem atI_last (xs : List D) (x : D) : L2.atI (xs ++ [x]) (-1) = some x := by
  unfold L2.atI L2.ixN
  rw [if_neg (by decide), List.length_append, List.length_singleton, if_pos (by omega)]
  show (xs ++ [x])[(-1 + ((xs.length + 1 : Nat) : Int)).toNat]? = _
  rw [show (-1 + ((xs.length + 1 : Nat) : Int)).toNat = xs.length by omega]
  simp
theorem lines_at_0 {ns : List Int} {w : Int} {o : Option Nat} (h : Long ns w o) (h1 : 0 < ns.length) (h2 : ns.length ≤ 900) : w_lines_at_0 [.tuple (ns.map PyData.int), .int w] = match o with | none => ret (.tuple (parts ns (starts ns w) ns.length)) | some j => thr (tooNarrow j) := by
  unfold w_lines_at_0
  refine (f_fn (by rfl)).trans ?_
  simp only [x_var, x_con, x_bin, x_neg, x_cmp, x_chain, x_tTru, x_tNot, x_tAnd, x_tOr, x_tBool, x_tYes, x_not, x_and, x_or, x_if, x_b1, x_b2, x_is, x_idx, x_oNone, x_oSome, x_cut, x_aNil, x_aCons, x_tup, x_lst, x_call, x_callS,
    x_iSeq, x_iRng1, x_iRng2, x_bor, x_tBor, x_put1, List.map_cons, List.map_nil, List.cons_append, List.nil_append, List.length_cons, List.length_nil, Nat.zero_add, Nat.reduceAdd, Nat.reduceSub, List.reduceReplicate, start,
    List.getElem?_cons_zero, List.getElem?_cons_succ, List.set_cons_zero, List.set_cons_succ, bnd_ret, bnd_assoc, bnd_grd, b1_if, bnd_ite, small, Nat.reduceLeDiff, grd_true, o_add, o_sub, o_neg, o_eq, o_ne, o_lt, o_le, o_gt, o_ge, o_eqS, o_neS,
    decide_eq_true_eq, reduceIte, decide_true, decide_false, Bool.not_true, Bool.not_false, Bool.false_eq_true, itemsOf, asInt, bi2, endOf, isTy,
    grd_tt, nx_int, nx_bool, nx_str, nx_none, nx_tup, nx_lst, x_isC, x_fld, x_in, x_count, x_lstR, x_tupR, x_raise, x_star, bnd_thr, noX_ret, fld_x, exn_d, eSetO, Out.clear, List.zip_cons_cons, List.zip_nil_left, List.zip_nil_right, s_asg, s_par, s_own, s_parO, s_put, s_expr, s_ret, s_skip, s_seq, s_rel, x_asg, x_par, x_own, x_parO, x_put, x_expr, x_ret, x_retN, x_skip, x_rel, x_app, x_setI, x_sIf, x_for, x_brk, x_cnt]
  rw [starts_at_0 h h1 h2]
  cases o with
  | none =>
    have sl := starts_len ns w
    simp only [x_var, x_con, x_bin, x_neg, x_cmp, x_chain, x_tTru, x_tNot, x_tAnd, x_tOr, x_tBool, x_tYes, x_not, x_and, x_or, x_if, x_b1, x_b2, x_is, x_idx, x_oNone, x_oSome, x_cut, x_aNil, x_aCons, x_tup, x_lst, x_call, x_callS,
    x_iSeq, x_iRng1, x_iRng2, x_bor, x_tBor, x_put1, List.map_cons, List.map_nil, List.cons_append, List.nil_append, List.length_cons, List.length_nil, Nat.zero_add, Nat.reduceAdd, Nat.reduceSub, List.reduceReplicate, start,
    List.getElem?_cons_zero, List.getElem?_cons_succ, List.set_cons_zero, List.set_cons_succ, bnd_ret, bnd_assoc, bnd_grd, b1_if, bnd_ite, small, Nat.reduceLeDiff, grd_true, o_add, o_sub, o_neg, o_eq, o_ne, o_lt, o_le, o_gt, o_ge, o_eqS, o_neS,
    decide_eq_true_eq, reduceIte, decide_true, decide_false, Bool.not_true, Bool.not_false, Bool.false_eq_true, itemsOf, asInt, bi2, endOf, isTy,
    grd_tt, nx_int, nx_bool, nx_str, nx_none, nx_tup, nx_lst, x_isC, x_fld, x_in, x_count, x_lstR, x_tupR, x_raise, x_star, bnd_thr, noX_ret, fld_x, exn_d, eSetO, Out.clear, List.zip_cons_cons, List.zip_nil_left, List.zip_nil_right, s_asg, s_par, s_own, s_parO, s_put, s_expr, s_ret, s_skip, s_seq, s_rel, x_asg, x_par, x_own, x_parO, x_put, x_expr, x_ret, x_retN, x_skip, x_rel, x_app, x_setI, x_sIf, x_for, x_brk, x_cnt]
    rw [lines_of_0 h2 (by omega) fun a ha => Nat.le_of_lt (starts_lt h1 a ha)]
    simp only [x_var, x_con, x_bin, x_neg, x_cmp, x_chain, x_tTru, x_tNot, x_tAnd, x_tOr, x_tBool, x_tYes, x_not, x_and, x_or, x_if, x_b1, x_b2, x_is, x_idx, x_oNone, x_oSome, x_cut, x_aNil, x_aCons, x_tup, x_lst, x_call, x_callS,
    x_iSeq, x_iRng1, x_iRng2, x_bor, x_tBor, x_put1, List.map_cons, List.map_nil, List.cons_append, List.nil_append, List.length_cons, List.length_nil, Nat.zero_add, Nat.reduceAdd, Nat.reduceSub, List.reduceReplicate, start,
    List.getElem?_cons_zero, List.getElem?_cons_succ, List.set_cons_zero, List.set_cons_succ, bnd_ret, bnd_assoc, bnd_grd, b1_if, bnd_ite, small, Nat.reduceLeDiff, grd_true, o_add, o_sub, o_neg, o_eq, o_ne, o_lt, o_le, o_gt, o_ge, o_eqS, o_neS,
    decide_eq_true_eq, reduceIte, decide_true, decide_false, Bool.not_true, Bool.not_false, Bool.false_eq_true, itemsOf, asInt, bi2, endOf, isTy,
    grd_tt, nx_int, nx_bool, nx_str, nx_none, nx_tup, nx_lst, x_isC, x_fld, x_in, x_count, x_lstR, x_tupR, x_raise, x_star, bnd_thr, noX_ret, fld_x, exn_d, eSetO, Out.clear, List.zip_cons_cons, List.zip_nil_left, List.zip_nil_right, s_asg, s_par, s_own, s_parO, s_put, s_expr, s_ret, s_skip, s_seq, s_rel, x_asg, x_par, x_own, x_parO, x_put, x_expr, x_ret, x_retN, x_skip, x_rel, x_app, x_setI, x_sIf, x_for, x_brk, x_cnt]
  | some j => rfl
theorem parts_mem {ns : List Int} {e : Nat} : ∀ {l : List Nat} {d : D}, d ∈ parts ns l e → ∃ a b, d = part ns a b
  | [], d, h => by cases h
  | [a], d, h => by
    cases h with
    | head => exact ⟨_, _, rfl⟩
    | tail _ h => cases h
  | a :: b :: r, d, h => by
    cases h with
    | head => exact ⟨_, _, rfl⟩
    | tail _ h => exact parts_mem h
end DL
end
section
namespace DL
open PySem
theorem cut_from {ns : List Int} {a : Nat} (ha : a ≤ ns.length) : opCut (.tuple (ns.map PyData.int)) (some (a : Int)) none = ret (.tuple ((ns.drop a).map PyData.int)) := by
  show ret (PyData.tuple (DL.cut (ns.map PyData.int) (some (a : Int)) none)) = _
  unfold DL.cut
  rw [HT.sIx_nat, show HT.sIx (ns.map PyData.int).length (ns.map PyData.int).length none = (ns.map PyData.int).length from rfl, List.length_map, Nat.min_eq_left ha, ← List.map_drop, List.take_of_length_le (by rw [List.length_map, List.length_drop]; omega)]
theorem in_nats {x : Int} {l : List Nat} : opIn false (.int x) (.tuple (natsD l)) = ret (.bool (decide (∃ n ∈ l, (n : Int) = x))) := by
  have hs : SeqAt.shaped (.int x) = true := by rfl
  have hs2 : SeqAt.shaped (.tuple (natsD l)) = true := by rw [natsD_ints]; exact shp_ints _
  show grd _ (ret (isIn false (.int x) (natsD l))) = _
  rw [grd_pos ⟨hs, hs2⟩]
  unfold isIn natsD
  rw [List.any_map]
  congr 2
  rw [Bool.eq_iff_iff]
  simp [PyData.eqv]
theorem idx_headL (d : D) (ds : List D) : opIdx (.list (d :: ds)) (.int 0) = ret d := by
  rw [idx_list (by decide) (by simp)]
  rfl
end DL
end
section
namespace DL
open PySem
structure Thin (n k : Nat) (d : D) : Prop where
  short : PyData.leavesShort 8 d = true
  able : PyData.showable d = true
  bulk : PyData.bulk d ≤ n
  deep : PyData.depth d ≤ k
  pln : plain d = true
theorem Thin.mono {n k n' k' : Nat} {d : D} (h : Thin n k d) (hn : n ≤ n') (hk : k ≤ k') : Thin n' k' d := ⟨h.short, h.able, Nat.le_trans h.bulk hn, Nat.le_trans h.deep hk, h.pln⟩
structure ThinAll (n k : Nat) (ds : List D) : Prop where
  short : PyData.leavesShortAll 8 ds = true
  able : PyData.showableAll ds = true
  bulk : PyData.bulkAll ds ≤ n
  deep : PyData.depthAll ds ≤ k
  pln : plainAll ds = true
theorem ThinAll.mono {n k n' k' : Nat} {ds : List D} (h : ThinAll n k ds) (hn : n ≤ n') (hk : k ≤ k') : ThinAll n' k' ds := ⟨h.short, h.able, Nat.le_trans h.bulk hn, Nat.le_trans h.deep hk, h.pln⟩
end DL
end
section
namespace DL
open PySem
theorem nxFrom_spec (ns : List Int) (w : Int) (i : Nat) : ∀ f j, j ≤ ns.length → ns.length ≤ j + f → nxFrom ns w i f j ≤ ns.length ∧ (∀ k, j ≤ k → k < nxFrom ns w i f j → ext ns i k ≤ w) ∧ (nxFrom ns w i f j < ns.length → w < ext ns i (nxFrom ns w i f j))
  | 0, j, h1, h2 => by
    refine ⟨h1, fun k a b => ?_, fun h => ?_⟩
    · have : k < j := b; omega
    · have : j < ns.length := h; omega
  | f + 1, j, h1, h2 => by
    unfold nxFrom
    by_cases h : j < ns.length ∧ ext ns i j ≤ w
    · rw [if_pos h]
      obtain ⟨a, b, c⟩ := nxFrom_spec ns w i f (j + 1) (by omega) (by omega)
      refine ⟨a, fun k k1 k2 => ?_, c⟩
      by_cases e : k = j
      · rw [e]; exact h.2
      · exact b k (by omega) k2
    · rw [if_neg h]
      refine ⟨h1, fun k a b => by omega, fun hl => ?_⟩
      have : ¬ ext ns i j ≤ w := fun z => h ⟨hl, z⟩
      omega
theorem nx_spec {ns : List Int} {w : Int} {i : Nat} (hi : i < ns.length) : i < nx ns w i ∧ nx ns w i ≤ ns.length ∧ (∀ k, i < k → k < nx ns w i → ext ns i k ≤ w) ∧ (nx ns w i < ns.length → w < ext ns i (nx ns w i)) := by
  obtain ⟨a, b, c⟩ := nxFrom_spec ns w i (ns.length - i) (i + 1) (by omega) (by omega)
  exact ⟨nx_gt ns w i, a, fun k k1 k2 => b k k1 k2, c⟩
/-- the starts of the lines at width w, from one on -/
def Chain (ns : List Int) (w : Int) : List Nat → Prop
  | [] => False
  | [a] => a < ns.length ∧ nx ns w a = ns.length
  | a :: b :: r => a < ns.length ∧ nx ns w a = b ∧ Chain ns w (b :: r)
theorem Chain.lt {ns : List Int} {w : Int} : ∀ {a : Nat} {r : List Nat}, Chain ns w (a :: r) → a < ns.length
  | _, [], h => h.1
  | _, _ :: _, h => h.1
theorem chain_rest {ns : List Int} {w : Int} : ∀ f j, ns.length ≤ j + f → j < ns.length → Chain ns w (j :: restF ns w f (nx ns w j))
  | 0, j, h1, h2 => by omega
  | f + 1, j, h1, h2 => by
    have g := nx_gt ns w j
    have l := nx_le ns w j h2
    by_cases h : nx ns w j < ns.length
    · rw [show restF ns w (f + 1) (nx ns w j) = nx ns w j :: restF ns w f (nx ns w (nx ns w j)) from if_pos h]
      exact ⟨h2, rfl, chain_rest f _ (by omega) h⟩
    · rw [show restF ns w (f + 1) (nx ns w j) = [] from if_neg h]
      exact ⟨h2, by omega⟩
theorem starts_chain {ns : List Int} (w : Int) (h : 0 < ns.length) : Chain ns w (starts ns w) := chain_rest _ 0 (by omega) h
theorem chain_unique {ns : List Int} {w : Int} : ∀ (l : List Nat) (a f : Nat), Chain ns w (a :: l) → ns.length ≤ a + f → restF ns w f (nx ns w a) = l
  | [], a, f, h, hf => by
    rw [h.2]
    cases f with
    | zero => rfl
    | succ f => exact if_neg (by omega)
  | b :: r, a, f, h, hf => by
    obtain ⟨h1, h2, h3⟩ := h
    have g := nx_gt ns w a
    have hb := h3.lt
    rw [h2] at g ⊢
    cases f with
    | zero => omega
    | succ f =>
      rw [show restF ns w (f + 1) b = b :: restF ns w f (nx ns w b) from if_pos hb, chain_unique r b f h3 (by omega)]
theorem starts_unique {ns : List Int} {w : Int} {l : List Nat} (h : Chain ns w (0 :: l)) : starts ns w = 0 :: l := congrArg (0 :: ·) (chain_unique l 0 _ h (by omega))
/-- how wide each line with the next word would be -/
def exts (ns : List Int) : List Nat → List Int
  | [] => []
  | [_] => []
  | a :: b :: r => ext ns a b :: exts ns (b :: r)
theorem chain_keep {ns : List Int} {w v : Int} (hv : w ≤ v) : ∀ {l : List Nat}, Chain ns w l → (∀ e ∈ exts ns l, v < e) → Chain ns v l
  | [a], h, _ => by
    obtain ⟨h1, h2⟩ := h
    obtain ⟨s1, s2, s3, s4⟩ := nx_spec (w := w) h1
    rw [h2] at s1 s3
    exact ⟨h1, nx_eq h1 (Nat.le_refl _) (fun k a b => Int.le_trans (s3 k a b) hv) fun z => by omega⟩
  | a :: b :: r, h, he => by
    obtain ⟨h1, h2, h3⟩ := h
    obtain ⟨s1, s2, s3, s4⟩ := nx_spec (w := w) h1
    rw [h2] at s1 s2 s3
    exact ⟨h1, nx_eq s1 s2 (fun k a b => Int.le_trans (s3 k a b) hv) fun z => he _ (.head _), chain_keep hv h3 fun e x => he e (.tail _ x)⟩
theorem chain_gt {ns : List Int} {w : Int} : ∀ {l : List Nat}, Chain ns w l → ∀ e ∈ exts ns l, w < e
  | [a], h, e, he => by cases he
  | a :: b :: r, h, e, he => by
    obtain ⟨h1, h2, h3⟩ := h
    cases he with
    | head =>
      obtain ⟨s1, s2, s3, s4⟩ := nx_spec (w := w) h1
      rw [h2] at s4
      exact s4 h3.lt
    | tail _ he => exact chain_gt h3 e he
theorem sum_sub : ∀ {ns : List Int} {i k : Nat}, (∀ x ∈ ns, 0 ≤ x) → ((ns.drop i).take k).sum ≤ ns.sum
  | ns, i, k, h => by
    have pos : ∀ l : List Int, (∀ x ∈ l, 0 ≤ x) → 0 ≤ l.sum := fun l hl => by
      induction l with
      | nil => simp
      | cons a l ih =>
        have := hl a (.head _)
        have := ih fun x hx => hl x (.tail _ hx)
        rw [List.sum_cons]; omega
    have e1 : ns.sum = (ns.take i).sum + (ns.drop i).sum := by rw [← List.sum_append, List.take_append_drop]
    have e2 : (ns.drop i).sum = ((ns.drop i).take k).sum + ((ns.drop i).drop k).sum := by rw [← List.sum_append, List.take_append_drop]
    have p1 := pos (ns.take i) fun x hx => h x (List.mem_of_mem_take hx)
    have p2 := pos ((ns.drop i).drop k) fun x hx => h x (List.mem_of_mem_drop (List.mem_of_mem_drop hx))
    omega
theorem exts_le {ns : List Int} (hn : ∀ x ∈ ns, 0 ≤ x) : ∀ {l : List Nat}, (∀ a ∈ l, a < ns.length) → ∀ e ∈ exts ns l, e ≤ ns.sum + ns.length - 1
  | [], _, e, he => by cases he
  | [a], _, e, he => by cases he
  | a :: b :: r, h, e, he => by
    cases he with
    | head =>
      have := h b (.tail _ (.head _))
      have := sum_sub (i := a) (k := b + 1 - a) hn
      unfold ext
      omega
    | tail _ he => exact exts_le hn (fun x hx => h x (.tail _ hx)) e he
def nextW (ns : List Int) (l : List Nat) : Option Int := match exts ns l with
  | [] => none
  | a :: r => some (least a r)
theorem least_mem : ∀ (r : List Int) (a : Int), least a r ∈ a :: r := by
  intro r
  induction r with
  | nil => intro a; exact .head _
  | cons b r ih =>
    intro a
    show r.foldl min (min a b) ∈ _
    have := ih (min a b)
    unfold least at this
    rcases List.mem_cons.mp this with e | h
    · rw [e]
      by_cases h : a ≤ b
      · rw [Int.min_eq_left h]; exact .head _
      · rw [Int.min_eq_right (by omega)]; exact .tail _ (.head _)
    · exact .tail _ (.tail _ h)
theorem least_le : ∀ (r : List Int) (a : Int), ∀ x ∈ a :: r, least a r ≤ x := by
  intro r
  induction r with
  | nil => intro a x hx; cases hx with
    | head => exact Int.le_refl _
    | tail _ h => cases h
  | cons b r ih =>
    intro a x hx
    show r.foldl min (min a b) ≤ x
    have := ih (min a b)
    unfold least at this
    cases hx with
    | head => exact Int.le_trans (this _ (.head _)) (Int.min_le_left _ _)
    | tail _ hx =>
      cases hx with
      | head => exact Int.le_trans (this _ (.head _)) (Int.min_le_right _ _)
      | tail _ hx => exact this x (.tail _ hx)
theorem nextW_some {ns : List Int} {l : List Nat} {v : Int} (h : nextW ns l = some v) : v ∈ exts ns l ∧ ∀ e ∈ exts ns l, v ≤ e := by
  unfold nextW at h
  split at h
  · cases h
  · next a r e =>
    rw [e]
    cases h
    exact ⟨least_mem r a, least_le r a⟩
theorem nextW_none {ns : List Int} {l : List Nat} (h : nextW ns l = none) : exts ns l = [] := by
  unfold nextW at h
  split at h
  · assumption
  · cases h
def bookF (ns : List Int) : Nat → Int → List (Int × List Nat)
  | 0, _ => []
  | f + 1, w => (w, starts ns w) :: match nextW ns (starts ns w) with
    | none => []
    | some v => bookF ns f v
end DL
end
section
namespace DL
open PySem
structure Shp (k : Nat) (d : D) : Prop where
  lay : PyData.canLay0 d = true
  deep : PyData.depth d ≤ k
theorem Shp.ok {k : Nat} {d : D} (h : Shp k d) (hk : k ≤ 64) : SeqAt.shaped d = true := shp_of h.lay (Nat.le_trans h.deep hk)
theorem Shp.mono {k k' : Nat} {d : D} (h : Shp k d) (hk : k ≤ k') : Shp k' d := ⟨h.lay, Nat.le_trans h.deep hk⟩
theorem shp_int (i : Int) : Shp 0 (.int i) := ⟨rfl, Nat.le_refl _⟩
theorem shp_all {k : Nat} : ∀ {ds : List D}, (∀ d ∈ ds, Shp k d) → PyData.canLayAll0 ds = true ∧ PyData.depthAll ds ≤ k
  | [], _ => ⟨rfl, Nat.zero_le _⟩
  | d :: ds, h => by
    obtain ⟨a, b⟩ := shp_all fun x hx => h x (.tail _ hx)
    have c := h d (.head _)
    have := c.deep
    refine ⟨?_, ?_⟩
    · simp only [PyData.canLayAll0, a, c.lay, Bool.and_self]
    · simp only [PyData.depthAll]; omega
theorem shp_tup {k : Nat} {ds : List D} (h : ∀ d ∈ ds, Shp k d) : Shp (k + 1) (.tuple ds) := by
  obtain ⟨a, b⟩ := shp_all h
  exact ⟨by simp only [PyData.canLay0, a], by simp only [PyData.depth]; omega⟩
theorem shp_lst {k : Nat} {ds : List D} (h : ∀ d ∈ ds, Shp k d) : Shp (k + 1) (.list ds) := by
  obtain ⟨a, b⟩ := shp_all h
  exact ⟨by simp only [PyData.canLay0, a], by simp only [PyData.depth]; omega⟩
def push {β : Type} [DecidableEq β] (acc : List (Int × β)) (p : Int × β) : List (Int × β) := match acc.getLast? with
  | none => acc ++ [p]
  | some q => if q.2 = p.2 then acc else acc ++ [p]
def scanA {β : Type} [DecidableEq β] (S : Int → β) (m : Int) : Nat → List (Int × β)
  | 0 => []
  | n + 1 => push (scanA S m n) (m + n, S (m + n))
theorem push_snoc {β : Type} [DecidableEq β] (P : List (Int × β)) (q p : Int × β) : push (P ++ [q]) p = if q.2 = p.2 then P ++ [q] else P ++ [q] ++ [p] := by
  unfold push
  rw [List.getLast?_concat]
theorem scanA_mem {β : Type} [DecidableEq β] {S : Int → β} {m : Int} : ∀ {n : Nat} {p : Int × β}, p ∈ scanA S m n → p.2 = S p.1 ∧ m ≤ p.1 ∧ p.1 < m + n
  | 0, p, h => by cases h
  | n + 1, p, h => by
    have old : p ∈ scanA S m n → p.2 = S p.1 ∧ m ≤ p.1 ∧ p.1 < m + (n + 1 : Nat) := fun h => by
      obtain ⟨a, b, c⟩ := scanA_mem h
      exact ⟨a, b, by omega⟩
    have new : p ∈ scanA S m n ++ [(m + (n : Int), S (m + n))] → p.2 = S p.1 ∧ m ≤ p.1 ∧ p.1 < m + (n + 1 : Nat) := fun h => by
      rcases List.mem_append.mp h with h | h
      · exact old h
      · rw [List.mem_singleton] at h
        subst h
        exact ⟨rfl, by show m ≤ m + (n : Int); omega, by show m + (n : Int) < _; omega⟩
    unfold scanA push at h
    split at h
    · exact new h
    · split at h
      · exact old h
      · exact new h
theorem book_scan {ns : List Int} {m B : Int} (h1 : 0 < ns.length) (hn : ∀ x ∈ ns, 0 ≤ x) (hb : ns.sum + ns.length - 1 ≤ B) (hm : m ≤ B) {F : Nat} (hF : B < m + F) : ∀ n : Nat, 1 ≤ n →
    ∃ P w f, scanA (starts ns) m n = P ++ [(w, starts ns w)] ∧ P ++ bookF ns f w = bookF ns F m ∧ w ≤ m + n - 1 ∧ w ≤ B ∧ B < w + (f : Nat) ∧ ∀ e ∈ exts ns (starts ns w), m + n - 1 < e
  | 0, h => by omega
  | 1, _ => by
    refine ⟨[], m, F, ?_, rfl, by omega, hm, hF, fun e he => ?_⟩
    · show push [] (m + (0 : Nat), starts ns (m + (0 : Nat))) = _
      rw [show m + ((0 : Nat) : Int) = m by omega]
      rfl
    · have := chain_gt (starts_chain m h1) e he
      omega
  | n + 2, _ => by
    obtain ⟨P, w, f, e1, e2, e3, e4, e5, e6⟩ := book_scan h1 hn hb hm hF (n + 1) (by omega)
    have step : scanA (starts ns) m (n + 2) = push (P ++ [(w, starts ns w)]) (m + (n + 1 : Nat), starts ns (m + (n + 1 : Nat))) := by
      rw [← e1]; rfl
    rw [step, push_snoc]
    by_cases h : starts ns w = starts ns (m + (n + 1 : Nat))
    · rw [if_pos h]
      refine ⟨P, w, f, rfl, e2, by omega, e4, e5, fun e he => ?_⟩
      have g := chain_gt (starts_chain (m + (n + 1 : Nat)) h1)
      rw [← h] at g
      have := g e he
      omega
    · rw [if_neg h]
      have hx : ∃ v, nextW ns (starts ns w) = some v ∧ v = m + (n + 1 : Nat) := by
        cases hx : nextW ns (starts ns w) with
        | none =>
          exfalso
          have k := chain_keep (v := m + (n + 1 : Nat)) (by omega) (starts_chain w h1) (by rw [nextW_none hx]; intro e he; cases he)
          exact h (starts_unique k).symm
        | some v =>
          obtain ⟨m1, m2⟩ := nextW_some hx
          refine ⟨v, rfl, ?_⟩
          have := e6 v m1
          by_cases hlt : m + ((n + 1 : Nat) : Int) < v
          · exfalso
            have k := chain_keep (v := m + (n + 1 : Nat)) (by omega) (starts_chain w h1) fun e he => by have := m2 e he; omega
            exact h (starts_unique k).symm
          · omega
      obtain ⟨v, hv, rfl⟩ := hx
      have hv2 := exts_le hn (starts_lt h1) _ (nextW_some hv).1
      cases f with
      | zero => omega
      | succ f =>
        refine ⟨P ++ [(w, starts ns w)], _, f, rfl, ?_, by omega, by omega, by omega, fun e he => ?_⟩
        · rw [← e2]
          have e : bookF ns (f + 1) w = (w, starts ns w) :: bookF ns f (m + (n + 1 : Nat)) := by
            show (w, starts ns w) :: (match nextW ns (starts ns w) with | none => [] | some v => bookF ns f v) = _
            rw [hv]
          rw [e]
          simp
        · have := chain_gt (starts_chain _ h1) e he
          omega
theorem book_all {ns : List Int} {m B : Int} (h1 : 0 < ns.length) (hn : ∀ x ∈ ns, 0 ≤ x) (hb : ns.sum + ns.length - 1 ≤ B) (hm : m ≤ B) {F : Nat} (hF : B < m + F) {n : Nat} (h : B < m + n) (hp : 1 ≤ n) : scanA (starts ns) m n = bookF ns F m := by
  obtain ⟨P, w, f, e1, e2, e3, e4, e5, e6⟩ := book_scan h1 hn hb hm hF n hp
  have hx : exts ns (starts ns w) = [] := by
    cases he : exts ns (starts ns w) with
    | nil => rfl
    | cons e r =>
      rw [he] at e6
      have a := e6 e (.head _)
      have b := exts_le hn (starts_lt (w := w) h1) e (by rw [he]; exact .head _)
      omega
  rw [e1, ← e2]
  cases f with
  | zero => omega
  | succ f =>
    show _ = P ++ ((w, starts ns w) :: (match nextW ns (starts ns w) with | none => [] | some v => bookF ns f v))
    unfold nextW
    rw [hx]
/-- the book of a row whose longest word is m -/
def bookN (ns : List Int) (m : Int) : List (Int × List Nat) := scanA (starts ns) m (ns.sum + ns.length + 2 - m).toNat
theorem o_eqR {a : D} (h : SeqAt.shaped a = true) (he : PyData.eqv a a = true) : opCmp .eq a a = ret true := by
  show opEq a a = _
  unfold opEq
  rw [grd_pos (eqOk_of h h), he]
end DL
end
section
namespace DL
open PySem
/-- keep what is new -/
def keep {β : Type} [DecidableEq β] (l : List (Int × β)) : List (Int × β) := l.foldl push []
end DL
end
section
namespace DL
open PySem
theorem ex_first {P : Nat → Prop} [DecidablePred P] : ∀ n, P n → ∃ k, k ≤ n ∧ P k ∧ ∀ j, j < k → ¬ P j
  | 0, h => ⟨0, Nat.le_refl _, h, fun j hj => by omega⟩
  | n + 1, h => by
    by_cases e : ∃ j, j < n + 1 ∧ P j
    · obtain ⟨j, hj, hp⟩ := e
      obtain ⟨k, k1, k2, k3⟩ := ex_first j hp
      exact ⟨k, by omega, k2, k3⟩
    · exact ⟨n + 1, Nat.le_refl _, h, fun j hj hp => e ⟨j, hj, hp⟩⟩
termination_by n => n
decreasing_by omega
theorem starts_one {ns : List Int} {w : Int} (h1 : 0 < ns.length) (hn : ∀ x ∈ ns, 0 ≤ x) (hw : ns.sum + ns.length - 1 ≤ w) : starts ns w = [0] := by
  have c := starts_chain w h1
  cases hr : restF ns w ns.length (nx ns w 0) with
  | nil => unfold starts; rw [hr]
  | cons b r =>
    have e : starts ns w = 0 :: b :: r := by unfold starts; rw [hr]
    have g := chain_gt c (ext ns 0 b) (by rw [e]; exact .head _)
    have l := exts_le hn (starts_lt (w := w) h1) (ext ns 0 b) (by rw [e]; exact .head _)
    omega
/-- the least width, from m on, for at most c lines -/
structure Least (ns : List Int) (m : Int) (c : Nat) (k : Nat) : Prop where
  fits : (starts ns (m + k)).length ≤ c
  first : ∀ j : Nat, j < k → c < (starts ns (m + j)).length
  most : m + k ≤ ns.sum + ns.length
theorem Least.ex {ns : List Int} {m : Int} {c : Nat} (h1 : 0 < ns.length) (hn : ∀ x ∈ ns, 0 ≤ x) (hm : m ≤ ns.sum) (hc : 1 ≤ c) : ∃ k, Least ns m c k := by
  obtain ⟨k, k1, k2, k3⟩ := ex_first (P := fun k => (starts ns (m + k)).length ≤ c) (ns.sum + ns.length - m).toNat (by
    rw [starts_one h1 hn (by omega)]
    exact hc)
  exact ⟨k, k2, fun j hj => by have := k3 j hj; omega, by omega⟩
theorem cut_upto {ds : List D} {k : Nat} : DL.cut ds none (some (k : Int)) = ds.take k := by
  unfold DL.cut
  rw [HT.sIx_nat, show HT.sIx ds.length 0 none = 0 from rfl, List.drop_zero, Nat.sub_zero]
  by_cases h : k ≤ ds.length
  · rw [Nat.min_eq_left h]
  · rw [Nat.min_eq_right (by omega), List.take_of_length_le (Nat.le_refl _), List.take_of_length_le (by omega)]
end DL
end
section
namespace DL
open PySem
/-- a value of any kind, short enough to be shown -/
def Odd (d : D) : Prop := Tame 8 2 d
theorem Odd.nx {d : D} (h : Odd d) : noXn d = true := nx_plain h.pln
/-- an int, no truth value, of a range -/
def intIn (lo hi : Int) : D → Bool
  | .int i => decide (lo ≤ i ∧ i ≤ hi)
  | _ => false
theorem is_integer_d {lo hi : Int} {d : D} (h : noXn d = true) : w_is_integer_0 [d, .int lo, .int hi] = ret (.bool (intIn lo hi d)) := by
  unfold w_is_integer_0
  refine (f_fn (by rfl)).trans ?_
  cases d with
  | int i =>
    simp only [x_var, x_con, x_bin, x_neg, x_cmp, x_chain, x_tTru, x_tNot, x_tAnd, x_tOr, x_tBool, x_tYes, x_not, x_and, x_or, x_if, x_b1, x_b2, x_is, x_idx, x_oNone, x_oSome, x_cut, x_aNil, x_aCons, x_tup, x_lst, x_call, x_callS,
    x_iSeq, x_iRng1, x_iRng2, x_bor, x_tBor, x_put1, List.map_cons, List.map_nil, List.cons_append, List.nil_append, List.length_cons, List.length_nil, Nat.zero_add, Nat.reduceAdd, Nat.reduceSub, List.reduceReplicate, start,
    List.getElem?_cons_zero, List.getElem?_cons_succ, List.set_cons_zero, List.set_cons_succ, bnd_ret, bnd_assoc, bnd_grd, b1_if, bnd_ite, small, Nat.reduceLeDiff, grd_true, o_add, o_sub, o_neg, o_eq, o_ne, o_lt, o_le, o_gt, o_ge, o_eqS, o_neS,
    decide_eq_true_eq, reduceIte, decide_true, decide_false, Bool.not_true, Bool.not_false, Bool.false_eq_true, itemsOf, asInt, endOf, isTy,
    grd_tt, nx_int, nx_bool, nx_str, nx_none, nx_tup, nx_lst, x_isC, x_fld, x_in, x_count, x_lstR, x_tupR, x_raise, x_star, bnd_thr, noX_ret, fld_x, exn_d, eSetO, Out.clear, List.zip_cons_cons, List.zip_nil_left, List.zip_nil_right, s_asg, s_par, s_own, s_parO, s_put, s_expr, s_ret, s_skip, s_seq, s_rel, x_asg, x_par, x_own, x_parO, x_put, x_expr, x_ret, x_retN, x_skip, x_rel, x_app, x_setI, x_sIf, x_for, x_brk, x_cnt, b_lenT, b_lenL, b_tupL, b_tupT, b_max2, b_min2, o_addL, o_addT, cut_ints, sum_ints, s_chk, s_for, s_brk, s_cnt, s_retN, t_bool, g_rng, g_le, List.length_map]
    unfold intIn
    by_cases h : lo ≤ i
    · simp [h]
    · simp [h]
  | _ =>
    simp only [x_var, x_con, x_bin, x_neg, x_cmp, x_chain, x_tTru, x_tNot, x_tAnd, x_tOr, x_tBool, x_tYes, x_not, x_and, x_or, x_if, x_b1, x_b2, x_is, x_idx, x_oNone, x_oSome, x_cut, x_aNil, x_aCons, x_tup, x_lst, x_call, x_callS,
    x_iSeq, x_iRng1, x_iRng2, x_bor, x_tBor, x_put1, List.map_cons, List.map_nil, List.cons_append, List.nil_append, List.length_cons, List.length_nil, Nat.zero_add, Nat.reduceAdd, Nat.reduceSub, List.reduceReplicate, start,
    List.getElem?_cons_zero, List.getElem?_cons_succ, List.set_cons_zero, List.set_cons_succ, bnd_ret, bnd_assoc, bnd_grd, b1_if, bnd_ite, small, Nat.reduceLeDiff, grd_true, o_add, o_sub, o_neg, o_eq, o_ne, o_lt, o_le, o_gt, o_ge, o_eqS, o_neS,
    decide_eq_true_eq, reduceIte, decide_true, decide_false, Bool.not_true, Bool.not_false, Bool.false_eq_true, itemsOf, asInt, endOf, isTy,
    grd_tt, nx_int, nx_bool, nx_str, nx_none, nx_tup, nx_lst, x_isC, x_fld, x_in, x_count, x_lstR, x_tupR, x_raise, x_star, bnd_thr, noX_ret, fld_x, exn_d, eSetO, Out.clear, List.zip_cons_cons, List.zip_nil_left, List.zip_nil_right, s_asg, s_par, s_own, s_parO, s_put, s_expr, s_ret, s_skip, s_seq, s_rel, x_asg, x_par, x_own, x_parO, x_put, x_expr, x_ret, x_retN, x_skip, x_rel, x_app, x_setI, x_sIf, x_for, x_brk, x_cnt, b_lenT, b_lenL, b_tupL, b_tupT, b_max2, b_min2, o_addL, o_addT, cut_ints, sum_ints, s_chk, s_for, s_brk, s_cnt, s_retN, t_bool, g_rng, g_le, List.length_map, h]
    try rfl
def xV (n : Str) (d : D) : Exn := ⟨n, [("value", d)]⟩
theorem idx_1L (a b : D) (r : List D) : opIdx (.list (a :: b :: r)) (.int 1) = ret b := by
  rw [idx_list (by decide) (by simp only [List.length_cons]; omega)]
  rfl
end DL
end
section
namespace DL
open PySem
theorem cut_fromI {ns : List Int} {k : Int} (hk : 0 ≤ k) (h : k ≤ ns.length) : opCut (.tuple (ns.map PyData.int)) (some k) none = ret (.tuple ((ns.drop k.toNat).map PyData.int)) := by
  obtain ⟨a, rfl⟩ := Int.eq_ofNat_of_zero_le hk
  exact cut_from (by omega)
end DL
end
section
namespace DL
open PySem
end DL
end
section
namespace DL
open PySem
end DL
end
section
namespace DL
open PySem
end DL
end
section
namespace DL
open PySem
theorem x_ins (i : Nat) (a : XA) (E : Env) : sIns i a E = match E[i]? with
  | some (.own ds) => bnd (a E) fun as => match as with
    | [.int z, d] => grd (0 ≤ z ∧ z < 2 ^ 63 ∧ small ds.length) (ret (.nx (E.set i (.own (ds.take z.toNat ++ [d] ++ ds.drop z.toNat)))))
    | _ => stuck
  | _ => stuck := id rfl
end DL
end
section
namespace DL
open PySem
theorem scan_last {β : Type} [DecidableEq β] (S : Int → β) (m : Int) : ∀ k : Nat, 1 ≤ k → ∃ P lo, scanA S m k = P ++ [(lo, S lo)] ∧ m ≤ lo ∧ lo ≤ m + k - 1 ∧ (∀ v, lo ≤ v → v ≤ m + k - 1 → S v = S lo) ∧ (lo = m ∨ S (lo - 1) ≠ S lo)
  | 0, h => by omega
  | 1, _ => by
    refine ⟨[], m, ?_, Int.le_refl _, by omega, fun v a b => by rw [show v = m by omega], .inl rfl⟩
    show push [] (m + (0 : Nat), S (m + (0 : Nat))) = _
    rw [show m + ((0 : Nat) : Int) = m by omega]
    rfl
  | k + 2, _ => by
    obtain ⟨P, lo, e1, e2, e3, e4, e5⟩ := scan_last S m (k + 1) (by omega)
    have step : scanA S m (k + 2) = push (P ++ [(lo, S lo)]) (m + (k + 1 : Nat), S (m + (k + 1 : Nat))) := by rw [← e1]; rfl
    rw [step, push_snoc]
    by_cases h : S lo = S (m + (k + 1 : Nat))
    · rw [if_pos h]
      refine ⟨P, lo, rfl, e2, by omega, fun v a b => ?_, e5⟩
      by_cases hv : v ≤ m + (k + 1 : Nat) - 1
      · exact e4 v a hv
      · rw [show v = m + (k + 1 : Nat) by omega, h]
    · rw [if_neg h]
      refine ⟨P ++ [(lo, S lo)], m + (k + 1 : Nat), rfl, by omega, by omega, fun v a b => by rw [show v = m + (k + 1 : Nat) by omega], .inr fun z => h ?_⟩
      rw [← z, e4 (m + (k + 1 : Nat) - 1) (by omega) (by omega)]
/-- what a scan finds after the width a -/
inductive More {β : Type} (S : Int → β) (a : Int) (i : Nat) : List (Int × β) → Prop
  | nil : (∀ v, a ≤ v → v ≤ a + i → S v = S a) → More S a i []
  | cons {q : Int × β} {r : List (Int × β)} : a < q.1 → S q.1 ≠ S a → (∀ v, a ≤ v → v < q.1 → S v = S a) → (∀ p ∈ r, a < p.1) → More S a i (q :: r)
theorem scan_more {β : Type} [DecidableEq β] (S : Int → β) (m : Int) {k : Nat} (hk : 1 ≤ k) : ∀ i : Nat, ∃ R, scanA S m (k + i) = scanA S m k ++ R ∧ More S (m + k - 1) i R
  | 0 => ⟨[], by simp, .nil fun v a b => by rw [show v = m + k - 1 by omega]⟩
  | i + 1 => by
    obtain ⟨R, e, h⟩ := scan_more S m hk i
    obtain ⟨P, lo, e1, e2, e3, e4, e5⟩ := scan_last S m (k + i) (by omega)
    have step : scanA S m (k + (i + 1)) = push (scanA S m (k + i)) (m + (k + i : Nat), S (m + (k + i : Nat))) := rfl
    have hlast : S (m + k - 1 + i) = S lo := e4 _ (by omega) (by omega)
    have hp : push (scanA S m (k + i)) (m + (k + i : Nat), S (m + (k + i : Nat))) = if S lo = S (m + (k + i : Nat)) then scanA S m (k + i) else scanA S m (k + i) ++ [(m + (k + i : Nat), S (m + (k + i : Nat)))] := by
      rw [e1, push_snoc]
    rw [step, hp, e]
    by_cases c : S lo = S (m + (k + i : Nat))
    · rw [if_pos c]
      refine ⟨R, rfl, ?_⟩
      cases h with
      | nil g =>
        refine .nil fun v a b => ?_
        by_cases hv : v ≤ m + k - 1 + i
        · exact g v a hv
        · rw [show v = m + (k + i : Nat) by omega, ← c, ← hlast]
          exact g _ (by omega) (by omega)
      | cons g1 g2 g3 g4 => exact .cons g1 g2 g3 g4
    · rw [if_neg c]
      refine ⟨R ++ [(m + (k + i : Nat), S (m + (k + i : Nat)))], by rw [List.append_assoc], ?_⟩
      cases h with
      | nil g =>
        refine .cons (by show m + (k : Int) - 1 < m + (k + i : Nat); omega) (fun z => c ?_) (fun v a b => g v a (by have : v < m + (k + i : Nat) := b; omega)) fun p hp => by cases hp
        rw [← hlast, g _ (by omega) (by omega)]
        exact z.symm
      | cons g1 g2 g3 g4 =>
        refine .cons g1 g2 g3 fun p hp => ?_
        rcases List.mem_append.mp hp with hp | hp
        · exact g4 p hp
        · rw [List.mem_singleton] at hp
          rw [hp]
          show m + (k : Int) - 1 < m + (k + i : Nat)
          omega
theorem bookN_any {ns : List Int} {m : Int} (h1 : 0 < ns.length) (hn : ∀ x ∈ ns, 0 ≤ x) (hm : m ≤ ns.sum) {n : Nat} (h : (ns.sum + ns.length + 2 - m).toNat ≤ n) : bookN ns m = scanA (starts ns) m n := by
  have a := book_all (ns := ns) (m := m) (B := ns.sum + ns.length - 1) (F := (ns.sum + ns.length - m).toNat) (n := (ns.sum + ns.length + 2 - m).toNat) h1 hn (Int.le_refl _) (by omega) (by omega) (by omega) (by omega)
  have b := book_all (ns := ns) (m := m) (B := ns.sum + ns.length - 1) (F := (ns.sum + ns.length - m).toNat) (n := n) h1 hn (Int.le_refl _) (by omega) (by omega) (by omega) (by omega)
  unfold bookN
  rw [a, b]
theorem one_stays {ns : List Int} {w v : Int} (h1 : 0 < ns.length) (h : (starts ns w).length ≤ 1) (hv : w ≤ v) : starts ns v = starts ns w := by
  have c := starts_chain w h1
  unfold starts at c h ⊢
  have hr : restF ns w ns.length (nx ns w 0) = [] := by
    cases e : restF ns w ns.length (nx ns w 0) with
    | nil => rfl
    | cons _ _ => rw [e] at h; simp at h
  rw [hr] at c ⊢
  exact starts_unique (chain_keep hv c fun e he => by cases he)
/-- the span of the width w: its book's entry, the next one -/
structure Span (ns : List Int) (m w : Int) (P : List (Int × List Nat)) (lo : Int) (R : List (Int × List Nat)) : Prop where
  book : bookN ns m = P ++ (lo, starts ns lo) :: R
  low : m ≤ lo
  le : lo ≤ w
  same : ∀ v, lo ≤ v → v ≤ w → starts ns v = starts ns lo
  least : lo = m ∨ starts ns (lo - 1) ≠ starts ns lo
  before : ∀ p ∈ P, p.1 ≤ w
  after : match R with
    | [] => (starts ns w).length = 1
    | q :: r => w < q.1 ∧ 1 < (starts ns w).length ∧ starts ns q.1 ≠ starts ns w ∧ (∀ v, w ≤ v → v < q.1 → starts ns v = starts ns w) ∧ ∀ p ∈ r, w < p.1
theorem Span.ex {ns : List Int} {m w : Int} (h1 : 0 < ns.length) (hn : ∀ x ∈ ns, 0 ≤ x) (hm : m ≤ ns.sum) (hw : m ≤ w) : ∃ P lo R, Span ns m w P lo R := by
  have hk : 1 ≤ (w - m + 1).toNat := by omega
  have ek : m + ((w - m + 1).toNat : Int) - 1 = w := by omega
  obtain ⟨P, lo, e1, e2, e3, e4, e5⟩ := scan_last (starts ns) m (w - m + 1).toNat hk
  obtain ⟨R, e6, hR⟩ := scan_more (starts ns) m hk (ns.sum + ns.length + 2 - m).toNat
  rw [ek] at e3 e4 hR
  have bk := bookN_any h1 hn hm (n := (w - m + 1).toNat + (ns.sum + ns.length + 2 - m).toNat) (by omega)
  refine ⟨P, lo, R, by rw [bk, e6, e1]; simp, e2, e3, e4, e5, fun p hp => ?_, ?_⟩
  · have hp2 : p ∈ scanA (starts ns) m (w - m + 1).toNat := by rw [e1]; exact List.mem_append_left _ hp
    have := (scanA_mem hp2).2.2
    omega
  · have pos : 1 ≤ (starts ns w).length := by unfold starts; simp
    cases hR with
    | nil g =>
      have z := g (w + (ns.sum + ns.length + 2 - m).toNat) (by omega) (Int.le_refl _)
      rw [starts_one h1 hn (by omega)] at z
      show (starts ns w).length = 1
      rw [← z]
      rfl
    | @cons q r g1 g2 g3 g4 =>
      refine ⟨g1, ?_, g2, g3, g4⟩
      by_cases h : (starts ns w).length ≤ 1
      · exact absurd (one_stays h1 h (Int.le_of_lt g1)) g2
      · omega
theorem x_par3 (i j l : Nat) (a b c : XE) (r : XS) (E : Env) : sSeq (sPar3 i j l a b c) r E = bnd (a E) fun x => bnd (b E) fun y => bnd (c E) fun z => r (((E.set i (.val x)).set j (.val y)).set l (.val z)) := id rfl
end DL
end
section
namespace DL
open PySem
end DL
end
section
namespace DL
open PySem
theorem fl_int (i : Int) : flat (.int i) = true := id rfl
theorem x_popI (i : Nat) (e : XE) (E : Env) : sPopI i e E = match E[i]? with
  | some (.own ds) => bnd (e E) fun d => match d with
    | .int z => match seqIndex? z ds.length with
      | some j => grd (-(2 ^ 63) ≤ z ∧ z < 2 ^ 63 ∧ j < ds.length) (ret (.nx (E.set i (.own (ds.eraseIdx j)))))
      | none => stuck
    | _ => stuck
  | _ => stuck := id rfl
theorem x_addL (a b : XE) (E : Env) : eAddL a b E = bnd (a E) fun x => bnd (b E) fun y => match x, y with
  | .list xs, .list ys => grd (small (xs.length + ys.length)) (ret (.list (xs ++ ys)))
  | _, _ => stuck := id rfl
theorem x_max3 (a : XA) (E : Env) : eMax3 a E = bnd (a E) fun xs => match xs with
  | [.int i, .int j, .int l] => ret (.int (max3I i j l))
  | _ => stuck := id rfl
theorem seqIndex_ok {n : Nat} {z : Int} (h0 : 0 ≤ z) (h1 : z < n) : seqIndex? z n = some z.toNat := by
  unfold seqIndex?
  simp
  omega
/-- a row of one word at least, of 24 at most -/
structure RowN (ms : List Int) : Prop where
  one : 1 ≤ ms.length
  most : ms.length ≤ 24
  words : ∀ x ∈ ms, 1 ≤ x ∧ x ≤ 60
theorem erase_map (ms : List Int) (j : Nat) : (ms.map PyData.int).eraseIdx j = (ms.eraseIdx j).map PyData.int := by
  rw [List.eraseIdx_eq_take_drop_succ, List.eraseIdx_eq_take_drop_succ, List.map_append, List.map_take, List.map_drop]
theorem cutL_from {ns : List Int} {k : Int} (hk : 0 ≤ k) (h : k ≤ ns.length) : opCut (.list (ns.map PyData.int)) (some k) none = ret (.list ((ns.drop k.toNat).map PyData.int)) := by
  have e := cut_fromI hk h
  have e2 : ret (PyData.tuple (DL.cut (ns.map PyData.int) (some k) none)) = ret (PyData.tuple ((ns.drop k.toNat).map PyData.int)) := e
  show ret (PyData.list (DL.cut (ns.map PyData.int) (some k) none)) = _
  have e3 := congrFun (congrFun (congrFun e2 (.z 0)) fun d _ => d = .tuple ((ns.drop k.toNat).map PyData.int)) fun _ _ => False
  have e4 : PyData.tuple (DL.cut (ns.map PyData.int) (some k) none) = .tuple ((ns.drop k.toNat).map PyData.int) := e3.mpr rfl
  rw [PyData.tuple.inj e4]
theorem cutL_upto {ns : List Int} {k : Int} (hk : 0 ≤ k) : opCut (.list (ns.map PyData.int)) none (some k) = ret (.list ((ns.take k.toNat).map PyData.int)) := by
  obtain ⟨a, rfl⟩ := Int.eq_ofNat_of_zero_le hk
  show ret (PyData.list (DL.cut (ns.map PyData.int) none (some (a : Int)))) = _
  rw [cut_upto, ← List.map_take]
  rfl
def NearQ (ns : List Int) (o : Out) : Prop := match o with
  | .nx E' => ∃ (ms : List Int) (e3 e4 e5 e6 : Ent), E' = [.stm, .val (.tuple (ns.map PyData.int)), .own (ms.map PyData.int), e3, e4, e5, e6] ∧ RowN ms
  | _ => False
theorem near_row_0 {ns : List Int} (h : RowN ns) : Ok (w__law_near_row_0 [.tuple (ns.map PyData.int)]) 68 fun d => ∃ ms : List Int, d = .tuple (ms.map PyData.int) ∧ RowN ms := by
  unfold w__law_near_row_0
  rw [x_fnS]
  refine Ok.grd rfl (Ok.fn ?_)
  have bl : bi1 .list (.tuple (ns.map PyData.int)) = ret (.list (ns.map PyData.int)) := rfl
  have h2 := h.most
  obtain ⟨m, em, hm⟩ := max_ints h.one
  have hm2 := h.words m hm
  simp (disch := omega) only [x_var, x_con, x_bin, x_neg, x_cmp, x_chain, x_tTru, x_tNot, x_tAnd, x_tOr, x_tBool, x_tYes, x_not, x_and, x_or, x_if, x_b1, x_b2, x_is, x_idx, x_oNone, x_oSome, x_cut, x_aNil, x_aCons, x_tup, x_lst, x_call, x_callS,
    x_iSeq, x_iRng1, x_iRng2, x_bor, x_tBor, x_put1, List.map_cons, List.map_nil, List.cons_append, List.nil_append, List.length_cons, List.length_nil, Nat.zero_add, Nat.reduceAdd, Nat.reduceSub, List.reduceReplicate, start,
    List.getElem?_cons_zero, List.getElem?_cons_succ, List.set_cons_zero, List.set_cons_succ, bnd_ret, bnd_assoc, bnd_grd, b1_if, bnd_ite, small, Nat.reduceLeDiff, grd_true, o_add, o_sub, o_neg, o_eq, o_ne, o_lt, o_le, o_gt, o_ge, o_eqS, o_neS,
    decide_eq_true_eq, reduceIte, decide_true, decide_false, Bool.not_true, Bool.not_false, Bool.false_eq_true, itemsOf, asInt, endOf, isTy,
    grd_tt, nx_int, nx_bool, nx_str, nx_none, nx_tup, nx_lst, x_isC, x_fld, x_in, x_count, x_lstR, x_tupR, x_raise, x_star, bnd_thr, noX_ret, fld_x, exn_d, eSetO, Out.clear, List.zip_cons_cons, List.zip_nil_left, List.zip_nil_right, s_asg, s_par, s_own, s_parO, s_put, s_expr, s_ret, s_skip, s_seq, s_rel, x_asg, x_par, x_own, x_parO, x_put, x_expr, x_ret, x_retN, x_skip, x_rel, x_app, x_setI, x_sIf, x_for, x_brk, x_cnt, b_lenT, b_lenL, b_tupL, b_tupT, b_max2, b_min2, o_addL, o_addT, cut_ints, sum_ints, s_chk, s_for, s_brk, s_cnt, s_retN, t_bool, g_rng, g_le, List.length_map, bl]
  refine Ok.drawB (n := 67) (by omega) (by omega) fun u hu0 hu1 => ?_
  simp (disch := omega) only [x_var, x_con, x_bin, x_neg, x_cmp, x_chain, x_tTru, x_tNot, x_tAnd, x_tOr, x_tBool, x_tYes, x_not, x_and, x_or, x_if, x_b1, x_b2, x_is, x_idx, x_oNone, x_oSome, x_cut, x_aNil, x_aCons, x_tup, x_lst, x_call, x_callS,
    x_iSeq, x_iRng1, x_iRng2, x_bor, x_tBor, x_put1, List.map_cons, List.map_nil, List.cons_append, List.nil_append, List.length_cons, List.length_nil, Nat.zero_add, Nat.reduceAdd, Nat.reduceSub, List.reduceReplicate, start,
    List.getElem?_cons_zero, List.getElem?_cons_succ, List.set_cons_zero, List.set_cons_succ, bnd_ret, bnd_assoc, bnd_grd, b1_if, bnd_ite, small, Nat.reduceLeDiff, grd_true, o_add, o_sub, o_neg, o_eq, o_ne, o_lt, o_le, o_gt, o_ge, o_eqS, o_neS,
    decide_eq_true_eq, reduceIte, decide_true, decide_false, Bool.not_true, Bool.not_false, Bool.false_eq_true, itemsOf, asInt, endOf, isTy,
    grd_tt, nx_int, nx_bool, nx_str, nx_none, nx_tup, nx_lst, x_isC, x_fld, x_in, x_count, x_lstR, x_tupR, x_raise, x_star, bnd_thr, noX_ret, fld_x, exn_d, eSetO, Out.clear, List.zip_cons_cons, List.zip_nil_left, List.zip_nil_right, s_asg, s_par, s_own, s_parO, s_put, s_expr, s_ret, s_skip, s_seq, s_rel, x_asg, x_par, x_own, x_parO, x_put, x_expr, x_ret, x_retN, x_skip, x_rel, x_app, x_setI, x_sIf, x_for, x_brk, x_cnt, b_lenT, b_lenL, b_tupL, b_tupT, b_max2, b_min2, o_addL, o_addT, cut_ints, sum_ints, s_chk, s_for, s_brk, s_cnt, s_retN, t_bool, g_rng, g_le, List.length_map]
  refine Ok.bnd' 67 (n := 6) (Q := fun o => ∃ (ms : List Int) (e3 e4 e5 e6 : Ent), o = .nx [.stm, .val (.tuple (ns.map PyData.int)), .own (ms.map PyData.int), e3, e4, e5, e6] ∧ RowN ms) ?_ (by decide) ?_
  · refine for_ok (b := 3) (fun _ E => ∃ (ms : List Int) (e3 e4 e5 e6 : Ent), E = [.stm, .val (.tuple (ns.map PyData.int)), .own (ms.map PyData.int), e3, e4, e5, e6] ∧ RowN ms) ⟨ns, _, _, _, _, rfl, h⟩ (by rw [rng_len]; omega) ?_ (by rintro E ⟨ms, e3, e4, e5, e6, rfl, hr⟩; exact ⟨ms, _, _, _, _, rfl, hr⟩)
    rintro j d E hj ⟨ms, e3, e4, e5, e6, rfl, hr⟩
    have r1 := hr.one
    have r2 := hr.most
    refine ⟨_, rfl, ?_⟩
    simp only [List.set_cons_zero, List.set_cons_succ]
    have d1 : eBor 2 (eCallS fDraw 0 (aCons (eB1 .len (eVar 2)) aNil)) [.stm, .val (.tuple (ns.map PyData.int)), .own (ms.map PyData.int), .val d, e4, e5, e6] = bnd (fDraw [.int ms.length]) fun d => grd (flat d = true) (ret d) := by
      rw [x_bor]
      simp only [List.getElem?_cons_succ, List.getElem?_cons_zero, List.set_cons_zero, List.set_cons_succ, x_callS, x_aCons, x_aNil, x_b1, x_var, bnd_ret, b_lenL, List.length_map]
    have d2 : eCallS fDraw 0 (aCons (eCon (.int 5)) aNil) [.stm, .val (.tuple (ns.map PyData.int)), .own (ms.map PyData.int), .val d, e4, e5, e6] = fDraw [.int 5] := by
      simp only [List.getElem?_cons_zero, x_callS, x_aCons, x_aNil, x_con, bnd_ret]
    have d3 : eBin .add (eCon (.int 1)) (eCallS fDraw 0 (aCons (eB1 .max (eVar 1)) aNil)) [.stm, .val (.tuple (ns.map PyData.int)), .own (ms.map PyData.int), .val d, e4, e5, e6] = bnd (fDraw [.int m]) fun d => opBin .add (.int 1) d := by
      simp only [List.getElem?_cons_succ, List.getElem?_cons_zero, x_bin, x_callS, x_aCons, x_aNil, x_b1, x_var, x_con, bnd_ret, em]
    rw [x_par3, d1, bnd_assoc]
    refine Ok.drawB (n := 2) (by omega) (by omega) fun pl p0 p1 => ?_
    simp only [fl_int, grd_tt, grd_true, bnd_ret]
    rw [d2]
    refine Ok.drawB (many := 5) (n := 1) (by omega) (by omega) fun way y0 y1 => ?_
    rw [d3, bnd_assoc]
    refine Ok.drawB (n := 0) (by omega) (by omega) fun l l0 l1 => ?_
    simp only [o_add, bnd_ret, List.set_cons_zero, List.set_cons_succ]
    have t0 : ∀ (c : Int) (x : XT) (e3 : Ent), DL.tAnd (tBool (eCmp .eq (eVar 5) (eCon (.int c)))) x [.stm, .val (.tuple (ns.map PyData.int)), .val (.list (ms.map PyData.int)), e3, .val (.int pl), .val (.int way), .val (.int (1 + l))] =
        if way = c then x [.stm, .val (.tuple (ns.map PyData.int)), .val (.list (ms.map PyData.int)), e3, .val (.int pl), .val (.int way), .val (.int (1 + l))] else ret false := fun c x e3 => by
      simp only [x_var, x_con, x_bin, x_neg, x_cmp, x_chain, x_tTru, x_tNot, x_tAnd, x_tOr, x_tBool, x_tYes, x_not, x_and, x_or, x_if, x_b1, x_b2, x_is, x_idx, x_oNone, x_oSome, x_cut, x_aNil, x_aCons, x_tup, x_lst, x_call, x_callS,
    x_iSeq, x_iRng1, x_iRng2, x_bor, x_tBor, x_put1, List.map_cons, List.map_nil, List.cons_append, List.nil_append, List.length_cons, List.length_nil, Nat.zero_add, Nat.reduceAdd, Nat.reduceSub, List.reduceReplicate, start,
    List.getElem?_cons_zero, List.getElem?_cons_succ, List.set_cons_zero, List.set_cons_succ, bnd_ret, bnd_assoc, bnd_grd, b1_if, bnd_ite, small, Nat.reduceLeDiff, grd_true, o_add, o_sub, o_neg, o_eq, o_ne, o_lt, o_le, o_gt, o_ge, o_eqS, o_neS,
    decide_eq_true_eq, reduceIte, decide_true, decide_false, Bool.not_true, Bool.not_false, Bool.false_eq_true, itemsOf, asInt, bi2, endOf, isTy,
    grd_tt, nx_int, nx_bool, nx_str, nx_none, nx_tup, nx_lst, x_isC, x_fld, x_in, x_count, x_lstR, x_tupR, x_raise, x_star, bnd_thr, noX_ret, fld_x, exn_d, eSetO, Out.clear, List.zip_cons_cons, List.zip_nil_left, List.zip_nil_right]
    have lt : tBool (eCmp .lt (eB1 .len (eVar 2)) (eCon (.int 24))) [.stm, .val (.tuple (ns.map PyData.int)), .val (.list (ms.map PyData.int)), .val d, .val (.int pl), .val (.int way), .val (.int (1 + l))] = ret (decide ((ms.length : Int) < 24)) := by
      simp only [x_var, x_con, x_bin, x_neg, x_cmp, x_chain, x_tTru, x_tNot, x_tAnd, x_tOr, x_tBool, x_tYes, x_not, x_and, x_or, x_if, x_b1, x_b2, x_is, x_idx, x_oNone, x_oSome, x_cut, x_aNil, x_aCons, x_tup, x_lst, x_call, x_callS,
    x_iSeq, x_iRng1, x_iRng2, x_bor, x_tBor, x_put1, List.map_cons, List.map_nil, List.cons_append, List.nil_append, List.length_cons, List.length_nil, Nat.zero_add, Nat.reduceAdd, Nat.reduceSub, List.reduceReplicate, start,
    List.getElem?_cons_zero, List.getElem?_cons_succ, List.set_cons_zero, List.set_cons_succ, bnd_ret, bnd_assoc, bnd_grd, b1_if, bnd_ite, small, Nat.reduceLeDiff, grd_true, o_add, o_sub, o_neg, o_eq, o_ne, o_lt, o_le, o_gt, o_ge, o_eqS, o_neS,
    decide_eq_true_eq, reduceIte, decide_true, decide_false, Bool.not_true, Bool.not_false, Bool.false_eq_true, itemsOf, asInt, bi2, endOf, isTy,
    grd_tt, nx_int, nx_bool, nx_str, nx_none, nx_tup, nx_lst, x_isC, x_fld, x_in, x_count, x_lstR, x_tupR, x_raise, x_star, bnd_thr, noX_ret, fld_x, exn_d, eSetO, Out.clear, List.zip_cons_cons, List.zip_nil_left, List.zip_nil_right, b_lenL, List.length_map]
    have gt : tBool (eCmp .gt (eB1 .len (eVar 2)) (eCon (.int 1))) [.stm, .val (.tuple (ns.map PyData.int)), .val (.list (ms.map PyData.int)), .val d, .val (.int pl), .val (.int way), .val (.int (1 + l))] = ret (decide (1 < (ms.length : Int))) := by
      simp only [x_var, x_con, x_bin, x_neg, x_cmp, x_chain, x_tTru, x_tNot, x_tAnd, x_tOr, x_tBool, x_tYes, x_not, x_and, x_or, x_if, x_b1, x_b2, x_is, x_idx, x_oNone, x_oSome, x_cut, x_aNil, x_aCons, x_tup, x_lst, x_call, x_callS,
    x_iSeq, x_iRng1, x_iRng2, x_bor, x_tBor, x_put1, List.map_cons, List.map_nil, List.cons_append, List.nil_append, List.length_cons, List.length_nil, Nat.zero_add, Nat.reduceAdd, Nat.reduceSub, List.reduceReplicate, start,
    List.getElem?_cons_zero, List.getElem?_cons_succ, List.set_cons_zero, List.set_cons_succ, bnd_ret, bnd_assoc, bnd_grd, b1_if, bnd_ite, small, Nat.reduceLeDiff, grd_true, o_add, o_sub, o_neg, o_eq, o_ne, o_lt, o_le, o_gt, o_ge, o_eqS, o_neS,
    decide_eq_true_eq, reduceIte, decide_true, decide_false, Bool.not_true, Bool.not_false, Bool.false_eq_true, itemsOf, asInt, bi2, endOf, isTy,
    grd_tt, nx_int, nx_bool, nx_str, nx_none, nx_tup, nx_lst, x_isC, x_fld, x_in, x_count, x_lstR, x_tupR, x_raise, x_star, bnd_thr, noX_ret, fld_x, exn_d, eSetO, Out.clear, List.zip_cons_cons, List.zip_nil_left, List.zip_nil_right, b_lenL, List.length_map]
    have setB : Ok (sSet 2 (eVar 4) (eVar 6) [.stm, .val (.tuple (ns.map PyData.int)), .own (ms.map PyData.int), .val d, .val (.int pl), .val (.int way), .val (.int (1 + l))]) 0 (NearQ ns) := by
      simp only [x_var, x_con, x_bin, x_neg, x_cmp, x_chain, x_tTru, x_tNot, x_tAnd, x_tOr, x_tBool, x_tYes, x_not, x_and, x_or, x_if, x_b1, x_b2, x_is, x_idx, x_oNone, x_oSome, x_cut, x_aNil, x_aCons, x_tup, x_lst, x_call, x_callS,
    x_iSeq, x_iRng1, x_iRng2, x_bor, x_tBor, x_put1, List.map_cons, List.map_nil, List.cons_append, List.nil_append, List.length_cons, List.length_nil, Nat.zero_add, Nat.reduceAdd, Nat.reduceSub, List.reduceReplicate, start,
    List.getElem?_cons_zero, List.getElem?_cons_succ, List.set_cons_zero, List.set_cons_succ, bnd_ret, bnd_assoc, bnd_grd, b1_if, bnd_ite, small, Nat.reduceLeDiff, grd_true, o_add, o_sub, o_neg, o_eq, o_ne, o_lt, o_le, o_gt, o_ge, o_eqS, o_neS,
    decide_eq_true_eq, reduceIte, decide_true, decide_false, Bool.not_true, Bool.not_false, Bool.false_eq_true, itemsOf, asInt, bi2, endOf, isTy,
    grd_tt, nx_int, nx_bool, nx_str, nx_none, nx_tup, nx_lst, x_isC, x_fld, x_in, x_count, x_lstR, x_tupR, x_raise, x_star, bnd_thr, noX_ret, fld_x, exn_d, eSetO, Out.clear, List.zip_cons_cons, List.zip_nil_left, List.zip_nil_right, x_setI]
      rw [ixN_ok p0 (by rw [List.length_map]; omega)]
      refine Ok.ret ⟨ms.set pl.toNat (1 + l), _, _, _, _, by rw [List.map_set], by rw [List.length_set]; omega, by rw [List.length_set]; omega, fun x hx => ?_⟩
      rcases List.mem_or_eq_of_mem_set hx with h | h
      · exact hr.words x h
      · omega
    have popB : 1 < ms.length → Ok (sPopI 2 (eVar 4) [.stm, .val (.tuple (ns.map PyData.int)), .own (ms.map PyData.int), .val d, .val (.int pl), .val (.int way), .val (.int (1 + l))]) 0 (NearQ ns) := fun hl => by
      rw [x_popI]
      simp only [x_var, x_con, x_bin, x_neg, x_cmp, x_chain, x_tTru, x_tNot, x_tAnd, x_tOr, x_tBool, x_tYes, x_not, x_and, x_or, x_if, x_b1, x_b2, x_is, x_idx, x_oNone, x_oSome, x_cut, x_aNil, x_aCons, x_tup, x_lst, x_call, x_callS,
    x_iSeq, x_iRng1, x_iRng2, x_bor, x_tBor, x_put1, List.map_cons, List.map_nil, List.cons_append, List.nil_append, List.length_cons, List.length_nil, Nat.zero_add, Nat.reduceAdd, Nat.reduceSub, List.reduceReplicate, start,
    List.getElem?_cons_zero, List.getElem?_cons_succ, List.set_cons_zero, List.set_cons_succ, bnd_ret, bnd_assoc, bnd_grd, b1_if, bnd_ite, small, Nat.reduceLeDiff, grd_true, o_add, o_sub, o_neg, o_eq, o_ne, o_lt, o_le, o_gt, o_ge, o_eqS, o_neS,
    decide_eq_true_eq, reduceIte, decide_true, decide_false, Bool.not_true, Bool.not_false, Bool.false_eq_true, itemsOf, asInt, bi2, endOf, isTy,
    grd_tt, nx_int, nx_bool, nx_str, nx_none, nx_tup, nx_lst, x_isC, x_fld, x_in, x_count, x_lstR, x_tupR, x_raise, x_star, bnd_thr, noX_ret, fld_x, exn_d, eSetO, Out.clear, List.zip_cons_cons, List.zip_nil_left, List.zip_nil_right]
      rw [seqIndex_ok p0 (by rw [List.length_map]; omega)]
      refine Ok.grd ⟨by omega, by omega, by rw [List.length_map]; omega⟩ (Ok.ret ⟨ms.eraseIdx pl.toNat, _, _, _, _, by rw [erase_map], ?_, ?_, fun x hx => hr.words x (List.mem_of_mem_eraseIdx hx)⟩)
      · rw [List.length_eraseIdx_of_lt (by omega)]; omega
      · rw [List.length_eraseIdx_of_lt (by omega)]; omega
    have insB : ms.length < 24 → Ok (sIns 2 (aCons (eVar 4) (aCons (eVar 6) aNil)) [.stm, .val (.tuple (ns.map PyData.int)), .own (ms.map PyData.int), .val d, .val (.int pl), .val (.int way), .val (.int (1 + l))]) 0 (NearQ ns) := fun hl => by
      rw [x_ins]
      simp only [x_var, x_con, x_bin, x_neg, x_cmp, x_chain, x_tTru, x_tNot, x_tAnd, x_tOr, x_tBool, x_tYes, x_not, x_and, x_or, x_if, x_b1, x_b2, x_is, x_idx, x_oNone, x_oSome, x_cut, x_aNil, x_aCons, x_tup, x_lst, x_call, x_callS,
    x_iSeq, x_iRng1, x_iRng2, x_bor, x_tBor, x_put1, List.map_cons, List.map_nil, List.cons_append, List.nil_append, List.length_cons, List.length_nil, Nat.zero_add, Nat.reduceAdd, Nat.reduceSub, List.reduceReplicate, start,
    List.getElem?_cons_zero, List.getElem?_cons_succ, List.set_cons_zero, List.set_cons_succ, bnd_ret, bnd_assoc, bnd_grd, b1_if, bnd_ite, small, Nat.reduceLeDiff, grd_true, o_add, o_sub, o_neg, o_eq, o_ne, o_lt, o_le, o_gt, o_ge, o_eqS, o_neS,
    decide_eq_true_eq, reduceIte, decide_true, decide_false, Bool.not_true, Bool.not_false, Bool.false_eq_true, itemsOf, asInt, bi2, endOf, isTy,
    grd_tt, nx_int, nx_bool, nx_str, nx_none, nx_tup, nx_lst, x_isC, x_fld, x_in, x_count, x_lstR, x_tupR, x_raise, x_star, bnd_thr, noX_ret, fld_x, exn_d, eSetO, Out.clear, List.zip_cons_cons, List.zip_nil_left, List.zip_nil_right]
      have he : (ms.map PyData.int).take pl.toNat ++ [PyData.int (1 + l)] ++ (ms.map PyData.int).drop pl.toNat = (ms.take pl.toNat ++ (1 + l) :: ms.drop pl.toNat).map PyData.int := by simp [List.map_take, List.map_drop]
      rw [he]
      refine Ok.grd (by rw [List.length_map]; omega) (Ok.ret ⟨ms.take pl.toNat ++ (1 + l) :: ms.drop pl.toNat, _, _, _, _, rfl, by simp; omega, by simp; omega, fun x hx => ?_⟩)
      rcases List.mem_append.mp hx with h | h
      · exact hr.words x (List.mem_of_mem_take h)
      · rcases List.mem_cons.mp h with h | h
        · omega
        · exact hr.words x (List.mem_of_mem_drop h)
    have turnB : Ok (sRel 2 (sOwn 2 (eAddL (eCut (eVar 2) (oSome (eVar 4)) oNone) (eCut (eVar 2) oNone (oSome (eVar 4))))) [.stm, .val (.tuple (ns.map PyData.int)), .own (ms.map PyData.int), .val d, .val (.int pl), .val (.int way), .val (.int (1 + l))]) 0 (NearQ ns) := by
      rw [x_rel]
      simp only [List.getElem?_cons_succ, List.getElem?_cons_zero, List.set_cons_zero, List.set_cons_succ]
      rw [x_own, x_addL]
      simp only [x_var, x_con, x_bin, x_neg, x_cmp, x_chain, x_tTru, x_tNot, x_tAnd, x_tOr, x_tBool, x_tYes, x_not, x_and, x_or, x_if, x_b1, x_b2, x_is, x_idx, x_oNone, x_oSome, x_cut, x_aNil, x_aCons, x_tup, x_lst, x_call, x_callS,
    x_iSeq, x_iRng1, x_iRng2, x_bor, x_tBor, x_put1, List.map_cons, List.map_nil, List.cons_append, List.nil_append, List.length_cons, List.length_nil, Nat.zero_add, Nat.reduceAdd, Nat.reduceSub, List.reduceReplicate, start,
    List.getElem?_cons_zero, List.getElem?_cons_succ, List.set_cons_zero, List.set_cons_succ, bnd_ret, bnd_assoc, bnd_grd, b1_if, bnd_ite, small, Nat.reduceLeDiff, grd_true, o_add, o_sub, o_neg, o_eq, o_ne, o_lt, o_le, o_gt, o_ge, o_eqS, o_neS,
    decide_eq_true_eq, reduceIte, decide_true, decide_false, Bool.not_true, Bool.not_false, Bool.false_eq_true, itemsOf, asInt, bi2, endOf, isTy,
    grd_tt, nx_int, nx_bool, nx_str, nx_none, nx_tup, nx_lst, x_isC, x_fld, x_in, x_count, x_lstR, x_tupR, x_raise, x_star, bnd_thr, noX_ret, fld_x, exn_d, eSetO, Out.clear, List.zip_cons_cons, List.zip_nil_left, List.zip_nil_right]
      rw [cutL_from p0 (by omega), cutL_upto p0]
      simp only [x_var, x_con, x_bin, x_neg, x_cmp, x_chain, x_tTru, x_tNot, x_tAnd, x_tOr, x_tBool, x_tYes, x_not, x_and, x_or, x_if, x_b1, x_b2, x_is, x_idx, x_oNone, x_oSome, x_cut, x_aNil, x_aCons, x_tup, x_lst, x_call, x_callS,
    x_iSeq, x_iRng1, x_iRng2, x_bor, x_tBor, x_put1, List.map_cons, List.map_nil, List.cons_append, List.nil_append, List.length_cons, List.length_nil, Nat.zero_add, Nat.reduceAdd, Nat.reduceSub, List.reduceReplicate, start,
    List.getElem?_cons_zero, List.getElem?_cons_succ, List.set_cons_zero, List.set_cons_succ, bnd_ret, bnd_assoc, bnd_grd, b1_if, bnd_ite, small, Nat.reduceLeDiff, grd_true, o_add, o_sub, o_neg, o_eq, o_ne, o_lt, o_le, o_gt, o_ge, o_eqS, o_neS,
    decide_eq_true_eq, reduceIte, decide_true, decide_false, Bool.not_true, Bool.not_false, Bool.false_eq_true, itemsOf, asInt, bi2, endOf, isTy,
    grd_tt, nx_int, nx_bool, nx_str, nx_none, nx_tup, nx_lst, x_isC, x_fld, x_in, x_count, x_lstR, x_tupR, x_raise, x_star, bnd_thr, noX_ret, fld_x, exn_d, eSetO, Out.clear, List.zip_cons_cons, List.zip_nil_left, List.zip_nil_right]
      refine Ok.grd (by simp; omega) (Ok.ret ⟨ms.drop pl.toNat ++ ms.take pl.toNat, _, _, _, _, by rw [List.map_append], by simp; omega, by simp; omega, fun x hx => ?_⟩)
      rcases List.mem_append.mp hx with h | h
      · exact hr.words x (List.mem_of_mem_drop h)
      · exact hr.words x (List.mem_of_mem_take h)
    have rest2 : Ok (sIf (tBool (eCmp .eq (eVar 5) (eCon (.int 2)))) (sRel 2 (sOwn 2 (eAddL (eCut (eVar 2) (oSome (eVar 4)) oNone) (eCut (eVar 2) oNone (oSome (eVar 4)))))) (sSet 2 (eVar 4) (eVar 6)) [.stm, .val (.tuple (ns.map PyData.int)), .own (ms.map PyData.int), .val d, .val (.int pl), .val (.int way), .val (.int (1 + l))]) 0 (NearQ ns) := by
      rw [x_sIf]
      simp only [x_tBool, x_cmp, x_var, x_con, List.getElem?_cons_succ, List.getElem?_cons_zero, bnd_ret, o_eq]
      by_cases h : way = 2
      · rw [decide_eq_true h, if_pos rfl]; exact turnB
      · rw [decide_eq_false h, if_neg (by decide)]; exact setB
    have rest1 : Ok (sIf (tBor 2 (DL.tAnd (tBool (eCmp .eq (eVar 5) (eCon (.int 1)))) (tBool (eCmp .gt (eB1 .len (eVar 2)) (eCon (.int 1)))))) (sPopI 2 (eVar 4)) (sIf (tBool (eCmp .eq (eVar 5) (eCon (.int 2)))) (sRel 2 (sOwn 2 (eAddL (eCut (eVar 2) (oSome (eVar 4)) oNone) (eCut (eVar 2) oNone (oSome (eVar 4)))))) (sSet 2 (eVar 4) (eVar 6))) [.stm, .val (.tuple (ns.map PyData.int)), .own (ms.map PyData.int), .val d, .val (.int pl), .val (.int way), .val (.int (1 + l))]) 0 (NearQ ns) := by
      rw [x_sIf, x_tBor]
      simp only [List.getElem?_cons_succ, List.getElem?_cons_zero, List.set_cons_zero, List.set_cons_succ, t0, gt]
      by_cases h : way = 1
      · rw [if_pos h, bnd_ret]
        by_cases g : 1 < ms.length
        · rw [decide_eq_true (by omega), if_pos rfl]; exact popB g
        · rw [decide_eq_false (by omega), if_neg (by decide)]; exact rest2
      · rw [if_neg h, bnd_ret, if_neg (by decide)]; exact rest2
    have all : Ok (sIf (tBor 2 (DL.tAnd (tBool (eCmp .eq (eVar 5) (eCon (.int 0)))) (tBool (eCmp .lt (eB1 .len (eVar 2)) (eCon (.int 24)))))) (sIns 2 (aCons (eVar 4) (aCons (eVar 6) aNil))) (sIf (tBor 2 (DL.tAnd (tBool (eCmp .eq (eVar 5) (eCon (.int 1)))) (tBool (eCmp .gt (eB1 .len (eVar 2)) (eCon (.int 1)))))) (sPopI 2 (eVar 4)) (sIf (tBool (eCmp .eq (eVar 5) (eCon (.int 2)))) (sRel 2 (sOwn 2 (eAddL (eCut (eVar 2) (oSome (eVar 4)) oNone) (eCut (eVar 2) oNone (oSome (eVar 4)))))) (sSet 2 (eVar 4) (eVar 6)))) [.stm, .val (.tuple (ns.map PyData.int)), .own (ms.map PyData.int), .val d, .val (.int pl), .val (.int way), .val (.int (1 + l))]) 0 (NearQ ns) := by
      rw [x_sIf, x_tBor]
      simp only [List.getElem?_cons_succ, List.getElem?_cons_zero, List.set_cons_zero, List.set_cons_succ, t0, lt]
      by_cases h : way = 0
      · rw [if_pos h, bnd_ret]
        by_cases g : ms.length < 24
        · rw [decide_eq_true (by omega), if_pos rfl]; exact insB g
        · rw [decide_eq_false (by omega), if_neg (by decide)]; exact rest1
      · rw [if_neg h, bnd_ret, if_neg (by decide)]; exact rest1
    refine all.imp fun o ho => ?_
    cases o with
    | nx E' => exact ho
    | _ => exact ho.elim
  · rintro o ⟨ms, e3, e4, e5, e6, rfl, hr⟩
    simp (disch := omega) only [x_var, x_con, x_bin, x_neg, x_cmp, x_chain, x_tTru, x_tNot, x_tAnd, x_tOr, x_tBool, x_tYes, x_not, x_and, x_or, x_if, x_b1, x_b2, x_is, x_idx, x_oNone, x_oSome, x_cut, x_aNil, x_aCons, x_tup, x_lst, x_call, x_callS,
    x_iSeq, x_iRng1, x_iRng2, x_bor, x_tBor, x_put1, List.map_cons, List.map_nil, List.cons_append, List.nil_append, List.length_cons, List.length_nil, Nat.zero_add, Nat.reduceAdd, Nat.reduceSub, List.reduceReplicate, start,
    List.getElem?_cons_zero, List.getElem?_cons_succ, List.set_cons_zero, List.set_cons_succ, bnd_ret, bnd_assoc, bnd_grd, b1_if, bnd_ite, small, Nat.reduceLeDiff, grd_true, o_add, o_sub, o_neg, o_eq, o_ne, o_lt, o_le, o_gt, o_ge, o_eqS, o_neS,
    decide_eq_true_eq, reduceIte, decide_true, decide_false, Bool.not_true, Bool.not_false, Bool.false_eq_true, itemsOf, asInt, endOf, isTy,
    grd_tt, nx_int, nx_bool, nx_str, nx_none, nx_tup, nx_lst, x_isC, x_fld, x_in, x_count, x_lstR, x_tupR, x_raise, x_star, bnd_thr, noX_ret, fld_x, exn_d, eSetO, Out.clear, List.zip_cons_cons, List.zip_nil_left, List.zip_nil_right, s_asg, s_par, s_own, s_parO, s_put, s_expr, s_ret, s_skip, s_seq, s_rel, x_asg, x_par, x_own, x_parO, x_put, x_expr, x_ret, x_retN, x_skip, x_rel, x_app, x_setI, x_sIf, x_for, x_brk, x_cnt, b_lenT, b_lenL, b_tupL, b_tupT, b_max2, b_min2, o_addL, o_addT, cut_ints, sum_ints, s_chk, s_for, s_brk, s_cnt, s_retN, t_bool, g_rng, g_le, List.length_map]
    refine Ok.bnd' 61 (row_drawn_0 (by decide)) (by decide) ?_
    rintro r2 ⟨ks, rfl, k1, k2, hk⟩
    simp (disch := omega) only [x_var, x_con, x_bin, x_neg, x_cmp, x_chain, x_tTru, x_tNot, x_tAnd, x_tOr, x_tBool, x_tYes, x_not, x_and, x_or, x_if, x_b1, x_b2, x_is, x_idx, x_oNone, x_oSome, x_cut, x_aNil, x_aCons, x_tup, x_lst, x_call, x_callS,
    x_iSeq, x_iRng1, x_iRng2, x_bor, x_tBor, x_put1, List.map_cons, List.map_nil, List.cons_append, List.nil_append, List.length_cons, List.length_nil, Nat.zero_add, Nat.reduceAdd, Nat.reduceSub, List.reduceReplicate, start,
    List.getElem?_cons_zero, List.getElem?_cons_succ, List.set_cons_zero, List.set_cons_succ, bnd_ret, bnd_assoc, bnd_grd, b1_if, bnd_ite, small, Nat.reduceLeDiff, grd_true, o_add, o_sub, o_neg, o_eq, o_ne, o_lt, o_le, o_gt, o_ge, o_eqS, o_neS,
    decide_eq_true_eq, reduceIte, decide_true, decide_false, Bool.not_true, Bool.not_false, Bool.false_eq_true, itemsOf, asInt, endOf, isTy,
    grd_tt, nx_int, nx_bool, nx_str, nx_none, nx_tup, nx_lst, x_isC, x_fld, x_in, x_count, x_lstR, x_tupR, x_raise, x_star, bnd_thr, noX_ret, fld_x, exn_d, eSetO, Out.clear, List.zip_cons_cons, List.zip_nil_left, List.zip_nil_right, s_asg, s_par, s_own, s_parO, s_put, s_expr, s_ret, s_skip, s_seq, s_rel, x_asg, x_par, x_own, x_parO, x_put, x_expr, x_ret, x_retN, x_skip, x_rel, x_app, x_setI, x_sIf, x_for, x_brk, x_cnt, b_lenT, b_lenL, b_tupL, b_tupT, b_max2, b_min2, o_addL, o_addT, cut_ints, sum_ints, s_chk, s_for, s_brk, s_cnt, s_retN, t_bool, g_rng, g_le, List.length_map]
    refine Ok.drawB (n := 0) (by omega) (by omega) fun v v0 v1 => ?_
    simp (disch := omega) only [x_var, x_con, x_bin, x_neg, x_cmp, x_chain, x_tTru, x_tNot, x_tAnd, x_tOr, x_tBool, x_tYes, x_not, x_and, x_or, x_if, x_b1, x_b2, x_is, x_idx, x_oNone, x_oSome, x_cut, x_aNil, x_aCons, x_tup, x_lst, x_call, x_callS,
    x_iSeq, x_iRng1, x_iRng2, x_bor, x_tBor, x_put1, List.map_cons, List.map_nil, List.cons_append, List.nil_append, List.length_cons, List.length_nil, Nat.zero_add, Nat.reduceAdd, Nat.reduceSub, List.reduceReplicate, start,
    List.getElem?_cons_zero, List.getElem?_cons_succ, List.set_cons_zero, List.set_cons_succ, bnd_ret, bnd_assoc, bnd_grd, b1_if, bnd_ite, small, Nat.reduceLeDiff, grd_true, o_add, o_sub, o_neg, o_eq, o_ne, o_lt, o_le, o_gt, o_ge, o_eqS, o_neS,
    decide_eq_true_eq, reduceIte, decide_true, decide_false, Bool.not_true, Bool.not_false, Bool.false_eq_true, itemsOf, asInt, endOf, isTy,
    grd_tt, nx_int, nx_bool, nx_str, nx_none, nx_tup, nx_lst, x_isC, x_fld, x_in, x_count, x_lstR, x_tupR, x_raise, x_star, bnd_thr, noX_ret, fld_x, exn_d, eSetO, Out.clear, List.zip_cons_cons, List.zip_nil_left, List.zip_nil_right, s_asg, s_par, s_own, s_parO, s_put, s_expr, s_ret, s_skip, s_seq, s_rel, x_asg, x_par, x_own, x_parO, x_put, x_expr, x_ret, x_retN, x_skip, x_rel, x_app, x_setI, x_sIf, x_for, x_brk, x_cnt, b_lenT, b_lenL, b_tupL, b_tupT, b_max2, b_min2, o_addL, o_addT, cut_ints, sum_ints, s_chk, s_for, s_brk, s_cnt, s_retN, t_bool, g_rng, g_le, List.length_map]
    by_cases hv : v = 0
    · rw [decide_eq_true hv, show bi1 .int (.bool true) = ret (.int 1) from rfl]
      simp only [x_var, x_con, x_bin, x_neg, x_cmp, x_chain, x_tTru, x_tNot, x_tAnd, x_tOr, x_tBool, x_tYes, x_not, x_and, x_or, x_if, x_b1, x_b2, x_is, x_idx, x_oNone, x_oSome, x_cut, x_aNil, x_aCons, x_tup, x_lst, x_call, x_callS,
    x_iSeq, x_iRng1, x_iRng2, x_bor, x_tBor, x_put1, List.map_cons, List.map_nil, List.cons_append, List.nil_append, List.length_cons, List.length_nil, Nat.zero_add, Nat.reduceAdd, Nat.reduceSub, List.reduceReplicate, start,
    List.getElem?_cons_zero, List.getElem?_cons_succ, List.set_cons_zero, List.set_cons_succ, bnd_ret, bnd_assoc, bnd_grd, b1_if, bnd_ite, small, Nat.reduceLeDiff, grd_true, o_add, o_sub, o_neg, o_eq, o_ne, o_lt, o_le, o_gt, o_ge, o_eqS, o_neS,
    decide_eq_true_eq, reduceIte, decide_true, decide_false, Bool.not_true, Bool.not_false, Bool.false_eq_true, itemsOf, asInt, endOf, isTy,
    grd_tt, nx_int, nx_bool, nx_str, nx_none, nx_tup, nx_lst, x_isC, x_fld, x_in, x_count, x_lstR, x_tupR, x_raise, x_star, bnd_thr, noX_ret, fld_x, exn_d, eSetO, Out.clear, List.zip_cons_cons, List.zip_nil_left, List.zip_nil_right, s_asg, s_par, s_own, s_parO, s_put, s_expr, s_ret, s_skip, s_seq, s_rel, x_asg, x_par, x_own, x_parO, x_put, x_expr, x_ret, x_retN, x_skip, x_rel, x_app, x_setI, x_sIf, x_for, x_brk, x_cnt, b_lenT, b_lenL, b_tupL, b_tupT, b_max2, b_min2, o_addL, o_addT, cut_ints, sum_ints, s_chk, s_for, s_brk, s_cnt, s_retN, t_bool, g_rng, g_le, List.length_map, idx_1L]
      exact Ok.ret ⟨ks, rfl, k1, by omega, hk⟩
    · rw [decide_eq_false hv, show bi1 .int (.bool false) = ret (.int 0) from rfl]
      simp only [x_var, x_con, x_bin, x_neg, x_cmp, x_chain, x_tTru, x_tNot, x_tAnd, x_tOr, x_tBool, x_tYes, x_not, x_and, x_or, x_if, x_b1, x_b2, x_is, x_idx, x_oNone, x_oSome, x_cut, x_aNil, x_aCons, x_tup, x_lst, x_call, x_callS,
    x_iSeq, x_iRng1, x_iRng2, x_bor, x_tBor, x_put1, List.map_cons, List.map_nil, List.cons_append, List.nil_append, List.length_cons, List.length_nil, Nat.zero_add, Nat.reduceAdd, Nat.reduceSub, List.reduceReplicate, start,
    List.getElem?_cons_zero, List.getElem?_cons_succ, List.set_cons_zero, List.set_cons_succ, bnd_ret, bnd_assoc, bnd_grd, b1_if, bnd_ite, small, Nat.reduceLeDiff, grd_true, o_add, o_sub, o_neg, o_eq, o_ne, o_lt, o_le, o_gt, o_ge, o_eqS, o_neS,
    decide_eq_true_eq, reduceIte, decide_true, decide_false, Bool.not_true, Bool.not_false, Bool.false_eq_true, itemsOf, asInt, endOf, isTy,
    grd_tt, nx_int, nx_bool, nx_str, nx_none, nx_tup, nx_lst, x_isC, x_fld, x_in, x_count, x_lstR, x_tupR, x_raise, x_star, bnd_thr, noX_ret, fld_x, exn_d, eSetO, Out.clear, List.zip_cons_cons, List.zip_nil_left, List.zip_nil_right, s_asg, s_par, s_own, s_parO, s_put, s_expr, s_ret, s_skip, s_seq, s_rel, x_asg, x_par, x_own, x_parO, x_put, x_expr, x_ret, x_retN, x_skip, x_rel, x_app, x_setI, x_sIf, x_for, x_brk, x_cnt, b_lenT, b_lenL, b_tupL, b_tupT, b_max2, b_min2, o_addL, o_addT, cut_ints, sum_ints, s_chk, s_for, s_brk, s_cnt, s_retN, t_bool, g_rng, g_le, List.length_map, idx_headL]
      exact Ok.ret ⟨ms, rfl, hr⟩
end DL
end
section
namespace DL
open PySem
end DL
end
section
namespace DL
open PySem
def asc (x : Str) : Bool := x.cps.toList.all fun c => decide (c < 128)
mutual
/-- leaves: short ints, plain texts; dicts of one entry at most -/
def lf (u : Nat) : D → Bool
  | .none => true
  | .bool _ => true
  | .int i => decide (i.natAbs ≤ 10 ^ 39 + u)
  | .str x => asc x
  | .tuple xs => lfAll u xs
  | .list xs => lfAll u xs
  | .dict [] => true
  | .dict [(.str a, d)] => asc a && lf u d
  | .dict _ => false
def lfAll (u : Nat) : List D → Bool
  | [] => true
  | x :: xs => lf u x && lfAll u xs
end
mutual
theorem lf_plain {u : Nat} : ∀ {d : D}, lf u d = true → plain d = true
  | .none, _ => rfl
  | .bool _, _ => rfl
  | .int _, _ => rfl
  | .str _, _ => rfl
  | .tuple xs, h => by unfold lf at h; unfold plain; exact lf_plainA h
  | .list xs, h => by unfold lf at h; unfold plain; exact lf_plainA h
  | .dict [], _ => rfl
  | .dict [(.str a, d)], h => by
    unfold lf at h
    rw [Bool.and_eq_true] at h
    unfold plain
    exact lf_plain h.2
  | .dict ((.none, _) :: _), h => by simp [lf] at h
  | .dict ((.bool _, _) :: _), h => by simp [lf] at h
  | .dict ((.int _, _) :: _), h => by simp [lf] at h
  | .dict ((.list _, _) :: _), h => by simp [lf] at h
  | .dict ((.tuple _, _) :: _), h => by simp [lf] at h
  | .dict ((.dict _, _) :: _), h => by simp [lf] at h
  | .dict ((.str _, _) :: _ :: _), h => by simp [lf] at h
theorem lf_plainA {u : Nat} : ∀ {ds : List D}, lfAll u ds = true → plainAll ds = true
  | [], _ => rfl
  | x :: xs, h => by
    unfold lfAll at h
    rw [Bool.and_eq_true] at h
    unfold plainAll
    rw [lf_plain h.1, lf_plainA h.2]
    rfl
end
mutual
theorem lf_mono {u v : Nat} (h : u ≤ v) : ∀ {d : D}, lf u d = true → lf v d = true
  | .none, _ => rfl
  | .bool _, _ => rfl
  | .int i, q => by
    unfold lf at q ⊢
    exact decide_eq_true (Nat.le_trans (of_decide_eq_true q) (by omega))
  | .str x, q => by unfold lf at q ⊢; exact q
  | .tuple xs, q => by unfold lf at q ⊢; exact lf_monoA h q
  | .list xs, q => by unfold lf at q ⊢; exact lf_monoA h q
  | .dict [], _ => rfl
  | .dict [(.str a, d)], q => by
    unfold lf at q ⊢
    rw [Bool.and_eq_true] at q ⊢
    exact ⟨q.1, lf_mono h q.2⟩
  | .dict ((.none, _) :: _), h => by simp [lf] at h
  | .dict ((.bool _, _) :: _), h => by simp [lf] at h
  | .dict ((.int _, _) :: _), h => by simp [lf] at h
  | .dict ((.list _, _) :: _), h => by simp [lf] at h
  | .dict ((.tuple _, _) :: _), h => by simp [lf] at h
  | .dict ((.dict _, _) :: _), h => by simp [lf] at h
  | .dict ((.str _, _) :: _ :: _), h => by simp [lf] at h
theorem lf_monoA {u v : Nat} (h : u ≤ v) : ∀ {ds : List D}, lfAll u ds = true → lfAll v ds = true
  | [], _ => rfl
  | x :: xs, q => by
    unfold lfAll at q ⊢
    rw [Bool.and_eq_true] at q ⊢
    exact ⟨lf_mono h q.1, lf_monoA h q.2⟩
end
/-- small data -/
structure Bd (u n k : Nat) (d : D) : Prop where
  lf : DL.lf u d = true
  bulk : PyData.bulk d ≤ n
  deep : PyData.depth d ≤ k
structure BdA (u n k : Nat) (ds : List D) : Prop where
  lf : lfAll u ds = true
  bulk : PyData.bulkAll ds ≤ n
  deep : PyData.depthAll ds ≤ k
section
variable {u n k u' n' k' m j : Nat} {d : D} {ds es : List D}
theorem Bd.mono (h : Bd u n k d) (a : u ≤ u') (b : n ≤ n') (c : k ≤ k') : Bd u' n' k' d := ⟨lf_mono a h.lf, Nat.le_trans h.bulk b, Nat.le_trans h.deep c⟩
theorem BdA.mono (h : BdA u n k ds) (a : u ≤ u') (b : n ≤ n') (c : k ≤ k') : BdA u' n' k' ds := ⟨lf_monoA a h.lf, Nat.le_trans h.bulk b, Nat.le_trans h.deep c⟩
theorem Bd.nx (h : Bd u n k d) : noXn d = true := nx_plain (lf_plain h.lf)
theorem bd_int {i : Int} (h : i.natAbs ≤ 10 ^ 39 + u) : Bd u 0 0 (.int i) := ⟨by unfold DL.lf; exact decide_eq_true h, Nat.zero_le _, Nat.zero_le _⟩
theorem bda_nil : BdA u 0 0 [] := ⟨rfl, Nat.zero_le _, Nat.zero_le _⟩
theorem bda_cons (h : Bd u n k d) (t : BdA u m j ds) : BdA u (n + 1 + m) (max k j) (d :: ds) := by
  refine ⟨?_, ?_, ?_⟩
  · unfold lfAll; rw [h.lf, t.lf]; rfl
  · simp only [PyData.bulkAll]; have := h.bulk; have := t.bulk; omega
  · simp only [PyData.depthAll]; have := h.deep; have := t.deep; omega
theorem bd_tup (h : BdA u n k ds) : Bd u n (k + 1) (.tuple ds) := by
  refine ⟨by unfold DL.lf; exact h.lf, by unfold PyData.bulk; exact h.bulk, ?_⟩
  simp only [PyData.depth]; have := h.deep; omega
theorem lfA_app : ∀ (ds es : List D), lfAll u (ds ++ es) = (lfAll u ds && lfAll u es)
  | [], es => by simp [lfAll]
  | d :: ds, es => by simp only [List.cons_append, lfAll, lfA_app ds es, Bool.and_assoc]
theorem bulkA_app : ∀ (ds es : List D), PyData.bulkAll (ds ++ es) = PyData.bulkAll ds + PyData.bulkAll es
  | [], es => by simp [PyData.bulkAll]
  | d :: ds, es => by simp only [List.cons_append, PyData.bulkAll, bulkA_app ds es]; omega
theorem depthA_app : ∀ (ds es : List D), PyData.depthAll (ds ++ es) = max (PyData.depthAll ds) (PyData.depthAll es)
  | [], es => by simp [PyData.depthAll]
  | d :: ds, es => by simp only [List.cons_append, PyData.depthAll, depthA_app ds es]; omega
theorem BdA.parts (h : BdA u n k (ds ++ es)) : BdA u n k ds ∧ BdA u n k es := by
  have h1 := h.lf
  have h2 := h.bulk
  have h3 := h.deep
  rw [lfA_app, Bool.and_eq_true] at h1
  rw [bulkA_app] at h2
  rw [depthA_app] at h3
  exact ⟨⟨h1.1, by omega, by omega⟩, ⟨h1.2, by omega, by omega⟩⟩
theorem BdA.take (h : BdA u n k ds) (i : Nat) : BdA u n k (ds.take i) := by
  rw [← List.take_append_drop i ds] at h
  exact h.parts.1
theorem BdA.drop (h : BdA u n k ds) (i : Nat) : BdA u n k (ds.drop i) := by
  rw [← List.take_append_drop i ds] at h
  exact h.parts.2
theorem BdA.cut (h : BdA u n k ds) (lo hi : Option Int) : BdA u n k (DL.cut ds lo hi) := (h.drop _).take _
theorem BdA.mem (h : BdA u n k ds) {x : D} (hx : x ∈ ds) : Bd u n k x := by
  obtain ⟨a, b, rfl⟩ := List.append_of_mem hx
  have h1 := h.parts.2
  have h2 := h1.lf
  have h3 := h1.bulk
  have h4 := h1.deep
  simp only [lfAll, Bool.and_eq_true] at h2
  simp only [PyData.bulkAll] at h3
  simp only [PyData.depthAll] at h4
  exact ⟨h2.1, by omega, by omega⟩
theorem len_bulk : ∀ ds : List D, ds.length ≤ PyData.bulkAll ds
  | [] => Nat.le_refl _
  | d :: ds => by
    have := len_bulk ds
    simp only [List.length_cons, PyData.bulkAll]
    omega
theorem BdA.len (h : BdA u n k ds) : ds.length ≤ n := Nat.le_trans (len_bulk ds) h.bulk
theorem bda_all (h : ∀ d ∈ ds, Bd u n k d) : BdA u (ds.length * (n + 1)) k ds := by
  induction ds with
  | nil => exact bda_nil.mono (Nat.le_refl _) (Nat.zero_le _) (Nat.zero_le _)
  | cons d ds ih =>
    have := bda_cons (h d (.head _)) (ih fun x hx => h x (.tail _ hx))
    refine this.mono (Nat.le_refl _) ?_ (by omega)
    rw [List.length_cons, Nat.succ_mul]
    omega
theorem bda_ints {ns : List Int} (h : ∀ x ∈ ns, x.natAbs ≤ 10 ^ 39 + u) : BdA u ns.length 0 (ns.map PyData.int) := by
  have := bda_all (u := u) (n := 0) (k := 0) (ds := ns.map PyData.int) fun d hd => by
    obtain ⟨x, hx, rfl⟩ := List.mem_map.mp hd
    exact bd_int (h x hx)
  rw [List.length_map, Nat.zero_add, Nat.mul_one] at this
  exact this
end
end DL
end
section
namespace DL
open PySem
end DL
end
section
namespace DL
open PySem
theorem o_isN (d : D) : opCmp .isN d .none = ret (isNone d) := isN_none d
end DL
end
section
namespace DL
open PySem
theorem max_long {ns : List Int} {m w : Int} (h : bi1 .max (.tuple (ns.map PyData.int)) = ret (.int m)) (hm : m ≤ w) : Long ns w none := .no fun j x hj => by
  have hx := List.mem_of_getElem? hj
  match ns, hx, h with
  | a :: r, hx, h =>
    have e : bi1 .max (.tuple ((a :: r).map PyData.int)) = ret (.int (greatest a r)) := by
      show bnd (intsOf (.tuple ((a :: r).map PyData.int))) _ = _
      simp only [intsOf, itemsOf, bnd_ret, ints?_map]
    rw [e] at h
    have e2 : PyData.int (greatest a r) = .int m := by
      have := congrFun (congrFun (congrFun h (.z 0)) fun d _ => d = .int m) fun _ _ => False
      exact this.mpr rfl
    have e3 : greatest a r = m := PyData.int.inj e2
    have go : ∀ (r : List Int) (a : Int), a ≤ r.foldl max a ∧ ∀ y ∈ r, y ≤ r.foldl max a := by
      intro r
      induction r with
      | nil => intro a; exact ⟨Int.le_refl _, fun y hy => by cases hy⟩
      | cons b r ih =>
        intro a
        obtain ⟨g1, g2⟩ := ih (max a b)
        refine ⟨Int.le_trans (Int.le_max_left a b) g1, fun y hy => ?_⟩
        cases hy with
        | head => exact Int.le_trans (Int.le_max_right a b) g1
        | tail _ hy => exact g2 y hy
    obtain ⟨g1, g2⟩ := go r a
    unfold greatest at e3
    rw [e3] at g1 g2
    cases hx with
    | head => omega
    | tail _ hx => have := g2 x hx; omega
/-- neighbours -/
def adjN : List Nat → List (Nat × Nat)
  | a :: b :: r => (a, b) :: adjN (b :: r)
  | _ => []
/-- each with what comes next, at last e -/
def endN (e : Nat) : List Nat → List (Nat × Nat)
  | [] => []
  | [a] => [(a, e)]
  | a :: b :: r => (a, b) :: endN e (b :: r)
theorem adj_mem : ∀ {l : List Nat} {q : Nat × Nat}, q ∈ adjN l → q.1 ∈ l ∧ q.2 ∈ l
  | a :: b :: r, q, h => by
    cases h with
    | head => exact ⟨.head _, .tail _ (.head _)⟩
    | tail _ h => exact ⟨.tail _ (adj_mem h).1, .tail _ (adj_mem h).2⟩
  | [_], q, h => by cases h
  | [], q, h => by cases h
theorem end_mem {e : Nat} : ∀ {l : List Nat} {q : Nat × Nat}, q ∈ endN e l → q.1 ∈ l ∧ (q.2 ∈ l ∨ q.2 = e)
  | a :: b :: r, q, h => by
    cases h with
    | head => exact ⟨.head _, .inl (.tail _ (.head _))⟩
    | tail _ h => exact ⟨.tail _ (end_mem h).1, (end_mem h).2.imp (fun z => .tail _ z) id⟩
  | [a], q, h => by
    cases h with
    | head => exact ⟨.head _, .inr rfl⟩
    | tail _ h => cases h
  | [], q, h => by cases h
/-- ascending -/
def ascN (l : List Nat) : Bool := (adjN l).all fun q => decide (q.1 < q.2)
theorem asc_adj {l : List Nat} (h : ascN l = true) {q : Nat × Nat} (hq : q ∈ adjN l) : q.1 < q.2 := by
  unfold ascN at h
  simpa using List.all_eq_true.mp h q hq
theorem asc_end {e : Nat} {l : List Nat} (h : ascN l = true) (he : ∀ a ∈ l, a < e) {q : Nat × Nat} (hq : q ∈ endN e l) : q.1 < q.2 := by
  match l, h, he, hq with
  | a :: b :: r, h, he, hq =>
    cases hq with
    | head => exact asc_adj h (.head _)
    | tail _ hq =>
      refine asc_end (l := b :: r) ?_ (fun x hx => he x (.tail _ hx)) hq
      unfold ascN at h ⊢
      simp only [adjN, List.all_cons, Bool.and_eq_true] at h
      exact h.2
  | [a], h, he, hq =>
    cases hq with
    | head => exact he a (.head _)
    | tail _ h => cases h
  | [], _, _, hq => cases hq
def fitN (ns : List Int) (w : Int) (l : List Nat) : Bool := (endN ns.length l).all fun q => decide (ext ns q.1 (q.2 - 1) ≤ w)
def barN (ns : List Int) (w : Int) (l : List Nat) : Bool := (adjN l).all fun q => decide (w < ext ns q.1 q.2)
theorem ext_sum {ns : List Int} {a b : Nat} (h : a < b) : ((ns.drop a).take (b - a)).sum + (b : Int) - (a : Int) - 1 = ext ns a (b - 1) := by
  unfold ext
  rw [show b - 1 + 1 - a = b - a by omega]
  omega
end DL
end
section
namespace DL
open PySem
/-- a tuple of few small ints -/
def FewI (d : D) : Prop := ∃ is : List Int, d = .tuple (is.map PyData.int) ∧ is.length ≤ 60 ∧ ∀ x ∈ is, 0 ≤ x ∧ x < 60
theorem FewI.bd {d : D} (h : FewI d) : Bd 0 60 1 d := by
  obtain ⟨is, rfl, h1, h2⟩ := h
  exact (bd_tup (bda_ints fun x hx => by have := h2 x hx; omega)).mono (Nat.le_refl _) h1 (by omega)
end DL
end
section
namespace DL
open PySem
end DL
end
section
namespace DL
open PySem
theorem ext_left {ns : List Int} {i j : Nat} (h : i < j) (hj : j < ns.length) : ext ns i j = ns[i] + 1 + ext ns (i + 1) j := by
  unfold ext
  rw [List.drop_eq_getElem_cons (by omega : i < ns.length), show j + 1 - i = (j - i) + 1 by omega, List.take_succ_cons, List.sum_cons, show j + 1 - (i + 1) = j - i by omega]
  omega
theorem ext_right {ns : List Int} {i j : Nat} (h : i ≤ j) (hj : j + 1 < ns.length) : ext ns i (j + 1) = ext ns i j + 1 + ns[j + 1] := ext_next h (List.getElem?_eq_getElem hj)
section
variable {ns : List Int} {w : Int}
theorem ext_mono_r (hp : ∀ x ∈ ns, 1 ≤ x) {i j : Nat} (h : i ≤ j) : ∀ k : Nat, j ≤ k → k < ns.length → ext ns i j ≤ ext ns i k
  | 0, hk, _ => by rw [show j = 0 by omega]; exact Int.le_refl _
  | k + 1, hk, hl => by
    by_cases e : j = k + 1
    · rw [e]; exact Int.le_refl _
    · have h1 := ext_mono_r hp h k (by omega) (by omega)
      have h2 := ext_right (ns := ns) (i := i) (j := k) (by omega) hl
      have := hp _ (List.getElem_mem hl)
      omega
theorem ext_mono_l (hp : ∀ x ∈ ns, 1 ≤ x) {j : Nat} (hj : j < ns.length) : ∀ (k i : Nat), i + k ≤ j → ext ns (i + k) j ≤ ext ns i j
  | 0, i, _ => Int.le_refl _
  | k + 1, i, h => by
    have h1 := ext_mono_l hp hj k (i + 1) (by omega)
    have h2 := ext_left (ns := ns) (i := i) (j := j) (by omega) hj
    have := hp _ (List.getElem_mem (show i < ns.length by omega))
    rw [show i + (k + 1) = i + 1 + k by omega]
    omega
theorem ext_one {i : Nat} (h : i < ns.length) : ext ns i i = ns[i] := ext_self (List.getElem?_eq_getElem h)
theorem nx_mono (hp : ∀ x ∈ ns, 1 ≤ x) {a b : Nat} (h : a ≤ b) (hb : b < ns.length) : nx ns w a ≤ nx ns w b := by
  obtain ⟨a1, a2, a3, a4⟩ := nx_spec (w := w) (show a < ns.length by omega)
  obtain ⟨b1, b2, b3, b4⟩ := nx_spec (w := w) hb
  by_cases e : nx ns w b = ns.length
  · omega
  · have h1 := b4 (by omega)
    have h2 := ext_mono_l hp (show nx ns w b < ns.length by omega) (b - a) a (by omega)
    rw [show a + (b - a) = b by omega] at h2
    by_cases h3 : nx ns w b < nx ns w a
    · have := a3 (nx ns w b) (by omega) h3
      omega
    · omega
/-- the greedy starts, one after another; behind the last one the row's end -/
def gr (ns : List Int) (w : Int) : Nat → Nat
  | 0 => 0
  | k + 1 => if gr ns w k < ns.length then nx ns w (gr ns w k) else ns.length
theorem gr_step {k : Nat} (h : gr ns w k < ns.length) : gr ns w (k + 1) = nx ns w (gr ns w k) := if_pos h
theorem gr_le : ∀ k, gr ns w k ≤ ns.length
  | 0 => Nat.zero_le _
  | k + 1 => by
    unfold gr
    split
    · exact nx_le _ _ _ ‹_›
    · exact Nat.le_refl _
theorem gr_lt {k : Nat} (h : gr ns w k < ns.length) : gr ns w k < gr ns w (k + 1) := by
  rw [gr_step h]
  exact nx_gt _ _ _
theorem gr_mono : ∀ {k j : Nat}, k ≤ j → gr ns w k ≤ gr ns w j
  | k, 0, h => by rw [show k = 0 by omega]; exact Nat.le_refl _
  | k, j + 1, h => by
    by_cases e : k = j + 1
    · rw [e]; exact Nat.le_refl _
    · refine Nat.le_trans (gr_mono (show k ≤ j by omega)) ?_
      by_cases hl : gr ns w j < ns.length
      · exact Nat.le_of_lt (gr_lt hl)
      · have := gr_le (ns := ns) (w := w) j
        have e2 : gr ns w (j + 1) = ns.length := if_neg hl
        omega
theorem chain_gr : ∀ (l : List Nat) (a k : Nat), Chain ns w (a :: l) → a = gr ns w k → (∀ i b, (a :: l)[i]? = some b → b = gr ns w (k + i) ∧ b < ns.length) ∧ gr ns w (k + l.length + 1) = ns.length
  | [], a, k, h, e => by
    obtain ⟨h1, h2⟩ := h
    refine ⟨fun i b hb => ?_, ?_⟩
    · cases i with
      | zero => cases hb; exact ⟨e, h1⟩
      | succ i => cases hb
    · show gr ns w (k + 1) = _
      rw [gr_step (by rw [← e]; exact h1), ← e, h2]
  | b :: r, a, k, h, e => by
    obtain ⟨h1, h2, h3⟩ := h
    have e2 : b = gr ns w (k + 1) := by rw [gr_step (by rw [← e]; exact h1), ← e, h2]
    obtain ⟨i1, i2⟩ := chain_gr r b (k + 1) h3 e2
    refine ⟨fun i c hc => ?_, ?_⟩
    · cases i with
      | zero => cases hc; exact ⟨e, h1⟩
      | succ i =>
        have := i1 i c hc
        rw [show k + (i + 1) = k + 1 + i by omega]
        exact this
    · rw [List.length_cons, show k + (r.length + 1) + 1 = k + 1 + r.length + 1 by omega]
      exact i2
/-- the number of greedy lines -/
def many (ns : List Int) (w : Int) : Nat := (starts ns w).length
theorem many_pos : 1 ≤ many ns w := by unfold many starts; simp
theorem starts_at {i b : Nat} (h1 : 0 < ns.length) (h : (starts ns w)[i]? = some b) : b = gr ns w i ∧ b < ns.length := by
  have := (chain_gr (restF ns w ns.length (nx ns w 0)) 0 0 (starts_chain w h1) rfl).1 i b h
  rwa [Nat.zero_add] at this
theorem gr_end (h1 : 0 < ns.length) : gr ns w (many ns w) = ns.length := by
  have := (chain_gr (restF ns w ns.length (nx ns w 0)) 0 0 (starts_chain w h1) rfl).2
  rw [Nat.zero_add] at this
  exact this
theorem gr_in (h1 : 0 < ns.length) {k : Nat} (hk : k < many ns w) : gr ns w k < ns.length := by
  have := (starts_at h1 (List.getElem?_eq_getElem (l := starts ns w) hk)).1
  have h2 := (starts_at h1 (List.getElem?_eq_getElem (l := starts ns w) hk)).2
  omega
theorem gr_in_iff (h1 : 0 < ns.length) {k : Nat} : gr ns w k < ns.length ↔ k < many ns w := by
  refine ⟨fun h => ?_, gr_in h1⟩
  by_cases e : k < many ns w
  · exact e
  · have := gr_mono (ns := ns) (w := w) (show many ns w ≤ k by omega)
    rw [gr_end h1] at this
    omega
theorem starts_gr (h1 : 0 < ns.length) : starts ns w = (List.range (many ns w)).map (gr ns w) := by
  refine List.ext_getElem (by simp [many]) fun i h2 h3 => ?_
  have := (starts_at h1 (List.getElem?_eq_getElem h2)).1
  rw [this]
  simp
theorem adj_at : ∀ {l : List Nat} {k a b : Nat}, l[k]? = some a → l[k + 1]? = some b → (a, b) ∈ adjN l
  | x :: y :: r, 0, a, b, h1, h2 => by cases h1; cases h2; exact .head _
  | x :: y :: r, k + 1, a, b, h1, h2 => .tail _ (adj_at (l := y :: r) (k := k) h1 h2)
  | [x], k, a, b, h1, h2 => by simp at h2
  | [], k, a, b, h1, h2 => by simp at h1
theorem end_at {e : Nat} : ∀ {l : List Nat} {k a b : Nat}, l[k]? = some a → l[k + 1]? = some b → (a, b) ∈ endN e l
  | x :: y :: r, 0, a, b, h1, h2 => by cases h1; cases h2; exact .head _
  | x :: y :: r, k + 1, a, b, h1, h2 => .tail _ (end_at (l := y :: r) (k := k) h1 h2)
  | [x], k, a, b, h1, h2 => by simp at h2
  | [], k, a, b, h1, h2 => by simp at h1
theorem end_last {e : Nat} : ∀ {l : List Nat} {k a : Nat}, l[k]? = some a → k + 1 = l.length → (a, e) ∈ endN e l
  | [x], k, a, h1, h2 => by
    have : k = 0 := by simpa using h2
    subst this
    cases h1
    exact .head _
  | x :: y :: r, 0, a, h1, h2 => by simp at h2
  | x :: y :: r, k + 1, a, h1, h2 => .tail _ (end_last (l := y :: r) (k := k) h1 (by simpa using h2))
  | [], k, a, h1, h2 => by simp at h1
theorem adj_ix : ∀ {l : List Nat} {q : Nat × Nat}, q ∈ adjN l → ∃ k, l[k]? = some q.1 ∧ l[k + 1]? = some q.2
  | a :: b :: r, q, h => by
    cases h with
    | head => exact ⟨0, rfl, rfl⟩
    | tail _ h => obtain ⟨k, h1, h2⟩ := adj_ix h; exact ⟨k + 1, h1, h2⟩
  | [_], q, h => by cases h
  | [], q, h => by cases h
theorem end_ix {e : Nat} : ∀ {l : List Nat} {q : Nat × Nat}, q ∈ endN e l → ∃ k, l[k]? = some q.1 ∧ (l[k + 1]? = some q.2 ∨ (k + 1 = l.length ∧ q.2 = e))
  | a :: b :: r, q, h => by
    cases h with
    | head => exact ⟨0, rfl, .inl rfl⟩
    | tail _ h =>
      obtain ⟨k, h1, h2⟩ := end_ix h
      exact ⟨k + 1, h1, h2.imp id fun z => ⟨by simpa using z.1, z.2⟩⟩
  | [a], q, h => by
    cases h with
    | head => exact ⟨0, rfl, .inr ⟨rfl, rfl⟩⟩
    | tail _ h => cases h
  | [], q, h => by cases h
/-- a breaking: starts from 0 on, ascending, lines that fit -/
structure Brk (ns : List Int) (w : Int) (l : List Nat) : Prop where
  ne : l ≠ []
  zero : l[0]? = some 0
  asc : ascN l = true
  lt : ∀ a ∈ l, a < ns.length
  fit : fitN ns w l = true
theorem Brk.fits {l : List Nat} (h : Brk ns w l) {q : Nat × Nat} (hq : q ∈ endN ns.length l) : q.1 < q.2 ∧ q.2 ≤ ns.length ∧ ext ns q.1 (q.2 - 1) ≤ w := by
  have h1 := asc_end h.asc h.lt hq
  refine ⟨h1, ?_, ?_⟩
  · rcases (end_mem hq).2 with z | z
    · exact Nat.le_of_lt (h.lt _ z)
    · omega
  · have := h.fit
    unfold fitN at this
    simpa using List.all_eq_true.mp this q hq
theorem Brk.len {l : List Nat} (h : Brk ns w l) : 1 ≤ l.length := List.length_pos_iff.mpr h.ne
/-- no start is later than the greedy one -/
theorem Brk.le (hp : ∀ x ∈ ns, 1 ≤ x) {l : List Nat} (h : Brk ns w l) : ∀ (k a : Nat), l[k]? = some a → a ≤ gr ns w k
  | 0, a, ha => by
    rw [h.zero] at ha
    cases ha
    exact Nat.zero_le _
  | k + 1, a, ha => by
    have hk : k < l.length := by have := (List.getElem?_eq_some_iff.mp ha).1; omega
    have hb := List.getElem?_eq_getElem hk
    have ih := Brk.le hp h k _ hb
    obtain ⟨f1, f2, f3⟩ := h.fits (end_at hb ha)
    have lt := h.lt _ (List.mem_of_getElem? ha)
    have ltb := h.lt _ (List.getElem_mem hk)
    obtain ⟨n1, n2, n3, n4⟩ := nx_spec (w := w) ltb
    have step : a ≤ nx ns w l[k] := by
      by_cases e : a ≤ nx ns w l[k]
      · exact e
      · have h4 := n4 (by omega)
        have h5 := ext_mono_r hp (i := l[k]) (j := nx ns w l[k]) (by omega) (a - 1) (by omega) (by omega)
        simp only at f3
        omega
    by_cases hg : gr ns w k < ns.length
    · rw [gr_step hg]
      exact Nat.le_trans step (nx_mono hp ih hg)
    · have e2 : gr ns w (k + 1) = ns.length := if_neg hg
      omega
/-- no breaking has fewer lines -/
theorem Brk.many (hp : ∀ x ∈ ns, 1 ≤ x) (h1 : 0 < ns.length) {l : List Nat} (h : Brk ns w l) : DL.many ns w ≤ l.length := by
  have hl := h.len
  have hk : l.length - 1 < l.length := by omega
  have hb := List.getElem?_eq_getElem hk
  have le := h.le hp _ _ hb
  obtain ⟨f1, f2, f3⟩ := h.fits (end_last hb (by omega))
  have ltb := h.lt _ (List.getElem_mem hk)
  by_cases e : DL.many ns w ≤ l.length
  · exact e
  · have hg := gr_in (w := w) h1 (k := l.length) (by omega)
    have hg0 : gr ns w (l.length - 1) < ns.length := gr_in h1 (show l.length - 1 < DL.many ns w by omega)
    have st := gr_step hg0
    rw [show l.length - 1 + 1 = l.length by omega] at st
    have mono := nx_mono (w := w) hp le hg0
    obtain ⟨n1, n2, n3, n4⟩ := nx_spec (w := w) ltb
    have h4 := n4 (by omega)
    have h5 := ext_mono_r hp (i := l[l.length - 1]) (j := nx ns w l[l.length - 1]) (by omega) (ns.length - 1) (by omega) (by omega)
    simp only at f3
    omega
/-- the greedy starts are a breaking of a row that fits -/
theorem brk_starts (h1 : 0 < ns.length) (hw : ∀ x ∈ ns, x ≤ w) : Brk ns w (starts ns w) := by
  have at_ : ∀ {i b}, (starts ns w)[i]? = some b → b = gr ns w i ∧ b < ns.length := fun h => DL.starts_at h1 h
  refine ⟨by unfold starts; simp, rfl, ?_, fun a ha => starts_lt h1 a ha, ?_⟩
  · unfold ascN
    refine List.all_eq_true.mpr fun q hq => ?_
    obtain ⟨k, h2, h3⟩ := adj_ix hq
    obtain ⟨e1, l1⟩ := at_ h2
    obtain ⟨e2, l2⟩ := at_ h3
    have := gr_lt (ns := ns) (w := w) (k := k) (by omega)
    simp
    omega
  · unfold fitN
    refine List.all_eq_true.mpr fun q hq => ?_
    obtain ⟨k, h2, h3⟩ := end_ix hq
    obtain ⟨e1, l1⟩ := at_ h2
    have nxe : q.2 = nx ns w q.1 := by
      rw [e1, ← gr_step (by omega)]
      rcases h3 with h3 | ⟨h3, h4⟩
      · exact (at_ h3).1
      · rw [h4, h3]
        exact (gr_end h1).symm
    obtain ⟨n1, n2, n3, n4⟩ := nx_spec (w := w) l1
    simp only [decide_eq_true_eq]
    rw [nxe]
    by_cases e : nx ns w q.1 - 1 = q.1
    · rw [e, ext_one l1]
      exact hw _ (List.getElem_mem l1)
    · exact n3 _ (by omega) (by omega)
/-- bars: ascending places, two neighbours of which do not fit one line -/
structure Bar (ns : List Int) (w : Int) (l : List Nat) : Prop where
  ne : l ≠ []
  asc : ascN l = true
  lt : ∀ a ∈ l, a < ns.length
  far : barN ns w l = true
theorem Bar.fars {l : List Nat} (h : Bar ns w l) {q : Nat × Nat} (hq : q ∈ adjN l) : q.1 < q.2 ∧ q.2 < ns.length ∧ w < ext ns q.1 q.2 := by
  refine ⟨asc_adj h.asc hq, h.lt _ (adj_mem hq).2, ?_⟩
  have := h.far
  unfold barN at this
  simpa using List.all_eq_true.mp this q hq
theorem Bar.ge (hp : ∀ x ∈ ns, 1 ≤ x) {l : List Nat} (h : Bar ns w l) : ∀ (k a : Nat), l[k]? = some a → gr ns w k ≤ a
  | 0, a, ha => Nat.zero_le _
  | k + 1, a, ha => by
    have hk : k < l.length := by have := (List.getElem?_eq_some_iff.mp ha).1; omega
    have hb := List.getElem?_eq_getElem hk
    have ih := Bar.ge hp h k _ hb
    obtain ⟨f1, f2, f3⟩ := h.fars (adj_at hb ha)
    simp only at f1 f2 f3
    have ltb := h.lt _ (List.getElem_mem hk)
    have hg : gr ns w k < ns.length := by omega
    rw [gr_step hg]
    refine Nat.le_trans (nx_mono hp ih ltb) ?_
    obtain ⟨n1, n2, n3, n4⟩ := nx_spec (w := w) ltb
    by_cases e : nx ns w l[k] ≤ a
    · exact e
    · have := n3 a f1 (by omega)
      omega
/-- no bars have more items than there are greedy lines -/
theorem Bar.many (hp : ∀ x ∈ ns, 1 ≤ x) (h1 : 0 < ns.length) {l : List Nat} (h : Bar ns w l) : l.length ≤ DL.many ns w := by
  have hl : 1 ≤ l.length := List.length_pos_iff.mpr h.ne
  have hk : l.length - 1 < l.length := by omega
  have := h.ge hp _ _ (List.getElem?_eq_getElem hk)
  have lt := h.lt _ (List.getElem_mem hk)
  have := (gr_in_iff (w := w) h1 (k := l.length - 1)).mp (by omega)
  omega
theorem bar_starts (h1 : 0 < ns.length) : Bar ns w (starts ns w) := by
  have at_ : ∀ {i b}, (starts ns w)[i]? = some b → b = gr ns w i ∧ b < ns.length := fun h => DL.starts_at h1 h
  refine ⟨by unfold starts; simp, ?_, fun a ha => starts_lt h1 a ha, ?_⟩
  · unfold ascN
    refine List.all_eq_true.mpr fun q hq => ?_
    obtain ⟨k, h2, h3⟩ := adj_ix hq
    obtain ⟨e1, l1⟩ := at_ h2
    obtain ⟨e2, l2⟩ := at_ h3
    have := gr_lt (ns := ns) (w := w) (k := k) (by omega)
    simp
    omega
  · unfold barN
    refine List.all_eq_true.mpr fun q hq => ?_
    obtain ⟨k, h2, h3⟩ := adj_ix hq
    obtain ⟨e1, l1⟩ := at_ h2
    obtain ⟨e2, l2⟩ := at_ h3
    obtain ⟨n1, n2, n3, n4⟩ := nx_spec (w := w) l1
    have e3 : q.2 = nx ns w q.1 := by rw [e1, ← gr_step (by omega)]; exact e2
    simp only [decide_eq_true_eq]
    rw [e3]
    exact n4 (by omega)
end
end DL
end
section
namespace DL
open PySem
section
variable {ns : List Int} {w : Int}
theorem asc_of {l : List Nat} (h : ∀ (k a b : Nat), l[k]? = some a → l[k + 1]? = some b → a < b) : ascN l = true := by
  unfold ascN
  refine List.all_eq_true.mpr fun q hq => ?_
  obtain ⟨k, h2, h3⟩ := adj_ix hq
  exact decide_eq_true (h k _ _ h2 h3)
theorem Brk.of {l : List Nat} (h0 : l[0]? = some 0) (hl : ∀ a ∈ l, a < ns.length) (h : ∀ (k a b : Nat), l[k]? = some a → (l[k + 1]? = some b ∨ (k + 1 = l.length ∧ b = ns.length)) → a < b ∧ ext ns a (b - 1) ≤ w) : Brk ns w l := by
  refine ⟨(fun z => by rw [z] at h0; cases h0), h0, asc_of fun k a b h1 h2 => (h k a b h1 (.inl h2)).1, hl, ?_⟩
  unfold fitN
  refine List.all_eq_true.mpr fun q hq => ?_
  obtain ⟨k, h2, h3⟩ := end_ix hq
  exact decide_eq_true (h k _ _ h2 h3).2
theorem Bar.of {l : List Nat} (h0 : l ≠ []) (hl : ∀ a ∈ l, a < ns.length) (h : ∀ (k a b : Nat), l[k]? = some a → l[k + 1]? = some b → a < b ∧ w < ext ns a b) : Bar ns w l := by
  refine ⟨h0, asc_of fun k a b h1 h2 => (h k a b h1 h2).1, hl, ?_⟩
  unfold barN
  refine List.all_eq_true.mpr fun q hq => ?_
  obtain ⟨k, h2, h3⟩ := adj_ix hq
  exact decide_eq_true (h k _ _ h2 h3).2
theorem Bar.step {l : List Nat} (h : Bar ns w l) {k a b : Nat} (h1 : l[k]? = some a) (h2 : l[k + 1]? = some b) : a < b ∧ b < ns.length ∧ w < ext ns a b := h.fars (adj_at h1 h2)
/-- bars with one place left out are bars -/
theorem Bar.less (hp : ∀ x ∈ ns, 1 ≤ x) {l : List Nat} (h : Bar ns w l) (h2 : 1 < l.length) (r : Nat) (hr : r < l.length) : Bar ns w (l.take r ++ l.drop (r + 1)) := by
  have len : (l.take r ++ l.drop (r + 1)).length = l.length - 1 := by
    rw [List.length_append, List.length_take, List.length_drop]; omega
  have at_ : ∀ k, (l.take r ++ l.drop (r + 1))[k]? = if k < r then l[k]? else l[k + 1]? := fun k => by
    by_cases hk : k < r
    · rw [if_pos hk, List.getElem?_append_left (by rw [List.length_take]; omega), List.getElem?_take, if_pos hk]
    · rw [if_neg hk, List.getElem?_append_right (by rw [List.length_take]; omega), List.getElem?_drop, List.length_take]
      congr 1
      omega
  refine .of (fun z => by rw [z] at len; simp at len; omega) (fun a ha => ?_) fun k a b h3 h4 => ?_
  · rcases List.mem_append.mp ha with z | z
    · exact h.lt a (List.mem_of_mem_take z)
    · exact h.lt a (List.mem_of_mem_drop z)
  · rw [at_] at h3 h4
    by_cases c1 : k + 1 < r
    · rw [if_pos (by omega)] at h3
      rw [if_pos c1] at h4
      have := h.step h3 h4
      exact ⟨this.1, this.2.2⟩
    · rw [if_neg c1] at h4
      by_cases c2 : k < r
      · rw [if_pos c2] at h3
        have hm : k + 1 < l.length := by omega
        have s1 := h.step h3 (List.getElem?_eq_getElem hm)
        have s2 := h.step (List.getElem?_eq_getElem hm) h4
        have := ext_mono_r hp (i := a) (j := l[k + 1]) (by omega) b (by omega) s2.2.1
        exact ⟨by omega, by omega⟩
      · rw [if_neg c2] at h3
        have := h.step h3 h4
        exact ⟨this.1, this.2.2⟩
end
theorem comp_mapE {it : XA} {tg : Tg} {t : XT} {e : XE} {vs : List Nat} {E : Env} {ds : List D} {f : D → D} (hit : it E = ret ds) (hl : ds.length ≤ 1000000)
    (hs : ∀ d ∈ ds, ∃ E1, tg.put d (wipeE E vs) = some E1 ∧ t E1 = ret true ∧ e E1 = ret (f d)) : eComp it tg t e vs E = ret (.list (ds.map f)) := by
  rw [x_comp, hit, bnd_ret, comp_map f ds [] (by simp only [List.length_nil]; omega) hs, noX_ret, bnd_ret, List.nil_append]
theorem long_all {ns : List Int} {w : Int} (h : Long ns w none) : ∀ x ∈ ns, x ≤ w := fun x hx => by
  cases h with
  | no h =>
    obtain ⟨j, hj, e⟩ := List.getElem_of_mem hx
    exact h j x (by rw [List.getElem?_eq_getElem hj, e])
end DL
end
section
namespace DL
open PySem
theorem drop_appR (as bs : List Int) (i : Nat) : (as ++ bs).drop (as.length + i) = bs.drop i := by
  rw [List.drop_append, List.drop_eq_nil_of_le (by omega), show as.length + i - as.length = i by omega, List.nil_append]
theorem ext_appR (as bs : List Int) (i j : Nat) : ext (as ++ bs) (as.length + i) (as.length + j) = ext bs i j := by
  unfold ext
  rw [drop_appR, show as.length + j + 1 - (as.length + i) = j + 1 - i by omega]
  omega
section
variable {as bs : List Int} {w : Int}
theorem Brk.last {ns : List Int} {l : List Nat} (h : Brk ns w l) {k a : Nat} (h1 : l[k]? = some a) (h2 : k + 1 = l.length) : a < ns.length ∧ ext ns a (ns.length - 1) ≤ w := by
  have := h.fits (end_last h1 h2)
  exact ⟨this.1, this.2.2⟩
theorem Brk.mid {ns : List Int} {l : List Nat} (h : Brk ns w l) {k a b : Nat} (h1 : l[k]? = some a) (h2 : l[k + 1]? = some b) : a < b ∧ b < ns.length ∧ ext ns a (b - 1) ≤ w := by
  have := h.fits (end_at h1 h2)
  exact ⟨this.1, h.lt b (List.mem_of_getElem? h2), this.2.2⟩
theorem nx_uniq {ns : List Int} (hp : ∀ x ∈ ns, 1 ≤ x) {a b : Nat} (h : a < b) (hb : b ≤ ns.length) (h1 : b = a + 1 ∨ ext ns a (b - 1) ≤ w) (h2 : b < ns.length → w < ext ns a b) : nx ns w a = b := by
  obtain ⟨n1, n2, n3, n4⟩ := nx_spec (w := w) (show a < ns.length by omega)
  by_cases c : nx ns w a < b
  · have e1 := n4 (by omega)
    have e2 := ext_mono_r hp (i := a) (j := nx ns w a) (by omega) (b - 1) (by omega) (by omega)
    rcases h1 with h1 | h1
    · omega
    · omega
  · by_cases c2 : b < nx ns w a
    · have := n3 b h c2
      have := h2 (by omega)
      omega
    · omega
end
end DL
end
section
namespace DL
open PySem
end DL
end
section
namespace DL
open PySem
section
variable {w : Int}
theorem nx_appR {as bs : List Int} (hp : ∀ x ∈ as ++ bs, 1 ≤ x) {i : Nat} (h : i < bs.length) : nx (as ++ bs) w (as.length + i) = as.length + nx bs w i := by
  obtain ⟨n1, n2, n3, n4⟩ := nx_spec (w := w) h
  refine nx_uniq hp (by omega) (by rw [List.length_append]; omega) ?_ fun z => by
    rw [List.length_append] at z
    rw [ext_appR]
    exact n4 (by omega)
  by_cases e : nx bs w i = i + 1
  · exact .inl (by omega)
  · refine .inr ?_
    rw [show as.length + nx bs w i - 1 = as.length + (nx bs w i - 1) by omega, ext_appR]
    exact n3 _ (by omega) (by omega)
variable {ns : List Int}
theorem gr_drop (hp : ∀ x ∈ ns, 1 ≤ x) (k : Nat) (hk : gr ns w k < ns.length) : ∀ j, gr ns w k + gr (ns.drop (gr ns w k)) w j = gr ns w (k + j)
  | 0 => rfl
  | j + 1 => by
    have ih := gr_drop hp k hk j
    have l1 : (ns.drop (gr ns w k)).length = ns.length - gr ns w k := List.length_drop
    have e : ns.take (gr ns w k) ++ ns.drop (gr ns w k) = ns := List.take_append_drop _ _
    have l2 : (ns.take (gr ns w k)).length = gr ns w k := by rw [List.length_take]; omega
    by_cases c : gr (ns.drop (gr ns w k)) w j < (ns.drop (gr ns w k)).length
    · rw [gr_step c, ← Nat.add_assoc, gr_step (by omega), ← ih]
      have := nx_appR (w := w) (as := ns.take (gr ns w k)) (bs := ns.drop (gr ns w k)) (by rw [e]; exact hp) c
      rw [e, l2] at this
      exact this.symm
    · have a1 := gr_le (ns := ns.drop (gr ns w k)) (w := w) (j + 1)
      have a2 := gr_mono (ns := ns.drop (gr ns w k)) (w := w) (show j ≤ j + 1 by omega)
      have b1 := gr_le (ns := ns) (w := w) (k + (j + 1))
      have b2 := gr_mono (ns := ns) (w := w) (show k + j ≤ k + (j + 1) by omega)
      omega
theorem many_drop (hp : ∀ x ∈ ns, 1 ≤ x) (h1 : 0 < ns.length) {k : Nat} (hk : k < many ns w) : many (ns.drop (gr ns w k)) w = many ns w - k := by
  have hg := gr_in (w := w) h1 hk
  have l1 : (ns.drop (gr ns w k)).length = ns.length - gr ns w k := List.length_drop
  have iff : ∀ j, j < many (ns.drop (gr ns w k)) w ↔ k + j < many ns w := fun j => by
    rw [← gr_in_iff (by omega), ← gr_in_iff h1, ← gr_drop hp k hg j]
    omega
  have i1 := iff (many ns w - k)
  have i2 := iff (many (ns.drop (gr ns w k)) w)
  omega
theorem starts_ix (h1 : 0 < ns.length) {k : Nat} (hk : k < many ns w) : (starts ns w)[k]? = some (gr ns w k) := by
  rw [starts_gr h1, List.getElem?_map, List.getElem?_range hk]
  rfl
theorem starts_drop (hp : ∀ x ∈ ns, 1 ≤ x) (h1 : 0 < ns.length) {k : Nat} (hk : k < many ns w) : starts (ns.drop (gr ns w k)) w = ((starts ns w).drop k).map (· - gr ns w k) := by
  have hg := gr_in (w := w) h1 hk
  have l1 : (ns.drop (gr ns w k)).length = ns.length - gr ns w k := List.length_drop
  have hm := many_drop hp h1 hk
  refine List.ext_getElem? fun i => ?_
  rw [List.getElem?_map, List.getElem?_drop]
  by_cases c : i < many (ns.drop (gr ns w k)) w
  · rw [starts_ix (by omega) c, starts_ix h1 (by omega)]
    have := gr_drop (w := w) hp k hg i
    show some _ = some (gr ns w (k + i) - gr ns w k)
    congr 1
    omega
  · rw [List.getElem?_eq_none (by unfold many at c; omega), List.getElem?_eq_none (by unfold many at *; omega)]
    rfl
theorem parts_drop {e : Nat} : ∀ (k : Nat) (l : List Nat), (parts ns l e).drop k = parts ns (l.drop k) e
  | 0, l => rfl
  | k + 1, [] => by simp [parts]
  | k + 1, [a] => by simp [parts]
  | k + 1, a :: b :: r => parts_drop k (b :: r)
theorem parts_off {a e : Nat} (he : a ≤ e) : ∀ l : List Nat, (∀ x ∈ l, a ≤ x) → parts (ns.drop a) (l.map (· - a)) (e - a) = parts ns l e := by
  have one : ∀ x y : Nat, a ≤ x → a ≤ y → part (ns.drop a) (x - a) (y - a) = part ns x y := fun x y h1 h2 => by
    unfold part cutN
    rw [List.drop_drop, show a + (x - a) = x by omega, show y - a - (x - a) = y - x by omega]
  intro l
  induction l with
  | nil => intro _; rfl
  | cons x r ih =>
    intro h
    cases r with
    | nil => exact congrArg (fun x => [x]) (one x _ (h x (.head _)) he)
    | cons y r =>
      show part (ns.drop a) (x - a) (y - a) :: _ = part ns x y :: _
      rw [one x y (h x (.head _)) (h y (.tail _ (.head _)))]
      exact congrArg _ (ih fun c hc => h c (.tail _ hc))
theorem lines_drop (hp : ∀ x ∈ ns, 1 ≤ x) (h1 : 0 < ns.length) {k : Nat} (hk : k < many ns w) : parts (ns.drop (gr ns w k)) (starts (ns.drop (gr ns w k)) w) (ns.drop (gr ns w k)).length = (parts ns (starts ns w) ns.length).drop k := by
  have hg := gr_in (w := w) h1 hk
  rw [starts_drop hp h1 hk, List.length_drop, parts_off (Nat.le_of_lt hg), parts_drop]
  intro x hx
  obtain ⟨i, hi⟩ := List.mem_iff_getElem?.mp hx
  rw [List.getElem?_drop] at hi
  have := (DL.starts_at h1 hi).1
  have := gr_mono (ns := ns) (w := w) (show k ≤ k + i by omega)
  omega
theorem line_ix {e : Nat} : ∀ {l : List Nat} {k a : Nat}, l[k]? = some a → (parts ns l e)[k]? = some (part ns a ((l[k + 1]?).getD e))
  | [], k, a, h => by simp at h
  | [x], k, a, h => by
    match k, h with
    | 0, h => cases h; rfl
    | k + 1, h => simp at h
  | x :: y :: r, k, a, h => by
    match k, h with
    | 0, h => cases h; rfl
    | k + 1, h => exact line_ix (l := y :: r) h
theorem line_at (h1 : 0 < ns.length) {k : Nat} (hk : k < many ns w) : (parts ns (starts ns w) ns.length)[k]? = some (part ns (gr ns w k) (gr ns w (k + 1))) := by
  rw [line_ix (starts_ix h1 hk)]
  by_cases c : k + 1 < many ns w
  · rw [starts_ix h1 c]; rfl
  · rw [List.getElem?_eq_none (by unfold many at c; omega), show k + 1 = many ns w by omega, gr_end h1]
    rfl
theorem alone_line (hp : ∀ x ∈ ns, 1 ≤ x) (hw : ∀ x ∈ ns, x ≤ w) (h1 : 0 < ns.length) : many ns w = 1 ↔ ext ns 0 (ns.length - 1) ≤ w := by
  have e1 : gr ns w 1 = nx ns w 0 := gr_step (k := 0) h1
  have m1 := many_pos (ns := ns) (w := w)
  obtain ⟨n1, n2, n3, n4⟩ := nx_spec (w := w) h1
  constructor
  · intro h
    have := gr_end (w := w) h1
    rw [h, e1] at this
    by_cases c : ns.length = 1
    · have := ext_one h1
      rw [show ns.length - 1 = 0 by omega, this]
      exact hw _ (List.getElem_mem h1)
    · exact n3 _ (by omega) (by omega)
  · intro h
    have := nx_uniq (w := w) hp h1 (Nat.le_refl _) (.inr h) (fun z => absurd z (Nat.lt_irrefl _))
    have g := gr_in_iff (w := w) h1 (k := 1)
    omega
end
end DL
end
section
namespace DL
open PySem
/-- the first starts of a breaking -/
structure Pre (ns : List Int) (w : Int) (l : List Nat) : Prop where
  ne : l ≠ []
  zero : l[0]? = some 0
  lt : ∀ a ∈ l, a < ns.length
  len : ∀ (k a : Nat), l[k]? = some a → k ≤ a
  fit : ∀ (k a b : Nat), l[k]? = some a → l[k + 1]? = some b → a < b ∧ ext ns a (b - 1) ≤ w
section
variable {ns : List Int} {w : Int}
theorem Pre.push {l : List Nat} {a e : Nat} (h : Pre ns w (l ++ [a])) (h1 : a < e) (h2 : e < ns.length) (h3 : ext ns a (e - 1) ≤ w) : Pre ns w (l ++ [a] ++ [e]) := by
  have ha : (l ++ [a])[l.length]? = some a := by simp
  have hl := h.len _ _ ha
  refine ⟨by simp, ?_, ?_, ?_, ?_⟩
  · rw [List.getElem?_append_left (by simp)]; exact h.zero
  · intro x hx
    rcases List.mem_append.mp hx with z | z
    · exact h.lt x z
    · rw [List.mem_singleton] at z; omega
  · intro k x hx
    by_cases c : k < (l ++ [a]).length
    · rw [List.getElem?_append_left c] at hx; exact h.len _ _ hx
    · have hk := (List.getElem?_eq_some_iff.mp hx).1
      rw [List.length_append, List.length_singleton] at hk
      have : k = (l ++ [a]).length := by omega
      subst this
      simp at hx
      simp
      omega
  · intro k x y hx hy
    by_cases c : k + 1 < (l ++ [a]).length
    · rw [List.getElem?_append_left (by omega)] at hx
      rw [List.getElem?_append_left c] at hy
      exact h.fit _ _ _ hx hy
    · have hk := (List.getElem?_eq_some_iff.mp hy).1
      rw [List.length_append, List.length_singleton] at hk
      have e1 : k + 1 = (l ++ [a]).length := by omega
      rw [List.getElem?_append_left (by omega)] at hx
      have e2 : k = l.length := by rw [List.length_append, List.length_singleton] at e1; omega
      subst e2
      rw [ha] at hx
      rw [e1] at hy
      simp at hy
      cases hx
      subst hy
      exact ⟨h1, h3⟩
theorem Pre.brk {l : List Nat} {a : Nat} (h : Pre ns w (l ++ [a])) (h3 : ext ns a (ns.length - 1) ≤ w) : Brk ns w (l ++ [a]) := by
  have ha : (l ++ [a])[l.length]? = some a := by simp
  refine .of h.zero h.lt fun k x y hx hy => ?_
  rcases hy with hy | ⟨hy, rfl⟩
  · exact h.fit _ _ _ hx hy
  · rw [List.length_append, List.length_singleton] at hy
    have : k = l.length := by omega
    subst this
    rw [ha] at hx
    cases hx
    exact ⟨h.lt a (by simp), h3⟩
end
end DL
end
section
namespace DL
open PySem
section
variable {ns : List Int} {w : Int}
theorem Brk.wide {v : Int} {l : List Nat} (h : Brk ns w l) (hv : w ≤ v) : Brk ns v l := by
  refine .of h.zero h.lt fun k a b h1 h2 => ?_
  rcases h2 with h2 | ⟨h2, rfl⟩
  · have := h.mid h1 h2
    exact ⟨this.1, by omega⟩
  · have := h.last h1 h2
    exact ⟨this.1, by omega⟩
theorem Brk.ixs {l : List Nat} (h : Brk ns w l) : ∀ (k a : Nat), l[k]? = some a → k ≤ a
  | 0, _, _ => Nat.zero_le _
  | k + 1, b, hb => by
    have hk := (List.getElem?_eq_some_iff.mp hb).1
    have ha := List.getElem?_eq_getElem (l := l) (show k < l.length by omega)
    have := h.ixs k _ ha
    have := h.mid ha hb
    omega
theorem Brk.few {l : List Nat} (h : Brk ns w l) : l.length ≤ ns.length := by
  have l0 := h.len
  have ha := List.getElem?_eq_getElem (l := l) (show l.length - 1 < l.length by omega)
  have := h.ixs _ _ ha
  have := h.lt _ (List.mem_of_getElem? ha)
  omega
end
end DL
end
section
namespace DL
open PySem
theorem many_mono {ns : List Int} {v w : Int} (hp : ∀ x ∈ ns, 1 ≤ x) (h1 : 0 < ns.length) (hv : ∀ x ∈ ns, x ≤ v) (h : v ≤ w) : many ns w ≤ many ns v := ((brk_starts h1 hv).wide h).many hp h1
end DL
end
section
namespace DL
open PySem
def isI (i : Int) : D → Bool
  | .int v => decide (v = i)
  | _ => false
end DL
end
section
namespace DL
open PySem
section
variable {ns : List Int} {m : Int} {c k : Nat}
theorem Least.iff (h : Least ns m c k) (hp : ∀ x ∈ ns, 1 ≤ x) (h1 : 0 < ns.length) (hm : ∀ x ∈ ns, x ≤ m) {v : Int} (hv : m ≤ v) : many ns v ≤ c ↔ m + k ≤ v := by
  constructor
  · intro hc
    by_cases g : m + (k : Int) ≤ v
    · exact g
    · have := h.first (v - m).toNat (by omega)
      rw [show m + ((v - m).toNat : Int) = v by omega] at this
      unfold many at hc
      omega
  · intro g
    have a := many_mono (v := m + k) hp h1 (fun x hx => by have := hm x hx; omega) g
    have b := h.fits
    unfold many at *
    omega
theorem Least.zero (h : Least ns m c k) (hp : ∀ x ∈ ns, 1 ≤ x) (h1 : 0 < ns.length) (hm : ∀ x ∈ ns, x ≤ m) (hc : ns.length ≤ c) : k = 0 := by
  have := (brk_starts (w := m) h1 hm).few
  have := (h.iff hp h1 hm (v := m) (Int.le_refl _)).mp (by unfold many; omega)
  omega
theorem Least.one (h : Least ns m 1 k) (hp : ∀ x ∈ ns, 1 ≤ x) (h1 : 0 < ns.length) (hm : ∀ x ∈ ns, x ≤ m) (hin : m ∈ ns) : m + k = ext ns 0 (ns.length - 1) := by
  have al : ∀ v, m ≤ v → (many ns v ≤ 1 ↔ ext ns 0 (ns.length - 1) ≤ v) := fun v hv => by
    rw [← alone_line hp (fun x hx => Int.le_trans (hm x hx) hv) h1]
    have := many_pos (ns := ns) (w := v)
    omega
  have a := (al (m + k) (by omega)).mp ((h.iff hp h1 hm (by omega)).mpr (Int.le_refl _))
  obtain ⟨i, hi, e⟩ := List.getElem_of_mem hin
  have e1 := ext_one hi
  have e2 := ext_mono_r hp (i := i) (j := i) (Nat.le_refl _) (ns.length - 1) (by omega) (by omega)
  have e3 := ext_mono_l hp (j := ns.length - 1) (by omega) i 0 (by omega)
  rw [Nat.zero_add] at e3
  have b := (h.iff hp h1 hm (v := ext ns 0 (ns.length - 1)) (by omega)).mp ((al _ (by omega)).mpr (Int.le_refl _))
  omega
theorem Bar.take {w : Int} {l : List Nat} (h : Bar ns w l) {j : Nat} (hj : 1 ≤ j) : Bar ns w (l.take j) := by
  refine .of (fun z => ?_) (fun a ha => h.lt a (List.mem_of_mem_take ha)) fun i a b ha hb => ?_
  · have := congrArg List.length z
    rw [List.length_take, List.length_nil] at this
    have := List.length_pos_iff.mpr h.ne
    omega
  · rw [List.getElem?_take] at ha hb
    split at ha
    · split at hb
      · have := h.step ha hb
        exact ⟨this.1, this.2.2⟩
      · cases hb
    · cases ha
end
end DL
end
section
namespace DL
open PySem
theorem ne_self {d : D} (h : SeqAt.shaped d = true) (he : PyData.eqv d d = true) : opCmp .ne d d = ret false := by
  show bnd (opEq _ _) _ = _
  unfold opEq
  rw [grd_pos (eqOk_of h h), he]
  rfl
theorem idx_lastT (xs : List D) (x : D) : opIdx (.tuple (xs ++ [x])) (.int (-1)) = ret x := by
  show (match L2.atI (xs ++ [x]) (-1) with | some d => ret d | none => stuck) = _
  rw [atI_last]
end DL
end
section
namespace DL
open PySem
structure RowM (ns : List Int) (m : Int) : Prop where
  pos : 0 < ns.length
  few : ns.length ≤ 24
  rng : ∀ x ∈ ns, 1 ≤ x ∧ x ≤ 60
  mx : ∀ x ∈ ns, x ≤ m
  mem : m ∈ ns
theorem RowM.m1 {ns : List Int} {m : Int} (h : RowM ns m) : 1 ≤ m ∧ m ≤ 60 := h.rng m h.mem
theorem RowM.sum {ns : List Int} {m : Int} (h : RowM ns m) : 0 ≤ ns.sum ∧ ns.sum ≤ 1440 := by
  have sb := sum_part (i := 0) (k := 24) h.rng h.few
  rwa [List.drop_zero, List.take_of_length_le h.few] at sb
end DL
end
section
namespace DL
open PySem
section
variable {ns bs : List Int} {m l : Int}
theorem RowM.max (R : RowM ns m) : bi1 .max (.tuple (ns.map PyData.int)) = ret (.int m) := by
  obtain ⟨k, e, hk⟩ := max_ints R.pos
  have h1 := R.mx k hk
  have h2 := long_all (max_long e (Int.le_refl k)) m R.mem
  rw [e, show k = m by omega]
end
theorem RowN.ex {ns : List Int} (h : RowN ns) : ∃ m, RowM ns m := by
  obtain ⟨m, e, hm⟩ := max_ints (ns := ns) (by have := h.one; omega)
  exact ⟨m, by have := h.one; omega, h.most, h.words, long_all (max_long e (Int.le_refl m)), hm⟩
end DL
end
section
namespace DL
open PySem
/-- word i of the row without an end -/
def aw (ns : List Int) (i : Nat) : Int := ns.getD (i % ns.length) 0
/-- how wide the m words from p on are -/
def us (ns : List Int) (p : Nat) : Nat → Int
  | 0 => -1
  | m + 1 => us ns p m + 1 + aw ns (p + m)
def wfF (ns : List Int) (w : Int) (p : Nat) : Nat → Nat → Nat
  | 0, m => m
  | f + 1, m => if us ns p (m + 1) ≤ w then wfF ns w p f (m + 1) else m
/-- how many words the line from p on takes -/
def wf (ns : List Int) (w : Int) (p : Nat) : Nat := wfF ns w p 1001 0
/-- where line k starts -/
def fs (ns : List Int) (w : Int) : Nat → Nat
  | 0 => 0
  | k + 1 => fs ns w k + wf ns w (fs ns w k)
/-- a row at a width that it fits -/
structure RowW (ns : List Int) (w : Int) : Prop where
  row : RowN ns
  fit : ∀ x ∈ ns, x ≤ w
  top : w ≤ 2000
section
variable {ns : List Int} {w : Int}
theorem RowW.pos (R : RowW ns w) : 0 < ns.length := by have := R.row.one; omega
theorem aw_mem (h : 0 < ns.length) (i : Nat) : aw ns i ∈ ns := by
  have hl := Nat.mod_lt i h
  unfold aw
  rw [List.getD_eq_getElem?_getD, List.getElem?_eq_getElem hl]
  exact List.getElem_mem hl
theorem RowW.aw (R : RowW ns w) (i : Nat) : 1 ≤ aw ns i ∧ DL.aw ns i ≤ 60 ∧ DL.aw ns i ≤ w :=
  have h := aw_mem R.pos i
  ⟨(R.row.words _ h).1, (R.row.words _ h).2, R.fit _ h⟩
theorem aw_mod (i j : Nat) (h : i % ns.length = j % ns.length) : aw ns i = aw ns j := by
  unfold aw
  rw [h]
theorem us_mod {p q : Nat} (h : p % ns.length = q % ns.length) : ∀ m, us ns p m = us ns q m
  | 0 => rfl
  | m + 1 => by
    unfold us
    rw [us_mod h m, aw_mod (p + m) (q + m) (by rw [Nat.add_mod, h, ← Nat.add_mod])]
theorem wfF_mod {p q : Nat} (h : p % ns.length = q % ns.length) : ∀ f m, wfF ns w p f m = wfF ns w q f m
  | 0, m => rfl
  | f + 1, m => by
    unfold wfF
    rw [us_mod h, wfF_mod h f (m + 1)]
theorem wf_mod {p q : Nat} (h : p % ns.length = q % ns.length) : wf ns w p = wf ns w q := wfF_mod h _ _
theorem us_low (R : RowW ns w) (p : Nat) : ∀ m : Nat, 2 * (m : Int) - 1 ≤ us ns p m
  | 0 => Int.le_refl _
  | m + 1 => by
    have h := us_low R p m
    have := (R.aw (p + m)).1
    unfold us
    omega
theorem wfF_spec (R : RowW ns w) (p : Nat) : ∀ f m, 1001 ≤ m + f → us ns p m ≤ w → us ns p (wfF ns w p f m) ≤ w ∧ w < us ns p (wfF ns w p f m + 1)
  | 0, m, hf, h => by
    have := us_low R p m
    have := R.top
    omega
  | f + 1, m, hf, h => by
    unfold wfF
    by_cases c : us ns p (m + 1) ≤ w
    · rw [if_pos c]
      exact wfF_spec R p f (m + 1) (by omega) c
    · rw [if_neg c]
      exact ⟨h, by omega⟩
theorem wf_spec (R : RowW ns w) (p : Nat) : us ns p (wf ns w p) ≤ w ∧ w < us ns p (wf ns w p + 1) := by
  refine wfF_spec R p 1001 0 (by omega) ?_
  have := R.aw 0
  show (-1 : Int) ≤ w
  omega
theorem wf_pos (R : RowW ns w) (p : Nat) : 1 ≤ wf ns w p := by
  by_cases c : wf ns w p = 0
  · have h := (wf_spec R p).2
    rw [c] at h
    have := R.aw (p + 0)
    unfold us us at h
    omega
  · omega
theorem fs_lt (R : RowW ns w) (k : Nat) : fs ns w k < fs ns w (k + 1) := by
  have := wf_pos R (fs ns w k)
  show fs ns w k < fs ns w k + _
  omega
theorem fs_mono (R : RowW ns w) {j : Nat} : ∀ {k : Nat}, j ≤ k → fs ns w j + (k - j) ≤ fs ns w k
  | 0, h => by
    have : j = 0 := by omega
    subst this
    exact Nat.le_refl _
  | k + 1, h => by
    by_cases c : j = k + 1
    · subst c
      omega
    · have := fs_mono R (k := k) (j := j) (by omega)
      have := fs_lt R k
      omega
theorem fs_lt' (R : RowW ns w) {j k : Nat} (h : j < k) : fs ns w j < fs ns w k := by have := fs_mono R (Nat.le_of_lt h); omega
theorem fs_ge (R : RowW ns w) (k : Nat) : k ≤ fs ns w k := by
  have := fs_mono R (Nat.zero_le k)
  omega
/-- from equal places on the lines go alike -/
theorem fs_round {i j : Nat} (hij : i ≤ j) (h : fs ns w i % ns.length = fs ns w j % ns.length) (hm : fs ns w i ≤ fs ns w j) : ∀ k, fs ns w (j + k) = fs ns w (i + k) + (fs ns w j - fs ns w i)
  | 0 => by simp only [Nat.add_zero]; omega
  | k + 1 => by
    have ih := fs_round hij h hm k
    have e : wf ns w (fs ns w (j + k)) = wf ns w (fs ns w (i + k)) := wf_mod (by
      rw [ih]
      have d : (fs ns w j - fs ns w i) % ns.length = 0 := Nat.sub_mod_eq_zero_of_mod_eq h.symm
      rw [Nat.add_mod, d, Nat.add_zero, Nat.mod_mod])
    show fs ns w (j + k) + wf ns w (fs ns w (j + k)) = fs ns w (i + k) + wf ns w (fs ns w (i + k)) + _
    rw [e, ih]
    omega
/-- the round: the first start that comes again within the row is b, first at line K -/
structure Rnd (ns : List Int) (w : Int) (b K : Nat) : Prop where
  lt : b < K
  same : fs ns w b % ns.length = fs ns w K % ns.length
  ne : ∀ i j, i < j → j < K → fs ns w i % ns.length ≠ fs ns w j % ns.length
theorem pigeon : ∀ (n : Nat) (f : Nat → Nat), (∀ i, i ≤ n → f i < n) → ∃ i j, i < j ∧ j ≤ n ∧ f i = f j
  | 0, f, h => absurd (h 0 (Nat.le_refl _)) (by omega)
  | n + 1, f, h => by
    by_cases c : ∃ i, i ≤ n ∧ f i = f (n + 1)
    · obtain ⟨i, h1, h2⟩ := c
      exact ⟨i, n + 1, by omega, Nat.le_refl _, h2⟩
    · have c : ∀ i, i ≤ n → f i ≠ f (n + 1) := fun i hi e => c ⟨i, hi, e⟩
      have hv := h (n + 1) (Nat.le_refl _)
      obtain ⟨i, j, h1, h2, h3⟩ := pigeon n (fun i => if f i > f (n + 1) then f i - 1 else f i) fun i hi => by
        have a := h i (by omega)
        have b := c i hi
        show (if f i > f (n + 1) then f i - 1 else f i) < n
        split <;> omega
      refine ⟨i, j, h1, by omega, ?_⟩
      have a := c i (by omega)
      have b := c j h2
      have h3 : (if f i > f (n + 1) then f i - 1 else f i) = (if f j > f (n + 1) then f j - 1 else f j) := h3
      split at h3 <;> split at h3 <;> omega
theorem Rnd.ex (R : RowW ns w) : ∃ b K, Rnd ns w b K ∧ K ≤ ns.length := by
  have step : ∀ k : Nat, (∃ b K, Rnd ns w b K ∧ K < k) ∨ ∀ i j, i < j → j < k → fs ns w i % ns.length ≠ fs ns w j % ns.length := by
    intro k
    induction k with
    | zero => exact .inr fun i j _ h => by omega
    | succ k ih =>
      rcases ih with ⟨b, K, h1, h2⟩ | ih
      · exact .inl ⟨b, K, h1, by omega⟩
      · by_cases c : ∃ i, i < k ∧ fs ns w i % ns.length = fs ns w k % ns.length
        · obtain ⟨i, h1, h2⟩ := c
          exact .inl ⟨i, k, ⟨h1, h2, ih⟩, by omega⟩
        · refine .inr fun i j hij hj => ?_
          by_cases c2 : j = k
          · rw [c2]
            exact fun e => c ⟨i, by omega, e⟩
          · exact ih i j hij (by omega)
  rcases step (ns.length + 1) with ⟨b, K, h1, h2⟩ | h
  · exact ⟨b, K, h1, by omega⟩
  · obtain ⟨i, j, h1, h2, h3⟩ := pigeon ns.length (fun i => fs ns w i % ns.length) fun i _ => Nat.mod_lt _ R.pos
    exact absurd h3 (h i j h1 (by omega))
variable {b K : Nat}
/-- so many words a round has -/
def rw' (ns : List Int) (w : Int) (b K : Nat) : Nat := fs ns w K - fs ns w b
theorem Rnd.next (R : RowW ns w) (r : Rnd ns w b K) {k : Nat} (h : b ≤ k) : fs ns w (k + (K - b)) = fs ns w k + rw' ns w b K := by
  have lt := fs_lt' R r.lt
  have := r.lt
  have e := fs_round (Nat.le_of_lt r.lt) r.same (Nat.le_of_lt lt) (k - b)
  rw [show K + (k - b) = k + (K - b) by omega, show b + (k - b) = k by omega] at e
  exact e
/-- n lines start before q -/
structure Bel (ns : List Int) (w : Int) (q n : Nat) : Prop where
  lo : ∀ k, k < n → fs ns w k < q
  hi : q ≤ fs ns w n
theorem Bel.ex (R : RowW ns w) (q : Nat) : ∃ n, Bel ns w q n ∧ n ≤ q := by
  have step : ∀ k : Nat, (∃ n, Bel ns w q n ∧ n ≤ k) ∨ ∀ i, i ≤ k → fs ns w i < q := by
    intro k
    induction k with
    | zero =>
      by_cases c : fs ns w 0 < q
      · exact .inr fun i hi => by rw [show i = 0 by omega]; exact c
      · exact .inl ⟨0, ⟨fun k h => by omega, by omega⟩, Nat.le_refl _⟩
    | succ k ih =>
      rcases ih with ⟨n, h1, h2⟩ | ih
      · exact .inl ⟨n, h1, by omega⟩
      · by_cases c : fs ns w (k + 1) < q
        · refine .inr fun i hi => ?_
          by_cases c2 : i = k + 1
          · rw [c2]; exact c
          · exact ih i (by omega)
        · exact .inl ⟨k + 1, ⟨fun i hi => ih i (by omega), by omega⟩, Nat.le_refl _⟩
  rcases step q with h | h
  · exact h
  · have := h q (Nat.le_refl _)
    have := fs_ge R q
    omega
theorem Bel.iff (R : RowW ns w) {q n : Nat} (h : Bel ns w q n) {k : Nat} : fs ns w k < q ↔ k < n := by
  constructor
  · intro a
    by_cases c : k < n
    · exact c
    · have := fs_mono R (j := n) (k := k) (by omega)
      have := h.hi
      omega
  · exact h.lo k
theorem Bel.mono (R : RowW ns w) {q p n m : Nat} (h : Bel ns w q n) (g : Bel ns w p m) (hq : q ≤ p) : n ≤ m := by
  by_cases c : n ≤ m
  · exact c
  · have := h.lo m (by omega)
    have := g.hi
    omega
theorem Bel.pos (R : RowW ns w) {q n : Nat} (h : Bel ns w q n) (hq : 0 < q) : 1 ≤ n := by
  have := (h.iff R (k := 0)).mp (by show 0 < q; exact hq)
  omega
end
end DL
end
section
namespace DL
open PySem
/-- a while that draws nothing and returns from within -/
inductive RunsR (t : XT) (s : XS) : Nat → Env → D → Prop
  | last {E : Env} {d : D} : t E = ret true → s E = ret (.rt d) → RunsR t s 0 E d
  | turn {k : Nat} {E E' : Env} {d : D} : t E = ret true → s E = ret (.nx E') → RunsR t s k E' d → RunsR t s (k + 1) E d
theorem RunsR.at_ {t : XT} {s : XS} : ∀ {k : Nat} {E : Env} {d : D}, RunsR t s k E d → ∀ n, whileL t s n E = if k < n then ret (.rt d) else stuck
  | _, _, _, _, 0 => by simp [whileL]
  | _, E, _, .last h h2, n + 1 => by
    show bnd (t E) _ = _
    rw [h, bnd_ret, if_pos rfl, h2, bnd_ret, if_pos (Nat.succ_pos n)]
  | _, E, _, .turn (k := k) (E' := E') h1 h2 r, n + 1 => by
    show bnd (t E) _ = _
    rw [h1, bnd_ret, if_pos rfl, h2, bnd_ret]
    show whileL t s n E' = _
    rw [RunsR.at_ r n]
    by_cases h : k < n
    · rw [if_pos h, if_pos (by omega)]
    · rw [if_neg h, if_neg (by omega)]
theorem RunsR.eq {t : XT} {s : XS} {k : Nat} {E : Env} {d : D} (r : RunsR t s k E d) : sWhile t s E = ret (.rt d) := by
  funext c P X
  show (∃ n, whileL t s n E c P X) = _
  refine propext ⟨fun ⟨n, h⟩ => ?_, fun h => ⟨k + 1, ?_⟩⟩
  · rw [r.at_ n] at h
    split at h
    · exact h
    · exact h.elim
  · rw [r.at_ (k + 1), if_pos (Nat.lt_succ_self k)]
    exact h
end DL
end
section
namespace DL
open PySem
section
variable {ns : List Int} {w : Int} {b K : Nat}
theorem ints_nats (l : List Nat) : ints? (natsD l) = some (l.map fun n : Nat => (n : Int)) := by
  rw [natsD_ints]
  exact ints?_map _
end
end DL
end
section
namespace DL
open PySem
section
variable {ns : List Int} {w : Int}
theorem RowW.long (R : RowW ns w) : Long ns w none := .no fun j x hx => R.fit x (List.mem_of_getElem? hx)
theorem RowW.of (r : RowN ns) (h : Long ns w none) (hw : w ≤ 2000) : RowW ns w := ⟨r, long_all h, hw⟩
/-- where the line k lines behind p starts -/
def fp (ns : List Int) (w : Int) (p : Nat) : Nat → Nat
  | 0 => p
  | k + 1 => fp ns w p k + wf ns w (fp ns w p k)
def ad (ns : List Int) (w : Int) (p k : Nat) : Nat := fp ns w p k - p
end
end DL
end
section
namespace DL
open PySem
end DL
end
section
namespace DL
open PySem
end DL
end
section
namespace DL
open PySem
end DL
end
section
namespace DL
open PySem
end DL
end
section
namespace DL
open PySem
end DL
end
section
namespace DL
open PySem
def wr (ns : List Int) : D := wD (.tuple (ns.map PyData.int))
theorem x_held (a : XE) (E : Env) : eHeld a E = bnd (a E) heldOf := id rfl
theorem held_wr (ns : List Int) : heldOf (wr ns) = ret (.tuple (ns.map PyData.int)) := id rfl
def repI (k : Int) (a : List Int) : List Int := (List.replicate k.toNat a).flatten
theorem repI_len (k : Int) (a : List Int) : (repI k a).length = k.toNat * a.length := by
  unfold repI
  rw [List.length_flatten, List.map_replicate, List.sum_replicate_nat]
theorem repI_mem {k : Int} {a : List Int} {x : Int} (h : x ∈ repI k a) : x ∈ a := by
  unfold repI at h
  obtain ⟨l, hl, hx⟩ := List.mem_flatten.mp h
  rw [(List.mem_replicate.mp hl).2] at hx
  exact hx
theorem RowN.rep {k : Int} {a : List Int} (h : RowN a) (hk : 1 ≤ k) (hm : k * a.length ≤ 24) : RowN (repI k a) := by
  have e := repI_len k a
  have e2 : ((k.toNat * a.length : Nat) : Int) = k * a.length := by
    rw [Int.natCast_mul, Int.toNat_of_nonneg (by omega)]
  refine ⟨?_, by omega, fun x hx => h.words x (repI_mem hx)⟩
  rw [e]
  exact Nat.mul_pos (by omega) h.one
theorem check_width_d {d : D} (h : noXn d = true) : w_check_width_0 [d] = if intIn 1 2000 d = true then ret .none else thr (xV "NoWidth" d) := by
  refine (f_fn (by rfl)).trans ?_
  simp only [x_var, x_con, x_bin, x_neg, x_cmp, x_chain, x_tTru, x_tNot, x_tAnd, x_tOr, x_tBool, x_tYes, x_not, x_and, x_or, x_if, x_b1, x_b2, x_is, x_idx, x_oNone, x_oSome, x_cut, x_aNil, x_aCons, x_tup, x_lst, x_call, x_callS,
    x_iSeq, x_iRng1, x_iRng2, x_bor, x_tBor, x_put1, List.map_cons, List.map_nil, List.cons_append, List.nil_append, List.length_cons, List.length_nil, Nat.zero_add, Nat.reduceAdd, Nat.reduceSub, List.reduceReplicate, start,
    List.getElem?_cons_zero, List.getElem?_cons_succ, List.set_cons_zero, List.set_cons_succ, bnd_ret, bnd_assoc, bnd_grd, b1_if, bnd_ite, small, Nat.reduceLeDiff, grd_true, o_add, o_sub, o_neg, o_eq, o_ne, o_lt, o_le, o_gt, o_ge, o_eqS, o_neS,
    decide_eq_true_eq, reduceIte, decide_true, decide_false, Bool.not_true, Bool.not_false, Bool.false_eq_true, itemsOf, asInt, bi2, endOf, isTy,
    grd_tt, nx_int, nx_bool, nx_str, nx_none, nx_tup, nx_lst, x_isC, x_fld, x_in, x_count, x_lstR, x_tupR, x_raise, x_star, bnd_thr, noX_ret, fld_x, exn_d, eSetO, Out.clear, List.zip_cons_cons, List.zip_nil_left, List.zip_nil_right, s_asg, s_par, s_own, s_parO, s_put, s_expr, s_ret, s_skip, s_seq, s_rel, x_asg, x_par, x_own, x_parO, x_put, x_expr, x_ret, x_retN, x_skip, x_rel, x_app, x_setI, x_sIf, x_for, x_brk, x_cnt, is_integer_d h]
  cases intIn 1 2000 d <;> rfl
theorem call_wr {a : List Int} {d : D} (hd : noXn d = true) : w_WR_call_0 [wr a, d] = if intIn 1 2000 d = true then w_starts_at_0 [.tuple (a.map PyData.int), d] else thr (xV "NoWidth" d) := by
  refine (f_fn (by rfl)).trans ?_
  rcases (show intIn 1 2000 d = true ∨ intIn 1 2000 d = false by cases intIn 1 2000 d <;> simp) with z | z
  · simp only [x_var, x_con, x_bin, x_neg, x_cmp, x_chain, x_tTru, x_tNot, x_tAnd, x_tOr, x_tBool, x_tYes, x_not, x_and, x_or, x_if, x_b1, x_b2, x_is, x_idx, x_oNone, x_oSome, x_cut, x_aNil, x_aCons, x_tup, x_lst, x_call, x_callS,
    x_iSeq, x_iRng1, x_iRng2, x_bor, x_tBor, x_put1, List.map_cons, List.map_nil, List.cons_append, List.nil_append, List.length_cons, List.length_nil, Nat.zero_add, Nat.reduceAdd, Nat.reduceSub, List.reduceReplicate, start,
    List.getElem?_cons_zero, List.getElem?_cons_succ, List.set_cons_zero, List.set_cons_succ, bnd_ret, bnd_assoc, bnd_grd, b1_if, bnd_ite, small, Nat.reduceLeDiff, grd_true, o_add, o_sub, o_neg, o_eq, o_ne, o_lt, o_le, o_gt, o_ge, o_eqS, o_neS,
    decide_eq_true_eq, reduceIte, decide_true, decide_false, Bool.not_true, Bool.not_false, Bool.false_eq_true, itemsOf, asInt, bi2, endOf, isTy,
    grd_tt, nx_int, nx_bool, nx_str, nx_none, nx_tup, nx_lst, x_isC, x_fld, x_in, x_count, x_lstR, x_tupR, x_raise, x_star, bnd_thr, noX_ret, fld_x, exn_d, eSetO, Out.clear, List.zip_cons_cons, List.zip_nil_left, List.zip_nil_right, s_asg, s_par, s_own, s_parO, s_put, s_expr, s_ret, s_skip, s_seq, s_rel, x_asg, x_par, x_own, x_parO, x_put, x_expr, x_ret, x_retN, x_skip, x_rel, x_app, x_setI, x_sIf, x_for, x_brk, x_cnt, s_expr, check_width_d hd, z, x_held, held_wr]
    exact bnd_id _
  · simp only [x_var, x_con, x_bin, x_neg, x_cmp, x_chain, x_tTru, x_tNot, x_tAnd, x_tOr, x_tBool, x_tYes, x_not, x_and, x_or, x_if, x_b1, x_b2, x_is, x_idx, x_oNone, x_oSome, x_cut, x_aNil, x_aCons, x_tup, x_lst, x_call, x_callS,
    x_iSeq, x_iRng1, x_iRng2, x_bor, x_tBor, x_put1, List.map_cons, List.map_nil, List.cons_append, List.nil_append, List.length_cons, List.length_nil, Nat.zero_add, Nat.reduceAdd, Nat.reduceSub, List.reduceReplicate, start,
    List.getElem?_cons_zero, List.getElem?_cons_succ, List.set_cons_zero, List.set_cons_succ, bnd_ret, bnd_assoc, bnd_grd, b1_if, bnd_ite, small, Nat.reduceLeDiff, grd_true, o_add, o_sub, o_neg, o_eq, o_ne, o_lt, o_le, o_gt, o_ge, o_eqS, o_neS,
    decide_eq_true_eq, reduceIte, decide_true, decide_false, Bool.not_true, Bool.not_false, Bool.false_eq_true, itemsOf, asInt, bi2, endOf, isTy,
    grd_tt, nx_int, nx_bool, nx_str, nx_none, nx_tup, nx_lst, x_isC, x_fld, x_in, x_count, x_lstR, x_tupR, x_raise, x_star, bnd_thr, noX_ret, fld_x, exn_d, eSetO, Out.clear, List.zip_cons_cons, List.zip_nil_left, List.zip_nil_right, s_asg, s_par, s_own, s_parO, s_put, s_expr, s_ret, s_skip, s_seq, s_rel, x_asg, x_par, x_own, x_parO, x_put, x_expr, x_ret, x_retN, x_skip, x_rel, x_app, x_setI, x_sIf, x_for, x_brk, x_cnt, s_expr, check_width_d hd, z]
theorem o_eqSelf {k : Nat} {d : D} (h : Shp k d) (hk : k ≤ 64) : opCmp .eq d d = ret true := o_eqR (h.ok hk) (SeqAt.eqv_refl d h.lay)
theorem shp_lin (ns : List Int) : Shp 1 (.tuple (ns.map PyData.int)) := shp_tup fun d hd => by
  obtain ⟨x, _, rfl⟩ := List.mem_map.mp hd
  exact shp_int x
end DL
end
section
namespace DL
open PySem
section
variable {E : Env} {n k : Nat} {Q : Out → Prop} {b s : XS}
theorem Ok.par {i j : Nat} {x y : XE} {v w : D} (h : x E = DL.ret v) (h2 : y E = DL.ret w) (z : Ok (b ((E.set i (.val v)).set j (.val w))) n Q) : Ok (sSeq (sPar i j x y) b E) n Q := by
  rw [s_par, h, bnd_ret, h2, bnd_ret]
  exact z
theorem Ok.put {tg : Tg} {e : XE} {d : D} {E1 : Env} (h : e E = DL.ret d) (h2 : tg.put d E = some E1) (z : Ok (b E1) n Q) : Ok (sSeq (sPut tg e) b E) n Q := by
  have e1 : sPut tg e E = DL.ret (Out.nx E1) := by
    unfold sPut
    rw [h, bnd_ret, h2]
  rw [x_seq, e1, bnd_ret]
  exact z
/-- a test that fails -/
theorem Ok.no {t : XT} {a : XS} (h : t E = DL.ret false) (z : Ok (b E) n Q) : Ok (sSeq (sIf t a sSkip) b E) n Q := by
  rw [s_if, h, bnd_ret, if_neg (by decide), s_skip]
  exact z
end
end DL
end
section
namespace DL
open PySem
end DL
end
section
namespace DL
open PySem
end DL
end
section
namespace DL
open PySem
/-- (u, v, m): column v is at most m greater than column u -/
abbrev Bnd := Nat × Nat × Int
abbrev Cols := Nat → Int
def Sol (bs : List Bnd) (y : Cols) : Prop := ∀ b ∈ bs, y b.2.1 ≤ y b.1 + b.2.2
/-- nodes below n; the bounds are between them -/
def In (n : Nat) (bs : List Bnd) : Prop := ∀ b ∈ bs, b.1 < n ∧ b.2.1 < n
end DL
end
section
namespace DL
open PySem
end DL
end
section
namespace DL
open PySem
end DL
end
section
namespace DL
open PySem
end DL
end
section
namespace DL
open PySem
def fb1 (p : Nat) : List Bnd := [(p, p + 1, 61), (p + 1, p, -2)]
def fb2 (w : Int) (p : Nat) : Bnd := (p, p + 1, w + 1)
def fb3 (L : Nat) (w : Int) (e : Nat × Nat) : List Bnd := (e.1, e.2, w + 1) :: if e.2 < L then [(e.2 + 1, e.1, -2 - w)] else []
def fbQ (L : Nat) (q : Int × List Nat) : List Bnd := (List.range L).map (fb2 q.1) ++ (endN L q.2).flatMap (fb3 L q.1)
def bndsOf (L : Nat) (qs : List (Int × List Nat)) : List Bnd := (List.range L).flatMap fb1 ++ qs.flatMap (fbQ L)
end DL
end
section
namespace DL
open PySem
/-- how far the first k words reach, with a space behind each -/
def pre (ns : List Int) (k : Nat) : Int := (ns.take k).sum + k
theorem pre_ext {ns : List Int} {a b : Nat} (h : a < b) : ext ns a (b - 1) = pre ns b - pre ns a - 1 := by
  rw [← ext_sum h]
  unfold pre
  have e : (ns.take b).sum = (ns.take a).sum + ((ns.drop a).take (b - a)).sum := by
    have : ns.take b = ns.take a ++ (ns.drop a).take (b - a) := by
      rw [← List.take_add, Nat.add_sub_cancel' (Nat.le_of_lt h)]
    rw [this, List.sum_append]
  omega
theorem pre_succ {ns : List Int} {k : Nat} (h : k < ns.length) : pre ns (k + 1) = pre ns k + ns[k] + 1 := by
  unfold pre
  rw [List.take_succ_eq_append_getElem h, List.sum_append]
  simp
  omega
/-- looks of a row, as sightings -/
def looks (ns : List Int) (ws : List Int) : List (Int × List Nat) := ws.map fun w => (w, starts ns w)
theorem end_adj {L : Nat} : ∀ {l : List Nat} {e : Nat × Nat}, e ∈ endN L l → e.2 ∈ l ∨ e.2 = L → e.2 < L → e ∈ adjN l
  | [a], e, h, _, lt => by
    have : e = (a, L) := by simpa [endN] using h
    rw [this] at lt
    exact absurd lt (Nat.lt_irrefl _)
  | a :: b :: r, e, h, m, lt => by
    have h' : e ∈ (a, b) :: endN L (b :: r) := h
    rcases List.mem_cons.mp h' with rfl | h'
    · exact .head _
    · exact .tail _ (end_adj h' (end_mem h').2 lt)
/-- a row that was seen keeps the bounds -/
theorem sol_row {ns : List Int} {ws : List Int} (h1 : 0 < ns.length) (hn : ∀ x ∈ ns, 1 ≤ x ∧ x ≤ 60) (hw : ∀ w ∈ ws, ∀ x ∈ ns, x ≤ w) : Sol (bndsOf ns.length (looks ns ws)) fun k => pre ns k - pre ns ns.length := fun b hb => by
  have stp : ∀ p (h : p < ns.length), pre ns (p + 1) = pre ns p + ns[p] + 1 := fun p h => pre_succ h
  show pre ns b.2.1 - pre ns ns.length ≤ pre ns b.1 - pre ns ns.length + b.2.2
  unfold bndsOf at hb
  rcases List.mem_append.mp hb with hb | hb
  · obtain ⟨p, hp, hb⟩ := List.mem_flatMap.mp hb
    have hp := List.mem_range.mp hp
    have s := stp p hp
    have r := hn _ (List.getElem_mem hp)
    simp only [fb1, List.mem_cons, List.not_mem_nil, or_false] at hb
    rcases hb with rfl | rfl
    · show pre ns (p + 1) - _ ≤ pre ns p - _ + 61
      omega
    · show pre ns p - _ ≤ pre ns (p + 1) - _ + -2
      omega
  · obtain ⟨q, hq, hb⟩ := List.mem_flatMap.mp hb
    obtain ⟨w, hww, rfl⟩ := List.mem_map.mp hq
    unfold fbQ at hb
    rcases List.mem_append.mp hb with hb | hb
    · obtain ⟨p, hp, rfl⟩ := List.mem_map.mp hb
      have hp := List.mem_range.mp hp
      have s := stp p hp
      have r := hw w hww _ (List.getElem_mem hp)
      show pre ns (p + 1) - _ ≤ pre ns p - _ + (w + 1)
      omega
    · obtain ⟨e, he, hb⟩ := List.mem_flatMap.mp hb
      have bf := (brk_starts (w := w) h1 (hw w hww)).fits he
      have pe := pre_ext (ns := ns) bf.1
      unfold fb3 at hb
      rcases List.mem_cons.mp hb with rfl | hb
      · show pre ns e.2 - _ ≤ pre ns e.1 - _ + (w + 1)
        omega
      · split at hb
        · rename_i lt
          rw [List.mem_singleton.mp hb]
          have fa := (bar_starts (w := w) h1).fars (end_adj he (end_mem he).2 lt)
          have pe2 := pre_ext (ns := ns) (a := e.1) (b := e.2 + 1) (by omega)
          rw [Nat.add_sub_cancel] at pe2
          show pre ns e.1 - _ ≤ pre ns (e.2 + 1) - _ + (-2 - w)
          omega
        · cases hb
end DL
end
section
namespace DL
open PySem
end DL
end
section
namespace DL
open PySem
end DL
end
section
namespace DL
open PySem
/-- the least and the greatest extent of a stretch in all columns that keep the bounds -/
structure Rng (L : Nat) (qs : List (Int × List Nat)) (a b : Nat) (lo hi : Int) : Prop where
  all : ∀ u : Cols, Sol (bndsOf L qs) u → lo ≤ u (b + 1) - u a - 1 ∧ u (b + 1) - u a - 1 ≤ hi
  low : ∃ u : Cols, Sol (bndsOf L qs) u ∧ u (b + 1) - u a - 1 = lo
  high : ∃ u : Cols, Sol (bndsOf L qs) u ∧ u (b + 1) - u a - 1 = hi
end DL
end
section
namespace DL
open PySem
section
variable {ns ws : List Int} {a b c : Nat} {lo hi : Int}
theorem Rng.row (R : Rng ns.length (looks ns ws) a b lo hi) (h1 : 0 < ns.length) (hn : ∀ x ∈ ns, 1 ≤ x ∧ x ≤ 60) (hw : ∀ w ∈ ws, ∀ x ∈ ns, x ≤ w) (hab : a ≤ b) : lo ≤ ext ns a b ∧ ext ns a b ≤ hi := by
  have h := R.all _ (sol_row h1 hn hw)
  have pe := pre_ext (ns := ns) (a := a) (b := b + 1) (by omega)
  rw [Nat.add_sub_cancel] at pe
  omega
theorem Rng.one (R : Rng ns.length (looks ns ws) a a lo hi) (ha : a < ns.length) : 1 ≤ lo ∧ hi ≤ 60 := by
  have f1 : ∀ u, Sol (bndsOf ns.length (looks ns ws)) u → u (a + 1) ≤ u a + 61 ∧ u a ≤ u (a + 1) - 2 := fun u so => by
    have m : ∀ x ∈ fb1 a, x ∈ bndsOf ns.length (looks ns ws) := fun x hx => List.mem_append.mpr (.inl (List.mem_flatMap.mpr ⟨a, List.mem_range.mpr ha, hx⟩))
    have p : u (a + 1) ≤ u a + 61 := so _ (m (a, a + 1, 61) (.head _))
    have q : u a ≤ u (a + 1) + -2 := so _ (m (a + 1, a, -2) (.tail _ (.head _)))
    omega
  obtain ⟨u, u1, u2⟩ := R.low
  obtain ⟨v, v1, v2⟩ := R.high
  have p := f1 u u1
  have q := f1 v v1
  omega
theorem Rng.parts {lo1 hi1 lo2 hi2 : Int} (R : Rng ns.length (looks ns ws) a b lo hi) (A : Rng ns.length (looks ns ws) a c lo1 hi1) (B : Rng ns.length (looks ns ws) (c + 1) b lo2 hi2) : lo1 + lo2 + 1 ≤ lo ∧ hi ≤ hi1 + hi2 + 1 := by
  obtain ⟨u, u1, u2⟩ := R.low
  obtain ⟨v, v1, v2⟩ := R.high
  have p1 := A.all u u1
  have p2 := B.all u u1
  have q1 := A.all v v1
  have q2 := B.all v v1
  omega
end
end DL
end
section
namespace DL
open PySem
end DL
end
section
namespace DL
open PySem
section
variable {ns : List Int} {m : Int}
theorem Bar.low {v w : Int} {l : List Nat} (h : Bar ns w l) (hv : v ≤ w) : Bar ns v l := by
  refine .of h.ne h.lt fun k a b h1 h2 => ?_
  have := h.fars (adj_at h1 h2)
  exact ⟨this.1, by have := this.2.2; simp at this; omega⟩
end
end DL
end
section
namespace DL
open PySem
def Itm (q : Int × List Int) : Prop := 1 ≤ q.1 ∧ q.1 ≤ 2000 ∧ q.2.length ≤ 30 ∧ ∀ x ∈ q.2, 0 ≤ x ∧ x < 24
theorem set_pair {qs : List (Int × List Int)} {i : Nat} {q : Int × List Int} : (qs.map pairD).set i (pairD q) = (qs.set i q).map pairD := List.map_set.symm
theorem itm_set {qs : List (Int × List Int)} {i : Nat} {q : Int × List Int} (h : ∀ q ∈ qs, Itm q) (hq : Itm q) : ∀ x ∈ qs.set i q, Itm x := fun x hx => by
  rcases List.mem_or_eq_of_mem_set hx with h1 | rfl
  · exact h x h1
  · exact hq
def SgI (x1 row : D) (way : Int) (L : Nat) (i : Int) (E : Env) : Prop := ∃ (qs : List (Int × List Int)) (w : Int) (ss : List Int) (e9 e10 e11 e12 : Ent),
  E = [.stm, .val x1, .val row, .val (.int way), .own (qs.map pairD), .val (.int (L : Int)), .val (.int i), .val (.int w), .val (.tuple (ss.map PyData.int)), e9, e10, e11, e12] ∧
    (0 ≤ i ∧ i < qs.length) ∧ qs.length ≤ 6 ∧ (∀ q ∈ qs, Itm q) ∧ (1 ≤ w ∧ w ≤ 2000) ∧ ss.length ≤ 25 ∧ ∀ x ∈ ss, 0 ≤ x ∧ x < 24
section
variable {x1 row : D} {way : Int} {L : Nat} {i : Int} {E : Env}
theorem SgI.mk' {qs : List (Int × List Int)} {w : Int} {ss : List Int} {e9 e10 e11 e12 : Ent} (h1 : 0 ≤ i ∧ i < qs.length) (h2 : qs.length ≤ 6) (h3 : ∀ q ∈ qs, Itm q) (h4 : 1 ≤ w ∧ w ≤ 2000) (h5 : ss.length ≤ 25) (h6 : ∀ x ∈ ss, 0 ≤ x ∧ x < 24) :
    SgI x1 row way L i [.stm, .val x1, .val row, .val (.int way), .own (qs.map pairD), .val (.int (L : Int)), .val (.int i), .val (.int w), .val (.tuple (ss.map PyData.int)), e9, e10, e11, e12] := ⟨qs, w, ss, e9, e10, e11, e12, rfl, h1, h2, h3, h4, h5, h6⟩
theorem SgI.put {qs : List (Int × List Int)} {j : Nat} {q : Int × List Int} {w : Int} {ss : List Int} {e9 e10 e11 e12 : Ent} (h1 : 0 ≤ i ∧ i < qs.length) (h2 : qs.length ≤ 6) (h3 : ∀ q ∈ qs, Itm q) (hq : Itm q) (h4 : 1 ≤ w ∧ w ≤ 2000) (h5 : ss.length ≤ 25) (h6 : ∀ x ∈ ss, 0 ≤ x ∧ x < 24) :
    SgI x1 row way L i [.stm, .val x1, .val row, .val (.int way), .own ((qs.map pairD).set j (pairD q)), .val (.int (L : Int)), .val (.int i), .val (.int w), .val (.tuple (ss.map PyData.int)), e9, e10, e11, e12] := by
  rw [set_pair]
  exact SgI.mk' ⟨h1.1, by rw [List.length_set]; exact h1.2⟩ (by rw [List.length_set]; exact h2) (itm_set h3 hq) h4 h5 h6
end
end DL
end
section
namespace DL
open PySem
section
variable {ns : List Int} {m w : Int}
theorem RowM.n {ns : List Int} {m : Int} (R : RowM ns m) : RowN ns := ⟨R.pos, R.few, R.rng⟩
theorem RowM.long {ns : List Int} {m w : Int} (R : RowM ns m) (h : m ≤ w) : Long ns w none := .no fun j x hj => Int.le_trans (R.mx x (List.mem_of_getElem? hj)) h
theorem RowM.starts_at {ns : List Int} {m w : Int} (R : RowM ns m) (h : m ≤ w) : w_starts_at_0 [.tuple (ns.map PyData.int), .int w] = ret (.tuple (natsD (starts ns w))) := starts_at_0 (R.long h) R.pos (by have := R.few; omega)
theorem intIn_yes {a b i : Int} (h : a ≤ i) (h2 : i ≤ b) : intIn a b (.int i) = true := by
  simp [intIn]
  omega
theorem RowM.call {ns : List Int} {m w : Int} (R : RowM ns m) (h : m ≤ w) (h2 : w ≤ 2000) : w_WR_call_0 [wr ns, .int w] = ret (.tuple (natsD (starts ns w))) := by
  have := R.m1
  rw [call_wr rfl, if_pos (intIn_yes (by omega) h2), R.starts_at h]
theorem shp_part (ns : List Int) (a b : Nat) : Shp 1 (part ns a b) := shp_lin _
end
end DL
end
section
namespace DL
open PySem
end DL
end
section
namespace DL.A52
open PySem DL
def firstT (as bs : List Int) (s : Nat) (S2 : List Nat) : Option Nat := S2.find? fun t => decide (as.drop s = bs.drop t)
def meetS (as bs : List Int) (S2 : List Nat) : List Nat → Option (Nat × Nat)
  | [] => none
  | s :: r => match firstT as bs s S2 with
    | some t => some (s, t)
    | none => meetS as bs S2 r
def meetD : Option (Nat × Nat) → D
  | none => .none
  | some (s, t) => .tuple [.int s, .int t]
theorem firstT_eq {as bs : List Int} {s : Nat} {S2 : List Nat} (hs : s < as.length) (h : ∀ t ∈ S2, t < bs.length) : (match firstT as bs s S2 with
    | some t => (t : Int) = s + bs.length - as.length ∧ t ∈ S2 ∧ as.drop s = bs.drop t
    | none => ∀ t ∈ S2, as.drop s ≠ bs.drop t) := by
  cases hf : firstT as bs s S2 with
  | some t =>
    have h1 := List.find?_some hf
    have h2 := List.mem_of_find?_eq_some hf
    have e : as.drop s = bs.drop t := by simpa using h1
    have e2 := congrArg List.length e
    rw [List.length_drop, List.length_drop] at e2
    have := h t h2
    exact ⟨by omega, h2, e⟩
  | none =>
    intro t ht
    have := List.find?_eq_none.mp hf t ht
    simpa using this
theorem meet_loop {as bs : List Int} {w : Int} {S2 : List Nat} (hb : ∀ t ∈ S2, t < bs.length) : ∀ (S1 : List Nat) (e4 e5 : Ent), (∀ s ∈ S1, s < as.length) →
    ∃ o, forL (.nm 4) (sSeq (sAsg 5 (eBin .sub (eBin .add (eVar 4) (eB1 .len (eVar 1))) (eB1 .len (eVar 0))))
        (sIf (DL.tAnd (tBool (eIn false (eVar 5) (eVar 3))) (tBool (eCmp .eq (eCut (eVar 0) (oSome (eVar 4)) (oNone)) (eCut (eVar 1) (oSome (eVar 5)) (oNone))))) (sRet (eTup (aCons (eVar 4) (aCons (eVar 5) (aNil))))) (sSkip))) (natsD S1)
      [.val (.tuple (as.map PyData.int)), .val (.tuple (bs.map PyData.int)), .val (.int w), .val (.tuple (natsD S2)), e4, e5] = ret o ∧ (match meetS as bs S2 S1 with
        | some q => o = .rt (meetD (some q))
        | none => ∃ e4' e5', o = .nx [.val (.tuple (as.map PyData.int)), .val (.tuple (bs.map PyData.int)), .val (.int w), .val (.tuple (natsD S2)), e4', e5'])
  | [], e4, e5, _ => ⟨_, rfl, e4, e5, rfl⟩
  | s :: S1, e4, e5, h => by
    have hs := h s (.head _)
    show ∃ o, forL _ _ (.int (s : Int) :: natsD S1) _ = _ ∧ _
    rw [x_forc]
    try simp only [x_var, x_con, x_bin, x_neg, x_cmp, x_chain, x_tTru, x_tNot, x_tAnd, x_tOr, x_tBool, x_tYes, x_not, x_and, x_or, x_if, x_b1, x_b2, x_is, x_idx, x_oNone, x_oSome, x_cut, x_aNil, x_aCons, x_tup, x_lst, x_call, x_callS,
    x_iSeq, x_iRng1, x_iRng2, x_bor, x_tBor, x_put1, List.map_cons, List.map_nil, List.cons_append, List.nil_append, List.length_cons, List.length_nil, Nat.zero_add, Nat.reduceAdd, Nat.reduceSub, List.reduceReplicate, start,
    List.getElem?_cons_zero, List.getElem?_cons_succ, List.set_cons_zero, List.set_cons_succ, bnd_ret, bnd_assoc, bnd_grd, b1_if, bnd_ite, small, Nat.reduceLeDiff, grd_true, o_add, o_sub, o_neg, o_eq, o_ne, o_lt, o_le, o_gt, o_ge, o_eqS, o_neS,
    decide_eq_true_eq, reduceIte, decide_true, decide_false, Bool.not_true, Bool.not_false, Bool.false_eq_true, itemsOf, asInt, endOf, isTy,
    grd_tt, nx_int, nx_bool, nx_str, nx_none, nx_tup, nx_lst, x_isC, x_fld, x_in, x_count, x_lstR, x_tupR, x_raise, x_star, bnd_thr, noX_ret, fld_x, exn_d, eSetO, Out.clear, List.zip_cons_cons, List.zip_nil_left, List.zip_nil_right, s_asg, s_par, s_own, s_parO, s_put, s_expr, s_ret, s_skip, s_seq, s_rel, x_asg, x_par, x_own, x_parO, x_put, x_expr, x_ret, x_retN, x_skip, x_rel, x_app, x_setI, x_sIf, x_for, x_brk, x_cnt, b_lenT, b_lenL, b_tupL, b_tupT, b_max2, b_min2, o_addL, o_addT, cut_ints, sum_ints, s_chk, s_for, s_brk, s_cnt, s_retN, t_bool, g_rng, g_le, List.length_map, in_nats]
    have hq := firstT_eq hs hb
    unfold meetS
    cases hf : firstT as bs s S2 with
    | some t =>
      rw [hf] at hq
      obtain ⟨q1, q2, q3⟩ := hq
      rw [← q1, if_pos ⟨t, q2, rfl⟩]
      have ht := hb t q2
      rw [cut_from (Nat.le_of_lt hs), bnd_ret, cut_from (Nat.le_of_lt ht), bnd_ret, q3, o_eqT]
      try simp only [x_var, x_con, x_bin, x_neg, x_cmp, x_chain, x_tTru, x_tNot, x_tAnd, x_tOr, x_tBool, x_tYes, x_not, x_and, x_or, x_if, x_b1, x_b2, x_is, x_idx, x_oNone, x_oSome, x_cut, x_aNil, x_aCons, x_tup, x_lst, x_call, x_callS,
    x_iSeq, x_iRng1, x_iRng2, x_bor, x_tBor, x_put1, List.map_cons, List.map_nil, List.cons_append, List.nil_append, List.length_cons, List.length_nil, Nat.zero_add, Nat.reduceAdd, Nat.reduceSub, List.reduceReplicate, start,
    List.getElem?_cons_zero, List.getElem?_cons_succ, List.set_cons_zero, List.set_cons_succ, bnd_ret, bnd_assoc, bnd_grd, b1_if, bnd_ite, small, Nat.reduceLeDiff, grd_true, o_add, o_sub, o_neg, o_eq, o_ne, o_lt, o_le, o_gt, o_ge, o_eqS, o_neS,
    decide_eq_true_eq, reduceIte, decide_true, decide_false, Bool.not_true, Bool.not_false, Bool.false_eq_true, itemsOf, asInt, endOf, isTy,
    grd_tt, nx_int, nx_bool, nx_str, nx_none, nx_tup, nx_lst, x_isC, x_fld, x_in, x_count, x_lstR, x_tupR, x_raise, x_star, bnd_thr, noX_ret, fld_x, exn_d, eSetO, Out.clear, List.zip_cons_cons, List.zip_nil_left, List.zip_nil_right, s_asg, s_par, s_own, s_parO, s_put, s_expr, s_ret, s_skip, s_seq, s_rel, x_asg, x_par, x_own, x_parO, x_put, x_expr, x_ret, x_retN, x_skip, x_rel, x_app, x_setI, x_sIf, x_for, x_brk, x_cnt, b_lenT, b_lenL, b_tupL, b_tupT, b_max2, b_min2, o_addL, o_addT, cut_ints, sum_ints, s_chk, s_for, s_brk, s_cnt, s_retN, t_bool, g_rng, g_le, List.length_map]
      exact ⟨_, rfl, rfl⟩
    | none =>
      rw [hf] at hq
      obtain ⟨o, i1, i2⟩ := meet_loop (as := as) (w := w) hb S1 (.val (.int s)) (.val (.int ((s : Int) + bs.length - as.length))) fun x hx => h x (.tail _ hx)
      refine ⟨o, ?_, i2⟩
      by_cases he : ∃ n ∈ S2, (n : Int) = (s : Int) + bs.length - as.length
      · rw [if_pos he]
        obtain ⟨t, t1, t2⟩ := he
        have ht := hb t t1
        rw [← t2] at i1 ⊢
        rw [cut_from (Nat.le_of_lt hs), bnd_ret, cut_from (Nat.le_of_lt ht), bnd_ret, o_eqT, bnd_ret, decide_eq_false (hq t t1), if_neg (by decide)]
        exact i1
      · rw [if_neg he]
        exact i1
theorem meeting_N {as bs : List Int} {w : Int} (h : Long as w none) (g : Long bs w none) (a1 : 0 < as.length) (a2 : as.length ≤ 900) (h1 : 0 < bs.length) (h2 : bs.length ≤ 900) :
    w_meeting_0 [.tuple (as.map PyData.int), .tuple (bs.map PyData.int), .int w] = ret (meetD (meetS as bs (starts bs w) (starts as w))) := by
  unfold w_meeting_0
  refine (f_fn (by rfl)).trans ?_
  try simp only [x_var, x_con, x_bin, x_neg, x_cmp, x_chain, x_tTru, x_tNot, x_tAnd, x_tOr, x_tBool, x_tYes, x_not, x_and, x_or, x_if, x_b1, x_b2, x_is, x_idx, x_oNone, x_oSome, x_cut, x_aNil, x_aCons, x_tup, x_lst, x_call, x_callS,
    x_iSeq, x_iRng1, x_iRng2, x_bor, x_tBor, x_put1, List.map_cons, List.map_nil, List.cons_append, List.nil_append, List.length_cons, List.length_nil, Nat.zero_add, Nat.reduceAdd, Nat.reduceSub, List.reduceReplicate, start,
    List.getElem?_cons_zero, List.getElem?_cons_succ, List.set_cons_zero, List.set_cons_succ, bnd_ret, bnd_assoc, bnd_grd, b1_if, bnd_ite, small, Nat.reduceLeDiff, grd_true, o_add, o_sub, o_neg, o_eq, o_ne, o_lt, o_le, o_gt, o_ge, o_eqS, o_neS,
    decide_eq_true_eq, reduceIte, decide_true, decide_false, Bool.not_true, Bool.not_false, Bool.false_eq_true, itemsOf, asInt, endOf, isTy,
    grd_tt, nx_int, nx_bool, nx_str, nx_none, nx_tup, nx_lst, x_isC, x_fld, x_in, x_count, x_lstR, x_tupR, x_raise, x_star, bnd_thr, noX_ret, fld_x, exn_d, eSetO, Out.clear, List.zip_cons_cons, List.zip_nil_left, List.zip_nil_right, s_asg, s_par, s_own, s_parO, s_put, s_expr, s_ret, s_skip, s_seq, s_rel, x_asg, x_par, x_own, x_parO, x_put, x_expr, x_ret, x_retN, x_skip, x_rel, x_app, x_setI, x_sIf, x_for, x_brk, x_cnt, b_lenT, b_lenL, b_tupL, b_tupT, b_max2, b_min2, o_addL, o_addT, cut_ints, sum_ints, s_chk, s_for, s_brk, s_cnt, s_retN, t_bool, g_rng, g_le, List.length_map]
  rw [check_fits_0 h]
  try simp only [x_var, x_con, x_bin, x_neg, x_cmp, x_chain, x_tTru, x_tNot, x_tAnd, x_tOr, x_tBool, x_tYes, x_not, x_and, x_or, x_if, x_b1, x_b2, x_is, x_idx, x_oNone, x_oSome, x_cut, x_aNil, x_aCons, x_tup, x_lst, x_call, x_callS,
    x_iSeq, x_iRng1, x_iRng2, x_bor, x_tBor, x_put1, List.map_cons, List.map_nil, List.cons_append, List.nil_append, List.length_cons, List.length_nil, Nat.zero_add, Nat.reduceAdd, Nat.reduceSub, List.reduceReplicate, start,
    List.getElem?_cons_zero, List.getElem?_cons_succ, List.set_cons_zero, List.set_cons_succ, bnd_ret, bnd_assoc, bnd_grd, b1_if, bnd_ite, small, Nat.reduceLeDiff, grd_true, o_add, o_sub, o_neg, o_eq, o_ne, o_lt, o_le, o_gt, o_ge, o_eqS, o_neS,
    decide_eq_true_eq, reduceIte, decide_true, decide_false, Bool.not_true, Bool.not_false, Bool.false_eq_true, itemsOf, asInt, endOf, isTy,
    grd_tt, nx_int, nx_bool, nx_str, nx_none, nx_tup, nx_lst, x_isC, x_fld, x_in, x_count, x_lstR, x_tupR, x_raise, x_star, bnd_thr, noX_ret, fld_x, exn_d, eSetO, Out.clear, List.zip_cons_cons, List.zip_nil_left, List.zip_nil_right, s_asg, s_par, s_own, s_parO, s_put, s_expr, s_ret, s_skip, s_seq, s_rel, x_asg, x_par, x_own, x_parO, x_put, x_expr, x_ret, x_retN, x_skip, x_rel, x_app, x_setI, x_sIf, x_for, x_brk, x_cnt, b_lenT, b_lenL, b_tupL, b_tupT, b_max2, b_min2, o_addL, o_addT, cut_ints, sum_ints, s_chk, s_for, s_brk, s_cnt, s_retN, t_bool, g_rng, g_le, List.length_map]
  rw [check_fits_0 g]
  try simp only [x_var, x_con, x_bin, x_neg, x_cmp, x_chain, x_tTru, x_tNot, x_tAnd, x_tOr, x_tBool, x_tYes, x_not, x_and, x_or, x_if, x_b1, x_b2, x_is, x_idx, x_oNone, x_oSome, x_cut, x_aNil, x_aCons, x_tup, x_lst, x_call, x_callS,
    x_iSeq, x_iRng1, x_iRng2, x_bor, x_tBor, x_put1, List.map_cons, List.map_nil, List.cons_append, List.nil_append, List.length_cons, List.length_nil, Nat.zero_add, Nat.reduceAdd, Nat.reduceSub, List.reduceReplicate, start,
    List.getElem?_cons_zero, List.getElem?_cons_succ, List.set_cons_zero, List.set_cons_succ, bnd_ret, bnd_assoc, bnd_grd, b1_if, bnd_ite, small, Nat.reduceLeDiff, grd_true, o_add, o_sub, o_neg, o_eq, o_ne, o_lt, o_le, o_gt, o_ge, o_eqS, o_neS,
    decide_eq_true_eq, reduceIte, decide_true, decide_false, Bool.not_true, Bool.not_false, Bool.false_eq_true, itemsOf, asInt, endOf, isTy,
    grd_tt, nx_int, nx_bool, nx_str, nx_none, nx_tup, nx_lst, x_isC, x_fld, x_in, x_count, x_lstR, x_tupR, x_raise, x_star, bnd_thr, noX_ret, fld_x, exn_d, eSetO, Out.clear, List.zip_cons_cons, List.zip_nil_left, List.zip_nil_right, s_asg, s_par, s_own, s_parO, s_put, s_expr, s_ret, s_skip, s_seq, s_rel, x_asg, x_par, x_own, x_parO, x_put, x_expr, x_ret, x_retN, x_skip, x_rel, x_app, x_setI, x_sIf, x_for, x_brk, x_cnt, b_lenT, b_lenL, b_tupL, b_tupT, b_max2, b_min2, o_addL, o_addT, cut_ints, sum_ints, s_chk, s_for, s_brk, s_cnt, s_retN, t_bool, g_rng, g_le, List.length_map, starts_of_0 a1 a2, starts_of_0 h1 h2]
  obtain ⟨o, e1, e2⟩ := meet_loop (as := as) (bs := bs) (w := w) (S2 := starts bs w) (fun t ht => starts_lt h1 t ht) (starts as w) .unk .unk fun s hs => starts_lt a1 s hs
  rw [e1]
  cases hm : meetS as bs (starts bs w) (starts as w) with
  | some q =>
    rw [hm] at e2
    subst e2
    try simp only [x_var, x_con, x_bin, x_neg, x_cmp, x_chain, x_tTru, x_tNot, x_tAnd, x_tOr, x_tBool, x_tYes, x_not, x_and, x_or, x_if, x_b1, x_b2, x_is, x_idx, x_oNone, x_oSome, x_cut, x_aNil, x_aCons, x_tup, x_lst, x_call, x_callS,
    x_iSeq, x_iRng1, x_iRng2, x_bor, x_tBor, x_put1, List.map_cons, List.map_nil, List.cons_append, List.nil_append, List.length_cons, List.length_nil, Nat.zero_add, Nat.reduceAdd, Nat.reduceSub, List.reduceReplicate, start,
    List.getElem?_cons_zero, List.getElem?_cons_succ, List.set_cons_zero, List.set_cons_succ, bnd_ret, bnd_assoc, bnd_grd, b1_if, bnd_ite, small, Nat.reduceLeDiff, grd_true, o_add, o_sub, o_neg, o_eq, o_ne, o_lt, o_le, o_gt, o_ge, o_eqS, o_neS,
    decide_eq_true_eq, reduceIte, decide_true, decide_false, Bool.not_true, Bool.not_false, Bool.false_eq_true, itemsOf, asInt, endOf, isTy,
    grd_tt, nx_int, nx_bool, nx_str, nx_none, nx_tup, nx_lst, x_isC, x_fld, x_in, x_count, x_lstR, x_tupR, x_raise, x_star, bnd_thr, noX_ret, fld_x, exn_d, eSetO, Out.clear, List.zip_cons_cons, List.zip_nil_left, List.zip_nil_right, s_asg, s_par, s_own, s_parO, s_put, s_expr, s_ret, s_skip, s_seq, s_rel, x_asg, x_par, x_own, x_parO, x_put, x_expr, x_ret, x_retN, x_skip, x_rel, x_app, x_setI, x_sIf, x_for, x_brk, x_cnt, b_lenT, b_lenL, b_tupL, b_tupT, b_max2, b_min2, o_addL, o_addT, cut_ints, sum_ints, s_chk, s_for, s_brk, s_cnt, s_retN, t_bool, g_rng, g_le, List.length_map]
  | none =>
    rw [hm] at e2
    obtain ⟨e3', e4', rfl⟩ := e2
    try simp only [x_var, x_con, x_bin, x_neg, x_cmp, x_chain, x_tTru, x_tNot, x_tAnd, x_tOr, x_tBool, x_tYes, x_not, x_and, x_or, x_if, x_b1, x_b2, x_is, x_idx, x_oNone, x_oSome, x_cut, x_aNil, x_aCons, x_tup, x_lst, x_call, x_callS,
    x_iSeq, x_iRng1, x_iRng2, x_bor, x_tBor, x_put1, List.map_cons, List.map_nil, List.cons_append, List.nil_append, List.length_cons, List.length_nil, Nat.zero_add, Nat.reduceAdd, Nat.reduceSub, List.reduceReplicate, start,
    List.getElem?_cons_zero, List.getElem?_cons_succ, List.set_cons_zero, List.set_cons_succ, bnd_ret, bnd_assoc, bnd_grd, b1_if, bnd_ite, small, Nat.reduceLeDiff, grd_true, o_add, o_sub, o_neg, o_eq, o_ne, o_lt, o_le, o_gt, o_ge, o_eqS, o_neS,
    decide_eq_true_eq, reduceIte, decide_true, decide_false, Bool.not_true, Bool.not_false, Bool.false_eq_true, itemsOf, asInt, endOf, isTy,
    grd_tt, nx_int, nx_bool, nx_str, nx_none, nx_tup, nx_lst, x_isC, x_fld, x_in, x_count, x_lstR, x_tupR, x_raise, x_star, bnd_thr, noX_ret, fld_x, exn_d, eSetO, Out.clear, List.zip_cons_cons, List.zip_nil_left, List.zip_nil_right, s_asg, s_par, s_own, s_parO, s_put, s_expr, s_ret, s_skip, s_seq, s_rel, x_asg, x_par, x_own, x_parO, x_put, x_expr, x_ret, x_retN, x_skip, x_rel, x_app, x_setI, x_sIf, x_for, x_brk, x_cnt, b_lenT, b_lenL, b_tupL, b_tupT, b_max2, b_min2, o_addL, o_addT, cut_ints, sum_ints, s_chk, s_for, s_brk, s_cnt, s_retN, t_bool, g_rng, g_le, List.length_map]
    rfl
theorem meetS_none {as bs : List Int} {S2 : List Nat} : ∀ {S1 : List Nat}, meetS as bs S2 S1 = none ↔ ∀ s ∈ S1, ∀ t ∈ S2, as.drop s ≠ bs.drop t
  | [] => ⟨fun _ _ h => (nomatch h), fun _ => rfl⟩
  | s :: S1 => by
    unfold meetS
    cases hf : firstT as bs s S2 with
    | some t =>
      refine ⟨fun h => (nomatch h), fun h => ?_⟩
      have h1 := List.find?_some hf
      have h2 := List.mem_of_find?_eq_some hf
      exact absurd (by simpa using h1) (h s (.head _) t h2)
    | none =>
      have hn := List.find?_eq_none.mp hf
      refine (meetS_none (S1 := S1)).trans ⟨fun h x hx t ht => ?_, fun h x hx => h x (.tail _ hx)⟩
      cases hx with
      | head => have := hn t ht; simpa using this
      | tail _ hx => exact h x hx t ht
theorem isN_meet (q : Option (Nat × Nat)) : opCmp .isN (meetD q) .none = ret q.isNone := by
  rw [o_isN]
  cases q <;> rfl
end DL.A52
end
section
namespace DL.A52
open PySem DL
section
variable {as bs ns : List Int} {w : Int}
theorem meetS_first {S2 : List Nat} {q : Nat × Nat} : ∀ {S1 : List Nat}, meetS as bs S2 S1 = some q → ∃ i : Nat, S1[i]? = some q.1 ∧ q.2 ∈ S2 ∧ as.drop q.1 = bs.drop q.2 ∧ ∀ m : Nat, m < i → ∀ s, S1[m]? = some s → ∀ t ∈ S2, as.drop s ≠ bs.drop t
  | [], h => by cases h
  | s :: S1, h => by
    unfold meetS at h
    cases hf : firstT as bs s S2 with
    | some t =>
      rw [hf] at h
      cases h
      have h1 := List.find?_some hf
      have h2 := List.mem_of_find?_eq_some hf
      exact ⟨0, rfl, h2, by simpa using h1, fun m hm => by omega⟩
    | none =>
      rw [hf] at h
      have hn := List.find?_eq_none.mp hf
      obtain ⟨i, i1, i2, i3, i4⟩ := meetS_first h
      refine ⟨i + 1, by simpa using i1, i2, i3, fun m hm x hx t ht => ?_⟩
      cases m with
      | zero =>
        have : s = x := by simpa using hx
        subst this
        have := hn t ht
        simpa using this
      | succ m => exact i4 m (by omega) x (by simpa using hx) t ht
theorem starts_of_t (h1 : 0 < ns.length) (h2 : ns.length ≤ 900) : w_starts_of_t_0 [.tuple (ns.map PyData.int), .int w] = ret (tD (natsD (starts ns w))) := by
  unfold w_starts_of_t_0
  refine (f_fn (by rfl)).trans ?_
  simp only [x_var, x_con, x_bin, x_neg, x_cmp, x_chain, x_tTru, x_tNot, x_tAnd, x_tOr, x_tBool, x_tYes, x_not, x_and, x_or, x_if, x_b1, x_b2, x_is, x_idx, x_oNone, x_oSome, x_cut, x_aNil, x_aCons, x_tup, x_lst, x_call, x_callS,
    x_iSeq, x_iRng1, x_iRng2, x_bor, x_tBor, x_put1, List.map_cons, List.map_nil, List.cons_append, List.nil_append, List.length_cons, List.length_nil, Nat.zero_add, Nat.reduceAdd, Nat.reduceSub, List.reduceReplicate, start,
    List.getElem?_cons_zero, List.getElem?_cons_succ, List.set_cons_zero, List.set_cons_succ, bnd_ret, bnd_assoc, bnd_grd, b1_if, bnd_ite, small, Nat.reduceLeDiff, grd_true, o_add, o_sub, o_neg, o_eq, o_ne, o_lt, o_le, o_gt, o_ge, o_eqS, o_neS,
    decide_eq_true_eq, reduceIte, decide_true, decide_false, Bool.not_true, Bool.not_false, Bool.false_eq_true, itemsOf, asInt, bi2, endOf, isTy,
    grd_tt, nx_int, nx_bool, nx_str, nx_none, nx_tup, nx_lst, x_isC, x_fld, x_in, x_count, x_lstR, x_tupR, x_raise, x_star, bnd_thr, noX_ret, fld_x, exn_d, eSetO, Out.clear, List.zip_cons_cons, List.zip_nil_left, List.zip_nil_right, s_asg, s_par, s_own, s_parO, s_put, s_expr, s_ret, s_skip, s_seq, s_rel, x_asg, x_par, x_own, x_parO, x_put, x_expr, x_ret, x_retN, x_skip, x_rel, x_app, x_setI, x_sIf, x_for, x_brk, x_cnt]
  have e0 := next_start_0 (ns := ns) (w := w) (i := 0) h1
  rw [show (((0 : Nat) : Int)) = 0 from rfl] at e0
  rw [e0]
  simp only [x_var, x_con, x_bin, x_neg, x_cmp, x_chain, x_tTru, x_tNot, x_tAnd, x_tOr, x_tBool, x_tYes, x_not, x_and, x_or, x_if, x_b1, x_b2, x_is, x_idx, x_oNone, x_oSome, x_cut, x_aNil, x_aCons, x_tup, x_lst, x_call, x_callS,
    x_iSeq, x_iRng1, x_iRng2, x_bor, x_tBor, x_put1, List.map_cons, List.map_nil, List.cons_append, List.nil_append, List.length_cons, List.length_nil, Nat.zero_add, Nat.reduceAdd, Nat.reduceSub, List.reduceReplicate, start,
    List.getElem?_cons_zero, List.getElem?_cons_succ, List.set_cons_zero, List.set_cons_succ, bnd_ret, bnd_assoc, bnd_grd, b1_if, bnd_ite, small, Nat.reduceLeDiff, grd_true, o_add, o_sub, o_neg, o_eq, o_ne, o_lt, o_le, o_gt, o_ge, o_eqS, o_neS,
    decide_eq_true_eq, reduceIte, decide_true, decide_false, Bool.not_true, Bool.not_false, Bool.false_eq_true, itemsOf, asInt, bi2, endOf, isTy,
    grd_tt, nx_int, nx_bool, nx_str, nx_none, nx_tup, nx_lst, x_isC, x_fld, x_in, x_count, x_lstR, x_tupR, x_raise, x_star, bnd_thr, noX_ret, fld_x, exn_d, eSetO, Out.clear, List.zip_cons_cons, List.zip_nil_left, List.zip_nil_right, s_asg, s_par, s_own, s_parO, s_put, s_expr, s_ret, s_skip, s_seq, s_rel, x_asg, x_par, x_own, x_parO, x_put, x_expr, x_ret, x_retN, x_skip, x_rel, x_app, x_setI, x_sIf, x_for, x_brk, x_cnt]
  obtain ⟨k, e3, r⟩ := starts_runs (ns := ns) (w := w) ns.length (nx ns w 0) [0] (by omega) (by simp only [List.length_singleton]; omega)
  have e := r.eq
  have n0 : natsD [0] = [PyData.int 0] := rfl
  rw [n0] at e
  rw [x_seq, e]
  simp only [x_var, x_con, x_bin, x_neg, x_cmp, x_chain, x_tTru, x_tNot, x_tAnd, x_tOr, x_tBool, x_tYes, x_not, x_and, x_or, x_if, x_b1, x_b2, x_is, x_idx, x_oNone, x_oSome, x_cut, x_aNil, x_aCons, x_tup, x_lst, x_call, x_callS,
    x_iSeq, x_iRng1, x_iRng2, x_bor, x_tBor, x_put1, List.map_cons, List.map_nil, List.cons_append, List.nil_append, List.length_cons, List.length_nil, Nat.zero_add, Nat.reduceAdd, Nat.reduceSub, List.reduceReplicate, start,
    List.getElem?_cons_zero, List.getElem?_cons_succ, List.set_cons_zero, List.set_cons_succ, bnd_ret, bnd_assoc, bnd_grd, b1_if, bnd_ite, small, Nat.reduceLeDiff, grd_true, o_add, o_sub, o_neg, o_eq, o_ne, o_lt, o_le, o_gt, o_ge, o_eqS, o_neS,
    decide_eq_true_eq, reduceIte, decide_true, decide_false, Bool.not_true, Bool.not_false, Bool.false_eq_true, itemsOf, asInt, bi2, endOf, isTy,
    grd_tt, nx_int, nx_bool, nx_str, nx_none, nx_tup, nx_lst, x_isC, x_fld, x_in, x_count, x_lstR, x_tupR, x_raise, x_star, bnd_thr, noX_ret, fld_x, exn_d, eSetO, Out.clear, List.zip_cons_cons, List.zip_nil_left, List.zip_nil_right, s_asg, s_par, s_own, s_parO, s_put, s_expr, s_ret, s_skip, s_seq, s_rel, x_asg, x_par, x_own, x_parO, x_put, x_expr, x_ret, x_retN, x_skip, x_rel, x_app, x_setI, x_sIf, x_for, x_brk, x_cnt]
  rfl
theorem starts_at_t (h : Long ns w none) (h1 : 0 < ns.length) (h2 : ns.length ≤ 900) : w_starts_at_t_0 [.tuple (ns.map PyData.int), .int w] = ret (tD (natsD (starts ns w))) := by
  unfold w_starts_at_t_0
  refine (f_fn (by rfl)).trans ?_
  simp only [x_var, x_con, x_bin, x_neg, x_cmp, x_chain, x_tTru, x_tNot, x_tAnd, x_tOr, x_tBool, x_tYes, x_not, x_and, x_or, x_if, x_b1, x_b2, x_is, x_idx, x_oNone, x_oSome, x_cut, x_aNil, x_aCons, x_tup, x_lst, x_call, x_callS,
    x_iSeq, x_iRng1, x_iRng2, x_bor, x_tBor, x_put1, List.map_cons, List.map_nil, List.cons_append, List.nil_append, List.length_cons, List.length_nil, Nat.zero_add, Nat.reduceAdd, Nat.reduceSub, List.reduceReplicate, start,
    List.getElem?_cons_zero, List.getElem?_cons_succ, List.set_cons_zero, List.set_cons_succ, bnd_ret, bnd_assoc, bnd_grd, b1_if, bnd_ite, small, Nat.reduceLeDiff, grd_true, o_add, o_sub, o_neg, o_eq, o_ne, o_lt, o_le, o_gt, o_ge, o_eqS, o_neS,
    decide_eq_true_eq, reduceIte, decide_true, decide_false, Bool.not_true, Bool.not_false, Bool.false_eq_true, itemsOf, asInt, bi2, endOf, isTy,
    grd_tt, nx_int, nx_bool, nx_str, nx_none, nx_tup, nx_lst, x_isC, x_fld, x_in, x_count, x_lstR, x_tupR, x_raise, x_star, bnd_thr, noX_ret, fld_x, exn_d, eSetO, Out.clear, List.zip_cons_cons, List.zip_nil_left, List.zip_nil_right, s_asg, s_par, s_own, s_parO, s_put, s_expr, s_ret, s_skip, s_seq, s_rel, x_asg, x_par, x_own, x_parO, x_put, x_expr, x_ret, x_retN, x_skip, x_rel, x_app, x_setI, x_sIf, x_for, x_brk, x_cnt]
  rw [check_fits_0 h]
  simp only [x_var, x_con, x_bin, x_neg, x_cmp, x_chain, x_tTru, x_tNot, x_tAnd, x_tOr, x_tBool, x_tYes, x_not, x_and, x_or, x_if, x_b1, x_b2, x_is, x_idx, x_oNone, x_oSome, x_cut, x_aNil, x_aCons, x_tup, x_lst, x_call, x_callS,
    x_iSeq, x_iRng1, x_iRng2, x_bor, x_tBor, x_put1, List.map_cons, List.map_nil, List.cons_append, List.nil_append, List.length_cons, List.length_nil, Nat.zero_add, Nat.reduceAdd, Nat.reduceSub, List.reduceReplicate, start,
    List.getElem?_cons_zero, List.getElem?_cons_succ, List.set_cons_zero, List.set_cons_succ, bnd_ret, bnd_assoc, bnd_grd, b1_if, bnd_ite, small, Nat.reduceLeDiff, grd_true, o_add, o_sub, o_neg, o_eq, o_ne, o_lt, o_le, o_gt, o_ge, o_eqS, o_neS,
    decide_eq_true_eq, reduceIte, decide_true, decide_false, Bool.not_true, Bool.not_false, Bool.false_eq_true, itemsOf, asInt, bi2, endOf, isTy,
    grd_tt, nx_int, nx_bool, nx_str, nx_none, nx_tup, nx_lst, x_isC, x_fld, x_in, x_count, x_lstR, x_tupR, x_raise, x_star, bnd_thr, noX_ret, fld_x, exn_d, eSetO, Out.clear, List.zip_cons_cons, List.zip_nil_left, List.zip_nil_right, s_asg, s_par, s_own, s_parO, s_put, s_expr, s_ret, s_skip, s_seq, s_rel, x_asg, x_par, x_own, x_parO, x_put, x_expr, x_ret, x_retN, x_skip, x_rel, x_app, x_setI, x_sIf, x_for, x_brk, x_cnt, starts_of_t h1 h2]
/-- the lines -/
def lns (ns : List Int) (w : Int) : List D := parts ns (starts ns w) ns.length
theorem lines_at_N (h : Long ns w none) (h1 : 0 < ns.length) (h2 : ns.length ≤ 900) : w_lines_at_0 [.tuple (ns.map PyData.int), .int w] = ret (.tuple (lns ns w)) := lines_at_0 h h1 h2
theorem lns_len : (lns ns w).length = many ns w := parts_len _ _ _
theorem last_line (h1 : 0 < ns.length) : opIdx (.tuple (lns ns w)) (.int (-1)) = ret (.tuple ((ns.drop (gr ns w (many ns w - 1))).map PyData.int)) := by
  have hm := many_pos (ns := ns) (w := w)
  have hl := line_at (w := w) h1 (k := many ns w - 1) (by omega)
  rw [show many ns w - 1 + 1 = many ns w by omega, gr_end h1] at hl
  have e : part ns (gr ns w (many ns w - 1)) ns.length = .tuple ((ns.drop (gr ns w (many ns w - 1))).map PyData.int) := by
    unfold part cutN
    rw [List.take_of_length_le (by rw [List.length_drop]; exact Nat.le_refl _)]
  rw [e] at hl
  have h9 : lns ns w = (lns ns w).take (many ns w - 1) ++ [.tuple ((ns.drop (gr ns w (many ns w - 1))).map PyData.int)] := by
    have hlt : many ns w - 1 < (lns ns w).length := by rw [lns_len]; omega
    have h10 : (lns ns w).drop (many ns w - 1) = [.tuple ((ns.drop (gr ns w (many ns w - 1))).map PyData.int)] := by
      rw [List.drop_eq_getElem_cons hlt, List.drop_of_length_le (by rw [lns_len]; omega)]
      exact congrArg (fun x => [x]) (List.getElem?_eq_some_iff.mp hl).2
    rw [← h10, List.take_append_drop]
  rw [h9]
  exact idx_lastT _ _
theorem gr_mem (h1 : 0 < ns.length) {k : Nat} (hk : k < many ns w) : gr ns w k ∈ starts ns w := List.mem_of_getElem? (starts_ix h1 hk)
theorem in_natsT {x : Int} {l : List Nat} : opIn true (.int x) (.tuple (natsD l)) = ret (.bool (!decide (∃ n ∈ l, (n : Int) = x))) := by
  have hs : SeqAt.shaped (.int x) = true := by rfl
  have hs2 : SeqAt.shaped (.tuple (natsD l)) = true := by rw [natsD_ints]; exact shp_ints _
  show grd _ (ret (isIn true (.int x) (natsD l))) = _
  rw [grd_pos ⟨hs, hs2⟩]
  unfold isIn natsD
  rw [List.any_map]
  congr 2
  rw [Bool.eq_iff_iff]
  simp [PyData.eqv]
theorem cut_drop (ds : List D) {k : Nat} (hk : k ≤ ds.length) : DL.cut ds (some (k : Int)) none = ds.drop k := by
  unfold DL.cut
  rw [HT.sIx_nat, show HT.sIx ds.length ds.length none = ds.length from rfl, Nat.min_eq_left hk, List.take_of_length_le (by rw [List.length_drop]; exact Nat.le_refl _)]
theorem cut_dropT (ds : List D) {k : Nat} (hk : k ≤ ds.length) : opCut (.tuple ds) (some (k : Int)) none = ret (.tuple (ds.drop k)) := by
  show ret (PyData.tuple (DL.cut ds (some (k : Int)) none)) = _
  rw [cut_drop ds hk]
theorem idx_T {xs : List D} {k : Nat} {x : D} (h : xs[k]? = some x) : opIdx (.tuple xs) (.int (k : Int)) = ret x := by
  show (match L2.atI xs (k : Int) with | some d => ret d | none => stuck : W D) = _
  have hk : k < xs.length := (List.getElem?_eq_some_iff.mp h).1
  have e : L2.atI xs (k : Int) = some x := by
    unfold L2.atI L2.ixN
    rw [if_pos (by omega), if_pos (by omega)]
    simpa using h
  rw [e]
theorem ints_nats : ∀ l : List Nat, ints? (natsD l) = some (l.map Int.ofNat)
  | [] => rfl
  | n :: l => by
    show ints? (.int (n : Int) :: natsD l) = _
    simp [ints?, ints_nats l]
theorem ix_first : ∀ {l : List Nat} {i s : Nat}, l[i]? = some s → (∀ m, m < i → l[m]? ≠ some s) → (l.map Int.ofNat).findIdx? (· == (s : Int)) = some i
  | [], _, _, h, _ => by simp at h
  | x :: l, 0, s, h, _ => by
    have : x = s := by simpa using h
    subst this
    rw [List.map_cons, List.findIdx?_cons]
    simp
  | x :: l, i + 1, s, h, hn => by
    have h0 : x ≠ s := fun z => hn 0 (by omega) (by rw [z]; rfl)
    have ih := ix_first (l := l) (i := i) (s := s) (by simpa using h) fun m hm z => hn (m + 1) (by omega) (by simpa using z)
    rw [List.map_cons, List.findIdx?_cons]
    have : (Int.ofNat x == (s : Int)) = false := by
      rw [beq_eq_false_iff_ne]
      intro z
      exact h0 (Int.ofNat.inj z)
    rw [this, ih]
    rfl
theorem ix_at {l : List Nat} {i s : Nat} (h : l[i]? = some s) (hn : ∀ m, m < i → l[m]? ≠ some s) : ixN (.tuple (natsD l)) (.int (s : Int)) = ret (.int (i : Int)) := by
  show (match ints? (natsD l) with
    | some ns => match ns.findIdx? (· == (s : Int)) with
      | some j => ret (.int (j : Int))
      | none => stuck
    | none => stuck : W D) = _
  rw [ints_nats]
  show (match (l.map Int.ofNat).findIdx? (· == (s : Int)) with
      | some j => ret (.int (j : Int))
      | none => stuck : W D) = _
  rw [ix_first h hn]
theorem starts_no (h1 : 0 < ns.length) {i m : Nat} (hi : i < many ns w) (hm : m < i) : (starts ns w)[m]? ≠ some (gr ns w i) := by
  rw [starts_ix h1 (by omega)]
  intro z
  have z : gr ns w m = gr ns w i := Option.some.inj z
  have g1 := gr_lt (gr_in (w := w) h1 (show m < many ns w by omega))
  have g2 := gr_mono (ns := ns) (w := w) (show m + 1 ≤ i by omega)
  omega
end
end DL.A52
end
section
namespace DL.A52
open PySem DL
section
variable {as bs ns : List Int} {w : Int}
theorem x_un (m : XE) (E : Env) : eUn m E = bnd (m E) unN := rfl
theorem x_ixN (a b : XE) (E : Env) : eIxN a b E = bnd (a E) fun x => bnd (unN x) fun t => bnd (b E) fun y => ixN t y := rfl
theorem un_tD (ds : List D) : unN (tD ds) = ret (.tuple ds) := rfl
theorem drop_cut {a b : Nat} (h : a ≤ b) : ns.drop a = cutN ns a b ++ ns.drop b := by
  unfold cutN
  have : ns.drop b = (ns.drop a).drop (b - a) := by rw [List.drop_drop, show a + (b - a) = b by omega]
  rw [this, List.take_append_drop]
theorem line_before (h1 : 0 < ns.length) {i : Nat} (hi : i < many ns w) (h0 : 0 < i) : opIdx (.tuple (lns ns w)) (.int ((i : Int) - 1)) = ret (.tuple ((cutN ns (gr ns w (i - 1)) (gr ns w i)).map PyData.int)) := by
  have hl := line_at (w := w) h1 (k := i - 1) (by omega)
  rw [show i - 1 + 1 = i by omega] at hl
  rw [show (i : Int) - 1 = ((i - 1 : Nat) : Int) by omega]
  exact idx_T hl
theorem shp_lns (i : Nat) : Shp 2 (.tuple ((lns ns w).drop i)) := shp_tup fun d hd => by
  obtain ⟨a, b, rfl⟩ := parts_mem (List.mem_of_mem_drop hd)
  exact shp_part _ _ _
theorem starts_back (hp : ∀ x ∈ ns, 1 ≤ x) (h1 : 0 < ns.length) {k : Nat} (hk : k < many ns w) : (starts (ns.drop (gr ns w k)) w).map (· + gr ns w k) = (starts ns w).drop k := by
  rw [starts_drop hp h1 hk, List.map_map]
  refine (List.map_congr_left fun x hx => ?_).trans (List.map_id _)
  obtain ⟨i, hi⟩ := List.mem_iff_getElem?.mp hx
  rw [List.getElem?_drop] at hi
  have h2 := (DL.starts_at h1 hi).1
  have h3 := gr_mono (ns := ns) (w := w) (show k ≤ k + i by omega)
  show x - gr ns w k + gr ns w k = x
  omega
def plusD (s : Nat) : D → D
  | .int x => .int (x + (s : Int))
  | _ => .none
theorem plus_nats (s : Nat) (l : List Nat) : (natsD l).map (plusD s) = natsD (l.map (· + s)) := by
  unfold natsD
  rw [List.map_map, List.map_map]
  rfl
theorem starts_few (h1 : 0 < ns.length) : (starts ns w).length ≤ ns.length := by
  have h := (gr_in_iff (w := w) h1 (k := ns.length)).mpr
  have g1 : ∀ k, k < many ns w → k ≤ gr ns w k := fun k => by
    induction k with
    | zero => intro _; omega
    | succ k ih =>
      intro hk
      have := ih (by omega)
      have := gr_lt (gr_in (w := w) h1 (show k < many ns w by omega))
      omega
  by_cases c : (starts ns w).length ≤ ns.length
  · exact c
  · have hk : ns.length < many ns w := by unfold many; omega
    have := g1 _ hk
    have := gr_in (w := w) h1 hk
    omega
theorem right_7 (h : Long as w none) (g : Long bs w none) (a1 : 0 < as.length) (a2 : as.length ≤ 900) (b1 : 0 < bs.length) (b2 : bs.length ≤ 900) (hp : ∀ x ∈ as, 1 ≤ x) (hq : ∀ x ∈ bs, 1 ≤ x) :
    w__law_right_7 [.tuple (as.map PyData.int), .tuple (bs.map PyData.int), .int w] = ret (.bool true) := by
  unfold w__law_right_7
  refine (f_fn (by rfl)).trans ?_
  try simp only [x_var, x_con, x_bin, x_neg, x_cmp, x_chain, x_tTru, x_tNot, x_tAnd, x_tOr, x_tBool, x_tYes, x_not, x_and, x_or, x_if, x_b1, x_b2, x_is, x_idx, x_oNone, x_oSome, x_cut, x_aNil, x_aCons, x_tup, x_lst, x_call, x_callS,
    x_iSeq, x_iRng1, x_iRng2, x_bor, x_tBor, x_put1, List.map_cons, List.map_nil, List.cons_append, List.nil_append, List.length_cons, List.length_nil, Nat.zero_add, Nat.reduceAdd, Nat.reduceSub, List.reduceReplicate, start,
    List.getElem?_cons_zero, List.getElem?_cons_succ, List.set_cons_zero, List.set_cons_succ, bnd_ret, bnd_assoc, bnd_grd, b1_if, bnd_ite, small, Nat.reduceLeDiff, grd_true, o_add, o_sub, o_neg, o_eq, o_ne, o_lt, o_le, o_gt, o_ge, o_eqS, o_neS,
    decide_eq_true_eq, reduceIte, decide_true, decide_false, Bool.not_true, Bool.not_false, Bool.false_eq_true, itemsOf, asInt, endOf, isTy,
    grd_tt, nx_int, nx_bool, nx_str, nx_none, nx_tup, nx_lst, x_isC, x_fld, x_in, x_count, x_lstR, x_tupR, x_raise, x_star, bnd_thr, noX_ret, fld_x, exn_d, eSetO, Out.clear, List.zip_cons_cons, List.zip_nil_left, List.zip_nil_right, s_asg, s_par, s_own, s_parO, s_put, s_expr, s_ret, s_skip, s_seq, s_rel, x_asg, x_par, x_own, x_parO, x_put, x_expr, x_ret, x_retN, x_skip, x_rel, x_app, x_setI, x_sIf, x_for, x_brk, x_cnt, b_lenT, b_lenL, b_tupL, b_tupT, b_max2, b_min2, o_addL, o_addT, cut_ints, sum_ints, s_chk, s_for, s_brk, s_cnt, s_retN, t_bool, g_rng, g_le, List.length_map, x_par3, meeting_N h g a1 a2 b1 b2, starts_at_t h a1 a2, starts_at_t g b1 b2]
  cases hm : meetS as bs (starts bs w) (starts as w) with
  | none =>
    have hn := meetS_none.mp hm
    have m1 := many_pos (ns := as) (w := w)
    have m2 := many_pos (ns := bs) (w := w)
    have ne := hn _ (gr_mem (w := w) a1 (k := many as w - 1) (by omega)) _ (gr_mem (w := w) b1 (k := many bs w - 1) (by omega))
    have e1 : opCmp .isN (meetD none) .none = ret true := isN_meet none
    try simp only [x_var, x_con, x_bin, x_neg, x_cmp, x_chain, x_tTru, x_tNot, x_tAnd, x_tOr, x_tBool, x_tYes, x_not, x_and, x_or, x_if, x_b1, x_b2, x_is, x_idx, x_oNone, x_oSome, x_cut, x_aNil, x_aCons, x_tup, x_lst, x_call, x_callS,
    x_iSeq, x_iRng1, x_iRng2, x_bor, x_tBor, x_put1, List.map_cons, List.map_nil, List.cons_append, List.nil_append, List.length_cons, List.length_nil, Nat.zero_add, Nat.reduceAdd, Nat.reduceSub, List.reduceReplicate, start,
    List.getElem?_cons_zero, List.getElem?_cons_succ, List.set_cons_zero, List.set_cons_succ, bnd_ret, bnd_assoc, bnd_grd, b1_if, bnd_ite, small, Nat.reduceLeDiff, grd_true, o_add, o_sub, o_neg, o_eq, o_ne, o_lt, o_le, o_gt, o_ge, o_eqS, o_neS,
    decide_eq_true_eq, reduceIte, decide_true, decide_false, Bool.not_true, Bool.not_false, Bool.false_eq_true, itemsOf, asInt, endOf, isTy,
    grd_tt, nx_int, nx_bool, nx_str, nx_none, nx_tup, nx_lst, x_isC, x_fld, x_in, x_count, x_lstR, x_tupR, x_raise, x_star, bnd_thr, noX_ret, fld_x, exn_d, eSetO, Out.clear, List.zip_cons_cons, List.zip_nil_left, List.zip_nil_right, s_asg, s_par, s_own, s_parO, s_put, s_expr, s_ret, s_skip, s_seq, s_rel, x_asg, x_par, x_own, x_parO, x_put, x_expr, x_ret, x_retN, x_skip, x_rel, x_app, x_setI, x_sIf, x_for, x_brk, x_cnt, b_lenT, b_lenL, b_tupL, b_tupT, b_max2, b_min2, o_addL, o_addT, cut_ints, sum_ints, s_chk, s_for, s_brk, s_cnt, s_retN, t_bool, g_rng, g_le, List.length_map, s_if, e1, lines_at_N h a1 a2, lines_at_N g b1 b2, last_line a1, last_line b1, o_neT]
    rw [decide_eq_false ne]
    rfl
  | some q =>
    obtain ⟨i, i1, i2, i3, i4⟩ := meetS_first hm
    obtain ⟨s, t⟩ := q
    obtain ⟨j, j1⟩ := List.mem_iff_getElem?.mp i2
    obtain ⟨hs, s1⟩ := DL.starts_at a1 i1
    obtain ⟨ht, t1⟩ := DL.starts_at b1 j1
    have hi : i < many as w := (List.getElem?_eq_some_iff.mp i1).1
    have hj : j < many bs w := (List.getElem?_eq_some_iff.mp j1).1
    simp only at hs ht s1 t1 i1 i2 i3 j1
    have hl : (as.length : Int) - (s : Int) = (bs.length : Int) - (t : Int) := by
      have := congrArg List.length i3
      rw [List.length_drop, List.length_drop] at this
      omega
    have e1 : opCmp .isN (meetD (some (s, t))) .none = ret false := isN_meet (some (s, t))
    have p1 : (Tg.tp [6, 7]).put (meetD (some (s, t))) [.val (.tuple (as.map PyData.int)), .val (.tuple (bs.map PyData.int)), .val (.int w), .val (meetD (some (s, t))), .val (tD (natsD (starts as w))), .val (tD (natsD (starts bs w))), .unk, .unk, .unk, .unk, .unk] = some [.val (.tuple (as.map PyData.int)), .val (.tuple (bs.map PyData.int)), .val (.int w), .val (meetD (some (s, t))), .val (tD (natsD (starts as w))), .val (tD (natsD (starts bs w))), .val (.int (s : Int)), .val (.int (t : Int)), .unk, .unk, .unk] := rfl
    have q1 : opIn true (.int (s : Int)) (.tuple (natsD (starts as w))) = ret (.bool false) := by
      rw [in_natsT, decide_eq_true ⟨s, List.mem_of_getElem? i1, rfl⟩]; rfl
    have q2 : opIn true (.int (t : Int)) (.tuple (natsD (starts bs w))) = ret (.bool false) := by
      rw [in_natsT, decide_eq_true ⟨t, i2, rfl⟩]; rfl
    have x1 : ixN (.tuple (natsD (starts as w))) (.int (s : Int)) = ret (.int (i : Int)) := ix_at i1 fun m hm => by rw [hs]; exact starts_no a1 hi hm
    have x2 : ixN (.tuple (natsD (starts bs w))) (.int (t : Int)) = ret (.int (j : Int)) := ix_at j1 fun m hm => by rw [ht]; exact starts_no b1 hj hm
    have c1 : opCut (.tuple (lns as w)) (some (i : Int)) none = ret (.tuple ((lns as w).drop i)) := cut_dropT _ (by rw [lns_len]; omega)
    have c2 : opCut (.tuple (lns bs w)) (some (j : Int)) none = ret (.tuple ((lns bs w).drop j)) := cut_dropT _ (by rw [lns_len]; omega)
    have l1 : (lns as w).drop i = (lns bs w).drop j := by
      have u1 := lines_drop (w := w) hp a1 hi
      have u2 := lines_drop (w := w) hq b1 hj
      rw [← hs] at u1
      rw [← ht] at u2
      show (parts as (starts as w) as.length).drop i = (parts bs (starts bs w) bs.length).drop j
      rw [← u1, ← u2, i3]
    have l2 : opCmp .ne (.tuple ((lns as w).drop i)) (.tuple ((lns bs w).drop j)) = ret false := by
      rw [l1]
      exact ne_self ((shp_lns j).ok (by decide)) (SeqAt.eqv_refl _ (shp_lns j).lay)
    have lo : Long (as.drop s) w none := by
      cases h with
      | no h => exact .no fun k x hk => h (s + k) x (by rwa [List.getElem?_drop] at hk)
    have sb := starts_back (w := w) hp a1 hi
    rw [← hs] at sb
    have cu := cut_from (ns := as) (a := s) (by omega)
    have c3 : opCut (.tuple (natsD (starts as w))) (some (i : Int)) none = ret (.tuple (natsD ((starts as w).drop i))) := by
      rw [cut_dropT _ (by unfold natsD many at *; rw [List.length_map]; omega)]
      unfold natsD
      rw [List.map_drop]
    have b0 : ∀ ds : List D, bi1 .list (.tuple ds) = ret (.list ds) := fun _ => rfl
    try simp only [x_var, x_con, x_bin, x_neg, x_cmp, x_chain, x_tTru, x_tNot, x_tAnd, x_tOr, x_tBool, x_tYes, x_not, x_and, x_or, x_if, x_b1, x_b2, x_is, x_idx, x_oNone, x_oSome, x_cut, x_aNil, x_aCons, x_tup, x_lst, x_call, x_callS,
    x_iSeq, x_iRng1, x_iRng2, x_bor, x_tBor, x_put1, List.map_cons, List.map_nil, List.cons_append, List.nil_append, List.length_cons, List.length_nil, Nat.zero_add, Nat.reduceAdd, Nat.reduceSub, List.reduceReplicate, start,
    List.getElem?_cons_zero, List.getElem?_cons_succ, List.set_cons_zero, List.set_cons_succ, bnd_ret, bnd_assoc, bnd_grd, b1_if, bnd_ite, small, Nat.reduceLeDiff, grd_true, o_add, o_sub, o_neg, o_eq, o_ne, o_lt, o_le, o_gt, o_ge, o_eqS, o_neS,
    decide_eq_true_eq, reduceIte, decide_true, decide_false, Bool.not_true, Bool.not_false, Bool.false_eq_true, itemsOf, asInt, endOf, isTy,
    grd_tt, nx_int, nx_bool, nx_str, nx_none, nx_tup, nx_lst, x_isC, x_fld, x_in, x_count, x_lstR, x_tupR, x_raise, x_star, bnd_thr, noX_ret, fld_x, exn_d, eSetO, Out.clear, List.zip_cons_cons, List.zip_nil_left, List.zip_nil_right, s_asg, s_par, s_own, s_parO, s_put, s_expr, s_ret, s_skip, s_seq, s_rel, x_asg, x_par, x_own, x_parO, x_put, x_expr, x_ret, x_retN, x_skip, x_rel, x_app, x_setI, x_sIf, x_for, x_brk, x_cnt, b_lenT, b_lenL, b_tupL, b_tupT, b_max2, b_min2, o_addL, o_addT, cut_ints, sum_ints, s_chk, s_for, s_brk, s_cnt, s_retN, t_bool, g_rng, g_le, List.length_map, s_if, e1, p1, x_un, un_tD, x_ixN, q1, q2, x1, x2, lines_at_N h a1 a2, lines_at_N g b1 b2, c1, c2, l2, hl, b_lenT, List.length_map, decide_true, Bool.not_true, Bool.false_eq_true, if_false]
    have st : w_starts_at_0 [.tuple ((as.drop s).map PyData.int), .int w] = ret (.tuple (natsD (starts (as.drop s) w))) := starts_at_0 lo (by rw [List.length_drop]; omega) (by rw [List.length_drop]; omega)
    have cm := comp_mapE (it := iSeq (eCall w_starts_at_0 (aCons (eCut (eVar 0) (oSome (eVar 6)) oNone) (aCons (eVar 2) aNil)))) (tg := .nm 10) (t := tYes) (e := eBin .add (eVar 10) (eVar 6)) (vs := [10]) (f := plusD s) (ds := natsD (starts (as.drop s) w)) (E := [.val (.tuple (as.map PyData.int)), .val (.tuple (bs.map PyData.int)), .val (.int w), .val (meetD (some (s, t))), .val (tD (natsD (starts as w))), .val (tD (natsD (starts bs w))), .val (.int (s : Int)), .val (.int (t : Int)), .val (.int (i : Int)), .val (.int (j : Int)), .unk])
      (by simp only [x_var, x_con, x_bin, x_neg, x_cmp, x_chain, x_tTru, x_tNot, x_tAnd, x_tOr, x_tBool, x_tYes, x_not, x_and, x_or, x_if, x_b1, x_b2, x_is, x_idx, x_oNone, x_oSome, x_cut, x_aNil, x_aCons, x_tup, x_lst, x_call, x_callS,
    x_iSeq, x_iRng1, x_iRng2, x_bor, x_tBor, x_put1, List.map_cons, List.map_nil, List.cons_append, List.nil_append, List.length_cons, List.length_nil, Nat.zero_add, Nat.reduceAdd, Nat.reduceSub, List.reduceReplicate, start,
    List.getElem?_cons_zero, List.getElem?_cons_succ, List.set_cons_zero, List.set_cons_succ, bnd_ret, bnd_assoc, bnd_grd, b1_if, bnd_ite, small, Nat.reduceLeDiff, grd_true, o_add, o_sub, o_neg, o_eq, o_ne, o_lt, o_le, o_gt, o_ge, o_eqS, o_neS,
    decide_eq_true_eq, reduceIte, decide_true, decide_false, Bool.not_true, Bool.not_false, Bool.false_eq_true, itemsOf, asInt, endOf, isTy,
    grd_tt, nx_int, nx_bool, nx_str, nx_none, nx_tup, nx_lst, x_isC, x_fld, x_in, x_count, x_lstR, x_tupR, x_raise, x_star, bnd_thr, noX_ret, fld_x, exn_d, eSetO, Out.clear, List.zip_cons_cons, List.zip_nil_left, List.zip_nil_right, s_asg, s_par, s_own, s_parO, s_put, s_expr, s_ret, s_skip, s_seq, s_rel, x_asg, x_par, x_own, x_parO, x_put, x_expr, x_ret, x_retN, x_skip, x_rel, x_app, x_setI, x_sIf, x_for, x_brk, x_cnt, b_lenT, b_lenL, b_tupL, b_tupT, b_max2, b_min2, o_addL, o_addT, cut_ints, sum_ints, s_chk, s_for, s_brk, s_cnt, s_retN, t_bool, g_rng, g_le, List.length_map, cu, st]) (by
        have := congrArg List.length sb
        rw [List.length_map, List.length_drop] at this
        have h9 : (starts as w).length ≤ 1000 := by
          have := starts_few (w := w) a1
          omega
        unfold natsD
        rw [List.length_map]
        omega) (fun d hd => by
        obtain ⟨x, _, rfl⟩ := List.mem_map.mp hd
        refine ⟨[.val (.tuple (as.map PyData.int)), .val (.tuple (bs.map PyData.int)), .val (.int w), .val (meetD (some (s, t))), .val (tD (natsD (starts as w))), .val (tD (natsD (starts bs w))), .val (.int (s : Int)), .val (.int (t : Int)), .val (.int (i : Int)), .val (.int (j : Int)), .val (.int (x : Int))], rfl, rfl, ?_⟩
        try simp only [x_var, x_con, x_bin, x_neg, x_cmp, x_chain, x_tTru, x_tNot, x_tAnd, x_tOr, x_tBool, x_tYes, x_not, x_and, x_or, x_if, x_b1, x_b2, x_is, x_idx, x_oNone, x_oSome, x_cut, x_aNil, x_aCons, x_tup, x_lst, x_call, x_callS,
    x_iSeq, x_iRng1, x_iRng2, x_bor, x_tBor, x_put1, List.map_cons, List.map_nil, List.cons_append, List.nil_append, List.length_cons, List.length_nil, Nat.zero_add, Nat.reduceAdd, Nat.reduceSub, List.reduceReplicate, start,
    List.getElem?_cons_zero, List.getElem?_cons_succ, List.set_cons_zero, List.set_cons_succ, bnd_ret, bnd_assoc, bnd_grd, b1_if, bnd_ite, small, Nat.reduceLeDiff, grd_true, o_add, o_sub, o_neg, o_eq, o_ne, o_lt, o_le, o_gt, o_ge, o_eqS, o_neS,
    decide_eq_true_eq, reduceIte, decide_true, decide_false, Bool.not_true, Bool.not_false, Bool.false_eq_true, itemsOf, asInt, endOf, isTy,
    grd_tt, nx_int, nx_bool, nx_str, nx_none, nx_tup, nx_lst, x_isC, x_fld, x_in, x_count, x_lstR, x_tupR, x_raise, x_star, bnd_thr, noX_ret, fld_x, exn_d, eSetO, Out.clear, List.zip_cons_cons, List.zip_nil_left, List.zip_nil_right, s_asg, s_par, s_own, s_parO, s_put, s_expr, s_ret, s_skip, s_seq, s_rel, x_asg, x_par, x_own, x_parO, x_put, x_expr, x_ret, x_retN, x_skip, x_rel, x_app, x_setI, x_sIf, x_for, x_brk, x_cnt, b_lenT, b_lenL, b_tupL, b_tupT, b_max2, b_min2, o_addL, o_addT, cut_ints, sum_ints, s_chk, s_for, s_brk, s_cnt, s_retN, t_bool, g_rng, g_le, List.length_map]
        rfl)
    rw [plus_nats, sb] at cm
    have eqs : opCmp .eq (.list (natsD ((starts as w).drop i))) (.list (natsD ((starts as w).drop i))) = ret true := o_eqSelf (k := 1) (shp_lst fun d hd => by
      obtain ⟨x, _, rfl⟩ := List.mem_map.mp hd
      exact shp_int _) (by decide)
    have fin : (bnd (eComp (iSeq (eCall w_starts_at_0 (aCons (eCut (eVar 0) (oSome (eVar 6)) oNone) (aCons (eVar 2) aNil)))) (.nm 10) tYes (eBin .add (eVar 10) (eVar 6)) [10] [.val (.tuple (as.map PyData.int)), .val (.tuple (bs.map PyData.int)), .val (.int w), .val (meetD (some (s, t))), .val (tD (natsD (starts as w))), .val (tD (natsD (starts bs w))), .val (.int (s : Int)), .val (.int (t : Int)), .val (.int (i : Int)), .val (.int (j : Int)), .unk]) fun a =>
          bnd (opCut (PyData.tuple (natsD (starts as w))) (some (i : Int)) none) fun a_1 =>
            bnd (bi1 B1.list a_1) fun a_2 => bnd (opCmp Cmp.eq a a_2) fun c => ret (PyData.bool c)) = ret (.bool true) := by
      rw [cm, bnd_ret, c3, bnd_ret, b0, bnd_ret, eqs, bnd_ret]
    rw [fin]
    by_cases ci : (0 : Int) < i
    · rw [if_pos ci]
      by_cases cj : (0 : Int) < j
      · rw [if_pos cj]
        have ne := i4 (i - 1) (by omega) _ (starts_ix a1 (by omega)) _ (gr_mem b1 (k := j - 1) (by omega))
        have ne2 : ¬ cutN as (gr as w (i - 1)) (gr as w i) = cutN bs (gr bs w (j - 1)) (gr bs w j) := fun z => ne (by
          rw [drop_cut (gr_mono (show i - 1 ≤ i by omega)), drop_cut (gr_mono (show j - 1 ≤ j by omega)), z, ← hs, ← ht, i3])
        rw [line_before a1 hi (by omega), bnd_ret, line_before b1 hj (by omega), bnd_ret, o_eqT, decide_eq_false ne2, bnd_ret, if_neg (by decide)]
      · rw [if_neg cj]
    · rw [if_neg ci]
end
end DL.A52
end
section
namespace DL.A52
open PySem DL
theorem meet_self (as : List Int) (w : Int) : meetS as as (starts as w) (starts as w) = some (0, 0) := by
  have e : starts as w = 0 :: restF as w as.length (nx as w 0) := rfl
  have f : firstT as as 0 (starts as w) = some 0 := by
    unfold firstT
    rw [e, List.find?_cons_of_pos (by simp)]
  generalize hS : starts as w = S at f
  rw [e] at hS
  rw [← hS] at f ⊢
  unfold meetS
  rw [f]
open Wk52 in
theorem math_k52 : m_law (lawE 7 1) (.z 0) (fun o _ => o = .rt (.bool true)) fun _ _ => False := by
  suffices h : Ok (m_law (lawE 7 1)) 8000 (fun o => o = .rt (.bool true)) from h.run (by decide) fun _ h => h
  have e : lawE 7 1 = [.unk, .stm, .unk, .unk, .unk, .unk, .unk] := rfl
  rw [e]
  unfold m_law
  refine Ok.seq 8000 (fun E => True) (n := 8000) ?_ (Nat.le_refl _) fun E _ => ?_
  · try simp (disch := omega) only [x_var, x_con, x_bin, x_neg, x_cmp, x_chain, x_tTru, x_tNot, x_tAnd, x_tOr, x_tBool, x_tYes, x_not, x_and, x_or, x_if, x_b1, x_b2, x_is, x_idx, x_oNone, x_oSome, x_cut, x_aNil, x_aCons, x_tup, x_lst, x_call, x_callS,
    x_iSeq, x_iRng1, x_iRng2, x_bor, x_tBor, x_put1, List.map_cons, List.map_nil, List.cons_append, List.nil_append, List.length_cons, List.length_nil, Nat.zero_add, Nat.reduceAdd, Nat.reduceSub, List.reduceReplicate, start,
    List.getElem?_cons_zero, List.getElem?_cons_succ, List.set_cons_zero, List.set_cons_succ, bnd_ret, bnd_assoc, bnd_grd, b1_if, bnd_ite, small, Nat.reduceLeDiff, grd_true, o_add, o_sub, o_neg, o_eq, o_ne, o_lt, o_le, o_gt, o_ge, o_eqS, o_neS,
    decide_eq_true_eq, reduceIte, decide_true, decide_false, Bool.not_true, Bool.not_false, Bool.false_eq_true, itemsOf, asInt, endOf, isTy,
    grd_tt, nx_int, nx_bool, nx_str, nx_none, nx_tup, nx_lst, x_isC, x_fld, x_in, x_count, x_lstR, x_tupR, x_raise, x_star, bnd_thr, noX_ret, fld_x, exn_d, eSetO, Out.clear, List.zip_cons_cons, List.zip_nil_left, List.zip_nil_right, s_asg, s_par, s_own, s_parO, s_put, s_expr, s_ret, s_skip, s_seq, s_rel, x_asg, x_par, x_own, x_parO, x_put, x_expr, x_ret, x_retN, x_skip, x_rel, x_app, x_setI, x_sIf, x_for, x_brk, x_cnt, b_lenT, b_lenL, b_tupL, b_tupT, b_max2, b_min2, o_addL, o_addT, cut_ints, sum_ints, s_chk, s_for, s_brk, s_cnt, s_retN, t_bool, g_rng, g_le, List.length_map]
    refine for_ok (b := 500) (fun _ E => ∃ e2 e3 e4 e5 e6, E = [.unk, .stm, e2, e3, e4, e5, e6]) ⟨_, _, _, _, _, rfl⟩ (by rw [rng_len]; decide) ?_ fun E _ => True.intro
    rintro j d E hj ⟨e2, e3, e4, e5, e6, rfl⟩
    obtain ⟨rfl, hj2⟩ := rng_at hj
    refine ⟨_, rfl, ?_⟩
    try simp (disch := omega) only [x_var, x_con, x_bin, x_neg, x_cmp, x_chain, x_tTru, x_tNot, x_tAnd, x_tOr, x_tBool, x_tYes, x_not, x_and, x_or, x_if, x_b1, x_b2, x_is, x_idx, x_oNone, x_oSome, x_cut, x_aNil, x_aCons, x_tup, x_lst, x_call, x_callS,
    x_iSeq, x_iRng1, x_iRng2, x_bor, x_tBor, x_put1, List.map_cons, List.map_nil, List.cons_append, List.nil_append, List.length_cons, List.length_nil, Nat.zero_add, Nat.reduceAdd, Nat.reduceSub, List.reduceReplicate, start,
    List.getElem?_cons_zero, List.getElem?_cons_succ, List.set_cons_zero, List.set_cons_succ, bnd_ret, bnd_assoc, bnd_grd, b1_if, bnd_ite, small, Nat.reduceLeDiff, grd_true, o_add, o_sub, o_neg, o_eq, o_ne, o_lt, o_le, o_gt, o_ge, o_eqS, o_neS,
    decide_eq_true_eq, reduceIte, decide_true, decide_false, Bool.not_true, Bool.not_false, Bool.false_eq_true, itemsOf, asInt, endOf, isTy,
    grd_tt, nx_int, nx_bool, nx_str, nx_none, nx_tup, nx_lst, x_isC, x_fld, x_in, x_count, x_lstR, x_tupR, x_raise, x_star, bnd_thr, noX_ret, fld_x, exn_d, eSetO, Out.clear, List.zip_cons_cons, List.zip_nil_left, List.zip_nil_right, s_asg, s_par, s_own, s_parO, s_put, s_expr, s_ret, s_skip, s_seq, s_rel, x_asg, x_par, x_own, x_parO, x_put, x_expr, x_ret, x_retN, x_skip, x_rel, x_app, x_setI, x_sIf, x_for, x_brk, x_cnt, b_lenT, b_lenL, b_tupL, b_tupT, b_max2, b_min2, o_addL, o_addT, cut_ints, sum_ints, s_chk, s_for, s_brk, s_cnt, s_retN, t_bool, g_rng, g_le, List.length_map, o_mod]
    refine Ok.grd (by decide) ?_
    have most : ∃ m : Int, opIdx (.list [.int 24, .int 24, .int 5]) (.int ((0 + (j : Int)) % 3)) = ret (.int m) ∧ 1 ≤ m ∧ m ≤ 24 := by
      obtain h | h | h : (0 + (j : Int)) % 3 = 0 ∨ (0 + (j : Int)) % 3 = 1 ∨ (0 + (j : Int)) % 3 = 2 := by omega
      · rw [h]; exact ⟨24, rfl, by decide⟩
      · rw [h]; exact ⟨24, rfl, by decide⟩
      · rw [h]; exact ⟨5, rfl, by decide⟩
    obtain ⟨mo, em, m1, m2⟩ := most
    try simp (disch := omega) only [x_var, x_con, x_bin, x_neg, x_cmp, x_chain, x_tTru, x_tNot, x_tAnd, x_tOr, x_tBool, x_tYes, x_not, x_and, x_or, x_if, x_b1, x_b2, x_is, x_idx, x_oNone, x_oSome, x_cut, x_aNil, x_aCons, x_tup, x_lst, x_call, x_callS,
    x_iSeq, x_iRng1, x_iRng2, x_bor, x_tBor, x_put1, List.map_cons, List.map_nil, List.cons_append, List.nil_append, List.length_cons, List.length_nil, Nat.zero_add, Nat.reduceAdd, Nat.reduceSub, List.reduceReplicate, start,
    List.getElem?_cons_zero, List.getElem?_cons_succ, List.set_cons_zero, List.set_cons_succ, bnd_ret, bnd_assoc, bnd_grd, b1_if, bnd_ite, small, Nat.reduceLeDiff, grd_true, o_add, o_sub, o_neg, o_eq, o_ne, o_lt, o_le, o_gt, o_ge, o_eqS, o_neS,
    decide_eq_true_eq, reduceIte, decide_true, decide_false, Bool.not_true, Bool.not_false, Bool.false_eq_true, itemsOf, asInt, endOf, isTy,
    grd_tt, nx_int, nx_bool, nx_str, nx_none, nx_tup, nx_lst, x_isC, x_fld, x_in, x_count, x_lstR, x_tupR, x_raise, x_star, bnd_thr, noX_ret, fld_x, exn_d, eSetO, Out.clear, List.zip_cons_cons, List.zip_nil_left, List.zip_nil_right, s_asg, s_par, s_own, s_parO, s_put, s_expr, s_ret, s_skip, s_seq, s_rel, x_asg, x_par, x_own, x_parO, x_put, x_expr, x_ret, x_retN, x_skip, x_rel, x_app, x_setI, x_sIf, x_for, x_brk, x_cnt, b_lenT, b_lenL, b_tupL, b_tupT, b_max2, b_min2, o_addL, o_addT, cut_ints, sum_ints, s_chk, s_for, s_brk, s_cnt, s_retN, t_bool, g_rng, g_le, List.length_map, em]
    refine Ok.bnd' 500 (row_drawn_0 ⟨m1, m2⟩) (by decide) ?_
    rintro r1 ⟨ns, rfl, a1, a2, hn⟩
    have rn : RowN ns := ⟨a1, by omega, hn⟩
    obtain ⟨m, ema, hma⟩ := max_ints a1
    try simp (disch := omega) only [x_var, x_con, x_bin, x_neg, x_cmp, x_chain, x_tTru, x_tNot, x_tAnd, x_tOr, x_tBool, x_tYes, x_not, x_and, x_or, x_if, x_b1, x_b2, x_is, x_idx, x_oNone, x_oSome, x_cut, x_aNil, x_aCons, x_tup, x_lst, x_call, x_callS,
    x_iSeq, x_iRng1, x_iRng2, x_bor, x_tBor, x_put1, List.map_cons, List.map_nil, List.cons_append, List.nil_append, List.length_cons, List.length_nil, Nat.zero_add, Nat.reduceAdd, Nat.reduceSub, List.reduceReplicate, start,
    List.getElem?_cons_zero, List.getElem?_cons_succ, List.set_cons_zero, List.set_cons_succ, bnd_ret, bnd_assoc, bnd_grd, b1_if, bnd_ite, small, Nat.reduceLeDiff, grd_true, o_add, o_sub, o_neg, o_eq, o_ne, o_lt, o_le, o_gt, o_ge, o_eqS, o_neS,
    decide_eq_true_eq, reduceIte, decide_true, decide_false, Bool.not_true, Bool.not_false, Bool.false_eq_true, itemsOf, asInt, endOf, isTy,
    grd_tt, nx_int, nx_bool, nx_str, nx_none, nx_tup, nx_lst, x_isC, x_fld, x_in, x_count, x_lstR, x_tupR, x_raise, x_star, bnd_thr, noX_ret, fld_x, exn_d, eSetO, Out.clear, List.zip_cons_cons, List.zip_nil_left, List.zip_nil_right, s_asg, s_par, s_own, s_parO, s_put, s_expr, s_ret, s_skip, s_seq, s_rel, x_asg, x_par, x_own, x_parO, x_put, x_expr, x_ret, x_retN, x_skip, x_rel, x_app, x_setI, x_sIf, x_for, x_brk, x_cnt, b_lenT, b_lenL, b_tupL, b_tupT, b_max2, b_min2, o_addL, o_addT, cut_ints, sum_ints, s_chk, s_for, s_brk, s_cnt, s_retN, t_bool, g_rng, g_le, List.length_map]
    refine for_ok (b := 80) (fun _ E => ∃ e2 e4 e5 e6, E = [.unk, .stm, e2, .val (.tuple (ns.map PyData.int)), e4, e5, e6]) ⟨_, _, _, _, rfl⟩ (by rw [rng_len]; decide) ?_ (by rintro E ⟨e2, e4, e5, e6, rfl⟩; exact ⟨_, _, _, _, _, rfl⟩)
    rintro i d E hi ⟨e2, e4, e5, e6, rfl⟩
    refine ⟨_, rfl, ?_⟩
    try simp (disch := omega) only [x_var, x_con, x_bin, x_neg, x_cmp, x_chain, x_tTru, x_tNot, x_tAnd, x_tOr, x_tBool, x_tYes, x_not, x_and, x_or, x_if, x_b1, x_b2, x_is, x_idx, x_oNone, x_oSome, x_cut, x_aNil, x_aCons, x_tup, x_lst, x_call, x_callS,
    x_iSeq, x_iRng1, x_iRng2, x_bor, x_tBor, x_put1, List.map_cons, List.map_nil, List.cons_append, List.nil_append, List.length_cons, List.length_nil, Nat.zero_add, Nat.reduceAdd, Nat.reduceSub, List.reduceReplicate, start,
    List.getElem?_cons_zero, List.getElem?_cons_succ, List.set_cons_zero, List.set_cons_succ, bnd_ret, bnd_assoc, bnd_grd, b1_if, bnd_ite, small, Nat.reduceLeDiff, grd_true, o_add, o_sub, o_neg, o_eq, o_ne, o_lt, o_le, o_gt, o_ge, o_eqS, o_neS,
    decide_eq_true_eq, reduceIte, decide_true, decide_false, Bool.not_true, Bool.not_false, Bool.false_eq_true, itemsOf, asInt, endOf, isTy,
    grd_tt, nx_int, nx_bool, nx_str, nx_none, nx_tup, nx_lst, x_isC, x_fld, x_in, x_count, x_lstR, x_tupR, x_raise, x_star, bnd_thr, noX_ret, fld_x, exn_d, eSetO, Out.clear, List.zip_cons_cons, List.zip_nil_left, List.zip_nil_right, s_asg, s_par, s_own, s_parO, s_put, s_expr, s_ret, s_skip, s_seq, s_rel, x_asg, x_par, x_own, x_parO, x_put, x_expr, x_ret, x_retN, x_skip, x_rel, x_app, x_setI, x_sIf, x_for, x_brk, x_cnt, b_lenT, b_lenL, b_tupL, b_tupT, b_max2, b_min2, o_addL, o_addT, cut_ints, sum_ints, s_chk, s_for, s_brk, s_cnt, s_retN, t_bool, g_rng, g_le, List.length_map]
    refine Ok.bnd' 80 (near_row_0 rn) (by decide) ?_
    rintro r2 ⟨os, rfl, ro⟩
    have o1 := ro.one
    have o2 := ro.most
    obtain ⟨n, eno, hno⟩ := max_ints ro.one
    try simp (disch := omega) only [x_var, x_con, x_bin, x_neg, x_cmp, x_chain, x_tTru, x_tNot, x_tAnd, x_tOr, x_tBool, x_tYes, x_not, x_and, x_or, x_if, x_b1, x_b2, x_is, x_idx, x_oNone, x_oSome, x_cut, x_aNil, x_aCons, x_tup, x_lst, x_call, x_callS,
    x_iSeq, x_iRng1, x_iRng2, x_bor, x_tBor, x_put1, List.map_cons, List.map_nil, List.cons_append, List.nil_append, List.length_cons, List.length_nil, Nat.zero_add, Nat.reduceAdd, Nat.reduceSub, List.reduceReplicate, start,
    List.getElem?_cons_zero, List.getElem?_cons_succ, List.set_cons_zero, List.set_cons_succ, bnd_ret, bnd_assoc, bnd_grd, b1_if, bnd_ite, small, Nat.reduceLeDiff, grd_true, o_add, o_sub, o_neg, o_eq, o_ne, o_lt, o_le, o_gt, o_ge, o_eqS, o_neS,
    decide_eq_true_eq, reduceIte, decide_true, decide_false, Bool.not_true, Bool.not_false, Bool.false_eq_true, itemsOf, asInt, endOf, isTy,
    grd_tt, nx_int, nx_bool, nx_str, nx_none, nx_tup, nx_lst, x_isC, x_fld, x_in, x_count, x_lstR, x_tupR, x_raise, x_star, bnd_thr, noX_ret, fld_x, exn_d, eSetO, Out.clear, List.zip_cons_cons, List.zip_nil_left, List.zip_nil_right, s_asg, s_par, s_own, s_parO, s_put, s_expr, s_ret, s_skip, s_seq, s_rel, x_asg, x_par, x_own, x_parO, x_put, x_expr, x_ret, x_retN, x_skip, x_rel, x_app, x_setI, x_sIf, x_for, x_brk, x_cnt, b_lenT, b_lenL, b_tupL, b_tupT, b_max2, b_min2, o_addL, o_addT, cut_ints, sum_ints, s_chk, s_for, s_brk, s_cnt, s_retN, t_bool, g_rng, g_le, List.length_map, x_max3, ema, eno]
    refine Ok.bnd' 12 (width_drawn_0 a1 (by omega) hn) (by decide) ?_
    rintro wd ⟨v, rfl, v1, v2⟩
    try simp (disch := omega) only [x_var, x_con, x_bin, x_neg, x_cmp, x_chain, x_tTru, x_tNot, x_tAnd, x_tOr, x_tBool, x_tYes, x_not, x_and, x_or, x_if, x_b1, x_b2, x_is, x_idx, x_oNone, x_oSome, x_cut, x_aNil, x_aCons, x_tup, x_lst, x_call, x_callS,
    x_iSeq, x_iRng1, x_iRng2, x_bor, x_tBor, x_put1, List.map_cons, List.map_nil, List.cons_append, List.nil_append, List.length_cons, List.length_nil, Nat.zero_add, Nat.reduceAdd, Nat.reduceSub, List.reduceReplicate, start,
    List.getElem?_cons_zero, List.getElem?_cons_succ, List.set_cons_zero, List.set_cons_succ, bnd_ret, bnd_assoc, bnd_grd, b1_if, bnd_ite, small, Nat.reduceLeDiff, grd_true, o_add, o_sub, o_neg, o_eq, o_ne, o_lt, o_le, o_gt, o_ge, o_eqS, o_neS,
    decide_eq_true_eq, reduceIte, decide_true, decide_false, Bool.not_true, Bool.not_false, Bool.false_eq_true, itemsOf, asInt, endOf, isTy,
    grd_tt, nx_int, nx_bool, nx_str, nx_none, nx_tup, nx_lst, x_isC, x_fld, x_in, x_count, x_lstR, x_tupR, x_raise, x_star, bnd_thr, noX_ret, fld_x, exn_d, eSetO, Out.clear, List.zip_cons_cons, List.zip_nil_left, List.zip_nil_right, s_asg, s_par, s_own, s_parO, s_put, s_expr, s_ret, s_skip, s_seq, s_rel, x_asg, x_par, x_own, x_parO, x_put, x_expr, x_ret, x_retN, x_skip, x_rel, x_app, x_setI, x_sIf, x_for, x_brk, x_cnt, b_lenT, b_lenL, b_tupL, b_tupT, b_max2, b_min2, o_addL, o_addT, cut_ints, sum_ints, s_chk, s_for, s_brk, s_cnt, s_retN, t_bool, g_rng, g_le, List.length_map]
    have w1 : m ≤ max3I m n v := by unfold max3I; split <;> split <;> omega
    have w2 : n ≤ max3I m n v := by unfold max3I; split <;> split <;> omega
    generalize max3I m n v = w at w1 w2 ⊢
    have l1 := max_long ema w1
    have l2 := max_long eno w2
    have p1 : ∀ x ∈ ns, 1 ≤ x := fun x hx => (hn x hx).1
    have p2 : ∀ x ∈ os, 1 ≤ x := fun x hx => (ro.words x hx).1
    have q1 := right_7 l1 l2 a1 (by omega) o1 (by omega) p1 p2
    have q2 := right_7 l2 l1 o1 (by omega) a1 (by omega) p2 p1
    have q3 := meeting_N l1 l1 a1 (by omega) a1 (by omega)
    rw [meet_self] at q3
    have q4 : opCmp .ne (meetD (some (0, 0))) (.tuple [.int 0, .int 0]) = ret false := o_neT [0, 0] [0, 0]
    try simp (disch := omega) only [x_var, x_con, x_bin, x_neg, x_cmp, x_chain, x_tTru, x_tNot, x_tAnd, x_tOr, x_tBool, x_tYes, x_not, x_and, x_or, x_if, x_b1, x_b2, x_is, x_idx, x_oNone, x_oSome, x_cut, x_aNil, x_aCons, x_tup, x_lst, x_call, x_callS,
    x_iSeq, x_iRng1, x_iRng2, x_bor, x_tBor, x_put1, List.map_cons, List.map_nil, List.cons_append, List.nil_append, List.length_cons, List.length_nil, Nat.zero_add, Nat.reduceAdd, Nat.reduceSub, List.reduceReplicate, start,
    List.getElem?_cons_zero, List.getElem?_cons_succ, List.set_cons_zero, List.set_cons_succ, bnd_ret, bnd_assoc, bnd_grd, b1_if, bnd_ite, small, Nat.reduceLeDiff, grd_true, o_add, o_sub, o_neg, o_eq, o_ne, o_lt, o_le, o_gt, o_ge, o_eqS, o_neS,
    decide_eq_true_eq, reduceIte, decide_true, decide_false, Bool.not_true, Bool.not_false, Bool.false_eq_true, itemsOf, asInt, endOf, isTy,
    grd_tt, nx_int, nx_bool, nx_str, nx_none, nx_tup, nx_lst, x_isC, x_fld, x_in, x_count, x_lstR, x_tupR, x_raise, x_star, bnd_thr, noX_ret, fld_x, exn_d, eSetO, Out.clear, List.zip_cons_cons, List.zip_nil_left, List.zip_nil_right, s_asg, s_par, s_own, s_parO, s_put, s_expr, s_ret, s_skip, s_seq, s_rel, x_asg, x_par, x_own, x_parO, x_put, x_expr, x_ret, x_retN, x_skip, x_rel, x_app, x_setI, x_sIf, x_for, x_brk, x_cnt, b_lenT, b_lenL, b_tupL, b_tupT, b_max2, b_min2, o_addL, o_addT, cut_ints, sum_ints, s_chk, s_for, s_brk, s_cnt, s_retN, t_bool, g_rng, g_le, List.length_map, s_if, q1, q2, q3, q4, tru]
    exact Ok.ret ⟨_, _, _, _, rfl⟩
  · try simp only [x_var, x_con, x_bin, x_neg, x_cmp, x_chain, x_tTru, x_tNot, x_tAnd, x_tOr, x_tBool, x_tYes, x_not, x_and, x_or, x_if, x_b1, x_b2, x_is, x_idx, x_oNone, x_oSome, x_cut, x_aNil, x_aCons, x_tup, x_lst, x_call, x_callS,
    x_iSeq, x_iRng1, x_iRng2, x_bor, x_tBor, x_put1, List.map_cons, List.map_nil, List.cons_append, List.nil_append, List.length_cons, List.length_nil, Nat.zero_add, Nat.reduceAdd, Nat.reduceSub, List.reduceReplicate, start,
    List.getElem?_cons_zero, List.getElem?_cons_succ, List.set_cons_zero, List.set_cons_succ, bnd_ret, bnd_assoc, bnd_grd, b1_if, bnd_ite, small, Nat.reduceLeDiff, grd_true, o_add, o_sub, o_neg, o_eq, o_ne, o_lt, o_le, o_gt, o_ge, o_eqS, o_neS,
    decide_eq_true_eq, reduceIte, decide_true, decide_false, Bool.not_true, Bool.not_false, Bool.false_eq_true, itemsOf, asInt, endOf, isTy,
    grd_tt, nx_int, nx_bool, nx_str, nx_none, nx_tup, nx_lst, x_isC, x_fld, x_in, x_count, x_lstR, x_tupR, x_raise, x_star, bnd_thr, noX_ret, fld_x, exn_d, eSetO, Out.clear, List.zip_cons_cons, List.zip_nil_left, List.zip_nil_right, s_asg, s_par, s_own, s_parO, s_put, s_expr, s_ret, s_skip, s_seq, s_rel, x_asg, x_par, x_own, x_parO, x_put, x_expr, x_ret, x_retN, x_skip, x_rel, x_app, x_setI, x_sIf, x_for, x_brk, x_cnt, b_lenT, b_lenL, b_tupL, b_tupT, b_max2, b_min2, o_addL, o_addT, cut_ints, sum_ints, s_chk, s_for, s_brk, s_cnt, s_retN, t_bool, g_rng, g_le, List.length_map]
    exact Ok.ret rfl
end DL.A52
namespace DL
theorem math_k52 : Wk52.m_law (lawE 7 1) (.z 0) (fun o _ => o = .rt (.bool true)) (fun _ _ => False) := A52.math_k52
end DL
end
theorem PySem.Challenge.cw_wrapwidths_k52_whole_lines_behind_a_meet_holds : PySem.Challenge.rw_wrapwidths_k52_whole_lines_behind_a_meet.Holds :=
  Wk52.end_ DL.math_k52
