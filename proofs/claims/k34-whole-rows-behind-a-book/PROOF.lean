import PyProof.Rows.All
import Wide.All
import OpenK.AllK
import Wide.FinOn
import HandS.ForMost
import HandS.HeadHook1
import HandS.HeadHook2
import KE.KExcInit
import KE.KExcIs
import HandS.ExcIs
import HandS.IsInst
import HandS.ExcCtx
import HandS.SuiteRaise
import HandS.WordsExc
import HandS.ForExc
import HandS.Walk
import HandS.Conv
import HandS.Flow
import HandS.TupAny
import HandS.TupMul
import HandS.Style
import HandS.Wide
import KE.KTupSum
import KE.DataMinMax
import HandS.NoneIn
import HandS.Defaults
import HandS.CallSlots
import HandS.Lambda
import HandS.EndBits
import KE.GoesEnum
import KE.GoesMore
import HandS.Star
import HandS.RaiseMore
import HandS.RaiseFrom
import KE.KExcHand
import KE.KTryMore
import HandS.HeadEnd
import HandS.Head0
import HandS.Head1
import HandS.Head2
import HandS.More
import PyProof.MaxThree
import HandS.Zip
import HandS.Strs
import HandS.Iter
import HandS.Text
import HandS.SortInts
import HandS.FStr
import KE.KUnpack
import PyProof.CollectIter
import HandS.Property
import OpenK.KOps
import OpenK.KMeth
import KE.KOpsOwn
import KE.KCallOwn
import HandS.ClsMeth
import HandS.HeadNt
import KE.KUnpackStar
import HandS.HotCalls
import HandS.Finally
import PyProof.Rows.TupIter
import PyProof.RulesMatch
import HandS.Comp
import KE.KSuper
import PyProof.EqKinds
import PyProof.InstNe
import PyProof.FactsAll.dict_1
import HandS.HeadHook3
import HandS.GenBody
import HandS.GenYield
import PyProof.ForAny
import HandS.GenCall
import HandS.GenList
import KE.KDictZip
import HandS.RevRange
import HandS.EndTab
import HandS.GenOver
import HandS.SetFor
import KE.SortData
import HandS.TupSets
import PySem.Challenge.RW_wrapwidths_k34_whole_rows_behind_a_book
import PyProof.Rows.StrCase
import PyProof.Rows.ReprOcc
set_option Elab.async false
set_option linter.all false
set_option maxRecDepth 100000
set_option maxHeartbeats 0
section
namespace DL
open PySem
abbrev D := PyData
/-- an error: its class by name, its fields by name -/
structure Exn where
  cls : Str
  fs : List (Str × D)
/-- what stands in a cell: a list that is changed, an object with fields -/
inductive Cell where
  | lst (ds : List D)
  | ins (cls : Str) (fs : List (Str × D))
  | tab (x : Str)
/-- the fields that objects with cells have -/
def fldN : List Str := ["now", "states", "done", "wanted", "is_busy", "rows", "page", "pairs"]
/-- where a run stands: how many draws were made so far; the cells -/
structure Sx where
  n : Nat
  mu : Nat → Option Cell
/-- one draw more -/
def Sx.up (c : Sx) : Sx := ⟨c.n + 1, c.mu⟩
/-- no cell -/
def Sx.z (n : Nat) : Sx := ⟨n, fun _ => none⟩
abbrev W (α : Type) := Sx → (α → Sx → Prop) → (Exn → Sx → Prop) → Prop
def ret {α : Type} (a : α) : W α := fun n P _ => P a n
def bnd {α β : Type} (m : W α) (f : α → W β) : W β := fun n P X => m n (fun a n' => f a n' P X) X
def stuck {α : Type} : W α := fun _ _ _ => False
def grd {α : Type} (c : Prop) (m : W α) : W α := fun n P X => c ∧ m n P X
def thr {α : Type} (e : Exn) : W α := fun n _ X => X e n
@[simp] theorem bnd_ret {α β : Type} (a : α) (f : α → W β) : bnd (ret a) f = f a := id rfl
@[simp] theorem bnd_stuck {α β : Type} (f : α → W β) : bnd stuck f = stuck := rfl
@[simp] theorem bnd_thr {α β : Type} (e : Exn) (f : α → W β) : bnd (thr e) f = thr e := id rfl
theorem grd_pos {α : Type} {c : Prop} (h : c) (m : W α) : grd c m = m := by
  funext n P X
  exact propext ⟨fun q => q.2, fun q => ⟨h, q⟩⟩
@[simp] theorem grd_true {α : Type} (m : W α) : grd True m = m := grd_pos True.intro m
theorem bnd_grd {α β : Type} {c : Prop} (m : W α) (f : α → W β) : bnd (grd c m) f = grd c (bnd m f) := rfl
/-- what a slot is known to hold: nothing, a value, a list of its own, the stream -/
inductive Ent where
  | unk
  | val (d : D)
  | own (ds : List D)
  | stm
  | scr (ns : List Int)
abbrev Env := List Ent
mutual
/-- no list, no dict within -/
def flat : D → Bool
  | .none => true
  | .bool _ => true
  | .int _ => true
  | .str _ => true
  | .tuple xs => flatAll xs
  | .list _ => false
  | .dict [(.none, .bool true), (.none, .int _)] => true
  | .dict _ => false
def flatAll : List D → Bool
  | [] => true
  | x :: xs => flat x && flatAll xs
end
mutual
/-- what may be shown: no exception within; dicts of at most one entry -/
def plain : D → Bool
  | .none => true
  | .bool _ => true
  | .int _ => true
  | .str _ => true
  | .tuple xs => plainAll xs
  | .list xs => plainAll xs
  | .dict [] => true
  | .dict [(.str _, d)] => plain d
  | .dict _ => false
def plainAll : List D → Bool
  | [] => true
  | x :: xs => plain x && plainAll xs
end
/-- an exception as data: its class by name, its fields -/
def xD (n : Str) (fs : List (Str × D)) : D := .dict ((.none, .str n) :: fs.map fun q => (.str q.1, q.2))
/-- an instance of WordRow as data: what it holds -/
def wD (d : D) : D := .dict [(.none, .int 0), (.str "held", d)]
/-- a cell's place, as data -/
def rD (a : Nat) : D := .dict [(.none, .bool true), (.none, .int (a : Int))]
/-- not an exception, no instance -/
def noXn : D → Bool
  | .dict ((.none, _) :: _) => false
  | _ => true
/-- sizes that the machine lets pass -/
def small (n : Nat) : Prop := n ≤ 1000000
def mulOk (i j : Int) : Prop := (-(2 ^ 64) < i ∧ i < 2 ^ 64) ∨ (-(2 ^ 64) < j ∧ j < 2 ^ 64)
def rep (k : Int) (xs : List D) : List D := (List.replicate k.toNat xs).flatten
def b2i (b : Bool) : Int := if b = true then 1 else 0
def opAdd : D → D → W D
  | .int a, .int b => ret (.int (a + b))
  | .bool a, .int b => ret (.int (b2i a + b))
  | .tuple xs, .tuple ys => grd (small (xs.length + ys.length)) (ret (.tuple (xs ++ ys)))
  | .list xs, .list ys => grd (small (xs.length + ys.length)) (ret (.list (xs ++ ys)))
  | .str x, .str y => grd (x.length + y.length ≤ 1000000) (ret (.str (x ++ y)))
  | _, _ => stuck
def opSub : D → D → W D
  | .int a, .int b => ret (.int (a - b))
  | .bool a, .int b => ret (.int (b2i a - b))
  | _, _ => stuck
def opMul : D → D → W D
  | .int a, .int b => grd (mulOk a b) (ret (.int (a * b)))
  | .tuple xs, .int k => grd (xs ≠ [] ∧ 0 ≤ k ∧ k ≤ 1000 ∧ xs.length ≤ 1000) (ret (.tuple (rep k xs)))
  | .list xs, .int k => grd (0 ≤ k ∧ k ≤ 1000 ∧ xs.length ≤ 1000) (ret (.list (rep k xs)))
  | _, _ => stuck
def opFdiv : D → D → W D
  | .int a, .int b => grd (0 < b ∧ b < 9223372036854775808) (ret (.int (a / b)))
  | _, _ => stuck
def opMod : D → D → W D
  | .int a, .int b => grd (0 < b) (ret (.int (a % b)))
  | _, _ => stuck
def opPow : D → D → W D
  | .int a, .int b => grd (0 ≤ b ∧ b ≤ 1000 ∧ a.natAbs < 2 ^ 64) (ret (.int (a ^ b.toNat)))
  | _, _ => stuck
def opShl : D → D → W D
  | .int a, .int b => grd (0 ≤ b ∧ b ≤ 1000 ∧ a.natAbs < 2 ^ 64) (ret (.int (a * 2 ^ b.toNat)))
  | _, _ => stuck
def opNeg : D → W D
  | .int a => ret (.int (-a))
  | _ => stuck
/-- truth -/
def tru : D → W Bool
  | .none => ret false
  | .bool b => ret b
  | .int i => ret (i != 0)
  | .str x => grd (x.length ≤ 1000000) (ret ((x.length : Int) != 0))
  | .tuple xs => ret (!xs.isEmpty)
  | .list xs => ret (!xs.isEmpty)
  | .dict _ => stuck
/-- a list or a small dict against the empty tuple -/
def vsNil : D → D → Bool
  | .list _, .tuple [] => true
  | .dict [], .tuple [] => true
  | .dict [(.str _, _)], .tuple [] => true
  | _, _ => false
def eqOk : D → D → Prop
  | .str _, .str _ => True
  | .list _, .list [] => True
  | .tuple _, .tuple [] => True
  | a, b => vsNil a b = true ∨ (SeqAt.shaped a = true ∧ SeqAt.shaped b = true)
def opEq (a b : D) : W Bool := grd (eqOk a b) (ret (PyData.eqv a b))
theorem eqOk_of {a b : D} (h : SeqAt.shaped a = true) (h2 : SeqAt.shaped b = true) : eqOk a b := by
  unfold eqOk
  split
  · exact True.intro
  · exact True.intro
  · exact True.intro
  · exact .inr ⟨h, h2⟩
def opLt : D → D → W Bool
  | .int a, .int b => ret (decide (a < b))
  | _, _ => stuck
def opLe : D → D → W Bool
  | .int a, .int b => ret (decide (a ≤ b))
  | _, _ => stuck
def isNone : D → Bool
  | .none => true
  | _ => false
/-- is: against None, or two bools -/
def isOpOk : D → D → Prop
  | .bool _, .bool _ => True
  | _, b => b = .none
def isOpV : D → D → Bool
  | .bool a, .bool b => decide (a = b)
  | a, _ => isNone a
theorem isOpOk_none (a : D) : isOpOk a .none := by
  cases a <;> rfl
theorem isOpV_none (a : D) : isOpV a .none = isNone a := by
  cases a <;> rfl
inductive Cmp where
  | eq | ne | lt | le | gt | ge | isN | notN
def opCmp : Cmp → D → D → W Bool
  | .eq, a, b => opEq a b
  | .ne, a, b => bnd (opEq a b) fun c => ret (!c)
  | .lt, a, b => opLt a b
  | .le, a, b => opLe a b
  | .gt, a, b => opLt b a
  | .ge, a, b => opLe b a
  | .isN, a, b => grd (isOpOk a b) (ret (isOpV a b))
  | .notN, a, b => grd (isOpOk a b) (ret (!isOpV a b))
inductive Op where
  | add | sub | mul | fdiv | mod | pow | shl
/-- what is asked of is -/
theorem isN_none (a : D) : opCmp .isN a .none = ret (isNone a) := by
  show grd (isOpOk a .none) (ret (isOpV a .none)) = _
  rw [grd_pos (isOpOk_none a), isOpV_none]
theorem notN_none (a : D) : opCmp .notN a .none = ret (!isNone a) := by
  show grd (isOpOk a .none) (ret (!isOpV a .none)) = _
  rw [grd_pos (isOpOk_none a), isOpV_none]
def opBin : Op → D → D → W D
  | .add => opAdd
  | .sub => opSub
  | .mul => opMul
  | .fdiv => opFdiv
  | .mod => opMod
  | .pow => opPow
  | .shl => opShl
/-- the items of a sequence -/
def itemsOf : D → W (List D)
  | .tuple xs => ret xs
  | .list xs => ret xs
  | _ => stuck
def opIdx : D → D → W D
  | .tuple xs, .int i => match L2.atI xs i with | some d => ret d | none => stuck
  | .list xs, .int i => match L2.atI xs i with | some d => ret d | none => stuck
  | _, _ => stuck
/-- a part's bound: an int, or none written -/
def sIx (n d : Nat) : Option Int → Nat := HT.sIx n d
def cut (xs : List D) (lo hi : Option Int) : List D := (xs.drop (HT.sIx xs.length 0 lo)).take (HT.sIx xs.length xs.length hi - HT.sIx xs.length 0 lo)
def opCut : D → Option Int → Option Int → W D
  | .tuple xs, lo, hi => ret (.tuple (cut xs lo hi))
  | .list xs, lo, hi => ret (.list (cut xs lo hi))
  | .str x, lo, hi => grd (x.length ≤ 1000000) (ret (.str (L2.cutS x lo hi)))
  | _, _, _ => stuck
def asInt : D → W Int
  | .int i => ret i
  | _ => stuck
/-- the ints of a list of ints -/
def ints? : List D → Option (List Int)
  | [] => some []
  | .int i :: r => (ints? r).map (i :: ·)
  | _ :: _ => none
def bools? : List D → Option (List Bool)
  | [] => some []
  | .bool i :: r => (bools? r).map (i :: ·)
  | _ :: _ => none
theorem ints?_map (ns : List Int) : ints? (ns.map PyData.int) = some ns := by
  induction ns with
  | nil => rfl
  | cons a r ih => simp [ints?, ih]
theorem ints?_eq : ∀ {ds : List D} {ns : List Int}, ints? ds = some ns → ds = ns.map PyData.int
  | [], ns, h => by simp [ints?] at h; subst h; rfl
  | .int i :: r, ns, h => by
    simp only [ints?, Option.map_eq_some_iff] at h
    obtain ⟨l, h1, rfl⟩ := h
    rw [ints?_eq h1]; rfl
  | .none :: r, ns, h => by simp [ints?] at h
  | .bool _ :: r, ns, h => by simp [ints?] at h
  | .str _ :: r, ns, h => by simp [ints?] at h
  | .list _ :: r, ns, h => by simp [ints?] at h
  | .tuple _ :: r, ns, h => by simp [ints?] at h
  | .dict _ :: r, ns, h => by simp [ints?] at h
theorem bools?_map (ns : List Bool) : bools? (ns.map PyData.bool) = some ns := by
  induction ns with
  | nil => rfl
  | cons a r ih => simp [bools?, ih]
theorem bools?_eq : ∀ {ds : List D} {ns : List Bool}, bools? ds = some ns → ds = ns.map PyData.bool
  | [], ns, h => by simp [bools?] at h; subst h; rfl
  | .bool i :: r, ns, h => by
    simp only [bools?, Option.map_eq_some_iff] at h
    obtain ⟨l, h1, rfl⟩ := h
    rw [bools?_eq h1]; rfl
  | .none :: r, ns, h => by simp [bools?] at h
  | .int _ :: r, ns, h => by simp [bools?] at h
  | .str _ :: r, ns, h => by simp [bools?] at h
  | .list _ :: r, ns, h => by simp [bools?] at h
  | .tuple _ :: r, ns, h => by simp [bools?] at h
  | .dict _ :: r, ns, h => by simp [bools?] at h
def greatest (a : Int) (l : List Int) : Int := l.foldl max a
def least (a : Int) (l : List Int) : Int := l.foldl min a
inductive B1 where
  | len | sum | max | min | abs | repr | str | tuple | list | all | any | sorted | bool | int
def showOk (d : D) : Prop := PyData.showable d = true ∧ PyData.depth d ≤ 40 ∧ (PyData.shown d).length ≤ 1000000 ∧ plain d = true
def intsOf (d : D) : W (List Int) := bnd (itemsOf d) fun xs => match ints? xs with | some ns => ret ns | none => stuck
def bi1 : B1 → D → W D
  | .len, .tuple xs => ret (.int xs.length)
  | .len, .list xs => ret (.int xs.length)
  | .len, .str x => grd (x.length ≤ 1000000) (ret (.int x.length))
  | .len, _ => stuck
  | .sum, d => bnd (intsOf d) fun ns => ret (.int ns.sum)
  | .max, d => bnd (intsOf d) fun ns => match ns with | [] => stuck | a :: r => ret (.int (greatest a r))
  | .min, d => bnd (intsOf d) fun ns => match ns with | [] => stuck | a :: r => ret (.int (least a r))
  | .abs, .int i => ret (.int (if i < 0 then -i else i))
  | .abs, _ => stuck
  | .repr, d => grd (showOk d) (ret (.str (PyData.shown d)))
  | .str, .int i => grd (i.natAbs.log2 < 1920) (ret (.str (toString i)))
  | .str, .str x => ret (.str x)
  | .str, .bool b => ret (.str (if b = true then "True" else "False" : String))
  | .str, _ => stuck
  | .tuple, d => bnd (itemsOf d) fun xs => ret (.tuple xs)
  | .list, d => bnd (itemsOf d) fun xs => ret (.list xs)
  | .all, .list xs => match bools? xs with | some bs => ret (.bool (bs.all id)) | none => stuck
  | .all, _ => stuck
  | .any, .list xs => match bools? xs with | some bs => ret (.bool (bs.any id)) | none => stuck
  | .any, _ => stuck
  | .sorted, _ => stuck
  | .bool, _ => stuck
  | .int, .int i => ret (.int i)
  | .int, .bool b => ret (.int (if b then 1 else 0))
  | .int, _ => stuck
inductive B2 where
  | max | min
def bi2 : B2 → D → D → W D
  | .max, .int i, .int j => ret (.int (if j > i then j else i))
  | .min, .int i, .int j => ret (.int (if j < i then j else i))
  | _, _, _ => stuck
/-- isinstance by a built-in type's name -/
def tyName : D → String
  | .none => "NoneType"
  | .bool _ => "bool"
  | .int _ => "int"
  | .str _ => "str"
  | .tuple _ => "tuple"
  | .list _ => "list"
  | .dict _ => "dict"
inductive Ty where
  | int | bool | tuple | str | list | dict
def isTy : Ty → D → Bool
  | .int, .int _ => true
  | .int, .bool _ => true
  | .bool, .bool _ => true
  | .tuple, .tuple _ => true
  | .str, .str _ => true
  | .list, .list _ => true
  | .dict, .dict _ => true
  | _, _ => false
abbrev XE := Env → W D
abbrev XT := Env → W Bool
abbrev XA := Env → W (List D)
def eVar (i : Nat) : XE := fun E => match E[i]? with | some (.val d) => ret d | _ => stuck
def eCon (d : D) : XE := fun _ => ret d
def eBin (o : Op) (a b : XE) : XE := fun E => bnd (a E) fun x => bnd (b E) fun y => opBin o x y
def eNeg (a : XE) : XE := fun E => bnd (a E) opNeg
def eCmp (o : Cmp) (a b : XE) : XE := fun E => bnd (a E) fun x => bnd (b E) fun y => bnd (opCmp o x y) fun c => ret (.bool c)
/-- a o b o' c, o(a, b) first -/
def eChain (o o' : Cmp) (a b c : XE) : XE := fun E => bnd (a E) fun x => bnd (b E) fun y => bnd (opCmp o x y) fun k => if k = true then bnd (c E) fun z => bnd (opCmp o' y z) fun k' => ret (.bool k') else ret (.bool false)
/-- a test: the truth of a value -/
def tTru (a : XE) : XT := fun E => bnd (a E) tru
def tNot (t : XT) : XT := fun E => bnd (t E) fun c => ret (!c)
def tAnd (t u : XT) : XT := fun E => bnd (t E) fun c => if c = true then u E else ret false
def tOr (t u : XT) : XT := fun E => bnd (t E) fun c => if c = true then ret true else u E
/-- .. as values -/
def eNot (a : XE) : XE := fun E => bnd (a E) fun x => bnd (tru x) fun c => ret (.bool (!c))
def eAnd (a b : XE) : XE := fun E => bnd (a E) fun x => bnd (tru x) fun c => if c = true then b E else ret x
def eOr (a b : XE) : XE := fun E => bnd (a E) fun x => bnd (tru x) fun c => if c = true then ret x else b E
def eIf (t : XT) (a b : XE) : XE := fun E => bnd (t E) fun c => if c = true then a E else b E
def eB1 (f : B1) (a : XE) : XE := fun E => bnd (a E) (bi1 f)
def eB2 (f : B2) (a b : XE) : XE := fun E => bnd (a E) fun x => bnd (b E) fun y => bi2 f x y
def eIs (t : Ty) (a : XE) : XE := fun E => bnd (a E) fun x => grd (noXn x = true) (ret (.bool (isTy t x)))
def eIdx (a b : XE) : XE := fun E => bnd (a E) fun x => bnd (b E) fun y => opIdx x y
abbrev XO := Env → W (Option Int)
def oNone : XO := fun _ => ret none
def oSome (a : XE) : XO := fun E => bnd (a E) fun x => bnd (asInt x) fun i => ret (some i)
def eCut (a : XE) (lo hi : XO) : XE := fun E => bnd (a E) fun x => bnd (lo E) fun l => bnd (hi E) fun h => opCut x l h
def opRev : D → W D
  | .tuple xs => ret (.tuple xs.reverse)
  | .list xs => ret (.list xs.reverse)
  | _ => stuck
def eRev (a : XE) : XE := fun E => bnd (a E) opRev
def aNil : XA := fun _ => ret []
def aCons (a : XE) (r : XA) : XA := fun E => bnd (a E) fun x => bnd (r E) fun xs => ret (x :: xs)
/-- *a, .. -/
def aStar (a : XE) (r : XA) : XA := fun E => bnd (a E) fun x => bnd (itemsOf x) fun ys => bnd (r E) fun xs => ret (ys ++ xs)
def eTup (a : XA) : XE := fun E => bnd (a E) fun xs => grd (small xs.length) (ret (.tuple xs))
def eLst (a : XA) : XE := fun E => bnd (a E) fun xs => grd (small xs.length) (ret (.list xs))
/-- a call of a def: what it does of its arguments -/
abbrev Fn := List D → W D
def eCall (f : Fn) (a : XA) : XE := fun E => bnd (a E) f
/-- a call whose first argument is the stream -/
def eCallS (f : Fn) (s : Nat) (a : XA) : XE := fun E => match E[s]? with | some .stm => bnd (a E) f | _ => stuck
/-- a draw -/
def draw (many : Int) : W D := fun n P _ => (0 < many ∧ many < 9223372036854775808 ∧ n.n < 2 ^ 40) ∧ ∀ r : Int, 0 ≤ r → r < many → P (.int r) n.up
def fDraw : Fn := fun ds => match ds with
  | [.int many] => draw many
  | _ => stuck
/-- what a loop walks -/
def iScr (i : Nat) : XA := fun E => match E[i]? with | some (.scr ns) => ret (ns.map PyData.int) | _ => stuck
def iSeq (a : XE) : XA := fun E => bnd (a E) itemsOf
def rng (a b : Int) : List D := (List.range (b - a).toNat).map fun (i : Nat) => PyData.int (a + (i : Int))
def rngOk (a b : Int) : Prop := -(2 ^ 60) < a ∧ a < 2 ^ 60 ∧ -(2 ^ 60) < b ∧ b < 2 ^ 60
def iRng1 (a : XE) : XA := fun E => bnd (a E) fun x => bnd (asInt x) fun n => grd (rngOk 0 n) (ret (rng 0 n))
def iRng2 (a b : XE) : XA := fun E => bnd (a E) fun x => bnd (b E) fun y => bnd (asInt x) fun n => bnd (asInt y) fun m => grd (rngOk n m) (ret (rng n m))
/-- list(range(..)), tuple(range(..)) -/
def eLstR (a : XA) : XE := fun E => bnd (a E) fun xs => grd (small xs.length) (ret (.list xs))
def eTupR (a : XA) : XE := fun E => bnd (a E) fun xs => grd (small xs.length) (ret (.tuple xs))
/-- a target: a name, names -/
inductive Tg where
  | nm (i : Nat)
  | tp (is : List Nat)
  | pr (a b : Tg)
def setAll : List Nat → List D → Env → Option Env
  | [], [], E => some E
  | i :: is, d :: ds, E => setAll is ds (E.set i (.val d))
  | _, _, _ => none
def Tg.put : Tg → D → Env → Option Env
  | .nm i, d, E => some (E.set i (.val d))
  | .tp is, .tuple ds, E => setAll is ds E
  | .tp is, .list ds, E => setAll is ds E
  | .tp _, _, _ => none
  | .pr a b, .tuple [d, e], E => match a.put d E with
    | some E1 => b.put e E1
    | none => none
  | .pr _ _, _, _ => none
/-- a list comprehension: its own names at vs; no error may leave it -/
def wipeE (E : Env) : List Nat → Env
  | [] => E
  | v :: vs => (wipeE E vs).set v .unk
def noX {α : Type} (m : W α) : W α := fun n P _ => m n P fun _ _ => False
@[simp] theorem noX_ret {α : Type} (a : α) : noX (ret a) = ret a := rfl
def compL (tg : Tg) (t : XT) (e : XE) : List D → List D → Env → W (List D)
  | [], acc, _ => ret acc
  | d :: ds, acc, E => match tg.put d E with
    | none => stuck
    | some E1 => bnd (t E1) fun c => if c = true then bnd (e E1) fun y => grd (small acc.length) (compL tg t e ds (acc ++ [y]) E) else compL tg t e ds acc E
def eComp (it : XA) (tg : Tg) (t : XT) (e : XE) (vs : List Nat) : XE := fun E => bnd (it E) fun ds => bnd (noX (compL tg t e ds [] (wipeE E vs))) fun ys => ret (.list ys)
def tYes : XT := fun _ => ret true
/-- an expression that reads the own list at i: what comes has no list within -/
def eBor (i : Nat) (e : XE) : XE := fun E => match E[i]? with
  | some (.own ds) => bnd (e (E.set i (.val (.list ds)))) fun d => grd (flat d = true) (ret d)
  | _ => e E
def tBor (i : Nat) (t : XT) : XT := fun E => match E[i]? with
  | some (.own ds) => t (E.set i (.val (.list ds)))
  | _ => t E
inductive Out where
  | nx (E : Env)
  | rt (d : D)
  | bk (E : Env)
  | ct (E : Env)
abbrev XS := Env → W Out
def sSeq (a b : XS) : XS := fun E => bnd (a E) fun o => match o with
  | .nx E' => b E'
  | o => ret o
def sSkip : XS := fun E => ret (.nx E)
def sAsg (i : Nat) (e : XE) : XS := fun E => bnd (e E) fun d => ret (.nx (E.set i (.val d)))
def sPut (tg : Tg) (e : XE) : XS := fun E => bnd (e E) fun d => match tg.put d E with
  | some E' => ret (.nx E')
  | none => stuck
/-- a, b = x, y -/
def sPar (i j : Nat) (a b : XE) : XS := fun E => bnd (a E) fun x => bnd (b E) fun y => ret (.nx ((E.set i (.val x)).set j (.val y)))
/-- name = a new list -/
def sOwn (i : Nat) (e : XE) : XS := fun E => bnd (e E) fun d => match d with
  | .list ds => ret (.nx (E.set i (.own ds)))
  | _ => stuck
/-- the own list at i is from here on a value -/
def sRel (i : Nat) (s : XS) : XS := fun E => match E[i]? with
  | some (.own ds) => s (E.set i (.val (.list ds)))
  | _ => s E
def sApp (i : Nat) (e : XE) : XS := fun E => match E[i]? with
  | some (.own ds) => bnd (e E) fun d => grd (small ds.length) (ret (.nx (E.set i (.own (ds ++ [d])))))
  | _ => stuck
/-- xs[k] = e at the own list at i -/
def sSet (i : Nat) (k e : XE) : XS := fun E => match E[i]? with
  | some (.own ds) => bnd (e E) fun d => bnd (k E) fun n => match n with
    | .int z => match L2.ixN ds.length z with
      | some j => ret (.nx (E.set i (.own (ds.set j d))))
      | none => stuck
    | _ => stuck
  | _ => stuck
def sIf (t : XT) (a b : XS) : XS := fun E => bnd (t E) fun c => if c = true then a E else b E
def forL (tg : Tg) (s : XS) : List D → XS
  | [], E => ret (.nx E)
  | d :: ds, E => match tg.put d E with
    | none => stuck
    | some E1 => bnd (s E1) fun o => match o with
      | .nx E' => forL tg s ds E'
      | .ct E' => forL tg s ds E'
      | .bk E' => ret (.nx E')
      | .rt d => ret (.rt d)
def sFor (it : XA) (tg : Tg) (s : XS) : XS := fun E => bnd (it E) fun ds => forL tg s ds E
def whileL (t : XT) (s : XS) : Nat → XS
  | 0, _ => stuck
  | n + 1, E => bnd (t E) fun c => if c = true then bnd (s E) fun o => match o with
      | .nx E' => whileL t s n E'
      | .ct E' => whileL t s n E'
      | .bk E' => ret (.nx E')
      | .rt d => ret (.rt d)
    else ret (.nx E)
def sWhile (t : XT) (s : XS) : XS := fun E c P X => ∃ n, whileL t s n E c P X
def sRet (e : XE) : XS := fun E => bnd (e E) fun d => ret (.rt d)
def sRetN : XS := fun _ => ret (.rt .none)
def sExpr (e : XE) : XS := fun E => bnd (e E) fun _ => ret (.nx E)
def sBreak : XS := fun E => ret (.bk E)
def sCont : XS := fun E => ret (.ct E)
/-- raise C(f = e) -/
def sRaise (cls : Str) (fs : List Str) (a : XA) : XS := fun E => bnd (a E) fun xs => thr ⟨cls, fs.zip xs⟩
/-- a def: so many parameters, so many slots, its body -/
def endOf : Out → W D
  | .rt d => ret d
  | .nx _ => ret .none
  | _ => stuck
def start (n : Nat) (E : Env) : Env := E ++ List.replicate (n - E.length) .unk
def fn (k n : Nat) (s : XS) : Fn := fun ds => grd (ds.length = k) (bnd (s (start n (ds.map .val))) endOf)
/-- .. whose first parameter is the stream -/
def fnS (k n : Nat) (s : XS) : Fn := fun ds => grd (ds.length + 1 = k) (bnd (s (start n (.stm :: ds.map .val))) endOf)
end DL
end
section
namespace DL
open PySem PySem.Spec PyProof.Rows L2
/-- the fields' names -/
inductive Fl where
  | limit | place | value | error | index
def Fl.s : Fl → Str
  | .limit => "limit"
  | .place => "place"
  | .value => "value"
  | .error => "error"
  | .index => "index"
def Fl.all : List Fl := [.limit, .place, .value, .error, .index]
theorem Fl.mem : ∀ f : Fl, f ∈ Fl.all := fun f => by cases f <;> simp [Fl.all]
def wrapN : List Str := ["NoStretch", "NoRows", "TooMany", "TooNarrow", "NoBreaking", "NoCount", "Contradictory", "BadLength", "LastWord", "BadRow", "BadTimes", "TooLong", "TooManyEdits", "NothingToUndo", "BadEdits", "BadEdit", "Rejected", "Busy", "BadText"]
def lookN : List Str := ["NoPlace", "NoLine", "NoWidth", "NoVersion"]
def isBlt (m : Str) : Bool := m == "ValueError" || m == "LookupError"
/-- is an error of the class n one of the class m -/
def subC (n m : Str) : Bool := n == m || ((m == "WrapError" || m == "ValueError") && wrapN.contains n) || (m == "LookupError" && lookN.contains n)
def allN : List Str := "WrapError" :: "ValueError" :: "LookupError" :: (wrapN ++ lookN)
/-- a class's name as a value -/
def clsV (K : PySem.W.Frag) (m : Str) : Value := if m == "ValueError" then .type "ValueError" else if m == "LookupError" then .type "LookupError" else .ref (He.ga K m)
/-- the module has it -/
def here (K : PySem.W.Frag) (m : Str) : Bool := isBlt m || (He.Fa.glo m).ok K
def knB (K : PySem.W.Frag) (n m : Str) : Bool := !here K m || (decide (PySem.W.exmOne K (.ref (He.ga K n)) (clsV K m) = some (subC n m)) && decide (PySem.W.kitOne K (.ref (He.ga K n)) (clsV K m) = some (subC n m)))
/-- what the written part says of a class of errors -/
structure ErrC (K : PySem.W.Frag) (n : Str) : Prop where
  cl : (PySem.W.clsIn K (He.ga K n)).isSome = true
  ga : PySem.W.findIn K (.ref (He.ga K n)) "__getattribute__" = some (some (.builtin "BaseException.__getattribute__"))
  gg : PySem.W.findIn K (.ref (He.ga K n)) "__getattr__" = some none
  kC : PySem.W.keepIn K (.ref (He.ga K n)) = true
  exC : PySem.W.subIn K (.ref (He.ga K n)) (.type "BaseException") = some true
  tyC : PySem.W.typeIn K (.ref (He.ga K n)) = some (.type "type")
  hdC : PySem.W.hasDictIn K (He.ga K n) = true
  ha : PySem.W.findIn K (.ref (He.ga K n)) "__class__" = some (some (.builtin "object.__class__"))
  hn : PySem.W.specialIn K (.builtin "object.__class__") "__get__" = some (some (.builtin "getset_descriptor.__get__"))
  ht : PySem.W.takesIn K (.builtin "object.__class__") = some true
  hm : PySem.W.mroIn K (He.ga K n) (.type "object") = some true
  nof : ∀ f : Fl, PySem.W.findIn K (.ref (He.ga K n)) f.s = some none
  kn : ∀ m ∈ allN, here K m = true → PySem.W.exmOne K (.ref (He.ga K n)) (clsV K m) = some (subC n m) ∧ PySem.W.kitOne K (.ref (He.ga K n)) (clsV K m) = some (subC n m)
def errB (K : PySem.W.Frag) (n : Str) : Bool :=
  (PySem.W.clsIn K (He.ga K n)).isSome && (decide (PySem.W.findIn K (.ref (He.ga K n)) "__getattribute__" = some (some (.builtin "BaseException.__getattribute__"))) && (decide (PySem.W.findIn K (.ref (He.ga K n)) "__getattr__" = some none) &&
    (PySem.W.keepIn K (.ref (He.ga K n)) && (decide (PySem.W.subIn K (.ref (He.ga K n)) (.type "BaseException") = some true) && (decide (PySem.W.typeIn K (.ref (He.ga K n)) = some (.type "type")) && (PySem.W.hasDictIn K (He.ga K n) &&
    (decide (PySem.W.findIn K (.ref (He.ga K n)) "__class__" = some (some (.builtin "object.__class__"))) && (decide (PySem.W.specialIn K (.builtin "object.__class__") "__get__" = some (some (.builtin "getset_descriptor.__get__"))) &&
    (decide (PySem.W.takesIn K (.builtin "object.__class__") = some true) && (decide (PySem.W.mroIn K (He.ga K n) (.type "object") = some true) && ((Fl.all.all fun f => decide (PySem.W.findIn K (.ref (He.ga K n)) f.s = some none)) && allN.all fun m => knB K n m)))))))))))
theorem errB_ok {K : PySem.W.Frag} {n : Str} (h : errB K n = true) : ErrC K n := by
  unfold errB at h
  simp only [Bool.and_eq_true, decide_eq_true_eq, List.all_eq_true] at h
  obtain ⟨h1, h2, h3, h4, h5, h6, h7, h8, h9, h10, h11, h12, h13⟩ := h
  refine ⟨h1, h2, h3, h4, h5, h6, h7, h8, h9, h10, h11, fun f => h12 f (Fl.mem f), fun m hm hh => ?_⟩
  have := h13 m hm
  unfold knB at this
  rw [hh] at this
  simpa using this
/-- the built-in class below -/
inductive Bs where
  | ve | le
def Bs.nm : Bs → String
  | .ve => "ValueError"
  | .le => "LookupError"
def Bs.tl : Bs → List Value
  | .ve => [.type "ValueError", .type "Exception", .type "BaseException", .type "object"]
  | .le => [.type "LookupError", .type "Exception", .type "BaseException", .type "object"]
def Bs.new : Bs → String
  | .ve => "ValueError.__new__"
  | .le => "LookupError.__new__"
def Bs.ini : Bs → String
  | .ve => "ValueError.__init__"
  | .le => "LookupError.__init__"
theorem Bs.fb : ∀ b : Bs, ExcBaseFacts b.nm b.new b.ini b.tl
  | .ve => PySem.F.excBase_ValueError
  | .le => PySem.F.excBase_LookupError
theorem Bs.sf : ∀ b : Bs, StoreFacts b.nm b.tl "object.__setattr__" "object"
  | .ve => PySem.F.store_ValueError
  | .le => PySem.F.store_LookupError
/-- of a class without fields -/
structure ErrZ (K : PySem.W.Frag) (n : Str) (b : Bs) : Prop where
  c : ErrC K n
  ex : PySem.W.excIn K (He.ga K n) b.tl b.new = true
def errZB (K : PySem.W.Frag) (n : Str) (b : Bs) : Bool := errB K n && PySem.W.excIn K (He.ga K n) b.tl b.new
theorem errZ_ok {K : PySem.W.Frag} {n : Str} {b : Bs} (h : errZB K n b = true) : ErrZ K n b := by
  unfold errZB at h
  rw [Bool.and_eq_true] at h
  exact ⟨errB_ok h.1, h.2⟩
/-- the text of __init__ -/
def iniA (f : Str) (p1 p2 : Pos) : Arguments := { posonlyargs := [], args := [{ arg := "self", annotation := none, pos := p1 }, { arg := f, annotation := none, pos := p2 }], vararg := none, kwonlyargs := [], kw_defaults := [], kwarg := none, defaults := [] }
def iniB (f : Str) (q1 q2 q3 q4 : Pos) : List Stmt := [.Assign [.Attribute (.Name "self" q1) f q2] (.Name f q3) q4]
def iniS (f : Str) : Scope := { kind := .function, names := [("self", .local), (f, .local)], isGenerator := false, isCoroutine := false, more := [] }
/-- of a class with one field -/
structure ErrT (K : PySem.W.Frag) (n : Str) (f : Fl) (b : Bs) : Prop where
  c : ErrC K n
  ini : PySem.W.excInitIn K (He.ga K n) b.tl b.new = true
  ov : PySem.W.excOver K (He.ga K n) b.tl = true
  sa : PySem.W.findIn K (.ref (He.ga K n)) "__setattr__" = some (some (.builtin "object.__setattr__"))
  iC : PySem.W.findIn K (.ref (He.ga K n)) "__init__" = some (some (.ref (He.ma K (He.ga K n) "__init__")))
  tC : PySem.W.typeIn K (.ref (He.ma K (He.ga K n) "__init__")) = some (.type "function")
  fn : ∃ (q : Str) (p1 p2 q1 q2 q3 q4 : Pos) (fd : FuncData), FunD K "__init__" q (iniA f.s p1 p2) (iniB f.s q1 q2 q3 q4) (iniS f.s) [] [] (He.ma K (He.ga K n) "__init__") fd
def errTB (K : PySem.W.Frag) (n : Str) (b : Bs) : Bool := errB K n && (PySem.W.excInitIn K (He.ga K n) b.tl b.new && (PySem.W.excOver K (He.ga K n) b.tl && (decide (PySem.W.findIn K (.ref (He.ga K n)) "__setattr__" = some (some (.builtin "object.__setattr__"))) &&
  (decide (PySem.W.findIn K (.ref (He.ga K n)) "__init__" = some (some (.ref (He.ma K (He.ga K n) "__init__")))) && decide (PySem.W.typeIn K (.ref (He.ma K (He.ga K n) "__init__")) = some (.type "function"))))))
theorem errT_ok {K : PySem.W.Frag} {n : Str} {f : Fl} {b : Bs} (h : errTB K n b = true) (fn : ∃ (q : Str) (p1 p2 q1 q2 q3 q4 : Pos) (fd : FuncData), FunD K "__init__" q (iniA f.s p1 p2) (iniB f.s q1 q2 q3 q4) (iniS f.s) [] [] (He.ma K (He.ga K n) "__init__") fd) : ErrT K n f b := by
  unfold errTB at h
  simp only [Bool.and_eq_true, decide_eq_true_eq] at h
  obtain ⟨h1, h2, h3, h4, h5, h6⟩ := h
  exact ⟨errB_ok h1, h2, h3, h4, h5, h6, fn⟩
end DL
end
section
namespace DL
open PySem PySem.Spec PyProof.Rows L2
/-- the class whose exceptions may have a context -/
def RJ (K : PySem.W.Frag) (c : Value) : Prop := here K "Rejected" = true ∧ PySem.W.exmOne K c (.ref (He.ga K "Rejected")) = some true
/-- what is kept of its object -/
def Zq (K : PySem.W.Frag) (cls : Value) (d : Option Addr) : Obj → Prop := fun o => o.cls = cls ∧ o.dict = d ∧ (¬ RJ K cls → PXN.CtxN o)
theorem Zq.ofN {K : PySem.W.Frag} {cls : Value} {d : Option Addr} {o : Obj} (h : L2N.Zn cls d o) : Zq K cls d o := ⟨h.1, h.2.1, fun _ => h.2.2⟩
/-- an exception whose context is y -/
def CtxR (y : Addr) (o : Obj) : Prop := ∀ vs : Array Value, o.data = .fields vs → vs[2]? = some (.ref y)
theorem steady_ctxR {y : Addr} : PXN.Steady1 (CtxR y) := fun o v h => by
  obtain ⟨c, d, dt, sl⟩ := o
  cases dt with
  | fields vs0 =>
    intro vs e
    have e2 : vs0.setIfInBounds 1 v = vs := Data.fields.inj e
    have e3 : (vs0.setIfInBounds 1 v)[2]? = vs0[2]? := by
      first
      | exact Array.getElem?_setIfInBounds_ne (by decide)
      | simp [Array.getElem?_setIfInBounds]
    rw [← e2, e3]
    exact h vs0 rfl
  | _ =>
    intro vs e
    first
    | exact Data.noConfusion e
    | cases e
/-- what an exception in the air keeps: its context is None, or (Rejected) what stands at y -/
def Zy (K : PySem.W.Frag) (yo : Option Addr) (cls : Value) (d : Option Addr) : Obj → Prop := fun o => o.cls = cls ∧ o.dict = d ∧ match yo with
  | none => PXN.CtxN o
  | some y => RJ K cls ∧ CtxR y o
theorem Zy.steady {K : PySem.W.Frag} {yo : Option Addr} {cls : Value} {d : Option Addr} : PXN.Steady1 (Zy K yo cls d) := fun o v h => ⟨PXN.steady_cls o v h.1, PXN.steady_dict o v h.2.1, by
  cases yo with
  | none => exact PXN.steady_ctx o v h.2.2
  | some y => exact ⟨h.2.2.1, steady_ctxR o v h.2.2.2⟩⟩
theorem Zy.q {K : PySem.W.Frag} {yo : Option Addr} {cls : Value} {d : Option Addr} {o : Obj} (h : Zy K yo cls d o) : Zq K cls d o := ⟨h.1, h.2.1, fun n => by
  cases yo with
  | none => exact h.2.2
  | some y => exact absurd h.2.2.1 n⟩
theorem Zy.ofN {K : PySem.W.Frag} {cls : Value} {d : Option Addr} {o : Obj} (h : L2N.Zn cls d o) : Zy K none cls d o := ⟨h.1, h.2.1, h.2.2⟩
/-- a record whose own context is None -/
def EndC (oy : Obj) : Prop := ∃ vs : Array Value, oy.data = .fields vs ∧ vs[2]? = some .none
/-- where the context stands -/
def Gd (yo : Option Addr) (h : Heap) (H : Hp) : Prop := ∀ y, yo = some y → ∃ oy, h.get? y = some oy ∧ EndC oy ∧ H y = none
theorem Gd.none {h : Heap} {H : Hp} : Gd none h H := fun _ e => nomatch e
theorem heldZ_imp {B h : Heap} {l : List PySem.Env} {a L : Addr} {Z Z' : Obj → Prop} (z : ∀ o, Z o → Z' o) (x : PySem.HandSPX.HeldZ B l a Z L h) : PySem.HandSPX.HeldZ B l a Z' L h := ⟨x.1, x.2.1, x.2.2.1, L2H.tracedZ_imp z x.2.2.2⟩
theorem sky_imp {B h : Heap} {l : List PySem.Env} {a L : Addr} {Z Z' : Obj → Prop} (z : ∀ o, Z o → Z' o) (x : Sky B l a Z L h) : Sky B l a Z' L h := by
  rcases x with ⟨h1, h2, h3, oe, vs, h4, h5, h6⟩ | x | x
  · exact .inl ⟨h1, h2, h3, oe, vs, h4, z _ h5, h6⟩
  · exact .inr (.inl (L2H.flyingZ_imp z x))
  · exact .inr (.inr (heldZ_imp z x))
/-- behind a call that let an exception out -/
def CXd (K : PySem.W.Frag) (P : Program) (w : World) : CXT := fun outer H s E u s' =>
  ∃ (a : Addr) (B : Heap) (H' : Hp) (cls : Value) (d : Option Addr) (yo : Option Addr), u = .ref a ∧ PySem.HandSPX.FlyingZ B outer a (Zy K yo cls d) s'.heap ∧ HOk P w H' B ∧ UB (frs outer) H H' s.heap B s'.heap ∧ H' a = none ∧ s'.os = s.os ∧ AllBare s'.gens ∧ Gd yo B H' ∧ E cls d H'
/-- an exception with its object's facts, in the air of X -/
def XEq (X : Cx) (W : WX) (u : Value) (s' : Shared) : Prop :=
  ∃ (a : Addr) (B : Heap) (sI : Shared) (pins : List (Addr × Obj)) (σ : L2.St) (H : Hp) (cls : Value) (d : Option Addr) (yo : Option Addr),
    u = .ref a ∧ Inv X pins σ H sI ∧ (∀ b o, sI.heap.get? b = some o → b ∉ frs X.stack → B.get? b = some o) ∧ sI.heap.UpToSlots s'.heap ∧ Sky B X.stack a (Zy X.K yo cls d) X.env.locals s'.heap ∧ H a = none ∧ s'.os = sI.os ∧ AllBare s'.gens ∧ Gd yo B H ∧ W cls d σ H
/-- it is taken -/
structure TakesD (X : Cx) (W : WX) : Prop where
  go_ : ∀ u s', XEq X W u s' → X.xe u s'
theorem TakesD.go {X : Cx} {W : WX} (t : TakesD X W) {u : Value} {s' : Shared} (x : XEq X W u s') : X.xe u s' := t.go_ u s' x
theorem TakesD.of {X : Cx} {W : WX} (h : ∀ u s', XEq X W u s' → X.xe u s') : TakesD X W := ⟨h⟩
theorem XEq.ofN {X : Cx} {W : WX} {u : Value} {s' : Shared} (x : L2N.XE X W u s') : XEq X W u s' := by
  obtain ⟨a, B, sI, pins, σ, H, cls, d, e, I, nb, up, sky, na, os, ag, w⟩ := x
  exact ⟨a, B, sI, pins, σ, H, cls, d, none, e, I, nb, up, sky_imp (fun _ => Zy.ofN) sky, na, os, ag, .none, w⟩
theorem TakesD.n {X : Cx} {W : WX} (t : TakesD X W) : L2N.Takes X W := fun u s' x => t.go (.ofN x)
theorem XEq.imp {X : Cx} {W W' : WX} {u : Value} {s' : Shared} (h : ∀ c d σ H, W' c d σ H → W c d σ H) (x : XEq X W' u s') : XEq X W u s' := by
  obtain ⟨a, B, sI, pins, σ, H, cls, d, yo, e, I, nb, up, sky, na, os, ag, g, w⟩ := x
  exact ⟨a, B, sI, pins, σ, H, cls, d, yo, e, I, nb, up, sky, na, os, ag, g, h _ _ _ _ w⟩
theorem TakesD.imp {X : Cx} {W W' : WX} (t : TakesD X W) (h : ∀ c d σ H, W' c d σ H → W c d σ H) : TakesD X W' := .of fun _ _ x => t.go (x.imp h)
theorem takes0D {X : Cx} : TakesD X (fun _ _ _ _ => False) := .of fun _ _ ⟨_, _, _, _, _, _, _, _, _, _, _, _, _, _, _, _, _, _, z⟩ => z.elim
section
variable {X : Cx} {pins : List (Addr × Obj)} {σ : L2.St} {H : Hp} {sI s s' : Shared} {W : WX} {E : XK}
/-- a call's exception is in our air -/
theorem XEq.of_call (I : Inv X pins σ H s) (hW : ∀ cls d H', E cls d H' → W cls d σ H') {u : Value} (x : CXd X.K X.prog X.w X.stack H s E u s') : XEq X W u s' := by
  obtain ⟨a, B, H', cls, d, yo, eu, fl, hok, ub, na, os, ag, gd, hE⟩ := x
  obtain ⟨G, yes, no⟩ := restrict s'.heap fun b => (B.get? b).isSome || decide (b ∈ frs X.stack)
  have inG : ∀ b o, B.get? b = some o → G.get? b = some o := fun b o e => by
    rw [yes b (by simp [e])]
    exact fl.1 b o e
  have frG : ∀ b, b ∈ frs X.stack → G.get? b = s'.heap.get? b := fun b m => yes b (by simp [m])
  have outG : ∀ b o, G.get? b = some o → s'.heap.get? b = some o ∧ ((B.get? b).isSome = true ∨ b ∈ frs X.stack) := fun b o e => by
    cases q : ((B.get? b).isSome || decide (b ∈ frs X.stack)) with
    | false =>
      rw [no b q] at e
      exact (nomatch e)
    | true =>
      rw [yes b q] at e
      exact ⟨e, by simpa [Bool.or_eq_true] using q⟩
  have J : Inv X pins σ H' { s with heap := G, gens := s'.gens, drawn := s'.drawn, toks := s'.toks } := by
    refine I.call (ch := []) ⟨fun b o e n m _ => inG b o (ub.keep b o e n m), fun b o e n m _ => ?_, fun b o e n _ => ub.free b o e n, fun b o e _ => ?_, ub.tups, ub.frzs, ub.tbls⟩ (hok.kept inG) ag (fun _ z => nomatch z)
    · obtain ⟨sl, q⟩ := ub.slot b o e m
      exact ⟨sl, by rw [frG b m]; exact q⟩
    · by_cases m : b ∈ frs X.stack
      · obtain ⟨sl, q⟩ := ub.slot b o e m
        exact ⟨_, by rw [frG b m]; exact q⟩
      · obtain ⟨o', q⟩ := ub.there b o e m
        exact ⟨o', inG b o' q⟩
  refine ⟨a, B, _, pins, σ, H', cls, d, yo, eu, J, fun b o e m => ?_, Heap.UpToSlots.of_keeps fun b o e => (outG b o e).1, .inr (.inl fl), na, os, ag, gd, hW _ _ _ hE⟩
  obtain ⟨e1, z | z⟩ := outG b o e
  · obtain ⟨o', q⟩ := Option.isSome_iff_exists.mp z
    have e2 := fl.1 b o' q
    rw [e1] at e2
    rw [q, ← e2]
  · exact absurd z m
/-- a new exception is in our air -/
theorem XEq.new {a : Addr} {oe : Obj} {vs : Array Value} {cls : Value} {d yo : Option Addr} (I : Inv X pins σ H sI) (k : ∀ b o, sI.heap.get? b = some o → s'.heap.get? b = some o) (hne : sI.heap.get? a = none) (he : s'.heap.get? a = some oe)
    (hz : Zy X.K yo cls d oe) (hd : oe.data = .fields vs) (h1 : vs[1]? = some .none) (na : H a = none) (os : s'.os = sI.os) (ag : AllBare s'.gens) (gd : Gd yo sI.heap H) (w : W cls d σ H) : XEq X W (.ref a) s' := by
  have nB : (PySem.W.hideAll sI.heap (frs X.stack)).get? a = none := by
    cases q : (PySem.W.hideAll sI.heap (frs X.stack)).get? a with
    | none => rfl
    | some o =>
      have z := PySem.W.of_hideAll _ q
      rw [hne] at z
      exact (nomatch z)
  refine ⟨a, PySem.W.hideAll sI.heap (frs X.stack), sI, pins, σ, H, cls, d, yo, rfl, I, fun b o e m => PySem.W.hideAll_get _ e m, Heap.UpToSlots.of_keeps k,
    .inl ⟨fun b o e => k b o (PySem.W.of_hideAll _ e), nB, Heap.FunFrames.of_keeps (fun b o e _ => ⟨o, k b o e, rfl⟩) (funFrames_none I.stack fun b m => PySem.W.hideAll_none _ m), oe, vs, he, hz, hd, h1⟩, na, os, ag, fun y ey => ?_, w⟩
  obtain ⟨oy, g1, ⟨vy, g2, g3⟩, g4⟩ := gd y ey
  refine ⟨oy, PySem.W.hideAll_get _ g1 fun m => ?_, ⟨vy, g2, g3⟩, g4⟩
  obtain ⟨_, o', e', hnf⟩ := I.stack.mem m
  have eo : oy = o' := Option.some.inj (g1.symm.trans e')
  exact hnf vy (eo ▸ g2)
/-- it leaves the def -/
theorem XEq.leave (hs : X.stack = X.env :: X.outer) (hf : X.env.frame = some X.env.locals) (hex : X.ex = []) {E₁ : Value → Shared → Prop} (hW : ∀ cls d σ H, W cls d σ H → E cls d H) {u : Value} (x : XEq X W u s') :
    wpAny (model X.prog X.w) X.A (leaving X.env u) (fun _ s'' => CXd X.K X.prog X.w X.outer X.H_0 X.s_0 E u s'') E₁ s' := by
  obtain ⟨a, B, sI, pins, σ, H, cls, d, yo, rfl, I, nb, up, sky, na, os, ag, gd, w⟩ := x
  have fr : X.A.frames = some (X.env :: X.outer) := I.ok.frames.trans (by rw [hs])
  have old : ∀ b o, X.s_0.heap.get? b = some o → b ∉ X.fs → b ∉ frs X.stack := fun b o e n m => by
    rcases List.mem_cons.mp (I.stkSub b m) with z | z
    · have l1 := Heap.lt_size e
      have l2 := I.ok.above
      rw [z] at l1
      exact absurd (Nat.lt_of_lt_of_le l1 l2) (Nat.lt_irrefl _)
    · exact n z
  have nex : ∀ b, b ∉ X.ex := fun b m => by
    rw [hex] at m
    exact (nomatch m)
  have done : ∀ h', PySem.HandSPX.FlyingZ B X.outer a (Zy X.K yo cls d) h' → s'.heap.UpToSlots h' → CXd X.K X.prog X.w X.outer X.H_0 X.s_0 E (.ref a) { s' with heap := h' } := fun h' fl up' => by
    refine ⟨a, B, H, cls, d, yo, rfl, fl, I.inGround nb, ⟨fun b o e n m => nb b o (I.base.keep b o e n m (nex b)) (old b o e m), fun b o e m => ?_, fun b o e n => I.base.free b o e n (nex b), fun b o e m => ?_, I.base.tups, I.base.frzs, I.base.tbls⟩,
      na, os.trans I.os, ag, gd, hW _ _ _ _ w⟩
    · obtain ⟨_, o0, e0, nf⟩ := I.ok.funs.mem m
      have eo : o = o0 := Option.some.inj (e.symm.trans e0)
      subst eo
      obtain ⟨s1, e1⟩ := I.base.slot b o e (I.ok.frf b m) m (nex b)
      obtain ⟨s2, e2⟩ := up b _ e1 nf
      obtain ⟨s3, e3⟩ := up' b _ e2 nf
      exact ⟨s3, e3⟩
    · obtain ⟨o', e1⟩ := I.base.there b o e (nex b)
      exact ⟨o', nb b o' e1 (old b o e m)⟩
  rw [hs] at sky
  rcases sky with ⟨k1, k2, k3, oe, vs, k4, k5, k6, k7⟩ | fl | hd
  · exact PXN.leaving_firstZ Zy.steady fr k3 hf k4 k1 k2 k6 k7 k5 done
  · exact PXN.leaves_onZ Zy.steady fr hf fl done
  · exact PySem.HandSPX.leaves_heldZ hf hd done
end
theorem passAtD {X : Cx} {W : WX} (t : TakesD X W) (σ : L2.St) : PassesAt (CXd X.K X.prog X.w) X σ (WE W σ) := fun pins H s e s' I c => t.go (XEq.of_call I (fun _ _ _ h => h) c)
theorem passes_callD {X : Cx} {W : WX} {E : XK} (t : TakesD X W) (hW : ∀ cls d σ H, E cls d H → W cls d σ H) (σ : L2.St) : PassesAt (CXd X.K X.prog X.w) X σ E := fun pins H s e s' I c => t.go (XEq.of_call I (fun cls d H' h => hW cls d σ H' h) c)
/-- a def's wish about exceptions -/
theorem takes_ofD {X : Cx} {E : XK} (hs : X.stack = X.env :: X.outer) (hf : X.env.frame = some X.env.locals) (hex : X.ex = []) {E₁ : Value → Shared → Prop}
    (hx : X.xe = fun e s' => wpAny (model X.prog X.w) X.A (leaving X.env e) (fun _ s'' => CXd X.K X.prog X.w X.outer X.H_0 X.s_0 E e s'') E₁ s') : TakesD X (fun cls d _ H => E cls d H) := .of fun u s' x => by
  rw [hx]
  exact XEq.leave (W := fun cls d _ H => E cls d H) (E := E) hs hf hex (fun _ _ _ _ h => h) x
/-- other heaps, other wishes -/
theorem CXd.imp {K : PySem.W.Frag} {P : Program} {w : World} {o : List PySem.Env} {H : Hp} {s s' : Shared} {E E' : XK} {u : Value} (h : ∀ c d H, E c d H → E' c d H) (x : CXd K P w o H s E u s') : CXd K P w o H s E' u s' := by
  obtain ⟨a, B, H', cls, d, yo, h1, h2, h3, h4, h5, h6, h7, h8, h9⟩ := x
  exact ⟨a, B, H', cls, d, yo, h1, h2, h3, h4, h5, h6, h7, h8, h _ _ _ h9⟩
theorem ub_up {fs : List Addr} {H H2 H' : Hp} {h h2 B h' : Heap} (a : Un fs [] H H2 h h2) (k : ∀ b o, h.get? b = some o → h2.get? b = some o) (z : UB fs H2 H' h2 B h') : UB fs H H' h B h' where
  keep b o e n m := z.keep b o (k b o e) (a.free b o e n List.not_mem_nil) m
  slot b o e m := z.slot b o (k b o e) m
  free b o e n := z.free b o (k b o e) (a.free b o e n List.not_mem_nil)
  there b o e m := z.there b o (k b o e) m
  tups b xs e := z.tups b xs (a.tups b xs e)
  frzs b o xs e := z.frzs b o xs (a.frzs b o xs e)
  tbls b ps e := by
    obtain ⟨m1, e1⟩ := a.tbls b ps e
    obtain ⟨m2, e2⟩ := z.tbls b _ e1
    exact ⟨m1 ++ m2, by rw [← Array.append_assoc]; exact e2⟩
theorem CXd.up {K : PySem.W.Frag} {P : Program} {w : World} {o : List PySem.Env} {H H2 : Hp} {s s2 s' : Shared} {E : XK} {u : Value} (a : Un (frs o) [] H H2 s.heap s2.heap) (k : ∀ b o, s.heap.get? b = some o → s2.heap.get? b = some o) (q : s2.os = s.os) (x : CXd K P w o H2 s2 E u s') : CXd K P w o H s E u s' := by
  obtain ⟨b, B, H', cls, d, yo, h1, h2, h3, h4, h5, h6, h7⟩ := x
  exact ⟨b, B, H', cls, d, yo, h1, h2, h3, ub_up a k h4, h5, h6.trans q, h7⟩
theorem no_cxD {K : PySem.W.Frag} {P : Program} {w : World} {o : List PySem.Env} {H : Hp} {s s' : Shared} {u : Value} {E : XK} (hE : ∀ c d H, ¬ E c d H) (h : CXd K P w o H s E u s') : False := by
  obtain ⟨_, _, _, _, _, _, _, _, _, _, _, _, _, _, z⟩ := h
  exact hE _ _ _ z
end DL
end
section
namespace DL
open PySem PySem.Spec PyProof.Rows L2
/-- the exception's object at a -/
def xob (a : Addr) (o : Obj) : HO := .ext fun h => h.get? a = some o
/-- what is known of it -/
structure XOb (K : PySem.W.Frag) (o : Obj) (n : Str) (d : Option Addr) : Prop where
  cls : o.cls = .ref (He.ga K n)
  dict : o.dict = d
  data : ∃ vs, o.data = .fields vs
  er : ErrC K n
  ctx : n ≠ "Rejected" → PXN.CtxN o
mutual
/-- the value is that data; B: places that may change, no list of the data stands there -/
inductive Rep (K : PySem.W.Frag) (B : Addr → Prop) (H : Hp) : V → PyData → Prop
  | non : Rep K B H .non .none
  | bl (b : Bool) : Rep K B H (.bl b) (.bool b)
  | int (i : Int) : Rep K B H (.int i) (.int i)
  | str (x : Str) : Rep K B H (.str x) (.str x)
  | lst {a : Addr} {xs : List V} {ds : List PyData} : H a = some (.lst xs) → ¬ B a → Reps K B H xs ds → Rep K B H (.ref a) (.list ds)
  | tup {a : Addr} {xs : List V} {ds : List PyData} : SqT K H a xs → Reps K B H xs ds → Rep K B H (.ref a) (.tuple ds)
  | dct0 {a : Addr} : H a = some (.dK []) → ¬ B a → Rep K B H (.ref a) (.dict [])
  | dct1 {a : Addr} {x : Str} {v : V} {d : PyData} : H a = some (.dK [(.inr x, v)]) → ¬ B a → Rep K B H v d → Rep K B H (.ref a) (.dict [(.str x, d)])
  | exn0 {a : Addr} {o : Obj} {n : Str} : H a = some (xob a o) → ¬ B a → XOb K o n none → Rep K B H (.ref a) (xD n [])
  | exn1 {a dd : Addr} {o : Obj} {n f : Str} {v : V} {d : PyData} : H a = some (xob a o) → ¬ B a → XOb K o n (some dd) → H dd = some (.xd [(f, v)]) → ¬ B dd → Rep K B H v d → Rep K B H (.ref a) (xD n [(f, d)])
  | rf (a : Addr) : Rep K B H (.ref a) (rD a)
  | wr {a dx : Addr} {v : V} {d : PyData} : H a = some (.ins (He.ga K "WordRow") dx [("held", v)]) → ¬ B a → Rep K B H v d → Rep K B H (.ref a) (wD d)
inductive Reps (K : PySem.W.Frag) (B : Addr → Prop) (H : Hp) : List V → List PyData → Prop
  | nil : Reps K B H [] []
  | cons {v : V} {vs : List V} {d : PyData} {ds : List PyData} : Rep K B H v d → Reps K B H vs ds → Reps K B H (v :: vs) (d :: ds)
end
/-- what is kept for good: tuples, locked things -/
def Imm : HO → Prop
  | .tup _ => True
  | .frz _ _ => True
  | .ext _ => True
  | _ => False
/-- all is kept but what stands at places of B -/
structure Ext (B : Addr → Prop) (H H' : Hp) : Prop where
  keep : ∀ a o, H a = some o → ¬ B a → H' a = some o
  imm : ∀ a o, H a = some o → Imm o → H' a = some o
  dom : ∀ a, H a ≠ none → H' a ≠ none
abbrev All (H H' : Hp) : Prop := ∀ a o, H a = some o → H' a = some o
section
variable {K : PySem.W.Frag} {B B' B'' : Addr → Prop} {H H' H'' : Hp}
theorem All.ext (h : All H H') : Ext B H H' := ⟨fun a o e _ => h a o e, fun a o e _ => h a o e, fun a n => by
  cases e : H a with
  | none => exact absurd e n
  | some o => rw [h a o e]; exact fun z => nomatch z⟩
theorem All.refl : All H H := fun _ _ e => e
theorem All.trans (h : All H H') (h' : All H' H'') : All H H'' := fun a o e => h' a o (h a o e)
theorem All.new {p : Addr} {o : HO} (h : H p = none) : All H (upd H p o) := fun a u e => by
  rw [upd_ne (ne_of_none e h)]; exact e
theorem Ext.refl : Ext B H H := All.refl.ext
theorem Ext.trans (h : Ext B H H') (h' : Ext B H' H'') : Ext B H H'' :=
  ⟨fun a o e n => h'.keep a o (h.keep a o e n) n, fun a o e i => h'.imm a o (h.imm a o e i) i, fun a n => h'.dom a (h.dom a n)⟩
theorem Ext.more (h : Ext B H H') (s : ∀ a, B a → B' a) : Ext B' H H' :=
  ⟨fun a o e n => h.keep a o e fun z => n (s a z), h.imm, h.dom⟩
theorem some_ne {a : Addr} {o : HO} (e : H a = some o) : H a ≠ none := by rw [e]; exact fun z => nomatch z
theorem Ext.sqT (h : Ext B H H') {a : Addr} {xs : List V} (q : SqT K H a xs) : SqT K H' a xs := by
  rcases q with (q | ⟨o, q⟩) | q
  · exact .inl (.inl (h.imm a _ q True.intro))
  · exact .inl (.inr ⟨o, h.imm a _ q True.intro⟩)
  · exact .inr q
mutual
theorem Rep.mono (h : Ext B H H') : ∀ {v : V} {d : PyData}, Rep K B H v d → Rep K B H' v d
  | _, _, .non => .non
  | _, _, .bl b => .bl b
  | _, _, .int i => .int i
  | _, _, .str x => .str x
  | _, _, .lst e n r => .lst (h.keep _ _ e n) n (Reps.mono h r)
  | _, _, .tup e r => .tup (h.sqT e) (Reps.mono h r)
  | _, _, .dct0 e n => .dct0 (h.keep _ _ e n) n
  | _, _, .dct1 e n r => .dct1 (h.keep _ _ e n) n (Rep.mono h r)
  | _, _, .exn0 e n x => .exn0 (h.keep _ _ e n) n x
  | _, _, .exn1 e n x e2 n2 r => .exn1 (h.keep _ _ e n) n x (h.keep _ _ e2 n2) n2 (Rep.mono h r)
  | _, _, .rf a => .rf a
  | _, _, .wr e n r => .wr (h.keep _ _ e n) n (Rep.mono h r)
theorem Reps.mono (h : Ext B H H') : ∀ {vs : List V} {ds : List PyData}, Reps K B H vs ds → Reps K B H' vs ds
  | _, _, .nil => .nil
  | _, _, .cons r t => .cons (Rep.mono h r) (Reps.mono h t)
end
mutual
/-- other places: none of the data's lists stands at one -/
theorem Rep.grow (h : ∀ a, B' a → H a ≠ none → B a) : ∀ {v : V} {d : PyData}, Rep K B H v d → Rep K B' H v d
  | _, _, .non => .non
  | _, _, .bl b => .bl b
  | _, _, .int i => .int i
  | _, _, .str x => .str x
  | _, _, .lst e n r => .lst e (fun z => n (h _ z (some_ne e))) (Reps.grow h r)
  | _, _, .tup e r => .tup e (Reps.grow h r)
  | _, _, .dct0 e n => .dct0 e (fun z => n (h _ z (some_ne e)))
  | _, _, .dct1 e n r => .dct1 e (fun z => n (h _ z (some_ne e))) (Rep.grow h r)
  | _, _, .exn0 e n x => .exn0 e (fun z => n (h _ z (some_ne e))) x
  | _, _, .exn1 e n x e2 n2 r => .exn1 e (fun z => n (h _ z (some_ne e))) x e2 (fun z => n2 (h _ z (some_ne e2))) (Rep.grow h r)
  | _, _, .rf a => .rf a
  | _, _, .wr e n r => .wr e (fun z => n (h _ z (some_ne e))) (Rep.grow h r)
theorem Reps.grow (h : ∀ a, B' a → H a ≠ none → B a) : ∀ {vs : List V} {ds : List PyData}, Reps K B H vs ds → Reps K B' H vs ds
  | _, _, .nil => .nil
  | _, _, .cons r t => .cons (Rep.grow h r) (Reps.grow h t)
end
theorem Rep.less (h : ∀ a, B' a → B a) {v : V} {d : PyData} (r : Rep K B H v d) : Rep K B' H v d := r.grow fun a z _ => h a z
theorem Reps.less (h : ∀ a, B' a → B a) {vs : List V} {ds : List PyData} (r : Reps K B H vs ds) : Reps K B' H vs ds := r.grow fun a z _ => h a z
mutual
theorem Rep.flat : ∀ {v : V} {d : PyData}, DL.flat d = true → Rep K B H v d → Rep K B' H v d
  | _, _, _, .non => .non
  | _, _, _, .bl b => .bl b
  | _, _, _, .int i => .int i
  | _, _, _, .str x => .str x
  | _, _, h, .lst _ _ _ => by simp [DL.flat] at h
  | _, _, h, .tup e r => .tup e (Reps.flat (by simpa [DL.flat] using h) r)
  | _, _, h, .dct0 _ _ => by simp [DL.flat] at h
  | _, _, h, .dct1 _ _ _ => by simp [DL.flat] at h
  | _, _, h, .exn0 _ _ _ => by simp [DL.flat, xD] at h
  | _, _, h, .exn1 _ _ _ _ _ _ => by simp [DL.flat, xD] at h
  | _, _, _, .rf a => .rf a
  | _, _, h, .wr _ _ _ => by simp [DL.flat, wD] at h
theorem Reps.flat : ∀ {vs : List V} {ds : List PyData}, DL.flatAll ds = true → Reps K B H vs ds → Reps K B' H vs ds
  | _, _, _, .nil => .nil
  | _, _, h, .cons r t => by
    simp only [DL.flatAll, Bool.and_eq_true] at h
    exact .cons (Rep.flat h.1 r) (Reps.flat h.2 t)
end
mutual
theorem Rep.dp : ∀ {v : V} {d : PyData}, PyData.canLay0 d = true → Rep K B H v d → Dp K H v d
  | _, _, _, .non => .non
  | _, _, _, .bl b => .bl b
  | _, _, _, .int i => .int i
  | _, _, _, .str x => .str x
  | _, _, h, .lst e _ r => .lst (SqL.of e) (Reps.dp (by simpa [PyData.canLay0] using h) r)
  | _, _, h, .tup e r => .tup e (Reps.dp (by simpa [PyData.canLay0] using h) r)
  | _, _, h, .dct0 _ _ => by simp [PyData.canLay0] at h
  | _, _, h, .dct1 _ _ _ => by simp [PyData.canLay0] at h
  | _, _, h, .exn0 _ _ _ => by simp [PyData.canLay0, xD] at h
  | _, _, h, .exn1 _ _ _ _ _ _ => by simp [PyData.canLay0, xD] at h
  | _, _, h, .rf _ => by simp [PyData.canLay0, rD] at h
  | _, _, h, .wr _ _ _ => by simp [PyData.canLay0, wD] at h
theorem Reps.dp : ∀ {vs : List V} {ds : List PyData}, PyData.canLayAll0 ds = true → Reps K B H vs ds → DpAll K H vs ds
  | _, _, _, .nil => .nil
  | _, _, h, .cons r t => by
    simp only [PyData.canLayAll0, Bool.and_eq_true] at h
    exact .cons (Rep.dp h.1 r) (Reps.dp h.2 t)
end
theorem Reps.length : ∀ {vs : List V} {ds : List PyData}, Reps K B H vs ds → vs.length = ds.length
  | _, _, .nil => rfl
  | _, _, .cons _ t => by simp [Reps.length t]
theorem Reps.get : ∀ {vs : List V} {ds : List PyData}, Reps K B H vs ds → ∀ {i : Nat} {d : PyData}, ds[i]? = some d → ∃ v, vs[i]? = some v ∧ Rep K B H v d
  | _, _, .nil, i, d, e => by simp at e
  | _, _, .cons r t, 0, d, e => by
    have e' : _ = d := Option.some.inj e
    subst e'
    exact ⟨_, rfl, r⟩
  | _, _, .cons r t, i + 1, d, e => Reps.get t (i := i) e
theorem Reps.append : ∀ {vs ws : List V} {ds es : List PyData}, Reps K B H vs ds → Reps K B H ws es → Reps K B H (vs ++ ws) (ds ++ es)
  | _, _, _, _, .nil, s => s
  | _, _, _, _, .cons r t, s => .cons r (Reps.append t s)
theorem Reps.drop : ∀ (n : Nat) {vs : List V} {ds : List PyData}, Reps K B H vs ds → Reps K B H (vs.drop n) (ds.drop n)
  | 0, _, _, r => r
  | _ + 1, _, _, .nil => .nil
  | n + 1, _, _, .cons _ t => Reps.drop n t
theorem Reps.take : ∀ (n : Nat) {vs : List V} {ds : List PyData}, Reps K B H vs ds → Reps K B H (vs.take n) (ds.take n)
  | 0, _, _, _ => .nil
  | _ + 1, _, _, .nil => .nil
  | n + 1, _, _, .cons r t => .cons r (Reps.take n t)
theorem Reps.set {v : V} {d : PyData} (r : Rep K B H v d) : ∀ (n : Nat) {vs : List V} {ds : List PyData}, Reps K B H vs ds → Reps K B H (vs.set n v) (ds.set n d)
  | _, _, _, .nil => .nil
  | 0, _, _, .cons _ t => .cons r t
  | n + 1, _, _, .cons q t => .cons q (Reps.set r n t)
theorem Reps.reverse {vs : List V} {ds : List PyData} (r : Reps K B H vs ds) : Reps K B H vs.reverse ds.reverse := by
  induction r using Reps.rec (motive_1 := fun _ _ _ => True) <;> try trivial
  case nil => exact .nil
  case cons r _ _ ih =>
    rw [List.reverse_cons, List.reverse_cons]
    exact ih.append (.cons r .nil)
theorem Reps.rep {vs : List V} {ds : List PyData} (r : Reps K B H vs ds) : ∀ n : Nat, Reps K B H (List.replicate n vs).flatten (List.replicate n ds).flatten
  | 0 => .nil
  | n + 1 => by
    rw [List.replicate_succ, List.replicate_succ, List.flatten_cons, List.flatten_cons]
    exact r.append (Reps.rep r n)
theorem Reps.ints : ∀ {vs : List V} {ds : List PyData} {ns : List Int}, Reps K B H vs ds → ints? ds = some ns → vs = ns.map V.int
  | _, _, ns, .nil, h => by simp [ints?] at h; subst h; rfl
  | _, _, ns, .cons r t, h => by
    have e := ints?_eq h
    cases ns with
    | nil => cases e
    | cons a b =>
      injection e with e1 e2
      subst e1
      cases r with
      | int i =>
        subst e2
        rw [Reps.ints t (ints?_map b)]
        rfl
theorem Reps.bools : ∀ {vs : List V} {ds : List PyData} {ns : List Bool}, Reps K B H vs ds → bools? ds = some ns → vs = ns.map V.bl
  | _, _, ns, .nil, h => by simp [bools?] at h; subst h; rfl
  | _, _, ns, .cons r t, h => by
    have e := bools?_eq h
    cases ns with
    | nil => cases e
    | cons a b =>
      injection e with e1 e2
      subst e1
      cases r with
      | bl i =>
        subst e2
        rw [Reps.bools t (bools?_map b)]
        rfl
theorem Reps.of_ints : ∀ (ns : List Int), Reps K B H (ns.map V.int) (ns.map PyData.int)
  | [] => .nil
  | a :: r => .cons (.int a) (Reps.of_ints r)
end
/-- from a state to another: B may change, what is new is new -/
structure Tr (B : Addr → Prop) (H : Hp) (B' : Addr → Prop) (H' : Hp) : Prop where
  ext : Ext B H H'
  old : ∀ a, B' a → H a ≠ none → B a
/-- the body's own: what may change besides (the stream, the cells), its state, the entry's heap and state, the caller's places, what is wanted of errors -/
structure Par where
  B0 : Sx → Addr → Prop
  SI : Sx → Hp → Prop
  S : Addr
  H0 : Hp
  c0 : Sx
  Bc : Addr → Prop
  XP : Exn → Sx → Prop
  EK : L2.St → XK
  /-- within a try's body: where it began; slots that may change -/
  fx : Option (L2.St × Sx × Hp × (Addr → Prop) × (Nat → Prop)) := none
  /-- lists that were handed in: where the name at a place stands -/
  pin : Nat → Option Addr := fun _ => none
/-- the places of the frame and those of the state -/
def bm (p : Par) (B : Addr → Prop) (c : Sx) : Addr → Prop := fun a => B a ∨ p.B0 c a
/-- an error behind a call: its class, its fields -/
def ExRep (K : PySem.W.Frag) (mg : Str → Option Value) (B : Addr → Prop) (H : Hp) (x : Exn) (c : Value) (d : Option Addr) : Prop :=
  c = .ref (He.ga K x.cls) ∧ ErrC K x.cls ∧ match x.fs with
    | [] => d = none
    | [(f, y)] => ∃ (dd : Addr) (v : V), d = some dd ∧ H dd = some (.xd [(f, v)]) ∧ ¬ B dd ∧ Rep K B H v y
    | _ => False
/-- what may change: places of the state; new places are new -/
structure EvB (Z : Sx → Addr → Prop) (c : Sx) (H : Hp) (c' : Sx) (H' : Hp) : Prop where
  ext : Ext (Z c) H H'
  up : ∀ a, Z c a → Z c' a
  old : ∀ a, Z c' a → H a ≠ none → Z c a
  dom : (∀ a, Z c a → H a ≠ none) → ∀ a, Z c' a → H' a ≠ none
abbrev Ev (p : Par) (c : Sx) (H : Hp) (c' : Sx) (H' : Hp) : Prop := EvB p.B0 c H c' H'
structure St0 (p : Par) (n : Sx) (B : Addr → Prop) (H : Hp) : Prop where
  subc : ∀ a, p.Bc a → bm p B n a
  trk : ∀ a, bm p B n a → H a ≠ none
  si : p.SI n H
  ext : Ev p p.c0 p.H0 n H
  old : ∀ a, B a → p.H0 a ≠ none → bm p p.Bc n a
/-- the slots and places are those of the try's start -/
def Fix (p : Par) (n : Sx) (B : Addr → Prop) (H : Hp) (σ : L2.St) : Prop := ∀ f, p.fx = some f → (σ.length = f.1.length ∧ ∀ i, ¬ f.2.2.2.2 i → σ[i]? = f.1[i]?) ∧ Ev p f.2.1 f.2.2.1 n H ∧ B = f.2.2.2.1
theorem EvB.refl {Z : Sx → Addr → Prop} {c : Sx} {H : Hp} : EvB Z c H c H := ⟨Ext.refl, fun _ h => h, fun _ h _ => h, fun h => h⟩
theorem All.ev {Z : Sx → Addr → Prop} {c : Sx} {H H' : Hp} (h : All H H') : EvB Z c H c H' := ⟨h.ext, fun _ h => h, fun _ h _ => h, fun q a z => (h.ext (B := fun _ => False)).dom a (q a z)⟩
theorem EvB.trans {Z : Sx → Addr → Prop} {c c' c'' : Sx} {H H' H'' : Hp} (a : EvB Z c H c' H') (b : EvB Z c' H' c'' H'') : EvB Z c H c'' H'' where
  ext := ⟨fun x o e n => b.ext.keep x o (a.ext.keep x o e n) fun z => n (a.old x z (some_ne e)), fun x o e i => b.ext.imm x o (a.ext.imm x o e i) i, fun x n => b.ext.dom x (a.ext.dom x n)⟩
  up := fun x h => b.up x (a.up x h)
  old := fun x z n => a.old x (b.old x z (a.ext.dom x n)) n
  dom := fun q => b.dom (a.dom q)
theorem Ev.refl {p : Par} {c : Sx} {H : Hp} : Ev p c H c H := EvB.refl
theorem Ev.trans {p : Par} {c c' c'' : Sx} {H H' H'' : Hp} (a : Ev p c H c' H') (b : Ev p c' H' c'' H'') : Ev p c H c'' H'' := EvB.trans a b
theorem Fix.no {p : Par} {n : Sx} {B : Addr → Prop} {H : Hp} {σ : L2.St} (h : p.fx = none) : Fix p n B H σ := fun f e => by rw [h] at e; cases e
theorem Fix.go {p : Par} {n n' : Sx} {B : Addr → Prop} {H H' : Hp} {σ : L2.St} (h : Fix p n B H σ) (e : Ev p n H n' H') : Fix p n' B H' σ := fun f q => let ⟨a, b, c⟩ := h f q; ⟨a, b.trans e, c⟩
structure Par.Ok (K : PySem.W.Frag) (mg : Str → Option Value) (p : Par) : Prop where
  stab : ∀ n H H', p.SI n H → (∀ a o, p.B0 n a → H a = some o → H' a = some o) → (∀ a o, H a = some o → Imm o → H' a = some o) → p.SI n H'
  exc : ∀ n n' x c d B H H' σ, St0 p n B H → Fix p n B H σ → p.XP x n' → p.SI n' H' → Ev p n H n' H' → ExRep K mg (bm p B n') H' x c d → p.EK σ c d H'
inductive Slot (K : PySem.W.Frag) (p : Par) (n : Sx) (B : Addr → Prop) (H : Hp) : Option V → Ent → Prop
  | unk (s : Option V) : Slot K p n B H s .unk
  | val {v : V} {d : D} : Rep K (bm p B n) H v d → Slot K p n B H (some v) (.val d)
  | own {a : Addr} {xs : List V} {ds : List D} : B a → ¬ p.B0 n a → ¬ p.Bc a → p.H0 a = none → H a = some (.lst xs) → Reps K (bm p B n) H xs ds → Slot K p n B H (some (.ref a)) (.own ds)
  | stm : Slot K p n B H (some (.ref p.S)) .stm
  | scr {a : Addr} {ns : List Int} : (∀ H' : Hp, (∀ o, H a = some o → Imm o → H' a = some o) → SqL K H' a (ns.map V.int)) → Slot K p n B H (some (.ref a)) (.scr ns)
structure EnvR (K : PySem.W.Frag) (p : Par) (n : Sx) (B : Addr → Prop) (H : Hp) (σ : L2.St) (E : Env) : Prop where
  len : σ.length = E.length
  at_ : ∀ (i : Nat) (e : Ent), E[i]? = some e → ∃ s, σ[i]? = some s ∧ Slot K p n B H s e
  nd : ∀ (i j : Nat) (a : Addr) (xs ys : List D), E[i]? = some (.own xs) → E[j]? = some (.own ys) → σ[i]? = some (some (.ref a)) → σ[j]? = some (some (.ref a)) → i = j
  fx : Fix p n B H σ
  pn : ∀ (i : Nat) (a : Addr) (xs : List D), p.pin i = some a → E[i]? = some (.own xs) → σ[i]? = some (some (.ref a))
theorem Tr.refl {B : Addr → Prop} {H : Hp} : Tr B H B H := ⟨Ext.refl, fun _ b _ => b⟩
theorem Tr.trans {B B' B'' : Addr → Prop} {H H' H'' : Hp} (a : Tr B H B' H') (b : Tr B' H' B'' H'') : Tr B H B'' H'' where
  ext := ⟨fun x o e n => b.ext.keep x o (a.ext.keep x o e n) fun z => n (a.old x z (some_ne e)), fun x o e i => b.ext.imm x o (a.ext.imm x o e i) i, fun x n => b.ext.dom x (a.ext.dom x n)⟩
  old := fun x z n => a.old x (b.old x z (a.ext.dom x n)) n
theorem Tr.of {B : Addr → Prop} {H H' : Hp} (e : Ext B H H') : Tr B H B H' := ⟨e, fun _ b _ => b⟩
section
variable {K : PySem.W.Frag} {mg : Str → Option Value} {p : Par} {B B' B'' : Addr → Prop} {H H' H'' : Hp} {σ : L2.St} {E : Env} {n n' : Sx}
mutual
/-- data that was known stays known -/
theorem Rep.tr (t : Tr B H B' H') : ∀ {v : V} {d : PyData}, Rep K B H v d → Rep K B' H' v d
  | _, _, .non => .non
  | _, _, .bl b => .bl b
  | _, _, .int i => .int i
  | _, _, .str x => .str x
  | _, _, .lst e n r => .lst (t.ext.keep _ _ e n) (fun z => n (t.old _ z (some_ne e))) (Reps.tr t r)
  | _, _, .tup e r => .tup (t.ext.sqT e) (Reps.tr t r)
  | _, _, .dct0 e n => .dct0 (t.ext.keep _ _ e n) (fun z => n (t.old _ z (some_ne e)))
  | _, _, .dct1 e n r => .dct1 (t.ext.keep _ _ e n) (fun z => n (t.old _ z (some_ne e))) (Rep.tr t r)
  | _, _, .exn0 e n x => .exn0 (t.ext.keep _ _ e n) (fun z => n (t.old _ z (some_ne e))) x
  | _, _, .exn1 e n x e2 n2 r => .exn1 (t.ext.keep _ _ e n) (fun z => n (t.old _ z (some_ne e))) x (t.ext.keep _ _ e2 n2) (fun z => n2 (t.old _ z (some_ne e2))) (Rep.tr t r)
  | _, _, .rf a => .rf a
  | _, _, .wr e n r => .wr (t.ext.keep _ _ e n) (fun z => n (t.old _ z (some_ne e))) (Rep.tr t r)
theorem Reps.tr (t : Tr B H B' H') : ∀ {vs : List V} {ds : List PyData}, Reps K B H vs ds → Reps K B' H' vs ds
  | _, _, .nil => .nil
  | _, _, .cons r u => .cons (Rep.tr t r) (Reps.tr t u)
end
section
variable {K : PySem.W.Frag} {mg : Str → Option Value} {p : Par} {B B' B'' : Addr → Prop} {H H' H'' : Hp} {σ : L2.St} {E : Env} {n n' : Sx}
theorem bm_more (h : ∀ a, p.B0 n a → p.B0 n' a) : ∀ a, bm p B n a → bm p B n' a := fun a z => z.imp id (h a)
/-- an expression, as a step -/
theorem EvB.tr (e : EvB p.B0 n H n' H') : Tr (bm p B n) H (bm p B n') H' :=
  ⟨e.ext.more fun _ z => .inr z, fun a z h => z.elim .inl fun z => .inr (e.old a z h)⟩
theorem St0.up (_ : St0 p n B H) (e : Ev p n H n' H') : Tr (bm p B n) H (bm p B n') H' := e.tr
theorem St0.go (s : St0 p n B H) (e : Ev p n H n' H') (si : p.SI n' H') : St0 p n' B H' :=
  ⟨fun a z => bm_more e.up a (s.subc a z), fun a b => b.elim (fun z => e.ext.dom a (s.trk a (.inl z))) fun z => e.dom (fun x y => s.trk x (.inr y)) a z, si, s.ext.trans e, fun a b h => bm_more e.up a (s.old a b h)⟩
theorem St0.all (ok : p.Ok K mg) (s : St0 p n B H) (e : All H H') : p.SI n H' := ok.stab n H H' s.si (fun a o _ q => e a o q) fun a o q _ => e a o q
/-- the caller's places and the state's are known -/
theorem St0.bc (s : St0 p n B H) : ∀ a, bm p p.Bc n a → bm p B n a := fun a z => z.elim (s.subc a) .inr
theorem Slot.go (e : Ev p n H n' H') {x : Option V} {y : Ent} (h : Slot K p n B H x y) : Slot K p n' B H' x y := by
  cases h with
  | unk _ => exact .unk _
  | val r => exact .val (r.tr e.tr)
  | own b nb nc h0 hl r => exact .own b (fun z => nb (e.old _ z (some_ne hl))) nc h0 (e.ext.keep _ _ hl nb) (r.tr e.tr)
  | stm => exact .stm
  | scr q => exact .scr fun H2 hk => q H2 fun o ho hi => hk o (e.ext.imm _ o ho hi) hi
theorem EnvR.go (r : EnvR K p n B H σ E) (_ : St0 p n B H) (e : Ev p n H n' H') : EnvR K p n' B H' σ E :=
  ⟨r.len, fun i x q => let ⟨s', h1, h2⟩ := r.at_ i x q; ⟨s', h1, h2.go e⟩, r.nd, r.fx.go e, r.pn⟩
end
end
end DL
end
section
namespace DL
open PySem PySem.Spec PyProof.Rows L2
theorem dict_declines (l b : Addr) (o : Obj) (items2 : Array Value) (n2 : Nat) (dd2 : Option Addr) (sl2 : Array (Option Value)) :
    Meets (Builtin.«dict.__eq__» ⟨[.ref l, .ref b], []⟩) (fun _ R s => s.heap.get? l = some o ∧ o.cls = .type "dict" ∧ s.heap.get? b = some { cls := .type "tuple", dict := dd2, data := .seq items2 n2, slots := sl2 } ∧ R (.ok (.ret .notImplemented)) s) :=
  .of_wp fun prog w A R s h => by
    obtain ⟨hl, hc, hb, h⟩ := h
    have t1 : s.TypeIs (.ref l) "dict" := ⟨_, hl, hc⟩
    have t2 : s.TypeIs (.ref b) "tuple" := ⟨_, hb, rfl⟩
    show wpAny _ _ (Builtin.Dict.dictSlotArgs "__eq__" ⟨[.ref l, .ref b], []⟩ >>= _) _ _ s
    refine wpAny_bind ?_
    unfold Builtin.Dict.dictSlotArgs
    refine wpAny_bind (PySem.wpAny_notOrdered_dict t1 ?_)
    show wpAny _ _ (pure (Value.ref l, Value.ref b)) _ _ s
    refine wpAny_pure ?_
    refine wpAny_bind (wpAny_isInstance (T := "tuple") (U := "dict") (b := false) t2 PySem.F.sub_tuple_dict ?_)
    simp only [Bool.not_false, if_true]
    exact wpAny_bind (wpAny_rule (wpAny_pure ⟨_, rfl, h⟩))
theorem tuple_declines (l b : Addr) (o : Obj) (items : Array Value) (n : Nat) (dd : Option Addr) (sl : Array (Option Value)) :
    Meets (Builtin.«tuple.__eq__» ⟨[.ref l, .ref b], []⟩) (fun _ R s => s.heap.get? l = some { cls := .type "tuple", dict := dd, data := .seq items n, slots := sl } ∧ s.heap.get? b = some o ∧ o.cls = .type "dict" ∧ R (.ok (.ret .notImplemented)) s) :=
  .of_wp fun prog w A R s h => by
    obtain ⟨hp, g, d, tk, os⟩ := s
    obtain ⟨hl, hb, hc, h⟩ := h
    obtain ⟨oc, od, oda, os2⟩ := o
    simp only at hc
    subst hc
    have f1 := PySem.F.sub_dict_tuple
    wp_walk using wpAny_loadPart' hl, wpAny_loadPart' hb
    exact ⟨_, rfl, h⟩
section
variable {A : Around} {s : Shared}
theorem rc_dict_tuple {l b : Addr} {o : Obj} {items2 : Array Value} (hl : s.heap.get? l = some o) (hc : o.cls = .type "dict") (hb : s.heap.IsTuple b items2) (hu : A.units < cLine) : SeqAt.RcAt A s (.ref l) (.ref b) false := fun prog w E Q h => by
  obtain ⟨⟨cls2, dd2, data2, sl2⟩, ho2, hc2, n2, hd2⟩ := id hb
  simp only at hc2 hd2
  subst hc2 hd2
  have hne : l ≠ b := fun z => by
    subst z
    rw [hl] at ho2
    cases ho2
    exact absurd hc (by simp)
  exact (PySem.SeqAt.rc_eq_decline_or (k := false) ⟨_, hl, hc⟩ ⟨_, ho2, rfl⟩ (by decide) PySem.F.sub_tuple_dict PySem.F.slot_dict_eq PySem.F.slot_tuple_eq_refl
    (fun _ hq => call_meets PySem.F.slot_dict_eq ⟨_, hl, hc⟩ PySem.F.entry_dict_eq (PySem.F.args_dict_eq_2 _ _) (dict_declines l b o items2 n2 dd2 sl2) ⟨hl, hc, ho2, hq⟩)
    (fun _ hq => call_meets PySem.F.slot_tuple_eq_refl ⟨_, ho2, rfl⟩ PySem.F.entry_tuple_eq (PySem.F.args_tuple_eq_2 _ _) (tuple_declines b l o items2 n2 dd2 sl2) ⟨ho2, hl, hc, hq⟩)
    (fun _ hq => wpAny_isSame_ref_other hne hl ho2 (by rw [hc]; simp) hq) (.inr hu) h)
end
theorem dict_declines_ne (l b : Addr) (o : Obj) (items2 : Array Value) (n2 : Nat) (dd2 : Option Addr) (sl2 : Array (Option Value)) :
    Meets (Builtin.«dict.__ne__» ⟨[.ref l, .ref b], []⟩) (fun _ R s => s.heap.get? l = some o ∧ o.cls = .type "dict" ∧ s.heap.get? b = some { cls := .type "tuple", dict := dd2, data := .seq items2 n2, slots := sl2 } ∧ R (.ok (.ret .notImplemented)) s) :=
  .of_wp fun prog w A R s h => by
    obtain ⟨hl, hc, hb, h⟩ := h
    have t1 : s.TypeIs (.ref l) "dict" := ⟨_, hl, hc⟩
    have t2 : s.TypeIs (.ref b) "tuple" := ⟨_, hb, rfl⟩
    show wpAny _ _ (Builtin.Dict.dictSlotArgs "__ne__" ⟨[.ref l, .ref b], []⟩ >>= _) _ _ s
    refine wpAny_bind ?_
    unfold Builtin.Dict.dictSlotArgs
    refine wpAny_bind (PySem.wpAny_notOrdered_dict t1 ?_)
    show wpAny _ _ (pure (Value.ref l, Value.ref b)) _ _ s
    refine wpAny_pure ?_
    refine wpAny_bind (wpAny_isInstance (T := "tuple") (U := "dict") (b := false) t2 PySem.F.sub_tuple_dict ?_)
    simp only [Bool.not_false, if_true]
    exact wpAny_bind (wpAny_rule (wpAny_pure ⟨_, rfl, h⟩))
theorem tuple_declines_ne (l b : Addr) (o : Obj) (items : Array Value) (n : Nat) (dd : Option Addr) (sl : Array (Option Value)) :
    Meets (Builtin.«tuple.__ne__» ⟨[.ref l, .ref b], []⟩) (fun _ R s => s.heap.get? l = some { cls := .type "tuple", dict := dd, data := .seq items n, slots := sl } ∧ s.heap.get? b = some o ∧ o.cls = .type "dict" ∧ R (.ok (.ret .notImplemented)) s) :=
  .of_wp fun prog w A R s h => by
    obtain ⟨hp, g, d, tk, os⟩ := s
    obtain ⟨hl, hb, hc, h⟩ := h
    obtain ⟨oc, od, oda, os2⟩ := o
    simp only at hc
    subst hc
    have f1 := PySem.F.sub_dict_tuple
    wp_walk using wpAny_loadPart' hl, wpAny_loadPart' hb
    exact ⟨_, rfl, h⟩
section
variable {A : Around} {s : Shared}
theorem rc_dict_tuple_ne {l b : Addr} {o : Obj} {items2 : Array Value} (hl : s.heap.get? l = some o) (hc : o.cls = .type "dict") (hb : s.heap.IsTuple b items2) (hu : A.units < cLine) : SeqAt.RcNeAt A s (.ref l) (.ref b) true := fun prog w E Q h => by
  obtain ⟨⟨cls2, dd2, data2, sl2⟩, ho2, hc2, n2, hd2⟩ := id hb
  simp only at hc2 hd2
  subst hc2 hd2
  have hne : l ≠ b := fun z => by
    subst z
    rw [hl] at ho2
    cases ho2
    exact absurd hc (by simp)
  exact (PySem.SeqAt.rc_ne_decline_or (k := false) ⟨_, hl, hc⟩ ⟨_, ho2, rfl⟩ (by decide) PySem.F.sub_tuple_dict PySem.F.slot_dict_ne PySem.F.slot_tuple_ne_refl
    (fun _ hq => call_meets PySem.F.slot_dict_ne ⟨_, hl, hc⟩ PySem.F.entry_dict_ne (PySem.F.args_dict_ne_2 _ _) (dict_declines_ne l b o items2 n2 dd2 sl2) ⟨hl, hc, ho2, hq⟩)
    (fun _ hq => call_meets PySem.F.slot_tuple_ne_refl ⟨_, ho2, rfl⟩ PySem.F.entry_tuple_ne (PySem.F.args_tuple_ne_2 _ _) (tuple_declines_ne b l o items2 n2 dd2 sl2) ⟨ho2, hl, hc, hq⟩)
    (fun _ hq => wpAny_isSame_ref_other hne hl ho2 (by rw [hc]; simp) hq) (.inr hu) h)
end
end DL
end
section
namespace DL
open PySem PySem.Spec PyProof.Rows L2
theorem tuple_once (l : Addr) (items : Array Value) (n : Nat) (dd : Option Addr) (sl : Array (Option Value)) (u : Tok) :
    Meets (Builtin.«tuple.__mul__» ⟨[.ref l, .int 1 u], []⟩) (fun _ R s => s.heap.get? l = some { cls := .type "tuple", dict := dd, data := .seq items n, slots := sl } ∧
      R (.ok (.ret (Value.ref l))) s) :=
  .of_wp fun prog w A R s h => by
    obtain ⟨hp, g, d, tk, os⟩ := s
    obtain ⟨hl, h⟩ := h
    have f1 := AutoSeq1.idx_int
    have c1 : (items.isEmpty || (1 : Int) == 1) = true := by simp
    wp_walk using wpAny_loadPart' hl
    repeat (first
      | (refine wpAny_ite_true (decide_eq_true c1) ?_; wp_walk using wpAny_loadPart' hl)
      | (refine wpAny_ite_true c1 ?_; wp_walk using wpAny_loadPart' hl))
    exact ⟨_, rfl, h⟩
section
variable {X : Cx}
theorem op_once {pins : List (Addr × Obj)} {s : Shared} {σ : L2.St} {H : Hp} {v u : Value} {Q : VK} {l : Addr} {xs : List V} (I : Inv X pins σ H s) (rx : RelV (.ref l) v) (ry : RelV (.int 1) u) (hT : SqT X.K H l xs) (q : Q (.ref l) H) : wpAny (model X.prog X.w) X.A (binaryOp .Mult v u) (EP X pins σ Q) X.xe s := by
  cases rx
  obtain ⟨t, rfl⟩ := ry
  obtain ⟨its, r, ⟨⟨cls, dd, data, sl⟩, ho, hc, n, hd⟩, hs⟩ := I.tuple hT
  simp only at hc hd
  subst hc hd
  refine wpAny_binaryOp_repeat_ref (T := "tuple") (U := "int") (by decide) ⟨_, ho, rfl⟩ (fun s' => typeIs_int s' 1 t) noFill_tuple_mul PySem.F.fills_int_mul PySem.F.slot_int_rmul repeat_tuple PySem.F.slot_int_index.lookup
    (call_meets PySem.F.slot_int_rmul (typeIs_int s 1 t) PySem.F.entry_int_rmul (PySem.F.args_int_rmul_2 _ _) (int_rmul_tuple 1 t l its.toArray n dd sl)
      ⟨ho, rfl, ⟨_, ho, rfl⟩, call_meets PySem.F.slot_tuple_mul ⟨_, ho, rfl⟩ PySem.F.entry_tuple_mul (PySem.F.args_tuple_mul_2 _ _) (tuple_once l its.toArray n dd sl t) ⟨ho, ?_⟩⟩)
  exact ⟨.ref l, H, I, rfl, q⟩
end
theorem rep_once (ds : List PyData) : rep 1 ds = ds := by
  simp [rep]
end DL
end
section
namespace DL
open PySem PySem.Spec PyProof.Rows L2
theorem tuple_never (l : Addr) (items : Array Value) (n : Nat) (dd : Option Addr) (sl : Array (Option Value)) (u : Tok) (c1 : items.isEmpty = false) :
    Meets (Builtin.«tuple.__mul__» ⟨[.ref l, .int 0 u], []⟩) (fun _ R s => s.heap.get? l = some { cls := .type "tuple", dict := dd, data := .seq items n, slots := sl } ∧
      R (.ok (.ret (Value.ref s.heap.objs.size))) { s with heap := s.heap.push { cls := Value.type "tuple", data := Data.seq #[] }, toks := s.toks }) :=
  .of_wp fun prog w A R s h => by
    obtain ⟨hp, g, d, tk, os⟩ := s
    obtain ⟨hl, h⟩ := h
    have f1 := AutoSeq1.idx_int
    have c2 : (items.isEmpty || (0 : Int) == 1) = false := by rw [c1]; rfl
    wp_walk using wpAny_loadPart' hl
    repeat (first
      | (refine wpAny_ite_false (decide_eq_false (by rw [c2]; exact Bool.false_ne_true)) ?_; wp_walk using wpAny_loadPart' hl)
      | (refine wpAny_ite_false (by rw [c2]; exact Bool.false_ne_true) ?_; wp_walk using wpAny_loadPart' hl))
    exact ⟨_, rfl, h⟩
section
variable {X : Cx}
theorem op_never {pins : List (Addr × Obj)} {s : Shared} {σ : L2.St} {H : Hp} {v u : Value} {Q : VK} {l : Addr} {xs : List V} (I : Inv X pins σ H s) (rx : RelV (.ref l) v) (ry : RelV (.int 0) u) (hT : SqT X.K H l xs) (hne : xs ≠ []) (q : ∀ p, H p = none → Q (.ref p) (upd H p (.tup []))) : wpAny (model X.prog X.w) X.A (binaryOp .Mult v u) (EP X pins σ Q) X.xe s := by
  cases rx
  obtain ⟨t, rfl⟩ := ry
  obtain ⟨its, r, ⟨⟨cls, dd, data, sl⟩, ho, hc, n, hd⟩, hs⟩ := I.tuple hT
  simp only at hc hd
  subst hc hd
  have hi : its.toArray.isEmpty = false := by
    cases its with
    | nil => exact absurd (List.eq_nil_of_length_eq_zero r.length) hne
    | cons a b => rfl
  refine wpAny_binaryOp_repeat_ref (T := "tuple") (U := "int") (by decide) ⟨_, ho, rfl⟩ (fun s' => typeIs_int s' 0 t) noFill_tuple_mul PySem.F.fills_int_mul PySem.F.slot_int_rmul repeat_tuple PySem.F.slot_int_index.lookup
    (call_meets PySem.F.slot_int_rmul (typeIs_int s 0 t) PySem.F.entry_int_rmul (PySem.F.args_int_rmul_2 _ _) (int_rmul_tuple 0 t l its.toArray n dd sl)
      ⟨ho, rfl, ⟨_, ho, rfl⟩, call_meets PySem.F.slot_tuple_mul ⟨_, ho, rfl⟩ PySem.F.entry_tuple_mul (PySem.F.args_tuple_mul_2 _ _) (tuple_never l its.toArray n dd sl t hi) ⟨ho, ?_⟩⟩)
  refine ⟨.ref s.heap.objs.size, _, I.laid (t' := s.toks) (o := .tup []) (fun b ob q => Heap.get?_push_of_some _ q) (Nat.le_refl _) ?_, rfl, q _ (I.hok.fresh (Nat.le_refl _))⟩
  exact ⟨by rw [sizeLine_eq]; decide, _, .nil, IsTup.new _ _⟩
end
end DL
end
section
namespace DL
open PySem PySem.Spec PyProof.Rows L2
/-- the place of sys.modules is of the base -/
def HasSm (base : Heap) : Prop := ∃ o, base.get? sysModules = some o
/-- room for calls; cb: nothing is handled -/
structure RoomB (cb : Bool) (k : Nat) (A : Around) : Prop where
  hd_ : cb = true → A.handled = none
  dp : A.depth + 3 * k + 5 < recursionLimit
  un : A.units + 16 * k + 200 < cLine
theorem RoomB.of {k : Nat} {A : Around} (r : Room k A) : RoomB true k A := ⟨fun _ => r.hd, r.dp, r.un⟩
theorem RoomB.mono {cb : Bool} {j k : Nat} {A : Around} (r : RoomB cb k A) (h : j ≤ k) : RoomB cb j A := ⟨r.hd_, by have := r.dp; omega, by have := r.un; omega⟩
theorem RoomB.deeper {cb : Bool} {k : Nat} {A : Around} (r : RoomB cb (k + 1) A) (env : PySem.Env) : RoomB cb k (A.deeper env) :=
  ⟨r.hd_, by have := r.dp; show A.depth + 1 + 3 * k + 5 < _; omega, by have := r.un; show A.units + 3 + 16 * k + 200 < _; omega⟩
theorem RoomB.depth {cb : Bool} {k : Nat} {A : Around} (r : RoomB cb k A) : A.depth < recursionLimit := by have := r.dp; omega
theorem RoomB.units {cb : Bool} {k : Nat} {A : Around} (r : RoomB cb k A) : A.units + 64 < cLine := by have := r.un; omega
/-- what is known of the body that runs; cb: not within an except suite; vb: not within a try's body -/
structure SitB (cb vb : Bool) (X : Cx) (p : Par) (k : Nat) : Prop where
  calm_ : cb = true → X.calm = true
  gd : X.A.guards = some []
  rm : RoomB cb k X.A
  nd : X.N.Nodup
  ok : p.Ok X.K X.mg
  po : PassesOwn (model X.prog X.w) X.A X.env X.xe
  tk : TakesD X (fun c d σ H => p.EK σ c d H)
  nf_ : vb = true → p.fx = none
  sm : HasSm X.base
abbrev Sit (X : Cx) (p : Par) (k : Nat) : Prop := SitB true true X p k
theorem SitB.ps {cb vb : Bool} {X : Cx} {p : Par} {k : Nat} (S : SitB cb vb X p k) (σ : L2.St) : PassesAt (CXd X.K X.prog X.w) X σ (p.EK σ) := passAtD S.tk σ
theorem SitB.calm {vb : Bool} {X : Cx} {p : Par} {k : Nat} (S : SitB true vb X p k) : X.calm = true := S.calm_ rfl
theorem SitB.nf {cb : Bool} {X : Cx} {p : Par} {k : Nat} (S : SitB cb true X p k) : p.fx = none := S.nf_ rfl
def EvR (K : PySem.W.Frag) (p : Par) (te : TE) (m : XE) : Prop :=
  ∀ (B : Addr → Prop) (H : Hp) (σ : L2.St) (E : Env) (c : Sx) (P : D → Sx → Prop) (Q : VK), St0 p c B H → EnvR K p c B H σ E → m E c P p.XP →
    (∀ d c' v H', P d c' → Ev p c H c' H' → p.SI c' H' → Rep K (bm p B c') H' v d → Q v H') → te σ H Q
def EvT (K : PySem.W.Frag) (p : Par) (tt : TT) (m : XT) : Prop :=
  ∀ (B : Addr → Prop) (H : Hp) (σ : L2.St) (E : Env) (c : Sx) (P : Bool → Sx → Prop) (Q : Bool → Hp → Prop), St0 p c B H → EnvR K p c B H σ E → m E c P p.XP →
    (∀ b c' H', P b c' → Ev p c H c' H' → p.SI c' H' → Q b H') → tt σ H Q
def EvA (K : PySem.W.Frag) (p : Par) (ta : TA) (m : XA) : Prop :=
  ∀ (B : Addr → Prop) (H : Hp) (σ : L2.St) (E : Env) (c : Sx) (P : List D → Sx → Prop) (Q : List V → Hp → Prop), St0 p c B H → EnvR K p c B H σ E → m E c P p.XP →
    (∀ ds c' vs H', P ds c' → Ev p c H c' H' → p.SI c' H' → Reps K (bm p B c') H' vs ds → Q vs H') → ta σ H Q
structure PD (X : Cx) (p : Par) (e : Expr) (m : XE) : Prop where
  ex : ∃ te, PE X e te ∧ EvR X.K p te m
structure PDT (X : Cx) (p : Par) (e : Expr) (m : XT) : Prop where
  ex : ∃ tt, PT X e tt ∧ EvT X.K p tt m
structure PDW (X : Cx) (p : Par) (e : Expr) (m : XT) : Prop where
  ex : ∃ tt, PW X e tt ∧ EvT X.K p tt m
structure PDA (X : Cx) (p : Par) (es : List Expr) (m : XA) : Prop where
  ex : ∃ ta, PA X es ta ∧ EvA X.K p ta m
section
variable {X : Cx} {p : Par} {k : Nat} {K : PySem.W.Frag}
theorem pd_var (i : Nat) {x : Str} {pos : Pos} (hN : X.N[i]? = some x := by rfl) (hv : Vis X.env.scope x := by first | exact Or.inl rfl | exact Or.inr (Or.inl rfl) | exact Or.inr (Or.inr rfl))
    (hd : (x == ("__debug__" : Str)) = false := by decide) (hcd : (x == ("__classdict__" : Str)) = false := by decide) : PD X p (.Name x pos) (eVar i) := by
  refine ⟨tVar i, pe_var hN hv hd hcd, fun B H σ E c P Q s r m k => ?_⟩
  unfold eVar at m
  cases e : E[i]? with
  | none => rw [e] at m; exact m.elim
  | some y =>
    rw [e] at m
    obtain ⟨z, h1, h2⟩ := r.at_ i y e
    cases h2 with
    | unk _ => exact m.elim
    | val q => exact ⟨_, h1, k _ _ _ H m Ev.refl s.si q⟩
    | own _ _ _ _ _ _ => exact m.elim
    | stm => exact m.elim
    | scr _ => exact m.elim
theorem ev_con {v : V} {d : D} (h : ∀ B H, Rep K B H v d) : EvR K p (tC v) (eCon d) := fun B H σ E c P Q s r m k => k d _ v H m Ev.refl s.si (h _ H)
theorem pd_int {i j pos} : PD X p (.Constant (.int i) j pos) (eCon (.int i)) := ⟨_, pe_int, ev_con fun _ _ => .int i⟩
theorem pd_bl {b j pos} : PD X p (.Constant (.bool b) j pos) (eCon (.bool b)) := ⟨_, pe_bl, ev_con fun _ _ => .bl b⟩
theorem pd_non {j pos} : PD X p (.Constant .none j pos) (eCon .none) := ⟨_, pe_non, ev_con fun _ _ => .non⟩
/-- a constant of the module -/
theorem pd_glob {x : Str} {i : Int} {pos : Pos} (hm : ∃ t, X.mg x = some (.int i t)) (hg : Gl X x := by rfl) (hd : (x == ("__debug__" : Str)) = false := by decide) : PD X p (.Name x pos) (eCon (.int i)) := by
  obtain ⟨t, hm⟩ := hm
  exact ⟨_, pe_glob (v := .int i) hg hm ⟨t, rfl⟩ hd, ev_con fun _ _ => .int i⟩
/-- a two-place operation on values that are data -/
def rD2 (K : PySem.W.Frag) (f : D → D → W D) : R2 := fun x y H Q => ∃ (B : Addr → Prop) (d e : D) (c : Sx) (P : D → Sx → Prop) (Xp : Exn → Sx → Prop),
  (∀ a, B a → H a ≠ none) ∧ Rep K B H x d ∧ Rep K B H y e ∧ f d e c P Xp ∧ ∀ z v H', P z c → All H H' → Rep K B H' v z → Q v H'
def rD1 (K : PySem.W.Frag) (f : D → W D) : V → Hp → VK → Prop := fun x H Q => ∃ (B : Addr → Prop) (d : D) (c : Sx) (P : D → Sx → Prop) (Xp : Exn → Sx → Prop),
  (∀ a, B a → H a ≠ none) ∧ Rep K B H x d ∧ f d c P Xp ∧ ∀ z v H', P z c → All H H' → Rep K B H' v z → Q v H'
def rC1 (K : PySem.W.Frag) (f : D → W D) : List V → Hp → VK → Prop := fun xs H Q => ∃ x, xs = [x] ∧ rD1 K f x H Q
def rC2 (K : PySem.W.Frag) (f : D → D → W D) : List V → Hp → VK → Prop := fun xs H Q => ∃ x y, xs = [x, y] ∧ rD2 K f x y H Q
theorem ev_bnd {ta tb : TE} {ma mb : XE} {r : R2} {f : D → D → W D} (ok : p.Ok K X.mg) (hr : ∀ x y H Q, rD2 K f x y H Q → r x y H Q) (ha : EvR K p ta ma) (hb : EvR K p tb mb) :
    EvR K p (tOp r ta tb) (fun E => bnd (ma E) fun x => bnd (mb E) fun y => f x y) := by
  intro B H σ E c P Q s re m k
  refine ha B H σ E _ _ _ s re m fun d c1 v H1 m1 e1 s1 r1 => ?_
  have st1 := s.go e1 s1
  refine hb B H1 σ E _ _ _ st1 (re.go s e1) m1 fun d2 c2' v2 H2 m2 e2 s2 r2 => ?_
  have st2 := st1.go e2 s2
  refine hr _ _ _ _ ⟨_, d, d2, _, P, p.XP, st2.trk, r1.tr (st1.up e2), r2, m2, fun z v3 H3 pz a3 r3 => ?_⟩
  exact k z _ v3 H3 pz (e1.trans (e2.trans a3.ev)) (st2.all ok a3) r3
theorem ev_bnd1 {ta : TE} {ma : XE} {r : V → Hp → VK → Prop} {f : D → W D} (ok : p.Ok K X.mg) (hr : ∀ x H Q, rD1 K f x H Q → r x H Q) (ha : EvR K p ta ma) :
    EvR K p (tUn r ta) (fun E => bnd (ma E) f) := by
  intro B H σ E c P Q s re m k
  refine ha B H σ E _ _ _ s re m fun d c1 v H1 m1 e1 s1 r1 => ?_
  have st1 := s.go e1 s1
  exact hr _ _ _ ⟨_, d, _, P, p.XP, st1.trk, r1, m1, fun z v3 H3 pz a3 r3 => k z _ v3 H3 pz (e1.trans a3.ev) (st1.all ok a3) r3⟩
theorem lay_of {d : D} (h : SeqAt.shaped d = true) : PyData.canLay0 d = true := by
  unfold SeqAt.shaped at h
  exact (Bool.and_eq_true_iff.mp h).1
/-- fresh tuples, fresh lists -/
theorem rep_tup {B : Addr → Prop} {H : Hp} {q : Addr} {xs : List V} {ds : List D} (hq : H q = none) (r : Reps K B H xs ds) : Rep K B (upd H q (.tup xs)) (.ref q) (.tuple ds) :=
  .tup (SqT.of upd_same) (r.mono (All.new hq).ext)
theorem rep_lst {B : Addr → Prop} {H : Hp} {q : Addr} {xs : List V} {ds : List D} (hb : ∀ a, B a → H a ≠ none) (hq : H q = none) (r : Reps K B H xs ds) : Rep K B (upd H q (.lst xs)) (.ref q) (.list ds) :=
  .lst upd_same (fun z => hb q z hq) (r.mono (All.new hq).ext)
theorem small_line {n : Nat} (h : small n) : n ≤ sizeLine := Nat.le_trans h (by rw [sizeLine_eq]; decide)
theorem small_lt {n : Nat} (h : small n) : n < sizeLine := Nat.lt_of_le_of_lt h (by rw [sizeLine_eq]; decide)
theorem op_addD : OpR X (binaryOp .Add) (rD2 X.K opAdd) := by
  intro pins s σ H x y v u Q I rx ry h
  obtain ⟨_, d, e, c, P, Xp, hb, r1, r2, m, k⟩ := h
  cases r1 with
  | int i =>
    cases r2 with
    | int j => exact op_add pins s σ H _ _ v u Q I rx ry ⟨i, j, rfl, rfl, k _ _ H m All.refl (.int _)⟩
    | _ => exact m.elim
  | bl i =>
    cases r2 with
    | int j =>
      obtain ⟨tk, rfl⟩ := ry
      cases rx
      exact PySem.IntBool.add_bool_int ⟨.int (DL.b2i i + j), H, I.tok _, ⟨_, rfl⟩, k _ _ H m All.refl (.int _)⟩
    | _ => exact m.elim
  | str i =>
    cases r2 with
    | str j =>
      obtain ⟨hz, m⟩ := m
      exact op_add_str pins s σ H _ _ v u Q I rx ry ⟨i, j, rfl, rfl, small_line hz, k _ _ H m All.refl (.str _)⟩
    | _ => exact m.elim
  | tup q1 s1 =>
    cases r2 with
    | tup q2 s2 =>
      obtain ⟨hz, m⟩ := m
      have l1 := s1.length
      have l2 := s2.length
      refine op_catA pins s σ H _ _ v u Q I rx ry ⟨_, _, _, _, rfl, rfl, q1, q2, by rw [l1, l2]; exact small_line hz, fun z => ?_, fun n z => ?_, fun n n2 q hq => ?_⟩
      · subst z
        cases s1
        exact k _ _ H m All.refl (.tup q2 s2)
      · subst z
        cases s2
        rw [List.append_nil] at m
        exact k _ _ H m All.refl (.tup q1 s1)
      · exact k _ _ _ m (All.new hq) (rep_tup hq (s1.append s2))
    | _ => exact m.elim
  | lst q1 b1 s1 =>
    cases r2 with
    | lst q2 b2 s2 =>
      obtain ⟨hz, m⟩ := m
      have l1 := s1.length
      have l2 := s2.length
      exact op_cat pins s σ H _ _ v u Q I rx ry ⟨_, _, _, _, rfl, rfl, q1, q2, by rw [l1, l2]; exact small_line hz, fun q hq => k _ _ _ m (All.new hq) (rep_lst hb hq (s1.append s2))⟩
    | _ => exact m.elim
  | _ => exact m.elim
theorem op_subD : OpR X (binaryOp .Sub) (rD2 X.K opSub) := by
  intro pins s σ H x y v u Q I rx ry h
  obtain ⟨_, d, e, c, P, Xp, hb, r1, r2, m, k⟩ := h
  cases r1 with
  | int i =>
    cases r2 with
    | int j => exact op_sub pins s σ H _ _ v u Q I rx ry ⟨i, j, rfl, rfl, k _ _ H m All.refl (.int _)⟩
    | _ => exact m.elim
  | bl i =>
    cases r2 with
    | int j =>
      obtain ⟨tk, rfl⟩ := ry
      cases rx
      exact PySem.IntBool.sub_bool_int ⟨.int (DL.b2i i - j), H, I.tok _, ⟨_, rfl⟩, k _ _ H m All.refl (.int _)⟩
    | _ => exact m.elim
  | _ => exact m.elim
theorem op_mulD : OpR X (binaryOp .Mult) (rD2 X.K opMul) := by
  intro pins s σ H x y v u Q I rx ry h
  obtain ⟨_, d, e, c, P, Xp, hb, r1, r2, m, k⟩ := h
  cases r1 with
  | int i =>
    cases r2 with
    | int j => exact op_mul pins s σ H _ _ v u Q I rx ry ⟨i, j, rfl, rfl, m.1, k _ _ H m.2 All.refl (.int _)⟩
    | _ => exact m.elim
  | tup q1 s1 =>
    cases r2 with
    | int j =>
      obtain ⟨⟨h0, h1, h2, h3⟩, m⟩ := m
      have l1 := s1.length
      by_cases hj : j = 1
      · subst hj
        rw [rep_once] at m
        exact op_once I rx ry q1 (k _ _ H m All.refl (.tup q1 s1))
      by_cases hj0 : j = 0
      · subst hj0
        exact op_never I rx ry q1 (fun z => by subst z; cases s1; exact h0 rfl) (fun q hq => k _ _ _ m (All.new hq) (rep_tup hq .nil))
      refine op_repT pins s σ H _ _ v u Q I rx ry ⟨_, j, _, rfl, rfl, q1, fun z => ?_, by omega, h2, by rw [l1]; exact h3, fun q hq => k _ _ _ m (All.new hq) (rep_tup hq (s1.rep _))⟩
      subst z
      cases s1
      exact h0 rfl
    | _ => exact m.elim
  | lst q1 b1 s1 =>
    cases r2 with
    | int j =>
      obtain ⟨⟨h0, h1, h2⟩, m⟩ := m
      have l1 := s1.length
      have hj : j.toNat ≤ 1000 := by omega
      have hm : (_ : List V).length * j.toNat ≤ 1000 * 1000 := Nat.mul_le_mul (by rw [l1]; exact h2) hj
      exact op_rep pins s σ H _ _ v u Q I rx ry ⟨_, j, _, rfl, rfl, q1, by omega, by omega, Nat.le_trans hm (by rw [sizeLine_eq]; decide), fun q hq => k _ _ _ m (All.new hq) (rep_lst hb hq (s1.rep _))⟩
    | _ => exact m.elim
  | _ => exact m.elim
theorem op_fdivD : OpR X (binaryOp .FloorDiv) (rD2 X.K opFdiv) := by
  intro pins s σ H x y v u Q I rx ry h
  obtain ⟨_, d, e, c, P, Xp, hb, r1, r2, m, k⟩ := h
  cases r1 with
  | int i =>
    cases r2 with
    | int j => exact op_fdivW pins s σ H _ _ v u Q I rx ry ⟨i, j, rfl, rfl, ⟨m.1.1, (Nat.log2_lt (by have := m.1.1; omega)).mpr (Nat.lt_of_lt_of_le (show j.natAbs < 2 ^ 63 by have := m.1.2; have := m.1.1; omega) (Nat.pow_le_pow_right (by decide) (by decide)))⟩, k _ _ H m.2 All.refl (.int _)⟩
    | _ => exact m.elim
  | _ => exact m.elim
theorem op_modD : OpR X (binaryOp .Mod) (rD2 X.K opMod) := by
  intro pins s σ H x y v u Q I rx ry h
  obtain ⟨_, d, e, c, P, Xp, hb, r1, r2, m, k⟩ := h
  cases r1 with
  | int i =>
    cases r2 with
    | int j => exact op_mod pins s σ H _ _ v u Q I rx ry ⟨i, j, rfl, rfl, m.1, k _ _ H m.2 All.refl (.int _)⟩
    | _ => exact m.elim
  | _ => exact m.elim
theorem op_powD : OpR X (binaryOp .Pow) (rD2 X.K opPow) := by
  intro pins s σ H x y v u Q I rx ry h
  obtain ⟨_, d, e, c, P, Xp, hb, r1, r2, m, k⟩ := h
  cases r1 with
  | int i =>
    cases r2 with
    | int j => exact op_pow pins s σ H _ _ v u Q I rx ry ⟨i, j, rfl, rfl, ⟨m.1.1, Int.le_trans m.1.2.1 (by decide), m.1.2.2⟩, k _ _ H m.2 All.refl (.int _)⟩
    | _ => exact m.elim
  | _ => exact m.elim
theorem op_shlD : OpR X (binaryOp .LShift) (rD2 X.K opShl) := by
  intro pins s σ H x y v u Q I rx ry h
  obtain ⟨_, d, e, c, P, Xp, hb, r1, r2, m, k⟩ := h
  cases r1 with
  | int i =>
    cases r2 with
    | int j => exact op_shl pins s σ H _ _ v u Q I rx ry ⟨i, j, rfl, rfl, ⟨m.1.1, Int.le_trans m.1.2.1 (by decide), m.1.2.2⟩, k _ _ H m.2 All.refl (.int _)⟩
    | _ => exact m.elim
  | _ => exact m.elim
def opS : Op → Operator
  | .add => .Add
  | .sub => .Sub
  | .mul => .Mult
  | .fdiv => .FloorDiv
  | .mod => .Mod
  | .pow => .Pow
  | .shl => .LShift
theorem op_binD : ∀ o : Op, OpR X (binaryOp (opS o)) (rD2 X.K (opBin o))
  | .add => op_addD
  | .sub => op_subD
  | .mul => op_mulD
  | .fdiv => op_fdivD
  | .mod => op_modD
  | .pow => op_powD
  | .shl => op_shlD
theorem pd_bin {cb vb : Bool} (S : SitB cb vb X p k) (o : Op) {a b : Expr} {ma mb : XE} {pos : Pos} (ha : PD X p a ma) (hb : PD X p b mb) : PD X p (.BinOp a (opS o) b pos) (eBin o ma mb) := by
  obtain ⟨ta, a1, a2⟩ := ha.ex
  obtain ⟨tb, b1, b2⟩ := hb.ex
  exact ⟨_, pe_op (op_binD o) a1 b1, ev_bnd S.ok (fun _ _ _ _ h => h) a2 b2⟩
theorem un_negD : UnR X (unaryOp .USub) (rD1 X.K opNeg) := by
  intro pins s σ H x v Q I rx h
  obtain ⟨_, d, c, P, Xp, hb, r1, m, k⟩ := h
  cases r1 with
  | int i => exact un_neg pins s σ H _ v Q I rx ⟨i, rfl, k _ _ H m All.refl (.int _)⟩
  | _ => exact m.elim
theorem pd_neg {cb vb : Bool} (S : SitB cb vb X p k) {a : Expr} {ma : XE} {pos : Pos} (ha : PD X p a ma) : PD X p (.UnaryOp .USub a pos) (eNeg ma) := by
  obtain ⟨ta, a1, a2⟩ := ha.ex
  exact ⟨_, pe_un un_negD a1, ev_bnd1 S.ok (fun _ _ _ h => h) a2⟩
def cmpD (o : Cmp) (x y : D) : W D := bnd (opCmp o x y) fun c => ret (.bool c)
def cmpS : Cmp → CmpOp
  | .eq => .Eq
  | .ne => .NotEq
  | .lt => .Lt
  | .le => .LtE
  | .gt => .Gt
  | .ge => .GtE
  | .isN => .Is
  | .notN => .IsNot
theorem rep_non {B : Addr → Prop} {H : Hp} {v : V} {d : D} (r : Rep K B H v d) : decide (v = .non) = isNone d := by
  cases r <;> rfl
theorem nil_sizes {B : Addr → Prop} {pins : List (Addr × Obj)} {σ : L2.St} {H : Hp} {s : Shared} {x y : V} {v u : Value} {ds : List D} (I : Inv X pins σ H s) (rx : RelV x v) (ry : RelV y u) (r1 : Rep X.K B H x (.list ds)) (r2 : Rep X.K B H y (.list [])) :
    ∃ a b its its2, v = .ref a ∧ u = .ref b ∧ s.heap.IsList a its ∧ s.heap.IsList b its2 ∧ its.size = ds.length ∧ its2.size = 0 := by
  cases r1 with
  | lst e1 n1 q1 =>
    cases r2 with
    | lst e2 n2 q2 =>
      obtain ⟨its, v1, p1, _⟩ := I.list (.inl (.inl e1))
      obtain ⟨its2, v2, p2, _⟩ := I.list (.inl (.inl e2))
      refine ⟨_, _, its.toArray, its2.toArray, rx, ry, p1.isList, p2.isList, ?_, ?_⟩
      · rw [List.size_toArray, ← v1.length, q1.length]
      · rw [List.size_toArray, ← v2.length, q2.length]
        rfl
theorem eq_nilA {B : Addr → Prop} {pins : List (Addr × Obj)} {σ : L2.St} {H : Hp} {s : Shared} {x y : V} {v u : Value} {ds : List D} {Q : VK} (I : Inv X pins σ H s) (rx : RelV x v) (ry : RelV y u) (r1 : Rep X.K B H x (.list ds)) (r2 : Rep X.K B H y (.list [])) (hu : X.A.units < cLine)
    (q : Q (.bl (PyData.eqv (.list ds) (.list []))) H) : wpAny (model X.prog X.w) X.A (compareOp .Eq v u) (EP X pins σ Q) X.xe s := by
  obtain ⟨a, b, its, its2, rfl, rfl, i1, i2, z1, z2⟩ := nil_sizes I rx ry r1 r2
  cases ds with
  | nil => exact SeqAt.RcAt.lists (e := fun _ => true) i1 i2 (by rw [z1, z2]; rfl) hu (fun j h1 _ => absurd h1 (by rw [z1]; exact Nat.not_lt_zero j)) _ _ _ _ ⟨.bl true, H, I, by rw [z1]; rfl, q⟩
  | cons d ds => exact SeqAt.RcAt.lists_lengths i1 i2 (by rw [z1, z2]; rfl) hu _ _ _ _ ⟨.bl false, H, I, rfl, q⟩
theorem ne_nilA {B : Addr → Prop} {pins : List (Addr × Obj)} {σ : L2.St} {H : Hp} {s : Shared} {x y : V} {v u : Value} {ds : List D} {Q : VK} (I : Inv X pins σ H s) (rx : RelV x v) (ry : RelV y u) (r1 : Rep X.K B H x (.list ds)) (r2 : Rep X.K B H y (.list [])) (hu : X.A.units < cLine)
    (q : Q (.bl (!PyData.eqv (.list ds) (.list []))) H) : wpAny (model X.prog X.w) X.A (compareOp .NotEq v u) (EP X pins σ Q) X.xe s := by
  obtain ⟨a, b, its, its2, rfl, rfl, i1, i2, z1, z2⟩ := nil_sizes I rx ry r1 r2
  cases ds with
  | nil => exact SeqAt.RcNeAt.lists (e := fun _ => true) i1 i2 (by rw [z1, z2]; rfl) hu (fun j h1 _ => absurd h1 (by rw [z1]; exact Nat.not_lt_zero j)) _ _ _ _ ⟨.bl false, H, I, by rw [z1]; rfl, q⟩
  | cons d ds => exact SeqAt.RcNeAt.lists_lengths i1 i2 (by rw [z1, z2]; rfl) hu _ _ _ _ ⟨.bl true, H, I, rfl, q⟩
theorem nilT_sizes {B : Addr → Prop} {pins : List (Addr × Obj)} {σ : L2.St} {H : Hp} {s : Shared} {x y : V} {v u : Value} {ds : List D} (I : Inv X pins σ H s) (rx : RelV x v) (ry : RelV y u) (r1 : Rep X.K B H x (.tuple ds)) (r2 : Rep X.K B H y (.tuple [])) :
    ∃ a b its its2, v = .ref a ∧ u = .ref b ∧ IsTup s.heap a its ∧ IsTup s.heap b its2 ∧ its.size = ds.length ∧ its2.size = 0 := by
  cases r1 with
  | tup e1 q1 =>
    cases r2 with
    | tup e2 q2 =>
      obtain ⟨its, v1, p1, _⟩ := I.tuple e1
      obtain ⟨its2, v2, p2, _⟩ := I.tuple e2
      refine ⟨_, _, its.toArray, its2.toArray, rx, ry, p1, p2, ?_, ?_⟩
      · rw [List.size_toArray, ← v1.length, q1.length]
      · rw [List.size_toArray, ← v2.length, q2.length]
        rfl
theorem eqv_nilT (ds : List D) : PyData.eqv (.tuple ds) (.tuple []) = (ds.length == 0) := by
  cases ds <;> rfl
theorem eq_nilTA {B : Addr → Prop} {pins : List (Addr × Obj)} {σ : L2.St} {H : Hp} {s : Shared} {x y : V} {v u : Value} {ds : List D} {Q : VK} (I : Inv X pins σ H s) (rx : RelV x v) (ry : RelV y u) (r1 : Rep X.K B H x (.tuple ds)) (r2 : Rep X.K B H y (.tuple [])) (hu : X.A.units < cLine)
    (q : Q (.bl (PyData.eqv (.tuple ds) (.tuple []))) H) : wpAny (model X.prog X.w) X.A (compareOp .Eq v u) (EP X pins σ Q) X.xe s := by
  obtain ⟨a, b, its, its2, rfl, rfl, i1, i2, z1, z2⟩ := nilT_sizes I rx ry r1 r2
  refine SeqAt.RcAt.tuples (e := fun _ => true) i1 i2 hu (fun j _ h2 => absurd h2 (by rw [z2]; exact Nat.not_lt_zero j)) _ _ _ _ ⟨_, H, I, ?_, q⟩
  rw [eqv_nilT, z1, z2]
  simp
  rfl
theorem ne_nilTA {B : Addr → Prop} {pins : List (Addr × Obj)} {σ : L2.St} {H : Hp} {s : Shared} {x y : V} {v u : Value} {ds : List D} {Q : VK} (I : Inv X pins σ H s) (rx : RelV x v) (ry : RelV y u) (r1 : Rep X.K B H x (.tuple ds)) (r2 : Rep X.K B H y (.tuple [])) (hu : X.A.units < cLine)
    (q : Q (.bl (!PyData.eqv (.tuple ds) (.tuple []))) H) : wpAny (model X.prog X.w) X.A (compareOp .NotEq v u) (EP X pins σ Q) X.xe s := by
  obtain ⟨a, b, its, its2, rfl, rfl, i1, i2, z1, z2⟩ := nilT_sizes I rx ry r1 r2
  refine SeqAt.RcNeAt.tuples (e := fun _ => true) i1 i2 hu (fun j _ h2 => absurd h2 (by rw [z2]; exact Nat.not_lt_zero j)) _ _ _ _ ⟨_, H, I, ?_, q⟩
  rw [eqv_nilT, z1, z2]
  simp
  rfl
theorem eq_vsNil {B : Addr → Prop} {pins : List (Addr × Obj)} {σ : L2.St} {H : Hp} {s : Shared} {x y : V} {v u : Value} {d e : D} {Q : VK} (I : Inv X pins σ H s) (rx : RelV x v) (ry : RelV y u) (r1 : Rep X.K B H x d) (r2 : Rep X.K B H y e) (hu : X.A.units < cLine) (hv : vsNil d e = true)
    (q : Q (.bl (PyData.eqv d e)) H) : wpAny (model X.prog X.w) X.A (compareOp .Eq v u) (EP X pins σ Q) X.xe s := by
  unfold vsNil at hv
  split at hv
  · cases r1 with
    | lst e1 n1 q1 =>
      cases r2 with
      | tup e2 q2 =>
        obtain ⟨its, v1, p1, _⟩ := I.list (.inl (.inl e1))
        obtain ⟨its2, v2, p2, _⟩ := I.tuple e2
        cases (show v = _ from rx)
        cases (show u = _ from ry)
        exact SeqAt.RcAt.list_tuple p1.isList p2 hu _ _ _ _ ⟨.bl false, H, I, rfl, q⟩
  · cases r1 with
    | dct0 e1 n1 =>
      cases r2 with
      | tup e2 q2 =>
        obtain ⟨_, sm, vs, kv, o, es, ep, ho, ex, hd, _, pr, _⟩ := dk_of I.hok e1
        obtain ⟨its2, v2, p2, _⟩ := I.tuple e2
        cases (show v = _ from rx)
        cases (show u = _ from ry)
        exact rc_dict_tuple ho ex.1 p2 hu _ _ _ _ ⟨.bl false, H, I, rfl, q⟩
  · cases r1 with
    | dct1 e1 n1 q1 =>
      cases r2 with
      | tup e2 q2 =>
        obtain ⟨_, sm, vs, kv, o, es, ep, ho, ex, hd, _, pr, _⟩ := dk_of I.hok e1
        obtain ⟨its2, v2, p2, _⟩ := I.tuple e2
        cases (show v = _ from rx)
        cases (show u = _ from ry)
        exact rc_dict_tuple ho ex.1 p2 hu _ _ _ _ ⟨.bl false, H, I, rfl, q⟩
  · cases hv
theorem ne_vsNil {B : Addr → Prop} {pins : List (Addr × Obj)} {σ : L2.St} {H : Hp} {s : Shared} {x y : V} {v u : Value} {d e : D} {Q : VK} (I : Inv X pins σ H s) (rx : RelV x v) (ry : RelV y u) (r1 : Rep X.K B H x d) (r2 : Rep X.K B H y e) (hu : X.A.units < cLine) (hv : vsNil d e = true)
    (q : Q (.bl (!PyData.eqv d e)) H) : wpAny (model X.prog X.w) X.A (compareOp .NotEq v u) (EP X pins σ Q) X.xe s := by
  unfold vsNil at hv
  split at hv
  · cases r1 with
    | lst e1 n1 q1 =>
      cases r2 with
      | tup e2 q2 =>
        obtain ⟨its, v1, p1, _⟩ := I.list (.inl (.inl e1))
        obtain ⟨its2, v2, p2, _⟩ := I.tuple e2
        cases (show v = _ from rx)
        cases (show u = _ from ry)
        exact SeqAt.RcNeAt.list_tuple p1.isList p2 hu _ _ _ _ ⟨.bl true, H, I, rfl, q⟩
  · cases r1 with
    | dct0 e1 n1 =>
      cases r2 with
      | tup e2 q2 =>
        obtain ⟨_, sm, vs, kv, o, es, ep, ho, ex, hd, _, pr, _⟩ := dk_of I.hok e1
        obtain ⟨its2, v2, p2, _⟩ := I.tuple e2
        cases (show v = _ from rx)
        cases (show u = _ from ry)
        exact rc_dict_tuple_ne ho ex.1 p2 hu _ _ _ _ ⟨.bl true, H, I, rfl, q⟩
  · cases r1 with
    | dct1 e1 n1 q1 =>
      cases r2 with
      | tup e2 q2 =>
        obtain ⟨_, sm, vs, kv, o, es, ep, ho, ex, hd, _, pr, _⟩ := dk_of I.hok e1
        obtain ⟨its2, v2, p2, _⟩ := I.tuple e2
        cases (show v = _ from rx)
        cases (show u = _ from ry)
        exact rc_dict_tuple_ne ho ex.1 p2 hu _ _ _ _ ⟨.bl true, H, I, rfl, q⟩
  · cases hv
theorem op_cmpD (hu : X.A.units + 64 < cLine) : ∀ o : Cmp, OpR X (compareOp (cmpS o)) (rD2 X.K (cmpD o))
  | .eq => by
    intro pins s σ H x y v u Q I rx ry h
    obtain ⟨_, d, e, c, P, Xp, hb, r1, r2, ⟨hok, m⟩, k⟩ := h
    by_cases hs : ∃ a b, d = .str a ∧ e = .str b
    · obtain ⟨a, b, rfl, rfl⟩ := hs
      cases r1
      cases r2
      have es : decide (V.str a = V.str b) = (a == b) := by
        rw [Bool.eq_iff_iff]
        simp
      refine op_eq pins s σ H _ _ v u Q I rx ry ⟨rfl, ?_⟩
      rw [es]
      exact k _ _ H m All.refl (.bl _)
    · by_cases hz : ∃ ds, d = .list ds ∧ e = .list []
      · obtain ⟨ds, rfl, rfl⟩ := hz
        exact eq_nilA I rx ry r1 r2 (by omega) (k _ _ H m All.refl (.bl _))
      by_cases hy : ∃ ds, d = .tuple ds ∧ e = .tuple []
      · obtain ⟨ds, rfl, rfl⟩ := hy
        exact eq_nilTA I rx ry r1 r2 (by omega) (k _ _ H m All.refl (.bl _))
      have hh : vsNil d e = true ∨ (SeqAt.shaped d = true ∧ SeqAt.shaped e = true) := by
        unfold eqOk at hok
        split at hok
        · exact absurd ⟨_, _, rfl, rfl⟩ hs
        · exact absurd ⟨_, rfl, rfl⟩ hz
        · exact absurd ⟨_, rfl, rfl⟩ hy
        · exact hok
      rcases hh with hh | hh
      · exact eq_vsNil I rx ry r1 r2 (by omega) hh (k _ _ H m All.refl (.bl _))
      exact op_eqD hu pins s σ H _ _ v u Q I rx ry ⟨d, e, r1.dp (lay_of hh.1), r2.dp (lay_of hh.2), hh.1, hh.2, k _ _ H m All.refl (.bl _)⟩
  | .ne => by
    intro pins s σ H x y v u Q I rx ry h
    obtain ⟨_, d, e, c, P, Xp, hb, r1, r2, ⟨hok, m⟩, k⟩ := h
    by_cases hs : ∃ a b, d = .str a ∧ e = .str b
    · obtain ⟨a, b, rfl, rfl⟩ := hs
      cases r1
      cases r2
      have es : decide (V.str a = V.str b) = (a == b) := by
        rw [Bool.eq_iff_iff]
        simp
      refine op_ne pins s σ H _ _ v u Q I rx ry ⟨rfl, ?_⟩
      rw [es]
      exact k _ _ H m All.refl (.bl _)
    · by_cases hz : ∃ ds, d = .list ds ∧ e = .list []
      · obtain ⟨ds, rfl, rfl⟩ := hz
        exact ne_nilA I rx ry r1 r2 (by omega) (k _ _ H m All.refl (.bl _))
      by_cases hy : ∃ ds, d = .tuple ds ∧ e = .tuple []
      · obtain ⟨ds, rfl, rfl⟩ := hy
        exact ne_nilTA I rx ry r1 r2 (by omega) (k _ _ H m All.refl (.bl _))
      have hh : vsNil d e = true ∨ (SeqAt.shaped d = true ∧ SeqAt.shaped e = true) := by
        unfold eqOk at hok
        split at hok
        · exact absurd ⟨_, _, rfl, rfl⟩ hs
        · exact absurd ⟨_, rfl, rfl⟩ hz
        · exact absurd ⟨_, rfl, rfl⟩ hy
        · exact hok
      rcases hh with hh | hh
      · exact ne_vsNil I rx ry r1 r2 (by omega) hh (k _ _ H m All.refl (.bl _))
      exact op_neD hu pins s σ H _ _ v u Q I rx ry ⟨d, e, r1.dp (lay_of hh.1), r2.dp (lay_of hh.2), hh.1, hh.2, k _ _ H m All.refl (.bl _)⟩
  | .lt => by
    intro pins s σ H x y v u Q I rx ry h
    obtain ⟨_, d, e, c, P, Xp, hb, r1, r2, m, k⟩ := h
    cases r1 with
    | int i =>
      cases r2 with
      | int j => exact op_lt pins s σ H _ _ v u Q I rx ry ⟨i, j, rfl, rfl, k _ _ H m All.refl (.bl _)⟩
      | _ => exact m.elim
    | _ => exact m.elim
  | .le => by
    intro pins s σ H x y v u Q I rx ry h
    obtain ⟨_, d, e, c, P, Xp, hb, r1, r2, m, k⟩ := h
    cases r1 with
    | int i =>
      cases r2 with
      | int j => exact op_le pins s σ H _ _ v u Q I rx ry ⟨i, j, rfl, rfl, k _ _ H m All.refl (.bl _)⟩
      | _ => exact m.elim
    | _ => exact m.elim
  | .gt => by
    intro pins s σ H x y v u Q I rx ry h
    obtain ⟨_, d, e, c, P, Xp, hb, r1, r2, m, k⟩ := h
    cases r1 with
    | int i =>
      cases r2 with
      | int j => exact op_gt pins s σ H _ _ v u Q I rx ry ⟨i, j, rfl, rfl, k _ _ H m All.refl (.bl _)⟩
      | _ => exact m.elim
    | _ => cases r2 <;> exact m.elim
  | .ge => by
    intro pins s σ H x y v u Q I rx ry h
    obtain ⟨_, d, e, c, P, Xp, hb, r1, r2, m, k⟩ := h
    cases r1 with
    | int i =>
      cases r2 with
      | int j => exact op_ge pins s σ H _ _ v u Q I rx ry ⟨i, j, rfl, rfl, k _ _ H m All.refl (.bl _)⟩
      | _ => exact m.elim
    | _ => cases r2 <;> exact m.elim
  | .isN => by
    intro pins s σ H x y v u Q I rx ry h
    obtain ⟨_, d, e, c, P, Xp, hb, r1, r2, ⟨h1, m⟩, k⟩ := h
    by_cases hb2 : ∃ a b, d = .bool a ∧ e = .bool b
    · obtain ⟨a, b, rfl, rfl⟩ := hb2
      cases r1
      cases r2
      exact op_isBl pins s σ H _ _ v u Q I rx ry ⟨_, _, rfl, rfl, k _ _ H m All.refl (.bl _)⟩
    have h1 : e = .none := by
      unfold isOpOk at h1
      split at h1
      · exact absurd ⟨_, _, rfl, rfl⟩ hb2
      · exact h1
    subst h1
    cases r2
    refine op_isN pins s σ H _ _ v u Q I rx ry ⟨rfl, ?_⟩
    rw [rep_non r1, ← isOpV_none d]
    exact k _ _ H m All.refl (.bl _)
  | .notN => by
    intro pins s σ H x y v u Q I rx ry h
    obtain ⟨_, d, e, c, P, Xp, hb, r1, r2, ⟨h1, m⟩, k⟩ := h
    by_cases hb2 : ∃ a b, d = .bool a ∧ e = .bool b
    · obtain ⟨a, b, rfl, rfl⟩ := hb2
      cases r1
      cases r2
      exact op_notBl pins s σ H _ _ v u Q I rx ry ⟨_, _, rfl, rfl, k _ _ H m All.refl (.bl _)⟩
    have h1 : e = .none := by
      unfold isOpOk at h1
      split at h1
      · exact absurd ⟨_, _, rfl, rfl⟩ hb2
      · exact h1
    subst h1
    cases r2
    refine op_notN pins s σ H _ _ v u Q I rx ry ⟨rfl, ?_⟩
    rw [rep_non r1, ← isOpV_none d]
    exact k _ _ H m All.refl (.bl _)
theorem SitB.un {cb vb : Bool} (S : SitB cb vb X p k) : X.A.units + 64 < cLine := S.rm.units
theorem cmpS_mark (o : Cmp) (b : Expr) : behindInMarks (cmpS o) b = false := by cases o <;> exact nomark b
theorem pd_cmp {cb vb : Bool} (S : SitB cb vb X p k) (o : Cmp) {a b : Expr} {ma mb : XE} {pos : Pos} (ha : PD X p a ma) (hb : PD X p b mb) : PD X p (.Compare a [cmpS o] [b] pos) (eCmp o ma mb) := by
  obtain ⟨ta, a1, a2⟩ := ha.ex
  obtain ⟨tb, b1, b2⟩ := hb.ex
  exact ⟨_, pe_cmpR (op_cmpD S.un o) a1 b1 (cmpS_mark o b), ev_bnd S.ok (f := cmpD o) (fun _ _ _ _ h => h) a2 b2⟩
/-- a test from a value that is a bool -/
theorem et_bool {te : TE} {m : XE} (h : EvR K p te m) : EvT K p (tTest te) (fun E => bnd (m E) fun d => match d with | .bool b => ret b | _ => stuck) := by
  intro B H σ E c P Q s re mm k
  refine h B H σ E _ _ _ s re mm fun d c1 v H1 m1 e1 s1 r1 => ?_
  cases r1 with
  | bl b => exact ⟨b, rfl, k b _ H1 m1 e1 s1⟩
  | _ => exact m1.elim
def tBool (a : XE) : XT := fun E => bnd (a E) fun d => match d with | .bool b => ret b | _ => stuck
theorem pt_cmpD {cb vb : Bool} (S : SitB cb vb X p k) (o : Cmp) {a b : Expr} {ma mb : XE} {pos : Pos} (ha : PD X p a ma) (hb : PD X p b mb) : PDT X p (.Compare a [cmpS o] [b] pos) (tBool (eCmp o ma mb)) := by
  obtain ⟨ta, a1, a2⟩ := ha.ex
  obtain ⟨tb, b1, b2⟩ := hb.ex
  exact ⟨_, pt_cmpR (op_cmpD S.un o) a1 b1 (cmpS_mark o b), et_bool (m := eCmp o ma mb) (ev_bnd S.ok (f := cmpD o) (fun _ _ _ _ h => h) a2 b2)⟩
theorem ev_chain {ta tb tc : TE} {ma mb mc : XE} {r r' : R2} {o o' : Cmp} (ok : p.Ok K X.mg) (hr : ∀ x y H Q, rD2 K (cmpD o) x y H Q → r x y H Q) (hr' : ∀ x y H Q, rD2 K (cmpD o') x y H Q → r' x y H Q)
    (ha : EvR K p ta ma) (hb : EvR K p tb mb) (hc : EvR K p tc mc) : EvR K p (tChain r r' ta tb tc) (eChain o o' ma mb mc) := by
  intro B H σ E c P Q s re m k
  refine ha B H σ E _ _ _ s re m fun d c1 v H1 m1 e1 s1 r1 => ?_
  have st1 := s.go e1 s1
  have re1 := re.go s e1
  refine hb B H1 σ E _ _ _ st1 re1 m1 fun d2 c2' v2 H2 m2 e2 s2 r2 => ?_
  have st2 := st1.go e2 s2
  have re2 := re1.go st1 e2
  refine hr _ _ _ _ ⟨_, d, d2, c2', (fun z n => ∃ c : Bool, z = .bool c ∧ (if c = true then bnd (mc E) fun z => bnd (opCmp o' d2 z) fun k' => ret (.bool k') else ret (.bool false)) n P p.XP), p.XP, st2.trk, r1.tr (st1.up e2), r2, ?_, fun z v3 H3 pz a3 r3 => ?_⟩
  · have e : (cmpD o d d2) = bnd (opCmp o d d2) fun c => ret (.bool c) := rfl
    rw [e]
    have q : ∀ (n : Sx) (P1 P2 : Bool → Sx → Prop) (Xp : Exn → Sx → Prop), (∀ b, P1 b n → P2 b n) → opCmp o d d2 n P1 Xp → opCmp o d d2 n P2 Xp := by
      intro n P1 P2 Xp hh h
      cases o with
      | eq => exact ⟨h.1, hh _ h.2⟩
      | ne => exact ⟨h.1, hh _ h.2⟩
      | lt => cases d <;> first | exact h.elim | (cases d2 <;> first | exact h.elim | exact hh _ h)
      | le => cases d <;> first | exact h.elim | (cases d2 <;> first | exact h.elim | exact hh _ h)
      | gt => cases d2 <;> first | exact h.elim | (cases d <;> first | exact h.elim | exact hh _ h)
      | ge => cases d2 <;> first | exact h.elim | (cases d <;> first | exact h.elim | exact hh _ h)
      | isN => exact ⟨h.1, hh _ h.2⟩
      | notN => exact ⟨h.1, hh _ h.2⟩
    exact q _ _ _ _ (fun b hb => ⟨b, rfl, hb⟩) m2
  · obtain ⟨c, rfl, mc'⟩ := pz
    have st3 := st2.go a3.ev (st2.all ok a3)
    have re3 := re2.go st2 a3.ev
    have e3 : Ev p _ H c2' H3 := e1.trans (e2.trans a3.ev)
    cases r3
    refine ⟨c, rfl, ?_⟩
    cases c with
    | true =>
      refine hc B H3 σ E _ _ _ st3 re3 mc' fun d4 c4' v4 H4 m4 e4 s4 r4 => ?_
      have st4 := st3.go e4 s4
      refine hr' _ _ _ _ ⟨_, d2, d4, _, P, p.XP, st4.trk, (r2.tr (st2.up a3.ev)).tr (st3.up e4), r4, m4, fun z v5 H5 pz a5 r5 => ?_⟩
      exact k z _ v5 H5 pz (e3.trans (e4.trans a5.ev)) (st4.all ok a5) r5
    | false => exact k _ _ _ H3 mc' e3 st3.si (.bl false)
theorem pd_chain {cb vb : Bool} (S : SitB cb vb X p k) (o o' : Cmp) {a b c : Expr} {ma mb mc : XE} {pos : Pos} (ha : PD X p a ma) (hb : PD X p b mb) (hc : PD X p c mc) : PD X p (.Compare a [cmpS o, cmpS o'] [b, c] pos) (eChain o o' ma mb mc) := by
  obtain ⟨ta, a1, a2⟩ := ha.ex
  obtain ⟨tb, b1, b2⟩ := hb.ex
  obtain ⟨tc, c1, c2⟩ := hc.ex
  exact ⟨_, pe_chain (op_cmpD S.un o) (op_cmpD S.un o') a1 b1 c1 (cmpS_mark o' c), ev_chain S.ok (fun _ _ _ _ h => h) (fun _ _ _ _ h => h) a2 b2 c2⟩
theorem pt_chainD {cb vb : Bool} (S : SitB cb vb X p k) (o o' : Cmp) {a b c : Expr} {ma mb mc : XE} {pos : Pos} (ha : PD X p a ma) (hb : PD X p b mb) (hc : PD X p c mc) : PDT X p (.Compare a [cmpS o, cmpS o'] [b, c] pos) (tBool (eChain o o' ma mb mc)) := by
  obtain ⟨ta, a1, a2⟩ := ha.ex
  obtain ⟨tb, b1, b2⟩ := hb.ex
  obtain ⟨tc, c1, c2⟩ := hc.ex
  exact ⟨_, pt_chain (op_cmpD S.un o) (op_cmpD S.un o') a1 b1 c1 (cmpS_mark o' c), et_bool (ev_chain S.ok (fun _ _ _ _ h => h) (fun _ _ _ _ h => h) a2 b2 c2)⟩
end
end DL
end
section
namespace DL
open PySem PySem.Spec PyProof.Rows L2
section
variable {X : Cx} {p : Par} {k : Nat} {K : PySem.W.Frag}
theorem isEmpty_reps {B : Addr → Prop} {H : Hp} {vs : List V} {ds : List D} (r : Reps K B H vs ds) : (!vs.isEmpty) = !ds.isEmpty := by
  cases r <;> rfl
theorem tru_of {B : Addr → Prop} {H : Hp} {v : V} {d : D} {n : Sx} {P : Bool → Sx → Prop} {Xp : Exn → Sx → Prop} (r : Rep K B H v d) (m : tru d n P Xp) : ∃ c, TruV K v H c ∧ P c n := by
  cases r with
  | non => exact ⟨false, rfl, m⟩
  | bl b => exact ⟨b, rfl, m⟩
  | int i => exact ⟨_, rfl, m⟩
  | str x => exact ⟨_, ⟨small_line m.1, rfl⟩, m.2⟩
  | lst e n s => exact ⟨_, Or.inl ⟨_, SqL.of e, rfl⟩, by rw [isEmpty_reps s]; exact m⟩
  | tup e s => exact ⟨_, Or.inr (Or.inl ⟨_, e, rfl⟩), by rw [isEmpty_reps s]; exact m⟩
  | _ => exact (show False from m).elim
theorem pt_tru {a : Expr} {ma : XE} (ha : PD X p a ma) (he : ∀ whole, isTrue a X.env whole = (do let v ← whole; standAt a.pos; holding [v] (truthy v)) := by intro _; rfl) : PDT X p a (tTru ma) := by
  obtain ⟨ta, a1, a2⟩ := ha.ex
  refine ⟨_, pt_truth a1 he, fun B H σ E c P Q s re m k => ?_⟩
  refine a2 B H σ E _ _ _ s re m fun d c1 v H1 m1 e1 s1 r1 => ?_
  obtain ⟨c, h1, h2⟩ := tru_of r1 m1
  exact ⟨c, h1, k c _ H1 h2 e1 s1⟩
theorem pt_notD {a : Expr} {t : XT} {pos : Pos} (ha : PDT X p a t) : PDT X p (.UnaryOp .Not a pos) (tNot t) := by
  obtain ⟨ta, a1, a2⟩ := ha.ex
  exact ⟨_, pt_not a1, fun B H σ E c P Q s re m k => a2 B H σ E _ _ _ s re m fun b c1 H1 m1 e1 s1 => k _ _ H1 m1 e1 s1⟩
theorem pd_not {a : Expr} {m : XE} {pos : Pos} (ha : PD X p a m) : PD X p (.UnaryOp .Not a pos) (eNot m) := by
  obtain ⟨ta, a1, a2⟩ := ha.ex
  refine ⟨_, pe_notT a1, fun B H σ E c P Q s re m k => ?_⟩
  refine a2 B H σ E _ _ _ s re m fun d c1 v H1 m1 e1 s1 r1 => ?_
  obtain ⟨c, h1, h2⟩ := tru_of r1 m1
  exact ⟨c, h1, k _ _ _ H1 h2 e1 s1 (.bl _)⟩
theorem et_and {t u : TT} {mt mu : XT} (h1 : EvT K p t mt) (h2 : EvT K p u mu) : EvT K p (L2.tAnd t u) (tAnd mt mu) := by
  intro B H σ E c P Q s re m k
  refine h1 B H σ E _ _ _ s re m fun b c1 H1 m1 e1 s1 => ?_
  cases b with
  | true => exact h2 B H1 σ E _ _ _ (s.go e1 s1) (re.go s e1) m1 fun b2 c2' H2 m2 e2 s2 => k b2 _ H2 m2 (e1.trans e2) s2
  | false => exact k false _ H1 m1 e1 s1
theorem et_or {t u : TT} {mt mu : XT} (h1 : EvT K p t mt) (h2 : EvT K p u mu) : EvT K p (L2.tOr t u) (tOr mt mu) := by
  intro B H σ E c P Q s re m k
  refine h1 B H σ E _ _ _ s re m fun b c1 H1 m1 e1 s1 => ?_
  cases b with
  | false => exact h2 B H1 σ E _ _ _ (s.go e1 s1) (re.go s e1) m1 fun b2 c2' H2 m2 e2 s2 => k b2 _ H2 m2 (e1.trans e2) s2
  | true => exact k true _ H1 m1 e1 s1
theorem pw_and1D {a : Expr} {t : XT} {pos : Pos} (ha : PDT X p a t) : PDW X p (.BoolOp .And [a] pos) t := by
  obtain ⟨ta, a1, a2⟩ := ha.ex
  exact ⟨_, pw_and1 a1, a2⟩
theorem pw_or1D {a : Expr} {t : XT} {pos : Pos} (ha : PDT X p a t) : PDW X p (.BoolOp .Or [a] pos) t := by
  obtain ⟨ta, a1, a2⟩ := ha.ex
  exact ⟨_, pw_or1 a1, a2⟩
theorem pw_andD {a b : Expr} {rest : List Expr} {t u : XT} {pos : Pos} (ha : PDT X p a t) (hb : PDW X p (.BoolOp .And (b :: rest) pos) u) : PDW X p (.BoolOp .And (a :: b :: rest) pos) (tAnd t u) := by
  obtain ⟨ta, a1, a2⟩ := ha.ex
  obtain ⟨tb, b1, b2⟩ := hb.ex
  exact ⟨_, pw_and a1 b1, et_and a2 b2⟩
theorem pw_orD {a b : Expr} {rest : List Expr} {t u : XT} {pos : Pos} (ha : PDT X p a t) (hb : PDW X p (.BoolOp .Or (b :: rest) pos) u) : PDW X p (.BoolOp .Or (a :: b :: rest) pos) (tOr t u) := by
  obtain ⟨ta, a1, a2⟩ := ha.ex
  obtain ⟨tb, b1, b2⟩ := hb.ex
  exact ⟨_, pw_or a1 b1, et_or a2 b2⟩
theorem PDW.pt {e : Expr} {t : XT} (h : PDW X p e t) : PDT X p e t := by
  obtain ⟨ta, a1, a2⟩ := h.ex
  exact ⟨_, a1.pt, a2⟩
theorem pd_one {op} {a : Expr} {m : XE} {pos : Pos} (ha : PD X p a m) : PD X p (.BoolOp op [a] pos) m := by
  obtain ⟨ta, a1, a2⟩ := ha.ex
  exact ⟨_, pe_one a1, a2⟩
theorem pd_and {a b : Expr} {rest : List Expr} {ma mb : XE} {pos : Pos} (ha : PD X p a ma) (hb : PD X p (.BoolOp .And (b :: rest) pos) mb) : PD X p (.BoolOp .And (a :: b :: rest) pos) (eAnd ma mb) := by
  obtain ⟨ta, a1, a2⟩ := ha.ex
  obtain ⟨tb, b1, b2⟩ := hb.ex
  refine ⟨_, pe_andT a1 b1, fun B H σ E c P Q s re m k => ?_⟩
  refine a2 B H σ E _ _ _ s re m fun d c1 v H1 m1 e1 s1 r1 => ?_
  obtain ⟨c, h1, h2⟩ := tru_of r1 m1
  refine ⟨c, h1, ?_⟩
  cases c with
  | true => exact b2 B H1 σ E _ _ _ (s.go e1 s1) (re.go s e1) h2 fun d2 c2' v2 H2 m2 e2 s2 r2 => k d2 _ v2 H2 m2 (e1.trans e2) s2 r2
  | false => exact k d _ v H1 h2 e1 s1 r1
theorem pd_if {c a b : Expr} {t : XT} {ma mb : XE} {pos : Pos} (hc : PDT X p c t) (ha : PD X p a ma) (hb : PD X p b mb) : PD X p (.IfExp c a b pos) (eIf t ma mb) := by
  obtain ⟨tc, c1, c2⟩ := hc.ex
  obtain ⟨ta, a1, a2⟩ := ha.ex
  obtain ⟨tb, b1, b2⟩ := hb.ex
  refine ⟨_, pe_ifExp c1 a1 b1, fun B H σ E c P Q s re m k => ?_⟩
  refine c2 B H σ E _ _ _ s re m fun b c1 H1 m1 e1 s1 => ?_
  cases b with
  | true => exact a2 B H1 σ E _ _ _ (s.go e1 s1) (re.go s e1) m1 fun d2 c2' v2 H2 m2 e2 s2 r2 => k d2 _ v2 H2 m2 (e1.trans e2) s2 r2
  | false => exact b2 B H1 σ E _ _ _ (s.go e1 s1) (re.go s e1) m1 fun d2 c2' v2 H2 m2 e2 s2 r2 => k d2 _ v2 H2 m2 (e1.trans e2) s2 r2
theorem pda_nil : PDA X p [] aNil := ⟨_, pa_nil, fun B H σ E c P Q s re m k => k [] _ [] H m Ev.refl s.si .nil⟩
theorem pda_cons {e : Expr} {es : List Expr} {m : XE} {r : XA} (he : PD X p e m) (hr : PDA X p es r) (hs : starEach (e :: es) X.env = (false, eval e X.env) :: starEach es X.env := by rfl) : PDA X p (e :: es) (aCons m r) := by
  obtain ⟨ta, a1, a2⟩ := he.ex
  obtain ⟨tb, b1, b2⟩ := hr.ex
  refine ⟨_, pa_cons a1 b1 hs, fun B H σ E c P Q s re m k => ?_⟩
  refine a2 B H σ E _ _ _ s re m fun d c1 v H1 m1 e1 s1 r1 => ?_
  refine b2 B H1 σ E _ _ _ (s.go e1 s1) (re.go s e1) m1 fun ds c2' vs H2 m2 e2 s2 r2 => ?_
  exact k _ _ _ H2 m2 (e1.trans e2) s2 (.cons (r1.tr ((s.go e1 s1).up e2)) r2)
theorem pd_tup {cb : Bool} {vb : Bool} (S : SitB cb vb X p k) {es : List Expr} {x1} {pos : Pos} {m : XA} (h : PDA X p es m) : PD X p (.Tuple es x1 pos) (eTup m) := by
  obtain ⟨ta, a1, a2⟩ := h.ex
  refine ⟨_, pe_tup a1, fun B H σ E c P Q s re m k => ?_⟩
  refine a2 B H σ E _ _ _ s re m fun ds c1 vs H1 m1 e1 s1 r1 => ?_
  have st1 := s.go e1 s1
  refine ⟨by rw [r1.length]; exact small_line m1.1, fun q hq => ?_⟩
  exact k _ _ _ _ m1.2 (e1.trans (All.new hq).ev) (st1.all S.ok (All.new hq)) (rep_tup hq r1)
theorem pd_lst {cb : Bool} {vb : Bool} (S : SitB cb vb X p k) {es : List Expr} {pos : Pos} {m : XA} (h : PDA X p es m) : PD X p (.List es pos) (eLst m) := by
  obtain ⟨ta, a1, a2⟩ := h.ex
  refine ⟨_, pe_lst a1, fun B H σ E c P Q s re m k => ?_⟩
  refine a2 B H σ E _ _ _ s re m fun ds c1 vs H1 m1 e1 s1 r1 => ?_
  have st1 := s.go e1 s1
  refine ⟨by rw [r1.length]; exact small_line m1.1, fun q hq => ?_⟩
  exact k _ _ _ _ m1.2 (e1.trans (All.new hq).ev) (st1.all S.ok (All.new hq)) (rep_lst st1.trk hq r1)
theorem pd_call1 {cb : Bool} {vb : Bool} (S : SitB cb vb X p k) {x : Str} {id : String} {f : D → W D} {a : Expr} {m : XE} {pn pos : Pos} (hc : CallR X (.builtin id) (rC1 X.K f)) (hm : X.mg x = none) (ha : PD X p a m) (hg : Gl X x := by rfl) (hv : bootBuiltins x = some (.builtin id) := by decide +kernel)
    (hn : x ≠ "__name__" := by decide) (hdb : (x == ("__debug__" : Str)) = false := by decide) (hs : starEach [a] X.env = (false, eval a X.env) :: starEach [] X.env := by rfl) : PD X p (.Call (.Name x pn) [a] [] pos) (fun E => bnd (m E) f) := by
  obtain ⟨ta, a1, a2⟩ := ha.ex
  refine ⟨_, pe_callB hc hg hm hv (pa_cons a1 pa_nil hs) hn hdb hs (by rfl), fun B H σ E c P Q s re m k => ?_⟩
  refine a2 B H σ E _ _ _ s re m fun d c1 v H1 m1 e1 s1 r1 => ?_
  have st1 := s.go e1 s1
  exact ⟨v, rfl, _, d, _, P, p.XP, st1.trk, r1, m1, fun z v3 H3 pz a3 r3 => k z _ v3 H3 pz (e1.trans a3.ev) (st1.all S.ok a3) r3⟩
theorem pd_callT1 {cb : Bool} {vb : Bool} (S : SitB cb vb X p k) {x : Str} {id : String} {f : D → W D} {a : Expr} {m : XE} {pn pos : Pos} (hc : CallR X (.type id) (rC1 X.K f)) (hm : X.mg x = none) (ha : PD X p a m) (hg : Gl X x := by rfl) (hv : bootBuiltins x = some (.type id) := by decide +kernel)
    (hn : x ≠ "__name__" := by decide) (hdb : (x == ("__debug__" : Str)) = false := by decide) (hs : starEach [a] X.env = (false, eval a X.env) :: starEach [] X.env := by rfl) : PD X p (.Call (.Name x pn) [a] [] pos) (fun E => bnd (m E) f) := by
  obtain ⟨ta, a1, a2⟩ := ha.ex
  refine ⟨_, pe_callTy hc hg hm hv (pa_cons a1 pa_nil hs) hn hdb hs (by rfl), fun B H σ E c P Q s re m k => ?_⟩
  refine a2 B H σ E _ _ _ s re m fun d c1 v H1 m1 e1 s1 r1 => ?_
  have st1 := s.go e1 s1
  exact ⟨v, rfl, _, d, _, P, p.XP, st1.trk, r1, m1, fun z v3 H3 pz a3 r3 => k z _ v3 H3 pz (e1.trans a3.ev) (st1.all S.ok a3) r3⟩
theorem pd_call2 {cb : Bool} {vb : Bool} (S : SitB cb vb X p k) {x : Str} {id : String} {f : D → D → W D} {a b : Expr} {m n : XE} {pn pos : Pos} (hc : CallR X (.builtin id) (rC2 X.K f)) (hm : X.mg x = none) (ha : PD X p a m) (hb : PD X p b n) (hg : Gl X x := by rfl) (hv : bootBuiltins x = some (.builtin id) := by decide +kernel)
    (hn : x ≠ "__name__" := by decide) (hdb : (x == ("__debug__" : Str)) = false := by decide) (hs : starEach [a, b] X.env = (false, eval a X.env) :: starEach [b] X.env := by rfl) (hs2 : starEach [b] X.env = (false, eval b X.env) :: starEach [] X.env := by rfl) (hpl : (backTo pos (starEach [b] X.env)).any (·.1) = false := by rfl) :
    PD X p (.Call (.Name x pn) [a, b] [] pos) (fun E => bnd (m E) fun x => bnd (n E) fun y => f x y) := by
  obtain ⟨ta, a1, a2⟩ := ha.ex
  obtain ⟨tb, b1, b2⟩ := hb.ex
  refine ⟨_, pe_callB hc hg hm hv (pa_cons a1 (pa_cons b1 pa_nil hs2) hs) hn hdb hs hpl, fun B H σ E c P Q s re m k => ?_⟩
  refine a2 B H σ E _ _ _ s re m fun d c1 v H1 m1 e1 s1 r1 => ?_
  have st1 := s.go e1 s1
  refine b2 B H1 σ E _ _ _ st1 (re.go s e1) m1 fun d2 c2' v2 H2 m2 e2 s2 r2 => ?_
  have st2 := st1.go e2 s2
  exact ⟨v, v2, rfl, _, d, d2, _, P, p.XP, st2.trk, r1.tr (st1.up e2), r2, m2, fun z v3 H3 pz a3 r3 => k z _ v3 H3 pz (e1.trans (e2.trans a3.ev)) (st2.all S.ok a3) r3⟩
theorem c_len : CallR X (.builtin "len") (rC1 X.K (bi1 .len)) := by
  intro pins s σ H xs us Q I r h
  obtain ⟨x, rfl, B, d, c, P, Xp, hb, r1, m, k⟩ := h
  cases r1 with
  | lst e n t =>
    refine call_len_seq pins s σ H _ us Q I r ⟨_, _, rfl, .inl (SqL.of e), ?_⟩
    rw [t.length]
    exact k _ _ H m All.refl (.int _)
  | tup e t =>
    refine call_len_seq pins s σ H _ us Q I r ⟨_, _, rfl, .inr e, ?_⟩
    rw [t.length]
    exact k _ _ H m All.refl (.int _)
  | str x => exact call_len_str pins s σ H _ us Q I r ⟨x, rfl, small_line m.1, k _ _ H m.2 All.refl (.int _)⟩
  | _ => exact m.elim
theorem c_abs : CallR X (.builtin "abs") (rC1 X.K (bi1 .abs)) := by
  intro pins s σ H xs us Q I r h
  obtain ⟨x, rfl, B, d, c, P, Xp, hb, r1, m, k⟩ := h
  cases r1 with
  | int i => exact call_abs pins s σ H _ us Q I r ⟨i, rfl, k _ _ H m All.refl (.int _)⟩
  | _ => exact m.elim
theorem c_min2 (hc : X.calm = true) : CallR X (.builtin "min") (rC2 X.K (bi2 .min)) := by
  intro pins s σ H xs us Q I r h
  obtain ⟨x, y, rfl, B, d, e, c, P, Xp, hb, r1, r2, m, k⟩ := h
  cases r1 with
  | int i =>
    cases r2 with
    | int j => exact call_min2 hc pins s σ H _ us Q I r ⟨i, j, rfl, k _ _ H m All.refl (.int _)⟩
    | _ => exact m.elim
  | _ => cases r2 <;> exact m.elim
/-- a sequence of ints -/
theorem ints_seq {B : Addr → Prop} {H : Hp} {v : V} {d : D} {c : Sx} {P : List Int → Sx → Prop} {Xp : Exn → Sx → Prop} (r : Rep K B H v d) (m : intsOf d c P Xp) :
    ∃ (a : Addr) (ns : List Int), v = .ref a ∧ (H a = some (.lst (ns.map V.int)) ∨ SqT K H a (ns.map V.int)) ∧ P ns c := by
  have go : ∀ {xs : List V} {ds : List D}, Reps K B H xs ds → (match ints? ds with | some ns => ret ns | none => stuck) c P Xp → ∃ ns : List Int, xs = ns.map V.int ∧ P ns c := by
    intro xs ds t h
    cases e : ints? ds with
    | none => rw [e] at h; exact h.elim
    | some ns => rw [e] at h; exact ⟨ns, t.ints e, h⟩
  cases r with
  | lst e n t =>
    obtain ⟨ns, h1, h2⟩ := go t m
    subst h1
    exact ⟨_, ns, rfl, .inl e, h2⟩
  | tup e t =>
    obtain ⟨ns, h1, h2⟩ := go t m
    subst h1
    exact ⟨_, ns, rfl, .inr e, h2⟩
  | _ => exact m.elim
theorem c_sum (hc : X.calm = true) : CallR X (.builtin "sum") (rC1 X.K (bi1 .sum)) := by
  intro pins s σ H xs us Q I r h
  obtain ⟨x, rfl, B, d, c, P, Xp, hb, r1, m, k⟩ := h
  obtain ⟨a, ns, rfl, h1, h2⟩ := ints_seq r1 (show intsOf d c _ Xp from m)
  rcases h1 with h1 | h1
  · exact cr_sum hc pins s σ H _ us Q I r ⟨a, ns, rfl, SqL.of h1, k _ _ H h2 All.refl (.int _)⟩
  · obtain ⟨its, rv, pt, hz⟩ := I.tuple h1
    rw [Vals.ref1 r]
    have hi := rv.ints
    obtain ⟨ys, e⟩ := hi.allInts.items
    have hn : numsOf (intItems ys).toList = ns := by rw [← e]; exact hi.numsOf
    rw [nums_intItems] at hn
    rw [e] at pt
    refine PySem.W.ktm_sumG (I.ok.hd hc) pt fun h' tk t' hk => ?_
    rw [preSum_eq, List.take_of_length_le (by simp), hn]
    exact ⟨.int ns.sum, H, I.kept hk, ⟨_, rfl⟩, k _ _ H h2 All.refl (.int _)⟩
theorem reads_ints {h : Heap} : ∀ {vs : List Value} {ns : List Int}, IntsAre vs ns → ∃ as, ReadsAll h vs (ns.map PyData.int) as
  | _, _, .nil => ⟨_, .nil⟩
  | _, _, .cons n t q => by
    obtain ⟨as, r⟩ := reads_ints (h := h) q
    exact ⟨_, .cons (.int n t) r⟩
theorem alike_ints (ns : List Int) : PySem.W.AlikeAll (ns.map PyData.int) := by
  refine ⟨fun x hx y hy => ?_, fun x hx => ?_⟩
  · obtain ⟨a, _, rfl⟩ := List.mem_map.mp hx
    obtain ⟨b, _, rfl⟩ := List.mem_map.mp hy
    rfl
  · obtain ⟨a, _, rfl⟩ := List.mem_map.mp hx
    exact fun z => nomatch z
theorem depth_ints : ∀ ns : List Int, PyData.depthAll (ns.map PyData.int) = 0
  | [] => by simp [PyData.depthAll]
  | a :: r => by simp [PyData.depthAll, PyData.depth, depth_ints r]
theorem of_reads_int {h : Heap} {v : Value} {i : Int} {as : List Addr} (r : Reads h v (.int i) as) : ∃ t, v = .int i t := by
  cases r
  exact ⟨_, rfl⟩
theorem c_max {vb : Bool} (S : SitB true vb X p k) : CallR X (.builtin "max") (rC1 X.K (bi1 .max)) := by
  intro pins s σ H xs us Q I r h
  obtain ⟨x, rfl, B, d, c, P, Xp, hb, r1, m, kk⟩ := h
  obtain ⟨a, ns, rfl, h1, h2⟩ := ints_seq r1 (show intsOf d c _ Xp from m)
  cases ns with
  | nil => exact h2.elim
  | cons n ns =>
    have hu : X.A.units + 1 + PyData.depthAll (PyData.int n :: ns.map PyData.int) < cLine := by
      have e := depth_ints (n :: ns)
      have q := S.un
      rw [List.map_cons] at e
      rw [e]
      omega
    have fin : ∀ (v : Value) (h' : Heap) (tk : Nat) (bs : List Addr), Reads h' v (PySem.W.maxD (.int n) (ns.map .int)) bs → (∀ b o, s.heap.get? b = some o → h'.get? b = some o) → EP X pins σ Q v { s with heap := h', toks := tk } := by
      intro v h' tk bs hr hk
      rw [PySem.W.maxD_ints] at hr
      obtain ⟨t, rfl⟩ := of_reads_int hr
      exact ⟨.int _, H, I.kept hk, ⟨_, rfl⟩, kk _ _ H h2 All.refl (.int _)⟩
    rw [Vals.ref1 r]
    rcases h1 with h1 | h1
    · obtain ⟨its, rv, pl, hz⟩ := I.list (SqL.of h1)
      obtain ⟨as, ra⟩ := reads_ints (h := s.heap) rv.ints
      exact PySem.W.max_list_data (I.ok.hd S.calm) pl.isList ra (alike_ints (n :: ns)) hu fun i v h' tk bs _ hr hk => fin v h' tk bs hr hk
    · obtain ⟨its, rv, pt, hz⟩ := I.tuple h1
      obtain ⟨as, ra⟩ := reads_ints (h := s.heap) rv.ints
      exact PySem.W.max_tuple_data (I.ok.hd S.calm) pt ra (alike_ints (n :: ns)) hu fun i v h' tk bs _ hr hk => fin v h' tk bs hr hk
theorem c_min {vb : Bool} (S : SitB true vb X p k) : CallR X (.builtin "min") (rC1 X.K (bi1 .min)) := by
  intro pins s σ H xs us Q I r h
  obtain ⟨x, rfl, B, d, c, P, Xp, hb, r1, m, kk⟩ := h
  obtain ⟨a, ns, rfl, h1, h2⟩ := ints_seq r1 (show intsOf d c _ Xp from m)
  cases ns with
  | nil => exact h2.elim
  | cons n ns =>
    have hu : X.A.units + 1 + PyData.depthAll (PyData.int n :: ns.map PyData.int) < cLine := by
      have e := depth_ints (n :: ns)
      have q := S.un
      rw [List.map_cons] at e
      rw [e]
      omega
    have fin : ∀ (v : Value) (h' : Heap) (tk : Nat) (bs : List Addr), Reads h' v (PySem.W.minD (.int n) (ns.map .int)) bs → (∀ b o, s.heap.get? b = some o → h'.get? b = some o) → EP X pins σ Q v { s with heap := h', toks := tk } := by
      intro v h' tk bs hr hk
      rw [PySem.W.minD_ints] at hr
      obtain ⟨t, rfl⟩ := of_reads_int hr
      exact ⟨.int _, H, I.kept hk, ⟨_, rfl⟩, kk _ _ H h2 All.refl (.int _)⟩
    rw [Vals.ref1 r]
    rcases h1 with h1 | h1
    · obtain ⟨its, rv, pl, hz⟩ := I.list (SqL.of h1)
      obtain ⟨as, ra⟩ := reads_ints (h := s.heap) rv.ints
      exact PySem.W.min_list_data (I.ok.hd S.calm) pl.isList ra (alike_ints (n :: ns)) hu fun i v h' tk bs _ hr hk => fin v h' tk bs hr hk
    · obtain ⟨its, rv, pt, hz⟩ := I.tuple h1
      obtain ⟨as, ra⟩ := reads_ints (h := s.heap) rv.ints
      exact PySem.W.min_tuple_data (I.ok.hd S.calm) pt ra (alike_ints (n :: ns)) hu fun i v h' tk bs _ hr hk => fin v h' tk bs hr hk
theorem c_tuple : CallR X (.type "tuple") (rC1 X.K (bi1 .tuple)) := by
  intro pins s σ H xs us Q I r h
  obtain ⟨x, rfl, B, d, c, P, Xp, hb, r1, m, k⟩ := h
  cases r1 with
  | lst e n t => exact call_tuple_of pins s σ H _ us Q I r ⟨_, _, rfl, .inl ⟨SqL.of e, fun q hq => k _ _ _ m (All.new hq) (rep_tup hq t)⟩⟩
  | tup e t => exact call_tuple_of pins s σ H _ us Q I r ⟨_, _, rfl, .inr ⟨e, k _ _ H m All.refl (.tup e t)⟩⟩
  | _ => exact m.elim
theorem c_all (hc : X.calm = true) : CallR X (.builtin "all") (rC1 X.K (bi1 .all)) := by
  intro pins s σ H xs us Q I r h
  obtain ⟨x, rfl, B, d, c, P, Xp, hb, r1, m, k⟩ := h
  cases r1 with
  | @lst a vs ds e n t =>
    have m' : (match bools? ds with | some bs => (ret (PyData.bool (bs.all id)) : W D) | none => stuck) c P Xp := m
    cases eb : bools? ds with
    | none => rw [eb] at m'; exact m'.elim
    | some bs =>
      rw [eb] at m'
      have e2 := t.bools eb
      subst e2
      exact cr_all hc pins s σ H _ us Q I r ⟨_, bs, rfl, SqL.of e, k _ _ H m' All.refl (.bl _)⟩
  | _ => exact m.elim
def tyS : Ty → String
  | .int => "int"
  | .bool => "bool"
  | .tuple => "tuple"
  | .str => "str"
  | .list => "list"
  | .dict => "dict"
theorem sq_ty {H : Hp} {a : Addr} {xs : List V} (h : SqT K H a xs) : TyX K H (.ref a) (.type "tuple") := by
  rcases h with (h | ⟨o, h⟩) | ⟨o, its, n, h, hc, _⟩
  · exact .base (.tup h)
  · exact .fTuple h
  · exact .kTuple h hc
theorem ty_of {B : Addr → Prop} {H : Hp} {v : V} {d : D} (h : noXn d = true) (r : Rep K B H v d) : TyX K H v (.type (tyName d)) := by
  cases r with
  | non => exact .base .non
  | bl b => exact .base (.bl b)
  | int i => exact .base (.int i)
  | str x => exact .base (.str x)
  | lst e n t => exact .base (.lst e)
  | tup e t => exact sq_ty e
  | dct0 e _ => exact .base (.dK e)
  | dct1 e _ _ => exact .base (.dK e)
  | _ => exact absurd h (by simp [noXn, xD, wD, rD])
theorem kt_none : ∀ t : Ty, kitB "NoneType" (tyS t) = some (isTy t .none) := fun t => by cases t <;> decide +kernel
theorem kt_bool : ∀ t : Ty, kitB "bool" (tyS t) = some (isTy t (.bool true)) := fun t => by cases t <;> decide +kernel
theorem kt_int : ∀ t : Ty, kitB "int" (tyS t) = some (isTy t (.int 0)) := fun t => by cases t <;> decide +kernel
theorem kt_str : ∀ t : Ty, kitB "str" (tyS t) = some (isTy t (.str Str.empty)) := fun t => by cases t <;> decide +kernel
theorem kt_list : ∀ t : Ty, kitB "list" (tyS t) = some (isTy t (.list [])) := fun t => by cases t <;> decide +kernel
theorem kt_tuple : ∀ t : Ty, kitB "tuple" (tyS t) = some (isTy t (.tuple [])) := fun t => by cases t <;> decide +kernel
theorem kt_dict : ∀ t : Ty, kitB "dict" (tyS t) = some (isTy t (.dict [])) := fun t => by cases t <;> decide +kernel
theorem kit_isTy (t : Ty) (d : D) : kitB (tyName d) (tyS t) = some (isTy t d) := by
  cases d with
  | none => exact kt_none t
  | bool b => exact (kt_bool t).trans (by cases t <;> rfl)
  | int b => exact (kt_int t).trans (by cases t <;> rfl)
  | str b => exact (kt_str t).trans (by cases t <;> rfl)
  | list b => exact (kt_list t).trans (by cases t <;> rfl)
  | tuple b => exact (kt_tuple t).trans (by cases t <;> rfl)
  | dict b => exact (kt_dict t).trans (by cases t <;> rfl)
theorem pd_is {cb : Bool} {vb : Bool} (S : SitB cb vb X p k) (t : Ty) {a : Expr} {m : XE} {pn pq pos : Pos} (ha : PD X p a m) (hm : X.mg "isinstance" = none) (hmt : X.mg (tyS t : Str) = none) (hg : Gl X "isinstance" := by rfl) (hgt : Gl X (tyS t : Str) := by rfl)
    (hs : starEach [a, .Name (tyS t : Str) pq] X.env = (false, eval a X.env) :: starEach [.Name (tyS t : Str) pq] X.env := by rfl)
    (hs2 : starEach [.Name (tyS t : Str) pq] X.env = (false, eval (.Name (tyS t : Str) pq) X.env) :: starEach [] X.env := by rfl) (hpl : (backTo pos (starEach [.Name (tyS t : Str) pq] X.env)).any (·.1) = false := by rfl) :
    PD X p (.Call (.Name "isinstance" pn) [a, .Name (tyS t : Str) pq] [] pos) (eIs t m) := by
  obtain ⟨ta, a1, a2⟩ := ha.ex
  have hv : bootBuiltins (tyS t : Str) = some (.type (tyS t)) := by cases t <;> decide +kernel
  have hn : (tyS t : Str) ≠ "__name__" := by cases t <;> decide
  have hdb : ((tyS t : Str) == ("__debug__" : Str)) = false := by cases t <;> decide
  have hT : PE X (.Name (tyS t : Str) pq) (tC (.ty (tyS t))) := pe_bltn hgt hmt hv rfl hn hdb
  refine ⟨_, pe_callB call_isi hg hm (by decide +kernel) (pa_cons a1 (pa_cons hT pa_nil hs2) hs) (by decide) (by decide) hs hpl, fun B H σ E c P Q s re m k => ?_⟩
  refine a2 B H σ E _ _ _ s re m fun d c1 v H1 m1 e1 s1 r1 => ?_
  exact ⟨v, .ty (tyS t), _, _, isTy t d, rfl, .ty _, ty_of m1.1 r1, kit_ty (kit_isTy t d), k _ _ _ H1 m1.2 e1 s1 (.bl _)⟩
theorem atI_rep {B : Addr → Prop} {H : Hp} {xs : List V} {ds : List D} (t : Reps K B H xs ds) {i : Int} {d : D} (h : atI ds i = some d) : ∃ v, atI xs i = some v ∧ Rep K B H v d := by
  unfold atI at h ⊢
  rw [t.length]
  cases e : ixN ds.length i with
  | none => rw [e] at h; cases h
  | some j =>
    rw [e] at h
    exact t.get h
theorem ix_D : IxR X (rD2 X.K opIdx) := by
  intro value slice pins s σ H x y v u Q I rx ry h hs
  obtain ⟨_, d, e, c, P, Xp, hb, r1, r2, m, k⟩ := h
  cases r1 with
  | @tup a xs ds q t =>
    cases r2 with
    | int i =>
      have m' : (match L2.atI ds i with | some d => ret d | none => stuck) c P Xp := m
      cases ea : atI ds i with
      | none => rw [ea] at m'; exact m'.elim
      | some z =>
        rw [ea] at m'
        obtain ⟨w, h1, h2⟩ := atI_rep t ea
        exact ix_tup value slice pins s σ H _ _ v u Q I rx ry ⟨a, xs, i, w, rfl, rfl, q, h1, k _ _ H m' All.refl h2⟩ hs
    | _ => exact m.elim
  | @lst a xs ds q n t =>
    cases r2 with
    | int i =>
      have m' : (match L2.atI ds i with | some d => ret d | none => stuck) c P Xp := m
      cases ea : atI ds i with
      | none => rw [ea] at m'; exact m'.elim
      | some z =>
        rw [ea] at m'
        obtain ⟨w, h1, h2⟩ := atI_rep t ea
        exact ix_list value slice pins s σ H _ _ v u Q I rx ry ⟨a, xs, i, w, rfl, rfl, SqL.of q, h1, k _ _ H m' All.refl h2⟩ hs
    | _ => exact m.elim
  | _ => exact m.elim
theorem pd_ix {cb : Bool} {vb : Bool} (S : SitB cb vb X p k) {a b : Expr} {ma mb : XE} {pos : Pos} (ha : PD X p a ma) (hb : PD X p b mb) (hs : PlainIx b := by exact fun _ _ => rfl) : PD X p (.Subscript a b pos) (eIdx ma mb) := by
  obtain ⟨ta, a1, a2⟩ := ha.ex
  obtain ⟨tb, b1, b2⟩ := hb.ex
  exact ⟨_, pe_ix ix_D a1 b1 hs, ev_bnd S.ok (fun _ _ _ _ h => h) a2 b2⟩
structure PDO (X : Cx) (p : Par) (e : Option Expr) (m : XO) : Prop where
  ex : ∃ t, PO X e t ∧ ∀ (B : Addr → Prop) (H : Hp) (σ : L2.St) (E : Env) (c : Sx) (P : Option Int → Sx → Prop) (Q : Option Int → Hp → Prop), St0 p c B H → EnvR X.K p c B H σ E → m E c P p.XP → (∀ o c' H', P o c' → Ev p c H c' H' → p.SI c' H' → Q o H') → t σ H Q
theorem pdo_none : PDO X p none oNone := ⟨_, po_none, fun B H σ E c P Q s re m k => k none _ H m Ev.refl s.si⟩
theorem pdo_some {a : Expr} {m : XE} (ha : PD X p a m) : PDO X p (some a) (oSome m) := by
  obtain ⟨ta, a1, a2⟩ := ha.ex
  refine ⟨_, po_some a1, fun B H σ E c P Q s re m k => ?_⟩
  refine a2 B H σ E _ _ _ s re m fun d c1 v H1 m1 e1 s1 r1 => ?_
  cases r1 with
  | int i => exact ⟨i, rfl, k _ _ H1 m1 e1 s1⟩
  | _ => exact m1.elim
theorem Reps.cut {B : Addr → Prop} {H : Hp} {xs : List V} {ds : List D} (t : Reps K B H xs ds) (lo hi : Option Int) : Reps K B H (cutV xs lo hi) (DL.cut ds lo hi) := by
  unfold cutV DL.cut
  rw [t.length]
  exact (t.drop _).take _
theorem cut_whole (ds : List D) (lo hi : Option Int) (h1 : HT.sIx ds.length 0 lo = 0) (h2 : HT.sIx ds.length ds.length hi = ds.length) : DL.cut ds lo hi = ds := by
  unfold DL.cut
  rw [h1, h2]
  simp
def rCut (K : PySem.W.Frag) : V → Option Int → Option Int → Hp → VK → Prop := fun x lo hi H Q => rD1 K (fun d => opCut d lo hi) x H Q
theorem sl_D : SlR X (rCut X.K) := by
  intro pins s σ H x v vl vu lo hi sl Q I rx hs pl pu h
  obtain ⟨_, d, c, P, Xp, hb, r1, m, k⟩ := h
  cases r1 with
  | @tup a xs ds q t =>
    refine sl_tupA pins s σ H _ v vl vu lo hi sl Q I rx hs pl pu ⟨a, xs, rfl, q, fun ⟨h1, h2⟩ => ?_, fun _ w hw => k _ _ _ m (All.new hw) (rep_tup hw (t.cut lo hi))⟩
    rw [t.length] at h1 h2
    refine k _ _ H m All.refl ?_
    rw [cut_whole ds lo hi h1 h2]
    exact .tup q t
  | @lst a xs ds q n t =>
    exact sl_list pins s σ H _ v vl vu lo hi sl Q I rx hs pl pu ⟨a, xs, rfl, SqL.of q, fun w hw => k _ _ _ m (All.new hw) (rep_lst hb hw (t.cut lo hi))⟩
  | str x => exact sl_str pins s σ H _ v vl vu lo hi sl Q I rx hs pl pu ⟨x, rfl, small_line m.1, k _ _ H m.2 All.refl (.str _)⟩
  | _ => exact m.elim
theorem pd_cut {cb : Bool} {vb : Bool} (S : SitB cb vb X p k) {e : Expr} {lo hi : Option Expr} {m : XE} {ml mh : XO} {p2 pos : Pos} (he : PD X p e m) (hl : PDO X p lo ml) (hh : PDO X p hi mh) : PD X p (.Subscript e (.Slice lo hi none p2) pos) (eCut m ml mh) := by
  obtain ⟨ta, a1, a2⟩ := he.ex
  obtain ⟨tl, l1, l2⟩ := hl.ex
  obtain ⟨th, h1, h2⟩ := hh.ex
  refine ⟨_, pe_slice sl_D a1 l1 h1, fun B H σ E c P Q s re m k => ?_⟩
  refine a2 B H σ E _ _ _ s re m fun d c1 v H1 m1 e1 s1 r1 => ?_
  have st1 := s.go e1 s1
  refine l2 B H1 σ E _ _ _ st1 (re.go s e1) m1 fun o1 c2' H2 m2 e2 s2 => ?_
  have st2 := st1.go e2 s2
  refine h2 B H2 σ E _ _ _ st2 ((re.go s e1).go st1 e2) m2 fun o2 c3' H3 m3 e3 s3 => ?_
  have st3 := st2.go e3 s3
  exact ⟨_, d, _, P, p.XP, st3.trk, (r1.tr (st1.up e2)).tr (st2.up e3), m3, fun z v3 H4 pz a3 r3 => k z _ v3 H4 pz (e1.trans (e2.trans (e3.trans a3.ev))) (st3.all S.ok a3) r3⟩
end
end DL
end
section
namespace DL
open PySem PySem.Spec PyProof.Rows L2
section
variable {K : PySem.W.Frag} {p : Par} {B B' : Addr → Prop} {H H' : Hp} {σ : L2.St} {E : Env} {n : Sx}
theorem getElem?_set_cases {α : Type} {l : List α} {i j : Nat} {a b : α} (h : (l.set i a)[j]? = some b) : (i = j ∧ j < l.length ∧ a = b) ∨ (i ≠ j ∧ l[j]? = some b) := by
  by_cases e : i = j
  · subst e
    by_cases hl : i < l.length
    · rw [List.getElem?_set_self hl] at h
      exact .inl ⟨rfl, hl, Option.some.inj h⟩
    · rw [List.getElem?_eq_none (by rw [List.length_set]; omega)] at h
      cases h
  · rw [List.getElem?_set_ne e] at h
    exact .inr ⟨e, h⟩
theorem EnvR.put (r : EnvR K p n B H σ E) (hf : p.fx = none) (i : Nat) {s : Option V} {e : Ent} (h : Slot K p n B H s e) (no : ∀ ds, e ≠ .own ds) : EnvR K p n B H (σ.set i s) (E.set i e) := by
  refine ⟨by rw [List.length_set, List.length_set]; exact r.len, fun j e' q => ?_, fun a b x xs ys h1 h2 h3 h4 => ?_, .no hf, fun j a xs hp hj => ?_⟩
  · rcases getElem?_set_cases q with ⟨rfl, hl, rfl⟩ | ⟨ne, q⟩
    · exact ⟨s, List.getElem?_set_self (by rw [r.len]; exact hl), h⟩
    · rw [List.getElem?_set_ne ne]
      exact r.at_ j e' q
  · rcases getElem?_set_cases h1 with ⟨_, _, z⟩ | ⟨n1, h1⟩
    · exact absurd z (no xs)
    · rcases getElem?_set_cases h2 with ⟨_, _, z⟩ | ⟨n2, h2⟩
      · exact absurd z (no ys)
      · rw [List.getElem?_set_ne n1] at h3
        rw [List.getElem?_set_ne n2] at h4
        exact r.nd a b x xs ys h1 h2 h3 h4
  · rcases getElem?_set_cases hj with ⟨_, _, z⟩ | ⟨n1, hj⟩
    · exact absurd z (no xs)
    · rw [List.getElem?_set_ne n1]
      exact r.pn j a xs hp hj
theorem EnvR.unk (r : EnvR K p n B H σ E) (hf : p.fx = none) (i : Nat) (s : Option V) : EnvR K p n B H (σ.set i s) (E.set i .unk) := r.put hf i (.unk s) fun _ z => nomatch z
theorem EnvR.val (r : EnvR K p n B H σ E) (hf : p.fx = none) (i : Nat) {v : V} {d : D} (h : Rep K (bm p B n) H v d) : EnvR K p n B H (σ.set i (some v)) (E.set i (.val d)) := r.put hf i (.val h) fun _ z => nomatch z
theorem EnvR.wipe (r : EnvR K p n B H σ E) (hf : p.fx = none) : ∀ vs : List Nat, EnvR K p n B H (L2.wipe σ vs) (wipeE E vs)
  | [] => r
  | v :: vs => (r.wipe hf vs).unk hf v none
/-- other places -/
theorem Slot.grow (h : ∀ a, B' a → H a ≠ none → B a) (k : ∀ a, B a → B' a) {x : Option V} {y : Ent} (s : Slot K p n B H x y) : Slot K p n B' H x y := by
  cases s with
  | unk _ => exact .unk _
  | val r => exact .val (r.grow fun a z q => z.imp (fun z => h a z q) id)
  | own b n nc h0 hl r => exact .own (k _ b) n nc h0 hl (r.grow fun a z q => z.imp (fun z => h a z q) id)
  | stm => exact .stm
  | scr q => exact .scr q
theorem EnvR.grow (r : EnvR K p n B H σ E) (hf : p.fx = none) (h : ∀ a, B' a → H a ≠ none → B a) (k : ∀ a, B a → B' a) : EnvR K p n B' H σ E :=
  ⟨r.len, fun i e q => let ⟨s, h1, h2⟩ := r.at_ i e q; ⟨s, h1, h2.grow h k⟩, r.nd, .no hf, r.pn⟩
/-- the own list at i is a value from here on: its place is no more of B -/
def less (B : Addr → Prop) (q : Addr) : Addr → Prop := fun a => B a ∧ a ≠ q
theorem EnvR.rel (r : EnvR K p n B H σ E) (hf : p.fx = none) (st : St0 p n B H) {i : Nat} {ds : List D} (h : E[i]? = some (.own ds)) :
    ∃ q, EnvR K p n (less B q) H σ (E.set i (.val (.list ds))) ∧ St0 p n (less B q) H ∧ ¬ p.B0 n q ∧ ¬ p.Bc q ∧ B q := by
  obtain ⟨s, h1, h2⟩ := r.at_ i _ h
  have ls : ∀ q a, bm p (less B q) n a → bm p B n a := fun q a z => z.imp (fun z => z.1) id
  cases h2 with
  | @own q xs _ b nb nc h0 hl rs =>
    refine ⟨q, ⟨by rw [List.length_set]; exact r.len, fun j e he => ?_, fun a b x xs ys g1 g2 g3 g4 => ?_, .no hf, fun j a xs hp hj => ?_⟩, ⟨fun a z => (st.subc a z).imp (fun b => ⟨b, fun e => nc (e ▸ z)⟩) id, fun a z => st.trk a (ls q a z), st.si, st.ext, fun a b h => st.old a b.1 h⟩, nb, nc, b⟩
    · rcases getElem?_set_cases he with ⟨rfl, _, rfl⟩ | ⟨ne, he⟩
      · exact ⟨_, h1, .val (.lst hl (fun z => z.elim (fun z => z.2 rfl) nb) (rs.less (ls q)))⟩
      · obtain ⟨s', g1, g2⟩ := r.at_ j e he
        refine ⟨s', g1, ?_⟩
        cases g2 with
        | unk _ => exact .unk _
        | val z => exact .val (z.less (ls q))
        | own b' n' nc' h0' hl' rs' => exact .own ⟨b', fun z => ne (r.nd i j q _ _ h he h1 (z ▸ g1))⟩ n' nc' h0' hl' (rs'.less (ls q))
        | stm => exact .stm
        | scr q => exact .scr q
    · rcases getElem?_set_cases g1 with ⟨_, _, z⟩ | ⟨n1, g1⟩
      · cases z
      · rcases getElem?_set_cases g2 with ⟨_, _, z⟩ | ⟨n2, g2⟩
        · cases z
        · exact r.nd a b x xs ys g1 g2 g3 g4
    · rcases getElem?_set_cases hj with ⟨_, _, z⟩ | ⟨n1, hj⟩
      · cases z
      · exact r.pn j a xs hp hj
/-- a new list is owned -/
def more (B : Addr → Prop) (q : Addr) : Addr → Prop := fun a => B a ∨ a = q
theorem EnvR.own (r : EnvR K p n B H σ E) (hp : ∀ i, p.pin i = none) (hf : p.fx = none) (st : St0 p n B H) (i : Nat) {q : Addr} {xs : List V} {ds : List D} (hq : H q = some (.lst xs)) (nb : ¬ B q) (nb0 : ¬ p.B0 n q) (h0 : p.H0 q = none) (fr : ∀ a, B a → a ≠ q) (rs : Reps K (bm p (more B q) n) H xs ds)
    (old : ∀ (j : Nat) (v : V) (d : D), E[j]? = some (.val d) → j ≠ i → σ[j]? = some (some v) → Rep K (bm p (more B q) n) H v d)
    (olo : ∀ (j : Nat) (a : Addr) (ys : List V) (es : List D), E[j]? = some (.own es) → σ[j]? = some (some (.ref a)) → H a = some (.lst ys) → Reps K (bm p (more B q) n) H ys es) :
    EnvR K p n (more B q) H (σ.set i (some (.ref q))) (E.set i (.own ds)) ∧ St0 p n (more B q) H := by
  refine ⟨⟨by rw [List.length_set, List.length_set]; exact r.len, fun j e he => ?_, fun a b x xs' ys g1 g2 g3 g4 => ?_, .no hf, fun j a xs h _ => by rw [hp j] at h; cases h⟩, ⟨fun a z => (st.subc a z).imp .inl id, fun a z => ?_, st.si, st.ext, fun a b h => b.elim (fun z => st.old a z h) fun z => absurd (z ▸ h0) h⟩⟩
  · rcases getElem?_set_cases he with ⟨rfl, hl, rfl⟩ | ⟨ne, he⟩
    · exact ⟨_, List.getElem?_set_self (by rw [r.len]; exact hl), .own (.inr rfl) nb0 (fun z => (st.subc _ z).elim nb nb0) h0 hq rs⟩
    · rw [List.getElem?_set_ne ne]
      obtain ⟨s, g1, g2⟩ := r.at_ j e he
      refine ⟨s, g1, ?_⟩
      cases g2 with
      | unk _ => exact .unk _
      | val z => exact .val (old j _ _ he (Ne.symm ne) g1)
      | own b' n' nc' h0' hl' rs' => exact .own (.inl b') n' nc' h0' hl' (olo j _ _ _ he g1 hl')
      | stm => exact .stm
      | scr q => exact .scr q
  · rcases getElem?_set_cases g1 with ⟨e1, l1, z1⟩ | ⟨n1, g1⟩
    · rcases getElem?_set_cases g2 with ⟨e2, l2, z2⟩ | ⟨n2, g2⟩
      · rw [← e1, ← e2]
      · subst e1
        rw [List.getElem?_set_self (by rw [r.len]; exact l1)] at g3
        rw [List.getElem?_set_ne n2] at g4
        have ex : q = x := by
          have := Option.some.inj (Option.some.inj g3)
          cases this
          rfl
        subst ex
        obtain ⟨s, k1, k2⟩ := r.at_ b _ g2
        rw [g4] at k1
        cases k1
        cases k2 with
        | own b' _ _ _ _ _ => exact absurd b' nb
    · rcases getElem?_set_cases g2 with ⟨e2, l2, z2⟩ | ⟨n2, g2⟩
      · subst e2
        rw [List.getElem?_set_self (by rw [r.len]; exact l2)] at g4
        rw [List.getElem?_set_ne n1] at g3
        have ex : q = x := by
          have := Option.some.inj (Option.some.inj g4)
          cases this
          rfl
        subst ex
        obtain ⟨s, k1, k2⟩ := r.at_ a _ g1
        rw [g3] at k1
        cases k1
        cases k2 with
        | own b' _ _ _ _ _ => exact absurd b' nb
      · rw [List.getElem?_set_ne n1] at g3
        rw [List.getElem?_set_ne n2] at g4
        exact r.nd a b x xs' ys g1 g2 g3 g4
  · rcases z with (z | z) | z
    · exact st.trk a (.inl z)
    · rw [z, hq]
      exact fun z => nomatch z
    · exact st.trk a (.inr z)
end
def SR (K : PySem.W.Frag) (p : Par) (ts : TS) (m : XS) : Prop :=
  ∀ (B : Addr → Prop) (H : Hp) (σ : L2.St) (E : Env) (c : Sx) (P : Out → Sx → Prop) (Dn : Ends), St0 p c B H → EnvR K p c B H σ E → m E c P p.XP →
    (∀ E' c' B' σ' H', P (.nx E') c' → St0 p c' B' H' → Tr (bm p B c) H (bm p B' c') H' → EnvR K p c' B' H' σ' E' → Dn.nx σ' H') →
    (∀ d c' v H', P (.rt d) c' → p.SI c' H' → Ev p p.c0 p.H0 c' H' → Rep K (bm p p.Bc c') H' v d → Dn.rt v H') →
    (∀ E' c' B' σ' H', P (.bk E') c' → St0 p c' B' H' → Tr (bm p B c) H (bm p B' c') H' → EnvR K p c' B' H' σ' E' → Dn.bk σ' H') →
    (∀ E' c' B' σ' H', P (.ct E') c' → St0 p c' B' H' → Tr (bm p B c) H (bm p B' c') H' → EnvR K p c' B' H' σ' E' → Dn.ct σ' H') → ts Dn σ H
structure PSD (X : Cx) (p : Par) (st : Stmt) (m : XS) : Prop where
  ex : ∃ ts, PS X st ts ∧ SR X.K p ts m
structure PSSD (X : Cx) (p : Par) (sts : List Stmt) (m : XS) : Prop where
  ex : ∃ ts, PSs X sts ts ∧ SR X.K p ts m
section
variable {X : Cx} {p : Par} {k : Nat} {K : PySem.W.Frag}
theorem ssd_nil : PSSD X p [] sSkip := ⟨_, pss_nil, fun B H σ E c P Dn st r m nx rt bk ct => nx E _ B σ H m st .refl r⟩
theorem sr_seq {t u : TS} {a b : XS} (h1 : SR K p t a) (h2 : SR K p u b) : SR K p (tSeq t u) (sSeq a b) := by
  intro B H σ E c P Dn st r m nx rt bk ct
  refine h1 B H σ E _ _ _ st r m (fun E' c1 B' σ' H' m1 st1 t1 r1 => ?_) (fun d c1 v H' m1 => rt d c1 v H' m1) (fun E' c1 B' σ' H' m1 => bk E' c1 B' σ' H' m1) (fun E' c1 B' σ' H' m1 => ct E' c1 B' σ' H' m1)
  refine h2 B' H' σ' E' _ P Dn st1 r1 m1 (fun E2 c2' B2 σ2 H2 m2 st2 t2 r2 => nx E2 c2' B2 σ2 H2 m2 st2 (t1.trans t2) r2) rt (fun E2 c2' B2 σ2 H2 m2 st2 t2 r2 => bk E2 c2' B2 σ2 H2 m2 st2 (t1.trans t2) r2) (fun E2 c2' B2 σ2 H2 m2 st2 t2 r2 => ct E2 c2' B2 σ2 H2 m2 st2 (t1.trans t2) r2)
theorem ssd_cons {st : Stmt} {rest : List Stmt} {a b : XS} (h1 : PSD X p st a) (h2 : PSSD X p rest b) : PSSD X p (st :: rest) (sSeq a b) := by
  obtain ⟨t1, a1, a2⟩ := h1.ex
  obtain ⟨t2, b1, b2⟩ := h2.ex
  exact ⟨_, pss_cons a1 b1, sr_seq a2 b2⟩
theorem ssd_one {st : Stmt} {a : XS} (h1 : PSD X p st a) : PSSD X p [st] a := by
  obtain ⟨t1, a1, a2⟩ := h1.ex
  exact ⟨_, pss_one a1, a2⟩
theorem sd_ret {e : Expr} {m : XE} {pos : Pos} (he : PD X p e m) : PSD X p (.Return (some e) pos) (sRet m) := by
  obtain ⟨te, a1, a2⟩ := he.ex
  refine ⟨_, ps_ret a1, fun B H σ E c P Dn st r m nx rt bk ct => ?_⟩
  exact a2 B H σ E _ _ _ st r m fun d c1 v H1 m1 e1 s1 r1 => rt d _ v H1 m1 s1 (st.ext.trans e1) (r1.less (st.go e1 s1).bc)
theorem sd_expr {e : Expr} {m : XE} {pos : Pos} (he : PD X p e m) (hs : swapsWith e none pos.line X.env = pure false := by rfl) : PSD X p (.Expr e pos) (sExpr m) := by
  obtain ⟨te, a1, a2⟩ := he.ex
  refine ⟨_, ps_expr a1 hs, fun B H σ E c P Dn st r m nx rt bk ct => ?_⟩
  exact a2 B H σ E _ _ _ st r m fun d c1 v H1 m1 e1 s1 r1 => nx E _ B σ H1 m1 (st.go e1 s1) (st.up e1) (r.go st e1)
theorem sd_if {c : Expr} {a b : List Stmt} {t : XT} {ma mb : XS} {pos : Pos} (hc : PDT X p c t) (ha : PSSD X p a ma) (hb : PSSD X p b mb) : PSD X p (.If c a b pos) (sIf t ma mb) := by
  obtain ⟨tc, c1, c2⟩ := hc.ex
  obtain ⟨ta, a1, a2⟩ := ha.ex
  obtain ⟨tb, b1, b2⟩ := hb.ex
  refine ⟨_, ps_if c1 a1 b1, fun B H σ E c P Dn st r m nx rt bk ct => ?_⟩
  refine c2 B H σ E _ _ _ st r m fun b c1 H1 m1 e1 s1 => ?_
  have st1 := st.go e1 s1
  have t1 : Tr (bm p B c) H (bm p B c1) H1 := st.up e1
  have r1 := r.go st e1
  cases b with
  | true => exact a2 B H1 σ E _ P Dn st1 r1 m1 (fun E2 c2' B2 σ2 H2 m2 st2 t2 r2 => nx E2 c2' B2 σ2 H2 m2 st2 (t1.trans t2) r2) rt (fun E2 c2' B2 σ2 H2 m2 st2 t2 r2 => bk E2 c2' B2 σ2 H2 m2 st2 (t1.trans t2) r2) (fun E2 c2' B2 σ2 H2 m2 st2 t2 r2 => ct E2 c2' B2 σ2 H2 m2 st2 (t1.trans t2) r2)
  | false => exact b2 B H1 σ E _ P Dn st1 r1 m1 (fun E2 c2' B2 σ2 H2 m2 st2 t2 r2 => nx E2 c2' B2 σ2 H2 m2 st2 (t1.trans t2) r2) rt (fun E2 c2' B2 σ2 H2 m2 st2 t2 r2 => bk E2 c2' B2 σ2 H2 m2 st2 (t1.trans t2) r2) (fun E2 c2' B2 σ2 H2 m2 st2 t2 r2 => ct E2 c2' B2 σ2 H2 m2 st2 (t1.trans t2) r2)
theorem sr_asg {te : TE} {m : XE} {i : Nat} (nf : p.fx = none) (h : EvR K p te m) : SR K p (tAsg te (gName i)) (sAsg i m) := by
  intro B H σ E c P Dn st r m nx rt bk ct
  exact h B H σ E _ _ _ st r m fun d c1 v H1 m1 e1 s1 r1 => nx _ _ B _ H1 m1 (st.go e1 s1) (st.up e1) ((r.go st e1).val nf i r1)
theorem sd_set {cb : Bool} (S : SitB cb true X p k) {i : Nat} {x : Str} {e : Expr} {m : XE} {pos pos' : Pos} (hi : X.N[i]? = some x) (hx : Loc X.env.scope x) (he : PD X p e m) (hs : swapsWith e (some (.Name x pos')) pos.line X.env = pure false := by rfl)
    (hf : X.fn x = true ∨ X.env.scope.names.lookup x = some .local := by first | exact .inl rfl | exact .inr rfl) : PSD X p (.Assign [.Name x pos'] e pos) (sAsg i m) := by
  obtain ⟨te, a1, a2⟩ := he.ex
  exact ⟨_, ps_set S.nd hi hx a1 hs hf, sr_asg S.nf a2⟩
end
end DL
end
section
namespace DL
open PySem PySem.Spec PyProof.Rows L2
def gNs : List Nat → TGs
  | [] => gNil
  | i :: is => gCons (gName i) (gNs is)
/-- (a, b, ..) = a tuple or a list of that length -/
def gTL (K : PySem.W.Frag) (n : Nat) (t : TGs) : TG := fun v σ H Q => gTup K n t v σ H Q ∨ gUnl K n t v σ H Q
theorem pg_tl {X : Cx} {pos : Pos} {es : List Expr} {k : Nat} {t : TGs} {n : Nat} (hc : X.calm = true) (h : PGs X es t)
    (hn : (assignEach es X.env).length = n := by rfl) (hst : (assignEach es X.env).findIdx? (·.1) = none := by rfl) : PG X (.Tuple es k pos) (gTL X.K n t) :=
  ⟨fun pins s σ H v u Q I r hw => hw.elim (fun q => (pg_tup hc h hn hst).run pins s σ H v u Q I r q) fun q => (pg_unl hc h hn hst).run pins s σ H v u Q I r q⟩
def gOf (K : PySem.W.Frag) : Tg → TG
  | .nm i => gName i
  | .tp is => gTL K is.length (gNs is)
  | .pr a b => gTL K 2 (gCons (gOf K a) (gCons (gOf K b) gNil))
def Tg.ix : Tg → List Nat
  | .nm i => [i]
  | .tp is => is
  | .pr a b => a.ix ++ b.ix
section
variable {K : PySem.W.Frag} {p : Par} {B B' : Addr → Prop} {H H' : Hp} {σ : L2.St} {E E' : Env} {n : Sx}
theorem gNs_put (nf : p.fx = none) : ∀ (is : List Nat) (vs : List V) (ds : List D) (σ : L2.St) (E : Env), EnvR K p n B H σ E → Reps K (bm p B n) H vs ds → setAll is ds E = some E' →
    ∀ Q : L2.St → Hp → Prop, (∀ σ', EnvR K p n B H σ' E' → σ'.length = σ.length → (∀ j, j ∉ is → σ'[j]? = σ[j]?) → Q σ' H) → gNs is vs σ H Q
  | [], vs, ds, σ, E, r, rs, h, Q, q => by
    cases rs with
    | nil =>
      have e : E = E' := Option.some.inj h
      subst e
      exact ⟨rfl, q σ r rfl fun _ _ => rfl⟩
    | cons _ _ => cases h
  | i :: is, vs, ds, σ, E, r, rs, h, Q, q => by
    cases rs with
    | nil => cases h
    | cons r1 rs =>
      refine ⟨_, _, rfl, gNs_put nf is _ _ _ _ (r.val nf i r1) rs h Q fun σ' g1 g2 g3 => q σ' g1 (by rw [g2, List.length_set]) fun j hj => ?_⟩
      rw [List.mem_cons, not_or] at hj
      rw [g3 j hj.2, List.getElem?_set_ne (Ne.symm hj.1)]
theorem gOf_put (nf : p.fx = none) {t : Tg} {v : V} {d : D} (r : EnvR K p n B H σ E) (rv : Rep K (bm p B n) H v d) (h : t.put d E = some E') (Q : L2.St → Hp → Prop)
    (q : ∀ σ', EnvR K p n B H σ' E' → σ'.length = σ.length → (∀ j, j ∉ t.ix → σ'[j]? = σ[j]?) → Q σ' H) : gOf K t v σ H Q := by
  induction t generalizing v d σ E E' Q with
  | nm i =>
    have e : E.set i (.val d) = E' := Option.some.inj h
    subst e
    exact q _ (r.val nf i rv) (List.length_set ..) fun j hj => List.getElem?_set_ne fun e => hj (by simp [Tg.ix, e])
  | tp is =>
    have hl : ∀ (is : List Nat) (ds : List D) (E E' : Env), setAll is ds E = some E' → ds.length = is.length := by
      intro is
      induction is with
      | nil => intro ds E E' h; cases ds with
        | nil => rfl
        | cons _ _ => cases h
      | cons i is ih => intro ds E E' h; cases ds with
        | nil => cases h
        | cons d ds => simp [ih ds _ _ h]
    cases rv with
    | @tup a xs ds hs rs =>
      have h' : setAll is ds E = some E' := h
      exact .inl ⟨a, xs, rfl, hs, by rw [rs.length]; exact hl _ _ _ _ h', gNs_put nf is xs ds σ E r rs h' Q q⟩
    | @lst a xs ds hs nb rs =>
      have h' : setAll is ds E = some E' := h
      exact .inr ⟨a, xs, rfl, SqL.of hs, by rw [rs.length]; exact hl _ _ _ _ h', gNs_put nf is xs ds σ E r rs h' Q q⟩
    | _ => exact nomatch (show none = some E' from h)
  | pr a b iha ihb =>
    cases rv with
    | @tup ad xs ds hs rs =>
      cases rs with
      | nil => exact nomatch (show none = some E' from h)
      | @cons v1 xs1 d1 ds1 r1 rs1 =>
        cases rs1 with
        | nil => exact nomatch (show none = some E' from h)
        | @cons v2 xs2 d2 ds2 r2 rs2 =>
          cases rs2 with
          | cons _ _ => exact nomatch (show none = some E' from h)
          | nil =>
            have h' : (match a.put d1 E with
              | some E1 => b.put d2 E1
              | none => none) = some E' := h
            cases h1 : a.put d1 E with
            | none => rw [h1] at h'; cases h'
            | some E1 =>
              rw [h1] at h'
              refine .inl ⟨ad, [v1, v2], rfl, hs, rfl, v1, [v2], rfl, iha r r1 h1 _ fun σ1 g1 g2 g3 => ?_⟩
              refine ⟨v2, [], rfl, ihb g1 r2 h' _ fun σ2 k1 k2 k3 => ?_⟩
              refine ⟨rfl, q σ2 k1 (k2.trans g2) fun j hj => ?_⟩
              have hj2 : j ∉ a.ix ++ b.ix := hj
              rw [List.mem_append, not_or] at hj2
              rw [k3 j hj2.2, g3 j hj2.1]
    | _ => exact nomatch (show none = some E' from h)
theorem wipe_get (σ : L2.St) : ∀ (vs : List Nat) (j : Nat), (L2.wipe σ vs)[j]? = if j ∈ vs then (if j < σ.length then some none else none) else σ[j]?
  | [], j => by simp [L2.wipe]
  | v :: vs, j => by
    unfold L2.wipe
    by_cases e : v = j
    · subst e
      rw [if_pos (List.mem_cons_self)]
      by_cases hl : v < σ.length
      · rw [if_pos hl, List.getElem?_set_self (by rw [L2.wipe_length]; exact hl)]
      · rw [if_neg hl, List.getElem?_eq_none (by rw [List.length_set, L2.wipe_length]; omega)]
    · rw [List.getElem?_set_ne e, wipe_get σ vs j]
      by_cases hm : j ∈ vs
      · rw [if_pos hm, if_pos (List.mem_cons_of_mem _ hm)]
      · rw [if_neg hm, if_neg fun z => by
          rcases List.mem_cons.mp z with z | z
          · exact e z.symm
          · exact hm z]
theorem wipe_same {σ σ' : L2.St} {vs : List Nat} (hl : σ'.length = σ.length) (h : ∀ j, j ∉ vs → σ'[j]? = σ[j]?) : L2.wipe σ' vs = L2.wipe σ vs := by
  apply List.ext_getElem?
  intro j
  rw [wipe_get, wipe_get, hl]
  by_cases hm : j ∈ vs
  · rw [if_pos hm, if_pos hm]
  · rw [if_neg hm, if_neg hm]
    exact h j hm
theorem wipe_wipe (σ : L2.St) (vs : List Nat) : L2.wipe (L2.wipe σ vs) vs = L2.wipe σ vs :=
  wipe_same (L2.wipe_length σ vs) fun j hj => by rw [wipe_get, if_neg hj]
end
structure WalkD (K : PySem.W.Frag) (B : Addr → Prop) (Hs : Hp) (J : It) (ds : List D) : Prop where
  ex : ∃ G : Hp → Prop, G Hs ∧ (∀ B1 H1, Tr B Hs B1 H1 → G H1) ∧
    Walk J ds.length G (fun i H x H' => All H H' ∧ ∀ B1, Tr B Hs B1 H → (∀ a, B1 a → H a ≠ none) → ∃ d, ds[i]? = some d ∧ Rep K B1 H' x d)
structure PDI (X : Cx) (p : Par) (tg e : Expr) (m : XA) : Prop where
  ex : ∃ wi, PI X tg e wi ∧ ∀ (B : Addr → Prop) (H : Hp) (σ : L2.St) (E : Env) (c : Sx) (P : List D → Sx → Prop) (R : It → Hp → Prop), St0 p c B H → EnvR X.K p c B H σ E → m E c P p.XP →
    (∀ ds c' J H', P ds c' → Ev p c H c' H' → p.SI c' H' → WalkD X.K (bm p B c') H' J ds → R J H') → wi σ H R
section
variable {X : Cx} {p : Par} {k : Nat} {K : PySem.W.Frag} {tg : Expr}
theorem Reps.at' {B : Addr → Prop} {H : Hp} : ∀ {vs : List V} {ds : List D}, Reps K B H vs ds → ∀ {i : Nat} {v : V}, vs[i]? = some v → ∃ d, ds[i]? = some d ∧ Rep K B H v d
  | _, _, .nil, i, v, e => by simp at e
  | _, _, .cons r t, 0, v, e => by
    have e' : _ = v := Option.some.inj e
    subst e'
    exact ⟨_, rfl, r⟩
  | _, _, .cons r t, i + 1, v, e => Reps.at' t (i := i) e
theorem walkD_list {B : Addr → Prop} {H : Hp} {a : Addr} {xs : List V} {ds : List D} (hl : H a = some (.lst xs)) (nb : ¬ B a) (rs : Reps K B H xs ds) : WalkD K B H (Itl K a) ds := by
  refine ⟨fun H => SqL K H a xs, SqL.of hl, fun B1 H1 t => SqL.of (t.ext.keep _ _ hl nb), ?_⟩
  rw [← rs.length]
  refine walk_list.mono (fun _ h => h) fun i H1 x H' hi hg y => ⟨fun b o e => by rw [y.1]; exact e, fun B1 t _ => ?_⟩
  obtain ⟨d, h1, h2⟩ := rs.at' y.2
  exact ⟨d, h1, by rw [y.1]; exact h2.tr t⟩
theorem walkD_tup {B : Addr → Prop} {H : Hp} {a : Addr} {xs : List V} {ds : List D} (hl : SqT K H a xs) (rs : Reps K B H xs ds) : WalkD K B H (Itt K a) ds := by
  refine ⟨fun H => SqT K H a xs, hl, fun B1 H1 t => t.ext.sqT hl, ?_⟩
  rw [← rs.length]
  refine walk_tup.mono (fun _ h => h) fun i H1 x H' hi hg y => ⟨fun b o e => by rw [y.1]; exact e, fun B1 t _ => ?_⟩
  obtain ⟨d, h1, h2⟩ := rs.at' y.2
  exact ⟨d, h1, by rw [y.1]; exact h2.tr t⟩
theorem rng_length (a b : Int) : (rng a b).length = (b - a).toNat := by
  unfold rng
  rw [List.length_map, List.length_range]
theorem rng_get (a b : Int) {i : Nat} (h : i < (b - a).toNat) : (rng a b)[i]? = some (.int (a + (i : Int))) := by
  unfold rng
  rw [List.getElem?_map, List.getElem?_range h]
  rfl
theorem walkD_rng {B : Addr → Prop} {H : Hp} {a b : Int} : WalkD K B H (Itr a (b - a).toNat) (rng a b) := by
  refine ⟨fun _ => True, True.intro, fun _ _ _ => True.intro, ?_⟩
  rw [rng_length]
  refine walk_range.mono (fun _ h => h) fun i H1 x H' hi hg y => ⟨fun b o e => by rw [y.1]; exact e, fun B1 t _ => ?_⟩
  refine ⟨_, rng_get a b hi, ?_⟩
  rw [y.2]
  exact .int _
def iLst (a : XE) : XA := fun E => bnd (a E) fun d => match d with | .list xs => ret xs | _ => stuck
theorem pi_lstD {e : Expr} {m : XE} (he : PD X p e m) : PDI X p tg e (iLst m) := by
  obtain ⟨te, a1, a2⟩ := he.ex
  refine ⟨_, pi_list a1, fun B H σ E c P R st r m k => ?_⟩
  refine a2 B H σ E _ _ _ st r m fun d c1 v H1 m1 e1 s1 r1 => ?_
  cases r1 with
  | lst q n t => exact ⟨_, rfl, ⟨_, SqL.of q⟩, k _ _ _ H1 m1 e1 s1 (walkD_list q n t)⟩
  | _ => exact m1.elim
theorem pi_rng1D {a : Expr} {m : XE} {pn pos : Pos} (ha : PD X p a m) (hm : X.mg "range" = none) (hg : Gl X "range" := by rfl) (hs : starEach [a] X.env = [(false, eval a X.env)] := by rfl) : PDI X p tg (.Call (.Name "range" pn) [a] [] pos) (iRng1 m) := by
  obtain ⟨ta, a1, a2⟩ := ha.ex
  refine ⟨_, pi_range1 hg hm (pa_cons a1 pa_nil (by rw [hs] <;> rfl)) hs, fun B H σ E c P R st r m k => ?_⟩
  refine a2 B H σ E _ _ _ st r m fun d c1 v H1 m1 e1 s1 r1 => ?_
  cases r1 with
  | int n =>
    obtain ⟨⟨h1, h2, h3, h4⟩, m1⟩ := m1
    refine ⟨n, rfl, by omega, by omega, k _ _ _ H1 m1 e1 s1 ?_⟩
    have w := walkD_rng (K := X.K) (B := bm p B c1) (H := H1) (a := 0) (b := n)
    rw [Int.sub_zero] at w
    exact w
  | _ => exact m1.elim
theorem forL_drop {t : Tg} {s : XS} {ds : List D} {i : Nat} {d : D} (h : ds[i]? = some d) (E : Env) : forL t s (ds.drop i) E = match t.put d E with
    | none => stuck
    | some E1 => bnd (s E1) fun o => match o with
      | .nx E' => forL t s (ds.drop (i + 1)) E'
      | .ct E' => forL t s (ds.drop (i + 1)) E'
      | .bk E' => ret (.nx E')
      | .rt d => ret (.rt d) := by
  obtain ⟨hl, e⟩ := List.getElem?_eq_some_iff.mp h
  rw [List.drop_eq_getElem_cons hl, e]
  rfl
theorem sd_for (S : SitB true true X p k) {iter : Expr} {body : List Stmt} {mi : XA} {t : Tg} {mb : XS} {pos : Pos} (hi : PDI X p tg iter mi) (hg : PG X tg (gOf X.K t)) (hb : PSSD X p body mb)
    (hs : ∀ x, foldedSetIterable iter X.env x = pure x := by intro _; rfl) : PSD X p (.For tg iter body [] pos) (sFor mi t mb) := by
  obtain ⟨wi, a1, a2⟩ := hi.ex
  obtain ⟨tb, b1, b2⟩ := hb.ex
  refine ⟨_, ps_for S.po S.calm a1 hg b1 hs, fun B H σ E c P Dn st r m nx rt bk ct => ?_⟩
  refine a2 B H σ E _ _ _ st r m fun ds c1 J H1 m1 e1 s1 w => ?_
  obtain ⟨G, g0, g1, wk⟩ := w.ex
  have st1 := st.go e1 s1
  refine for_it wk (fun i σ' H' => ∃ B' E' c', St0 p c' B' H' ∧ Tr (bm p B c1) H1 (bm p B' c') H' ∧ EnvR X.K p c' B' H' σ' E' ∧ forL t mb (ds.drop i) E' c' P p.XP) ⟨B, E, _, st1, .refl, r.go st e1, m1⟩ (fun i σ' H' _ ⟨B', E', _, _, t', _, _⟩ => g1 _ H' t') ?_ ?_
  · rintro i x σ' H' H'' hi' ⟨B', E', c', st', t', r', m'⟩ ⟨al, y⟩
    obtain ⟨d, hd, rd⟩ := y _ t' st'.trk
    rw [forL_drop hd] at m'
    cases hp : t.put d E' with
    | none => rw [hp] at m'; exact m'.elim
    | some E1 =>
      rw [hp] at m'
      have st2 : St0 p c' B' H'' := st'.go al.ev (st'.all S.ok al)
      have r2 := r'.go st' al.ev
      refine gOf_put S.nf r2 rd hp _ fun σ2 r3 _ _ => ?_
      have t2 : Tr (bm p B' c') H' (bm p B' c') H'' := .of al.ext
      refine b2 B' H'' σ2 E1 _ _ _ st2 r3 m' (fun E3 c3' B3 σ3 H3 m3 st3 t3 r3 => ?_) (fun d c3' v H3 m3 => rt d c3' v H3 m3) (fun E3 c3' B3 σ3 H3 m3 st3 t3 r3 => ?_) (fun E3 c3' B3 σ3 H3 m3 st3 t3 r3 => ?_)
      · exact ⟨B3, E3, _, st3, (t'.trans t2).trans t3, r3, m3⟩
      · exact nx E3 _ B3 σ3 H3 m3 st3 ((((st.up e1).trans t').trans t2).trans t3) r3
      · exact ⟨B3, E3, _, st3, (t'.trans t2).trans t3, r3, m3⟩
  · rintro σ' H' ⟨B', E', c', st', t', r', m'⟩
    rw [List.drop_length] at m'
    exact nx E' _ B' σ' H' m' st' ((st.up e1).trans t') r'
theorem sd_while {cb : Bool} (S : SitB cb true X p k) {c : Expr} {body : List Stmt} {mt : XT} {mb : XS} {pos : Pos} (hc : PDT X p c mt) (hb : PSSD X p body mb) : PSD X p (.While c body [] pos) (sWhile mt mb) := by
  obtain ⟨tc, a1, a2⟩ := hc.ex
  obtain ⟨tb, b1, b2⟩ := hb.ex
  refine ⟨_, ps_while S.po a1 b1, fun B H σ E c P Dn st r m nx rt bk ct => ?_⟩
  obtain ⟨n0, m⟩ := m
  refine ⟨fun n σ' H' => ∃ B' E' c', St0 p c' B' H' ∧ Tr (bm p B c) H (bm p B' c') H' ∧ EnvR X.K p c' B' H' σ' E' ∧ whileL mt mb n E' c' P p.XP, ⟨n0, B, E, _, st, .refl, r, m⟩, ?_⟩
  rintro n σ' H' ⟨B', E', c', st', t', r', m'⟩
  cases n with
  | zero => exact m'.elim
  | succ n =>
    refine a2 B' H' σ' E' _ _ _ st' r' m' fun b c1 H1 m1 e1 s1 => ?_
    have st1 := st'.go e1 s1
    have t1 : Tr (bm p B c) H (bm p B' c1) H1 := t'.trans (st'.up e1)
    have r1 := r'.go st' e1
    cases b with
    | true =>
      refine ⟨fun σ2 H2 => ∃ B2 E2 c2', St0 p c2' B2 H2 ∧ Tr (bm p B c) H (bm p B2 c2') H2 ∧ EnvR X.K p c2' B2 H2 σ2 E2 ∧ whileL mt mb n E2 c2' P p.XP, fun σ2 H2 h => ⟨n, Nat.lt_succ_self n, h⟩, ?_⟩
      exact b2 B' H1 σ' E' _ _ _ st1 r1 m1 (fun E3 c3' B3 σ3 H3 m3 st3 t3 r3 => ⟨B3, E3, _, st3, t1.trans t3, r3, m3⟩) (fun d c3' v H3 m3 => rt d c3' v H3 m3) (fun E3 c3' B3 σ3 H3 m3 st3 t3 r3 => nx E3 _ B3 σ3 H3 m3 st3 (t1.trans t3) r3) (fun E3 c3' B3 σ3 H3 m3 st3 t3 r3 => ⟨B3, E3, _, st3, t1.trans t3, r3, m3⟩)
    | false => exact nx E' _ B' σ' H1 m1 st1 t1 r1
end
end DL
end
section
namespace DL
open PySem PySem.Spec PyProof.Rows L2
def teOf (K : PySem.W.Frag) (p : Par) (m : XE) : TE := fun σ H Q => ∃ (B : Addr → Prop) (E : Env) (c : Sx) (P : D → Sx → Prop), St0 p c B H ∧ EnvR K p c B H σ E ∧ m E c P p.XP ∧
  ∀ d c' v H', P d c' → Ev p c H c' H' → p.SI c' H' → Rep K (bm p B c') H' v d → Q v H'
def ttOf (K : PySem.W.Frag) (p : Par) (m : XT) : TT := fun σ H Q => ∃ (B : Addr → Prop) (E : Env) (c : Sx) (P : Bool → Sx → Prop), St0 p c B H ∧ EnvR K p c B H σ E ∧ m E c P p.XP ∧
  ∀ b c' H', P b c' → Ev p c H c' H' → p.SI c' H' → Q b H'
section
variable {X : Cx} {p : Par} {k : Nat} {K : PySem.W.Frag}
theorem PD.pe {e : Expr} {m : XE} (h : PD X p e m) : PE X e (teOf X.K p m) := by
  obtain ⟨te, a1, a2⟩ := h.ex
  exact ⟨fun pins s σ H Q I ⟨B, E, c, P, st, r, mm, kk⟩ => a1.run pins s σ H Q I (a2 B H σ E c P Q st r mm kk)⟩
theorem PDT.pt {e : Expr} {m : XT} (h : PDT X p e m) : PT X e (ttOf X.K p m) := by
  obtain ⟨te, a1, a2⟩ := h.ex
  exact ⟨fun pins s σ H Q I ⟨B, E, c, P, st, r, mm, kk⟩ => a1.run pins s σ H Q I (a2 B H σ E c P Q st r mm kk)⟩
structure PDTs (X : Cx) (p : Par) (ifs : List Expr) (m : XT) : Prop where
  pts : PTs X ifs (ttOf X.K p m)
theorem pdts_nil : PDTs X p [] tYes := ⟨⟨fun pins s σ H Q I ⟨B, E, c, P, st, r, mm, kk⟩ => pts_nil.run pins s σ H Q I (kk true c H mm Ev.refl st.si)⟩⟩
theorem pdts_one {e : Expr} {m : XT} (h : PDT X p e m) : PDTs X p [e] m := ⟨pts_one h.pt⟩
/-- as EvR, of a list that is just made -/
def EvF (K : PySem.W.Frag) (p : Par) (te : TE) (m : XE) : Prop :=
  ∀ (B : Addr → Prop) (H : Hp) (σ : L2.St) (E : Env) (c : Sx) (P : D → Sx → Prop) (Q : VK), St0 p c B H → EnvR K p c B H σ E → m E c P p.XP →
    (∀ ds c' q xs H', P (.list ds) c' → Ev p c H c' H' → p.SI c' H' → (H q = none ∧ ¬ p.B0 c' q) → H' q = some (.lst xs) → Reps K (bm p (more B q) c') H' xs ds → Q (.ref q) H') → te σ H Q
structure PDF (X : Cx) (p : Par) (e : Expr) (m : XE) : Prop where
  ex : ∃ te, PE X e te ∧ EvF X.K p te m
theorem EvF.ev {te : TE} {m : XE} (h : EvF K p te m) : EvR K p te m := fun B H σ E c P Q st r mm kk =>
  h B H σ E c P Q st r mm fun ds c' q xs H' m1 e1 s1 hq h1 rs => kk _ c' _ H' m1 e1 s1 (.lst h1 (fun z => z.elim (fun z => st.trk q (.inl z) hq.1) hq.2) (rs.less fun _ z => z.imp .inl id))
theorem PDF.pd {e : Expr} {m : XE} (h : PDF X p e m) : PD X p e m := by
  obtain ⟨te, a1, a2⟩ := h.ex
  exact ⟨te, a1, a2.ev⟩
theorem q_new {B : Addr → Prop} {c c1 : Sx} {H H1 : Hp} {q : Addr} (st1 : St0 p c1 B H1) (e1 : Ev p c H c1 H1) (hq : H1 q = none) : H q = none ∧ ¬ p.B0 c1 q :=
  ⟨by
    cases x : H q with
    | none => rfl
    | some o => exact absurd hq (e1.ext.dom q (some_ne x)), fun z => st1.trk q (.inr z) hq⟩
theorem ext_none {B : Addr → Prop} {H H' : Hp} (e : Ext B H H') {q : Addr} (h : H' q = none) : H q = none := by
  cases x : H q with
  | none => rfl
  | some o => exact absurd h (e.dom q (some_ne x))
theorem bm_new {B : Addr → Prop} {n : Sx} {H : Hp} {q : Addr} (hq : H q = none) : ∀ a, bm p (more B q) n a → H a ≠ none → bm p B n a := fun a z nn => by
  rcases z with (z | z) | z
  · exact .inl z
  · exact absurd (z ▸ hq) nn
  · exact .inr z
theorem reps_more {B : Addr → Prop} {n : Sx} {H : Hp} {q : Addr} {xs : List V} {ds : List D} (hq : H q = none) (r : Reps K (bm p B n) H xs ds) : Reps K (bm p (more B q) n) H xs ds := r.grow (bm_new hq)
theorem rep_more {B : Addr → Prop} {n : Sx} {H : Hp} {q : Addr} {v : V} {d : D} (hq : H q = none) (r : Rep K (bm p B n) H v d) : Rep K (bm p (more B q) n) H v d := r.grow (bm_new hq)
theorem pf_lst {cb : Bool} {vb : Bool} (S : SitB cb vb X p k) {es : List Expr} {pos : Pos} {m : XA} (h : PDA X p es m) : PDF X p (.List es pos) (eLst m) := by
  obtain ⟨ta, a1, a2⟩ := h.ex
  refine ⟨_, pe_lst a1, fun B H σ E c P Q s re m k => ?_⟩
  refine a2 B H σ E _ _ _ s re m fun ds c1 vs H1 m1 e1 s1 r1 => ?_
  have st1 := s.go e1 s1
  refine ⟨by rw [r1.length]; exact small_line m1.1, fun q hq => ?_⟩
  exact k _ _ q _ _ m1.2 (e1.trans (All.new hq).ev) (st1.all S.ok (All.new hq)) (q_new st1 e1 hq) upd_same ((reps_more hq r1).mono (All.new hq).ext)
/-- name = a new list, owned -/
theorem own_put {B : Addr → Prop} {H H' : Hp} {σ : L2.St} {E : Env} {n n' : Sx} {q : Addr} {xs : List V} {ds : List D} (hp : ∀ i, p.pin i = none) (nf : p.fx = none) (i : Nat) (r : EnvR K p n B H σ E) (st : St0 p n B H) (e : Ev p n H n' H') (si : p.SI n' H') (hq : H q = none ∧ ¬ p.B0 n' q) (h1 : H' q = some (.lst xs)) (rs : Reps K (bm p (more B q) n') H' xs ds) :
    EnvR K p n' (more B q) H' (σ.set i (some (.ref q))) (E.set i (.own ds)) ∧ St0 p n' (more B q) H' ∧ Tr (bm p B n) H (bm p (more B q) n') H' := by
  have st1 := st.go e si
  have r1 := r.go st e
  have nb : ¬ B q := fun z => st.trk q (.inl z) hq.1
  have em : Tr (bm p (more B q) n) H (bm p (more B q) n') H' := e.tr
  obtain ⟨g1, g2⟩ := r1.own hp nf st1 i h1 nb hq.2 (ext_none st.ext.ext hq.1) (fun a z e => nb (e ▸ z)) rs
    (fun j v d hj _ hs => by
      obtain ⟨s, k1, k2⟩ := r.at_ j _ hj
      rw [hs] at k1
      cases k1
      cases k2 with
      | val z => exact (rep_more hq.1 z).tr em)
    (fun j a ys es hj hs hl => by
      obtain ⟨s, k1, k2⟩ := r.at_ j _ hj
      rw [hs] at k1
      cases k1
      cases k2 with
      | own b n' nc h0 hl' z =>
        have := e.ext.keep _ _ hl' n'
        rw [hl] at this
        cases this
        exact (reps_more hq.1 z).tr em)
  refine ⟨g1, g2, (st.up e).ext, fun a z nn => ?_⟩
  rcases z with (z | z) | z
  · exact .inl z
  · exact absurd (z ▸ hq.1) nn
  · exact .inr (e.old a z nn)
theorem sd_own {cb : Bool} (S : SitB cb true X p k) {i : Nat} {x : Str} {e : Expr} {m : XE} {pos pos' : Pos} (hi : X.N[i]? = some x) (hx : Loc X.env.scope x) (he : PDF X p e m) (hs : swapsWith e (some (.Name x pos')) pos.line X.env = pure false := by rfl)
    (hf : X.fn x = true ∨ X.env.scope.names.lookup x = some .local := by first | exact .inl rfl | exact .inr rfl)  (hp : ∀ i, p.pin i = none := by assumption): PSD X p (.Assign [.Name x pos'] e pos) (sOwn i m) := by
  obtain ⟨te, a1, a2⟩ := he.ex
  refine ⟨_, ps_set S.nd hi hx a1 hs hf, fun B H σ E c P Dn st r m nx rt bk ct => ?_⟩
  refine a2 B H σ E _ _ _ st r m fun ds c1 q xs H1 m1 e1 s1 hq h1 rs => ?_
  obtain ⟨g1, g2, g3⟩ := own_put hp S.nf i r st e1 s1 hq h1 rs
  exact nx _ _ _ _ H1 m1 g2 g3 g1
/-- a, b = x, y -/
theorem sd_par (S : SitB true true X p k) {i j : Nat} {x y : Str} {a b : Expr} {ma mb : XE} {px py pt pos : Pos} {kt k2 pt2} (hi : X.N[i]? = some x) (hj : X.N[j]? = some y) (hij : i ≠ j) (hx : X.env.scope.names.lookup x = some .local) (hy : X.env.scope.names.lookup y = some .local)
    (ha : PD X p a ma) (hb : PD X p b mb) (hw : swappedStores [.Tuple [.Name x px, .Name y py] kt pt] (.Tuple [a, b] k2 pt2) X.env = pure (some [x, y])) (hs : swapsWithSole [.Tuple [.Name x px, .Name y py] kt pt] (.Tuple [a, b] k2 pt2) pos.line X.env = pure false := by rfl)
    (h1 : starEach [a, b] X.env = (false, eval a X.env) :: starEach [b] X.env := by rfl) (h2 : starEach [b] X.env = (false, eval b X.env) :: starEach [] X.env := by rfl) :
    PSD X p (.Assign [.Tuple [.Name x px, .Name y py] kt pt] (.Tuple [a, b] k2 pt2) pos) (sPar i j ma mb) := by
  obtain ⟨ta, a1, a2⟩ := ha.ex
  obtain ⟨tb, b1, b2⟩ := hb.ex
  refine ⟨_, ps_par S.calm S.nd hi hj hij hx hy (pa_cons a1 (pa_cons b1 pa_nil h2) h1) hw hs, fun B H σ E c P Dn st r m nx rt bk ct => ?_⟩
  refine a2 B H σ E _ _ _ st r m fun d c1 v H1 m1 e1 s1 r1 => ?_
  have st1 := st.go e1 s1
  refine b2 B H1 σ E _ _ _ st1 (r.go st e1) m1 fun d2 c2' v2 H2 m2 e2 s2 r2 => ?_
  have st2 := st1.go e2 s2
  exact ⟨v, v2, rfl, nx _ _ B _ H2 m2 st2 (st.up (e1.trans e2)) ((((r.go st e1).go st1 e2).val S.nf i (r1.tr (st1.up e2))).val S.nf j r2)⟩
/-- a, b = [..], y: the first one owned -/
def sParO (i j : Nat) (a b : XE) : XS := fun E => bnd (a E) fun x => bnd (b E) fun y => match x with
  | .list ds => ret (.nx ((E.set i (.own ds)).set j (.val y)))
  | _ => stuck
end
section
variable {X : Cx} {p : Par} {k : Nat} {K : PySem.W.Frag}
/-- the own list at q is another one -/
theorem own_upd {B : Addr → Prop} {H : Hp} {σ : L2.St} {E : Env} {n : Sx} {i : Nat} {q : Addr} {xs ys : List V} {ds es : List D} (nf : p.fx = none) (ok : p.Ok K X.mg) (r : EnvR K p n B H σ E) (st : St0 p n B H) (hi : E[i]? = some (.own ds)) (hs : σ[i]? = some (some (.ref q))) (hq : H q = some (.lst xs))
    (rs : Reps K (bm p B n) H ys es) : EnvR K p n B (upd H q (.lst ys)) σ (E.set i (.own es)) ∧ St0 p n B (upd H q (.lst ys)) ∧ Tr (bm p B n) H (bm p B n) (upd H q (.lst ys)) := by
  obtain ⟨s, k1, k2⟩ := r.at_ i _ hi
  rw [hs] at k1
  cases k1
  cases k2 with
  | own b n' nc h0 hl z =>
    have ex : Ext (bm p B n) H (upd H q (.lst ys)) := by
      refine ⟨fun a o e nb => ?_, fun a o e im => ?_, fun a nn => ?_⟩
      · have ne : a ≠ q := fun z => nb (by rw [z]; exact .inl b)
        rw [upd_ne ne]
        exact e
      · have ne : a ≠ q := fun z => by
          subst z
          rw [hq] at e
          cases e
          exact im
        rw [upd_ne ne]
        exact e
      · by_cases z : a = q
        · rw [z, upd_same]
          exact fun z => nomatch z
        · rw [upd_ne z]
          exact nn
    refine ⟨⟨by rw [List.length_set]; exact r.len, fun j e he => ?_, fun a b' x zs ws g1 g2 g3 g4 => ?_, .no nf, fun j a zs hp hj => ?_⟩, ⟨st.subc, fun a z => ex.dom a (st.trk a z), ?_, ?_, st.old⟩, .of ex⟩
    · rcases getElem?_set_cases he with ⟨rfl, hl', rfl⟩ | ⟨ne, he⟩
      · exact ⟨_, hs, .own b n' nc h0 upd_same (rs.mono ex)⟩
      · obtain ⟨s', g1, g2⟩ := r.at_ j e he
        refine ⟨s', g1, ?_⟩
        cases g2 with
        | unk _ => exact .unk _
        | val z => exact .val (z.mono ex)
        | @own a2 _ _ b2 n2 nc2 h02 hl2 z2 =>
          have na : a2 ≠ q := fun z => ne (r.nd i j q _ _ hi he hs (by rw [← z]; exact g1))
          exact .own b2 n2 nc2 h02 (by rw [upd_ne na]; exact hl2) (z2.mono ex)
        | stm => exact .stm
        | scr z => exact .scr fun H2 hk => z H2 fun o ho him => hk o (ex.imm _ o ho him) him
    · rcases getElem?_set_cases g1 with ⟨rfl, _, _⟩ | ⟨n1, g1⟩
      · rcases getElem?_set_cases g2 with ⟨rfl, _, _⟩ | ⟨n2, g2⟩
        · rfl
        · exact r.nd _ _ x _ _ hi g2 g3 g4
      · rcases getElem?_set_cases g2 with ⟨rfl, _, _⟩ | ⟨n2, g2⟩
        · exact r.nd _ _ x _ _ g1 hi g3 g4
        · exact r.nd _ _ x _ _ g1 g2 g3 g4
    · rcases getElem?_set_cases hj with ⟨rfl, _, _⟩ | ⟨n1, hj⟩
      · exact r.pn _ a _ hp hi
      · exact r.pn j a zs hp hj
    · refine ok.stab n H _ st.si (fun a o ha e => ?_) ex.imm
      have na : a ≠ q := fun z => n' (by rw [← z]; exact ha)
      rw [upd_ne na]
      exact e
    · refine ⟨⟨fun a o e nb => ?_, fun a o e im => ex.imm a o (st.ext.ext.imm a o e im) im, fun a nn => ex.dom a (st.ext.ext.dom a nn)⟩, st.ext.up, st.ext.old, fun g a z => ex.dom a (st.ext.dom g a z)⟩
      have na : a ≠ q := fun z => by
        subst z
        rw [h0] at e
        cases e
      rw [upd_ne na]
      exact st.ext.ext.keep a o e nb
theorem own_at {B : Addr → Prop} {n : Sx} {H : Hp} {σ : L2.St} {E : Env} {i : Nat} {ds : List D} (r : EnvR K p n B H σ E) (hi : E[i]? = some (.own ds)) : ∃ q xs, σ[i]? = some (some (.ref q)) ∧ B q ∧ ¬ p.B0 n q ∧ H q = some (.lst xs) ∧ Reps K (bm p B n) H xs ds := by
  obtain ⟨s, k1, k2⟩ := r.at_ i _ hi
  cases k2 with
  | own b n nc h0 hl z => exact ⟨_, _, k1, b, n, hl, z⟩
/-- xs.append(e) -/
theorem sd_app {cb : Bool} (S : SitB cb true X p k) (i : Nat) {x : Str} {e : Expr} {me : XE} {px pa pc pos : Pos} (he : PD X p e me)
    (hpe : ∀ {te : TE}, PE X e te → PE X (.Call (.Attribute (.Name x px) "append" pa) [e] [] pc) (tBM X.K "list" rAppend (tVar i) (tCons te tNil)))
    (hs : swapsWith (.Call (.Attribute (.Name x px) "append" pa) [e] [] pc) none pos.line X.env = pure false := by rfl) :
    PSD X p (.Expr (.Call (.Attribute (.Name x px) "append" pa) [e] [] pc) pos) (sApp i me) := by
  obtain ⟨te, a1, a2⟩ := he.ex
  refine ⟨_, ps_expr (hpe a1) hs, fun B H σ E c P Dn st r m nx rt bk ct => ?_⟩
  have m' : (match E[i]? with | some (.own ds) => bnd (me E) fun d => grd (small ds.length) (ret (Out.nx (E.set i (.own (ds ++ [d]))))) | _ => stuck) c P p.XP := m
  cases h : E[i]? with
  | none => rw [h] at m'; exact m'.elim
  | some y =>
    rw [h] at m'
    cases y with
    | own ds =>
      obtain ⟨q, xs, hsq, hb, hn, hl, rs⟩ := own_at r h
      refine ⟨.ref q, hsq, .inl ⟨rfl, xs, SqL.of hl⟩, ?_⟩
      refine a2 B H σ E _ _ _ st r m' fun d c1 v H1 m1 e1 s1 r1 => ?_
      have st1 := st.go e1 s1
      have rr := r.go st e1
      have hl1 := e1.ext.keep _ _ hl hn
      have rs1 := rs.tr (st.up e1)
      obtain ⟨g1, g2, g3⟩ := own_upd (ys := xs ++ [v]) (es := ds ++ [d]) S.nf S.ok rr st1 h hsq hl1 (rs1.append (.cons r1 .nil))
      exact ⟨q, xs, v, rfl, rfl, hl1, by rw [rs.length]; exact small_lt m1.1, nx _ _ _ _ _ m1.2 g2 ((st.up e1).trans g3) g1⟩
    | _ => exact m'.elim
end
end DL
end
section
namespace DL
open PySem PySem.Spec PyProof.Rows L2
section
variable {X : Cx} {p : Par} {k : Nat} {K : PySem.W.Frag}
theorem less_tr {B : Addr → Prop} {n : Sx} {H : Hp} {q : Addr} : Tr (bm p B n) H (bm p (less B q) n) H := ⟨Ext.refl, fun a z _ => z.imp (fun z => z.1) id⟩
theorem sd_rel {cb : Bool} (S : SitB cb true X p k) (i : Nat) {s : Stmt} {m : XS} (h : PSD X p s m) : PSD X p s (sRel i m) := by
  obtain ⟨ts, a1, a2⟩ := h.ex
  refine ⟨ts, a1, fun B H σ E c P Dn st r mm nx rt bk ct => ?_⟩
  have m' : (match E[i]? with | some (.own ds) => m (E.set i (.val (.list ds))) | _ => m E) c P p.XP := mm
  cases q : E[i]? with
  | none => rw [q] at m'; exact a2 B H σ E _ P Dn st r m' nx rt bk ct
  | some y =>
    rw [q] at m'
    cases y with
    | own ds =>
      obtain ⟨w, r1, st1, _, _, _⟩ := r.rel S.nf st q
      exact a2 (less B w) H σ _ _ P Dn st1 r1 m' (fun E2 c2' B2 σ2 H2 m2 st2 t2 r2 => nx E2 c2' B2 σ2 H2 m2 st2 (less_tr.trans t2) r2) rt (fun E2 c2' B2 σ2 H2 m2 st2 t2 r2 => bk E2 c2' B2 σ2 H2 m2 st2 (less_tr.trans t2) r2) (fun E2 c2' B2 σ2 H2 m2 st2 t2 r2 => ct E2 c2' B2 σ2 H2 m2 st2 (less_tr.trans t2) r2)
    | _ => exact a2 B H σ E _ P Dn st r m' nx rt bk ct
/-- within a comprehension: no error may leave -/
def Par.quiet (p : Par) : Par := { p with XP := fun _ _ => False, EK := fun _ _ _ _ => False, fx := none }
theorem EvB.quiet {c c' : Sx} {H H' : Hp} (e : Ev p c H c' H') : Ev p.quiet c H c' H' := ⟨e.ext, e.up, e.old, e.dom⟩
theorem EvB.loud {c c' : Sx} {H H' : Hp} (e : Ev p.quiet c H c' H') : Ev p c H c' H' := ⟨e.ext, e.up, e.old, e.dom⟩
theorem St0.quiet {n : Sx} {B : Addr → Prop} {H : Hp} (s : St0 p n B H) : St0 p.quiet n B H := ⟨s.subc, s.trk, s.si, s.ext.quiet, s.old⟩
theorem St0.loud {n : Sx} {B : Addr → Prop} {H : Hp} (s : St0 p.quiet n B H) : St0 p n B H := ⟨s.subc, s.trk, s.si, s.ext.loud, s.old⟩
theorem Slot.quiet {n : Sx} {B : Addr → Prop} {H : Hp} {x : Option V} {y : Ent} (s : Slot K p n B H x y) : Slot K p.quiet n B H x y := by
  cases s with
  | unk _ => exact .unk _
  | val r => exact .val r
  | own b n nc h0 hl r => exact .own b n nc h0 hl r
  | stm => exact .stm (p := p.quiet)
  | scr q => exact .scr q
theorem EnvR.quiet {n : Sx} {B : Addr → Prop} {H : Hp} {σ : L2.St} {E : Env} (r : EnvR K p n B H σ E) : EnvR K p.quiet n B H σ E :=
  ⟨r.len, fun i e q => let ⟨s, h1, h2⟩ := r.at_ i e q; ⟨s, h1, h2.quiet⟩, r.nd, .no rfl, r.pn⟩
theorem SitB.quiet {cb vb : Bool} (S : SitB cb vb X p k) {s : Shared} {H : Hp} {scope : Scope} {cenv : PySem.Env} {fp : List Addr} : SitB cb true (X.blk s H scope cenv fp) p.quiet k :=
  ⟨S.calm_, S.gd, S.rm, S.nd, ⟨S.ok.stab, fun _ _ _ _ _ _ _ _ _ _ _ h => h.elim⟩, PassesOwn.never, takes0D, fun _ => rfl, S.sm⟩
theorem compL_drop {t : Tg} {mt : XT} {me : XE} {ds acc : List D} {i : Nat} {d : D} (h : ds[i]? = some d) (E : Env) : compL t mt me (ds.drop i) acc E = match t.put d E with
    | none => stuck
    | some E1 => bnd (mt E1) fun c => if c = true then bnd (me E1) fun y => grd (small acc.length) (compL t mt me (ds.drop (i + 1)) (acc ++ [y]) E) else compL t mt me (ds.drop (i + 1)) acc E := by
  obtain ⟨hl, e⟩ := List.getElem?_eq_some_iff.mp h
  rw [List.drop_eq_getElem_cons hl, e]
  rfl
/-- the state's places and one new place -/
def plusQ (p : Par) (n : Sx) (q : Addr) : Addr → Prop := fun a => p.B0 n a ∨ a = q
structure EvQ (p : Par) (q : Addr) (n : Sx) (H : Hp) (n' : Sx) (H' : Hp) : Prop where
  ext : Ext (plusQ p n q) H H'
  up : ∀ a, p.B0 n a → p.B0 n' a
  old : ∀ a, p.B0 n' a → H a ≠ none → p.B0 n a
  dom : (∀ a, p.B0 n a → H a ≠ none) → ∀ a, p.B0 n' a → H' a ≠ none
theorem EvB.q {n n' : Sx} {H H' : Hp} {q : Addr} (e : Ev p n H n' H') : EvQ p q n H n' H' := ⟨e.ext.more fun a z => .inl z, e.up, e.old, e.dom⟩
theorem EvQ.trans {c c' c'' : Sx} {H H' H'' : Hp} {q : Addr} (a : EvQ p q c H c' H') (b : EvQ p q c' H' c'' H'') : EvQ p q c H c'' H'' where
  ext := ⟨fun x o e n => b.ext.keep x o (a.ext.keep x o e n) fun z => n (z.imp (fun z => a.old x z (some_ne e)) id), fun x o e i => b.ext.imm x o (a.ext.imm x o e i) i, fun x n => b.ext.dom x (a.ext.dom x n)⟩
  up := fun x h => b.up x (a.up x h)
  old := fun x z n => a.old x (b.old x z (a.ext.dom x n)) n
  dom := fun q => b.dom (a.dom q)
theorem EvQ.of {n : Sx} {H H' : Hp} {q : Addr} (e : Ext (plusQ p n q) H H') : EvQ p q n H n H' := ⟨e, fun _ z => z, fun _ z _ => z, fun g a z => e.dom a (g a z)⟩
theorem EvQ.ev {n n' : Sx} {H H' : Hp} {q : Addr} (hq : H q = none) (e : EvQ p q n H n' H') : Ev p n H n' H' :=
  ⟨⟨fun a o h n => e.ext.keep a o h (fun z => z.elim n (fun z => absurd (z ▸ h) (by rw [hq]; exact fun z => nomatch z))), e.ext.imm, e.ext.dom⟩, e.up, e.old, e.dom⟩
theorem tr_q {n n' : Sx} {B : Addr → Prop} {H H' : Hp} {q : Addr} (_ : St0 p n B H) (hq : H q = none) (e : EvQ p q n H n' H') : Tr (bm p B n) H (bm p (more B q) n') H' :=
  ⟨(e.ev hq).tr.ext, fun a z nn => by
    rcases z with (z | z) | z
    · exact .inl z
    · exact absurd (z ▸ hq) nn
    · exact .inr (e.old a z nn)⟩
theorem st_q {n n' : Sx} {B : Addr → Prop} {H H' : Hp} {q : Addr} (st : St0 p n B H) (hq : H q = none) (e : EvQ p q n H n' H') (si : p.SI n' H') (hn : H' q ≠ none) : St0 p n' (more B q) H' := by
  have s' := st.go (e.ev hq) si
  refine ⟨fun a z => (s'.subc a z).imp .inl id, fun a z => ?_, si, s'.ext, fun a b h => b.elim (fun z => s'.old a z h) fun z => absurd hq (st.ext.ext.dom q (z ▸ h))⟩
  rcases z with (z | z) | z
  · exact s'.trk a (.inl z)
  · rw [z]
    exact hn
  · exact s'.trk a (.inr z)
theorem env_q0 (nf : p.fx = none) {n n' : Sx} {B : Addr → Prop} {H H' : Hp} {q : Addr} {σ : L2.St} {E : Env} (r : EnvR K p n B H σ E) (st : St0 p n B H) (hq : H q = none) (e : EvQ p q n H n' H') : EnvR K p n' (more B q) H' σ E := by
  have em : Tr (bm p (more B q) n) H (bm p (more B q) n') H' := (e.ev hq).tr
  refine ⟨r.len, fun i x h => ?_, r.nd, .no nf, r.pn⟩
  obtain ⟨s, k1, k2⟩ := r.at_ i x h
  refine ⟨s, k1, ?_⟩
  cases k2 with
  | unk _ => exact .unk _
  | val z => exact .val ((rep_more hq z).tr em)
  | own b n' nc h0 hl z => exact .own (.inl b) (fun z => n' (e.old _ z (some_ne hl))) nc h0 ((e.ev hq).ext.keep _ _ hl n') ((reps_more hq z).tr em)
  | stm => exact .stm
  | scr z => exact .scr fun H2 hk => z H2 fun o ho hi => hk o (e.ext.imm _ o ho hi) hi
theorem env_q {n n' : Sx} {B : Addr → Prop} {H H' : Hp} {q : Addr} {σ : L2.St} {E : Env} (r : EnvR K p n B H σ E) (st : St0 p n B H) (hq : H q = none) (e : EvQ p q n H n' H') : EnvR K p.quiet n' (more B q) H' σ E :=
  env_q0 (p := p.quiet) rfl r.quiet st.quiet hq ⟨e.ext, e.up, e.old, e.dom⟩
theorem upd_q {B : Addr → Prop} {H : Hp} {q : Addr} {xs ys : List V} (b : B q) (hq : H q = some (.lst xs)) : Ext B H (upd H q (.lst ys)) := by
  refine ⟨fun a o e nb => ?_, fun a o e im => ?_, fun a nn => ?_⟩
  · have ne : a ≠ q := fun z => nb (by rw [z]; exact b)
    rw [upd_ne ne]
    exact e
  · have ne : a ≠ q := fun z => by
      subst z
      rw [hq] at e
      cases e
      exact im
    rw [upd_ne ne]
    exact e
  · by_cases z : a = q
    · rw [z, upd_same]
      exact fun z => nomatch z
    · rw [upd_ne z]
      exact nn
theorem ev_comp {cb : Bool} {vb : Bool} (S : SitB cb vb X p k) {wi : TI} {t : Tg} {mi : XA} {mt : XT} {me : XE} {vs : List Nat}
    (hi : ∀ (B : Addr → Prop) (H : Hp) (σ : L2.St) (E : Env) (c : Sx) (P : List D → Sx → Prop) (R : It → Hp → Prop), St0 p c B H → EnvR X.K p c B H σ E → mi E c P p.XP →
      (∀ ds c' J H', P ds c' → Ev p c H c' H' → p.SI c' H' → WalkD X.K (bm p B c') H' J ds → R J H') → wi σ H R) (hx : ∀ j ∈ t.ix, j ∈ vs) :
    EvF X.K p (tLc wi (gOf X.K t) (ttOf X.K p.quiet mt) (teOf X.K p.quiet me) vs) (eComp mi t mt me vs) := by
  intro B H σ E c P Q st r m kk
  refine hi B H σ E _ _ _ st r m fun ds c1 J H1 m1 e1 s1 w => ?_
  have st1 := st.go e1 s1
  intro q hq
  have q0 := q_new st1 e1 hq
  obtain ⟨G, g0, g1, wk⟩ := w.ex
  have r1 := r.go st e1
  have x0 : EvQ p q c1 H1 c1 (upd H1 q (.lst [])) := .of (All.new hq).ext
  refine lc_it wk (fun i H' => ∃ acc accD c', H' q = some (.lst acc) ∧ Reps X.K (bm p (more B q) c') H' acc accD ∧ p.SI c' H' ∧ (¬ p.B0 c' q ∧ EvQ p q c1 H1 c' H') ∧ compL t mt me (ds.drop i) accD (wipeE E vs) c' (fun ys n => P (.list ys) n) (fun _ _ => False))
    ⟨[], [], c1, upd_same, .nil, st1.all S.ok (All.new hq), ⟨q0.2, x0⟩, m1⟩ (fun i H' _ ⟨acc, accD, c', h1, h2, h3, h4, h5⟩ => g1 _ H' (tr_q st1 hq h4.2)) ?_ ?_
  · rintro i x H' H'' hi' ⟨acc, accD, c', h1, h2, h3, ⟨nq, h4⟩, h5⟩ ⟨al, y⟩
    have stq := st_q st1 hq h4 h3 (by rw [h1]; exact fun z => nomatch z)
    obtain ⟨d, hd, rd⟩ := y _ (tr_q st1 hq h4) stq.trk
    rw [compL_drop hd] at h5
    cases hp : t.put d (wipeE E vs) with
    | none => rw [hp] at h5; exact h5.elim
    | some E1 =>
      rw [hp] at h5
      have h4' : EvQ p q c1 H1 c' H'' := h4.trans (All.ev (Z := p.B0) al).q
      have s'' : p.SI c' H'' := stq.all S.ok al
      have hq'' : H'' q = some (.lst acc) := al q _ h1
      have stq2 := st_q st1 hq h4' s'' (by rw [hq'']; exact fun z => nomatch z)
      have rq2 := env_q r1 st1 hq h4'
      refine gOf_put rfl (rq2.wipe rfl vs) rd hp _ fun σ2 g2 gl gx => ?_
      refine ⟨?_, ?_⟩
      · exact (wipe_same gl fun j hj => gx j fun z => hj (hx j z)).trans (wipe_wipe σ vs)
      · refine ⟨more B q, E1, c', _, stq2.quiet, g2, h5, fun b c2 H3 m3 e3 s3 => ?_⟩
        have h43 : EvQ p q c1 H1 c2 H3 := h4'.trans e3.loud.q
        have nq3 : ¬ p.B0 c2 q := fun z => nq (e3.old q z (some_ne hq''))
        have hq3 : H3 q = some (.lst acc) := e3.ext.keep q _ hq'' nq
        have rs3 : Reps X.K (bm p (more B q) c2) H3 acc accD := (h2.mono al.ext).tr (stq2.up e3.loud)
        cases b with
        | false => exact ⟨acc, accD, c2, hq3, rs3, s3, ⟨nq3, h43⟩, m3⟩
        | true =>
          have stq3 := st_q st1 hq h43 s3 (by rw [hq3]; exact fun z => nomatch z)
          refine ⟨more B q, E1, c2, _, stq3.quiet, g2.go stq2.quiet e3, m3, fun y c4 v H4 m4 e4 s4 r4 => ?_⟩
          have h44 : EvQ p q c1 H1 c4 H4 := h43.trans e4.loud.q
          have nq4 : ¬ p.B0 c4 q := fun z => nq3 (e4.old q z (some_ne hq3))
          have hq4 : H4 q = some (.lst acc) := e4.ext.keep q _ hq3 nq3
          have rs4 := rs3.tr (stq3.up e4.loud)
          have x5 : Ext (plusQ p c4 q) H4 (upd H4 q (.lst (acc ++ [v]))) := upd_q (.inr rfl) hq4
          have x5' : Ext (bm p (more B q) c4) H4 (upd H4 q (.lst (acc ++ [v]))) := upd_q (.inl (.inr rfl)) hq4
          refine ⟨acc, hq4, by rw [rs4.length]; exact small_lt m4.1, acc ++ [v], accD ++ [y], c4, upd_same, (rs4.append (.cons r4 .nil)).mono x5', ?_, ⟨nq4, h44.trans (.of x5)⟩, m4.2⟩
          refine S.ok.stab c4 H4 _ s4 (fun a o ha e => ?_) x5.imm
          have na : a ≠ q := fun z => nq4 (by rw [← z]; exact ha)
          rw [upd_ne na]
          exact e
  · rintro H' ⟨acc, accD, c', h1, h2, h3, ⟨nq, h4⟩, h5⟩
    rw [List.drop_length] at h5
    exact kk accD c' q acc H' h5 (e1.trans (h4.ev hq)) h3 ⟨q0.1, nq⟩ h1 h2
theorem pf_comp {vb : Bool} (S : SitB true vb X p k) {elt tg iter : Expr} {ifs : List Expr} {scope : Scope} {pos : Pos} {t : Tg} {mi : XA} {mt : XT} {me : XE} (own : List (Str × Nat)) (hi : PDI X p tg iter mi) (ok : BlkOk X.N X.env.scope scope own) (hx : ∀ j ∈ t.ix, j ∈ own.map (·.2))
    (hg : ∀ (s : Shared) (H : Hp) (C : Addr) (cl : List (Str × Addr)) (fp : List Addr), PG (X.blk s H scope (compEnvC scope cl C X.env) fp) tg (gOf X.K t))
    (ht : ∀ (s : Shared) (H : Hp) (C : Addr) (cl : List (Str × Addr)) (fp : List Addr), Sit (X.blk s H scope (compEnvC scope cl C X.env) fp) p.quiet k → PDTs (X.blk s H scope (compEnvC scope cl C X.env) fp) p.quiet ifs mt)
    (he : ∀ (s : Shared) (H : Hp) (C : Addr) (cl : List (Str × Addr)) (fp : List Addr), Sit (X.blk s H scope (compEnvC scope cl C X.env) fp) p.quiet k → PD (X.blk s H scope (compEnvC scope cl C X.env) fp) p.quiet elt me)
    (hs : ∀ x, foldedSetIterable iter X.env x = pure x := by intro _; rfl) : PDF X p (.ListComp elt [⟨tg, iter, ifs, 0⟩] scope pos) (eComp mi t mt me (own.map (·.2))) := by
  obtain ⟨wi, a1, a2⟩ := hi.ex
  exact ⟨_, pe_lc (tt := ttOf X.K p.quiet mt) (te := teOf X.K p.quiet me) S.calm S.nd a1 ok hg (fun s H C cl fp => (ht s H C cl fp S.quiet).pts) (fun s H C cl fp => (he s H C cl fp S.quiet).pe) hs, ev_comp S a2 hx⟩
/-- name = [..]: the name a local; w: owned -/
theorem sd_comp (S : SitB true true X p k) {i : Nat} {y : Str} {py spos : Pos} {elt tg iter : Expr} {ifs : List Expr} {scope : Scope} {pos : Pos} {t : Tg} {mi : XA} {mt : XT} {me : XE} (own : List (Str × Nat)) (hy : X.N[i]? = some y) (hyl : X.env.scope.names.lookup y = some .local)
    (hsw : swapsWith (.ListComp elt [⟨tg, iter, ifs, 0⟩] scope pos) (some (.Name y py)) spos.line X.env = pure true) (hi : PDI X p tg iter mi) (ok : BlkOk X.N X.env.scope scope own) (hx : ∀ j ∈ t.ix, j ∈ own.map (·.2))
    (hg : ∀ (s : Shared) (H : Hp) (C : Addr) (cl : List (Str × Addr)) (fp : List Addr), PG (X.blk s H scope (compEnvC scope cl C X.env) fp) tg (gOf X.K t))
    (ht : ∀ (s : Shared) (H : Hp) (C : Addr) (cl : List (Str × Addr)) (fp : List Addr), Sit (X.blk s H scope (compEnvC scope cl C X.env) fp) p.quiet k → PDTs (X.blk s H scope (compEnvC scope cl C X.env) fp) p.quiet ifs mt)
    (he : ∀ (s : Shared) (H : Hp) (C : Addr) (cl : List (Str × Addr)) (fp : List Addr), Sit (X.blk s H scope (compEnvC scope cl C X.env) fp) p.quiet k → PD (X.blk s H scope (compEnvC scope cl C X.env) fp) p.quiet elt me)
    (hs : ∀ x, foldedSetIterable iter X.env x = pure x := by intro _; rfl) : PSD X p (.Assign [.Name y py] (.ListComp elt [⟨tg, iter, ifs, 0⟩] scope pos) spos) (sAsg i (eComp mi t mt me (own.map (·.2)))) := by
  obtain ⟨wi, a1, a2⟩ := hi.ex
  exact ⟨_, ps_setLc (tt := ttOf X.K p.quiet mt) (te := teOf X.K p.quiet me) S.calm S.nd hy hyl hsw a1 ok hg (fun s H C cl fp => (ht s H C cl fp S.quiet).pts) (fun s H C cl fp => (he s H C cl fp S.quiet).pe) hs, sr_asg S.nf (ev_comp S a2 hx).ev⟩
end
end DL
end
section
namespace DL
open PySem PySem.Spec PyProof.Rows L2
/-- a def of the module, without defaults; .. with keyword-only ones -/
abbrev FnPk (K : PySem.W.Frag) (x qual : Str) (st : Stmt) (kws : List (Str × V)) (f : Addr) (fd : FuncData) : Prop := FunD K x qual (defArgs st) (defBody st) (defScope st) [] kws f fd
abbrev FnP (K : PySem.W.Frag) (x qual : Str) (st : Stmt) (f : Addr) (fd : FuncData) : Prop := FnPk K x qual st [] f fd
/-- a def keeps its promise wherever no repr is under way -/
structure FnG (cb : Bool) (P : Program) (w : World) (K : PySem.W.Frag) (mg : Str → Option Value) (base : Heap) (k : Nat) (f : Addr) (fd : FuncData) (ps : List Str) (sp : Sp) : Prop where
  len : ∀ vs H Q E, sp vs H Q E → vs.length = ps.length
  go : ∀ (A : Around) (outer : List PySem.Env) (s : Shared) (H : Hp) (args : Args) (us : List Value) (vs : List V) (Q : VK) (E : XK), RoomB cb k A → A.guards = some [] → Env0 P w K mg base A outer s H →
    BindsTo s fd args (ps.zip us) → Vals vs us → sp vs H Q E → codeAny (model P w) A (.call (.ref f) args) (CR (CXd K P w) outer P w H s Q E) s
section
variable {P : Program} {w : World} {K : PySem.W.Frag} {mg : Str → Option Value} {base : Heap} {cb : Bool}
theorem FnG.mono {j k : Nat} {f : Addr} {fd : FuncData} {ps : List Str} {sp : Sp} (F : FnG cb P w K mg base j f fd ps sp) (h : j ≤ k) : FnG cb P w K mg base k f fd ps sp :=
  ⟨F.len, fun A outer s H args us vs Q E hr => F.go A outer s H args us vs Q E (hr.mono h)⟩
/-- a body's context; cb: nothing is handled -/
abbrev bodyX (cb : Bool) (P : Program) (w : World) (K : PySem.W.Frag) (mg : Str → Option Value) (base : Heap) (N : List Str) (qual : Str) (st : Stmt) (f : Addr) (cdv : Value) (A : Around) (outer : List PySem.Env) (s : Shared) (H : Hp) (E : XK) : Cx :=
  { cxOf (CXd K P w) P w K mg base N qual (defScope st) f cdv A outer s H E with calm := cb }
/-- .. at its start, also where something is handled -/
theorem inv_cool {cb : Bool} {A A' : Around} {N : List Str} {qual : Str} {st : Stmt} {f : Addr} {cdv : Value} {outer : List PySem.Env} {s s1 : Shared} {H : Hp} {E : XK} {σ : L2.St} (hc : cb = true → A.handled = none) (hf : A.frames = A'.frames)
    (I : Inv (cxOf (CXd K P w) P w K mg base N qual (defScope st) f cdv A' outer s H E) [] σ H s1) : Inv (bodyX cb P w K mg base N qual st f cdv A outer s H E) [] σ H s1 := by
  have k := I.ok
  have fr : (A.deeper (envOfC qual (defScope st) s.heap.objs.size f cdv)).frames = some (envOfC qual (defScope st) s.heap.objs.size f cdv :: outer) := by
    have e1 : (A'.deeper (envOfC qual (defScope st) s.heap.objs.size f cdv)).frames = some (envOfC qual (defScope st) s.heap.objs.size f cdv :: outer) := k.frames
    have e2 : ∀ B : Around, (B.deeper (envOfC qual (defScope st) s.heap.objs.size f cdv)).frames = B.frames.map (envOfC qual (defScope st) s.heap.objs.size f cdv :: ·) := fun B => rfl
    rw [e2] at e1 ⊢
    rw [hf]
    exact e1
  exact ⟨⟨k.mod, k.kind, k.glob, k.blt, k.above, k.inj, k.has, k.cab, hc, fr, k.stk, k.exf, k.bs, k.bsz, k.noex, k.exfs, k.funs, k.frf⟩, I.os, I.bare, I.base, I.loc, I.cell, I.free, I.freeC, I.pin, I.hok, I.len⟩
/-- a def by its body -/
theorem fnG_body {x qual : Str} {st : Stmt} {f : Addr} {fd : FuncData} {N ps : List Str} {k : Nat} {sp : Sp} {kws : List (Str × V)} (F : FnPk K x qual st kws f fd) (S : FnScope N ps (defScope st)) (len : ∀ vs H Q E, sp vs H Q E → vs.length = ps.length)
    (body : ∀ (cdv : Value) (A : Around) (outer : List PySem.Env) (s : Shared) (H : Hp) (vs : List V) (Q : VK) (E : XK), RoomB cb k (A.deeper (envOfC qual (defScope st) s.heap.objs.size f cdv)) → (A.deeper (envOfC qual (defScope st) s.heap.objs.size f cdv)).guards = some [] → sp vs H Q E →
      ∃ t, PSs (bodyX cb P w K mg base N qual st f cdv A outer s H E) (defBody st) t ∧ t { nx := fun _ H' => Q .non H', rt := Q } (L2.start N vs) H) : FnG cb P w K mg base (k + 1) f fd ps sp := by
  obtain ⟨oc, od, dV, kV, doc, pm, an, cdv, ct, osl, rfl, lk, hcd, _, _⟩ := F.ex
  refine ⟨len, fun A outer s H args us vs Q E hr hgd e0 hb rv hsp => ?_⟩
  have lengths := len vs H Q E hsp
  have inHeap : K.In s.heap := e0.mod.kin.keeps (fun b o q => (e0.bs b o q).1)
  have noLimit : s.heap.NoLimit := e0.mod.nolimit.keeps (fun b o q => (e0.bs b o q).1)
  refine codeAny_call_function hr.depth (inHeap f _ lk) rfl S.co S.gen rfl (PySem.W.codeRec_of inHeap hcd) (hb _ _ _ _ ?_)
  refine wpAny_newFunctionEnv_cells S.kind (fun y hy => ?_) (fun env henv s1 entered => ?_)
  · obtain ⟨n, v⟩ := y
    rcases S.par n (List.of_mem_zip hy).1 with hl | hc
    · exact Or.inl hl
    · exact Or.inr ⟨hc, PySem.W.cellsFrom_some _ _ _ (Or.inl hc)⟩
  · subst henv
    refine ⟨noLimit.keeps entered.toInCall.keep, codeAny_func ?_⟩
    obtain ⟨t, ht, hq⟩ := body cdv A outer s H vs Q E (hr.deeper _) hgd hsp
    have e1 : Env0 P w K mg base ({ A with handled := none }) outer s H := ⟨e0.frames, e0.mod, e0.bs, e0.bsz, e0.funs, e0.frf, e0.hok, e0.bare⟩
    have J0 := inv_cool (A := A) (cb := cb) hr.hd_ rfl (A' := { A with handled := none }) (inv_start (A := { A with handled := none }) (CX := CXd K P w) (P := P) (w := w) (mg := mg) (base := base) (E := E) S rfl e1 lengths rv entered)
    refine wpAny_mono (ht.run [] s1 (L2.start N vs) H _ J0 hq) (fun fl s' done => ?_) (fun _ _ left => left)
    cases fl with
    | brk => obtain ⟨_, _, _, no⟩ := done; exact no.elim
    | cont => obtain ⟨_, _, _, no⟩ := done; exact no.elim
    | next =>
      obtain ⟨σ', H', J, q⟩ := done
      exact ⟨V.non, H', J.os, J.bare, J.base, J.hok, rfl, q⟩
    | ret u =>
      obtain ⟨v, σ', H', J, r, q⟩ := done
      exact ⟨v, H', J.os, J.bare, J.base, J.hok, r, q⟩
end
section
variable {X : Cx} {p : Par} {k : Nat} {cb vb : Bool}
/-- the callee runs; what it may let out is taken -/
theorem run_G {pins : List (Addr × Obj)} {σ : L2.St} {H : Hp} {s : Shared} {Q : VK} {us : List Value} {vs : List V} {f : Addr} {fd : FuncData} {ps : List Str} {sp : Sp} {E : XK} (F : FnG cb X.prog X.w X.K X.mg X.base k f fd ps sp) (hr : RoomB cb k X.A) (hg : X.A.guards = some []) (hb : Binds X.K fd ps [])
    (hx : PassesAt (CXd X.K X.prog X.w) X σ E) (I : Inv X pins σ H s) (r : Vals vs us) (h : sp vs H Q E) : wpAny (model X.prog X.w) X.A (call (.ref f) us) (EP X pins σ Q) X.xe s := by
  have hl : us.length = ps.length := r.length.symm.trans (F.len vs H Q E h)
  have bound := hb s us I.kIn (by rw [List.append_nil]; exact hl)
  rw [List.append_nil] at bound
  refine wpAny_call (codeAny_mono (F.go X.A X.stack s H ⟨us, []⟩ us vs Q E hr hg I.env0 bound r h) (fun res s' hq => ?_))
  match res, hq with
  | .error e, hq => exact hx pins H s e s' I hq
  | .ok (.ret u), hq => exact I.after hq
  | .ok .next, hq => exact hq.elim
  | .ok .brk, hq => exact hq.elim
  | .ok .cont, hq => exact hq.elim
theorem pe_G {f : Addr} {fd : FuncData} {ps : List Str} {sp : Sp} {E : L2.St → XK} {x : Str} {pn pos : Pos} {e : Expr} {es : List Expr} {t : TA} (F : FnG cb X.prog X.w X.K X.mg X.base k f fd ps sp) (hr : RoomB cb k X.A) (hgd : X.A.guards = some []) (hm : X.mg x = some (.ref f)) (hk : PySem.W.keepIn X.K (.ref f) = true)
    (hb : Binds X.K fd ps []) (hx : ∀ σ, PassesAt (CXd X.K X.prog X.w) X σ (E σ)) (ha : PA X (e :: es) t) (hg : Gl X x := by rfl) (hdb : (x == ("__debug__" : Str)) = false := by decide) (he : starEach (e :: es) X.env = (false, eval e X.env) :: starEach es X.env := by rfl)
    (hpl : (backTo pos (starEach es X.env)).any (·.1) = false := by rfl) : PE X (.Call (.Name x pn) (e :: es) [] pos) (tCallSD sp [] E t) := by
  refine ⟨fun pins s σ H Q I h => wpAny_Call_Name_kw (ld_glob I hg hm ?_ hdb)⟩
  refine PySem.W.callWith_K (h₀ := X.base) I.ok.mod.kin hk (thn (ha.run pos pins s σ H _ I h) ?_) he hpl
  rintro us s1 ⟨vs, H1, I1, r1, q1⟩
  rw [List.append_nil] at q1
  exact ⟨I1.kIn, run_G F hr hgd hb (hx σ) I1 r1 q1⟩
end
theorem exrep_go {K : PySem.W.Frag} {mg : Str → Option Value} {B B' : Addr → Prop} {H : Hp} {x : Exn} {c : Value} {d : Option Addr} (h : ∀ a, B' a → B a) (r : ExRep K mg B H x c d) : ExRep K mg B' H x c d := by
  obtain ⟨h1, h2, h3⟩ := r
  refine ⟨h1, h2, ?_⟩
  obtain ⟨xc, xf⟩ := x
  match xf, h3 with
  | [], h3 => exact h3
  | [(f, y)], ⟨dd, v, e1, e2, e4, e3⟩ => exact ⟨dd, v, e1, e2, fun z => e4 (h _ z), e3.less h⟩
  | _ :: _ :: _, h3 => exact h3
/-- a def that draws nothing: it does what m does of its arguments -/
def spF (K : PySem.W.Frag) (mg : Str → Option Value) (m : Fn) : Sp := fun vs H Q EK => ∃ (B : Addr → Prop) (ds : List D) (c : Sx) (P : D → Sx → Prop) (XP : Exn → Sx → Prop),
  (∀ a, B a → H a ≠ none) ∧ Reps K B H vs ds ∧ m ds c P XP ∧ (∀ d v H', P d c → All H H' → Rep K B H' v d → Q v H') ∧ ∀ x cl dd H', XP x c → All H H' → ExRep K mg B H' x cl dd → EK cl dd H'
/-- the stream at S: its large cells at L, its cells at C -/
def strB (S L C : Addr) : Addr → Prop := fun a => a = S ∨ a = L ∨ a = C
structure StrI (S L C : Addr) (c : Nat) (H : Hp) : Prop where
  sl : S ≠ L
  sc : S ≠ C
  lc : L ≠ C
  ex : ∃ (ls cs : List Int) (t : Nat), t ≤ c ∧ H S = some (.lst [.ref L, .ref C, .int t]) ∧ H L = some (.lst (ls.map V.int)) ∧ H C = some (.lst (cs.map V.int)) ∧ cs ≠ [] ∧ (∀ x ∈ ls, 0 ≤ x) ∧ (∀ x ∈ cs, 0 ≤ x) ∧ cs.length ≤ 1000
theorem StrI.at_ {S L C a : Addr} {c : Nat} {H : Hp} (h : StrI S L C c H) (b : strB S L C a) : H a ≠ none := by
  obtain ⟨ls, cs, t, _, h1, h2, h3, _⟩ := h.ex
  rcases b with rfl | rfl | rfl
  · rw [h1]; exact fun z => nomatch z
  · rw [h2]; exact fun z => nomatch z
  · rw [h3]; exact fun z => nomatch z
/-- what the text must say of a class whose objects have cells -/
structure ClsP (K : PySem.W.Frag) (n : Str) : Prop where
  cls : Cls K (He.ga K n)
  nat : ∀ f ∈ fldN, NoAttr K (He.ga K n) f
/-- the table of the code objects of the lambdas that the def x makes -/
def lamQ (x : Str) : Str := (envOfC x default 0 0 .none).qual ++ "<lambda>"
/-- what a cell is in the heap: its data holds no lists but cells -/
inductive CellAt (K : PySem.W.Frag) (H : Hp) (a : Addr) : Cell → Prop
  | lst {xs : List V} {ds : List D} : H a = some (.lst xs) → flatAll ds = true → Reps K (fun _ => False) H xs ds → CellAt K H a (.lst ds)
  | ins {n : Str} {dx : Addr} {xs : List (Str × V)} {fs : List (Str × D)} : ClsP K n → (∀ f ∈ fs.map (·.1), f ∈ fldN) → (fs.map (·.1)).Nodup → H a = some (.ins (He.ga K n) dx xs) → xs.map (·.1) = fs.map (·.1) → flatAll (fs.map (·.2)) = true → Reps K (fun _ => False) H (xs.map (·.2)) (fs.map (·.2)) → CellAt K H a (.ins n fs)
  | tab {x : Str} {c : Addr} : PySem.W.tabIn K x = some (c, a) → LamX.TabS H a (lamQ x) → CellAt K H a (.tab x)
/-- the places of the state: the stream's, the cells -/
def cB (S L C : Addr) (c : Sx) : Addr → Prop := fun a => strB S L C a ∨ c.mu a ≠ none
structure StI (K : PySem.W.Frag) (S L C : Addr) (c : Sx) (H : Hp) : Prop where
  str : StrI S L C c.n H
  at_ : ∀ a x, c.mu a = some x → ¬ strB S L C a ∧ CellAt K H a x
theorem CellAt.there {K : PySem.W.Frag} {H : Hp} {a : Addr} {x : Cell} (h : CellAt K H a x) : H a ≠ none := by
  cases h with
  | lst e _ _ => exact some_ne e
  | ins _ _ _ e _ _ _ => exact some_ne e
  | tab _ t => obtain ⟨_, e, _⟩ := t; exact some_ne e
theorem StI.there {K : PySem.W.Frag} {S L C a : Addr} {c : Sx} {H : Hp} (h : StI K S L C c H) (b : cB S L C c a) : H a ≠ none := by
  rcases b with b | b
  · exact h.str.at_ b
  · cases e : c.mu a with
    | none => exact absurd e b
    | some x => exact (h.at_ a x e).2.there
/-- data that holds no lists: what is locked is kept -/
def Kept (H H' : Hp) : Prop := ∀ a o, H a = some o → Imm o → H' a = some o
theorem Kept.sqT {K : PySem.W.Frag} {H H' : Hp} (h : Kept H H') {a : Addr} {xs : List V} (q : SqT K H a xs) : SqT K H' a xs := by
  rcases q with (q | ⟨o, q⟩) | q
  · exact .inl (.inl (h a _ q True.intro))
  · exact .inl (.inr ⟨o, h a _ q True.intro⟩)
  · exact .inr q
mutual
theorem Rep.kept {K : PySem.W.Frag} {B B' : Addr → Prop} {H H' : Hp} (h : Kept H H') : ∀ {v : V} {d : PyData}, DL.flat d = true → Rep K B H v d → Rep K B' H' v d
  | _, _, _, .non => .non
  | _, _, _, .bl b => .bl b
  | _, _, _, .int i => .int i
  | _, _, _, .str x => .str x
  | _, _, h, .lst _ _ _ => by simp [DL.flat] at h
  | _, _, g, .tup e r => .tup (h.sqT e) (Reps.kept h (by simpa [DL.flat] using g) r)
  | _, _, h, .dct0 _ _ => by simp [DL.flat] at h
  | _, _, h, .dct1 _ _ _ => by simp [DL.flat] at h
  | _, _, h, .exn0 _ _ _ => by simp [DL.flat, xD] at h
  | _, _, h, .exn1 _ _ _ _ _ _ => by simp [DL.flat, xD] at h
  | _, _, _, .rf a => .rf a
  | _, _, h, .wr _ _ _ => by simp [DL.flat, wD] at h
theorem Reps.kept {K : PySem.W.Frag} {B B' : Addr → Prop} {H H' : Hp} (h : Kept H H') : ∀ {vs : List V} {ds : List PyData}, DL.flatAll ds = true → Reps K B H vs ds → Reps K B' H' vs ds
  | _, _, _, .nil => .nil
  | _, _, g, .cons r t => by
    simp only [DL.flatAll, Bool.and_eq_true] at g
    exact .cons (Rep.kept h g.1 r) (Reps.kept h g.2 t)
end
theorem CellAt.go {K : PySem.W.Frag} {H H' : Hp} {a : Addr} {x : Cell} (h : CellAt K H a x) (k : Kept H H') (same : ∀ o, H a = some o → H' a = some o) : CellAt K H' a x := by
  cases h with
  | lst e f r => exact .lst (same _ e) f (r.kept k f)
  | ins h1 h2 h3 e q f r => exact .ins h1 h2 h3 (same _ e) q f (r.kept k f)
  | tab h t =>
    obtain ⟨ps, e, ok, am⟩ := t
    exact .tab h ⟨ps, same _ e, ok, fun pos cv hc => let ⟨c, e1, e2⟩ := am pos cv hc; ⟨c, e1, k _ _ e2 True.intro⟩⟩
theorem StrI.same {S L C : Addr} {c : Nat} {H H' : Hp} (h : StrI S L C c H) (k : ∀ a o, strB S L C a → H a = some o → H' a = some o) : StrI S L C c H' := by
  obtain ⟨ls, cs, t, ht, h1, h2, h3, h4⟩ := h.ex
  exact ⟨h.sl, h.sc, h.lc, ls, cs, t, ht, k _ _ (.inl rfl) h1, k _ _ (.inr (.inl rfl)) h2, k _ _ (.inr (.inr rfl)) h3, h4⟩
theorem StI.same {K : PySem.W.Frag} {S L C : Addr} {c : Sx} {H H' : Hp} (h : StI K S L C c H) (k : ∀ a o, cB S L C c a → H a = some o → H' a = some o) (im : Kept H H') : StI K S L C c H' :=
  ⟨h.str.same fun a o b e => k a o (.inl b) e, fun a x e => ⟨(h.at_ a x e).1, (h.at_ a x e).2.go im fun o q => k a o (.inr (by rw [e]; exact fun z => nomatch z)) q⟩⟩
/-- the places of a caller and those of the state -/
def bc (B : Addr → Prop) (S L C : Addr) (c : Sx) : Addr → Prop := fun a => B a ∨ cB S L C c a
/-- a def that goes on from one state to another; the stream is its first argument (st), or it is not handed over -/
def spG (st : Bool) (K : PySem.W.Frag) (mg : Str → Option Value) (m : Fn) : Sp := fun vs H Q EK => ∃ (S L C : Addr) (ws : List V) (B : Addr → Prop) (ds : List D) (c : Sx) (P : D → Sx → Prop) (XP : Exn → Sx → Prop),
  vs = (if st = true then [.ref S] else []) ++ ws ∧ (∀ a, bc B S L C c a → H a ≠ none) ∧ StI K S L C c H ∧ Reps K (bc B S L C c) H ws ds ∧ m ds c P XP ∧
  (∀ d c' v H', P d c' → EvB (cB S L C) c H c' H' → StI K S L C c' H' → Rep K (bc B S L C c') H' v d → Q v H') ∧
  ∀ x c' cl dd H', XP x c' → EvB (cB S L C) c H c' H' → StI K S L C c' H' → ExRep K mg (bc B S L C c') H' x cl dd → EK cl dd H'
/-- a def whose first argument is the stream -/
abbrev spS := spG true
/-- a def that is not handed the stream -/
abbrev spC := spG false
section
variable {P : Program} {w : World} {K : PySem.W.Frag} {mg : Str → Option Value} {base : Heap} {cb : Bool}
/-- the body's par: a def that draws nothing -/
def parF (H : Hp) (B : Addr → Prop) (c : Sx) (XP : Exn → Sx → Prop) (EK : XK) : Par := ⟨fun _ _ => False, fun c' _ => c' = c, 0, H, c, B, XP, fun _ => EK, none, fun _ => none⟩
def parS (K : PySem.W.Frag) (S L C : Addr) (H : Hp) (c : Sx) (B : Addr → Prop) (XP : Exn → Sx → Prop) (EK : XK) : Par := ⟨cB S L C, StI K S L C, S, H, c, B, XP, fun _ => EK, none, fun _ => none⟩
theorem sit_body {qual : Str} {st : Stmt} {f : Addr} {N ps : List Str} {k : Nat} {p : Par} {cdv : Value} {A : Around} {outer : List PySem.Env} {s : Shared} {H : Hp} {E : XK} (S : FnScope N ps (defScope st))
    (hr : RoomB cb k (A.deeper (envOfC qual (defScope st) s.heap.objs.size f cdv))) (hg : (A.deeper (envOfC qual (defScope st) s.heap.objs.size f cdv)).guards = some []) (ok : p.Ok K mg) (hE : ∀ σ c d H, p.EK σ c d H → E c d H) (nf : p.fx = none) (sm : HasSm base) :
    SitB cb true (bodyX cb P w K mg base N qual st f cdv A outer s H E) p k where
  calm_ := fun h => h
  gd := hg
  rm := hr
  nd := S.nd
  ok := ok
  po := passes_of rfl
  tk := (takes_ofD (E := E) rfl rfl rfl rfl).imp fun c d σ H h => hE σ c d H h
  nf_ := fun _ => nf
  sm := sm
theorem env_start {p : Par} {n : Sx} {B : Addr → Prop} {H : Hp} {vs : List V} {E : Env} {N : List Str} (hl : vs.length ≤ N.length) (hE : vs.length = E.length) (r : ∀ (i : Nat) (e : Ent), E[i]? = some e → ∃ v, vs[i]? = some v ∧ Slot K p n B H (some v) e) (no : ∀ (i : Nat) (ds : List D), E[i]? ≠ some (.own ds)) (nf : p.fx = none) :
    EnvR K p n B H (L2.start N vs) (DL.start N.length E) := by
  have l1 : (L2.start N vs).length = N.length := by
    unfold L2.start
    rw [List.length_append, List.length_map, List.length_replicate]
    omega
  have l2 : (DL.start N.length E).length = N.length := by
    unfold DL.start
    rw [List.length_append, List.length_replicate]
    omega
  have own : ∀ (i : Nat) (ds : List D), (DL.start N.length E)[i]? ≠ some (.own ds) := by
    intro i ds h
    unfold DL.start at h
    by_cases hi : i < E.length
    · rw [List.getElem?_append_left hi] at h
      exact no i ds h
    · rw [List.getElem?_append_right (by omega), List.getElem?_replicate] at h
      split at h <;> cases h
  refine ⟨l1.trans l2.symm, fun i e h => ?_, fun i j a xs ys h => absurd h (own i xs), .no nf, fun i a xs _ h => absurd h (own i xs)⟩
  unfold DL.start at h
  by_cases hi : i < E.length
  · rw [List.getElem?_append_left hi] at h
    obtain ⟨v, h1, h2⟩ := r i e h
    refine ⟨some v, ?_, h2⟩
    unfold L2.start
    rw [List.getElem?_append_left (by rw [List.length_map]; omega), List.getElem?_map, h1]
    rfl
  · rw [List.getElem?_append_right (by omega), List.getElem?_replicate] at h
    split at h
    · cases h
      have : i < (L2.start N vs).length := by rw [l1]; omega
      exact ⟨_, List.getElem?_eq_getElem this, .unk _⟩
    · cases h
theorem vals_at {n : Sx} {B : Addr → Prop} {H : Hp} {p : Par} {vs : List V} {ds : List D} (r : Reps K (bm p B n) H vs ds) (i : Nat) (e : Ent) (h : (ds.map Ent.val)[i]? = some e) : ∃ v, vs[i]? = some v ∧ Slot K p n B H (some v) e := by
  rw [List.getElem?_map] at h
  cases q : ds[i]? with
  | none => rw [q] at h; cases h
  | some d =>
    rw [q] at h
    cases h
    obtain ⟨v, h1, h2⟩ := r.get q
    exact ⟨v, h1, .val h2⟩
theorem all_of {H H' : Hp} (e : Ext (fun _ => False) H H') : All H H' := fun a o h => e.keep a o h fun z => z
theorem bmF {H : Hp} {B B2 : Addr → Prop} {c c' : Sx} {XP : Exn → Sx → Prop} {EK : XK} : ∀ a, bm (parF H B c XP EK) B2 c' a → B2 a := fun a z => z.elim id fun z => z.elim
/-- a def that draws nothing, by its body's words -/
theorem fn_pure (sm : HasSm base) {x qual : Str} {st : Stmt} {f : Addr} {fd : FuncData} {N ps : List Str} {k : Nat} {m : XS} (F : FnP K x qual st f fd) (S : FnScope N ps (defScope st)) (hl : ps.length ≤ N.length)
    (body : ∀ (cdv : Value) (A : Around) (outer : List PySem.Env) (s : Shared) (H : Hp) (E : XK) (p : Par), SitB cb true (bodyX cb P w K mg base N qual st f cdv A outer s H E) p k → (∀ n n' H H', p.SI n H → p.SI n' H' → p.SI n H') → (∀ i, p.pin i = none) → PSSD (bodyX cb P w K mg base N qual st f cdv A outer s H E) p (defBody st) m) :
    FnG cb P w K mg base (k + 1) f fd ps (spF K mg (fn ps.length N.length m)) := by
  refine fnG_body F S (fun vs H Q E ⟨_, _, _, _, _, _, rs, mm, _⟩ => rs.length.trans mm.1) (fun cdv A outer s H vs Q E hr hg hsp => ?_)
  obtain ⟨B, ds, c, Pd, XP, trk, rs, ⟨hn, mm⟩, kq, ke⟩ := hsp
  have ok : (parF H B c XP E).Ok K mg := ⟨fun _ _ _ h _ _ => h, fun n n' x cl d B1 H1 H' σ st _ hx hs he hr => by
    have hc : n' = c := hs
    subst hc
    exact ke x cl d H' hx (all_of (st.ext.trans he).ext) (exrep_go (fun a z => bm_more he.up a (st.subc a z)) hr)⟩
  have S' := sit_body (P := P) (w := w) (base := base) (mg := mg) (f := f) (outer := outer) (H := H) (p := parF H B c XP E) (E := E) S hr hg ok (fun _ _ _ _ h => h) rfl sm
  obtain ⟨ts, a1, a2⟩ := (body cdv A outer s H E _ S' (fun n n' H1 H2 (h1 : n = c) _ => h1) fun _ => rfl).ex
  refine ⟨ts, a1, a2 B H _ (DL.start N.length (ds.map Ent.val)) c (fun o c' => endOf o c' Pd XP) _ ⟨fun _ z => .inl z, fun a z => trk a (bmF a z), rfl, Ev.refl, fun _ z _ => .inl z⟩ ?_ mm ?_ ?_ ?_ ?_⟩
  · refine env_start (by rw [rs.length]; omega) (by rw [List.length_map]; exact rs.length) (fun i e h => vals_at (rs.less bmF) i e h) (fun i es h => ?_) rfl
    rw [List.getElem?_map] at h
    cases q : ds[i]? with
    | none => rw [q] at h; cases h
    | some d => rw [q] at h; cases h
  · intro E' c' B' σ' H' m1 st1 t1 r1
    have hc : c' = c := st1.si
    subst hc
    exact kq .none .non H' m1 (all_of st1.ext.ext) .non
  · intro d c' v H' m1 s1 e1 r1
    have hc : c' = c := s1
    subst hc
    exact kq d v H' m1 (all_of e1.ext) (r1.less fun _ z => .inl z)
  · intro E' c' B' σ' H' m1
    exact m1.elim
  · intro E' c' B' σ' H' m1
    exact m1.elim
/-- a def that goes on from one state to another, by its body's words; b: the stream is its first argument -/
def fnGo (b : Bool) (k n : Nat) (s : XS) : Fn := if b = true then fnS k n s else fn k n s
theorem fn_go {b : Bool} (sm : HasSm base) {x qual : Str} {st : Stmt} {f : Addr} {fd : FuncData} {N ps : List Str} {k : Nat} {m : XS} {kws : List (Str × V)} (F : FnPk K x qual st kws f fd) (S : FnScope N ps (defScope st)) (hl : ps.length ≤ N.length)
    (body : ∀ (cdv : Value) (A : Around) (outer : List PySem.Env) (s : Shared) (H : Hp) (E : XK) (p : Par), SitB cb true (bodyX cb P w K mg base N qual st f cdv A outer s H E) p k → (∃ S L C, p.B0 = cB S L C ∧ p.SI = StI K S L C ∧ p.S = S) → (∀ i, p.pin i = none) → PSSD (bodyX cb P w K mg base N qual st f cdv A outer s H E) p (defBody st) m) :
    FnG cb P w K mg base (k + 1) f fd ps (spG b K mg (fnGo b ps.length N.length m)) := by
  have hlen : ∀ vs H Q E, spG b K mg (fnGo b ps.length N.length m) vs H Q E → vs.length = ps.length := by
    rintro vs H Q E ⟨_, _, _, ws, _, _, _, _, _, e, _, _, rs, mm, _⟩
    cases b with
    | true => rw [e, List.length_append, rs.length, Nat.add_comm]; exact mm.1
    | false => rw [e, List.length_append, rs.length, Nat.add_comm]; exact mm.1
  refine fnG_body F S hlen (fun cdv A outer s H vs Q E hr hg hsp => ?_)
  have hvl := hlen vs H Q E hsp
  obtain ⟨S1, L1, C1, ws, B, ds, c, Pd, XP, rfl, trk, si, rs, mm, kq, ke⟩ := hsp
  have hlw := rs.length
  have ok : (parS K S1 L1 C1 H c B XP E).Ok K mg :=
    ⟨fun n H1 H2 h hk im => StI.same h hk im, fun n n' x cl d B1 H1 H' σ st _ hx hs he hr => ke x n' cl d H' hx (st.ext.trans he) hs (exrep_go (fun a z => z.elim (fun z => bm_more he.up a (st.subc a z)) .inr) hr)⟩
  have S' := sit_body (P := P) (w := w) (base := base) (mg := mg) (f := f) (outer := outer) (H := H) (p := parS K S1 L1 C1 H c B XP E) (E := E) S hr hg ok (fun _ _ _ _ h => h) rfl sm
  obtain ⟨ts, a1, a2⟩ := (body cdv A outer s H E _ S' ⟨S1, L1, C1, rfl, rfl, rfl⟩ fun _ => rfl).ex
  have e0 : ((if b = true then [Ent.stm] else []) ++ ds.map Ent.val).length = ((if b = true then [V.ref S1] else []) ++ ws).length := by
    cases b <;> simp [hlw]
  have mm' : (m (DL.start N.length ((if b = true then [Ent.stm] else []) ++ ds.map Ent.val))) c (fun o c' => endOf o c' Pd XP) XP := by
    cases b with
    | true => exact mm.2
    | false => exact mm.2
  refine ⟨ts, a1, a2 B H _ (DL.start N.length ((if b = true then [Ent.stm] else []) ++ ds.map Ent.val)) c (fun o c' => endOf o c' Pd XP) _ ⟨fun _ z => .inl z, trk, si, Ev.refl, fun _ z _ => .inl z⟩ ?_ mm' ?_ ?_ ?_ ?_⟩
  · refine env_start (by omega) e0.symm (fun i e h => ?_) (fun i es h => ?_) rfl
    · cases b with
      | true =>
        cases i with
        | zero =>
          cases h
          exact ⟨_, rfl, .stm (p := parS K S1 L1 C1 H c B XP E)⟩
        | succ i => exact vals_at rs i e h
      | false => exact vals_at rs i e h
    · have no : ∀ i, (ds.map Ent.val)[i]? ≠ some (Ent.own es) := fun i h' => by
        rw [List.getElem?_map] at h'
        cases q : ds[i]? with
        | none => rw [q] at h'; cases h'
        | some d => rw [q] at h'; cases h'
      cases b with
      | true =>
        cases i with
        | zero => cases h
        | succ i => exact no i h
      | false => exact no i h
  · intro E' c' B' σ' H' m1 st1 t1 r1
    exact kq .none c' .non H' m1 st1.ext st1.si .non
  · intro d c' v H' m1 s1 e1 r1
    exact kq d c' v H' m1 e1 s1 r1
  · intro E' c' B' σ' H' m1
    exact m1.elim
  · intro E' c' B' σ' H' m1
    exact m1.elim
/-- a def whose first argument is the stream -/
theorem fn_str (sm : HasSm base) {x qual : Str} {st : Stmt} {f : Addr} {fd : FuncData} {N ps : List Str} {k : Nat} {m : XS} (F : FnP K x qual st f fd) (S : FnScope N ps (defScope st)) (hl : ps.length ≤ N.length)
    (body : ∀ (cdv : Value) (A : Around) (outer : List PySem.Env) (s : Shared) (H : Hp) (E : XK) (p : Par), SitB cb true (bodyX cb P w K mg base N qual st f cdv A outer s H E) p k → (∃ S L C, p.B0 = cB S L C ∧ p.SI = StI K S L C ∧ p.S = S) → (∀ i, p.pin i = none) → PSSD (bodyX cb P w K mg base N qual st f cdv A outer s H E) p (defBody st) m) :
    FnG cb P w K mg base (k + 1) f fd ps (spS K mg (fnS ps.length N.length m)) := fn_go (b := true) sm F S hl body
end
section
variable {X : Cx} {p : Par} {k : Nat} {cb vb : Bool}
/-- what the caller knows of a def: where it stands, how it is called -/
structure Def (K : PySem.W.Frag) (mg : Str → Option Value) (x : Str) (f : Addr) (fd : FuncData) (ps : List Str) : Prop where
  mg : mg x = some (.ref f)
  kp : PySem.W.keepIn K (.ref f) = true
  bd : Binds K fd ps []
theorem pd_fn (S : SitB cb vb X p k) {j : Nat} {x : Str} {f : Addr} {fd : FuncData} {ps : List Str} {m : Fn} {e : Expr} {es : List Expr} {ma : XA} {pn pos : Pos} (F : FnG cb X.prog X.w X.K X.mg X.base j f fd ps (spF X.K X.mg m)) (hj : j ≤ k) (D : Def X.K X.mg x f fd ps) (ha : PDA X p (e :: es) ma)
    (hg : Gl X x := by rfl) (hdb : (x == ("__debug__" : Str)) = false := by decide) (he : starEach (e :: es) X.env = (false, eval e X.env) :: starEach es X.env := by rfl) (hpl : (backTo pos (starEach es X.env)).any (·.1) = false := by rfl) : PD X p (.Call (.Name x pn) (e :: es) [] pos) (eCall m ma) := by
  obtain ⟨ta, a1, a2⟩ := ha.ex
  refine ⟨_, pe_G F (S.rm.mono hj) S.gd D.mg D.kp D.bd S.ps a1 hg hdb he hpl, fun B H σ E c P Q st r mm kk => ?_⟩
  refine a2 B H σ E _ _ _ st r mm fun ds c1 vs H1 m1 e1 s1 r1 => ?_
  have st1 := st.go e1 s1
  rw [List.append_nil]
  refine ⟨_, ds, c1, P, p.XP, st1.trk, r1, m1, fun d v H2 pd al rd => kk d c1 v H2 pd (e1.trans al.ev) (st1.all S.ok al) rd, fun y cl dd H2 hx al hr => ?_⟩
  exact S.ok.exc c1 c1 y cl dd B H1 H2 σ st1 (r.go st e1).fx hx (st1.all S.ok al) al.ev hr
/-- the stream is what p says -/
def IsStr (K : PySem.W.Frag) (p : Par) : Prop := ∃ S L C, p.B0 = cB S L C ∧ p.SI = StI K S L C ∧ p.S = S
/-- q is a body's own within p's -/
structure SubP (p q : Par) : Prop where
  str : ∀ K, IsStr K p → IsStr K q
  h0 : q.H0 = p.H0
  c0 : q.c0 = p.c0
  bc : q.Bc = p.Bc
  b0 : q.B0 = p.B0
  si : q.SI = p.SI
  ss : q.S = p.S
instance {p q : Par} : CoeFun (SubP p q) (fun _ => ∀ K, IsStr K p → IsStr K q) := ⟨SubP.str⟩
/-- what a callee that goes on from a state wants, of what the caller wants -/
theorem go_of {b : Bool} (S : SitB cb vb X p k) (Z : IsStr X.K p) {m : Fn} {B : Addr → Prop} {H H0 : Hp} {σ : L2.St} {c c0 : Sx} {P : D → Sx → Prop} {vs : List V} {ds : List D} {Q : VK} (st : St0 p c B H) (fx : Fix p c B H σ) (e0 : Ev p c0 H0 c H) (rs : Reps X.K (bm p B c) H vs ds) (mm : m ds c P p.XP)
    (kk : ∀ d c' v H', P d c' → Ev p c0 H0 c' H' → p.SI c' H' → Rep X.K (bm p B c') H' v d → Q v H') : spG b X.K X.mg m ((if b = true then [V.ref p.S] else []) ++ vs) H Q (p.EK σ) := by
  obtain ⟨S1, L1, C1, z1, z2, z3⟩ := Z
  have zb : ∀ c, bm p B c = bc B S1 L1 C1 c := fun c => by unfold bm bc; rw [z1]
  have si := st.si
  rw [z2] at si
  refine ⟨S1, L1, C1, vs, B, ds, c, P, p.XP, by rw [z3], by rw [← zb]; exact st.trk, si, by rw [← zb]; exact rs, mm, fun d c2 v H2 pd al s2 rd => ?_, fun y c2 cl dd H2 hx al s2 hr => ?_⟩
  · rw [← z1] at al
    rw [← z2] at s2
    rw [← zb] at rd
    exact kk d c2 v H2 pd (e0.trans al) s2 rd
  · rw [← z1] at al
    rw [← z2] at s2
    rw [← zb] at hr
    exact S.ok.exc c c2 y cl dd B H H2 σ st fx hx s2 al hr
theorem pd_fnS (S : SitB cb vb X p k) (Z : IsStr X.K p) {j i : Nat} {x y : Str} {f : Addr} {fd : FuncData} {ps : List Str} {m : Fn} {es : List Expr} {ma : XA} {py pn pos : Pos} (F : FnG cb X.prog X.w X.K X.mg X.base j f fd ps (spS X.K X.mg m)) (hj : j ≤ k) (D : Def X.K X.mg x f fd ps) (hy : PE X (.Name y py) (tVar i)) (ha : PDA X p es ma)
    (hg : Gl X x := by rfl) (hdb : (x == ("__debug__" : Str)) = false := by decide) (he : starEach (.Name y py :: es) X.env = (false, eval (.Name y py) X.env) :: starEach es X.env := by rfl) (hpl : (backTo pos (starEach es X.env)).any (·.1) = false := by rfl) : PD X p (.Call (.Name x pn) (.Name y py :: es) [] pos) (eCallS m i ma) := by
  obtain ⟨ta, a1, a2⟩ := ha.ex
  refine ⟨_, pe_G F (S.rm.mono hj) S.gd D.mg D.kp D.bd S.ps (pa_cons hy a1 he) hg hdb he hpl, fun B H σ E c P Q st r mm kk => ?_⟩
  have m' : (match E[i]? with | some .stm => bnd (ma E) m | _ => stuck) c P p.XP := mm
  cases h : E[i]? with
  | none => rw [h] at m'; exact m'.elim
  | some e =>
    rw [h] at m'
    cases e with
    | stm =>
      obtain ⟨s, h1, h2⟩ := r.at_ i _ h
      cases h2
      refine ⟨_, h1, ?_⟩
      refine a2 B H σ E _ _ _ st r m' fun ds c1 vs H1 m1 e1 s1 r1 => ?_
      have st1 := st.go e1 s1
      show spS X.K X.mg m ((V.ref p.S :: vs) ++ []) H1 Q (p.EK σ)
      rw [List.append_nil]
      exact go_of (b := true) S Z st1 (r.go st e1).fx e1 r1 m1 kk
    | _ => exact m'.elim
end
end DL
end
section
namespace DL
open PySem PySem.Spec PyProof.Rows L2
/-- the stream with its lists told -/
structure StrL (S L C : Addr) (ls cs : List Int) (t : Nat) (H : Hp) : Prop where
  sl : S ≠ L
  sc : S ≠ C
  lc : L ≠ C
  hs : H S = some (.lst [.ref L, .ref C, .int t])
  hl : H L = some (.lst (ls.map V.int))
  hc : H C = some (.lst (cs.map V.int))
  nc : cs ≠ []
  pl : ∀ x ∈ ls, 0 ≤ x
  pc : ∀ x ∈ cs, 0 ≤ x
  few : cs.length ≤ 1000
theorem StrL.str {S L C : Addr} {ls cs : List Int} {t c : Nat} {H : Hp} (h : StrL S L C ls cs t H) (ht : t ≤ c) : StrI S L C c H :=
  ⟨h.sl, h.sc, h.lc, ls, cs, t, ht, h.hs, h.hl, h.hc, h.nc, h.pl, h.pc, h.few⟩
theorem StrI.told {S L C : Addr} {c : Nat} {H : Hp} (h : StrI S L C c H) : ∃ (ls cs : List Int) (t : Nat), t ≤ c ∧ StrL S L C ls cs t H := by
  obtain ⟨ls, cs, t, ht, h1, h2, h3, h4, h5, h6, h7⟩ := h.ex
  exact ⟨ls, cs, t, ht, h.sl, h.sc, h.lc, h1, h2, h3, h4, h5, h6, h7⟩
theorem StrL.all {S L C : Addr} {ls cs : List Int} {t : Nat} {H H' : Hp} (h : StrL S L C ls cs t H) (e : All H H') : StrL S L C ls cs t H' :=
  ⟨h.sl, h.sc, h.lc, e _ _ h.hs, e _ _ h.hl, e _ _ h.hc, h.nc, h.pl, h.pc, h.few⟩
theorem upd_strB {S L C : Addr} {H : Hp} {a : Addr} {xs ys : List V} (b : strB S L C a) (hq : H a = some (.lst xs)) : Ext (strB S L C) H (upd H a (.lst ys)) := upd_q b hq
/-- no place may change -/
abbrev nB : Addr → Prop := fun _ => False
section
variable {K : PySem.W.Frag}
def tS (K : PySem.W.Frag) (i : Int) : TE := tOp (rIxL K) (tVar 0) (tC (.int i))
def tOpD (K : PySem.W.Frag) (o : Op) (a b : TE) : TE := tOp (rD2 K (opBin o)) a b
def tDrawTest (K : PySem.W.Frag) : TT := tTest (tOp (rD2 K (cmpD .ne)) (tS K 0) (tLst tNil))
def tDrawTurn (K : PySem.W.Frag) : TS := tSeq (tAsg (tOp (rD2 K opIdx) (tS K 0) (tC (.int 0))) (gName 2)) (tSeq (tIfS (tTest (tOp (rD2 K (cmpD .gt)) (tVar 2) (tC (.int 0))))
  (tSeq (tAsg (tOpD K .fdiv (tVar 2) (tVar 1)) (gSub (tS K 0) (tC (.int 0)) rSetL)) (tRet (tOpD K .mod (tVar 2) (tVar 1)))) tNext)
  (tDrop (tBM K "list" rPopAt (tS K 0) (tCons (tC (.int 0)) tNil))))
theorem s_at {S L C : Addr} {ls cs : List Int} {t : Nat} {H : Hp} {i : Int} {v : V} {Q : VK} {σ : L2.St} (h : StrL S L C ls cs t H) (h0 : σ[0]? = some (some (.ref S))) (hi : atI [V.ref L, V.ref C, V.int t] i = some v) (q : Q v H) : tS K i σ H Q :=
  ⟨_, h0, S, _, i, v, rfl, rfl, SqL.of h.hs, hi, q⟩
theorem rep_ints {B : Addr → Prop} {H : Hp} {a : Addr} {ns : List Int} (h : H a = some (.lst (ns.map V.int))) (hb : ¬ B a) : Rep K B H (.ref a) (.list (ns.map PyData.int)) :=
  .lst h hb (Reps.of_ints ns)
theorem ne_nil_int (x : Int) (ls : List Int) : PyData.eqv (.list (((x :: ls) : List Int).map PyData.int)) (.list []) = false := by rfl
theorem nil_nil_int : PyData.eqv (.list (([] : List Int).map PyData.int)) (.list []) = true := by rfl
theorem lay_ints : ∀ ns : List Int, PyData.canLayAll0 (ns.map PyData.int) = true
  | [] => rfl
  | a :: r => by
    show (PyData.canLay0 (.int a) && PyData.canLayAll0 (r.map PyData.int)) = true
    rw [lay_ints r]
    rfl
theorem shaped_ints (ns : List Int) : SeqAt.shaped (.list (ns.map PyData.int)) = true := by
  have e : PyData.depth (.list (ns.map PyData.int)) ≤ 64 := by
    simp only [PyData.depth, depth_ints]
    decide
  unfold SeqAt.shaped
  rw [decide_eq_true e, Bool.and_true]
  exact lay_ints ns
theorem ixN_zero (n : Nat) : ixN (n + 1) 0 = some 0 := by
  unfold ixN
  rw [if_pos (Int.le_refl 0), if_pos (by omega)]
  rfl
theorem atI_zero {α : Type} (x : α) (xs : List α) : atI (x :: xs) 0 = some x := by
  show (ixN (xs.length + 1) 0).bind _ = _
  rw [ixN_zero]
  rfl
theorem opIdx_zero (x : D) (xs : List D) (c : Sx) (P : D → Sx → Prop) (Xp : Exn → Sx → Prop) (h : P x c) : opIdx (.list (x :: xs)) (.int 0) c P Xp := by
  show (match L2.atI (x :: xs) 0 with | some d => ret d | none => stuck) c P Xp
  rw [atI_zero]
  exact h
theorem draw_while {S L C : Addr} {cs : List Int} {t : Nat} {many : Int} {H0 : Hp} {D : Ends} {x3 x4 x5 : Option V} (hm : 0 < many ∧ many < 9223372036854775808)
    (nx : ∀ x2 H, Ext (strB S L C) H0 H → StrL S L C [] cs t H → D.nx [some (.ref S), some (.int many), x2, x3, x4, x5] H)
    (rt : ∀ (r : Int) ls H, Ext (strB S L C) H0 H → StrL S L C ls cs t H → 0 ≤ r → r < many → D.rt (.int r) H)
    {x2 : Option V} {ls : List Int} (hS : StrL S L C ls cs t H0) : tWhile (tDrawTest K) (tDrawTurn K) D [some (.ref S), some (.int many), x2, x3, x4, x5] H0 := by
  refine ⟨fun n σ H => ∃ (x2 : Option V) (ls : List Int), σ = [some (.ref S), some (.int many), x2, x3, x4, x5] ∧ ls.length = n ∧ Ext (strB S L C) H0 H ∧ StrL S L C ls cs t H, ⟨_, x2, ls, rfl, rfl, Ext.refl, hS⟩, ?_⟩
  rintro n σ H ⟨x2, ls, rfl, hn, e, hL⟩
  refine s_at hL rfl rfl ⟨Nat.zero_le _, fun q hq => ?_⟩
  have h1 := hL.all (All.new (o := .lst []) hq)
  have e1 : Ext (strB S L C) H0 (upd H q (.lst [])) := e.trans (All.new hq).ext
  refine ⟨nB, .list (ls.map PyData.int), .list [], .z 0, fun d _ => d = .bool (!(PyData.eqv (.list (ls.map PyData.int)) (.list []))), fun _ _ => False, fun _ z => z.elim, rep_ints h1.hl id, .lst upd_same id .nil, ⟨eqOk_of (shaped_ints ls) rfl, rfl⟩, ?_⟩
  rintro z v H2 rfl a2 rv
  cases rv
  refine ⟨_, rfl, ?_⟩
  have h2 := h1.all a2
  have e2 := e1.trans (a2.ext (B := strB S L C))
  cases ls with
  | nil =>
    rw [nil_nil_int]
    exact nx x2 H2 e2 h2
  | cons x ls =>
    rw [ne_nil_int]
    refine (if_pos rfl).mpr ?_
    refine ⟨fun σ H => ∃ (x2 : Option V) (ls' : List Int), σ = [some (.ref S), some (.int many), x2, x3, x4, x5] ∧ ls' = ls ∧ Ext (strB S L C) H0 H ∧ StrL S L C ls' cs t H, ?_, ?_⟩
    · rintro σ' H' ⟨x2', ls', rfl, rfl, e', h'⟩
      exact ⟨ls'.length, by rw [← hn]; exact Nat.lt_succ_self _, x2', ls', rfl, rfl, e', h'⟩
    · refine s_at h2 rfl rfl ⟨nB, .list ((x :: ls).map PyData.int), .int 0, .z 0, fun d _ => d = .int x, fun _ _ => False, fun _ z => z.elim, rep_ints h2.hl id, .int 0, opIdx_zero _ _ _ _ _ rfl, ?_⟩
      rintro z v H3 rfl a3 rv
      cases rv
      have h3 := h2.all a3
      have e3 := e2.trans (a3.ext (B := strB S L C))
      refine ⟨_, rfl, nB, .int x, .int 0, .z 0, fun d _ => d = .bool (decide (0 < x)), fun _ _ => False, fun _ z => z.elim, .int _, .int _, rfl, ?_⟩
      rintro z v H4 rfl a4 rv
      cases rv
      have h4 := h3.all a4
      have e4 := e3.trans (a4.ext (B := strB S L C))
      refine ⟨_, rfl, ?_⟩
      by_cases hx : 0 < x
      · rw [decide_eq_true hx]
        refine (if_pos rfl).mpr ?_
        refine ⟨_, rfl, _, rfl, nB, .int x, .int many, .z 0, fun d _ => d = .int (x / many), fun _ _ => False, fun _ z => z.elim, .int _, .int _, ⟨hm, rfl⟩, ?_⟩
        rintro z v H5 rfl a5 rv
        cases rv
        have h5 := h4.all a5
        have e5 := e4.trans (a5.ext (B := strB S L C))
        refine s_at h5 rfl rfl ⟨L, _, 0, 0, rfl, rfl, h5.hl, ixN_zero _, ?_⟩
        have h6 : StrL S L C ((x / many) :: ls) cs t (upd H5 L (.lst (((x / many) :: ls).map V.int))) := by
          refine ⟨h5.sl, h5.sc, h5.lc, ?_, upd_same, ?_, h5.nc, fun y hy => ?_, h5.pc, h5.few⟩
          · rw [upd_ne h5.sl]; exact h5.hs
          · rw [upd_ne h5.lc.symm]; exact h5.hc
          · rcases List.mem_cons.mp hy with rfl | hy
            · exact Int.ediv_nonneg (Int.le_of_lt hx) (Int.le_of_lt hm.1)
            · exact h5.pl y (.tail _ hy)
        have e6 := e5.trans (upd_strB (ys := ((x / many) :: ls).map V.int) (.inr (.inl rfl)) h5.hl)
        refine ⟨_, rfl, _, rfl, nB, .int x, .int many, .z 0, fun d _ => d = .int (x % many), fun _ _ => False, fun _ z => z.elim, .int _, .int _, ⟨hm.1, rfl⟩, ?_⟩
        rintro z v H7 rfl a7 rv
        cases rv
        exact rt _ _ H7 (e6.trans a7.ext) (h6.all a7) (Int.emod_nonneg _ (by omega)) (Int.emod_lt_of_pos _ hm.1)
      · rw [decide_eq_false hx]
        refine (if_neg (by decide)).mpr ?_
        refine s_at h4 rfl rfl ⟨.inl ⟨rfl, _, SqL.of h4.hl⟩, ?_⟩
        refine ⟨L, _, 0, 0, V.int x, rfl, rfl, h4.hl, by decide, by decide, ?_, rfl, ?_⟩
        · simp [PySem.seqIndex?]
        · refine ⟨some (.int x), ls, rfl, rfl, e4.trans (upd_strB (.inr (.inl rfl)) h4.hl), ?_⟩
          refine ⟨h4.sl, h4.sc, h4.lc, ?_, upd_same, ?_, h4.nc, fun y hy => h4.pl y (.tail _ hy), h4.pc, h4.few⟩
          · rw [upd_ne h4.sl]; exact h4.hs
          · rw [upd_ne h4.lc.symm]; exact h4.hc
/-- in every later heap it gives that value, and makes at most new things -/
def Gives (te : TE) (σ : L2.St) (H : Hp) (v : V) : Prop := ∀ H1, All H H1 → ∀ Q : VK, (∀ H', All H1 H' → Q v H') → te σ H1 Q
variable {σ : L2.St} {H : Hp}
theorem gives_var {i : Nat} {v : V} (h : σ[i]? = some (some v)) : Gives (tVar i) σ H v := fun H1 _ Q q => ⟨v, h, q H1 All.refl⟩
theorem gives_c {v : V} : Gives (tC v) σ H v := fun H1 _ Q q => q H1 All.refl
theorem gives_op {ta tb : TE} {a b r : Int} (o : Op) (ha : Gives ta σ H (.int a)) (hb : Gives tb σ H (.int b)) (h : ∀ c (P : D → Sx → Prop) Xp, P (.int r) c → opBin o (.int a) (.int b) c P Xp) : Gives (tOpD K o ta tb) σ H (.int r) := by
  intro H1 e1 Q q
  refine ha H1 e1 _ fun H2 e2 => hb H2 (e1.trans e2) _ fun H3 e3 => ?_
  refine ⟨nB, .int a, .int b, .z 0, fun d _ => d = .int r, fun _ _ => False, fun _ z => z.elim, .int _, .int _, h _ _ _ rfl, ?_⟩
  rintro z v H4 rfl a4 rv
  cases rv
  exact q H4 (e2.trans (e3.trans a4))
theorem gives_s {S L C : Addr} {ls cs : List Int} {t : Nat} {i : Int} {v : V} (h : StrL S L C ls cs t H) (h0 : σ[0]? = some (some (.ref S))) (hi : atI [V.ref L, V.ref C, V.int t] i = some v) : Gives (tS K i) σ H v :=
  fun H1 e1 Q q => s_at (h.all e1) h0 hi (q H1 All.refl)
theorem gives_len {te : TE} {a : Addr} {ns : List Int} (h : Gives te σ H (.ref a)) (ha : H a = some (.lst (ns.map V.int))) : Gives (tCB (rC1 K (bi1 .len)) (tCons te tNil)) σ H (.int ns.length) := by
  intro H1 e1 Q q
  refine h H1 e1 _ fun H2 e2 => ?_
  refine ⟨_, rfl, nB, .list (ns.map PyData.int), .z 0, fun d _ => d = .int ns.length, fun _ _ => False, fun _ z => z.elim, rep_ints (e2 _ _ (e1 _ _ ha)) id, ?_, ?_⟩
  · show (.int ((ns.map PyData.int).length : Int) : D) = .int ns.length
    rw [List.length_map]
  · rintro z v H4 rfl a4 rv
    cases rv
    exact q H4 (e2.trans a4)
theorem gives_ix {ta tb : TE} {a : Addr} {ns : List Int} {i x : Int} (h : Gives ta σ H (.ref a)) (hb : Gives tb σ H (.int i)) (ha : H a = some (.lst (ns.map V.int))) (hx : atI ns i = some x) : Gives (tOp (rD2 K opIdx) ta tb) σ H (.int x) := by
  intro H1 e1 Q q
  refine h H1 e1 _ fun H2 e2 => hb H2 (e1.trans e2) _ fun H3 e3 => ?_
  refine ⟨nB, .list (ns.map PyData.int), .int i, .z 0, fun d _ => d = .int x, fun _ _ => False, fun _ z => z.elim, rep_ints (e3 _ _ (e2 _ _ (e1 _ _ ha))) id, .int _, ?_, ?_⟩
  · show (match L2.atI (ns.map PyData.int) i with | some d => ret d | none => stuck) (.z 0) _ _
    have e : L2.atI (ns.map PyData.int) i = some (.int x) := by
      unfold atI at hx ⊢
      rw [List.length_map]
      cases q : ixN ns.length i with
      | none => rw [q] at hx; cases hx
      | some j =>
        rw [q] at hx
        have hx' : ns[j]? = some x := hx
        show (ns.map PyData.int)[j]? = _
        rw [List.getElem?_map, hx']
        rfl
    rw [e]
    rfl
  · rintro z v H4 rfl a4 rv
    cases rv
    exact q H4 (e2.trans (e3.trans a4))
theorem asg_gives {te : TE} {i : Nat} {v : V} {D : Ends} (h : Gives te σ H v) (q : ∀ H', All H H' → D.nx (σ.set i (some v)) H') : tAsg te (gName i) D σ H := h H All.refl _ fun H' e => q H' e
def tDrawRest (K : PySem.W.Frag) : TS := tSeq (tAsg (tOpD K .add (tS K 2) (tC (.int 1))) (gName 3)) (tSeq (tAsg (tVar 3) (gSub (tVar 0) (tC (.int 2)) rSetL))
  (tSeq (tAsg (tOpD K .mod (tOp (rD2 K opIdx) (tS K 1) (tOpD K .mod (tVar 3) (tCB (rC1 K (bi1 .len)) (tCons (tS K 1) tNil)))) (tC (.int 2147483587))) (gName 4))
  (tSeq (tAsg (tOpD K .mod (tOpD K .add (tOpD K .add (tOpD K .mul (tVar 4) (tOpD K .add (tC (.int 16807)) (tOpD K .mul (tC (.int 69621)) (tVar 3)))) (tOpD K .mul (tOpD K .mul (tC (.int 40692)) (tVar 3)) (tVar 3))) (tC (.int 53))) (tC (.int 2147483647))) (gName 5))
  (tRet (tOpD K .mod (tOpD K .fdiv (tOpD K .mod (tOpD K .mul (tVar 5) (tVar 5)) (tC (.int 2147483629))) (tC (.int 16))) (tVar 1))))))
theorem g_add {ta tb : TE} {a b : Int} (ha : Gives ta σ H (.int a)) (hb : Gives tb σ H (.int b)) : Gives (tOpD K .add ta tb) σ H (.int (a + b)) := gives_op .add ha hb fun _ _ _ h => h
theorem g_mul {ta tb : TE} {a b : Int} (ha : Gives ta σ H (.int a)) (hb : Gives tb σ H (.int b)) (h : mulOk a b) : Gives (tOpD K .mul ta tb) σ H (.int (a * b)) := gives_op .mul ha hb fun _ _ _ q => ⟨h, q⟩
theorem g_mod {ta tb : TE} {a b : Int} (ha : Gives ta σ H (.int a)) (hb : Gives tb σ H (.int b)) (h : 0 < b) : Gives (tOpD K .mod ta tb) σ H (.int (a % b)) := gives_op .mod ha hb fun _ _ _ q => ⟨h, q⟩
theorem g_fdiv {ta tb : TE} {a b : Int} (ha : Gives ta σ H (.int a)) (hb : Gives tb σ H (.int b)) (h : 0 < b ∧ b < 9223372036854775808) : Gives (tOpD K .fdiv ta tb) σ H (.int (a / b)) := gives_op .fdiv ha hb fun _ _ _ q => ⟨h, q⟩
theorem draw_rest {S L C : Addr} {ls cs : List Int} {t : Nat} {many : Int} {H0 : Hp} {D : Ends} {x2 x3 x4 x5 : Option V} (hm : 0 < many ∧ many < 9223372036854775808) (ht : t < 2 ^ 40)
    (rt : ∀ (r : Int) H, Ext (strB S L C) H0 H → StrL S L C ls cs (t + 1) H → 0 ≤ r → r < many → D.rt (.int r) H)
    (hS : StrL S L C ls cs t H0) : tDrawRest K D [some (.ref S), some (.int many), x2, x3, x4, x5] H0 := by
  have ht' : (t : Int) < 2 ^ 40 := by exact_mod_cast ht
  have t0 : (0 : Int) ≤ t := Int.natCast_nonneg t
  refine asg_gives (g_add (gives_s hS rfl rfl) gives_c) fun H1 e1 => ?_
  have h1 := hS.all e1
  refine ⟨_, rfl, _, rfl, S, _, 2, 2, rfl, rfl, h1.hs, rfl, ?_⟩
  have x2' := (e1.ext (B := strB S L C)).trans (upd_strB (S := S) (L := L) (C := C) (ys := [.ref L, .ref C, .int ((t : Int) + 1)]) (.inl rfl) h1.hs)
  have h2 : StrL S L C ls cs (t + 1) (upd H1 S (.lst [.ref L, .ref C, .int ((t : Int) + 1)])) := by
    refine ⟨h1.sl, h1.sc, h1.lc, upd_same, ?_, ?_, h1.nc, h1.pl, h1.pc, h1.few⟩
    · rw [upd_ne h1.sl.symm]; exact h1.hl
    · rw [upd_ne h1.sc.symm]; exact h1.hc
  show tSeq _ _ D _ (upd H1 S (.lst [.ref L, .ref C, .int ((t : Int) + 1)]))
  generalize upd H1 S (.lst [.ref L, .ref C, .int ((t : Int) + 1)]) = H2 at x2' h2
  have hlen : 0 < cs.length := List.length_pos_iff.mpr h2.nc
  have hi0 : 0 ≤ ((t : Int) + 1) % (cs.length : Int) := Int.emod_nonneg _ (by omega)
  have hi1 : ((t : Int) + 1) % (cs.length : Int) < cs.length := Int.emod_lt_of_pos _ (by omega)
  obtain ⟨x, hx⟩ : ∃ x, atI cs (((t : Int) + 1) % (cs.length : Int)) = some x := by
    unfold atI ixN
    rw [if_pos hi0, if_pos hi1]
    exact ⟨_, List.getElem?_eq_getElem (by omega)⟩
  refine asg_gives (g_mod (gives_ix (gives_s h2 rfl rfl) (g_mod (gives_var rfl) (gives_len (gives_s h2 rfl rfl) h2.hc) (by omega)) h2.hc hx) gives_c (by decide)) fun H3 e3 => ?_
  have h3 := h2.all e3
  have c0 : 0 ≤ x % 2147483587 := Int.emod_nonneg _ (by decide)
  have c1 : x % 2147483587 < 2147483587 := Int.emod_lt_of_pos _ (by decide)
  refine asg_gives (g_mod (g_add (g_add (g_mul (gives_var rfl) (g_add gives_c (g_mul gives_c (gives_var rfl) (.inl (by decide)))) (.inl ⟨by omega, by omega⟩)) (g_mul (g_mul gives_c (gives_var rfl) (.inl (by decide))) (gives_var rfl) (.inr ⟨by omega, by omega⟩))) gives_c) gives_c (by decide)) fun H4 e4 => ?_
  have h4 := h3.all e4
  refine g_mod (g_fdiv (g_mod (g_mul (gives_var rfl) (gives_var rfl) (.inl ⟨?_, ?_⟩)) gives_c (by decide)) gives_c (by decide)) (gives_var rfl) hm.1 H4 All.refl _ fun H5 e5 => ?_
  · exact Int.lt_of_lt_of_le (by decide) (Int.emod_nonneg _ (by decide))
  · exact Int.lt_trans (Int.emod_lt_of_pos _ (by decide)) (by decide)
  · exact rt _ H5 (x2'.trans ((e3.trans (e4.trans e5)).ext)) (h4.all e5) (Int.emod_nonneg _ (by omega)) (Int.emod_lt_of_pos _ hm.1)
/-- the draw's body does what the draw says -/
theorem draw_sem {S L C : Addr} {c : Nat} {many : Int} {H0 : Hp} {D : Ends} (hm : 0 < many ∧ many < 9223372036854775808) (hc : c < 2 ^ 40) (hS : StrI S L C c H0)
    (rt : ∀ (r : Int) H, Ext (strB S L C) H0 H → StrI S L C (c + 1) H → 0 ≤ r → r < many → D.rt (.int r) H) :
    tSeq (tWhile (tDrawTest K) (tDrawTurn K)) (tDrawRest K) D [some (.ref S), some (.int many), none, none, none, none] H0 := by
  obtain ⟨ls, cs, t, ht, hL⟩ := hS.told
  show tWhile (tDrawTest K) (tDrawTurn K) { D with nx := tDrawRest K D } _ _
  refine draw_while (D := { D with nx := tDrawRest K D }) hm (fun x2 H e h => ?_) (fun r ls' H e h a b => rt r H e (h.str (by omega)) a b) hL
  exact draw_rest hm (by omega) (fun r H' e' h' a b => rt r H' (e.trans e') (h'.str (by omega)) a b) h
end
section
variable {P : Program} {w : World} {K : PySem.W.Frag} {mg : Str → Option Value} {base : Heap}
theorem fdraw_told {ds : List D} {c : Sx} {P : D → Sx → Prop} {XP : Exn → Sx → Prop} (h : fDraw ds c P XP) : ∃ many : Int, ds = [.int many] ∧ (0 < many ∧ many < 9223372036854775808 ∧ c.n < 2 ^ 40) ∧ ∀ r : Int, 0 ≤ r → r < many → P (.int r) c.up := by
  unfold fDraw at h
  split at h
  · rename_i many
    exact ⟨many, rfl, h.1, h.2⟩
  · exact h.elim
theorem fn_draw (sm : HasSm base) {x qual : Str} {st : Stmt} {f : Addr} {fd : FuncData} {N : List Str} {x0 x1 : Str} {k : Nat} (F : FnP K x qual st f fd) (S : FnScope N [x0, x1] (defScope st)) (hl : N.length = 6)
    (body : ∀ (cdv : Value) (A : Around) (outer : List PySem.Env) (s : Shared) (H : Hp) (E : XK) (p : Par), Sit (bodyX true P w K mg base N qual st f cdv A outer s H E) p k → PSs (bodyX true P w K mg base N qual st f cdv A outer s H E) (defBody st) (tSeq (tWhile (tDrawTest K) (tDrawTurn K)) (tDrawRest K))) :
    FnG true P w K mg base (k + 1) f fd [x0, x1] (spS K mg fDraw) := by
  refine fnG_body F S (fun vs H Q E ⟨_, _, _, ws, _, _, _, _, _, e, _, _, rs, mm, _⟩ => by
    obtain ⟨many, e2, _⟩ := fdraw_told mm
    rw [e, List.length_append, rs.length, e2]
    rfl) (fun cdv A outer s H vs Q E hr hg hsp => ?_)
  obtain ⟨S1, L1, C1, ws, B, ds, c, Pd, XP, rfl, trk, si, rs, mm, kq, ke⟩ := hsp
  obtain ⟨many, rfl, ⟨m1, m2, hc⟩, mr⟩ := fdraw_told mm
  have ok : (parS K S1 L1 C1 H c B XP E).Ok K mg :=
    ⟨fun n H1 H2 h hk im => StI.same h hk im, fun n n' x cl d B1 H1 H' σ st _ hx hs he hr => ke x n' cl d H' hx (st.ext.trans he) hs (exrep_go (fun a z => z.elim (fun z => bm_more he.up a (st.subc a z)) .inr) hr)⟩
  have S' := sit_body (P := P) (w := w) (base := base) (mg := mg) (f := f) (outer := outer) (H := H) (p := parS K S1 L1 C1 H c B XP E) (E := E) S hr hg ok (fun _ _ _ _ h => h) rfl sm
  refine ⟨_, body cdv A outer s H E _ S', ?_⟩
  cases rs with
  | cons r t =>
    cases t
    cases r
    have e : L2.start N ((if true = true then [V.ref S1] else []) ++ [V.int many]) = [some (.ref S1), some (.int many), none, none, none, none] := by
      show L2.start N [V.ref S1, V.int many] = _
      unfold L2.start
      rw [hl]
      rfl
    rw [e]
    refine draw_sem ⟨m1, m2⟩ hc si.str fun r H' e h a b => kq (.int r) c.up _ H' (mr r a b) ⟨e.more fun _ z => .inl z, fun _ z => z, fun _ z _ => z, fun g a z => e.dom a (g a z)⟩ ⟨h, fun a x q => ?_⟩ (.int r)
    have q1 := si.at_ a x q
    exact ⟨q1.1, q1.2.go e.imm fun o ho => e.keep a o ho q1.1⟩
end
section
variable {P : Program} {w : World} {K : PySem.W.Frag} {mg : Str → Option Value} {base : Heap} {X : Cx} {p : Par} {k : Nat}
/-- the script, walked -/
theorem pi_scr (i : Nat) {tg e : Expr} (he : PE X e (tVar i)) : PDI X p tg e (iScr i) := by
  refine ⟨_, pi_list he, fun B H σ E c P R st r m kk => ?_⟩
  have m' : (match E[i]? with | some (.scr ns) => ret (ns.map PyData.int) | _ => stuck) c P p.XP := m
  cases h : E[i]? with
  | none => rw [h] at m'; exact m'.elim
  | some y =>
    rw [h] at m'
    cases y with
    | scr ns =>
      obtain ⟨s, h1, h2⟩ := r.at_ i _ h
      cases h2 with
      | scr q =>
        rename_i a
        refine ⟨_, h1, a, rfl, ⟨_, q H fun o ho _ => ho⟩, kk _ c _ H m' Ev.refl st.si ?_⟩
        refine ⟨fun H' => SqL X.K H' a (ns.map V.int), q H fun o ho _ => ho, fun B1 H1 t => q H1 fun o ho hi => t.ext.imm a o ho hi, ?_⟩
        have wk := walk_list (K := X.K) (a := a) (xs := ns.map V.int)
        rw [List.length_map] at wk ⊢
        refine wk.mono (fun _ h => h) fun i H1 x H' hi hg y => ⟨fun b o e => by rw [y.1]; exact e, fun B1 t _ => ?_⟩
        obtain ⟨n, hn, rfl⟩ : ∃ n, ns[i]? = some n ∧ x = V.int n := by
          have y2 := y.2
          rw [List.getElem?_map] at y2
          cases e : ns[i]? with
          | none => rw [e] at y2; cases y2
          | some n => rw [e] at y2; exact ⟨n, rfl, (Option.some.inj y2).symm⟩
        exact ⟨.int n, by rw [List.getElem?_map, hn]; rfl, .int n⟩
    | _ => exact m'.elim
def spMake (K : PySem.W.Frag) : Sp := fun vs H Q EK => ∃ (a : Addr) (ns : List Int), vs = [.ref a] ∧ ns.length ≤ 63 ∧ (∀ H' : Hp, (∀ o, H a = some o → Imm o → H' a = some o) → SqL K H' a (ns.map V.int)) ∧
  ∀ (S L C : Addr) (H' : Hp), All H H' → StrI S L C 0 H' → Q (.ref S) H'
end
end DL
end
section
namespace DL
open PySem PySem.Spec PyProof.Rows L2
section
variable {P : Program} {w : World} {K : PySem.W.Frag} {mg : Str → Option Value} {base : Heap} {X : Cx} {p : Par} {k : Nat}
/-- the words of the stream's def -/
def mCells : XE := eComp (iScr 0) (.nm 2) tYes (eB1 .abs (eVar 2)) [2]
def mLarge : XE := eComp (iLst (eVar 1)) (.nm 2) (tBool (eCmp .ge (eVar 2) (eBin .pow (eCon (.int 10)) (eCon (.int 18))))) (eVar 2) [2]
def mSmall : XE := eIf (tBool (eCmp .ne (eVar 1) (eLst aNil))) (eVar 1) (eLst (aCons (eCon (.int 41)) aNil))
def absI (i : Int) : Int := if i < 0 then -i else i
theorem comp_abs (E : Env) (h : E.length = 3) : ∀ (ns : List Int) (acc : List D), acc.length + ns.length ≤ 1000 → compL (.nm 2) tYes (eB1 .abs (eVar 2)) (ns.map PyData.int) acc E = ret (acc ++ (ns.map absI).map PyData.int)
  | [], acc, _ => by simp [compL]
  | n :: ns, acc, hl => by
    simp only [List.length_cons] at hl
    have e : (E.set 2 (Ent.val (.int n)))[2]? = some (Ent.val (.int n)) := by rw [List.getElem?_set_self (by omega)]
    have hs : small acc.length := by unfold small; omega
    show bnd (tYes (E.set 2 (Ent.val (.int n)))) _ = _
    simp only [tYes, bnd_ret, if_true, eB1, eVar, e, bi1]
    rw [grd_pos hs, comp_abs E h ns _ (by rw [List.length_append]; simp only [List.length_singleton]; omega)]
    simp [absI]
theorem comp_large (E : Env) (h : E.length = 3) : ∀ (ns : List Int) (acc : List D), acc.length + ns.length ≤ 1000 → compL (.nm 2) (tBool (eCmp .ge (eVar 2) (eBin .pow (eCon (.int 10)) (eCon (.int 18))))) (eVar 2) (ns.map PyData.int) acc E =
      ret (acc ++ (ns.filter fun n => decide (10 ^ 18 ≤ n)).map PyData.int)
  | [], acc, _ => by simp [compL]
  | n :: ns, acc, hl => by
    simp only [List.length_cons] at hl
    have e : (E.set 2 (Ent.val (.int n)))[2]? = some (Ent.val (.int n)) := by rw [List.getElem?_set_self (by omega)]
    have hs : small acc.length := by unfold small; omega
    have hp : opPow (.int 10) (.int 18) = ret (.int (10 ^ 18)) := by
      show grd _ _ = _
      rw [grd_pos (by decide)]
      rfl
    show bnd (tBool _ (E.set 2 (Ent.val (.int n)))) _ = _
    simp only [tBool, eCmp, eBin, eCon, eVar, e, bnd_ret, opBin, hp, opCmp, opLe]
    by_cases hn : (10 : Int) ^ 18 ≤ n
    · rw [decide_eq_true hn, if_pos rfl, grd_pos hs, comp_large E h ns _ (by rw [List.length_append]; simp only [List.length_singleton]; omega), List.filter_cons_of_pos (by simpa using hn)]
      simp
    · rw [decide_eq_false hn, if_neg (by decide), comp_large E h ns _ (by omega), List.filter_cons_of_neg (by simpa using hn)]
/-- the body's par: a def that knows no state -/
def parN (H : Hp) (Q : XK) : Par := ⟨fun _ _ => False, fun _ _ => True, 0, H, .z 0, nB, fun _ _ => False, fun _ => Q, none, fun _ => none⟩
theorem bmN {H : Hp} {Q : XK} {B : Addr → Prop} {c : Sx} : ∀ a, bm (parN H Q) B c a → B a := fun a z => z.elim id fun z => z.elim
theorem st_triv {Q : XK} {H : Hp} : St0 (parN H Q) (.z 0) nB H := ⟨fun _ z => .inl z, fun a z => (bmN a z).elim, True.intro, Ev.refl, fun _ z => z.elim⟩
theorem absI_nonneg (i : Int) : 0 ≤ absI i := by unfold absI; split <;> omega
theorem stream_sem {EK : XK} {H0 : Hp} {ts1 : TS} {te1 te2 : TE} {a : Addr} {ns : List Int} {D : Ends} (hl : ns.length ≤ 63) (hq : ∀ H' : Hp, (∀ o, H0 a = some o → Imm o → H' a = some o) → SqL K H' a (ns.map V.int))
    (a2 : SR K (parN H0 EK) ts1 (sAsg 1 mCells)) (b2 : EvF K (parN H0 EK) te1 mLarge) (c2 : EvR K (parN H0 EK) te2 mSmall)
    (q : ∀ (S L C : Addr) (H' : Hp), All H0 H' → StrI S L C 0 H' → D.rt (.ref S) H') :
    tSeq ts1 (tRet (tLst (tCons te1 (tCons te2 (tCons (tC (.int 0)) tNil))))) D [some (.ref a), none, none] H0 := by
  refine a2 nB H0 _ [.scr ns, .unk, .unk] (.z 0) (fun o _ => o = .nx [.scr ns, .val (.list ((ns.map absI).map PyData.int)), .unk]) _ st_triv ?_ ?_ ?_ ?_ ?_ ?_
  · refine ⟨rfl, fun i e h => ?_, fun i j b xs ys h => ?_, .no rfl, fun j a xs z _ => by cases z⟩
    · match i, h with
      | 0, h => cases h; exact ⟨_, rfl, .scr hq⟩
      | 1, h => cases h; exact ⟨_, rfl, .unk _⟩
      | 2, h => cases h; exact ⟨_, rfl, .unk _⟩
    · match i, h with
      | 0, h => cases h
      | 1, h => cases h
      | 2, h => cases h
  · show bnd (eComp (iScr 0) (.nm 2) tYes (eB1 .abs (eVar 2)) [2] [.scr ns, .unk, .unk]) _ (.z 0) _ _
    show bnd (bnd (ret (ns.map PyData.int)) _) _ (.z 0) _ _
    simp only [bnd_ret]
    rw [comp_abs _ rfl ns [] (by simp only [List.length_nil]; omega)]
    rfl
  · rintro E' c' B' σ' H' hE st' tr' r'
    cases hE
    refine b2 B' H' σ' _ c' (fun d _ => d = .list (((ns.map absI).filter fun n => decide (10 ^ 18 ≤ n)).map PyData.int)) _ st' r' ?_ ?_
    · show bnd (bnd (ret _) _) _ c' _ _
      show bnd (noX (compL (.nm 2) (tBool (eCmp .ge (eVar 2) (eBin .pow (eCon (.int 10)) (eCon (.int 18))))) (eVar 2) ((ns.map absI).map PyData.int) [] _)) _ c' _ _
      rw [comp_large _ rfl (ns.map absI) [] (by simp only [List.length_nil, List.length_map]; omega)]
      rfl
    · rintro ds c1 L xs H1 hds e1 _ hL h1 rs
      cases hds
      have hxs := rs.ints (ints?_map _)
      subst hxs
      have st1 := st_q st' hL.1 e1.q True.intro (some_ne h1) (n' := c1)
      have r1 := env_q0 rfl r' st' hL.1 e1.q
      refine c2 _ H1 σ' _ c1 (fun d _ => d = .list ((if ns = [] then [41] else ns.map absI).map PyData.int)) _ st1 r1 ?_ ?_
      · have he : opEq (.list ((ns.map absI).map PyData.int)) (.list []) = ret (decide (ns = [])) := by
          unfold opEq
          rw [grd_pos (eqOk_of (shaped_ints _) rfl)]
          cases ns with
          | nil => rfl
          | cons n r => rfl
        have g0 : small ([] : List PyData).length := Nat.zero_le _
        have g1 : small [PyData.int 41].length := by show 1 ≤ 1000000; omega
        simp only [mSmall, eIf, tBool, eCmp, eVar, eLst, aNil, aCons, eCon, List.getElem?_cons_succ, List.getElem?_cons_zero, bnd_ret, grd_pos g0, grd_pos g1, opCmp, he]
        by_cases hn : ns = []
        · rw [hn]
          rfl
        · rw [decide_eq_false hn, if_neg hn]
          rfl
      · rintro d c3 v H2 rfl e2 _ rv
        cases rv with
        | lst h2 nb rs2 =>
          rename_i C ys
          have hys := rs2.ints (ints?_map _)
          subst hys
          have hLC : L ≠ C := fun z => nb (.inl (.inr z.symm))
          have h1' : H2 L = some (.lst (((ns.map absI).filter fun n => decide (10 ^ 18 ≤ n)).map V.int)) := e2.ext.keep _ _ h1 fun z => z
          refine ⟨by rw [sizeLine_eq]; show 3 ≤ _; decide, fun S hS => ?_⟩
          have nL : S ≠ L := fun z => by rw [z, h1'] at hS; cases hS
          have nC : S ≠ C := fun z => by rw [z, h2] at hS; cases hS
          refine q S L C _ ((all_of st'.ext.ext).trans ((all_of e1.ext).trans ((all_of e2.ext).trans (All.new hS)))) ⟨nL, nC, hLC, (ns.map absI).filter fun n => decide (10 ^ 18 ≤ n), if ns = [] then [41] else ns.map absI, 0, Nat.le_refl 0, upd_same, ?_, ?_, ?_, ?_, ?_, ?_⟩
          · rw [upd_ne nL.symm]; exact h1'
          · rw [upd_ne nC.symm]; exact h2
          · split
            · exact fun z => nomatch z
            · rename_i hn
              exact fun z => hn (List.map_eq_nil_iff.mp z)
          · intro x hx
            obtain ⟨y, _, rfl⟩ := List.mem_map.mp (List.mem_filter.mp hx).1
            exact absI_nonneg y
          · intro x hx
            split at hx
            · rw [List.mem_singleton.mp hx]; decide
            · obtain ⟨y, _, rfl⟩ := List.mem_map.mp hx
              exact absI_nonneg y
          · split
            · decide
            · rw [List.length_map]; omega
  · rintro d c' v H' h; cases h
  · rintro E' c' B' σ' H' h; cases h
  · rintro E' c' B' σ' H' h; cases h
end
section
variable {P : Program} {w : World} {K : PySem.W.Frag} {mg : Str → Option Value} {base : Heap}
/-- the stream's def -/
theorem fn_stream (sm : HasSm base) {x qual : Str} {st : Stmt} {f : Addr} {fd : FuncData} {N : List Str} {x0 : Str} {k : Nat} (F : FnP K x qual st f fd) (S : FnScope N [x0] (defScope st)) (hl : N.length = 3)
    (body : ∀ (cdv : Value) (A : Around) (outer : List PySem.Env) (s : Shared) (H : Hp) (E : XK) (p : Par), Sit (bodyX true P w K mg base N qual st f cdv A outer s H E) p k →
      ∃ (s1 : Stmt) (e1 e2 : Expr), (∀ t1 te1 te2, PS (bodyX true P w K mg base N qual st f cdv A outer s H E) s1 t1 → PE (bodyX true P w K mg base N qual st f cdv A outer s H E) e1 te1 → PE (bodyX true P w K mg base N qual st f cdv A outer s H E) e2 te2 →
          PSs (bodyX true P w K mg base N qual st f cdv A outer s H E) (defBody st) (tSeq t1 (tRet (tLst (tCons te1 (tCons te2 (tCons (tC (.int 0)) tNil))))))) ∧
        PSD (bodyX true P w K mg base N qual st f cdv A outer s H E) p s1 (sAsg 1 mCells) ∧ PDF (bodyX true P w K mg base N qual st f cdv A outer s H E) p e1 mLarge ∧ PD (bodyX true P w K mg base N qual st f cdv A outer s H E) p e2 mSmall) :
    FnG true P w K mg base (k + 1) f fd [x0] (spMake K) := by
  refine fnG_body F S (fun vs H Q E ⟨_, _, e, _⟩ => by rw [e]; rfl) (fun cdv A outer s H vs Q E hr hg hsp => ?_)
  obtain ⟨a, ns, rfl, hn, hS, kq⟩ := hsp
  have ok : (parN H E).Ok K mg := ⟨fun _ _ _ _ _ _ => True.intro, fun _ _ _ _ _ _ _ _ _ _ _ z => z.elim⟩
  have S' := sit_body (P := P) (w := w) (base := base) (mg := mg) (f := f) (outer := outer) (H := H) (p := parN H E) (E := E) S hr hg ok (fun _ _ _ _ h => h) rfl sm
  obtain ⟨s1, e1, e2, mk, h1, h2, h3⟩ := body cdv A outer s H E _ S'
  obtain ⟨t1, a1, a2⟩ := h1.ex
  obtain ⟨t2, b1, b2⟩ := h2.ex
  obtain ⟨t3, c1, c2⟩ := h3.ex
  refine ⟨_, mk t1 t2 t3 a1 b1 c1, ?_⟩
  have e : L2.start N [V.ref a] = [some (.ref a), none, none] := by
    unfold L2.start
    rw [hl]
    rfl
  rw [e]
  exact stream_sem hn hS a2 b2 c2 fun S L C H' al si => kq S L C H' al si
theorem pss_any {X : Cx} {ss : List Stmt} : PSs X ss (fun D σ H => ∃ ts, PSs X ss ts ∧ ts D σ H) := ⟨fun pins s σ H D I ⟨_, h, q⟩ => h.run pins s σ H D I q⟩
/-- what the law is asked -/
def spLaw (K : PySem.W.Frag) : Sp := fun vs H Q _ => ∃ (a : Addr) (ns : List Int), vs = [.ref a] ∧ ns.length ≤ 63 ∧ (∀ H' : Hp, (∀ o, H a = some o → Imm o → H' a = some o) → SqL K H' a (ns.map V.int)) ∧ ∀ H', Q (.bl true) H'
/-- the law's own environment: the stream at i -/
def lawE (n i : Nat) : Env := (List.replicate n Ent.unk).set i .stm
theorem fn_law (sm : HasSm base) {x qual : Str} {st : Stmt} {f fM : Addr} {fd fdM : FuncData} {N : List Str} {x0 : Str} {j k i : Nat} {m : XS} (F : FnP K x qual st f fd) (S : FnScope N [x0] (defScope st)) (hi : i < N.length) (h0 : 0 < N.length)
    (G : FnG true P w K mg base j fM fdM [x0] (spMake K)) (hj : j ≤ k)
    (body : ∀ (cdv : Value) (A : Around) (outer : List PySem.Env) (s : Shared) (H : Hp) (E : XK), ∃ rest,
      (∀ ts, (RoomB true k (bodyX true P w K mg base N qual st f cdv A outer s H E).A → (bodyX true P w K mg base N qual st f cdv A outer s H E).A.guards = some [] → (∀ σ, PassesAt (CXd K P w) (bodyX true P w K mg base N qual st f cdv A outer s H E) σ E) → PSs (bodyX true P w K mg base N qual st f cdv A outer s H E) rest ts →
        PSs (bodyX true P w K mg base N qual st f cdv A outer s H E) (defBody st) (tSeq (tAsg (tCallSD (spMake K) [] (fun _ => E) (tCons (tVar 0) tNil)) (gName i)) ts))) ∧
      ∀ (p : Par), Sit (bodyX true P w K mg base N qual st f cdv A outer s H E) p k → IsStr K p → (∀ i, p.pin i = none) → PSSD (bodyX true P w K mg base N qual st f cdv A outer s H E) p rest m)
    (math : m (lawE N.length i) (.z 0) (fun o _ => o = .rt (.bool true)) fun _ _ => False) : FnG true P w K mg base (k + 1) f fd [x0] (spLaw K) := by
  refine fnG_body F S (fun vs H Q E ⟨_, _, e, _⟩ => by rw [e]; rfl) (fun cdv A outer s H vs Q E hr hg hsp => ?_)
  obtain ⟨a, ns, rfl, hn, hS, kq⟩ := hsp
  obtain ⟨rest, mk, hb⟩ := body cdv A outer s H E
  refine ⟨_, mk _ hr hg (fun σ => passes_callD (E := E) (takes_ofD rfl rfl rfl rfl) (fun _ _ _ _ h => h) σ) pss_any, ?_⟩
  have e0 : (L2.start N [V.ref a])[0]? = some (some (.ref a)) := rfl
  refine ⟨.ref a, e0, a, ns, rfl, hn, hS, fun S1 L1 C1 H1 al si => ?_⟩
  have okp : (parS K S1 L1 C1 H1 (.z 0) nB (fun _ _ => False) E).Ok K mg :=
    ⟨fun n Ha Hb h hk im => StI.same h hk im, fun _ _ _ _ _ _ _ _ _ _ _ z => z.elim⟩
  have sti : StI K S1 L1 C1 (.z 0) H1 := ⟨si, fun a x e => by cases e⟩
  have S' := sit_body (P := P) (w := w) (base := base) (mg := mg) (f := f) (outer := outer) (H := H) (p := parS K S1 L1 C1 H1 (.z 0) nB (fun _ _ => False) E) (E := E) S hr hg okp (fun _ _ _ _ h => h) rfl sm
  obtain ⟨ts, t1, t2⟩ := (hb _ S' ⟨S1, L1, C1, rfl, rfl, rfl⟩ fun _ => rfl).ex
  refine ⟨ts, t1, ?_⟩
  have l1 : (L2.start N [V.ref a]).length = N.length := by
    unfold L2.start
    rw [List.length_append, List.length_map, List.length_replicate, List.length_singleton]
    omega
  refine t2 nB H1 _ (lawE N.length i) (.z 0) (fun o _ => o = .rt (.bool true)) _ ⟨fun _ z => .inl z, fun a z => z.elim (fun z => z.elim) fun z => sti.there z, sti, Ev.refl, fun _ z => z.elim⟩ ⟨?_, fun q e h => ?_, fun q r b xs ys h => ?_, .no rfl, fun j a xs z _ => by cases z⟩ math ?_ ?_ ?_ ?_
  · unfold lawE
    rw [List.length_set, List.length_set, l1, List.length_replicate]
  · unfold lawE at h
    rw [List.getElem?_set] at h ⊢
    by_cases hq : i = q
    · rw [if_pos hq] at h ⊢
      rw [List.length_replicate, if_pos hi] at h
      rw [l1, if_pos hi]
      cases h
      exact ⟨_, rfl, .stm (p := parS K S1 L1 C1 H1 (.z 0) nB (fun _ _ => False) E)⟩
    · rw [if_neg hq] at h ⊢
      rw [List.getElem?_replicate] at h
      split at h
      · cases h
        rename_i hlt
        exact ⟨_, List.getElem?_eq_getElem (by rw [l1]; exact hlt), .unk _⟩
      · cases h
  · unfold lawE at h
    rw [List.getElem?_set] at h
    by_cases hq : i = q
    · rw [if_pos hq] at h
      split at h <;> cases h
    · rw [if_neg hq, List.getElem?_replicate] at h
      split at h <;> cases h
  · rintro E' c' B' σ' H' h; cases h
  · intro d c' v H' h _ _ rv
    cases h
    cases rv
    exact kq H'
  · rintro E' c' B' σ' H' h; cases h
  · rintro E' c' B' σ' H' h; cases h
end
section
variable {P : Program} {w : World} {K : PySem.W.Frag} {mg mb : Str → Option Value}
theorem enter_law {k : Nat} {f a : Addr} {fd : FuncData} {x : Str} {s : Shared} {us : List Value} {ns : List Int} (inK : K.In s.heap) (g : s.heap.Ns mainGlobals mg) (b : s.heap.Ns builtinsNs mb) (bb : ∀ y : Str, y ≠ "__name__" → mb y = bootBuiltins y)
    (lim : s.heap.NoLimit) (noGens : s.gens = #[]) (hObj : s.heap.get? a = some { cls := .type "list", data := .seq us.toArray }) (isI : IntsAre us ns) (few : ns.length ≤ 63) (room : Room k callerA)
    (G : ∀ bh : Heap, K.In bh → bh.Ns mainGlobals mg → FnG true P w K mg bh k f fd [x] (spLaw K)) (binds : ∀ (t : Shared) (u : Value), BindsTo t fd ⟨[u], []⟩ [(x, u)]) :
    codeAny (model P w) callerA (.call (.ref f) ⟨[.ref a], []⟩) (fun r t => r = .ok (.ret (.bool true)) ∧ OldK s.heap t.heap ∧ t.os = s.os ∧ AllBare t.gens) s := by
  have vals := vals_ints isI
  have fewL : ns.length ≤ sizeLine := Nat.le_trans few (by rw [sizeLine_eq]; decide)
  have lens := isI.length
  classical
  let fz : HO := .frz { cls := .type "list", data := .seq us.toArray } (.lst (ns.map V.int))
  let H : Hp := fun c => if c = a ∧ K.lookup a = none then some fz else none
  have Hin : ∀ c o, H c = some o → c = a ∧ K.lookup a = none ∧ o = fz := fun c o h => by
    by_cases hc : c = a ∧ K.lookup a = none
    · have z := (if_pos hc).symm.trans h
      cases z
      exact ⟨hc.1, hc.2, rfl⟩
    · have z := (if_neg hc).symm.trans h
      cases z
  have Hno : ∀ c, (c ≠ a ∨ K.lookup a ≠ none) → H c = none := fun c h => if_neg fun z => h.elim (fun q => q z.1) fun q => q z.2
  have seqA : ∀ H' : Hp, (∀ o, H a = some o → Imm o → H' a = some o) → SqL K H' a (ns.map V.int) := by
    intro H' hk
    cases q : K.lookup a with
    | none => exact .inl (.inr ⟨_, hk fz (if_pos ⟨rfl, q⟩) True.intro⟩)
    | some o =>
      have e := inK a o q
      rw [hObj] at e
      cases e
      exact .inr ⟨_, us.toArray, _, q, rfl, rfl, rfl, by rw [List.size_toArray, lens]; exact fewL, by simpa using vals⟩
  have kept : ∀ {c : Addr} {o : Obj}, s.heap.get? c = some o → H c = none → (hidT s.heap H).get? c = some o := fun h1 h2 => hidT_get h1 h2
  have dictNo : ∀ {c : Addr} {o : Obj} {es : Array DictEntry} {n : Nat}, s.heap.get? c = some o → o.data = .dict es n → H c = none := fun {c o es n} h1 h2 => Hno c (.inl fun z => by
    rw [z, hObj] at h1
    cases h1
    have h3 : Data.seq us.toArray _ = Data.dict es n := h2
    cases h3)
  have nsTo : ∀ {c : Addr} {m : Str → Option Value}, s.heap.Ns c m → (hidT s.heap H).Ns c m := fun {c m} ⟨o, es, n, h1, h2, h3⟩ => ⟨o, es, n, kept h1 (dictNo h1 h2), h2, h3⟩
  have inB : K.In (hidT s.heap H) := fun c o h => kept (inK c o h) (Hno c (by
    by_cases z : c = a
    · exact .inr (by rw [← z, h]; exact fun q => nomatch q)
    · exact .inl z))
  have md : Mod K mg (hidT s.heap H) := ⟨inB, nsTo g, ⟨mb, nsTo b, bb⟩, let ⟨m2, y1, y2⟩ := lim; ⟨m2, nsTo y1, y2⟩⟩
  have good : HOk P w H s.heap := fun c o h => by
    obtain ⟨rfl, _, rfl⟩ := Hin c o h
    exact ⟨hObj, by rw [List.length_map]; exact fewL, us, _, vals, hObj⟩
  have start0 : Env0 P w K mg (hidT s.heap H) callerA [] s H := ⟨rfl, md, fun c o h => of_hidT h, Nat.le_of_eq (hidT_size _ _), trivial, fun c hc => (nomatch hc), good, .of_eq noGens⟩
  have asked : spLaw K [.ref a] H (fun v _ => v = .bl true) fun _ _ _ => False := ⟨a, ns, rfl, few, seqA, fun _ => rfl⟩
  have ran := (G _ inB (nsTo g)).go callerA [] s H ⟨[.ref a], []⟩ [.ref a] [.ref a] _ _ (.of room) rfl start0 (binds s (.ref a)) (.cons rfl .nil) asked
  refine codeAny_mono ran fun r t h => ?_
  match r, h with
  | .error e, h =>
    exact (no_cxD (fun _ _ _ z => z) h).elim
  | .ok (.ret u), h =>
    obtain ⟨v, H2, os2, bare2, un2, ok2, rel2, veq⟩ := h
    have veq' : v = .bl true := veq
    rw [veq'] at rel2
    have ueq : u = Value.bool true := rel2
    rw [ueq]
    refine ⟨rfl, OldK.of_keep fun c o hc => ?_, os2, bare2⟩
    cases q : H c with
    | none => exact un2.keep c o hc q (fun z => (nomatch z)) (fun z => (nomatch z))
    | some o2 =>
      obtain ⟨rfl, _, rfl⟩ := Hin c o2 q
      obtain ⟨g1, _⟩ := good c _ q
      obtain ⟨g2, _⟩ := ok2 c _ (un2.frzs c _ _ q)
      rw [hc] at g1
      cases g1
      exact g2
  | .ok .next, h => exact h.elim
  | .ok .brk, h => exact h.elim
  | .ok .cont, h => exact h.elim
end
theorem walk_law {l : PySem.W.OpenLaw} {k : Nat} {q : Program} {loose : List Str} {XP : (Str → Option Value) → Heap → Prop} {YP : World → Heap → Prop} {d : DefRec} {x : Str} (hn : l.most = some 63) (hdf : d.params.defaults = []) (room : Room k callerA)
    (F : ∀ (w : World) (mg : Str → Option Value) (f : Addr) (h : Heap), YP w h → h.Ns mainGlobals mg → mg d.name = some (.ref f) →
      ∃ (K : PySem.W.Frag) (fd : FuncData), K.In h ∧ (∀ (t : Shared) (u : Value), BindsTo t fd ⟨[u], []⟩ [(x, u)]) ∧ ∀ bh : Heap, K.In bh → bh.Ns mainGlobals mg → FnG true l.prog w K mg bh k f fd [x] (spLaw K)) :
    PySem.W.WalkO q loose XP YP l.row.toRowW d [] (fun f vs => PySem.call f vs) := by
  refine Att.attach_call hn hdf fun w s0 s mg mb f o pm cd doc a us ns gr Y _ _ _ hmg hObj isI few noGens => ?_
  obtain ⟨K, fd, inK, bd, G⟩ := F w mg f _ Y gr.T.g hmg
  exact enter_law inK gr.T.g gr.T.b gr.T.builtins gr.T.nolimit noGens hObj isI few room G bd
end DL
end
section
namespace DL
open PySem PySem.Spec PyProof.Rows L2
section
variable {X : Cx} {p : Par} {k : Nat} {tg : Expr}
def wAny (K : PySem.W.Frag) (te : TE) : TI := fun σ H R => te σ H fun x H1 => ∃ a, x = .ref a ∧ ((∃ xs, SqL K H1 a xs ∧ R (Itl K a) H1) ∨ (∃ xs, SqT K H1 a xs ∧ R (Itt K a) H1))
theorem pi_any {e : Expr} {te : TE} (he : PE X e te) : PI X tg e (wAny X.K te) := by
  constructor
  intro pins s σ H R I h
  refine thn (he.run pins s σ H _ I h) fun v s2 ⟨x, H2, I2, rel, a, xe, alt⟩ => ?_
  subst xe
  cases rel
  have youngest : ∀ c, c ∈ [s2.heap.objs.size] → FpOk X pins H2 c := fun c hc => by
    rw [List.mem_singleton.mp hc]
    exact I2.fpOk (Nat.le_refl _) (I2.hok.fresh (Nat.le_refl _))
  rcases alt with ⟨xs, sq, r⟩ | ⟨xs, sq, r⟩
  · obtain ⟨its, vals, isl, _⟩ := I2.list sq
    exact wpAny_pyIter_list isl.isList ⟨s2.heap.objs.size, [s2.heap.objs.size], _, _, H2, rfl, I2.kept (t' := s2.toks) fun c o h => Heap.get?_push_of_some _ h, turn_list a _, ⟨_, Heap.get?_push_size _ rfl, rfl, rfl⟩, youngest, r⟩
  · obtain ⟨its, vals, ist, _⟩ := I2.tuple sq
    exact wpAny_pyIter_tuple (show s2.heap.IsTuple a its.toArray from ist) ⟨s2.heap.objs.size, [s2.heap.objs.size], _, _, H2, rfl, I2.kept (t' := s2.toks) fun c o h => Heap.get?_push_of_some _ h, turn_tuple a _, ⟨_, Heap.get?_push_size _ rfl, rfl, rfl⟩, youngest, r⟩
theorem pi_seq {e : Expr} {m : XE} (he : PD X p e m) : PDI X p tg e (iSeq m) := by
  obtain ⟨te, a1, a2⟩ := he.ex
  refine ⟨_, pi_any a1, fun B H σ E c P R st r m k => ?_⟩
  refine a2 B H σ E _ _ _ st r m fun d c1 v H1 m1 e1 s1 r1 => ?_
  cases r1 with
  | lst q n t => exact ⟨_, rfl, .inl ⟨_, SqL.of q, k _ _ _ H1 m1 e1 s1 (walkD_list q n t)⟩⟩
  | tup q t => exact ⟨_, rfl, .inr ⟨_, q, k _ _ _ H1 m1 e1 s1 (walkD_tup q t)⟩⟩
  | _ => exact m1.elim
end
end DL
end
section
namespace DL
open PySem PySem.Spec PyProof.Rows L2
/-- a sequence, by its kind: a tuple, a list -/
def SqX (K : PySem.W.Frag) (t : Bool) (H : Hp) (a : Addr) (xs : List V) : Prop := if t = true then SqT K H a xs else SqL K H a xs
def ItX (t : Bool) (h : Heap) (it a : Addr) (i : Nat) : Prop := if t = true then h.IsTupleIter it a i else h.IsListIter it a i
def ObX (t : Bool) (h : Heap) (a : Addr) (its : List Value) : Prop := if t = true then h.IsTuple a its.toArray else h.IsList a its.toArray
def cellX (t : Bool) (a : Addr) : Obj := if t = true then { cls := .type "tuple_iterator", data := .fields #[.ref a, .int 0 0] } else { cls := .type "list_iterator", data := .fields #[.ref a, .int 0 0] }
theorem ItX.at_ {t : Bool} {h h' : Heap} {it a : Addr} {i : Nat} (x : ItX t h it a i) (e : ∀ o, h.get? it = some o → h'.get? it = some o) : ItX t h' it a i := by
  cases t
  · exact Heap.IsListIter.at (h := h) x e
  · exact Heap.IsTupleIter.at (h := h) x e
theorem ItX.get {t : Bool} {h : Heap} {it a : Addr} {i : Nat} (x : ItX t h it a i) : ∃ o vs, h.get? it = some o ∧ o.data = .fields vs := by
  cases t
  · obtain ⟨o, e, _, d⟩ := (show h.IsListIter it a i from x); exact ⟨o, _, e, d⟩
  · obtain ⟨o, e, _, d⟩ := (show h.IsTupleIter it a i from x); exact ⟨o, _, e, d⟩
theorem drawsX {P : Program} {w : World} {A : Around} (hh : A.handled = none) (t : Bool) (it a : Addr) (hne : a ≠ it) (its : List Value) :
    Draws P w A it [it, a] its.length (fun i v => its[i]? = some v) (fun i h => ItX t h it a i ∧ ObX t h a its) := by
  cases t
  · have := Draws.list (prog := P) (w := w) hh it a hne its.toArray
    simpa [ItX, ObX] using this
  · have := Draws.tuple (prog := P) (w := w) hh it a hne its.toArray
    simpa [ItX, ObX] using this
section
variable {X : Cx} {pins : List (Addr × Obj)} {σ : L2.St} {H : Hp} {s : Shared}
theorem inv_X {t : Bool} {a : Addr} {xs : List V} (I : Inv X pins σ H s) (h : SqX X.K t H a xs) : ∃ its : List Value, Vals xs its ∧ ObX t s.heap a its := by
  cases t
  · obtain ⟨its, r, p, _⟩ := I.list (show SqL X.K H a xs from h)
    exact ⟨its, r, p.isList⟩
  · obtain ⟨its, r, p, _⟩ := I.tuple (show SqT X.K H a xs from h)
    exact ⟨its, r, (show s.heap.IsTuple a its.toArray from p)⟩
theorem inj_X {t : Bool} {a : Addr} {xs ys : List V} (I : Inv X pins σ H s) (h : SqX X.K t H a xs) (h' : SqX X.K t H a ys) : xs = ys := by
  cases t
  · exact I.list_inj h h'
  · exact I.tuple_inj h h'
end
theorem obX_ne {t : Bool} {h : Heap} {a it : Addr} {its : List Value} {o : Obj} {vs : Array Value} (x : ObX t h a its) (e : h.get? it = some o) (d : o.data = .fields vs) : a ≠ it := by
  rintro rfl
  cases t
  · obtain ⟨o', e', _, n, d'⟩ := (show h.IsList a its.toArray from x)
    rw [e] at e'
    cases e'
    rw [d] at d'
    cases d'
  · obtain ⟨o', e', _, n, d'⟩ := (show h.IsTuple a its.toArray from x)
    rw [e] at e'
    cases e'
    rw [d] at d'
    cases d'
theorem beginsX (t : Bool) (a : Addr) (its : List Value) : Begins (.ref a) (cellX t a) fun h => ObX t h a its := by
  cases t
  · exact begins_list a its.toArray
  · exact begins_tuple a its.toArray
theorem itX_new {t : Bool} {h : Heap} {it a : Addr} (e : h.get? it = some (cellX t a)) : ItX t h it a 0 := by
  cases t <;> exact ⟨_, e, rfl, rfl⟩
end DL
end
section
namespace DL
open PySem PySem.Spec PyProof.Rows L2
end DL
end
section
namespace DL
open PySem PySem.Spec PyProof.Rows L2
/-- two sequences as they stand at each turn, their items in new pairs -/
def ItzX (K : PySem.W.Frag) (t u : Bool) (a b : Addr) : It :=
  ⟨fun i H => ∃ (xs ys : List V) (x y : V), SqX K t H a xs ∧ SqX K u H b ys ∧ xs[i]? = some x ∧ ys[i]? = some y,
   fun i H v H' => ∃ T x y, v = .ref T ∧ H T = none ∧ H' = upd H T (.tup [x, y]) ∧ (∀ xs, SqX K t H a xs → xs[i]? = some x) ∧ ∀ ys, SqX K u H b ys → ys[i]? = some y,
   fun i H => ∃ xs ys : List V, SqX K t H a xs ∧ SqX K u H b ys ∧ i = min xs.length ys.length⟩
theorem turn_zipX {P : Program} {w : World} {K : PySem.W.Frag} {elts : List Expr} {kk : Nat} {tpos : Pos} (t u : Bool) {a b z TI TO i1 i2 : Addr} (D : ZipSep2 z TI TO i1 i2 [i1, a] [i2, b]) :
    Turn P w K (.Tuple elts kk tpos) (ItzX K t u a b) [z, TI, TO, i1, i2] z
      (fun i h => IsZip h z TI TO .none ∧ IsTupOf2 h TI (.ref i1) (.ref i2) ∧ (∃ x y, IsTupOf2 h TO x y) ∧ ItX t h i1 a i ∧ ItX u h i2 b i) where
  mem := List.mem_cons_self ..
  obj := fun i h st c hc => by
    obtain ⟨hz, hTI, ⟨x, y, hTO⟩, h1, h2⟩ := st
    obtain ⟨o1, v1, e1, d1⟩ := h1.get
    obtain ⟨o2, v2, e2, d2⟩ := h2.get
    have cases5 : c = z ∨ c = TI ∨ c = TO ∨ c = i1 ∨ c = i2 := by simpa using hc
    rcases cases5 with q | q | q | q | q <;> rw [q]
    · exact ⟨_, hz, fun v q => nomatch q⟩
    · exact ⟨_, hTI, fun v q => nomatch q⟩
    · exact ⟨_, hTO, fun v q => nomatch q⟩
    · exact ⟨o1, e1, fun v q => by rw [d1] at q; cases q⟩
    · exact ⟨o2, e2, fun v q => by rw [d2] at q; cases q⟩
  keep := fun i h h' st k => by
    obtain ⟨hz, hTI, ⟨x, y, hTO⟩, h1, h2⟩ := st
    exact ⟨k z (by simp) _ hz, k TI (by simp) _ hTI, ⟨x, y, k TO (by simp) _ hTO⟩, h1.at_ fun o q => k i1 (by simp) o q, h2.at_ fun o q => k i2 (by simp) o q⟩
  item := by
    intro X hP hw hK calm i pins s σ H E I fresh st going
    subst hP hw hK
    obtain ⟨hz, hTI, ⟨x0, y0, hTO⟩, h1, h2⟩ := st
    obtain ⟨xs, ys, x, y, sx, sy, hx, hy⟩ := going
    obtain ⟨its1, vals1, ob1⟩ := inv_X I sx
    obtain ⟨its2, vals2, ob2⟩ := inv_X I sy
    obtain ⟨u1, hu1, ru1⟩ := vals1.get hx
    obtain ⟨u2, hu2, ru2⟩ := vals2.get hy
    obtain ⟨o1, v1, e1, d1⟩ := h1.get
    obtain ⟨o2, v2, e2, d2⟩ := h2.get
    have nh : X.A.in1.handled = none := I.ok.hd calm
    have D1 := drawsX (P := X.prog) (w := X.w) nh t i1 a (obX_ne ob1 e1 d1) its1
    have D2 := drawsX (P := X.prog) (w := X.w) nh u i2 b (obX_ne ob2 e2 d2) its2
    have zLt : z < s.heap.objs.size := Heap.lt_size hz
    refine wpAny_pyNext_zipD2_item D D1 D2 hz hTI hTO ⟨h1, ob1⟩ ⟨h2, ob2⟩ (List.getElem?_eq_some_iff.mp hu1).1 (List.getElem?_eq_some_iff.mp hu2).1 fun y1 y2 h' tk hy1 hy2 z' TO' st1 st2 hT hsz kept => ?_
    have q1 : y1 = u1 := Option.some.inj (hy1.symm.trans hu1)
    have q2 : y2 = u2 := Option.some.inj (hy2.symm.trans hu2)
    subst q1 q2
    refine ⟨_, rfl, wpAny_letOwnedTupleGo_zip (s := { s with heap := h', toks := tk }) z' fun h3 z3 same => ?_⟩
    have hT3 : h3.get? s.heap.objs.size = some { cls := .type "tuple", data := .seq #[y1, y2] } := (same.2 _ (Nat.ne_of_gt zLt)).trans hT
    have made : ObjOk X.prog X.w (upd H s.heap.objs.size (.tup [x, y])) h3 s.heap.objs.size (.tup [x, y]) :=
      ⟨by show 2 ≤ sizeLine; rw [sizeLine_eq]; decide, [y1, y2], .cons ru1 (.cons ru2 .nil), ⟨_, hT3, rfl, _, rfl⟩⟩
    have I3 : Inv X pins σ (upd H s.heap.objs.size (.tup [x, y])) { s with heap := h3, toks := tk } :=
      I.turnedNew (t' := tk) (ch := [z, TI, TO, i1, i2]) (fun c o hb q => (same.2 c (fun q' => hb (by simp [q']))).trans (kept c o (fun q' => hb (by simp [q'])) (fun q' => hb (by simp [q'])) (fun q' => hb (by simp [q'])) (fun q' => hb (by simp [q'])) q)) fresh (Nat.le_refl _) made
    have ni1 : i1 ≠ z := fun q => D.zi1 q.symm
    have ni2 : i2 ≠ z := fun q => D.zi2 q.symm
    refine ⟨.ref s.heap.objs.size, _, I3, rfl, ⟨_, x, y, rfl, I.hok.fresh (Nat.le_refl _), rfl, fun l hl => by rw [inj_X I hl sx]; exact hx, fun l hl => by rw [inj_X I hl sy]; exact hy⟩, ⟨z3, ?_, ⟨y1, y2, ?_⟩, ?_, ?_⟩, fun c hcm => ?_⟩
    · have TIi2 : TI ≠ i2 := D.TIi2
      exact (same.2 _ D.TIz).trans (kept _ _ D.TIz D.TITO D.TIi1 TIi2 hTI)
    · exact (same.2 _ D.TOz).trans TO'
    · exact st1.1.at_ fun o q => (same.2 _ ni1).trans q
    · exact st2.1.at_ fun o q => (same.2 _ ni2).trans q
    · have lt : c < s.heap.objs.size := by
        have cases5 : c = z ∨ c = TI ∨ c = TO ∨ c = i1 ∨ c = i2 := by simpa using hcm
        rcases cases5 with q | q | q | q | q <;> rw [q]
        · exact zLt
        · exact Heap.lt_size hTI
        · exact Heap.lt_size hTO
        · exact Heap.lt_size e1
        · exact Heap.lt_size e2
      rw [upd_ne (Nat.ne_of_lt lt)]
      exact (fresh c hcm).1
  done := by
    intro X hP hw hK calm i pins s σ H E I fresh st ending
    subst hP hw hK
    obtain ⟨hz, hTI, ⟨x0, y0, hTO⟩, h1, h2⟩ := st
    obtain ⟨xs, ys, sx, sy, hi⟩ := ending
    obtain ⟨its1, vals1, ob1⟩ := inv_X I sx
    obtain ⟨its2, vals2, ob2⟩ := inv_X I sy
    obtain ⟨o1, v1, e1, d1⟩ := h1.get
    obtain ⟨o2, v2, e2, d2⟩ := h2.get
    have nh : X.A.in1.handled = none := I.ok.hd calm
    have D1 := drawsX (P := X.prog) (w := X.w) nh t i1 a (obX_ne ob1 e1 d1) its1
    have D2 := drawsX (P := X.prog) (w := X.w) nh u i2 b (obX_ne ob2 e2 d2) its2
    have l1 := vals1.length
    have l2 := vals2.length
    exact wpAny_pyNext_zipD2_end D D1 D2 hz hTI hTO ⟨h1, ob1⟩ ⟨h2, ob2⟩ (by omega) (by omega) (by omega) fun h' tk kept => ⟨rfl, I.turnedL (t' := tk) (ch := [z, TI, TO, i1, i2]) (fun c o hb q =>
      kept c o (fun q' => hb (by simp [q'])) (fun q' => hb (by simp [q'])) (fun q' => hb (by simp [q'])) (fun q' => hb (by simp [q'])) q) fresh⟩
  self := fun A i s Q E st h => wpAny_pyIter_zip st.1 h
section
variable {X : Cx} {p : Par} {k : Nat}
def qZip (K : PySem.W.Frag) (R : It → Hp → Prop) (x y : V) (H1 : Hp) : Prop := ∃ a b t u xs ys, x = .ref a ∧ y = .ref b ∧ SqX K t H1 a xs ∧ SqX K u H1 b ys ∧ R (ItzX K t u a b) H1
def wZip (K : PySem.W.Frag) (te tf : TE) : TI := fun σ H R => te σ H fun x H1 => tf σ H1 fun y H2 => qZip K R x y H2
theorem obX_lt {t : Bool} {h : Heap} {a : Addr} {its : List Value} (x : ObX t h a its) : a < h.objs.size := by
  cases t
  · obtain ⟨o, e, _⟩ := (show h.IsList a its.toArray from x); exact Heap.lt_size e
  · obtain ⟨o, e, _⟩ := (show h.IsTuple a its.toArray from x); exact Heap.lt_size e
theorem pi_zipX {e f : Expr} {te tf : TE} {pn pos tpos : Pos} {elts : List Expr} {kk : Nat} (he : PE X e te) (hf : PE X f tf) (hm : X.mg "zip" = none) (hg : Gl X "zip" := by rfl)
    (hs : starEach [e, f] X.env = (false, eval e X.env) :: starEach [f] X.env := by rfl) (hs2 : starEach [f] X.env = (false, eval f X.env) :: starEach [] X.env := by rfl) (hpl : (backTo pos (starEach [f] X.env)).any (·.1) = false := by rfl) :
    PI X (.Tuple elts kk tpos) (.Call (.Name "zip" pn) [e, f] [] pos) (wZip X.K te tf) := by
  constructor
  intro pins s σ H R I h
  have arg : PA X [e, f] (tCons te (tCons tf tNil)) := pa_cons he (pa_cons hf pa_nil hs2) hs
  let Q1 : List V → Hp → Prop := fun vs H1 => match vs with | [x, y] => qZip X.K R x y H1 | _ => False
  have h1 : tCons te (tCons tf tNil) σ H Q1 := h
  refine Call_ (ld_blt I hg hm PyProof.Rows.boot_zip (PyProof.Rows.callWith_type1 (thn (arg.run pos pins s σ H _ I h1) fun us s1 ⟨vs, H1, I1, r1, q1⟩ => ?_) hs hpl))
  cases r1 with
  | nil => exact (show False from q1).elim
  | @cons x v vs2 us2 r rest =>
    cases rest with
    | nil => exact (show False from q1).elim
    | @cons y u vs3 us3 r' rest =>
      cases rest with
      | cons _ _ => exact (show False from q1).elim
      | nil =>
        obtain ⟨a, b, t, u', xs, ys, rfl, rfl, sx, sy, q⟩ := (show qZip X.K R x y H1 from q1)
        cases r
        cases r'
        obtain ⟨its1, _, ob1⟩ := inv_X I1 sx
        obtain ⟨its2, _, ob2⟩ := inv_X I1 sy
        refine zip_begins2 (beginsX t a its1) (beginsX u' b its2) ob1 ob2 fun h' hz hTI hTO hi1 hi2 hsz kept => wpAny_pyIter_zip hz ?_
        have I2 : Inv X pins σ H1 { s1 with heap := h' } := I1.kept (t' := s1.toks) kept
        have apart := zip_sep2 (N := s1.heap.objs.size) (fp1 := [a]) (fp2 := [b]) (fun c hc => by rw [List.mem_singleton.mp hc]; exact obX_lt ob1) (fun c hc => by rw [List.mem_singleton.mp hc]; exact obX_lt ob2)
        refine ⟨s1.heap.objs.size + 4, [s1.heap.objs.size + 4, s1.heap.objs.size + 2, s1.heap.objs.size + 3, s1.heap.objs.size, s1.heap.objs.size + 1], _, _, H1, rfl, I2, turn_zipX t u' apart, ⟨hz, hTI, ⟨_, _, hTO⟩, itX_new hi1, itX_new hi2⟩, fun c hc => ?_, q⟩
        have above : s1.heap.objs.size ≤ c := by
          have cases5 : c = s1.heap.objs.size + 4 ∨ c = s1.heap.objs.size + 2 ∨ c = s1.heap.objs.size + 3 ∨ c = s1.heap.objs.size ∨ c = s1.heap.objs.size + 1 := by simpa using hc
          rcases cases5 with z | z | z | z | z <;> rw [z]
          · exact Nat.le_add_right _ _
          · exact Nat.le_add_right _ _
          · exact Nat.le_add_right _ _
          · exact Nat.le_refl _
          · exact Nat.le_add_right _ _
        exact I1.fpOk above (I1.hok.fresh above)
/-- the pairs of two lists -/
def twos : List D → List D → List D
  | d :: ds, e :: es => .tuple [d, e] :: twos ds es
  | _, _ => []
theorem twos_get : ∀ (ds es : List D) (i : Nat) (d e : D), ds[i]? = some d → es[i]? = some e → (twos ds es)[i]? = some (.tuple [d, e])
  | [], _, _, _, _, h, _ => by simp at h
  | _ :: _, [], _, _, _, _, h => by simp at h
  | x :: ds, y :: es, 0, d, e, h, h2 => by cases h; cases h2; rfl
  | x :: ds, y :: es, i + 1, d, e, h, h2 => twos_get ds es i d e h h2
theorem twos_len : ∀ (ds es : List D), (twos ds es).length = min ds.length es.length
  | [], _ => by simp [twos]
  | _ :: _, [] => by simp [twos]
  | x :: ds, y :: es => by
    show (twos ds es).length + 1 = _
    rw [twos_len ds es, List.length_cons, List.length_cons]
    omega
def iTwos (a b : XE) : XA := fun E => bnd (a E) fun x => bnd (b E) fun y => bnd (itemsOf x) fun xs => bnd (itemsOf y) fun ys => ret (twos xs ys)
theorem walkD_zip {K : PySem.W.Frag} {B : Addr → Prop} {H : Hp} {a b : Addr} {t u : Bool} {xs ys : List V} {ds es : List D} (sx : SqX K t H a xs) (sy : SqX K u H b ys) (kx : ∀ B1 H1, Tr B H B1 H1 → SqX K t H1 a xs) (ky : ∀ B1 H1, Tr B H B1 H1 → SqX K u H1 b ys)
    (rx : Reps K B H xs ds) (ry : Reps K B H ys es) : WalkD K B H (ItzX K t u a b) (twos ds es) := by
  refine ⟨fun H => SqX K t H a xs ∧ SqX K u H b ys, ⟨sx, sy⟩, fun B1 H1 tr => ⟨kx B1 H1 tr, ky B1 H1 tr⟩, ?_⟩
  rw [twos_len, ← rx.length, ← ry.length]
  refine ⟨fun i _ hi q => ⟨xs, ys, xs[i], ys[i], q.1, q.2, List.getElem?_eq_getElem (by omega), List.getElem?_eq_getElem (by omega)⟩, fun _ q => ⟨xs, ys, q.1, q.2, rfl⟩, fun i H1 v H2 hi q y => ?_⟩
  obtain ⟨T, x, z, rfl, hT, rfl, hx, hy⟩ := y
  refine ⟨All.new hT, fun B1 tr _ => ?_⟩
  obtain ⟨d, hd, rd⟩ := rx.at' (hx xs q.1)
  obtain ⟨e, he, re⟩ := ry.at' (hy ys q.2)
  exact ⟨_, twos_get ds es i d e hd he, rep_tup hT (.cons (rd.tr tr) (.cons (re.tr tr) .nil))⟩
/-- a sequence's kind -/
theorem seq_kind {K : PySem.W.Frag} {B : Addr → Prop} {H : Hp} {v : V} {d : D} {ds : List D} {c : Sx} {P : List D → Sx → Prop} {Xp : Exn → Sx → Prop} (r : Rep K B H v d) (m : itemsOf d c P Xp) :
    ∃ a t xs ds, v = .ref a ∧ SqX K t H a xs ∧ (∀ B1 H1, Tr B H B1 H1 → SqX K t H1 a xs) ∧ Reps K B H xs ds ∧ itemsOf d = ret ds := by
  cases r with
  | lst q n t => exact ⟨_, false, _, _, rfl, SqL.of q, fun B1 H2 tr => SqL.of (tr.ext.keep _ _ q n), t, rfl⟩
  | tup q t => exact ⟨_, true, _, _, rfl, q, fun B1 H2 tr => tr.ext.sqT q, t, rfl⟩
  | _ => exact m.elim
theorem pi_zipD {cb : Bool} {vb : Bool} (S : SitB cb vb X p k) {e f : Expr} {m n : XE} {pn pos tpos : Pos} {elts : List Expr} {kk : Nat} (he : PD X p e m) (hf : PD X p f n) (hm : X.mg "zip" = none) (hg : Gl X "zip" := by rfl)
    (hs : starEach [e, f] X.env = (false, eval e X.env) :: starEach [f] X.env := by rfl) (hs2 : starEach [f] X.env = (false, eval f X.env) :: starEach [] X.env := by rfl) (hpl : (backTo pos (starEach [f] X.env)).any (·.1) = false := by rfl) :
    PDI X p (.Tuple elts kk tpos) (.Call (.Name "zip" pn) [e, f] [] pos) (iTwos m n) := by
  obtain ⟨te, a1, a2⟩ := he.ex
  obtain ⟨tf, b1, b2⟩ := hf.ex
  refine ⟨_, pi_zipX a1 b1 hm hg hs hs2 hpl, fun B H σ E c P R st r mm k => ?_⟩
  refine a2 B H σ E _ _ _ st r mm fun d c1 v H1 m1 e1 s1 r1 => ?_
  have st1 := st.go e1 s1
  refine b2 B H1 σ E _ _ _ st1 (r.go st e1) m1 fun d2 c2' v2 H2 m2 e2 s2 r2 => ?_
  have r1' := r1.tr (st1.up e2)
  obtain ⟨a, t, xs, ds, rfl, sx, kx, rx, ex⟩ := seq_kind (ds := []) r1' m2
  have m2' : bnd (itemsOf d) (fun xs => bnd (itemsOf d2) fun ys => ret (twos xs ys)) c2' P p.XP := m2
  rw [ex, bnd_ret] at m2'
  obtain ⟨b, u, ys, es, rfl, sy, ky, ry, ey⟩ := seq_kind (ds := []) r2 m2'
  rw [ey, bnd_ret] at m2'
  exact ⟨a, b, t, u, xs, ys, rfl, rfl, sx, sy, k _ c2' _ H2 m2' (e1.trans e2) s2 (walkD_zip sx sy kx ky rx ry)⟩
end
end DL
end
section
namespace DL
open PySem PySem.Spec PyProof.Rows L2
section
variable {X : Cx} {p : Par} {k : Nat}
theorem pda_star {e : Expr} {es : List Expr} {m : XE} {r : XA} {ps : Pos} (he : PD X p e m) (hr : PDA X p es r) (hs : starEach (.Starred e ps :: es) X.env = (true, eval e X.env) :: starEach es X.env := by rfl) : PDA X p (.Starred e ps :: es) (aStar m r) := by
  obtain ⟨te, a1, a2⟩ := he.ex
  obtain ⟨tr, b1, b2⟩ := hr.ex
  refine ⟨_, StX.pa_star a1 b1 hs, fun B H σ E c P Q st re mm kk => ?_⟩
  refine a2 B H σ E _ _ _ st re mm fun d c1 v H1 m1 e1 s1 r1 => ?_
  have st1 := st.go e1 s1
  have go : ∀ (a : Addr) (xs : List V) (ds : List D), itemsOf d = ret ds → Reps X.K (bm p B c1) H1 xs ds → (SqT X.K H1 a xs ∨ SqL X.K H1 a xs) → ∃ a' xs', V.ref a = V.ref a' ∧ (SqT X.K H1 a' xs' ∨ SqL X.K H1 a' xs') ∧ tr σ H1 fun vs H2 => Q (xs' ++ vs) H2 := by
    intro a xs ds hd rs sq
    have m1' : bnd (itemsOf d) (fun ys => bnd (r E) fun zs => ret (ys ++ zs)) c1 P p.XP := m1
    rw [hd, bnd_ret] at m1'
    refine ⟨a, xs, rfl, sq, ?_⟩
    exact b2 B H1 σ E _ _ _ st1 (re.go st e1) m1' fun es2 c2' vs H2 m2 e2 s2 r2 => kk _ c2' _ H2 m2 (e1.trans e2) s2 ((rs.tr (st1.up e2)).append r2)
  cases r1 with
  | lst q n t => exact go _ _ _ rfl t (.inr (SqL.of q))
  | tup q t => exact go _ _ _ rfl t (.inl q)
  | _ => exact m1.elim
end
end DL
end
section
namespace DL
open PySem PySem.Spec PyProof.Rows L2
section
variable {X : Cx} {p : Par} {k : Nat}
/-- a, b, c = x, y, z -/
def sPar3 (i j l : Nat) (a b c : XE) : XS := fun E => bnd (a E) fun x => bnd (b E) fun y => bnd (c E) fun z => ret (.nx (((E.set i (.val x)).set j (.val y)).set l (.val z)))
theorem sd_par3 (S : SitB true true X p k) {i j l : Nat} {x y z : Str} {a b c : Expr} {ma mb mc : XE} {px py pz pt pos : Pos} {kt k2 pt2} (hi : X.N[i]? = some x) (hj : X.N[j]? = some y) (hl : X.N[l]? = some z) (hij : i ≠ j) (hil : i ≠ l) (hjl : j ≠ l)
    (hx : X.env.scope.names.lookup x = some .local) (hy : X.env.scope.names.lookup y = some .local) (hz : X.env.scope.names.lookup z = some .local) (ha : PD X p a ma) (hb : PD X p b mb) (hc : PD X p c mc)
    (hw : swappedStores [.Tuple [.Name x px, .Name y py, .Name z pz] kt pt] (.Tuple [a, b, c] k2 pt2) X.env = pure (some [x, y, z]))
    (hs : swapsWithSole [.Tuple [.Name x px, .Name y py, .Name z pz] kt pt] (.Tuple [a, b, c] k2 pt2) pos.line X.env = pure false := by rfl)
    (h1 : starEach [a, b, c] X.env = (false, eval a X.env) :: starEach [b, c] X.env := by rfl) (h2 : starEach [b, c] X.env = (false, eval b X.env) :: starEach [c] X.env := by rfl) (h3 : starEach [c] X.env = (false, eval c X.env) :: starEach [] X.env := by rfl) :
    PSD X p (.Assign [.Tuple [.Name x px, .Name y py, .Name z pz] kt pt] (.Tuple [a, b, c] k2 pt2) pos) (sPar3 i j l ma mb mc) := by
  obtain ⟨ta, a1, a2⟩ := ha.ex
  obtain ⟨tb, b1, b2⟩ := hb.ex
  obtain ⟨tc, c1, c2⟩ := hc.ex
  refine ⟨_, ps_par3 S.calm S.nd hi hj hl hij hil hjl hx hy hz (pa_cons a1 (pa_cons b1 (pa_cons c1 pa_nil h3) h2) h1) hw hs, fun B H σ E c0 P Dn st r m nx rt bk ct => ?_⟩
  refine a2 B H σ E _ _ _ st r m fun d n1 v H1 m1 e1 s1 r1 => ?_
  have st1 := st.go e1 s1
  have rr1 := r.go st e1
  refine b2 B H1 σ E _ _ _ st1 rr1 m1 fun d2 n2 v2 H2 m2 e2 s2 r2 => ?_
  have st2 := st1.go e2 s2
  have rr2 := rr1.go st1 e2
  refine c2 B H2 σ E _ _ _ st2 rr2 m2 fun d3 n3 v3 H3 m3 e3 s3 r3 => ?_
  have st3 := st2.go e3 s3
  have rr3 := rr2.go st2 e3
  exact ⟨v, v2, v3, rfl, nx _ _ B _ H3 m3 st3 ((st.up (e1.trans (e2.trans e3)))) (((rr3.val S.nf i ((r1.tr (st1.up e2)).tr (st2.up e3))).val S.nf j (r2.tr (st2.up e3))).val S.nf l r3)⟩
end
end DL
end
section
namespace DL
open PySem PySem.Spec PyProof.Rows L2
/-- the exception that is made: its object, its own dict -/
structure Made1 (h h' : Heap) (e C d : Addr) (f : Str) (v : Value) : Prop where
  keep : ∀ b o, h.get? b = some o → h'.get? b = some o
  new : h.objs.size ≤ e
  obj : ∃ t1 : Addr, h'.get? e = some { cls := .ref C, dict := some d, data := .fields #[.ref t1, .none, .none, .none, .bool false, .none] }
  dbig : h.objs.size ≤ d
  dne : d ≠ e
  ns : h'.Ns1 d (fun y => if y = f then some v else none)
section
variable {prog : Program} {w : World} {A : Around} {E : Value → Shared → Prop} {R : Result → Shared → Prop} {K : PySem.W.Frag} {C L : Addr}
/-- the first field of a fresh exception -/
theorem put_field {hp : Heap} {g : Array GenState} {dr : Drawn} {t : Nat} {os : OsState} {name : Str} {tk : Tok} {v : Value} {x t1 : Addr} (b : Bs) (X : K.In hp) (hx : hp.get? x = some (PySem.HandSPX.excO C t1)) (ov : PySem.W.excOver K C b.tl = true) (hh : PySem.W.hasDictIn K C = true) (ha : PySem.W.findIn K (.ref C) name = some none)
    (hq : ∀ h' tk' dx, (∀ b o, b ≠ x → hp.get? b = some o → h'.get? b = some o) → hp.objs.size ≤ dx → dx ≠ x → h'.get? x = some { cls := .ref C, dict := some dx, data := .fields #[.ref t1, .none, .none, .none, .bool false, .none] } →
      h'.Ns1 dx (fun y => if y = name then some v else none) → R (.ok (.ret .none)) ⟨h', g, dr, tk', os⟩) :
    codeAny (model prog w) A (.call (.builtin "object.__setattr__") ⟨[.ref x, .str name tk, v], []⟩) R ⟨hp, g, dr, t, os⟩ := by
  have hxs : x < hp.objs.size := Heap.lt_size hx
  refine PySem.W.osa_openX (s := ⟨hp, g, dr, t, os⟩) (od := none) (r := none) b.sf X ⟨hx, rfl, rfl, trivial⟩ ov ?_ fun bb => ?_
  · show (PySem.W.findIn K (.ref C) name).bind _ = _
    rw [ha]
    rfl
  · obtain ⟨cd, hc, hd'⟩ := PySem.W.any_some hh
    refine wpAny_bind (wpAny_pure (wpAny_bind (PySem.W.instanceDict_exc (s := ⟨hp, g, dr, t, os⟩) (c2 := .none) hx (PySem.W.looks_clsIn X hc) hd' ?_)))
    show wpAny _ _ (Builtin.ObjectAttr.storeInDict hp.objs.size (.str name tk) name v) _ _ _
    have ne : hp.objs.size ≠ x := Nat.ne_of_gt hxs
    refine PySem.HandSPX.store_in_new (hp := (hp.push (PySem.W.dictOf [] 0)).update x fun o => { o with dict := some hp.objs.size }) ⟨_, #[], _, (Heap.get?_update_ne _ _ _ _ ne).trans (Heap.get?_push_at rfl rfl), rfl, fun e he => absurd he (by simp), fun _ => rfl⟩ fun h' tk' hn' hs => ?_
    have hx1 : (hp.push (PySem.W.dictOf [] 0)).get? x = some (PySem.HandSPX.excO C t1) := Heap.get?_push_of_some _ hx
    refine hq h' tk' hp.objs.size (fun b o hb ho => ?_) (Nat.le_refl _) ne ?_ hn'
    · exact (hs.2 b (Nat.ne_of_lt (Heap.lt_size ho))).trans ((Heap.get?_update_ne _ _ _ _ hb).trans (Heap.get?_push_of_some _ ho))
    · exact (hs.2 x ne.symm).trans (Heap.get?_update_self _ hx1 rfl)
end
theorem one_line (v : Value) : [v].length ≤ sizeLine := by
  rw [sizeLine_eq]
  exact (by decide : 1 ≤ 16777216)
/-- a name of __init__'s frame -/
theorem ini_name {M : Model} {s : Shared} {q : Str} {sc : Scope} {L a : Addr} {cd : Value} {m : Str → Option Value} {x : Str} {pos : Pos} {v : Value} {Q : Value → Shared → Prop} {A : Around} {E : Value → Shared → Prop} (hn : s.heap.Ns L m) (hv : m x = some v) (hk : sc.kind = .function)
    (hl : (envOfC q sc L a cd).kindOf x = some .local) (hd : (x == ("__debug__" : Str)) = false) (h : Q v s) : wpAny M A (eval (.Name x pos) (envOfC q sc L a cd)) Q E s := wpAny_Name (wpAny_loadName_local hk hl hn hv h) hd
section
variable {prog : Program} {w : World} {A : Around} {E : Value → Shared → Prop} {R : Result → Shared → Prop} {s : Shared} {K : PySem.W.Frag} {n : Str}
/-- what __init__ leaves of a fresh exception -/
theorem run_init {f : Fl} {b : Bs} (T : ErrT K n f b) {x t0 : Addr} {v : Value} (X : K.In s.heap) (hlim : s.heap.NoLimit) (hx : s.heap.get? x = some (PySem.HandSPX.excO (He.ga K n) t0)) (hroom : A.depth < recursionLimit)
    (hq : ∀ h' tk dx, (∀ b o, b ≠ x → s.heap.get? b = some o → h'.get? b = some o) → h'.get? x = some { cls := .ref (He.ga K n), dict := some dx, data := .fields #[.ref t0, .none, .none, .none, .bool false, .none] } → s.heap.objs.size ≤ dx → dx ≠ x →
      h'.Ns1 dx (fun y => if y = f.s then some v else none) → R (.ok (.ret .none)) { s with heap := h', toks := tk }) :
    codeAny (model prog w) A (.call (.ref (He.ma K (He.ga K n) "__init__")) ⟨[.ref x, v], []⟩) R s := by
  obtain ⟨q, p1, p2, q1, q2, q3, q4, fd, F⟩ := T.fn
  have bd : BindsTo s fd ⟨[.ref x, v], []⟩ [("self", .ref x), (f.s, v)] := by
    cases f <;> exact L2.FunD.bindsA (ps := ["self", _]) F (fun _ _ _ _ _ _ us hl => match us, hl with | [_, _], _ => rfl) s [.ref x, v] rfl
  obtain ⟨oc, od, dV, kV, doc, pm, an, cdv, ct, osl, rfl, ho, hcd, dv, kv⟩ := F.ex
  refine Att.call_fn (binds := [("self", .ref x), (f.s, v)]) X hlim ho hcd hroom bd (by cases f <;> rfl) (fun s₁ IC => ?_) rfl rfl rfl
  obtain ⟨h₁, tk₁, rfl⟩ := IC.toInCall.same
  have k : ∀ b o, s.heap.get? b = some o → h₁.get? b = some o := IC.toInCall.keep
  have hn := IC.toInCall.ns
  have X₁ : K.In h₁ := X.keeps k
  have hx₁ := k _ _ hx
  have hk1 : (envOfC q (iniS f.s) s.heap.objs.size (He.ma K (He.ga K n) "__init__") cdv).kindOf f.s = some .local := by cases f <;> rfl
  have hk2 : (envOfC q (iniS f.s) s.heap.objs.size (He.ma K (He.ga K n) "__init__") cdv).kindOf "self" = some .local := rfl
  show wpAny _ _ (execs _ _) _ _ _
  refine wpAny_execs_cons (plainObj_wpAny_Assign_Attribute ?_)
  refine ini_name hn (v := v) (by cases f <;> rfl) rfl hk1 (by cases f <;> rfl) ?_
  refine ini_name hn (v := .ref x) (by cases f <;> rfl) rfl hk2 rfl ?_
  refine PySem.W.set_plain X₁ (ox := PySem.HandSPX.excO (He.ga K n) t0) (od := none) ⟨hx₁, rfl, rfl, trivial⟩ T.sa ?_
  refine put_field b X₁ hx₁ T.ov T.c.hdC (T.c.nof f) fun h₃ tk₃ dx k₃ dn dne hx₃ hn₃ => ?_
  show wpAny _ _ (execs _ _) _ _ _
  have z : s.heap.objs.size < h₁.objs.size := hn.lt
  exact wpAny_execs_nil (hq h₃ tk₃ dx (fun b o hb e => k₃ b o hb (k b o e)) hx₃ (Nat.le_of_lt (Nat.lt_of_lt_of_le z dn)) dne hn₃)
/-- C(v) -/
theorem run_made {f : Fl} {b : Bs} (T : ErrT K n f b) {v : Value} (X : K.In s.heap) (hlim : s.heap.NoLimit) (hroom : A.depth + 1 < recursionLimit)
    (hq : ∀ h' tk e d, Made1 s.heap h' e (He.ga K n) d f.s v → R (.ok (.ret (.ref e))) { s with heap := h', toks := tk }) : codeAny (model prog w) A (.call (.ref (He.ga K n)) ⟨[v], []⟩) R s := by
  obtain ⟨nm, N, q, bs, bm, hdct, sn, sub, ab, col, dd, k0, k1, k2, k3, k5, hC, hT⟩ := PySem.W.excInit_of X T.ini
  obtain ⟨hp, g, dr, tk, os⟩ := s
  have k : ∀ b o, hp.get? b = some o → ((hp.push (PySem.W.kdv_tup [v])).push (PySem.HandSPX.excO (He.ga K n) hp.objs.size)).get? b = some o := fun b o e => Heap.get?_push_of_some _ (Heap.get?_push_of_some _ e)
  have hget : ((hp.push (PySem.W.kdv_tup [v])).push (PySem.HandSPX.excO (He.ga K n) hp.objs.size)).get? (hp.objs.size + 1) = some (PySem.HandSPX.excO (He.ga K n) hp.objs.size) := by heap_get
  refine PySem.HandSPX.call_own b.fb hT hC (PySem.W.looks_findIn X T.iC) (fun self => PySem.W.bind_fn X self T.tC) (one_line v) ?_
  refine run_init (s := ⟨(hp.push (PySem.W.kdv_tup [v])).push (PySem.HandSPX.excO (He.ga K n) hp.objs.size), g, dr, tk, os⟩) T (X.keeps k) (hlim.keeps k) hget ?_ fun h' tk' dx k' hx dn dne hns => ?_
  · show A.depth + 1 < recursionLimit
    exact hroom
  · have z : hp.objs.size + 1 + 1 ≤ dx := by
      first
        | (simpa only [Heap.size_push] using dn)
        | exact dn
        | (have q := dn; rw [Heap.size_push, Heap.size_push] at q; exact q)
    exact ⟨rfl, hq h' tk' (hp.objs.size + 1) dx ⟨fun b o e => k' b o (Nat.ne_of_lt (Nat.lt_succ_of_lt (Heap.lt_size e))) (k b o e), Nat.le_succ _, ⟨_, hx⟩, Nat.le_trans (Nat.le_trans (Nat.le_succ _) (Nat.le_succ _)) z, dne, hns⟩⟩
end
theorem relO_field {v : V} {v' : Value} (r : RelV v v') (g f : Str) : RelO (List.lookup f [(g, v)]) (if f = g then some v' else none) := by
  by_cases h : f = g
  · subst h
    have e : List.lookup f [(f, v)] = some v := by simp [List.lookup]
    rw [if_pos rfl, e]
    exact r
  · have e : (f == g) = false := by simpa using h
    have e2 : List.lookup f [(g, v)] = none := by simp [List.lookup, e]
    rw [if_neg h, e2]
    trivial
section
variable {X : Cx} {n : Str}
/-- C(e) -/
def tMk1 (C : Addr) (f : Str) (ta : TA) : L2.St → Hp → XK → Prop := fun σ H Q => ta σ H fun vs H1 => ∃ v, vs = [v] ∧ ∀ d, H1 d = none → Q (.ref C) (some d) (upd H1 d (.xd [(f, v)]))
theorem pmk1s {f : Fl} {b : Bs} {a : Expr} {ta : TA} {p pos : Pos} (T : ErrT X.K n f b) (gC : X.mg n = some (.ref (He.ga X.K n))) (hr : X.A.depth + 1 < recursionLimit) (ha : PA X [a] ta) (hg : Gl X n) (hdb : (n == ("__debug__" : Str)) = false)
    (he : starEach (a :: []) X.env = (false, eval a X.env) :: starEach [] X.env := by rfl) (hpl : (backTo pos (starEach [] X.env)).any (·.1) = false := by rfl) : L2H.PMk5 X (.Call (.Name n p) [a] [] pos) (tMk1 (He.ga X.K n) f.s ta) := by
  intro pins s σ H Q I h
  refine wpAny_Call_Name_kw (ld_glob I hg gC ?_ hdb)
  refine PySem.W.callWith_K (h₀ := X.base) I.ok.mod.kin T.c.kC (thn (ha.run pos pins s σ H _ I h) fun us s1 hh => ?_) he hpl
  obtain ⟨vs, H1, I1, r1, v, ev, q1⟩ := hh
  subst ev
  refine ⟨I1.kIn, ?_⟩
  cases r1 with
  | @cons _ v' _ us' rv rn =>
    cases rn
    show wpAny _ _ (call (.ref (He.ga X.K n)) [v']) _ _ _
    have hlim := I1.nolimit
    obtain ⟨hp, g, dr, tk, os⟩ := s1
    refine wpAny_call (run_made T I1.kIn hlim hr fun h' tk' e d M => ?_)
    obtain ⟨t1, hoe⟩ := M.obj
    refine ⟨?_, fun a o v y1 y2 y3 => by
      cases y1
      cases hoe.symm.trans y2
      cases y3
      exact (by decide : 4 < 6)⟩
    show L2N.MkP X pins σ Q (.ref e) ⟨h', g, dr, tk', os⟩
    obtain ⟨G', g1, g2⟩ := restrict h' fun b => decide (b ≠ e)
    have gk : ∀ b, b ≠ e → G'.get? b = h'.get? b := fun b hb => g1 b (decide_eq_true hb)
    have ge : G'.get? e = none := g2 e (by simp)
    have old : ∀ b o, hp.get? b = some o → G'.get? b = some o := fun b o q => (gk b (Nat.ne_of_lt (Nat.lt_of_lt_of_le (Heap.lt_size q) M.new))).trans (M.keep b o q)
    have ob : ObjOk X.prog X.w (upd H1 d (.xd [(f.s, v)])) G' d (.xd [(f.s, v)]) := ⟨_, M.ns.at (fun o q => (gk d M.dne).trans q), fun g => relO_field rv f.s g⟩
    have J : Inv X pins σ (upd H1 d (.xd [(f.s, v)])) ⟨G', g, dr, tk', os⟩ := I1.laid (t' := tk') old M.dbig ob
    refine ⟨e, _, _, ⟨G', g, dr, tk', os⟩, _, .ref (He.ga X.K n), some d, rfl, J, fun b o q => ?_, ge, hoe, ⟨rfl, rfl, fun vs q => by cases q; rfl⟩, rfl, rfl, ?_, rfl, I1.bare, raises_own T.c.exC T.c.tyC, q1 d (I1.hok.fresh M.dbig)⟩
    · by_cases hb : b = e
      · rw [hb] at q
        exact absurd (q.symm.trans ge) (by simp)
      · exact (gk b hb).symm.trans q
    · rw [upd_ne (Ne.symm M.dne)]
      exact I1.hok.fresh M.new
theorem pmk1 {f : Fl} {b : Bs} {a : Expr} {ta : TA} {p pos : Pos} (T : ErrT X.K n f b) (gC : X.mg n = some (.ref (He.ga X.K n))) (hr : X.A.depth + 1 < recursionLimit) (ha : PA X [a] ta) (hg : Gl X n) (hdb : (n == ("__debug__" : Str)) = false)
    (he : starEach (a :: []) X.env = (false, eval a X.env) :: starEach [] X.env := by rfl) (hpl : (backTo pos (starEach [] X.env)).any (·.1) = false := by rfl) : L2N.PMk X (.Call (.Name n p) [a] [] pos) (tMk1 (He.ga X.K n) f.s ta) := (pmk1s T gC hr ha hg hdb he hpl).pmk
/-- C() -/
theorem pmk0 {b : Bs} {p pos : Pos} (T : ErrZ X.K n b) (gC : X.mg n = some (.ref (He.ga X.K n))) (hg : Gl X n) (hdb : (n == ("__debug__" : Str)) = false) : L2N.PMk X (.Call (.Name n p) [] [] pos) (fun _ H Q => Q (.ref (He.ga X.K n)) none H) := by
  intro pins s σ H Q I h
  refine wpAny_Call_Name_kw (ld_glob I hg gC ?_ hdb)
  refine PySem.W.callWith_K0 I.kIn T.c.kC ?_
  obtain ⟨bm, N, nm, qn, bs, hdct, sn, sub, ab, col, dd, k0, k1, k2, k3, k5, mN, hC, hN, hni, TT⟩ := exc_obj I.kIn T.ex
  obtain ⟨hp, g, dr, tk, os⟩ := s
  exact wpAny_call_exc_subT b.fb TT hC hN hni (fun h' e hm => L2N.mk_of I hm (raises_own T.c.exC T.c.tyC) h (I.hok.gone hm.new)) (Nat.zero_le _)
end
section
variable {X : Cx} {p : Par} {k : Nat} {n : Str}
theorem sd_raise0 {vb : Bool} (S : SitB true vb X p k) {b : Bs} (T : ErrZ X.K n b) (gC : X.mg n = some (.ref (He.ga X.K n))) {pn pos pos2 : Pos} (hg : Gl X n := by rfl) (hdb : (n == ("__debug__" : Str)) = false := by decide) : PSD X p (.Raise (some (.Call (.Name n pn) [] [] pos)) none pos2) (sRaise n [] aNil) := by
  refine ⟨_, L2N.ps_raise S.calm S.tk.n (pmk0 T gC hg hdb), fun B H σ E c P Dn st r m nx rt bk ct => ?_⟩
  exact S.ok.exc c c _ _ _ B H H σ st r.fx (show p.XP ⟨n, []⟩ c from m) st.si Ev.refl ⟨rfl, T.c, rfl⟩
theorem sd_raise1 {vb : Bool} (S : SitB true vb X p k) {f : Fl} {b : Bs} (T : ErrT X.K n f b) (gC : X.mg n = some (.ref (He.ga X.K n))) {a : Expr} {m : XE} {pn pos pos2 : Pos} (ha : PD X p a m) (hg : Gl X n := by rfl) (hdb : (n == ("__debug__" : Str)) = false := by decide)
    (he : starEach (a :: []) X.env = (false, eval a X.env) :: starEach [] X.env := by rfl) (hpl : (backTo pos (starEach [] X.env)).any (·.1) = false := by rfl) : PSD X p (.Raise (some (.Call (.Name n pn) [a] [] pos)) none pos2) (sRaise n [f.s] (aCons m aNil)) := by
  obtain ⟨ta, a1, a2⟩ := ha.ex
  refine ⟨_, L2N.ps_raise S.calm S.tk.n (pmk1 T gC (by have := S.rm.dp; omega) (pa_cons a1 pa_nil he) hg hdb he hpl), fun B H σ E c P Dn st r mm nx rt bk ct => ?_⟩
  refine a2 B H σ E _ _ _ st r mm fun d c1 v H1 m1 e1 s1 r1 => ?_
  refine ⟨v, rfl, fun dx hd => ?_⟩
  have st1 := st.go e1 s1
  have al : All H1 (upd H1 dx (.xd [(f.s, v)])) := All.new hd
  exact S.ok.exc c1 c1 ⟨n, [(f.s, d)]⟩ _ _ B H1 _ σ st1 (r.go st e1).fx m1 (st1.all S.ok al) al.ev ⟨rfl, T.c, dx, v, rfl, upd_same, fun z => st1.trk dx z hd, r1.mono al.ext⟩
end
end DL
end
section
namespace DL
open PySem PySem.Spec PyProof.Rows L2
section
variable {X : Cx} {pins : List (Addr × Obj)} {σ : L2.St} {H : Hp} {s : Shared}
/-- the exception a is looked at: sI is the state without it -/
structure Aloft (X : Cx) (pins : List (Addr × Obj)) (σ : L2.St) (H : Hp) (a : Addr) (cls : Value) (d yo : Option Addr) (B : Heap) (sI s : Shared) : Prop where
  J : Inv X pins σ H sI
  nb : ∀ b o, sI.heap.get? b = some o → b ∉ frs X.stack → B.get? b = some o
  up : sI.heap.UpToSlots s.heap
  fl : PySem.HandSPX.FlyingZ B (X.env :: X.outer) a (Zy X.K yo cls d) s.heap
  na : H a = none
  os : s.os = sI.os
  ag : AllBare s.gens
  gd : Gd yo B H
section
variable {a : Addr} {cls : Value} {d yo : Option Addr} {B : Heap} {sI : Shared}
theorem Aloft.inv (q : Aloft X pins σ H a cls d yo B sI s) : Inv X pins σ H s := q.J.landed q.nb q.fl.1 q.up q.os q.ag
/-- more objects -/
theorem Aloft.grow {h' : Heap} {tk : Nat} (q : Aloft X pins σ H a cls d yo B sI s) (k : ∀ b o, s.heap.get? b = some o → h'.get? b = some o) : Aloft X pins σ H a cls d yo B sI { s with heap := h', toks := tk } := by
  obtain ⟨f1, f2, f3, oe, vs, T, oT, ts, e1, e2, e3, e4, e5, e6, e7, e8, e9⟩ := q.fl
  exact ⟨q.J, q.nb, q.up.trans (Heap.UpToSlots.of_keeps k), ⟨fun b o e => k b o (f1 b o e), f2, Heap.FunFrames.of_keeps (fun b o e _ => ⟨o, k b o e, rfl⟩) f3, oe, vs, T, oT, ts, k _ _ e1, e2, e3, e4, e5, e6, k _ _ e7, e8, e9⟩, q.na, q.os, q.ag, q.gd⟩
theorem Aloft.set {h' : Heap} (q : Aloft X pins σ H a cls d yo B sI s) (f : PySem.HandSPX.FlyingZ B (X.env :: X.outer) a (Zy X.K yo cls d) h') (up : s.heap.UpToSlots h') : Aloft X pins σ H a cls d yo B sI { s with heap := h' } :=
  ⟨q.J, q.nb, q.up.trans up, f, q.na, q.os, q.ag, q.gd⟩
/-- .. pinned, in a suite -/
theorem Aloft.pin (q : Aloft X pins σ H a cls d yo B sI s) (hs : X.stack = X.env :: X.outer) (hf : X.env.frame = some X.env.locals) : ∃ oe : Obj, s.heap.get? a = some oe ∧ Zy X.K yo cls d oe ∧ (∃ vs, oe.data = .fields vs) ∧ Inv (X.suite a ((a, oe) :: (X.pn ++ pins))) [] σ H s := by
  obtain ⟨oe, vs, he, hz, hd⟩ := q.fl.there
  have nfr : a ∉ frs (X.env :: X.outer) := fun hm => by
    obtain ⟨_, o', e', hnf⟩ := q.fl.2.2.1.mem hm
    rw [he] at e'
    cases e'
    exact hnf _ hd
  have nL : a ≠ X.env.locals := fun z => nfr (List.mem_filterMap.mpr ⟨X.env, List.mem_cons_self, by rw [hf, z]⟩)
  have nF : a ∉ X.fs := fun hm => by
    obtain ⟨e, h1, h2⟩ := List.mem_filterMap.mp hm
    exact nfr (List.mem_filterMap.mpr ⟨e, List.mem_cons_of_mem _ h1, h2⟩)
  exact ⟨oe, he, hz, ⟨vs, hd⟩, q.inv.suite he hd q.na nL nF⟩
end
end
end DL
end
section
namespace DL
open PySem PySem.Spec PyProof.Rows L2
def xnOf : D → Option Str
  | .dict ((.none, .str n) :: _) => some n
  | _ => none
def fldOf (f : Str) : D → W D
  | .dict [(.none, .str _), (.str g, d)] => if f = g then ret d else stuck
  | _ => stuck
/-- e.f of an error -/
def eFld (a : XE) (f : Str) : XE := fun E => bnd (a E) (fldOf f)
def tyOf? (m : Str) : Option Ty :=
  if m == "int" then some .int else if m == "bool" then some .bool else if m == "tuple" then some .tuple else if m == "str" then some .str else if m == "list" then some .list else if m == "dict" then some .dict else none
def isTm (d : D) (m : Str) : Bool := match tyOf? m with | some t => isTy t d | none => false
/-- isinstance(a, classes) -/
def isC (ms : List Str) (d : D) : W D := match xnOf d with
  | some n => grd (ms.all (fun m => allN.contains m) = true) (ret (.bool (ms.any (subC n))))
  | none => grd (noXn d = true ∧ ms.all (fun m => (tyOf? m).isSome) = true) (ret (.bool (ms.any (isTm d))))
def eIsC (ms : List Str) (a : XE) : XE := fun E => bnd (a E) (isC ms)
/-- an error as data -/
def Exn.d (x : Exn) : D := xD x.cls x.fs
def eSetO (oi : Option Nat) (e : Ent) (E : Env) : Env := match oi with
  | none => E
  | some i => E.set i e
def Out.clear (oi : Option Nat) : Out → Out
  | .nx E => .nx (eSetO oi .unk E)
  | .bk E => .bk (eSetO oi .unk E)
  | .ct E => .ct (eSetO oi .unk E)
  | .rt d => .rt d
/-- an expression that names a class m -/
structure NmC (X : Cx) (m : Str) : Prop where
  all : allN.contains m = true
  here : here X.K m = true
  nm : Names X m (clsV X.K m)
section
variable {X : Cx}
theorem NmC.one {m n : Str} (h : NmC X m) (c : ErrC X.K n) : PySem.W.exmOne X.K (.ref (He.ga X.K n)) (clsV X.K m) = some (subC n m) ∧ PySem.W.kitOne X.K (.ref (He.ga X.K n)) (clsV X.K m) = some (subC n m) :=
  c.kn m (by simpa using h.all) h.here
end
/-- what is handled lies in the heap, its context None -/
def HotH (A : Around) (H : Hp) : Prop := ∃ (a : Addr) (oe : Obj), A.handled = some (.ref a) ∧ H a = some (xob a oe) ∧ EndC oe
section
variable {X : Cx} {p : Par} {k : Nat} {cb : Bool} {K : PySem.W.Frag}
theorem Slot.loud {p : Par} {n : Sx} {B : Addr → Prop} {H : Hp} {x : Option V} {y : Ent} (s : Slot K p.quiet n B H x y) : Slot K p n B H x y := by
  cases s with
  | unk _ => exact .unk _
  | val r => exact .val r
  | own b n nc h0 hl r => exact .own b n nc h0 hl r
  | stm => exact .stm (p := p)
  | scr q => exact .scr q
theorem EnvR.loud {p : Par} (nf : p.fx = none) {n : Sx} {B : Addr → Prop} {H : Hp} {σ : L2.St} {E : Env} (r : EnvR K p.quiet n B H σ E) : EnvR K p n B H σ E :=
  ⟨r.len, fun i e q => let ⟨s, h1, h2⟩ := r.at_ i e q; ⟨s, h1, h2.loud⟩, r.nd, .no nf, r.pn⟩
end
end DL
end
section
namespace DL
open PySem PySem.Spec PyProof.Rows L2
end DL
end
section
namespace DL
open PySem PySem.Spec PyProof.Rows L2
/-- the objects that are looked at -/
def asH (g : Addr → Option Obj) (n : Nat) : List Addr := sysModules :: He.asD g n
abbrev AlH : Type := He.AlD × Bool
def obsH (n : Nat) (fa : List He.Fa) (fn : List He.DefD) (ex : PySem.W.Frag → Bool) (g : Addr → Option Obj) : AlH := (He.obsD fa fn (He.frG g (asH g n)), ex (He.frG g (asH g n)))
structure SaysH (fa : List He.Fa) (fn : List He.DefD) (ex : PySem.W.Frag → Bool) (K : PySem.W.Frag) : Prop where
  d : He.SaysD fa fn K
  x : ex K = true
def hookH (n : Nat) (fa : List He.Fa) (fn : List He.DefD) (ex : PySem.W.Frag → Bool) : PySem.W.Hook where
  α := AlH
  obs := fun s => obsH n fa fn ex s.heap.get?
  val := fun _ => (He.valD fn, true)
  says := fun _ h => ∃ K : PySem.W.Frag, K.In h ∧ SaysH fa fn ex K
  of := fun _ _ e => ⟨_, He.frG_in, congrArg (fun z : AlH => z.1) e, congrArg (fun z : AlH => z.2) e⟩
  keeps := fun _ _ _ ⟨K, hK, c⟩ k => ⟨K, PySem.W.Frag.In.keeps hK k, c⟩
theorem obsH_eq {n : Nat} {fa : List He.Fa} {fn : List He.DefD} {ex : PySem.W.Frag → Bool} {g : Addr → Option Obj} {s : Shared} (h : ∀ a, g a = s.heap.get? a) : obsH n fa fn ex g = (hookH n fa fn ex).obs s := by
  have e : g = s.heap.get? := funext h
  rw [e] <;> rfl
/-- sys.modules is there -/
def smB (K : PySem.W.Frag) : Bool := (K.lookup sysModules).isSome
theorem smB_ok {K : PySem.W.Frag} {base : Heap} (h : smB K = true) (X : K.In base) : HasSm base := by
  obtain ⟨o, e⟩ := Option.isSome_iff_exists.mp h
  exact ⟨o, X _ _ e⟩
/-- a class's body -/
def clsBody : Stmt → List Stmt
  | .ClassDef _ _ _ body _ _ _ _ _ _ _ => body
  | _ => []
theorem here_of {K : PySem.W.Frag} {m : Str} (h : (He.Fa.glo m).ok K = true) : here K m = true := by
  unfold here
  rw [h, Bool.or_true]
end DL
end
section
namespace DL
open PySem PySem.Spec PyProof.Rows L2
section
variable {X : Cx} {p : Par} {k : Nat} {cb vb : Bool} {K : PySem.W.Frag}
def isIn (neg : Bool) (x : D) (ys : List D) : D := .bool (neg != ys.any fun y => PyData.eqv y x)
def opIn (neg : Bool) : D → D → W D
  | x, .tuple ys => grd (SeqAt.shaped x = true ∧ SeqAt.shaped (.tuple ys) = true) (ret (isIn neg x ys))
  | x, .list ys => grd (SeqAt.shaped x = true ∧ SeqAt.shaped (.list ys) = true) (ret (isIn neg x ys))
  | _, _ => stuck
def eIn (neg : Bool) (a b : XE) : XE := fun E => bnd (a E) fun x => bnd (b E) fun y => opIn neg x y
theorem shp {d : D} (h : SeqAt.shaped d = true) : PyData.canLay0 d = true ∧ PyData.depth d ≤ 64 := by
  unfold SeqAt.shaped at h
  rw [Bool.and_eq_true, decide_eq_true_eq] at h
  exact h
theorem op_inA (hu : X.A.units + 66 < cLine) (neg : Bool) : OpR X (compareOp (if neg then .NotIn else .In)) (rD2 X.K (opIn neg)) := by
  intro pins s σ H x y v u Q I rx ry h
  obtain ⟨_, d, e, c, P, Xp, hb, r1, r2, m, kk⟩ := h
  have fin : ∀ ys : List D, P (isIn neg d ys) c → EP X pins σ Q (.bool (neg != ys.any fun y => PyData.eqv y d)) s := fun ys hm => ⟨.bl _, H, I, rfl, kk _ _ H hm All.refl (.bl _)⟩
  cases r2 with
  | @lst a xs ds q nb t =>
    obtain ⟨⟨h1, h2⟩, m⟩ := m
    obtain ⟨as, q1⟩ := Dp.reads I d x v (r1.dp (lay_of h1)) rx
    obtain ⟨bs, q2⟩ := Dp.reads I (.list ds) (.ref a) u (Rep.dp (lay_of h2) (.lst q nb t)) ry
    have l2 := (shp h2).1
    have hlen : X.A.units + 1 + min (PyData.depthAll ds) d.depth < cLine := by have := (shp h1).2; omega
    cases neg with
    | false => exact SeqAt.in_list_reads q2 q1 (by simpa [PyData.canLay0] using l2) (shp h1).1 hlen (by simpa using fin ds m)
    | true => exact SeqAt.notIn_list_reads q2 q1 (by simpa [PyData.canLay0] using l2) (shp h1).1 hlen (by simpa using fin ds m)
  | @tup a xs ds q t =>
    obtain ⟨⟨h1, h2⟩, m⟩ := m
    obtain ⟨as, q1⟩ := Dp.reads I d x v (r1.dp (lay_of h1)) rx
    obtain ⟨bs, q2⟩ := Dp.reads I (.tuple ds) (.ref a) u (Rep.dp (lay_of h2) (.tup q t)) ry
    have l2 := (shp h2).1
    have hlen : X.A.units + 1 + min (PyData.depthAll ds) d.depth < cLine := by have := (shp h1).2; omega
    cases neg with
    | false => exact SeqAt.in_tuple_reads q2 q1 (by simpa [PyData.canLay0] using l2) (shp h1).1 hlen (by simpa using fin ds m)
    | true => exact SeqAt.notIn_tuple_reads q2 q1 (by simpa [PyData.canLay0] using l2) (shp h1).1 hlen (by simpa using fin ds m)
  | _ => exact (show False from m).elim
theorem pd_in (S : SitB cb vb X p k) {a b : Expr} {ma mb : XE} {pos : Pos} (ha : PD X p a ma) (hb : PD X p b mb) (mk : behindInMarks .In b = false := by first | exact nomark _ | rfl) : PD X p (.Compare a [.In] [b] pos) (eIn false ma mb) := by
  obtain ⟨ta, a1, a2⟩ := ha.ex
  obtain ⟨tb, b1, b2⟩ := hb.ex
  exact ⟨_, pe_cmpR (op_inA (by have := S.rm.un; omega) false) a1 b1 mk, ev_bnd S.ok (f := opIn false) (fun _ _ _ _ h => h) a2 b2⟩
theorem pt_notInD (S : SitB cb vb X p k) {a b : Expr} {ma mb : XE} {pos : Pos} (ha : PD X p a ma) (hb : PD X p b mb) (mk : behindInMarks .NotIn b = false := by first | exact nomark _ | rfl) : PDT X p (.Compare a [.NotIn] [b] pos) (tBool (eIn true ma mb)) := by
  obtain ⟨ta, a1, a2⟩ := ha.ex
  obtain ⟨tb, b1, b2⟩ := hb.ex
  exact ⟨_, pt_cmpR (op_inA (by have := S.rm.un; omega) true) a1 b1 mk, et_bool (m := eIn true ma mb) (ev_bnd S.ok (f := opIn true) (fun _ _ _ _ h => h) a2 b2)⟩
def opCnt : D → D → W D
  | .list xs, .bool b => match bools? xs with | some bs => ret (.int (bs.count b : Nat)) | none => stuck
  | _, _ => stuck
def eCnt (a b : XE) : XE := fun E => bnd (a E) fun x => match x with | .list xs => bnd (b E) fun y => opCnt (.list xs) y | _ => stuck
end
end DL
end
section
namespace DL
open PySem PySem.Spec PyProof.Rows L2
end DL
end
section
namespace DL
open PySem PySem.Spec PyProof.Rows L2
end DL
end
section
namespace DL
open PySem PySem.Spec PyProof.Rows L2
end DL
end
section
namespace DL
open PySem
/-- few different ints -/
def setOk (ns : List Int) : Prop := ns.length ≤ 60 ∨ (ns.length ≤ 4000 ∧ ∀ k ∈ ns, 0 ≤ k ∧ k < 60)
/-- for .. else -/
def forLE (tg : Tg) (s u : XS) : List D → XS
  | [], E => u E
  | d :: ds, E => match tg.put d E with
    | none => stuck
    | some E1 => bnd (s E1) fun o => match o with
      | .nx E' => forLE tg s u ds E'
      | .ct E' => forLE tg s u ds E'
      | .bk E' => ret (.nx E')
      | .rt d => ret (.rt d)
def sForE (it : XA) (tg : Tg) (s u : XS) : XS := fun E => bnd (it E) fun ds => forLE tg s u ds E
end DL
end
section
namespace DL
open PySem
def w_is_integer_0 : Fn := fn 3 3 (sRet (eAnd (eIs .int (eVar 0)) (eAnd (eNot (eIs .bool (eVar 0))) (eChain .le .le (eVar 1) (eVar 0) (eVar 2)))))
def w_extent_of_0 : Fn := fn 3 3 (sRet (eBin .sub (eBin .add (eB1 .sum (eCut (eVar 0) (oSome (eVar 1)) (oSome (eBin .add (eVar 2) (eCon (.int 1)))))) (eVar 2)) (eVar 1)))
def w_check_place_0 : Fn := fn 2 2 (sIf (tNot (tTru (eCall w_is_integer_0 (aCons (eVar 1) (aCons (eCon (.int 0)) (aCons (eBin .sub (eB1 .len (eVar 0)) (eCon (.int 1))) (aNil))))))) (sRaise "NoPlace" [Fl.s .value] (aCons (eVar 1) aNil)) (sSkip))
def w_extent_0 : Fn := fn 3 3 (sSeq (sExpr (eCall w_check_place_0 (aCons (eVar 0) (aCons (eVar 1) (aNil)))))
    (sSeq (sExpr (eCall w_check_place_0 (aCons (eVar 0) (aCons (eVar 2) (aNil)))))
    (sSeq (sIf (tBool (eCmp .lt (eVar 2) (eVar 1))) (sRaise "NoStretch" [] aNil) (sSkip))
    (sRet (eCall w_extent_of_0 (aCons (eVar 0) (aCons (eVar 1) (aCons (eVar 2) (aNil)))))))))
def w_longest_0 : Fn := fn 1 1 (sRet (eB1 .max (eVar 0)))
def w_next_start_0 : Fn := fn 3 4 (sSeq (sAsg 3 (eBin .add (eVar 2) (eCon (.int 1))))
    (sSeq (sWhile (DL.tAnd (tBool (eCmp .lt (eVar 3) (eB1 .len (eVar 0)))) (tBool (eCmp .le (eCall w_extent_of_0 (aCons (eVar 0) (aCons (eVar 2) (aCons (eVar 3) (aNil))))) (eVar 1)))) (sAsg 3 (eBin .add (eVar 3) (eCon (.int 1)))))
    (sRet (eVar 3))))
def w_next_width_0 : Fn := fn 2 5 (sSeq (sAsg 2 (eComp (iTwos (eVar 1) (eCut (eVar 1) (oSome (eCon (.int 1))) (oNone))) (.tp [3, 4]) (tYes) (eCall w_extent_of_0 (aCons (eVar 0) (aCons (eVar 3) (aCons (eVar 4) (aNil))))) [3, 4]))
    (sRet (eIf (tBool (eCmp .ne (eVar 2) (eLst (aNil)))) (eB1 .min (eVar 2)) (eCon .none))))
def w_starts_of_0 : Fn := fn 2 4 (sSeq (sOwn 2 (eLst (aCons (eCon (.int 0)) (aNil))))
    (sSeq (sAsg 3 (eCall w_next_start_0 (aCons (eVar 0) (aCons (eVar 1) (aCons (eCon (.int 0)) (aNil))))))
    (sSeq (sWhile (tBool (eCmp .lt (eVar 3) (eB1 .len (eVar 0)))) (sSeq (sApp 2 (eVar 3))
    (sAsg 3 (eCall w_next_start_0 (aCons (eVar 0) (aCons (eVar 1) (aCons (eVar 3) (aNil))))))))
    (sRel 2 (sRet (eB1 .tuple (eVar 2)))))))
def w_book_of_0 : Fn := fn 1 4 (sSeq (sAsg 1 (eCall w_longest_0 (aCons (eVar 0) (aNil))))
    (sSeq (sOwn 2 (eLst (aNil)))
    (sSeq (sWhile (tBool (eCmp .notN (eVar 1) (eCon .none))) (sSeq (sAsg 3 (eCall w_starts_of_0 (aCons (eVar 0) (aCons (eVar 1) (aNil)))))
    (sSeq (sApp 2 (eTup (aCons (eVar 1) (aCons (eVar 3) (aNil)))))
    (sAsg 1 (eCall w_next_width_0 (aCons (eVar 0) (aCons (eVar 3) (aNil))))))))
    (sRel 2 (sRet (eB1 .tuple (eVar 2)))))))
def w__law_partner_0 : Fn := fnS 2 5 (sSeq (sPar3 2 3 4 (eCallS fDraw 0 (aCons (eCon (.int 6)) (aNil))) (eCallS fDraw 0 (aCons (eB1 .len (eVar 1)) (aNil))) (eB1 .len (eVar 1)))
    (sSeq (sIf (DL.tAnd (tBool (eCmp .lt (eVar 2) (eCon (.int 2)))) (DL.tAnd (tBool (eCmp .lt (eBin .add (eVar 3) (eCon (.int 1))) (eVar 4))) (DL.tAnd (tBool (eCmp .gt (eIdx (eVar 1) (eVar 3)) (eCon (.int 1)))) (tBool (eCmp .lt (eIdx (eVar 1) (eBin .add (eVar 3) (eCon (.int 1)))) (eCon (.int 60))))))) (sRet (eBin .add (eBin .add (eCut (eVar 1) (oNone) (oSome (eVar 3))) (eTup (aCons (eBin .sub (eIdx (eVar 1) (eVar 3)) (eCon (.int 1))) (aCons (eBin .add (eIdx (eVar 1) (eBin .add (eVar 3) (eCon (.int 1)))) (eCon (.int 1))) (aNil))))) (eCut (eVar 1) (oSome (eBin .add (eVar 3) (eCon (.int 2)))) (oNone)))) (sSkip))
    (sSeq (sIf (tBool (eCmp .eq (eVar 2) (eCon (.int 2)))) (sRet (eBin .add (eBin .add (eCut (eVar 1) (oNone) (oSome (eVar 3))) (eTup (aCons (eBin .add (eCon (.int 1)) (eCallS fDraw 0 (aCons (eCon (.int 60)) (aNil)))) (aNil)))) (eCut (eVar 1) (oSome (eBin .add (eVar 3) (eCon (.int 1)))) (oNone)))) (sSkip))
    (sSeq (sIf (DL.tAnd (tBool (eCmp .eq (eVar 2) (eCon (.int 3)))) (tBool (eCmp .gt (eVar 4) (eCon (.int 1))))) (sRet (eBin .add (eCut (eVar 1) (oNone) (oSome (eVar 3))) (eCut (eVar 1) (oSome (eBin .add (eVar 3) (eCon (.int 1)))) (oNone)))) (sSkip))
    (sSeq (sIf (DL.tAnd (tBool (eCmp .eq (eVar 2) (eCon (.int 4)))) (tBool (eCmp .lt (eVar 4) (eCon (.int 24))))) (sRet (eBin .add (eBin .add (eCut (eVar 1) (oNone) (oSome (eVar 3))) (eTup (aCons (eBin .add (eCon (.int 1)) (eCallS fDraw 0 (aCons (eCon (.int 9)) (aNil)))) (aNil)))) (eCut (eVar 1) (oSome (eVar 3)) (oNone)))) (sSkip))
    (sRet (eIf (tBool (eCmp .eq (eVar 2) (eCon (.int 5)))) (eVar 1) (eBin .add (eCut (eVar 1) (oNone) (oSome (eCon (.int 1)))) (eRev (eCut (eVar 1) (oSome (eCon (.int 1))) (oNone)))))))))))
def w_first_unlike_0 : Fn := fn 2 4 (sForE (iTwos (eCall w_book_of_0 (aCons (eVar 0) (aNil))) (eCall w_book_of_0 (aCons (eVar 1) (aNil)))) (.tp [2, 3]) (sIf (tBool (eCmp .ne (eVar 2) (eVar 3))) (sRet (eB2 .min (eIdx (eVar 2) (eCon (.int 0))) (eIdx (eVar 3) (eCon (.int 0))))) (sSkip)) (sRet (eCon .none)))
end DL
end
section
namespace DL
open PySem
end DL
end
section
namespace DL
open PySem
end DL
end
section
namespace DL
open PySem
end DL
end
section
namespace DL
open PySem
end DL
end
section
namespace DL
open PySem
end DL
end
section
namespace DL
open PySem
end DL
end
section
namespace DL
open PySem PySem.Spec PyProof.Rows L2
theorem places_down (n : Nat) : Builtin.Slice.slicePlaces ((n : Int) - 1) (-1) (-1) = n := by
  unfold Builtin.Slice.slicePlaces
  rw [if_neg (by decide)]
  by_cases h : n = 0
  · subst h; rfl
  · rw [if_pos (by omega)]
    simp
theorem pick_down (xs : List Value) : ((List.range xs.length).filterMap fun (m : Nat) => xs.toArray[(((xs.length : Nat) : Int) - 1 + (m : Int) * -1).toNat]?) = xs.reverse := by
  refine List.ext_getElem? fun j => ?_
  have all : ∀ k : Nat, k ≤ xs.length → ((List.range k).filterMap fun (m : Nat) => xs.toArray[(((xs.length : Nat) : Int) - 1 + (m : Int) * -1).toNat]?) = xs.reverse.take k := by
    intro k
    induction k with
    | zero => intro _; rfl
    | succ k ih =>
      intro hk
      rw [List.range_succ, List.filterMap_append, ih (by omega), List.take_add_one]
      congr 1
      have e : (((xs.length : Nat) : Int) - 1 + (k : Int) * -1).toNat = xs.length - 1 - k := by omega
      simp only [List.filterMap_cons, List.filterMap_nil, e]
      rw [List.getElem?_toArray, List.getElem?_reverse (by omega)]
      have : xs.length - 1 - k < xs.length := by omega
      rw [List.getElem?_eq_getElem this]
      rfl
  rw [all xs.length (Nat.le_refl _), List.take_of_length_le (by rw [List.length_reverse]; exact Nat.le_refl _)]
section
variable {prog : Program} {w : World} {A : Around} {E : Value → Shared → Prop} {s : Shared}
theorem applied_down {sl : Addr} {t : Tok} {n : Nat} {Q : Int × Int × Nat → Shared → Prop} (hs : s.heap.IsSliceOf sl .none .none (.int (-1) t)) (h : Q ((n : Int) - 1, -1, n) s) : wpAny (model prog w) A (Builtin.Slice.sliceApplied (.ref sl) (pure (n : Int))) Q E s := by
  obtain ⟨o, e1, _, e3⟩ := hs
  unfold Builtin.Slice.sliceApplied Builtin.Slice.sliceFields
  refine wpAny_bind (wpAny_bind ?_)
  refine wpAny_field e1 e3 (x := .none) rfl (wpAny_bind ?_)
  refine wpAny_field e1 e3 (x := .none) rfl (wpAny_bind ?_)
  refine wpAny_field e1 e3 (x := .int (-1) t) rfl (wpAny_pure ?_)
  refine wpAny_bind (HT.slicePart_ (IsPart.int (-1) t) ?_)
  show wpAny _ _ (if ((-1 : Int) == 0) = true then _ else _) _ _ s
  rw [if_neg (by decide)]
  refine wpAny_bind (HT.slicePart_ IsPart.none (wpAny_bind (HT.slicePart_ IsPart.none (wpAny_bind (wpAny_pure ?_)))))
  show wpAny _ _ (pure ((n : Int) - 1, (-1 : Int), Builtin.Slice.slicePlaces ((n : Int) - 1) (-1) (-1))) _ _ s
  rw [places_down]
  exact wpAny_pure h
theorem getT_down {t sl : Addr} {its : List Value} {tk : Tok} {Q : Value → Shared → Prop} (ht : IsTup s.heap t its.toArray) (hs : s.heap.IsSliceOf sl .none .none (.int (-1) tk))
    (h : Q (.ref s.heap.objs.size) { s with heap := s.heap.push { cls := .type "tuple", data := .seq its.reverse.toArray } }) (hsz : its.length ≤ sizeLine) : wpAny (model prog w) A (getItem (.ref t) (.ref sl)) Q E s := by
  have fits : sizeOk (.seq its.reverse.toArray) := by
    show its.reverse.toArray.size ≤ sizeLine
    rw [List.size_toArray, List.length_reverse]; exact hsz
  have isS : s.TypeIs (.ref sl) "slice" := let ⟨o, a, b, _⟩ := hs; ⟨o, a, b⟩
  unfold getItem
  try with_reducible refine wpAny_holding ?_
  first | refine wpAny_bind (wpAny_pure ?_) | skip
  refine wpAny_bind (wpAny_sequenceKey ht.typeIs (by decide) ?_)
  refine wpAny_bind (wpAny_callSpecial?_slot (name := Str.ofString "__getitem__") ht.typeIs PyProof.Rows.slot_tuple_getitem (wpAny_call_entry PyProof.Rows.slot_tuple_getitem ht.typeIs entry_tuple_getitem ?_ (args_tuple_getitem _ _)))
  show wpAny _ _ (Builtin.Tuple.tupleItemsOf (.ref t) >>= _) _ _ s
  refine wpAny_bind (PyProof.Rows.tupleItemsOf_ ht ?_)
  refine wpAny_bind (wpAny_typeOf isS ?_)
  rw [if_pos (by decide)]
  refine wpAny_bind (applied_down hs ?_)
  have no : ¬ ((((its.toArray.size : Nat) : Int) - 1 == 0 && (-1 : Int) == 1 && its.toArray.size == its.toArray.size) = true) := by simp
  show wpAny _ _ (if (((its.toArray.size : Nat) : Int) - 1 == 0 && (-1 : Int) == 1 && its.toArray.size == its.toArray.size) = true then _ else _) _ _ s
  rw [if_neg no, List.size_toArray, pick_down]
  first
    | exact wpAny_bind (m := Builtin.Tuple.tupleExact _) (wpAny_newObj_type (wpAny_pure ⟨_, rfl, wpAny_pure h⟩) fits)
    | exact wpAny_bind (m := Builtin.Tuple.tupleExact _) (wpAny_newObj_type (wpAny_bind (wpAny_pure (wpAny_pure ⟨_, rfl, wpAny_pure h⟩))) fits)
    | exact wpAny_bind (wpAny_bind (m := Builtin.Tuple.tupleExact _) (wpAny_newObj_type (wpAny_pure (wpAny_pure ⟨_, rfl, wpAny_pure h⟩)) fits))
    | exact wpAny_bind (wpAny_bind (m := Builtin.Tuple.tupleExact _) (wpAny_newObj_type (wpAny_pure ⟨_, rfl, wpAny_pure h⟩) fits))
end
section
variable {X : Cx} {p : Par} {k : Nat} {cb vb : Bool}
theorem pe_turned {e : Expr} {te : TE} {j : Nat} {p1 p2 p3 pos : Pos} (he : PE X e te) : PE X (.Subscript e (.Slice none none (some (.UnaryOp .USub (.Constant (.int 1) j p1) p2)) p3) pos) (fun σ H Q => te σ H fun x H1 => rD1 X.K opRev x H1 Q) := by
  refine ⟨fun pins s σ H Q I h => Subscript_ (thn (he.run pins s σ H _ I h) ?_)⟩
  rintro v s1 ⟨x, H1, I1, rx, B, d, c, P, Xp, hb, r1, m1, kk⟩
  have step : PO X (some (.UnaryOp .USub (.Constant (.int 1) j p1) p2)) (tPart (tUn (rU fun i => .int (-i)) (tC (.int 1)))) := po_some (pe_un un_neg pe_int)
  refine wpAny_Slice (thn (po_none.run pins s1 σ H1 (fun o G => o = none ∧ G = H1) I1 ⟨rfl, rfl⟩) ?_)
  rintro vl s2 ⟨l, G, I2, pl, rfl, rfl⟩
  refine thn (po_none.run pins s2 σ G (fun o G' => o = none ∧ G' = G) I2 ⟨rfl, rfl⟩) ?_
  rintro vu s3 ⟨u, G, I3, pu, rfl, rfl⟩
  refine thn (step.run pins s3 σ G (fun o G' => o = some (-1) ∧ G' = G) I3 ⟨1, rfl, -1, rfl, rfl, rfl⟩) ?_
  rintro vs s4 ⟨o, G, I4, ps, rfl, rfl⟩
  have I5 : Inv X pins σ G { s4 with heap := s4.heap.push { cls := .type "slice", data := .fields #[vl, vu, vs] } } := I4.kept (t' := s4.toks) fun b ob q => Heap.get?_push_of_some _ q
  cases pl
  cases pu
  cases ps
  cases r1 with
  | @tup a xs ds q t =>
    cases rx
    obtain ⟨its, r, ht, hz⟩ := I5.tuple q
    have hl := r.length
    show wpAny (model X.prog X.w) X.A (subscriptTail e _ (.ref a) (.ref s4.heap.objs.size)) (EP X pins σ Q) X.xe _
    refine tail_any (ops := [.ref a, .ref s4.heap.objs.size]) ht.typeIs PyProof.Rows.slot_tuple_getitem.lookup ?_ (by with_unfolding_all rfl)
    refine getT_down ht (Heap.IsSliceOf.new _ _ _ _) ?_ (by omega)
    exact ⟨.ref _, _, I5.laid (t' := s4.toks) (o := .tup xs.reverse) (fun b ob q => Heap.get?_push_of_some _ q) (Nat.le_refl _) ⟨by rw [List.length_reverse]; exact hz, _, r.reverse, IsTup.new _ _⟩, rfl, kk _ _ _ m1 (All.new (I5.hok.fresh (Nat.le_refl _))) (rep_tup (I5.hok.fresh (Nat.le_refl _)) t.reverse)⟩
  | @lst a xs ds q n t =>
    cases rx
    obtain ⟨its, r, ht, hz⟩ := I5.list (SqL.of q)
    have hl := r.length
    show wpAny (model X.prog X.w) X.A (subscriptTail e _ (.ref a) (.ref s4.heap.objs.size)) (EP X pins σ Q) X.xe _
    refine tail_any (ops := [.ref a, .ref s4.heap.objs.size]) ht.isList.typeIs PySem.slot_list_getitem.lookup ?_ (by with_unfolding_all rfl)
    refine wpAny_getItem_list_slice ht.isList (Heap.IsSliceOf.new _ _ _ _) .none .none (.int (-1) _) (by decide) ?_ (by rw [List.size_toArray]; omega)
    rw [PySem.W.krv_pick]
    exact ⟨.ref _, _, I5.laid (t' := s4.toks) (o := .lst xs.reverse) (fun b ob q => Heap.get?_push_of_some _ q) (Nat.le_refl _) ⟨by rw [List.length_reverse]; exact hz, _, 0, r.reverse, Heap.get?_push_size _ rfl⟩, rfl, kk _ _ _ m1 (All.new (I5.hok.fresh (Nat.le_refl _))) (rep_lst hb (I5.hok.fresh (Nat.le_refl _)) t.reverse)⟩
  | _ => exact m1.elim
theorem pd_rev (S : SitB cb vb X p k) {e : Expr} {m : XE} {j : Nat} {p1 p2 p3 pos : Pos} (he : PD X p e m) : PD X p (.Subscript e (.Slice none none (some (.UnaryOp .USub (.Constant (.int 1) j p1) p2)) p3) pos) (eRev m) := by
  obtain ⟨ta, a1, a2⟩ := he.ex
  refine ⟨_, pe_turned a1, fun B H σ E c P Q s re mm kk => ?_⟩
  refine a2 B H σ E _ _ _ s re mm fun d c1 v H1 m1 e1 s1 r1 => ?_
  have st1 := s.go e1 s1
  exact ⟨_, d, _, P, p.XP, st1.trk, r1, m1, fun z v2 H2 pz al r2 => kk z _ v2 H2 pz (e1.trans al.ev) (st1.all S.ok al) r2⟩
end
end DL
end
section
namespace DL
open PySem PySem.Spec PyProof.Rows L2
end DL
end
section
namespace DL
open PySem PySem.Spec PyProof.Rows L2
theorem for_itE {J : It} {n : Nat} {G : Hp → Prop} {Y : Nat → Hp → V → Hp → Prop} (w : Walk J n G Y) {g : TG} {tb u : TS} {D : Ends} {σ : L2.St} {H : Hp} (Pv : Nat → L2.St → Hp → Prop) (h0 : Pv 0 σ H) (hG : ∀ i σ H, i ≤ n → Pv i σ H → G H)
    (hs : ∀ i x σ H H', i < n → Pv i σ H → Y i H x H' → g x σ H' fun σ2 H2 => tb { D with nx := Pv (i + 1), ct := Pv (i + 1), bk := D.nx } σ2 H2) (hd : ∀ σ H, Pv n σ H → u D σ H) :
    ∃ W : Nat → Nat → L2.St → Hp → Prop, (∃ m, W 0 m σ H) ∧ ∀ i m σ H, W i m σ H →
      (J.stop i H ∧ u D σ H) ∨ (J.go i H ∧ ∃ N : L2.St → Hp → Prop, (∀ σ' H', N σ' H' → ∃ m', m' < m ∧ W (i + 1) m' σ' H') ∧ ∀ x H', J.yld i H x H' → g x σ H' fun σ2 H2 => tb { D with nx := N, ct := N, bk := D.nx } σ2 H2) := by
  refine ⟨fun i m σ H => m = n - i ∧ i ≤ n ∧ Pv i σ H, ⟨n, by simp, Nat.zero_le _, h0⟩, ?_⟩
  rintro i m σ H ⟨rfl, hi, p⟩
  have q := hG i σ H hi p
  by_cases hlt : i < n
  · exact .inr ⟨w.goes i H hlt q, Pv (i + 1), fun σ' H' p' => ⟨n - (i + 1), by omega, rfl, hlt, p'⟩, fun x H' y => hs i x σ H H' hlt p (w.yields i H x H' hlt q y)⟩
  · have e : i = n := by omega
    subst e
    exact .inl ⟨w.stops H q, hd σ H p⟩
theorem forLE_drop {t : Tg} {s u : XS} {ds : List D} {i : Nat} {d : D} (h : ds[i]? = some d) (E : Env) : forLE t s u (ds.drop i) E = match t.put d E with
    | none => stuck
    | some E1 => bnd (s E1) fun o => match o with
      | .nx E' => forLE t s u (ds.drop (i + 1)) E'
      | .ct E' => forLE t s u (ds.drop (i + 1)) E'
      | .bk E' => ret (.nx E')
      | .rt d => ret (.rt d) := by
  obtain ⟨hl, e⟩ := List.getElem?_eq_some_iff.mp h
  rw [List.drop_eq_getElem_cons hl, e]
  rfl
section
variable {X : Cx} {p : Par} {k : Nat} {tg : Expr}
theorem sd_forE (S : SitB true true X p k) {iter : Expr} {body orelse : List Stmt} {mi : XA} {t : Tg} {mb mu : XS} {pos : Pos} (hi : PDI X p tg iter mi) (hg : PG X tg (gOf X.K t)) (hb : PSSD X p body mb) (ho : PSSD X p orelse mu)
    (hs : ∀ x, foldedSetIterable iter X.env x = pure x := by intro _; rfl) : PSD X p (.For tg iter body orelse pos) (sForE mi t mb mu) := by
  obtain ⟨wi, a1, a2⟩ := hi.ex
  obtain ⟨tb, b1, b2⟩ := hb.ex
  obtain ⟨tu, u1, u2⟩ := ho.ex
  refine ⟨_, ps_forE S.po S.calm a1 hg b1 u1 hs, fun B H σ E c P Dn st r m nx rt bk ct => ?_⟩
  refine a2 B H σ E _ _ _ st r m fun ds c1 J H1 m1 e1 s1 w => ?_
  obtain ⟨G, g0, g1, wk⟩ := w.ex
  have st1 := st.go e1 s1
  refine for_itE wk (fun i σ' H' => ∃ B' E' c', St0 p c' B' H' ∧ Tr (bm p B c1) H1 (bm p B' c') H' ∧ EnvR X.K p c' B' H' σ' E' ∧ forLE t mb mu (ds.drop i) E' c' P p.XP) ⟨B, E, _, st1, .refl, r.go st e1, m1⟩ (fun i σ' H' _ ⟨B', E', _, _, t', _, _⟩ => g1 _ H' t') ?_ ?_
  · rintro i x σ' H' H'' hi' ⟨B', E', c', st', t', r', m'⟩ ⟨al, y⟩
    obtain ⟨d, hd, rd⟩ := y _ t' st'.trk
    rw [forLE_drop hd] at m'
    cases hp : t.put d E' with
    | none => rw [hp] at m'; exact m'.elim
    | some E1 =>
      rw [hp] at m'
      have st2 : St0 p c' B' H'' := st'.go al.ev (st'.all S.ok al)
      have r2 := r'.go st' al.ev
      refine gOf_put S.nf r2 rd hp _ fun σ2 r3 _ _ => ?_
      have t2 : Tr (bm p B' c') H' (bm p B' c') H'' := .of al.ext
      refine b2 B' H'' σ2 E1 _ _ _ st2 r3 m' (fun E3 c3' B3 σ3 H3 m3 st3 t3 r3 => ?_) (fun d c3' v H3 m3 => rt d c3' v H3 m3) (fun E3 c3' B3 σ3 H3 m3 st3 t3 r3 => ?_) (fun E3 c3' B3 σ3 H3 m3 st3 t3 r3 => ?_)
      · exact ⟨B3, E3, _, st3, (t'.trans t2).trans t3, r3, m3⟩
      · exact nx E3 _ B3 σ3 H3 m3 st3 (((((st.up e1)).trans t').trans t2).trans t3) r3
      · exact ⟨B3, E3, _, st3, (t'.trans t2).trans t3, r3, m3⟩
  · rintro σ' H' ⟨B', E', c', st', t', r', m'⟩
    rw [List.drop_length] at m'
    have t0 : Tr (bm p B c) H (bm p B' c') H' := ((st.up e1)).trans t'
    exact u2 B' H' σ' E' _ _ _ st' r' m' (fun E3 c3' B3 σ3 H3 m3 st3 t3 r3 => nx E3 _ B3 σ3 H3 m3 st3 (t0.trans t3) r3) (fun d c3' v H3 m3 => rt d c3' v H3 m3) (fun E3 c3' B3 σ3 H3 m3 st3 t3 r3 => bk E3 _ B3 σ3 H3 m3 st3 (t0.trans t3) r3) (fun E3 c3' B3 σ3 H3 m3 st3 t3 r3 => ct E3 _ B3 σ3 H3 m3 st3 (t0.trans t3) r3)
end
end DL
end
section
namespace DL
open PySem PySem.Spec PyProof.Rows L2
end DL
end
section
namespace DL
open PySem PySem.Spec PyProof.Rows L2
end DL
end
section
namespace DL
open PySem PySem.Spec PyProof.Rows L2
end DL
end
section
namespace DL
open PySem PySem.Spec PyProof.Rows L2
end DL
end
section
namespace DL
open PySem PySem.Spec PyProof.Rows L2
section
variable {X : Cx} {p : Par} {k : Nat} {cb vb : Bool}
theorem RoomB.in1 {k : Nat} {A : Around} (r : RoomB cb (k + 1) A) : RoomB cb k A.in1 :=
  ⟨r.hd_, by have := r.dp; show A.depth + 3 * k + 5 < _; omega, by have := r.un; show A.units + 1 + 16 * k + 200 < _; omega⟩
end
end DL
end
section
namespace DL
open PySem PySem.Spec PyProof.Rows L2
end DL
end
section
namespace DL
open PySem PySem.Spec PyProof.Rows L2
/-- objects without fields stand in no data -/
def Bare (o : HO) : Prop := ∃ C dx, o = .ins C dx []
def Skips (H H' : Hp) : Prop := ∀ a o, H a = some o → ¬ Bare o → H' a = some o
theorem Skips.sqT {K : PySem.W.Frag} {H H' : Hp} (h : Skips H H') {a : Addr} {xs : List V} (q : SqT K H a xs) : SqT K H' a xs := by
  rcases q with (q | ⟨o, q⟩) | q
  · exact .inl (.inl (h a _ q fun ⟨_, _, z⟩ => nomatch z))
  · exact .inl (.inr ⟨o, h a _ q fun ⟨_, _, z⟩ => nomatch z⟩)
  · exact .inr q
end DL
end
section
namespace DL
open PySem
/-- the place that a reference names -/
def rOf : D → Option Nat
  | .dict [(.none, .bool true), (.none, .int i)] => some i.toNat
  | _ => none
def Sx.set (c : Sx) (a : Nat) (x : Cell) : Sx := ⟨c.n, fun b => if b = a then some x else c.mu b⟩
def lstAt (d : D) (c : Sx) : Option (Nat × List D) := (rOf d).bind fun a => match c.mu a with
  | some (.lst ds) => some (a, ds)
  | _ => none
def getL (d : D) : W (Nat × List D) := fun c P _ => ∃ q, lstAt d c = some q ∧ P q c
/-- a method, a property: by the class -/
abbrev Tb := List (Str × Fn)
end DL
end
section
namespace DL
open PySem PySem.Spec PyProof.Rows L2
end DL
end
section
namespace DL
open PySem PySem.Spec PyProof.Rows L2
section
variable {X : Cx} {p : Par} {k : Nat} {cb vb : Bool}
theorem IsStr.quiet {K : PySem.W.Frag} (Z : IsStr K p) : IsStr K p.quiet := Z
/-- the method m of the class n does f -/
structure MetN (cb : Bool) (X : Cx) (k : Nat) (n m : Str) (f : Fn) : Prop where
  ex : ∃ (j : Nat) (g : Addr) (fd : FuncData) (ps : List Str), j ≤ k ∧ FnG cb X.prog X.w X.K X.mg X.base j g fd ps (spC X.K X.mg f) ∧ Meth X.K (He.ga X.K n) m g ∧ Binds X.K fd ps []
inductive MetT (cb : Bool) (X : Cx) (k : Nat) (m : Str) : Tb → Prop
  | nil : MetT cb X k m []
  | cons {n : Str} {f : Fn} {tb : Tb} (h : MetN cb X k n m f) (t : MetT cb X k m tb) : MetT cb X k m ((n, f) :: tb)
theorem MetT.at_ {m : Str} {n : Str} {f : Fn} : ∀ {tb : Tb}, MetT cb X k m tb → tb.lookup n = some f → MetN cb X k n m f
  | _, .nil, h => by cases h
  | _, .cons (n := n') (f := f') h t, e => by
    rw [List.lookup_cons] at e
    by_cases hn : (n == n') = true
    · rw [hn] at e
      cases e
      rw [beq_iff_eq] at hn
      subst hn
      exact h
    · rw [Bool.not_eq_true] at hn
      rw [hn] at e
      exact t.at_ e
end
end DL
end
section
namespace DL
open PySem PySem.Spec PyProof.Rows L2
section
variable {X : Cx} {p : Par} {k : Nat} {cb vb : Bool}
structure PropN (cb : Bool) (X : Cx) (k : Nat) (n m : Str) (f : Fn) : Prop where
  ex : ∃ (j : Nat) (q g : Addr) (fd : FuncData) (ps : List Str), j + 1 ≤ k ∧ FnG cb X.prog X.w X.K X.mg X.base j g fd ps (spC X.K X.mg f) ∧ PropOf X.K (He.ga X.K n) m q g ∧ Binds X.K fd ps []
inductive PropT (cb : Bool) (X : Cx) (k : Nat) (m : Str) : Tb → Prop
  | nil : PropT cb X k m []
  | cons {n : Str} {f : Fn} {tb : Tb} (h : PropN cb X k n m f) (t : PropT cb X k m tb) : PropT cb X k m ((n, f) :: tb)
theorem PropT.at_ {m : Str} {n : Str} {f : Fn} : ∀ {tb : Tb}, PropT cb X k m tb → tb.lookup n = some f → PropN cb X k n m f
  | _, .nil, h => by cases h
  | _, .cons (n := n') (f := f') h t, e => by
    rw [List.lookup_cons] at e
    by_cases hn : (n == n') = true
    · rw [hn] at e
      cases e
      rw [beq_iff_eq] at hn
      subst hn
      exact h
    · rw [Bool.not_eq_true] at hn
      rw [hn] at e
      exact t.at_ e
end
end DL
end
section
namespace DL
open PySem PySem.Spec PyProof.Rows L2
end DL
end
section
namespace DL
open PySem
end DL
end
section
namespace DL
open PySem PySem.Spec PyProof.Rows L2
end DL
end
section
namespace DL
open PySem PySem.Spec PyProof.Rows L2
/-- the name is a property at q whose setter is at s -/
structure PropSt (K : PySem.W.Frag) (C : Addr) (f : Str) (q s : Addr) : Prop where
  tk : PySem.W.takerIn K C f = some (some (.ref q))
  ty : PySem.W.typeIn K (.ref q) = some (.type "property")
  rec_ : ∃ a rest, PySem.W.recIn K q "property" = some (a :: .ref s :: rest)
section
variable {X : Cx} {p : Par} {k : Nat} {cb vb : Bool}
structure PropSN (cb : Bool) (X : Cx) (k : Nat) (n m : Str) (f : Fn) : Prop where
  ex : ∃ (j : Nat) (q g : Addr) (fd : FuncData) (ps : List Str), j + 2 ≤ k ∧ FnG cb X.prog X.w X.K X.mg X.base j g fd ps (spC X.K X.mg f) ∧ PropSt X.K (He.ga X.K n) m q g ∧ Binds X.K fd ps []
inductive PropST (cb : Bool) (X : Cx) (k : Nat) (m : Str) : Tb → Prop
  | nil : PropST cb X k m []
  | cons {n : Str} {f : Fn} {tb : Tb} (h : PropSN cb X k n m f) (t : PropST cb X k m tb) : PropST cb X k m ((n, f) :: tb)
theorem PropST.at_ {m : Str} {n : Str} {f : Fn} : ∀ {tb : Tb}, PropST cb X k m tb → tb.lookup n = some f → PropSN cb X k n m f
  | _, .nil, h => by cases h
  | _, .cons (n := n') (f := f') h t, e => by
    rw [List.lookup_cons] at e
    by_cases hn : (n == n') = true
    · rw [hn] at e
      cases e
      rw [beq_iff_eq] at hn
      subst hn
      exact h
    · rw [Bool.not_eq_true] at hn
      rw [hn] at e
      exact t.at_ e
end
end DL
end
section
namespace DL
open PySem
end DL
end
section
namespace DL
open PySem PySem.Spec PyProof.Rows L2 HotX
end DL
end
section
namespace DL
open PySem PySem.Spec PyProof.Rows L2
end DL
end
section
namespace DL
open PySem PySem.Spec PyProof.Rows L2 HotX
/-- the contexts from x on: none, or one whose own context is None -/
def Chn (h : Heap) (x : Addr) : Prop := ∃ o : Obj, h.get? x = some o ∧ (EndC o ∨ ∃ (y : Addr) (vs : Array Value) (oy : Obj), o.data = .fields vs ∧ vs[2]? = some (.ref y) ∧ h.get? y = some oy ∧ EndC oy ∧ y ≠ x)
theorem Chn.keep {h h' : Heap} {x : Addr} (c : Chn h x) (k : ∀ b o, h.get? b = some o → (∃ vs, o.data = .fields vs) → h'.get? b = some o ∨ False) : Chn h' x := by
  obtain ⟨o, e, z⟩ := c
  rcases z with z | ⟨y, vs, oy, z1, z2, z3, z4, z5⟩
  · exact ⟨o, (k x o e (let ⟨vs, q, _⟩ := z; ⟨vs, q⟩)).elim id False.elim, .inl z⟩
  · exact ⟨o, (k x o e ⟨vs, z1⟩).elim id False.elim, .inr ⟨y, vs, oy, z1, z2, (k y oy z3 (let ⟨v, q, _⟩ := z4; ⟨v, q⟩)).elim id False.elim, z4, z5⟩⟩
theorem Chn.keeps {h h' : Heap} {x : Addr} (c : Chn h x) (k : ∀ b o, h.get? b = some o → h'.get? b = some o) : Chn h' x := c.keep fun b o e _ => .inl (k b o e)
/-- what is handled -/
def HotN (A : Around) (h : Heap) : Prop := ∃ x, A.handled = some (.ref x) ∧ Chn h x
theorem HotN.keeps {A : Around} {h h' : Heap} (c : HotN A h) (k : ∀ b o, h.get? b = some o → h'.get? b = some o) : HotN A h' := by
  obtain ⟨x, hh, c⟩ := c
  exact ⟨x, hh, c.keeps k⟩
/-- in X, what is handled is known -/
def HotS (X : Cx) : Prop := ∀ (pins : List (Addr × Obj)) (σ : L2.St) (H : Hp) (s : Shared), Inv X pins σ H s → HotN X.A s.heap
theorem HotS.of {X : Cx} {a : Addr} {oe : Obj} (hh : X.A.handled = some (.ref a)) (ha : (a, oe) ∈ X.pn) (h : EndC oe ∨ ∃ (y : Addr) (vs : Array Value) (oy : Obj), oe.data = .fields vs ∧ vs[2]? = some (.ref y) ∧ (y, oy) ∈ X.pn ∧ EndC oy ∧ y ≠ a) : HotS X := fun pins σ H s I => by
  refine ⟨a, hh, oe, (I.pin (a, oe) (List.mem_append_left _ ha)).1, ?_⟩
  rcases h with h | ⟨y, vs, oy, h1, h2, h3, h4, h5⟩
  · exact .inl h
  · exact .inr ⟨y, vs, oy, h1, h2, (I.pin (y, oy) (List.mem_append_left _ h3)).1, h4, h5⟩
/-- in X, tuples may be unpacked -/
def UnpX (X : Cx) : Prop := ∀ (es : List Expr) (k : _) (pos : Pos) (t : TGs) (n : Nat), PGs X es t → (assignEach es X.env).length = n → (assignEach es X.env).findIdx? (·.1) = none → PG X (.Tuple es k pos) (gTup X.K n t)
theorem UnpX.calm {X : Cx} (h : X.calm = true) : UnpX X := fun _ _ _ _ _ a b c => pg_tup h a b c
end DL
end
section
namespace DL
open PySem PySem.Spec PyProof.Rows L2
end DL
end
section
namespace DL
open PySem
end DL
end
section
namespace DL
open PySem PySem.Spec PyProof.Rows L2
end DL
end
section
namespace DL
open PySem
end DL
end
section
namespace DL
open PySem
end DL
end
section
namespace DL
open PySem
end DL
end
section
namespace DL
open PySem
end DL
end
section
namespace DL
open PySem
end DL
end
section
namespace DL
open PySem
end DL
end
section
namespace DL
open PySem
end DL
end
section
namespace DL
open PySem
end DL
end
section
namespace DL
open PySem
def both (m1 m2 : W D) : W D := fun c P XP => m1 c P XP ∧ m2 c P XP
end DL
end
section
namespace DL
open PySem
end DL
end
section
namespace DL
open PySem
end DL
end
section
namespace DL
open PySem
end DL
end
section
namespace DL
open PySem
end DL
end
section
namespace DL
open PySem
end DL
end
section
namespace DL
open PySem PySem.Spec PyProof.Rows L2
structure AllT (R : Str → Fn → Prop) (tb : Tb) : Prop where
  at_ : ∀ n f, tb.lookup n = some f → R n f
theorem AllT.nil {R : Str → Fn → Prop} : AllT R [] := ⟨fun n f h => by cases h⟩
theorem AllT.cons {R : Str → Fn → Prop} {n : Str} {f : Fn} {tb : Tb} (h : R n f) (t : AllT R tb) : AllT R ((n, f) :: tb) := ⟨fun m g e => by
  rw [List.lookup_cons] at e
  by_cases hn : (m == n) = true
  · rw [hn] at e
    cases e
    rw [beq_iff_eq] at hn
    subst hn
    exact h
  · rw [Bool.not_eq_true] at hn
    rw [hn] at e
    exact t.at_ _ _ e⟩
end DL
end
section
namespace DL
open PySem PySem.Spec PyProof.Rows L2
end DL
end
section
namespace DL
open PySem PySem.Spec PyProof.Rows L2
end DL
end
section
namespace DL
open PySem PySem.Spec PyProof.Rows L2 HotX
end DL
end
section
namespace DL
open PySem PySem.Spec PyProof.Rows L2 HotX
end DL
end
section
namespace DL
open PySem PySem.Spec PyProof.Rows L2
end DL
end
section
namespace DL
open PySem PySem.Spec PyProof.Rows L2
end DL
end
section
namespace DL
open PySem
end DL
end
section
namespace DL
open PySem PySem.Spec PyProof.Rows L2 HotX
theorem HotH.n {X : Cx} {pins : List (Addr × Obj)} {σ : L2.St} {H : Hp} {s : Shared} (h : HotH X.A H) (I : Inv X pins σ H s) : HotN X.A s.heap := by
  obtain ⟨a, oe, h1, h2, h3⟩ := h
  exact ⟨a, h1, oe, (I.hok a _ h2).1, .inl h3⟩
theorem HotH.ext {A : Around} {B : Addr → Prop} {H H' : Hp} (h : HotH A H) (e : Ext B H H') : HotH A H' := by
  obtain ⟨a, oe, h1, h2, h3⟩ := h
  exact ⟨a, oe, h1, e.imm a _ h2 trivial, h3⟩
end DL
end
section
namespace DL
open PySem PySem.Spec PyProof.Rows L2
end DL
end
section
namespace DL
open PySem
end DL
end
section
namespace DL
open PySem PySem.Spec PyProof.Rows L2
/-- which functions stand at which places -/
abbrev Phi := Nat → Option Fn
end DL
end
section
namespace DL
open PySem
end DL
end
section
namespace DL
open PySem PySem.Spec PyProof.Rows L2
/-- what a function at a place does: from where it was made on -/
def spL (K : PySem.W.Frag) (mg : Str → Option Value) (S L C : Addr) (c0 : Sx) (H0 : Hp) (B0 : Addr → Prop) (m : Fn) : Sp := fun vs H Q EK => ∃ (B : Addr → Prop) (ds : List D) (c : Sx) (P : D → Sx → Prop) (XP : Exn → Sx → Prop),
  (∀ a, B a → H0 a ≠ none → bc B0 S L C c0 a) ∧ EvB (cB S L C) c0 H0 c H ∧ (∀ a, bc B S L C c a → H a ≠ none) ∧ StI K S L C c H ∧ Reps K (bc B S L C c) H vs ds ∧ m ds c P XP ∧
  (∀ d c' v H', P d c' → EvB (cB S L C) c H c' H' → StI K S L C c' H' → Rep K (bc B S L C c') H' v d → Q v H') ∧
  ∀ x c' cl dd H', XP x c' → EvB (cB S L C) c H c' H' → StI K S L C c' H' → ExRep K mg (bc B S L C c') H' x cl dd → EK cl dd H'
/-- the functions of φ keep their promises, in all frames that are entered later -/
def Live (P : Program) (w : World) (K : PySem.W.Frag) (mg : Str → Option Value) (base : Heap) (j : Nat) (S L C : Addr) (φ : Phi) (outer : List PySem.Env) (s : Shared) (H : Hp) (c : Sx) (B : Addr → Prop) : Prop :=
  ∀ a m, φ a = some m → H a = none ∧ a ∉ frs outer ∧ PySem.W.FnAt a s.heap ∧ ∀ (A : Around) (outer' : List PySem.Env) (s' : Shared) (H' : Hp) (us : List Value) (vs : List V) (Q : VK) (E : XK), RoomB true j A → A.guards = some [] → Env0 P w K mg base A outer' s' H' →
    Un (frs outer) [] H H' s.heap s'.heap → Vals vs us → spL K mg S L C c H B m vs H' Q E → codeAny (model P w) A (.call (.ref a) ⟨us, []⟩) (CR (CXd K P w) outer' P w H' s' Q E) s'
/-- .. where a body stands -/
structure LiveZ (Z : Cx) (q : Par) (φ : Phi) (j : Nat) : Prop where
  h0 : q.H0 = Z.H_0
  ex : Z.ex = []
  go : ∃ S L C, q.B0 = cB S L C ∧ q.SI = StI Z.K S L C ∧ q.S = S ∧ Live Z.prog Z.w Z.K Z.mg Z.base j S L C φ Z.outer Z.s_0 Z.H_0 q.c0 q.Bc
theorem LiveZ.sub {Z : Cx} {p q : Par} {φ : Phi} {j : Nat} {pn : List (Addr × Obj)} {xe : Value → Shared → Prop} (h : LiveZ Z p φ j) (s : SubP p q) : LiveZ (Z.tr pn xe) q φ j := by
  obtain ⟨h1, h2, S, L, C, e1, e2, e3, l⟩ := h
  refine ⟨s.h0.trans h1, h2, S, L, C, s.b0.trans e1, s.si.trans e2, s.ss.trans e3, ?_⟩
  rw [s.c0, s.bc]
  exact l
section
variable {P : Program} {w : World} {K : PySem.W.Frag} {mg : Str → Option Value} {base : Heap} {cb : Bool}
/-- as spG, with functions that keep their promises -/
def spGL (b : Bool) (K : PySem.W.Frag) (mg : Str → Option Value) (m : Fn) (Λ : Addr → Addr → Addr → Sx → (Addr → Prop) → Prop) : Sp := fun vs H Q EK => ∃ (S L C : Addr) (ws : List V) (B : Addr → Prop) (ds : List D) (c : Sx) (P : D → Sx → Prop) (XP : Exn → Sx → Prop),
  vs = (if b = true then [.ref S] else []) ++ ws ∧ (∀ a, bc B S L C c a → H a ≠ none) ∧ StI K S L C c H ∧ Reps K (bc B S L C c) H ws ds ∧ m ds c P XP ∧ Λ S L C c B ∧
  (∀ d c' v H', P d c' → EvB (cB S L C) c H c' H' → StI K S L C c' H' → Rep K (bc B S L C c') H' v d → Q v H') ∧
  ∀ x c' cl dd H', XP x c' → EvB (cB S L C) c H c' H' → StI K S L C c' H' → ExRep K mg (bc B S L C c') H' x cl dd → EK cl dd H'
/-- a def that is handed functions keeps its promise -/
structure FnL (cb : Bool) (P : Program) (w : World) (K : PySem.W.Frag) (mg : Str → Option Value) (base : Heap) (k j : Nat) (f : Addr) (fd : FuncData) (ps : List Str) (b : Bool) (m : Phi → Fn) : Prop where
  len : ∀ φ Λ vs H Q E, spGL b K mg (m φ) Λ vs H Q E → vs.length = ps.length
  go : ∀ (φ : Phi) (A : Around) (outer : List PySem.Env) (s : Shared) (H : Hp) (args : Args) (us : List Value) (vs : List V) (Q : VK) (E : XK), RoomB cb k A → A.guards = some [] → Env0 P w K mg base A outer s H →
    BindsTo s fd args (ps.zip us) → Vals vs us → spGL b K mg (m φ) (fun S L C c B => Live P w K mg base j S L C φ outer s H c B) vs H Q E → codeAny (model P w) A (.call (.ref f) args) (CR (CXd K P w) outer P w H s Q E) s
theorem FnL.mono {k k' j : Nat} {f : Addr} {fd : FuncData} {ps : List Str} {b : Bool} {m : Phi → Fn} (F : FnL cb P w K mg base k j f fd ps b m) (h : k ≤ k') : FnL cb P w K mg base k' j f fd ps b m :=
  ⟨F.len, fun φ A outer s H args us vs Q E hr => F.go φ A outer s H args us vs Q E (hr.mono h)⟩
end
end DL
end
section
namespace DL
open PySem PySem.Spec PyProof.Rows L2
/-- a def f(*v) keeps its promise, called by position -/
structure FnV (cb : Bool) (P : Program) (w : World) (K : PySem.W.Frag) (mg : Str → Option Value) (base : Heap) (k : Nat) (f : Addr) (sp : Sp) : Prop where
  go : ∀ (A : Around) (outer : List PySem.Env) (s : Shared) (H : Hp) (us : List Value) (vs : List V) (Q : VK) (E : XK), RoomB cb k A → A.guards = some [] → Env0 P w K mg base A outer s H →
    Vals vs us → sp vs H Q E → codeAny (model P w) A (.call (.ref f) ⟨us, []⟩) (CR (CXd K P w) outer P w H s Q E) s
section
variable {P : Program} {w : World} {K : PySem.W.Frag} {mg : Str → Option Value} {base : Heap} {cb : Bool}
theorem FnV.imp {k : Nat} {f : Addr} {sp sp' : Sp} (F : FnV cb P w K mg base k f sp) (h : ∀ vs H Q E, sp' vs H Q E → sp vs H Q E) : FnV cb P w K mg base k f sp' :=
  ⟨fun A outer s H us vs Q E hr hg e0 rv hq => F.go A outer s H us vs Q E hr hg e0 rv (h vs H Q E hq)⟩
end
end DL
end
section
namespace DL
open PySem PySem.Spec PyProof.Rows L2
end DL
end
section
namespace DL
open PySem PySem.Spec PyProof.Rows L2
/-- such a def, D the class in whose body it stands -/
structure FunS (K : PySem.W.Frag) (fl x qual : Str) (params : Arguments) (body : List Stmt) (scope : Scope) (kws : List (Str × V)) (D f : Addr) (fd : FuncData) : Prop where
  ex : ∃ (oc : Value) (od : Option Addr) (dV kV doc pm : Value) (an : Option Addr) (cda cc : Addr) (ct : Value) (osl : Array (Option Value)),
    fd = PySem.W.ksFn x qual params body scope dV kV doc pm an (.ref cda) ct cc ∧ K.lookup f = some ⟨oc, od, .func fd, osl⟩ ∧ PySem.W.codeIn K (.ref cda) qual = true ∧ DflV K dV [] ∧ KwdV K kV kws ∧
    (∃ (cl : Value) (cdd : Option Addr) (vs : Array Value) (ccs : Array (Option Value)) (tf : Tok), K.lookup cda = some ⟨cl, cdd, .fields vs, ccs⟩ ∧ vs[2]? = some (.str fl tf)) ∧
    (∃ (cl : Value) (cld : Option Addr) (csl : Array (Option Value)), K.lookup cc = some ⟨cl, cld, .cell (some (.ref D)), csl⟩)
  kp : PySem.W.keepIn K (.ref f) = true
theorem FunS.bindsN {K : PySem.W.Frag} {fl x qual : Str} {params : Arguments} {body : List Stmt} {scope : Scope} {kws : List (Str × V)} {D f : Addr} {fd : FuncData} {ps : List Str} (F : FunS K fl x qual params body scope kws D f fd)
    (h : ∀ (kV doc pm : Value) (an : Option Addr) (cdv ct : Value) (cc : Addr) (us : List Value), us.length = ps.length → bindArgs (PySem.W.ksFn x qual params body scope .none kV doc pm an cdv ct cc) ⟨us, []⟩ = pure (ps.zip us)) : Binds K fd ps [] := by
  obtain ⟨oc, od, dV, kV, doc, pm, an, cda, cc, ct, osl, rfl, lk, hcd, hD, hK, _⟩ := F.ex
  rcases hD with ⟨_, rfl⟩ | ⟨e, _⟩
  · exact .all (h kV doc pm an (.ref cda) ct cc)
  · exact absurd rfl e
abbrev AtC (X : Cx) (c : Code) {α : Type} (t : Sem α) (Q : α → Shared → Prop) (s : Shared) : Prop := PySem.wpAt (model X.prog X.w) X.A c t Q X.xe s
structure PEAt (X : Cx) (c : Code) (e : Expr) (t : TE) : Prop where
  run : ∀ (pins : List (Addr × Obj)) (s : Shared) (σ : L2.St) (H : Hp) (Q : VK), Inv X pins σ H s → t σ H Q → AtC X c (eval e X.env) (EP X pins σ Q) s
structure PSsAt (X : Cx) (c : Code) (sts : List Stmt) (t : TS) : Prop where
  run : ∀ (pins : List (Addr × Obj)) (s : Shared) (σ : L2.St) (H : Hp) (D : Ends), Inv X pins σ H s → t D σ H → AtC X c (execs sts X.env) (SP X pins D) s
structure PDat (X : Cx) (c : Code) (p : Par) (e : Expr) (m : XE) : Prop where
  ex : ∃ te, PEAt X c e te ∧ EvR X.K p te m
structure SSat (X : Cx) (c : Code) (p : Par) (sts : List Stmt) (m : XS) : Prop where
  ex : ∃ ts, PSsAt X c sts ts ∧ SR X.K p ts m
section
variable {X : Cx} {p : Par} {k : Nat} {cb vb : Bool} {c : Code}
theorem PD.at_ {e : Expr} {m : XE} (h : PD X p e m) : PDat X c p e m := by
  obtain ⟨te, a1, a2⟩ := h.ex
  exact ⟨te, ⟨fun pins s σ H Q I q => wpAt_of_wpAny (a1.run pins s σ H Q I q)⟩, a2⟩
theorem PSSD.at_ {sts : List Stmt} {m : XS} (h : PSSD X p sts m) : SSat X c p sts m := by
  obtain ⟨ts, a1, a2⟩ := h.ex
  exact ⟨ts, ⟨fun pins s σ H Q I q => wpAt_of_wpAny (a1.run pins s σ H Q I q)⟩, a2⟩
end
end DL
end
section
namespace DL
open PySem PySem.Spec PyProof.Rows L2
section
variable {X : Cx} {p : Par} {k : Nat} {cb vb : Bool} {c : Code} {D : Addr}
/-- the method m of what stands behind D, of the class n, does f -/
structure SupN (cb : Bool) (X : Cx) (k : Nat) (D : Addr) (n m : Str) (f : Fn) : Prop where
  ex : ∃ (j : Nat) (g : Addr) (fd : FuncData) (ps : List Str), j ≤ k ∧ FnG cb X.prog X.w X.K X.mg X.base j g fd ps (spC X.K X.mg f) ∧ PySem.W.mroIn X.K (He.ga X.K n) (.ref D) = some true ∧ PySem.W.ks_superIn X.K (He.ga X.K n) D m = some (some (.ref g)) ∧
    PySem.W.typeIn X.K (.ref g) = some (.type "function") ∧ PySem.W.fnIn X.K g = true ∧ Binds X.K fd ps []
inductive SupT (cb : Bool) (X : Cx) (k : Nat) (D : Addr) (m : Str) : Tb → Prop
  | nil : SupT cb X k D m []
  | cons {n : Str} {f : Fn} {tb : Tb} (h : SupN cb X k D n m f) (t : SupT cb X k D m tb) : SupT cb X k D m ((n, f) :: tb)
theorem SupT.at_ {m : Str} {n : Str} {f : Fn} : ∀ {tb : Tb}, SupT cb X k D m tb → tb.lookup n = some f → SupN cb X k D n m f
  | _, .nil, h => by cases h
  | _, .cons (n := n') (f := f') h t, e => by
    rw [List.lookup_cons] at e
    by_cases hn : (n == n') = true
    · rw [hn] at e
      cases e
      rw [beq_iff_eq] at hn
      subst hn
      exact h
    · rw [Bool.not_eq_true] at hn
      rw [hn] at e
      exact t.at_ e
theorem MethP.pinned {pins : List (Addr × Obj)} {σ : L2.St} {H : Hp} {s : Shared} {q a g : Addr} (I : Inv X ((q, PySem.W.methodObj (.ref g) (.ref a)) :: pins) σ H s) : PySem.W.MethP X.K q g (.ref a) s.heap :=
  ⟨(I.pin _ (List.mem_append_right _ List.mem_cons_self)).1, I.kIn⟩
end
end DL
end
section
namespace DL
open PySem PySem.Spec PyProof.Rows L2
structure PAat (X : Cx) (c : Code) (es : List Expr) (t : TA) : Prop where
  run : ∀ (pos : Pos) (pins : List (Addr × Obj)) (s : Shared) (σ : L2.St) (H : Hp) (Q : List V → Hp → Prop), Inv X pins σ H s → t σ H Q → AtC X c (spliced (backTo pos (starEach es X.env))) (AP X pins σ Q) s
structure PDAat (X : Cx) (c : Code) (p : Par) (es : List Expr) (m : XA) : Prop where
  ex : ∃ ta, PAat X c es ta ∧ EvA X.K p ta m
section
variable {X : Cx} {p : Par} {k : Nat} {cb vb : Bool} {c : Code} {D : Addr}
theorem PDA.at_ {es : List Expr} {m : XA} (h : PDA X p es m) : PDAat X c p es m := by
  obtain ⟨ta, a1, a2⟩ := h.ex
  exact ⟨ta, ⟨fun pos pins s σ H Q I q => PySem.wpAt_of_wpAny (a1.run pos pins s σ H Q I q)⟩, a2⟩
end
end DL
end
section
namespace DL
open PySem PySem.Spec PyProof.Rows L2
structure DefA where
  at_ : PySem.W.Frag → Addr
  name : Str
  qual : Str
  params : Arguments
  body : List Stmt
  scope : Scope
  /-- with `super()`: the file, the class -/
  clo : Option (Str × Str)
  kwd : List (Str × He.Dv) := []
def DefA.kws (K : PySem.W.Frag) (d : DefA) : List (Str × V) := d.kwd.map fun q => (q.1, q.2.v K)
def fnA (K : PySem.W.Frag) (a : Addr) : He.FnW := match K.lookup a with
  | some ⟨_, _, .func fd, _⟩ => some (fd.name, fd.qualname, fd.params, fd.body, fd.scope, fd.globals, fd.closure.map (fun q => (q.1, (0 : Addr))), fd.builtins)
  | _ => none
def DefA.val (d : DefA) : He.FnW := some (d.name, d.qual, d.params, .stmts d.body, d.scope, mainGlobals, (if d.clo.isSome then [(("__class__" : Str), (0 : Addr))] else []), builtinsNs)
/-- its cell, its code -/
def cloB (K : PySem.W.Frag) (fd : FuncData) (q : Str × Str) : Bool :=
  (match fd.closure with
  | [(_, cc)] => (match K.lookup cc with
    | some ⟨_, _, .cell (some (.ref D)), _⟩ => decide (D = He.ga K q.2)
    | _ => false)
  | _ => false) && (match fd.code with
  | .ref cda => (match K.lookup cda with
    | some ⟨_, _, .fields vs, _⟩ => (match (vs[2]? : Option Value) with
      | some (.str x _) => decide (x = q.1)
      | _ => false)
    | _ => false)
  | _ => false)
def DefA.ok (K : PySem.W.Frag) (d : DefA) : Bool := PySem.W.keepIn K (.ref (d.at_ K)) && (match K.lookup (d.at_ K) with
  | some ⟨_, _, .func fd, _⟩ => PySem.W.codeIn K fd.code d.qual && (He.dflB K fd.defaults [] && (He.kwdB K fd.kwdefaults (d.kws K) && (match d.clo with
    | some q => cloB K fd q
    | none => true)))
  | _ => false)
theorem DefA.funD {K : PySem.W.Frag} {d : DefA} (hc : d.clo = none) (e : fnA K (d.at_ K) = d.val) (c : d.ok K = true) : ∃ fd, FunD K d.name d.qual d.params d.body d.scope [] (d.kws K) (d.at_ K) fd := by
  obtain ⟨kp, c2⟩ := He.ba c
  unfold fnA at e
  unfold DefA.val at e
  rw [hc] at e c2
  cases q : K.lookup (d.at_ K) with
  | none => rw [q] at c2; cases c2
  | some o =>
    obtain ⟨oc, od, dt, osl⟩ := o
    rw [q] at c2 e
    cases dt with
    | func fd =>
      obtain ⟨a1, a2, a3, a4, a5, a6, a7, dv, kv, dc, pm, an, cdv, ct, bn⟩ := fd
      have e2 : (some (a1, a2, a3, a4, a5, a6, a7.map (fun q => (q.1, (0 : Addr))), bn) : He.FnW) = some (d.name, d.qual, d.params, .stmts d.body, d.scope, mainGlobals, [], builtinsNs) := e
      simp only [Option.some.injEq, Prod.mk.injEq, List.map_eq_nil_iff] at e2
      obtain ⟨g1, g2, g3, g4, g5, g6, g7, g8⟩ := e2
      subst g1 g2 g3 g4 g5 g6 g7 g8
      have c3 : (PySem.W.codeIn K cdv d.qual && (He.dflB K dv [] && (He.kwdB K kv (d.kws K) && true))) = true := c2
      obtain ⟨k1, k2⟩ := He.ba c3
      obtain ⟨k3, k4⟩ := He.ba k2
      obtain ⟨k4, _⟩ := He.ba k4
      exact ⟨_, ⟨oc, od, dv, kv, dc, pm, an, cdv, ct, osl, rfl, q, k1, He.dflB_ok k3, He.kwdB_ok k4⟩, kp⟩
    | _ => cases c2
structure SaysW (fa : List He.Fa) (fn : List He.DefD) (fp : List DefA) (ex : PySem.W.Frag → Bool) (K : PySem.W.Frag) : Prop where
  d : He.SaysD fa fn K
  x : ex K = true
  ok : (fp.all fun d => d.ok K) = true
  e : (fp.map fun d => fnA K (d.at_ K)) = fp.map DefA.val
theorem SaysW.def_ {fa : List He.Fa} {fn : List He.DefD} {fp : List DefA} {ex : PySem.W.Frag → Bool} {K : PySem.W.Frag} (c : SaysW fa fn fp ex K) (i : Nat) {d : DefA} (h : fp[i]? = some d := by rfl) (hc : d.clo = none := by rfl) : ∃ fd, FunD K d.name d.qual d.params d.body d.scope [] (d.kws K) (d.at_ K) fd := by
  have e2 : (fp.map fun d => fnA K (d.at_ K))[i]? = (fp.map DefA.val)[i]? := by rw [c.e]
  rw [List.getElem?_map, List.getElem?_map, h] at e2
  exact DefA.funD hc (Option.some.inj e2) (List.all_eq_true.mp c.ok d (List.mem_of_getElem? h))
end DL
end
section
namespace DL
open PySem PySem.Spec PyProof.Rows L2
end DL
end
section
namespace DL
open PySem PySem.Spec PyProof.Rows L2
end DL
end
section
namespace DL
open PySem
end DL
end
section
namespace PySem
end PySem
end
section
namespace DL
open PySem PySem.Spec PyProof.Rows L2
end DL
end
section
namespace PySem
end PySem
namespace DL
open PySem PySem.Spec PyProof.Rows L2
section
variable {X : Cx} {p : Par} {k : Nat} {cb vb : Bool} {wr : Bool} {l : List Str} {sb : Str → Str → Bool}
theorem SitB.mono {j : Nat} (S : SitB cb vb X p k) (h : j ≤ k) : SitB cb vb X p j := ⟨S.calm_, S.gd, S.rm.mono h, S.nd, S.ok, S.po, S.tk, S.nf_, S.sm⟩
end
end DL
end
section
namespace DL
open PySem PySem.Spec PyProof.Rows L2
end DL
end
section
namespace DL
open PySem PySem.Spec PyProof.Rows L2
end DL
end
section
namespace DL
open PySem PySem.Spec PyProof.Rows L2
section
variable {X : Cx} {p : Par} {k : Nat} {cb vb : Bool} {wr : Bool} {l : List Str} {sb : Str → Str → Bool}
/-- methods that are found as plain functions -/
structure MetNF (cb : Bool) (X : Cx) (k : Nat) (n m : Str) (f : Fn) : Prop where
  ex : ∃ (j : Nat) (g : Addr) (fd : FuncData) (ps : List Str), j ≤ k ∧ FnG cb X.prog X.w X.K X.mg X.base j g fd ps (spC X.K X.mg f) ∧ Meth X.K (He.ga X.K n) m g ∧ Binds X.K fd ps [] ∧ PySem.W.fnIn X.K g = true
inductive MetTF (cb : Bool) (X : Cx) (k : Nat) (m : Str) : Tb → Prop
  | nil : MetTF cb X k m []
  | cons {n : Str} {f : Fn} {tb : Tb} (h : MetNF cb X k n m f) (t : MetTF cb X k m tb) : MetTF cb X k m ((n, f) :: tb)
theorem MetTF.at_ {m : Str} {n : Str} {f : Fn} : ∀ {tb : Tb}, MetTF cb X k m tb → tb.lookup n = some f → MetNF cb X k n m f
  | _, .nil, h => by cases h
  | _, .cons (n := n') (f := f') h t, e => by
    rw [List.lookup_cons] at e
    by_cases hn : (n == n') = true
    · rw [hn] at e
      cases e
      rw [beq_iff_eq] at hn
      subst hn
      exact h
    · rw [Bool.not_eq_true] at hn
      rw [hn] at e
      exact t.at_ e
end
end DL
end
section
namespace DL
open PySem PySem.Spec PyProof.Rows L2
end DL
end
section
namespace DL
open PySem PySem.Spec PyProof.Rows L2
end DL
end
section
namespace DL
open PySem PySem.Spec PyProof.Rows L2
end DL
end
section
namespace DL
open PySem
end DL
end
section
namespace L2
open PySem PySem.Spec PyProof.Rows GenW
section
variable {M : Model} {A : Around} {R : GenEnd} {Y : Protocol} {n : Nat} {s₀ : Shared} {c : Code} {fs : List Frame} {s : Shared} {env : Env}
  {K : Flow → Sem PySem.Fin} {H : Value → Sem PySem.Fin} {gd : Bool → Bool} {lv : List Value → List Value}
theorem seg_For {target iter : Expr} {body orelse : List Stmt} {pos : Pos}
    (h : wpAny M (A.over c fs) (eval iter env) (fun x s1 => wpAny M (A.over c fs) (pyIter x) (fun it s2 => ∀ p, Seg M A R Y n s₀ (.forLoop target it body orelse env) (M.den (.forLoop target it body orelse env))
      (.ret (fun r => ((match r with | .ok f => (.pure f : Sem Flow) | .error e => .raise e).onRaise (cameBack env)).wrap K H gd lv) none (gd false) (lv []) c p [] :: fs) s2)
      (fun x s' => Seg M A R Y n s₀ c (H x) fs s') s1) (fun x s' => Seg M A R Y n s₀ c (H x) fs s') s)
    (hs : ∀ x, foldedSetIterable iter env x = pure x) :
    Seg M A R Y n s₀ c ((exec (.For target iter body orelse pos) env).wrap K H gd lv) fs s := by
  rw [exec_For]
  refine seg_at ?_
  show Seg M A R Y n s₀ c ((eval iter env >>= fun x0 => foldedSetIterable iter env x0 >>= fun x => standAt iter.pos >>= fun _ => holding [x] (pyIter x) >>= fun it => runOwn (.forLoop target it body orelse env) env).wrap K H gd lv) fs s
  rw [Sem.bind_eq_wrap', Sem.wrap_wrap]
  refine seg_wrap (wpAny_mono h (fun x s1 h1 => ?_) fun _ _ z => z)
  rw [hs x]
  refine seg_at ?_
  show Seg M A R Y n s₀ c ((holding [x] (pyIter x) >>= fun it => runOwn (.forLoop target it body orelse env) env).wrap K H gd lv) fs s1
  rw [Sem.bind_eq_wrap', Sem.wrap_wrap]
  refine seg_wrap (wpAny_holding (wpAny_mono h1 (fun it s2 h2 => ?_) fun _ _ z => z))
  exact seg_call h2
end
section
variable {prog : Program} {w : World} {A : Around} {R : GenEnd} {Y : Protocol} {n : Nat} {s₀ : Shared} {fs : List Frame} {s : Shared} {env : Env}
abbrev NF (env : Env) (x : Value) : Sem PySem.Fin := (do noteFrame x env; theTreesLotGoes x : Sem Unit).wrap (fun _ => .raise x) .raise id id
theorem seg_forLoop {target : Expr} {it : Value} {body : List Stmt}
    (h : wpAny (model prog w) (A.over (.forLoop target it body [] env) fs) (pyNext it) (fun r s1 => match r with
        | none => Seg (model prog w) A R Y n s₀ (.forLoop target it body [] env) (.pure (.again (.block [] env))) fs s1
        | some v => wpAny (model prog w) (A.over (.forLoop target it body [] env) fs) (letOwnedTupleGo target it v) (fun _ s2 => wpAny (model prog w) (A.over (.forLoop target it body [] env) fs) (assign target env v) (fun _ s3 =>
            Seg (model prog w) A R Y n s₀ (.forLoop target it body [] env) ((execs body env).wrap (fun f => match f with
              | .next | .cont => .pure (.again (.forLoop target it body [] env))
              | .brk => .pure (.done .next)
              | .ret v => .pure (.done (.ret v))) (NF env) id id) fs s3)
            (fun x s' => Seg (model prog w) A R Y n s₀ (.forLoop target it body [] env) (NF env x) fs s') s2)
            (fun x s' => Seg (model prog w) A R Y n s₀ (.forLoop target it body [] env) (NF env x) fs s') s1)
      (fun x s' => Seg (model prog w) A R Y n s₀ (.forLoop target it body [] env) (NF env x) fs s') s) :
    Seg (model prog w) A R Y n s₀ (.forLoop target it body [] env) ((model prog w).den (.forLoop target it body [] env)) fs s := by
  show Seg _ A R Y n s₀ _ ((forTurn target it body [] env).onRaise (fun x => do noteFrame x env; theTreesLotGoes x)) fs s
  unfold forTurn
  rw [Sem.onRaise_eq_wrap]
  refine seg_at ?_
  have eH : (fun e => ((do noteFrame e env; theTreesLotGoes e : Sem Unit)).bind fun _ => (Sem.raise e : Sem PySem.Fin)) = NF env := by
    funext e
    exact Sem.bind_eq_wrap _ _
  let NH : Value → Sem PySem.Fin := fun e => ((do noteFrame e env; theTreesLotGoes e : Sem Unit)).bind fun _ => (Sem.raise e : Sem PySem.Fin)
  have nh : ∀ x s', Seg (model prog w) A R Y n s₀ (.forLoop target it body [] env) (NF env x) fs s' → Seg (model prog w) A R Y n s₀ (.forLoop target it body [] env) (NH x) fs s' := fun x s' hx => by
    rw [← eH] at hx
    exact hx
  show Seg _ A R Y n s₀ _ ((((pyNext it).onRaise fun _ => standAt { target.pos with line := 0 }) >>= fun r => (match r with
      | none => again (.block [] env)
      | some v => letOwnedTupleGo target it v >>= fun _ => assign target env v >>= fun _ => execs body env >>= fun f => match f with
        | .next => again (.forLoop target it body [] env)
        | .cont => again (.forLoop target it body [] env)
        | .brk => pure (.done .next)
        | .ret v => pure (.done (.ret v)) : Sem PySem.Fin)).wrap .pure NH id id) fs s
  rw [Sem.bind_eq_wrap', Sem.wrap_wrap]
  refine seg_wrap (wpAny_onRaise (wpAny_mono h (fun r s1 h1 => ?_) fun x s' hx => wpAny_standAt (nh x s' hx)))
  cases r with
  | none => exact h1
  | some v =>
    show Seg _ A R Y n s₀ _ ((letOwnedTupleGo target it v >>= fun _ => assign target env v >>= fun _ => execs body env >>= fun f => match f with
        | .next => again (.forLoop target it body [] env)
        | .cont => again (.forLoop target it body [] env)
        | .brk => pure (.done .next)
        | .ret v => pure (.done (.ret v)) : Sem PySem.Fin).wrap .pure NH id id) fs s1
    rw [Sem.bind_eq_wrap', Sem.wrap_wrap]
    refine seg_wrap (wpAny_mono h1 (fun _ s2 h2 => ?_) fun x s' hx => nh x s' hx)
    show Seg _ A R Y n s₀ _ ((assign target env v >>= fun _ => execs body env >>= fun f => match f with
        | .next => again (.forLoop target it body [] env)
        | .cont => again (.forLoop target it body [] env)
        | .brk => pure (.done .next)
        | .ret v => pure (.done (.ret v)) : Sem PySem.Fin).wrap .pure NH id id) fs s2
    rw [Sem.bind_eq_wrap', Sem.wrap_wrap]
    refine seg_wrap (wpAny_mono h2 (fun _ s3 h3 => ?_) fun x s' hx => nh x s' hx)
    show Seg _ A R Y n s₀ _ ((execs body env >>= fun f => match f with
        | .next => again (.forLoop target it body [] env)
        | .cont => again (.forLoop target it body [] env)
        | .brk => pure (.done .next)
        | .ret v => pure (.done (.ret v)) : Sem PySem.Fin).wrap .pure NH id id) fs s3
    rw [Sem.bind_eq_wrap', Sem.wrap_wrap]
    rw [Sem.wrap_congr (execs body env) _ _ (K' := fun f => match f with
            | .next | .cont => .pure (.again (.forLoop target it body [] env))
            | .brk => .pure (.done .next)
            | .ret v => .pure (.done (.ret v))) (H' := NF env)
        (fun f => by cases f <;> rfl)
        (H := fun e => (Sem.raise e : Sem PySem.Fin).wrap .pure NH id id) (fun e => congrFun eH e)]
    exact h3
end
section
variable {X : Cx}
/-- for: i turns done; W by the turn, a measure, what is out so far -/
def tGFor (wi : TI) (g : TG) (tb : TGn) : TGn := fun D ys σ H => wi σ H fun J H1 => ∃ W : Nat → Nat → List V → St → Hp → Prop, (∃ m, W 0 m ys σ H1) ∧ ∀ i m ys σ H, W i m ys σ H →
  (J.stop i H ∧ D.nx ys σ H) ∨ (J.go i H ∧ ∃ N : List V → St → Hp → Prop, (∀ ys' σ' H', N ys' σ' H' → ∃ m', m' < m ∧ W (i + 1) m' ys' σ' H') ∧
    ∀ x H', J.yld i H x H' → g x σ H' fun σ2 H2 => tb { D with nx := N, ct := N, bk := D.nx } ys σ2 H2)
theorem GI.less {S : Addr} {ip : List (Addr × Obj)} {fp : List Addr} {h : Heap} {ys : List V} {σ : St} {H : Hp} {s : Shared} (g : GI X S (ip ++ pinsAt fp h) ys σ H s) : GI X S ip ys σ H s := by
  obtain ⟨acc, c, r, I⟩ := g
  refine ⟨acc, c, r, I.pins_of fun p hp => I.pin p (List.mem_append_right _ ?_)⟩
  rcases List.mem_cons.mp hp with hp | hp
  · rw [hp]; exact List.mem_cons_self
  · exact List.mem_cons_of_mem _ (List.mem_append_left _ hp)
theorem gs_for {tg iter : Expr} {body : List Stmt} {wi : TI} {g : TG} {tb : TGn} {pos : Pos} (hp : PassesOwn (model X.prog X.w) X.A X.env X.xe) (hc : X.calm = true) (hi : PI X tg iter wi) (hg : PG X tg g) (hb : GSs X body tb)
    (hs : ∀ x, foldedSetIterable iter X.env x = pure x := by intro _; rfl) : GS X (.For tg iter body [] pos) (tGFor wi g tb) := by
  refine ⟨fun A S ip R n ys s₀ c fs K J gd lv s σ H D gc hn k hI ht => ?_⟩
  obtain ⟨acc0, cc0, r0, I0⟩ := hI
  refine seg_For ?_ hs
  rw [gc.over]
  refine wpAny_mono (hi.run _ s σ H _ I0 ht) (fun v s1 h1 => wpAny_mono h1 (fun itv s2 h2 p => ?_) fun x s' hx => k.exc n s₀ x s' hx) fun x s' hx => k.exc n s₀ x s' hx
  obtain ⟨it, fp, tn, It', H2, e, I2, T, st2, f2, W, ⟨m0, w0⟩, turn⟩ := h2
  subst e
  have gl := fun (kk : Result → Sem PySem.Fin) => gc_loop (k := kk) (c' := .forLoop tg (.ref it) body [] X.env) (l := lv []) (kp := []) (p := p) gc rfl rfl
  -- what stays true of the iterator's objects
  have stat : ∀ {H' : Hp} {acc : Array Value} {cc : Nat}, (∀ b ∈ fp, H' b = none) → ∀ b ∈ fp, FpOk X ((S, lstObj acc cc) :: ip) H' b := fun {H' acc cc} hn b hb => by
    obtain ⟨_, q2, q3, q4, q5, q6⟩ := f2 b hb
    refine ⟨hn b hb, q2, q3, q4, q5, fun p hp => ?_⟩
    rcases List.mem_append.mp hp with hp | hp
    · exact q6 p (List.mem_append_left _ hp)
    · rcases List.mem_cons.mp hp with hp | hp
      · rw [hp]
        exact q6 (S, lstObj acc0 cc0) (List.mem_append_right _ List.mem_cons_self)
      · exact q6 p (List.mem_append_right _ (List.mem_cons_of_mem _ hp))
  have nS : ∀ b ∈ fp, b ≠ S := fun b hb z => by
    obtain ⟨_, _, _, _, _, q6⟩ := f2 b hb
    exact q6 (S, lstObj acc0 cc0) (List.mem_append_right _ List.mem_cons_self) z.symm
  have loop : ∀ (m n i : Nat) (ys : List V) (s₀ s : Shared) (σ : St) (H : Hp), n + ys.length = sizeLine → W i m ys σ H → GI X S ip ys σ H s → tn i s.heap → (∀ b ∈ fp, H b = none) →
      Seg (model X.prog X.w) A R (GY X S) n s₀ (.forLoop tg (.ref it) body [] X.env) ((model X.prog X.w).den (.forLoop tg (.ref it) body [] X.env))
        (.ret (fun r => ((match r with | .ok f => (.pure f : Sem Flow) | .error e => .raise e).onRaise (cameBack X.env)).wrap K J gd lv) none (gd false) (lv []) c p [] :: fs) s := by
    intro m
    induction m using Nat.strongRecOn with
    | ind m ih =>
      intro n i ys s₀ s σ H hn w hI st fr
      have ee : ∀ (n : Nat) (s₀ : Shared) (x : Value) (s' : Shared), X.xe x s' → Seg (model X.prog X.w) A R (GY X S) n s₀ (.forLoop tg (.ref it) body [] X.env)
          (NF X.env x)
          (.ret (fun r => ((match r with | .ok f => (.pure f : Sem Flow) | .error e => .raise e).onRaise (cameBack X.env)).wrap K J gd lv) none (gd false) (lv []) c p [] :: fs) s' := fun n s₀ x s' hx => by
        refine seg_wrap ?_
        rw [(gl _).over]
        refine wpAny_bind (wpAny_mono (hp x s' hx) (fun _ s'' hcb => wpAny_theTreesLotGoes ?_) fun y s'' hcb => ?_)
        · exact seg_leaf (.error x) (seg_cameBack gc k hcb)
        · exact seg_leaf (.error y) (seg_cameBack gc k hcb)
      refine seg_forLoop ?_
      rw [(gl _).over]
      obtain ⟨acc, cc, r, I⟩ := hI
      rcases turn i m ys σ H w with ⟨stop, qn⟩ | ⟨go, N, hN, step⟩
      · refine wpAny_mono (T.done X rfl rfl rfl hc i _ s σ H X.xe I (stat fr) st stop) (fun r' s3 hr => ?_) fun x s' hx => ee n s₀ x s' hx
        obtain ⟨hr, I3⟩ := hr
        subst hr
        refine seg_again rfl ?_
        exact seg_leaf (.ok .next) (k.ok n ys s₀ s3 .next hn ⟨σ, H, ⟨acc, cc, r, I3⟩, qn⟩)
      · refine wpAny_mono (T.item X rfl rfl rfl hc i _ s σ H X.xe I (stat fr) st go) (fun r' s3 hr => ?_) fun x s' hx => ee n s₀ x s' hx
        obtain ⟨u, hr, h4⟩ := hr
        subst hr
        refine wpAny_mono h4 (fun _ s5 h5 => ?_) fun x s' hx => ee n s₀ x s' hx
        obtain ⟨x, H5, I5, r5, y5, st5, fr5⟩ := h5
        have I5' := I5.pinned (stat fr5) (T.obj _ _ st5)
        refine wpAny_mono (hg.run _ s5 σ H5 x u _ I5' r5 (step x H5 y5)) (fun _ s6 h6 => ?_) fun x s' hx => ee n s₀ x s' hx
        obtain ⟨σ6, H6, I6, q6⟩ := h6
        have unp : ∀ {ys' : List V} {σ7 : St} {H7 : Hp} {s7 : Shared}, GI X S (ip ++ pinsAt fp s5.heap) ys' σ7 H7 s7 → tn (i + 1) s7.heap ∧ ∀ b ∈ fp, H7 b = none := fun {ys' σ7 H7 s7} g7 => by
          obtain ⟨acc7, cc7, r7, I7⟩ := g7
          have at_ : ∀ b ∈ fp, ∀ o, s5.heap.get? b = some o → s7.heap.get? b = some o ∧ H7 b = none := fun b hb o e => by
            have z := I7.pin (b, o) (List.mem_append_right _ (List.mem_cons_of_mem _ (List.mem_append_right _ (mem_pinsAt hb e))))
            exact ⟨z.1, z.2.1⟩
          refine ⟨T.keep _ _ _ st5 fun b hb o e => (at_ b hb o e).1, fun b hb => ?_⟩
          obtain ⟨o, e, _⟩ := T.obj _ _ st5 b hb
          exact (at_ b hb o e).2
        have gc' : ∀ kk, GC X S (ip ++ pinsAt fp s5.heap) A (.forLoop tg (.ref it) body [] X.env) (.ret kk none (gd false) (lv []) c p [] :: fs) id := fun kk =>
          ⟨(gl kk).pn, fun q hq => by
            rcases List.mem_append.mp hq with hq | hq
            · exact gc.ip q hq
            · exact nS q.1 (of_pinsAt hq).1, (gl kk).apart, (gl kk).over, (gl kk).split, (gl kk).guard, rfl⟩
        refine hb.run A S (ip ++ pinsAt fp s5.heap) R n ys s₀ _ _ _ _ id id s6 σ6 H6 { D with nx := N, ct := N, bk := D.nx } (gc' _) hn ⟨fun n' ys' s₀' s7 f hn' hs => ?_, fun n' s₀' x s7 hx => ee n' s₀' x s7 hx⟩ ⟨acc, cc, r, I6⟩ q6
        cases f with
        | next =>
          obtain ⟨σ7, H7, I7, n7⟩ := hs
          obtain ⟨m', hm, w7⟩ := hN ys' σ7 H7 n7
          obtain ⟨st7, fr7⟩ := unp I7
          exact seg_again rfl (ih m' hm n' (i + 1) ys' s₀' s7 σ7 H7 hn' w7 I7.less st7 fr7)
        | cont =>
          obtain ⟨σ7, H7, I7, n7⟩ := hs
          obtain ⟨m', hm, w7⟩ := hN ys' σ7 H7 n7
          obtain ⟨st7, fr7⟩ := unp I7
          exact seg_again rfl (ih m' hm n' (i + 1) ys' s₀' s7 σ7 H7 hn' w7 I7.less st7 fr7)
        | brk =>
          obtain ⟨σ7, H7, I7, q7⟩ := hs
          exact seg_leaf (.ok .next) (k.ok n' ys' s₀' s7 .next hn' ⟨σ7, H7, I7.less, q7⟩)
        | ret v =>
          obtain ⟨v7, σ7, H7, I7, r7, q7⟩ := hs
          exact seg_leaf (.ok (.ret v)) (k.ok n' ys' s₀' s7 (.ret v) hn' ⟨v7, σ7, H7, I7.less, r7, q7⟩)
  exact loop m0 n 0 ys s₀ s2 σ H2 hn w0 ⟨acc0, cc0, r0, I2⟩ st2 fun b hb => (f2 b hb).1
end
end L2
end
section
namespace DL
open PySem PySem.Spec PyProof.Rows L2
/-- pairs of numbers and the rows, as new tuples -/
structure Handed (H : Hp) (rows outs : List V) (i : Nat) : Prop where
  len : outs.length = i
  at_ : ∀ (j : Nat) (x : V), j < i → rows[j]? = some x → ∃ q, outs[j]? = some (.ref q) ∧ H q = some (.tup [.int (j : Int), x])
def ExtH (H H' : Hp) : Prop := ∀ b o, H b = some o → H' b = some o
theorem ExtH.new {H : Hp} {q : Addr} {o : HO} (h : H q = none) : ExtH H (upd H q o) := fun b u e => by
  rw [upd_ne (fun z => by rw [z, h] at e; cases e)]
  exact e
theorem ExtH.trans {H H1 H2 : Hp} (a : ExtH H H1) (b : ExtH H1 H2) : ExtH H H2 := fun c o e => b c o (a c o e)
theorem Handed.ext {H H' : Hp} {rows outs : List V} {i : Nat} (h : Handed H rows outs i) (e : ExtH H H') : Handed H' rows outs i :=
  ⟨h.len, fun j x hj hx => by obtain ⟨q, h1, h2⟩ := h.at_ j x hj hx; exact ⟨q, h1, e _ _ h2⟩⟩
theorem Handed.push {H : Hp} {rows outs : List V} {i : Nat} {q : Addr} {x : V} (h : Handed H rows outs i) (hx : rows[i]? = some x) (hq : H q = none) : Handed (upd H q (.tup [.int (i : Int), x])) rows (outs ++ [.ref q]) (i + 1) := by
  have h2 := h.ext (ExtH.new (o := .tup [.int (i : Int), x]) hq)
  refine ⟨by simp [h.len], fun j y hj hy => ?_⟩
  by_cases e : j = i
  · subst e
    rw [hx] at hy
    cases hy
    exact ⟨q, by rw [List.getElem?_append_right (by rw [h.len]; exact Nat.le_refl _), h.len]; simp, upd_same⟩
  · obtain ⟨p, h3, h4⟩ := h2.at_ j y (by omega) hy
    exact ⟨p, by rw [List.getElem?_append_left (by rw [h.len]; omega)]; exact h3, h4⟩
/-- what the method promises -/
def spWalk (K : PySem.W.Frag) (f : Str) : SpG := fun vs H cont _ => ∃ (a C dx t : Addr) (fs : List (Str × V)) (rows : List V), vs = [.ref a] ∧ H a = some (.ins C dx fs) ∧ Cls K C ∧ NoAttr K C f ∧ fs.lookup f = some (.ref t) ∧ SqT K H t rows ∧ rows.length ≤ 1000 ∧
  ∀ outs H', ExtH H H' → Handed H' rows outs rows.length → cont outs H'
end DL
end
section
namespace DL
open PySem PySem.Spec PyProof.Rows L2
section
variable {X : Cx} {p : Par} {k : Nat} {cb vb : Bool}
/-- the method, as each of the classes finds it -/
structure GenW (X : Cx) (k : Nat) (cs : List Str) (m f : Str) : Prop where
  at_ : ∀ n, cs.contains n = true → ∃ (g : Addr) (fd : FuncData), Meth X.K (He.ga X.K n) m g ∧ GFn X.prog X.w X.K X.mg X.base k g fd ["self"] (spWalk X.K f) ∧ Binds X.K fd ["self"] []
theorem GenW.of {X : Cx} {k : Nat} {cs : List Str} {m f : Str} (h : ∀ n ∈ cs, ∃ (g : Addr) (fd : FuncData), Meth X.K (He.ga X.K n) m g ∧ GFn X.prog X.w X.K X.mg X.base k g fd ["self"] (spWalk X.K f) ∧ Binds X.K fd ["self"] []) : GenW X k cs m f := ⟨fun n hn => h n (List.contains_iff_mem.mp hn)⟩
end
end DL
end
section
namespace EnlR
open PySem PySem.Spec PyProof.Rows
/-- the first i pairs stand in acc -/
def Outs (h : Heap) (N S e it : Addr) (items acc : Array Value) (i : Nat) : Prop :=
  acc.size = i ∧ ∀ j, j < i → ∃ T t u, acc[j]? = some (.ref T) ∧ N ≤ T ∧ T ≠ S ∧ T ≠ e ∧ T ≠ it ∧ items[j]? = some u ∧ h.get? T = some { cls := .type "tuple", data := .seq #[.int (j : Nat) t, u] }
theorem Outs.keep {h h' : Heap} {N S e it : Addr} {items acc : Array Value} {i : Nat} (o : Outs h N S e it items acc i) (hk : ∀ b ob, b ≠ S → b ≠ e → b ≠ it → h.get? b = some ob → h'.get? b = some ob) : Outs h' N S e it items acc i :=
  ⟨o.1, fun j hj => let ⟨T, t, u, a1, a2, a3, a4, a5, a6, a7⟩ := o.2 j hj; ⟨T, t, u, a1, a2, a3, a4, a5, a6, hk T _ a3 a4 a5 a7⟩⟩
theorem Outs.push {h : Heap} {N S e it : Addr} {items acc : Array Value} {i : Nat} (o : Outs h N S e it items acc i) {T : Addr} {t : Tok} {u : Value} (hN : N ≤ T) (h1 : T ≠ S) (h2 : T ≠ e) (h3 : T ≠ it) (hu : items[i]? = some u)
    (hT : h.get? T = some { cls := .type "tuple", data := .seq #[.int (i : Nat) t, u] }) : Outs h N S e it items (acc.push (.ref T)) (i + 1) := by
  refine ⟨by rw [Array.size_push, o.1], fun j hj => ?_⟩
  by_cases q : j = i
  · subst q
    exact ⟨T, t, u, by rw [← o.1]; exact Array.getElem?_push_size, hN, h1, h2, h3, hu, hT⟩
  · obtain ⟨T', t', u', a1, a⟩ := o.2 j (by omega)
    refine ⟨T', t', u', ?_, a⟩
    rw [Array.getElem?_push_lt (by rw [o.1]; omega)]
    rw [Array.getElem?_eq_getElem (by rw [o.1]; omega)] at a1
    exact a1
end EnlR
namespace L2
open PySem PySem.Spec PyProof.Rows EnlR
end L2
namespace DL
open PySem PySem.Spec PyProof.Rows L2
end DL
end
section
namespace DL
open PySem PySem.Spec PyProof.Rows L2
end DL
end
section
namespace DL
open PySem
end DL
end
section
namespace L2
open PySem PySem.Spec PyProof.Rows
def kvs (tb : List (Str × Int)) : List (Key × V) := tb.map fun q => ((.inr q.1 : Key), V.int q.2)
end L2
namespace DL
open PySem PySem.Spec PyProof.Rows L2
end DL
end
section
namespace DL
open PySem
end DL
end
section
namespace DL
open PySem PySem.Spec PyProof.Rows L2
end DL
end
section
namespace DL
open PySem PySem.Spec PyProof.Rows L2
end DL
end
section
namespace DL
open PySem
end DL
end
section
namespace DL
open PySem PySem.Spec PyProof.Rows L2
end DL
end
section
namespace DL
open PySem PySem.Spec PyProof.Rows L2
end DL
end
section
namespace DL
open PySem PySem.Spec PyProof.Rows L2
end DL
end
section
namespace DL
open PySem
end DL
end
section
namespace DL
open PySem
end DL
end
section
namespace DL
open PySem PySem.Spec PyProof.Rows L2
end DL
end
section
namespace DL
open PySem PySem.Spec PyProof.Rows L2
end DL
end
section
namespace DL
open PySem PySem.Spec PyProof.Rows L2
end DL
end
section
namespace DL
open PySem PySem.Spec PyProof.Rows L2
structure AllTL (R : Str → (Phi → Fn) → Prop) (φ : Phi) (tb : Tb) : Prop where
  at_ : ∀ n f, tb.lookup n = some f → ∃ g, f = g φ ∧ R n g
theorem AllTL.nil {R : Str → (Phi → Fn) → Prop} {φ : Phi} : AllTL R φ [] := ⟨fun n f h => by cases h⟩
theorem AllTL.cons {R : Str → (Phi → Fn) → Prop} {φ : Phi} {n : Str} {f : Phi → Fn} {tb : Tb} (h : R n f) (t : AllTL R φ tb) : AllTL R φ ((n, f φ) :: tb) := ⟨fun m g e => by
  rw [List.lookup_cons] at e
  by_cases hn : (m == n) = true
  · rw [hn] at e
    cases e
    rw [beq_iff_eq] at hn
    subst hn
    exact ⟨f, rfl, h⟩
  · rw [Bool.not_eq_true] at hn
    rw [hn] at e
    exact t.at_ _ _ e⟩
end DL
end
section
namespace DL
open PySem PySem.Spec PyProof.Rows L2
/-- one parameter x of its own, else captured names and globals -/
structure LamS1 (sc scope : Scope) (x : Str) : Prop where
  kind : scope.kind = .function
  co : scope.isCoroutine = false
  gen : scope.isGenerator = false
  own : ∀ y ∈ scope.names, (y.2 = .local → y.1 = x) ∧ y.2 ≠ .cell
  par : scope.names.lookup x = some .local
  free : ∀ y ∈ scope.names, y.2 = .free → sc.names.lookup y.1 = some .cell ∨ sc.names.lookup y.1 = some .free
theorem LamS1.has {X : Cx} {scope : Scope} {x : Str} (L : LamS1 X.env.scope scope x) (ok : X.Ok) : ∀ y ∈ scope.names, y.2 = .free → ∃ c, X.env.cells.lookup y.1 = some c := fun y hy e => by
  rcases L.free y hy e with k | k
  · exact ok.has _ (.inl k)
  · exact ok.has _ (.inr k)
end DL
end
section
namespace DL
open PySem PySem.Spec PyProof.Rows L2
abbrev TbL := List (Str × (Phi → Fn))
structure AllG (R : Str → (Phi → Fn) → Prop) (tb : TbL) : Prop where
  at_ : ∀ n g, tb.lookup n = some g → R n g
theorem AllG.nil {R : Str → (Phi → Fn) → Prop} : AllG R [] := ⟨fun n f h => by cases h⟩
theorem AllG.cons {R : Str → (Phi → Fn) → Prop} {n : Str} {f : Phi → Fn} {tb : TbL} (h : R n f) (t : AllG R tb) : AllG R ((n, f) :: tb) := ⟨fun m g e => by
  rw [List.lookup_cons] at e
  by_cases hn : (m == n) = true
  · rw [hn] at e
    cases e
    rw [beq_iff_eq] at hn
    subst hn
    exact h
  · rw [Bool.not_eq_true] at hn
    rw [hn] at e
    exact t.at_ _ _ e⟩
end DL
end
section
namespace DL
open PySem PySem.Spec PyProof.Rows L2
def rvL (f : D → W D) : List D → W (List D)
  | [] => ret []
  | d :: ds => bnd (f d) fun x => bnd (rvL f ds) fun xs => ret (x :: xs)
def rvD (f : D → W D) : D → W D
  | .list ds => bnd (rvL f ds) fun xs => ret (.list xs)
  | d => ret d
def rvF (f : D → W D) (d : D) : W D := match rOf d with
  | some _ => bnd (getL d) fun q => bnd (rvL f q.2) fun xs => ret (.list xs)
  | none => rvD f d
/-- what stands there, to the depth n -/
def rv : Nat → D → W D
  | 0 => fun _ => stuck
  | n + 1 => rvF (rv n)
end DL
end
section
namespace DL
open PySem
end DL
end
section
namespace DL
open PySem PySem.Spec PyProof.Rows _root_.GenW
open Sem (wp)
/-- a sleeping generator that cannot be woken -/
def frz : GenState → GenState
  | .suspended _ l c p fs cl => .suspended (fun _ => .unsupported "") l c p fs cl
  | x => x
def Susp : GenState → Prop
  | .suspended .. => True
  | _ => False
/-- it sleeps, or it runs: code that does not wake it leaves it so -/
def Stay : GenState → Prop
  | .suspended .. => True
  | .running => True
  | _ => False
theorem Susp.stay {x : GenState} (h : Susp x) : Stay x := by cases x <;> first | exact h | trivial
/-- no generator's frame among its frames -/
def NG : GenState → Prop
  | .suspended _ _ _ _ fs _ => splitAtGen fs = none
  | _ => True
def EndNG : End → Prop
  | .susp _ _ _ _ _ _ fs => splitAtGen fs = none
  | _ => True
theorem EndNG.state {e : End} (h : EndNG e) : NG e.genState := by
  cases e with
  | ret _ => trivial
  | susp => exact h
theorem split_append {a b : List Frame} (ha : splitAtGen a = none) (hb : splitAtGen b = none) : splitAtGen (a ++ b) = none := by
  induction a with
  | nil => exact hb
  | cons f r ih =>
    cases f with
    | gen g k l c p => simp [splitAtGen] at ha
    | ret k h g l c p kp =>
      simp only [splitAtGen, Option.map_eq_none_iff] at ha
      simp only [List.cons_append, splitAtGen, Option.map_eq_none_iff]
      exact ih ha
theorem split_ret {k : Result → Sem PySem.Fin} {h : Option Value} {g : Bool} {l kp : List Value} {c : Code} {p : Pos} {fs : List Frame} : splitAtGen (.ret k h g l c p kp :: fs) = none ↔ splitAtGen fs = none := by
  simp [splitAtGen]
theorem frz_seen (x : GenState) : (frz x).seen = x.seen := by cases x <;> rfl
theorem frz_bare (x : GenState) : (frz x).bare = x.bare := by cases x <;> rfl
/-- z is s with the generators of F frozen -/
structure Fz (F : Nat → Option GenState) (s z : Shared) : Prop where
  heap : z.heap = s.heap
  drawn : z.drawn = s.drawn
  toks : z.toks = s.toks
  os : z.os = s.os
  size : z.gens.size = s.gens.size
  fr : ∀ g x, F g = some x → s.gens[g]? = some x ∧ z.gens[g]? = some (frz x)
  un : ∀ g, F g = none → z.gens[g]? = s.gens[g]?
  ng : ∀ g x, F g = none → z.gens[g]? = some x → NG x
section
variable {F : Nat → Option GenState} {s z : Shared}
theorem Fz.upd (h : Fz F s z) (g : Heap → Heap) : Fz F { s with heap := g s.heap } { z with heap := g z.heap } :=
  ⟨by show g z.heap = g s.heap; rw [h.heap], h.drawn, h.toks, h.os, h.size, h.fr, h.un, h.ng⟩
theorem Fz.tok (h : Fz F s z) : Fz F { s with toks := s.toks + 1 } { z with toks := z.toks + 1 } :=
  ⟨h.heap, h.drawn, by show z.toks + 1 = s.toks + 1; rw [h.toks], h.os, h.size, h.fr, h.un, h.ng⟩
theorem Fz.drw (h : Fz F s z) (x : Source) : Fz F { s with drawn := s.drawn.bump x } { z with drawn := z.drawn.bump x } :=
  ⟨h.heap, by show z.drawn.bump x = s.drawn.bump x; rw [h.drawn], h.toks, h.os, h.size, h.fr, h.un, h.ng⟩
theorem Fz.ost (h : Fz F s z) {q : _} : Fz F { s with os := (Os.step s.os q).1 } { z with os := (Os.step z.os q).1 } :=
  ⟨h.heap, h.drawn, h.toks, by show (Os.step z.os q).1 = (Os.step s.os q).1; rw [h.os], h.size, h.fr, h.un, h.ng⟩
theorem Fz.push (h : Fz F s z) (c : GenState) (hc : NG c) : Fz F { s with gens := s.gens.push c } { z with gens := z.gens.push c } where
  heap := h.heap
  drawn := h.drawn
  toks := h.toks
  os := h.os
  size := by simp [h.size]
  fr := fun g x e => by
    obtain ⟨h1, h2⟩ := h.fr g x e
    have l1 := (Array.getElem?_eq_some_iff.mp h1).1
    have l2 := (Array.getElem?_eq_some_iff.mp h2).1
    refine ⟨?_, ?_⟩
    · show (s.gens.push c)[g]? = _
      rw [Array.getElem?_push, if_neg (by omega)]; exact h1
    · show (z.gens.push c)[g]? = _
      rw [Array.getElem?_push, if_neg (by omega)]; exact h2
  un := fun g e => by
    show (z.gens.push c)[g]? = (s.gens.push c)[g]?
    rw [Array.getElem?_push, Array.getElem?_push, h.size, h.un g e]
  ng := fun g x e q => by
    have q : (z.gens.push c)[g]? = some x := q
    rw [Array.getElem?_push] at q
    split at q
    · cases q; exact hc
    · exact h.ng g x e q
theorem Fz.set (h : Fz F s z) {g : Nat} (hg : F g = Option.none) (x : GenState) (hx : NG x) : Fz F (s.setGen g x) (z.setGen g x) where
  heap := h.heap
  drawn := h.drawn
  toks := h.toks
  os := h.os
  size := by rw [setGen_size, setGen_size, h.size]
  fr := fun i y e => by
    have ne : g ≠ i := fun q => by rw [q, e] at hg; cases hg
    obtain ⟨h1, h2⟩ := h.fr i y e
    refine ⟨?_, ?_⟩
    · show (s.gens.setIfInBounds g x)[i]? = _
      rw [Array.getElem?_setIfInBounds_ne ne]; exact h1
    · show (z.gens.setIfInBounds g x)[i]? = _
      rw [Array.getElem?_setIfInBounds_ne ne]; exact h2
  un := fun i e => by
    show (z.gens.setIfInBounds g x)[i]? = (s.gens.setIfInBounds g x)[i]?
    rw [Array.getElem?_setIfInBounds, Array.getElem?_setIfInBounds, h.size, h.un i e]
  ng := fun i y e q => by
    have q : (z.gens.setIfInBounds g x)[i]? = some y := q
    rw [Array.getElem?_setIfInBounds] at q
    split at q
    · split at q
      · cases q; exact hx
      · cases q
    · exact h.ng i y e q
end
theorem no_runs {M : Model} {Γ : PySem.Ctx} {p : Pos} {t : Sem PySem.Fin} {fs : List Frame} {s s' : Shared} {e : End} (h : Runs M Γ p t fs s e s') : ∀ w, t = .unsupported w → False := by
  induction h <;> intro w e <;> first | (cases e; done) | (rename_i ih _; exact ih w e) | (rename_i ih; exact ih w e) | skip
theorem Fz.no {F : Nat → Option GenState} {s z : Shared} (f : Fz F s z) (sus : ∀ g x, F g = some x → Stay x) {g : Nat} {st : GenState} (hg : z.gens[g]? = some st) (h : ¬ Stay st) : F g = none := by
  cases q : F g with
  | none => rfl
  | some x =>
    have f2 := (f.fr g x q).2
    rw [hg] at f2
    have := sus g x q
    cases x <;> simp [frz, Stay] at f2 this
    all_goals
      subst f2
      exact (h trivial).elim
theorem Fz.runn {F : Nat → Option GenState} {s z : Shared} (f : Fz F s z) {g : Nat} (hg : z.gens[g]? = some .running) : s.gens[g]? = some .running := by
  cases q : F g with
  | none => rw [← f.un g q]; exact hg
  | some x =>
    obtain ⟨f1, f2⟩ := f.fr g x q
    rw [hg] at f2
    cases x <;> simp [frz] at f2
    exact f1
theorem Fz.seen {F : Nat → Option GenState} {s z : Shared} (f : Fz F s z) {g : Nat} {st : GenState} (hg : z.gens[g]? = some st) : ∃ st', s.gens[g]? = some st' ∧ st'.seen = st.seen := by
  cases q : F g with
  | none => exact ⟨st, by rw [← f.un g q]; exact hg, rfl⟩
  | some x =>
    obtain ⟨f1, f2⟩ := f.fr g x q
    rw [hg] at f2
    cases f2
    exact ⟨x, f1, (frz_seen x).symm⟩
theorem Fz.can {F : Nat → Option GenState} {s z : Shared} (f : Fz F s z) (sus : ∀ g x, F g = some x → Stay x) {g : Nat} {k l c p fs cl} (hg : z.gens[g]? = some (.suspended k l c p fs cl)) {M : Model} {Γ : PySem.Ctx} {p0 : Pos} {r : Resume} {z1 z2 : Shared} {e : End} (hr : Runs M Γ p0 (k r) fs z1 e z2) : F g = none := by
  cases q : F g with
  | none => rfl
  | some x =>
    have f2 := (f.fr g x q).2
    rw [hg] at f2
    have := sus g x q
    cases x with
    | suspended k l c p fs cl =>
      simp only [frz, Option.some.injEq, GenState.suspended.injEq] at f2
      obtain ⟨rfl, _⟩ := f2
      exact (no_runs hr _ rfl).elim
    | running => simp [frz] at f2
    | _ => simp [Stay] at this
theorem runs_fz {F : Nat → Option GenState} (sus : ∀ g x, F g = some x → Stay x) {M : Model} {Γ : PySem.Ctx} {p : Pos} {t : Sem PySem.Fin} {fs : List Frame} {z z' : Shared} {e : End} (h : Runs M Γ p t fs z e z') : splitAtGen fs = none → ∀ s, Fz F s z → ∃ s', Runs M Γ p t fs s e s' ∧ Fz F s' z' ∧ EndNG e := by
  induction h with
  | done => intro ns s f; exact ⟨s, .done, f, trivial⟩
  | raise => intro ns s f; exact ⟨s, .raise, f, trivial⟩
  | again hq _ ih => intro ns s f; obtain ⟨s', h1, h2⟩ := ih rfl s f; exact ⟨s', .again hq h1, h2⟩
  | rule _ ih => intro ns s f; obtain ⟨s', h1, h2⟩ := ih rfl s f; exact ⟨s', .rule h1, h2⟩
  | «at» _ ih => intro ns s f; obtain ⟨s', h1, h2⟩ := ih rfl s f; exact ⟨s', .at h1, h2⟩
  | load ha _ ih => intro ns s f; obtain ⟨s', h1, h2⟩ := ih rfl s f; exact ⟨s', .load (by rw [← f.heap]; exact ha) h1, h2⟩
  | update ha _ ih => intro ns s f; obtain ⟨s', h1, h2⟩ := ih rfl _ (f.upd fun h => h.update _ _); exact ⟨s', .update (by rw [← f.heap]; exact ha) h1, h2⟩
  | loadIfAlive _ ih => intro ns s f; rw [f.heap] at ih; obtain ⟨s', h1, h2⟩ := ih rfl s f; exact ⟨s', .loadIfAlive h1, h2⟩
  | point _ ih => intro ns s f; obtain ⟨s', h1, h2⟩ := ih rfl s f; exact ⟨s', .point h1, h2⟩
  | alloc _ ih =>
    intro ns s f
    obtain ⟨s', h1, h2⟩ := ih rfl _ (f.upd fun h => h.push _)
    refine ⟨s', .alloc ?_, h2⟩
    rw [← f.heap]
    rw [← f.heap] at h1
    exact h1
  | fresh _ ih =>
    intro ns s f
    obtain ⟨s', h1, h2⟩ := ih rfl _ f.tok
    refine ⟨s', .fresh ?_, h2⟩
    rw [f.toks] at h1
    exact h1
  | ask _ ih => intro ns s f; obtain ⟨s', h1, h2⟩ := ih rfl s f; exact ⟨s', .ask h1, h2⟩
  | choose hn _ ih =>
    intro ns s f
    obtain ⟨s', h1, h2⟩ := ih rfl _ (f.drw _)
    refine ⟨s', .choose hn ?_, h2⟩
    rw [f.drawn] at h1
    exact h1
  | os _ ih =>
    intro ns s f
    obtain ⟨s', h1, h2⟩ := ih rfl _ f.ost
    refine ⟨s', .os ?_, h2⟩
    rw [f.os] at h1
    exact h1
  | handled _ ih => intro ns s f; obtain ⟨s', h1, h2⟩ := ih rfl s f; exact ⟨s', .handled h1, h2⟩
  | genState hg _ ih =>
    intro ns s f
    obtain ⟨s', h1, h2⟩ := ih rfl s f
    obtain ⟨st', q1, q2⟩ := f.seen hg
    rw [← q2] at h1
    exact ⟨s', .genState q1 h1, h2⟩
  | stack _ ih => intro ns s f; obtain ⟨s', h1, h2⟩ := ih rfl s f; exact ⟨s', .stack h1, h2⟩
  | thread _ ih => intro ns s f; obtain ⟨s', h1, h2⟩ := ih rfl s f; exact ⟨s', .thread h1, h2⟩
  | newGen _ ih =>
    intro ns s f
    obtain ⟨s', h1, h2⟩ := ih rfl _ (f.push _ trivial)
    refine ⟨s', .newGen ?_, h2⟩
    rw [f.size] at h1
    exact h1
  | call _ _ ih1 ih2 =>
    intro ns s f
    obtain ⟨s1, h1, h2, _⟩ := ih1 rfl s f
    obtain ⟨s2, h3, h4⟩ := ih2 rfl s1 h2
    exact ⟨s2, .call h1 h3, h4⟩
  | callSusp _ ih => intro ns s f; obtain ⟨s', h1, h2, h3⟩ := ih rfl s f; exact ⟨s', .callSusp h1, h2, split_append h3 rfl⟩
  | yield => intro ns s f; exact ⟨s, .yield, f, rfl⟩
  | resumeFresh hg _ hq _ ih1 ih2 =>
    intro ns s f
    have hF := f.no sus hg (fun z => z)
    obtain ⟨s1, h1, h2⟩ := ih1 rfl _ (f.set hF _ trivial)
    obtain ⟨s2, h3, h4⟩ := ih2 rfl _ (h2.1.set hF _ h2.2.state)
    exact ⟨s2, .resumeFresh (by rw [← f.un _ hF]; exact hg) h1 hq h3, h4⟩
  | resumeSuspended hg hr hq _ ih1 ih2 =>
    intro ns s f
    have hF := f.can sus hg hr
    obtain ⟨s1, h1, h2⟩ := ih1 (f.ng _ _ hF hg) _ (f.set hF _ trivial)
    obtain ⟨s2, h3, h4⟩ := ih2 rfl _ (h2.1.set hF _ h2.2.state)
    exact ⟨s2, .resumeSuspended (by rw [← f.un _ hF]; exact hg) h1 hq h3, h4⟩
  | resumeJustStarted hg hv _ ih =>
    intro ns s f
    have hF := f.no sus hg (fun z => z)
    obtain ⟨s', h1, h2⟩ := ih rfl s f
    exact ⟨s', .resumeJustStarted (by rw [← f.un _ hF]; exact hg) hv h1, h2⟩
  | resumeThrowFresh hg _ ih =>
    intro ns s f
    have hF := f.no sus hg (fun z => z)
    obtain ⟨s', h1, h2⟩ := ih rfl _ (f.set hF _ trivial)
    exact ⟨s', .resumeThrowFresh (by rw [← f.un _ hF]; exact hg) h1, h2⟩
  | resumeRunning hg _ ih =>
    intro ns s f
    obtain ⟨s', h1, h2⟩ := ih rfl s f
    exact ⟨s', .resumeRunning (f.runn hg) h1, h2⟩
  | resumeFinished hg _ ih =>
    intro ns s f
    have hF := f.no sus hg (fun z => z)
    obtain ⟨s', h1, h2⟩ := ih rfl s f
    exact ⟨s', .resumeFinished (by rw [← f.un _ hF]; exact hg) h1, h2⟩
  | segRet _ _ ih1 ih2 =>
    intro ns s f
    obtain ⟨s1, h1, h2, _⟩ := ih1 rfl s f
    obtain ⟨s2, h3, h4⟩ := ih2 (split_ret.mp ns) s1 h2
    exact ⟨s2, .segRet h1 h3, h4⟩
  | segGen => intro ns; simp [splitAtGen] at ns
  | segSuspOut hsp _ ih => intro ns s f; obtain ⟨s', h1, h2, h3⟩ := ih rfl s f; exact ⟨s', .segSuspOut hsp h1, h2, split_append h3 hsp⟩
  | segSuspGen hsp => intro ns; rw [ns] at hsp; cases hsp
theorem wakes_fz {F : Nat → Option GenState} (sus : ∀ g x, F g = some x → Stay x) {M : Model} {Γ : PySem.Ctx} {p : Pos} {g : Nat} {r : Resume} {z z' : Shared} {res : GenResult} (h : Wakes M Γ p g r z res z') (s : Shared) (f : Fz F s z) :
    ∃ s', Wakes M Γ p g r s res s' ∧ Fz F s' z' := by
  unfold Wakes at h
  cases hg : z.gens[g]? with
  | none => rw [hg] at h; exact h.elim
  | some st =>
    rw [hg] at h
    by_cases hrun : st = .running
    · subst hrun
      obtain ⟨rfl, rfl⟩ := h
      refine ⟨s, ?_, f⟩
      unfold Wakes
      rw [f.runn hg]
      exact ⟨rfl, rfl⟩
    have hF : F g = none ∧ s.gens[g]? = some st := by
      have : F g = none := by
        cases st with
        | suspended k l c p fs cl =>
          obtain ⟨e₁, s₁, hr, _⟩ := h
          exact f.can sus hg hr
        | running => exact absurd rfl hrun
        | _ => exact f.no sus hg fun z => z
      exact ⟨this, by rw [← f.un g this]; exact hg⟩
    obtain ⟨hF, hs⟩ := hF
    unfold Wakes
    rw [hs]
    cases st with
    | fresh c =>
      cases r with
      | send v =>
        cases v with
        | none =>
          obtain ⟨e₁, s₁, hr, hq, rfl, rfl⟩ := h
          obtain ⟨s', h1, h2, h3⟩ := runs_fz sus hr rfl _ (f.set hF _ trivial)
          exact ⟨_, ⟨e₁, s', h1, hq, rfl, rfl⟩, h2.set hF _ h3.state⟩
        | _ => obtain ⟨rfl, rfl⟩ := h; exact ⟨s, ⟨rfl, rfl⟩, f⟩
      | throw x => obtain ⟨rfl, rfl⟩ := h; exact ⟨_, ⟨rfl, rfl⟩, f.set hF _ trivial⟩
    | suspended k l c p₀ fs cl =>
      obtain ⟨e₁, s₁, hr, hq, rfl, rfl⟩ := h
      obtain ⟨s', h1, h2, h3⟩ := runs_fz sus hr (f.ng g _ hF hg) _ (f.set hF _ trivial)
      exact ⟨_, ⟨e₁, s', h1, hq, rfl, rfl⟩, h2.set hF _ h3.state⟩
    | running => obtain ⟨rfl, rfl⟩ := h; exact ⟨s, ⟨rfl, rfl⟩, f⟩
    | finished => obtain ⟨rfl, rfl⟩ := h; exact ⟨s, ⟨rfl, rfl⟩, f⟩
theorem wp_fz {F : Nat → Option GenState} (sus : ∀ g x, F g = some x → Stay x) {α : Type} (M : Model) (Γ : PySem.Ctx) (t : Sem α) : ∀ (Q : α → Pos → Shared → Prop) (E : Value → Pos → Shared → Prop) (p : Pos) (z : Shared), wp M Γ t Q E p z → ∀ s, Fz F s z →
    wp M Γ t (fun a p' s' => ∃ z', Fz F s' z' ∧ Q a p' z') (fun e p' s' => ∃ z', Fz F s' z' ∧ E e p' z') p s := by
  induction t with
  | pure a => intro Q E p z h s f; exact ⟨z, f, h⟩
  | raise e => intro Q E p z h s f; exact ⟨z, f, h⟩
  | unsupported _ => intro Q E p z h; exact h.elim
  | finish _ => intro Q E p z h; exact h.elim
  | rule _ k ih => intro Q E p z h s f; exact ih () Q E p z h s f
  | «at» p' k ih => intro Q E p z h s f; exact ih () Q E p' z h s f
  | load a _ k ih => intro Q E p z h s f; obtain ⟨o, ho, h⟩ := h; exact ⟨o, by rw [← f.heap]; exact ho, ih o Q E p z h s f⟩
  | update a _ g k ih => intro Q E p z h s f; exact ⟨by rw [← f.heap]; exact h.1, ih () Q E p _ h.2 _ (f.upd fun h => h.update _ _)⟩
  | loadIfAlive a k ih => intro Q E p z h s f; have q := ih _ Q E p z h s f; rw [f.heap] at q; exact q
  | point _ k ih => intro Q E p z h s f; exact ih () Q E p z h s f
  | register _ _ => intro Q E p z h; exact h.elim
  | alloc o k ih => intro Q E p z h s f; have q := ih _ Q E p _ h _ (f.upd fun h => h.push o); rw [f.heap] at q; exact q
  | fresh k ih => intro Q E p z h s f; have q := ih _ Q E p _ h _ f.tok; rw [f.toks] at q; exact q
  | ask k ih => intro Q E p z h s f; exact ih _ Q E p z h s f
  | choose src m k ih => intro Q E p z h s f; have q := ih _ Q E p _ h.2 _ (f.drw src); rw [f.drawn] at q; exact ⟨h.1, q⟩
  | os q _ k ih => intro Q E p z h s f; have q := ih _ Q E p _ h _ f.ost; rw [f.os] at q; exact q
  | call c hd _ _ k ih =>
    intro Q E p z h s f
    obtain ⟨r, z1, hr, h⟩ := h
    obtain ⟨s1, h1, h2, _⟩ := runs_fz sus hr rfl s f
    exact ⟨r, s1, h1, ih r Q E p z1 h s1 h2⟩
  | handled own k ih => intro Q E p z h s f; exact ih _ Q E p z h s f
  | genState g k ih =>
    intro Q E p z h s f
    obtain ⟨st, hs, h⟩ := h
    obtain ⟨st', q1, q2⟩ := f.seen hs
    have q := ih _ Q E p z h s f
    rw [← q2] at q
    exact ⟨st', q1, q⟩
  | newGen c k ih => intro Q E p z h s f; have q := ih _ Q E p _ h _ (f.push (.fresh c) trivial); rw [f.size] at q; exact q
  | resume g r _ k ih =>
    intro Q E p z h s f
    obtain ⟨res, z1, hw, h⟩ := h
    obtain ⟨s1, h1, h2⟩ := wakes_fz sus hw s f
    exact ⟨res, s1, h1, ih res Q E p z1 h s1 h2⟩
  | yield _ _ _ _ => intro Q E p z h; exact h.elim
  | stack k ih => intro Q E p z h s f; exact ih _ Q E p z h s f
  | fork _ _ => intro Q E p z h; exact h.elim
  | thread k ih => intro Q E p z h s f; exact ih _ Q E p z h s f
  | await _ _ _ _ _ => intro Q E p z h; exact h.elim
/-- all that sleeps or runs in s, but S -/
def asleepBut (S : Nat → Bool) (s : Shared) (g : Nat) : Option GenState := if S g = true then none else match s.gens[g]? with
  | some (.suspended k l c p fs cl) => some (.suspended k l c p fs cl)
  | some .running => some .running
  | _ => none
abbrev asleep (s : Shared) : Nat → Option GenState := asleepBut (fun _ => false) s
def frozenBut (S : Nat → Bool) (s : Shared) : Shared := { s with gens := s.gens.mapIdx fun i x => if S i = true then x else frz x }
abbrev frozen (s : Shared) : Shared := frozenBut (fun _ => false) s
theorem asleep_stay {S : Nat → Bool} {s : Shared} (g : Nat) (x : GenState) (h : asleepBut S s g = some x) : Stay x := by
  unfold asleepBut at h
  split at h
  · cases h
  split at h
  · cases h; trivial
  · cases h; trivial
  · cases h
theorem asleep_at {S : Nat → Bool} {s : Shared} {g : Nat} {x : GenState} (h : asleepBut S s g = some x) : s.gens[g]? = some x ∧ ¬ S g = true := by
  unfold asleepBut at h
  split at h
  · cases h
  rename_i hS
  split at h
  · rename_i e; cases h; exact ⟨e, hS⟩
  · rename_i e; cases h; exact ⟨e, hS⟩
  · cases h
theorem asleep_of {S : Nat → Bool} {s : Shared} {g : Nat} {x : GenState} (h : s.gens[g]? = some x) (q : Stay x) (hS : ¬ S g = true) : asleepBut S s g = some x := by
  unfold asleepBut
  rw [if_neg hS, h]
  cases x <;> first | rfl | exact q.elim
theorem frozen_at {S : Nat → Bool} {s : Shared} {g : Nat} : (frozenBut S s).gens[g]? = (s.gens[g]?).map fun x => if S g = true then x else frz x := by
  show (s.gens.mapIdx fun i x => if S i = true then x else frz x)[g]? = _
  rw [Array.getElem?_mapIdx]
theorem fz_frozen {S : Nat → Bool} (s : Shared) (hS : ∀ g x, S g = true → s.gens[g]? = some x → NG x) : Fz (asleepBut S s) s (frozenBut S s) where
  heap := rfl
  drawn := rfl
  toks := rfl
  os := rfl
  size := by simp [frozenBut]
  fr := fun g x h => by
    obtain ⟨h1, h2⟩ := asleep_at h
    refine ⟨h1, ?_⟩
    rw [frozen_at, h1, Option.map_some, if_neg h2]
  un := fun g h => by
    rw [frozen_at]
    by_cases hg : S g = true
    · cases e : s.gens[g]? with
      | none => rfl
      | some x => rw [Option.map_some, if_pos hg]
    · cases e : s.gens[g]? with
      | none => rfl
      | some x =>
        rw [Option.map_some, if_neg hg]
        cases x with
        | suspended k l c p fs cl => rw [asleep_of e trivial hg] at h; cases h
        | _ => rfl
  ng := fun g x h q => by
    rw [frozen_at] at q
    cases e : s.gens[g]? with
    | none => rw [e] at q; cases q
    | some y =>
      rw [e, Option.map_some] at q
      by_cases hg : S g = true
      · rw [if_pos hg] at q
        cases q
        exact hS g x hg e
      · rw [if_neg hg] at q
        cases y with
        | suspended k l c p fs cl => rw [asleep_of e trivial hg] at h; cases h
        | _ => cases q; trivial
theorem wpAny_thaw {F : Nat → Option GenState} (sus : ∀ g x, F g = some x → Stay x) {α : Type} {M : Model} {A : Around} {s z : Shared} {t : Sem α} {Q : α → Shared → Prop} {E : Value → Shared → Prop} (f : Fz F s z) (h : wpAny M A t Q E z) :
    wpAny M A t (fun a s' => ∃ z', Fz F s' z' ∧ Q a z') (fun e s' => ∃ z', Fz F s' z' ∧ E e z') s :=
  fun Γ p hΓ => wp_fz sus M Γ t _ _ p _ (h Γ p hΓ) s f
/-- THE RULE: what can be run while all sleeping generators are frozen leaves them as they are -/
theorem wpAny_fz {α : Type} {M : Model} {A : Around} {s : Shared} {t : Sem α} {Q : α → Shared → Prop} {E : Value → Shared → Prop} (h : wpAny M A t Q E (frozen s)) :
    wpAny M A t (fun a s' => ∃ z', Fz (asleep s) s' z' ∧ Q a z') (fun e s' => ∃ z', Fz (asleep s) s' z' ∧ E e z') s :=
  fun Γ p hΓ => wp_fz asleep_stay M Γ t _ _ p _ (h Γ p hΓ) s (fz_frozen s fun _ _ h => by cases h)
theorem Fz.keptBut {S : Nat → Bool} {s s' z' : Shared} (f : Fz (asleepBut S s) s' z') {g : Nat} {x : GenState} (h : s.gens[g]? = some x) (q : Stay x) (hS : ¬ S g = true) : s'.gens[g]? = some x := (f.fr g x (asleep_of h q hS)).1
theorem Fz.kept {s s' z' : Shared} (f : Fz (asleep s) s' z') {g : Nat} {x : GenState} (h : s.gens[g]? = some x) (q : Stay x) : s'.gens[g]? = some x := f.keptBut h q (by simp)
theorem Fz.bare {F : Nat → Option GenState} {s z : Shared} (f : Fz F s z) (h : AllBare z.gens) : AllBare s.gens := fun y hy => by
  obtain ⟨i, hi, e⟩ := Array.mem_iff_getElem.mp hy
  have e1 : s.gens[i]? = some y := by rw [Array.getElem?_eq_getElem hi, e]
  cases q : F i with
  | none =>
    have e2 := f.un i q
    rw [e1] at e2
    exact h y (Array.mem_of_getElem? e2)
  | some x =>
    obtain ⟨f1, f2⟩ := f.fr i x q
    rw [e1] at f1
    cases f1
    rw [← frz_bare]
    exact h _ (Array.mem_of_getElem? f2)
theorem bare_frozen {S : Nat → Bool} {s : Shared} (h : AllBare s.gens) : AllBare (frozenBut S s).gens := fun y hy => by
  obtain ⟨i, hi, e⟩ := Array.mem_iff_getElem.mp hy
  have e1 : (frozenBut S s).gens[i]? = some y := by rw [Array.getElem?_eq_getElem hi, e]
  rw [frozen_at] at e1
  cases q : s.gens[i]? with
  | none => rw [q] at e1; cases e1
  | some x =>
    rw [q, Option.map_some] at e1
    have hx := h x (Array.mem_of_getElem? q)
    split at e1
    · cases e1; exact hx
    · cases e1; rw [frz_bare]; exact hx
end DL
end
section
namespace DL
open PySem PySem.Spec PyProof.Rows L2 _root_.GenW
open Sem (wp)
def Sg (M : Model) (A : Around) (post : End → Shared → Prop) (c : Code) (t : Sem PySem.Fin) (fs : List Frame) (s : Shared) : Prop :=
  ∀ (Γ : PySem.Ctx) p, Γ.code = c → Γ.Woken A → ∃ e s', Runs M Γ p t fs s e s' ∧ post e s'
section
variable {M : Model} {A : Around} {T : End → Shared → Prop} {c : Code} {fs : List Frame} {s : Shared} {env : PySem.Env}
  {K : Flow → Sem PySem.Fin} {H : Value → Sem PySem.Fin} {gd : Bool → Bool} {lv : List Value → List Value}
theorem Sg.mono {T' : End → Shared → Prop} {t : Sem PySem.Fin} (h : Sg M A T c t fs s) (k : ∀ e s', T e s' → T' e s') : Sg M A T' c t fs s := fun Γ p e w => by
  obtain ⟨a, b, r, q⟩ := h Γ p e w
  exact ⟨a, b, r, k _ _ q⟩
theorem sg_wrap {α : Type} {m : Sem α} {K : α → Sem PySem.Fin} {H : Value → Sem PySem.Fin} {gd lv}
    (h : wpAny M (A.over c fs) m (fun a s' => Sg M A T c (K a) fs s') (fun x s' => Sg M A T c (H x) fs s') s) : Sg M A T c (m.wrap K H gd lv) fs s := by
  rintro Γ p rfl hΓ
  exact runs_wrap_of_wp K H gd lv m (h (Γ.over fs) p (hΓ.over fs)) (fun a p' s' h' => h' Γ p' rfl hΓ) (fun x p' s' h' => h' Γ p' rfl hΓ)
theorem sg_bind_wrap {α β : Type} {m : Sem α} {K : α → Sem β} {K' : β → Sem PySem.Fin} {H' : Value → Sem PySem.Fin} {gd lv}
    (h : wpAny M (A.over c fs) m (fun a s' => Sg M A T c ((K a).wrap K' H' gd lv) fs s') (fun x s' => Sg M A T c (H' x) fs s') s) : Sg M A T c ((m >>= K).wrap K' H' gd lv) fs s := by
  rw [Sem.bind_eq_wrap', Sem.wrap_wrap]; exact sg_wrap h
theorem sg_at {p' : Pos} {k : Unit → Sem PySem.Fin} (h : Sg M A T c (k ()) fs s) : Sg M A T c (.at p' k) fs s :=
  sg_wrap (m := standAt p') (K := k) (H := .raise) (gd := id) (lv := id) (wpAny_standAt h)
theorem sg_point {l : List Value} {k : Unit → Sem PySem.Fin} (h : Sg M A T c (k ()) fs s) : Sg M A T c (.point l k) fs s :=
  sg_wrap (m := point) (K := k) (H := .raise) (gd := id) (lv := fun _ => l) (wpAny_point h)
theorem sg_call {c' : Code} {h g l} {k : Result → Sem PySem.Fin} (hc : ∀ p, Sg M A T c' (M.den c') (.ret k h g l c p [] :: fs) s) : Sg M A T c (.call c' h g l k) fs s := by
  rintro Γ p rfl hΓ
  obtain ⟨e, s', hr, he⟩ := hc p (Γ.goto c') p rfl (hΓ.goto c')
  exact ⟨e, s', runs_call_seg hr, he⟩
theorem sg_leaf {k h g l c₁ p₁ kp} (r : Result) (hk : Sg M A T c₁ (k r) fs s) : Sg M A T c (leafOf r) (.ret k h g l c₁ p₁ kp :: fs) s := by
  rintro Γ p rfl hΓ
  obtain ⟨e, s', hr, he⟩ := hk (Γ.goto c₁) p₁ rfl (hΓ.goto c₁)
  exact ⟨e, s', Runs.pop r hr, he⟩
theorem sg_again {c' : Code} (hq : c'.quiet = true) (hc : Sg M A T c' (M.den c') fs s) : Sg M A T c (.pure (.again c')) fs s := by
  rintro Γ p rfl hΓ
  obtain ⟨e, s', hr, he⟩ := hc (Γ.goto c') p rfl (hΓ.goto c')
  exact ⟨e, s', Runs.head (c₁ := c') (fun _ _ x => .again hq x) hr, he⟩
theorem sg_end (r : Result) (h : T (.ret r) s) : Sg M A T c (leafOf r) [] s := by
  rintro Γ p rfl _
  exact ⟨.ret r, s, Runs.leaf r, h⟩
theorem sg_yield {v g l} {k : Resume → Sem PySem.Fin} (hfs : splitAtGen fs = none) (h : ∀ p, T (.susp v g l k c p fs) s) : Sg M A T c (.yield v g l k) fs s := by
  rintro Γ p rfl _
  exact ⟨_, s, Runs.yield' fs hfs, h p⟩
theorem sg_execs_cons {st : Stmt} {rest : List Stmt}
    (h : Sg M A T c ((exec st env).wrap (fun f => match f with | .next => (execs rest env).wrap K H gd lv | f => K f) H gd lv) fs s) :
    Sg M A T c ((execs (st :: rest) env).wrap K H gd lv) fs s := by rw [execs_cons_wrap]; exact h
theorem sg_Expr_Yield {e : Expr} {ypos pos : Pos} (hfs : splitAtGen fs = none)
    (h : wpAny M (A.over c fs) (eval e env) (fun v s' => ∀ (k : Resume → Sem PySem.Fin) (g : Bool) (l : List Value) (p : Pos), g = gd false →
        (∀ T' s'', Sg M A T' c (K .next) fs s'' → Sg M A T' c (k (.send .none)) fs s'') → T (.susp v g l k c p fs) s')
      (fun x s' => Sg M A T c (H x) fs s') s) (hco : env.scope.isCoroutine = false := by rfl) (hi : interactive env = false := by rfl) :
    Sg M A T c ((exec (.Expr (.Yield (some e) ypos) pos) env).wrap K H gd lv) fs s := by
  rw [exec_Expr env _ pos hi rfl]
  show Sg M A T c (.at pos fun _ => ((eval e env >>= fun v => (standAt ypos >>= fun _ => yieldOut env v)) >>= fun x =>
    dropValue (.Yield (some e) ypos) pos x).wrap K H gd lv) fs s
  have hy : ∀ v, yieldOut env v = yieldValue v := fun v => by simp only [yieldOut, hco, Bool.false_eq_true, if_false]
  simp only [hy]
  refine sg_at ?_
  rw [Sem.bind_eq_wrap', Sem.bind_eq_wrap', Sem.wrap_wrap, Sem.wrap_wrap]
  refine sg_wrap (wpAny_mono h (fun v s' h' => ?_) fun _ _ x => x)
  refine sg_at (sg_yield hfs fun p => ?_)
  exact h' _ _ _ _ rfl fun T' s'' hx => hx
theorem sg_func {prog : Program} {w : World} {body : List Stmt}
    (h : Sg (model prog w) A T (.func body env) ((execs body env).wrap (fun f => .pure (.done (.ret (match f with | .ret v => v | _ => .none))))
      (fun e => (leaving env e).wrap (fun _ => .raise e) .raise id id) id id) fs s) :
    Sg (model prog w) A T (.func body env) ((model prog w).den (.func body env)) fs s := by
  show Sg _ A T _ (.point [] fun _ => ((execs body env).onRaise (leaving env)) >>= _) fs s
  refine sg_point ?_
  rw [Sem.onRaise_eq_wrap, Sem.bind_eq_wrap', Sem.wrap_wrap]
  rw [Sem.wrap_congr (execs body env) _ _ (K' := fun f => .pure (.done (.ret (match f with | .ret v => v | _ => .none))))
    (H' := fun e => (leaving env e).wrap (fun _ => .raise e) .raise id id) (fun f => by cases f <;> rfl)
    (fun e => by rw [Sem.bind_eq_wrap, Sem.wrap_wrap]; rfl)]
  exact h
theorem sg_For {target iter : Expr} {body orelse : List Stmt} {pos : Pos}
    (h : wpAny M (A.over c fs) (eval iter env) (fun x s1 => wpAny M (A.over c fs) (pyIter x) (fun it s2 => ∀ p, Sg M A T (.forLoop target it body orelse env) (M.den (.forLoop target it body orelse env))
      (.ret (fun r => ((match r with | .ok f => (.pure f : Sem Flow) | .error e => .raise e).onRaise (cameBack env)).wrap K H gd lv) none (gd false) (lv []) c p [] :: fs) s2)
      (fun x s' => Sg M A T c (H x) fs s') s1) (fun x s' => Sg M A T c (H x) fs s') s)
    (hs : ∀ x, foldedSetIterable iter env x = pure x) :
    Sg M A T c ((exec (.For target iter body orelse pos) env).wrap K H gd lv) fs s := by
  rw [exec_For]
  refine sg_at ?_
  show Sg M A T c ((eval iter env >>= fun x0 => foldedSetIterable iter env x0 >>= fun x => standAt iter.pos >>= fun _ => holding [x] (pyIter x) >>= fun it => runOwn (.forLoop target it body orelse env) env).wrap K H gd lv) fs s
  rw [Sem.bind_eq_wrap', Sem.wrap_wrap]
  refine sg_wrap (wpAny_mono h (fun x s1 h1 => ?_) fun _ _ z => z)
  rw [hs x]
  refine sg_at ?_
  show Sg M A T c ((holding [x] (pyIter x) >>= fun it => runOwn (.forLoop target it body orelse env) env).wrap K H gd lv) fs s1
  rw [Sem.bind_eq_wrap', Sem.wrap_wrap]
  refine sg_wrap (wpAny_holding (wpAny_mono h1 (fun it s2 h2 => ?_) fun _ _ z => z))
  exact sg_call h2
end
section
variable {prog : Program} {w : World} {A : Around} {T : End → Shared → Prop} {fs : List Frame} {s : Shared} {env : PySem.Env}
theorem sg_forLoop {target : Expr} {it : Value} {body : List Stmt}
    (h : wpAny (model prog w) (A.over (.forLoop target it body [] env) fs) (pyNext it) (fun r s1 => match r with
        | none => Sg (model prog w) A T (.forLoop target it body [] env) (.pure (.again (.block [] env))) fs s1
        | some v => wpAny (model prog w) (A.over (.forLoop target it body [] env) fs) (letOwnedTupleGo target it v) (fun _ s2 => wpAny (model prog w) (A.over (.forLoop target it body [] env) fs) (assign target env v) (fun _ s3 =>
            Sg (model prog w) A T (.forLoop target it body [] env) ((execs body env).wrap (fun f => match f with
              | .next | .cont => .pure (.again (.forLoop target it body [] env))
              | .brk => .pure (.done .next)
              | .ret v => .pure (.done (.ret v))) (NF env) id id) fs s3)
            (fun x s' => Sg (model prog w) A T (.forLoop target it body [] env) (NF env x) fs s') s2)
            (fun x s' => Sg (model prog w) A T (.forLoop target it body [] env) (NF env x) fs s') s1)
      (fun x s' => Sg (model prog w) A T (.forLoop target it body [] env) (NF env x) fs s') s) :
    Sg (model prog w) A T (.forLoop target it body [] env) ((model prog w).den (.forLoop target it body [] env)) fs s := by
  show Sg _ A T _ ((forTurn target it body [] env).onRaise (fun x => do noteFrame x env; theTreesLotGoes x)) fs s
  unfold forTurn
  rw [Sem.onRaise_eq_wrap]
  refine sg_at ?_
  have eH : (fun e => ((do noteFrame e env; theTreesLotGoes e : Sem Unit)).bind fun _ => (Sem.raise e : Sem PySem.Fin)) = NF env := by
    funext e
    exact Sem.bind_eq_wrap _ _
  let NH : Value → Sem PySem.Fin := fun e => ((do noteFrame e env; theTreesLotGoes e : Sem Unit)).bind fun _ => (Sem.raise e : Sem PySem.Fin)
  have nh : ∀ x s', Sg (model prog w) A T (.forLoop target it body [] env) (NF env x) fs s' → Sg (model prog w) A T (.forLoop target it body [] env) (NH x) fs s' := fun x s' hx => by
    rw [← eH] at hx
    exact hx
  show Sg _ A T _ ((((pyNext it).onRaise fun _ => standAt { target.pos with line := 0 }) >>= fun r => (match r with
      | none => again (.block [] env)
      | some v => letOwnedTupleGo target it v >>= fun _ => assign target env v >>= fun _ => execs body env >>= fun f => match f with
        | .next => again (.forLoop target it body [] env)
        | .cont => again (.forLoop target it body [] env)
        | .brk => pure (.done .next)
        | .ret v => pure (.done (.ret v)) : Sem PySem.Fin)).wrap .pure NH id id) fs s
  rw [Sem.bind_eq_wrap', Sem.wrap_wrap]
  refine sg_wrap (wpAny_onRaise (wpAny_mono h (fun r s1 h1 => ?_) fun x s' hx => wpAny_standAt (nh x s' hx)))
  cases r with
  | none => exact h1
  | some v =>
    show Sg _ A T _ ((letOwnedTupleGo target it v >>= fun _ => assign target env v >>= fun _ => execs body env >>= fun f => match f with
        | .next => again (.forLoop target it body [] env)
        | .cont => again (.forLoop target it body [] env)
        | .brk => pure (.done .next)
        | .ret v => pure (.done (.ret v)) : Sem PySem.Fin).wrap .pure NH id id) fs s1
    rw [Sem.bind_eq_wrap', Sem.wrap_wrap]
    refine sg_wrap (wpAny_mono h1 (fun _ s2 h2 => ?_) fun x s' hx => nh x s' hx)
    show Sg _ A T _ ((assign target env v >>= fun _ => execs body env >>= fun f => match f with
        | .next => again (.forLoop target it body [] env)
        | .cont => again (.forLoop target it body [] env)
        | .brk => pure (.done .next)
        | .ret v => pure (.done (.ret v)) : Sem PySem.Fin).wrap .pure NH id id) fs s2
    rw [Sem.bind_eq_wrap', Sem.wrap_wrap]
    refine sg_wrap (wpAny_mono h2 (fun _ s3 h3 => ?_) fun x s' hx => nh x s' hx)
    show Sg _ A T _ ((execs body env >>= fun f => match f with
        | .next => again (.forLoop target it body [] env)
        | .cont => again (.forLoop target it body [] env)
        | .brk => pure (.done .next)
        | .ret v => pure (.done (.ret v)) : Sem PySem.Fin).wrap .pure NH id id) fs s3
    rw [Sem.bind_eq_wrap', Sem.wrap_wrap]
    rw [Sem.wrap_congr (execs body env) _ _ (K' := fun f => match f with
            | .next | .cont => .pure (.again (.forLoop target it body [] env))
            | .brk => .pure (.done .next)
            | .ret v => .pure (.done (.ret v))) (H' := NF env)
        (fun f => by cases f <;> rfl)
        (H := fun e => (Sem.raise e : Sem PySem.Fin).wrap .pure NH id id) (fun e => congrFun eH e)]
    exact h3
theorem sg_If {test : Expr} {body orelse : List Stmt} {pos : Pos} {c : Code} {K : Flow → Sem PySem.Fin} {H : Value → Sem PySem.Fin} {gd lv}
    (h : wpAny (model prog w) (A.over c fs) (isTrue test env (eval test env)) (fun b s' => Sg (model prog w) A T c ((execs (if b = true then body else orelse) env).wrap K H gd lv) fs s') (fun x s' => Sg (model prog w) A T c (H x) fs s') s) :
    Sg (model prog w) A T c ((exec (.If test body orelse pos) env).wrap K H gd lv) fs s := by
  rw [exec_If]
  show Sg _ A T c (.at pos fun _ => (isTrue test env (eval test env) >>= fun b => if b = true then execs body env else execs orelse env).wrap K H gd lv) fs s
  refine sg_at ?_
  refine sg_bind_wrap (wpAny_mono h (fun b s' hb => ?_) fun _ _ z => z)
  cases b <;> exact hb
end
/-- a generator that is woken -/
def GoesN (M : Model) (A : Around) (T : End → Shared → Prop) (gs : GenState) (r : Resume) (s : Shared) : Prop :=
  match gs with
  | .fresh c => r = .send .none ∧ Sg M A T c (M.den c) [] s
  | .suspended k _ c _ fs _ => Sg M A T c (k r) fs s
  | _ => False
theorem wpAny_resumeN {M : Model} {A : Around} {T : End → Shared → Prop} {E : Value → Shared → Prop} {s : Shared} {g : Nat} {gs : GenState}
    {r : Resume} {l : List Value} {α : Type} {k : GenResult → Sem α} {Q : α → Shared → Prop} (hg : s.gens[g]? = some gs) (hgo : GoesN M A T gs r (s.setGen g .running))
    (hR : ∀ e s₁, T e s₁ → s.gens.size ≤ s₁.gens.size → e.quiet = true ∧ wpAny M A (k e.result) Q E (s₁.setGen g e.genState)) : wpAny M A (.resume g r l k) Q E s := by
  intro Γ p hΓ
  rw [Sem.wp_resume]
  have sz : ∀ {Γ' : PySem.Ctx} {p' : Pos} {t : Sem PySem.Fin} {fs : List Frame} {e : End} {s1 : Shared}, Runs M Γ' p' t fs (s.setGen g .running) e s1 → s.gens.size ≤ s1.gens.size := fun h => by
    have := runs_gsz h
    rwa [setGen_size] at this
  cases gs with
  | fresh c =>
    obtain ⟨rfl, hs⟩ := hgo
    obtain ⟨e₁, s₁, hr, he⟩ := hs (Γ.wake c p) p rfl (hΓ.wake c p)
    obtain ⟨q1, q2⟩ := hR e₁ s₁ he (sz hr)
    exact ⟨_, _, by unfold Wakes; rw [hg]; exact ⟨e₁, s₁, hr, q1, rfl, rfl⟩, q2 Γ p hΓ⟩
  | suspended k₀ l₀ c₀ p₀ fs₀ cl =>
    obtain ⟨e₁, s₁, hr, he⟩ := hgo (Γ.wake c₀ p) p₀ rfl (hΓ.wake c₀ p)
    obtain ⟨q1, q2⟩ := hR e₁ s₁ he (sz hr)
    exact ⟨_, _, by unfold Wakes; rw [hg]; exact ⟨e₁, s₁, hr, q1, rfl, rfl⟩, q2 Γ p hΓ⟩
  | running => exact hgo.elim
  | finished => exact hgo.elim
section
variable {P : Program} {w : World} {A : Around} {E : Value → Shared → Prop} {s : Shared}
/-- next -/
theorem next_gen {a : Addr} {g : Nat} {gs : GenState} {T : End → Shared → Prop} {Q : Option Value → Shared → Prop} (hh : A.handled = none)
    (hl : s.heap.NoLimit) (hroom : A.depth < recursionLimit) (hg : s.heap.IsGen a g) (hgs : s.gens[g]? = some gs)
    (hgo : GoesN (model P w) A.in1 T gs (.send .none) (s.setGen g .running))
    (hY : ∀ v gd l k c p fs s₁, T (.susp v gd l k c p fs) s₁ → s.gens.size ≤ s₁.gens.size → (gd || fs.any Frame.guarded) = false ∧ Q (some v) (s₁.setGen g (.suspended k l c p fs false)))
    (hP : ∀ r s₁, T (.ret (.ok r)) s₁ → (r = .ret .none ∨ r = .next) ∧ ∀ h', (∀ b o, s₁.heap.get? b = some o → h'.get? b = some o) → Q none { s₁.setGen g .finished with heap := h' })
    (hE : ∀ e s₁, T (.ret (.error e)) s₁ → s₁.heap.IsGen a g ∧ NotStop (model P w) e s₁.heap ∧ E e (s₁.setGen g .finished)) :
    wpAny (model P w) A (pyNext (.ref a)) Q E s := by
  unfold pyNext
  refine wpAny_bind (wpAny_attempt (wpAny_callSpecial?_slot (name := Str.ofString "__next__") hg.typeIs slot_gen_next
    (wpAny_call_entry slot_gen_next hg.typeIs entry_gen_next ?_ (args_gen_next _))))
  show wpAny _ A.in1 (Builtin.Generator.genWake (.ref a) (.send .none)) _ _ s
  unfold Builtin.Generator.genWake
  refine wpAny_bind (wpAny_holding (wpAny_genNumber hg (wpAny_bind (wpAny_genState hgs ?_))))
  cases gs with
  | running => exact hgo.elim
  | finished => exact hgo.elim
  | _ =>
    refine wpAny_bind (wpAny_roomToWake hl hroom ?_)
    show wpAny _ A.in1 (.resume g (.send .none) [] _) _ _ s
    refine wpAny_resumeN hgs hgo fun e s₁ he hsz => ?_
    cases e with
    | susp v gd l k c p fs =>
      obtain ⟨q1, q2⟩ := hY v gd l k c p fs s₁ he hsz
      refine ⟨by show (!(gd || fs.any Frame.guarded)) = true; rw [q1]; rfl, ?_⟩
      have e1 : End.genState (.susp v gd l k c p fs) = .suspended k l c p fs false := by show GenState.suspended k l c p fs (gd || fs.any Frame.guarded) = _; rw [q1]
      rw [e1]
      exact wpAny_pure ⟨v, rfl, wpAny_pure q2⟩
    | ret x =>
      refine ⟨rfl, ?_⟩
      cases x with
      | ok x =>
        obtain ⟨hr, hp⟩ := hP x s₁ he
        have hres : End.result (.ret (.ok x)) = .returned .none := by
          rcases hr with hr | hr <;> rw [hr] <;> rfl
        first | rw [hres] | simp only [hres]
        show wpAny _ A.in1 (newExc (.type "StopIteration") [] >>= _) _ _ _
        refine wpAny_bind ?_
        simp only [newExc, newTuple]
        refine wpAny_bind (wpAny_newObj_type ?_ (by size_fits))
        refine wpAny_bind (m := firstArgMember _ _) (wpAny_of_eq (a := Value.none) (by first | rfl | (simp only [firstArgMember]; rfl)) ?_)
        refine wpAny_newObj_type ?_ (by size_fits)
        simp only [raiseNew]
        refine wpAny_bind (wpAny_bind (wpAny_handled ?_))
        first | rw [show A.in1.handled = none from hh] | rw [hh]
        refine wpAny_throw ?_
        refine wpAny_bind (wpAny_isInstance (T := "StopIteration") (b := true) ⟨_, Heap.get?_push_size _ rfl, rfl⟩ isSubtype_stop ?_)
        exact wpAny_pure (hp _ fun b o hb => Heap.get?_push_of_some _ (Heap.get?_push_of_some _ hb))
      | error e =>
        obtain ⟨hg1, hns, hq⟩ := hE e s₁ he
        obtain ⟨o, nm, qn, ho, hc, hd, hsl⟩ := hg1
        show wpAny _ A.in1 (Builtin.Generator.genLeft (.ref a) e) _ _ _
        unfold Builtin.Generator.genLeft Builtin.Generator.madeByALambda
        refine wpAny_bind (wpAny_bind (wpAny_load (o := o) ho (wpAny_pure ?_)))
        refine wpAny_bind (hns _ _ _ _ rfl ?_)
        rw [Bool.and_false, if_neg Bool.false_ne_true]
        unfold Builtin.Generator.genEscaped
        first
          | refine wpAny_bind (hns _ _ _ _ rfl ?_)
          | refine wpAny_bind (wpAny_pure (wpAny_bind (hns _ _ _ _ rfl ?_)))
        rw [if_pos (show (!false) = true from rfl)]
        first
          | refine wpAny_throw ?_
          | refine wpAny_bind (wpAny_throw ?_)
        refine wpAny_bind (hns _ _ _ _ rfl ?_)
        rw [if_neg Bool.false_ne_true]
        exact wpAny_throw hq
end
end DL
end
section
namespace DL
open PySem PySem.Spec PyProof.Rows L2 _root_.GenW
theorem Inv.gens {X : Cx} {pins : List (Addr × Obj)} {σ : L2.St} {H : Hp} {z s : Shared} (I : Inv X pins σ H z) (h : s.heap = z.heap) (o : s.os = z.os) (b : AllBare s.gens) : Inv X pins σ H s :=
  ⟨I.ok, by rw [o]; exact I.os, b, by rw [h]; exact I.base, by rw [h]; exact I.loc, by rw [h]; exact I.cell, I.free, I.freeC, by rw [h]; exact I.pin, by rw [h]; exact I.hok, I.len⟩
theorem Inv.thaw {X : Cx} {pins : List (Addr × Obj)} {σ : L2.St} {H : Hp} {F : Nat → Option GenState} {s z : Shared} (I : Inv X pins σ H z) (f : Fz F s z) : Inv X pins σ H s :=
  Inv.gens I f.heap.symm f.os.symm (f.bare I.bare)
theorem Inv.freeze {X : Cx} {pins : List (Addr × Obj)} {σ : L2.St} {H : Hp} {s : Shared} (I : Inv X pins σ H s) : Inv X pins σ H (frozen s) :=
  Inv.gens I rfl rfl (bare_frozen I.bare)
theorem CXd.gens {K : PySem.W.Frag} {P : Program} {w : World} {o : List PySem.Env} {H : Hp} {s z' s' : Shared} {E : XK} {u : Value} (x : CXd K P w o H s E u z') (h : s'.heap = z'.heap) (q : s'.os = z'.os) (b : AllBare s'.gens) : CXd K P w o H s E u s' := by
  obtain ⟨a, B, H', cls, d, yo, h1, h2, h3, h4, h5, h6, h7, h8, h9⟩ := x
  exact ⟨a, B, H', cls, d, yo, h1, by rw [h]; exact h2, h3, by rw [h]; exact h4, h5, q.trans h6, b, h8, h9⟩
theorem CXd.bare {K : PySem.W.Frag} {P : Program} {w : World} {o : List PySem.Env} {H : Hp} {s z' : Shared} {E : XK} {u : Value} (x : CXd K P w o H s E u z') : AllBare z'.gens := by
  obtain ⟨a, B, H', cls, d, yo, h1, h2, h3, h4, h5, h6, h7, h8, h9⟩ := x
  exact h7
/-- a generator's body's context: pn: the generator's own object -/
abbrev genX (P : Program) (w : World) (K : PySem.W.Frag) (mg : Str → Option Value) (base : Heap) (N : List Str) (qual : Str) (st : Stmt) (f : Addr) (cdv : Value) (L : Addr) (A : Around) (outer : List PySem.Env) (s : Shared) (H : Hp) (E : XK) (pn : List (Addr × Obj)) : Cx where
  prog := P
  w := w
  K := K
  mg := mg
  base := base
  A := A.deeper (envOfC qual (defScope st) L f cdv)
  N := N
  s_0 := s
  H_0 := H
  env := envOfC qual (defScope st) L f cdv
  outer := outer
  stack := envOfC qual (defScope st) L f cdv :: outer
  ex := []
  fn := fun _ => true
  calm := true
  pn := pn
  xe := fun e s' => wpAny (model P w) (A.deeper (envOfC qual (defScope st) L f cdv)) (leaving (envOfC qual (defScope st) L f cdv) e)
      (fun _ s'' => CXd K P w outer H s E e s'' ∧ ∀ p ∈ pn, s''.heap.get? p.1 = some p.2) (fun _ _ => False) s'
theorem XEq.leaveP {X : Cx} {W : WX} {E : XK} {s' : Shared} (hs : X.stack = X.env :: X.outer) (hf : X.env.frame = some X.env.locals) (hex : X.ex = []) {E₁ : Value → Shared → Prop} (hW : ∀ cls d σ H, W cls d σ H → E cls d H) {u : Value} (x : XEq X W u s') :
    wpAny (model X.prog X.w) X.A (leaving X.env u) (fun _ s'' => CXd X.K X.prog X.w X.outer X.H_0 X.s_0 E u s'' ∧ ∀ p ∈ X.pn, s''.heap.get? p.1 = some p.2) E₁ s' := by
  obtain ⟨a, B, sI, pins, σ, H, cls, d, yo, rfl, I, nb, up, sky, na, os, ag, gd, w⟩ := x
  have fr : X.A.frames = some (X.env :: X.outer) := I.ok.frames.trans (by rw [hs])
  have old : ∀ b o, X.s_0.heap.get? b = some o → b ∉ X.fs → b ∉ frs X.stack := fun b o e n m => by
    rcases List.mem_cons.mp (I.stkSub b m) with z | z
    · have l1 := Heap.lt_size e
      have l2 := I.ok.above
      rw [z] at l1
      exact absurd (Nat.lt_of_lt_of_le l1 l2) (Nat.lt_irrefl _)
    · exact n z
  have nex : ∀ b, b ∉ X.ex := fun b m => by
    rw [hex] at m
    exact (nomatch m)
  have pinB : ∀ p ∈ X.pn, B.get? p.1 = some p.2 := fun p hp => by
    obtain ⟨h1, _, h3, h4, _⟩ := I.pin p (List.mem_append_left _ hp)
    refine nb p.1 p.2 h1 fun hm => ?_
    rcases List.mem_cons.mp (I.stkSub p.1 hm) with z | z
    · exact h3 z
    · exact h4 z
  have done : ∀ h', PySem.HandSPX.FlyingZ B X.outer a (Zy X.K yo cls d) h' → s'.heap.UpToSlots h' → CXd X.K X.prog X.w X.outer X.H_0 X.s_0 E (.ref a) { s' with heap := h' } ∧ ∀ p ∈ X.pn, ({ s' with heap := h' } : Shared).heap.get? p.1 = some p.2 := fun h' fl up' => by
    refine ⟨⟨a, B, H, cls, d, yo, rfl, fl, I.inGround nb, ⟨fun b o e n m => nb b o (I.base.keep b o e n m (nex b)) (old b o e m), fun b o e m => ?_, fun b o e n => I.base.free b o e n (nex b), fun b o e m => ?_, I.base.tups, I.base.frzs, I.base.tbls⟩,
      na, os.trans I.os, ag, gd, hW _ _ _ _ w⟩, fun p hp => fl.1 p.1 p.2 (pinB p hp)⟩
    · obtain ⟨_, o0, e0, nf⟩ := I.ok.funs.mem m
      have eo : o = o0 := Option.some.inj (e.symm.trans e0)
      subst eo
      obtain ⟨s1, e1⟩ := I.base.slot b o e (I.ok.frf b m) m (nex b)
      obtain ⟨s2, e2⟩ := up b _ e1 nf
      obtain ⟨s3, e3⟩ := up' b _ e2 nf
      exact ⟨s3, e3⟩
    · obtain ⟨o', e1⟩ := I.base.there b o e (nex b)
      exact ⟨o', nb b o' e1 (old b o e m)⟩
  rw [hs] at sky
  rcases sky with ⟨k1, k2, k3, oe, vs, k4, k5, k6, k7⟩ | fl | hd
  · exact PXN.leaving_firstZ Zy.steady fr k3 hf k4 k1 k2 k6 k7 k5 done
  · exact PXN.leaves_onZ Zy.steady fr hf fl done
  · exact PySem.HandSPX.leaves_heldZ hf hd done
section
variable {P : Program} {w : World} {K : PySem.W.Frag} {mg : Str → Option Value} {base : Heap} {N ps : List Str} {qual : Str} {st : Stmt} {f : Addr} {cdv : Value} {L : Addr} {A : Around} {outer : List PySem.Env} {k : Nat}
/-- a generator def's scope: no cells -/
structure GnScope (N ps : List Str) (sc : Scope) : Prop where
  kind : sc.kind = .function
  co : sc.isCoroutine = false
  gen : sc.isGenerator = true
  nd : N.Nodup
  pre : N.take ps.length = ps
  par : ∀ x ∈ ps, sc.names.lookup x = some .local
  nofree : ∀ y ∈ sc.names, y.2 ≠ .free ∧ y.2 ≠ .cell
theorem sit_gen {s : Shared} {H : Hp} {E : XK} {pn : List (Addr × Obj)} {p : Par} (nd : N.Nodup)
    (hr : RoomB true k (A.deeper (envOfC qual (defScope st) L f cdv))) (hg : (A.deeper (envOfC qual (defScope st) L f cdv)).guards = some []) (ok : p.Ok K mg) (hE : ∀ σ c d H, p.EK σ c d H → E c d H) (nf : p.fx = none) (sm : HasSm base) :
    SitB true true (genX P w K mg base N qual st f cdv L A outer s H E pn) p k where
  calm_ := fun _ => rfl
  gd := hg
  rm := hr
  nd := nd
  ok := ok
  po := passes_of (X := genX P w K mg base N qual st f cdv L A outer s H E pn) (K := fun e s'' => CXd K P w outer H s E e s'' ∧ ∀ p ∈ pn, s''.heap.get? p.1 = some p.2) (E₁ := fun _ _ => False) rfl
  tk := .of fun u s' x => XEq.leaveP (X := genX P w K mg base N qual st f cdv L A outer s H E pn) (E := E) rfl rfl rfl (fun cls d σ H' h => hE σ cls d H' h) x
  nf_ := fun _ => nf
  sm := sm
theorem xe_thaw {s : Shared} {H : Hp} {E : XK} {pn : List (Addr × Obj)} {e : Value} {F : Nat → Option GenState} {s' z' : Shared} (sus : ∀ g x, F g = some x → Stay x) (h : Fz F s' z') (x : (genX P w K mg base N qual st f cdv L A outer s H E pn).xe e z') : (genX P w K mg base N qual st f cdv L A outer s H E pn).xe e s' := by
  exact wpAny_mono (wpAny_thaw sus h x) (fun _ s'' ⟨z'', f2, h1, h2⟩ => ⟨h1.gens f2.heap.symm f2.os.symm (f2.bare h1.bare), fun p hp => by rw [← f2.heap]; exact h2 p hp⟩) fun _ _ ⟨_, _, h⟩ => h
end
def cutH (L : Addr) (h : Heap) : Heap := { h with objs := h.objs.extract 0 L }
def cutS (L : Addr) (s : Shared) : Shared := { s with heap := cutH L s.heap }
theorem ex_get {α : Type} (xs : Array α) (L b : Nat) : (xs.extract 0 L)[b]? = if b < L then xs[b]? else none := by
  rw [Array.getElem?_extract]
  by_cases h1 : b < L
  · rw [if_pos h1]
    by_cases h2 : b < xs.size
    · rw [if_pos (by omega), Nat.zero_add]
    · rw [if_neg (by omega), Array.getElem?_eq_none (by omega)]
  · rw [if_neg h1, if_neg (by omega)]
theorem ex_size {α : Type} (xs : Array α) (L : Nat) (h : L ≤ xs.size) : (xs.extract 0 L).size = L := by
  rw [Array.size_extract]
  omega
theorem cutH_get {L b : Addr} {h : Heap} : (cutH L h).get? b = if b < L then h.get? b else none := by
  have e : (cutH L h).objs[b]? = if b < L then h.objs[b]? else none := ex_get h.objs L b
  unfold Heap.get?
  rw [e]
  by_cases hb : b < L
  · rw [if_pos hb, if_pos hb]
  · rw [if_neg hb, if_neg hb]
theorem cutH_size {L : Addr} {h : Heap} (hl : L ≤ h.objs.size) : (cutH L h).objs.size = L := ex_size h.objs L hl
/-- what may change without the waker's knowing: the generator's own objects, cells that came after it -/
def Pv (L : Addr) (gpw : List Addr) (ws : Shared) (b : Addr) : Prop := b ∈ gpw ∨ (L ≤ b ∧ ∃ v, ws.heap.IsCell b v)
/-- no object that stood there at the wake, but the generator's own -/
def Nw (gpw : List Addr) (ws : Shared) (b : Addr) : Prop := b ∈ gpw ∨ ws.heap.get? b = none ∨ ∃ v, ws.heap.IsCell b v
/-- no generator that slept or ran at the wake, but the generator's own -/
def Ng (slw : List Nat) (ws : Shared) (g : Nat) : Prop := g ∈ slw ∨ ∀ x, ws.gens[g]? = some x → ¬ Stay x
/-- lo: what stood below the generator's place at the stretch's start -/
structure EndOk (P : Program) (w : World) (outer : List PySem.Env) (L : Addr) (gn : Nat) (gpw : List Addr) (slw : List Nat) (lo : Heap) (ws : Shared) (H0 H' : Hp) (s1 : Shared) : Prop where
  os : s1.os = ws.os
  bare : AllBare s1.gens
  hok : HOk P w H' s1.heap
  all : All H0 H'
  keepLo : ∀ b o, lo.get? b = some o → H0 b = none → b ∉ frs outer → s1.heap.get? b = some o
  slot : ∀ b o, lo.get? b = some o → H0 b = none → b ∈ frs outer → ∃ sl, s1.heap.get? b = some { o with slots := sl }
  freeLo : ∀ b o, lo.get? b = some o → H0 b = none → H' b = none
  keepHi : ∀ b o, L ≤ b → ws.heap.get? b = some o → H0 b = none → ¬ Pv L gpw ws b → s1.heap.get? b = some o
  freeHi : ∀ b o, L ≤ b → ws.heap.get? b = some o → H0 b = none → ¬ Pv L gpw ws b → H' b = none
  oth : ∀ g x, ws.gens[g]? = some x → Stay x → g ∉ slw → g ≠ gn → s1.gens[g]? = some x
/-- asleep: what stands still till it is woken -/
structure Slp (L a : Addr) (gn : Nat) (go : Obj) (gpw : List Addr) (slw : List Nat) (ws : Shared) (H' : Hp) (s1 : Shared) (gp : List (Addr × Obj)) (sl : List (Nat × GenState)) : Prop where
  at_ : ∀ p ∈ gp, s1.heap.get? p.1 = some p.2 ∧ H' p.1 = none ∧ L ≤ p.1 ∧ Nw gpw ws p.1 ∧ ∀ v, p.2.data ≠ .cell v
  gens : ∀ q ∈ sl, s1.gens[q.1]? = some q.2 ∧ Susp q.2 ∧ NG q.2 ∧ Ng slw ws q.1
  run : s1.gens[gn]? = some .running
  gen : (a, go) ∈ gp
structure WakeOk (P : Program) (w : World) (K : PySem.W.Frag) (mg : Str → Option Value) (base : Heap) (A : Around) (outer : List PySem.Env) (gn : Nat) (H' : Hp) (gp : List (Addr × Obj)) (sl : List (Nat × GenState)) (s3 : Shared) (H3 : Hp) : Prop where
  e0 : Env0 P w K mg base A outer s3 H3
  at_ : ∀ p ∈ gp, s3.heap.get? p.1 = some p.2 ∧ H3 p.1 = none
  gens : ∀ q ∈ sl, s3.gens[q.1]? = some q.2
  run : s3.gens[gn]? = some .running
  kept : Kept H' H3
section
variable (P : Program) (w : World) (K : PySem.W.Frag) (mg : Str → Option Value) (base : Heap) (A : Around) (outer : List PySem.Env) (L a : Addr) (gn : Nat) (go : Obj)
/-- what is wanted of a stretch's end: xs is still to come; ws: the state at the wake -/
def PostOf : List D → Heap → Shared → Hp → List Addr → List Nat → End → Shared → Prop
  | [] => fun lo ws H0 gpw slw e s1 => match e with
    | .ret r => (r = .ok (.ret .none) ∨ r = .ok .next) ∧ ∃ H', EndOk P w outer L gn gpw slw lo ws H0 H' s1
    | .susp .. => False
  | x :: xs => fun lo ws H0 gpw slw e s1 => match e with
    | .ret _ => False
    | .susp v gd _ k c _ fs => (gd || fs.any Frame.guarded) = false ∧ splitAtGen fs = none ∧ ∃ v' H' gp sl, RelV v' v ∧ flat x = true ∧ Rep K (fun _ => False) H' v' x ∧ EndOk P w outer L gn gpw slw lo ws H0 H' s1 ∧ Slp L a gn go gpw slw ws H' s1 gp sl ∧
      ∀ s3 H3, WakeOk P w K mg base A outer gn H' gp sl s3 H3 → Sg (model P w) A (PostOf xs (cutH L s3.heap) s3 H3 (gp.map (·.1)) (sl.map (·.1))) c (k (.send .none)) fs s3
end
/-- what is to come: data, or an error at once -/
abbrev Outc := List D ⊕ Exn
def xpOf : Outc → Exn → Sx → Prop
  | .inl _ => fun _ _ => False
  | .inr x => fun y _ => y = x
def sx0 : Sx := Sx.z 0
/-- a stretch: where it began -/
structure Sq where
  s0 : Shared
  H0 : Hp
  E : XK
  B : Addr → Prop
  XP : Exn → Sx → Prop
  ws : Shared
  gpw : List Addr
  slw : List Nat
def Sq.par (q : Sq) : Par := parF q.H0 q.B sx0 q.XP q.E
open Classical in
/-- what is pinned besides: others' objects that came after the generator -/
noncomputable def Sq.yp (L : Addr) (q : Sq) : List (Addr × Obj) := (List.range q.ws.heap.objs.size).filterMap fun b => match q.ws.heap.get? b with
  | some o => if L ≤ b ∧ q.H0 b = none ∧ b ∉ q.gpw ∧ ∀ v, o.data ≠ .cell v then some (b, o) else none
  | none => none
theorem Sq.of_yp {L : Addr} {q : Sq} {p : Addr × Obj} (h : p ∈ q.yp L) : q.ws.heap.get? p.1 = some p.2 ∧ L ≤ p.1 ∧ q.H0 p.1 = none ∧ p.1 ∉ q.gpw ∧ ∀ v, p.2.data ≠ .cell v := by
  unfold Sq.yp at h
  obtain ⟨b, _, e⟩ := List.mem_filterMap.mp h
  cases ho : q.ws.heap.get? b with
  | none => rw [ho] at e; cases e
  | some o =>
    rw [ho] at e
    simp only at e
    split at e
    · rename_i c
      cases e
      exact ⟨ho, c⟩
    · cases e
theorem Sq.mem_yp {L : Addr} {q : Sq} {b : Addr} {o : Obj} (h : q.ws.heap.get? b = some o) (h1 : L ≤ b) (h2 : q.H0 b = none) (h3 : b ∉ q.gpw) (h4 : ∀ v, o.data ≠ .cell v) : (b, o) ∈ q.yp L := by
  unfold Sq.yp
  refine List.mem_filterMap.mpr ⟨b, List.mem_range.mpr (Heap.lt_size h), ?_⟩
  rw [h]
  simp only
  rw [if_pos ⟨h1, h2, h3, h4⟩]
end DL
end
section
namespace DL
open PySem PySem.Spec PyProof.Rows L2 _root_.GenW
def flatE (E : Env) : Bool := E.all fun e => match e with
  | .val d => flat d
  | .unk => true
  | _ => false
theorem flatE_at {E : Env} (h : flatE E = true) {i : Nat} {e : Ent} (q : E[i]? = some e) : (∃ d, e = .val d ∧ flat d = true) ∨ e = .unk := by
  have h1 := List.all_eq_true.mp h e (List.mem_of_getElem? q)
  cases e with
  | val d => exact .inl ⟨d, rfl, h1⟩
  | unk => exact .inr rfl
  | _ => cases h1
/-- an environment of data without lists, elsewhere -/
theorem env_kept {K : PySem.W.Frag} {p p' : Par} {n n' : Sx} {B B' : Addr → Prop} {H H' : Hp} {σ : L2.St} {E : Env} (r : EnvR K p n B H σ E) (fl : flatE E = true) (k : Kept H H') (nf : p'.fx = none) : EnvR K p' n' B' H' σ E := by
  have no : ∀ (i : Nat) (xs : List D), E[i]? ≠ some (.own xs) := fun i xs h => by
    rcases flatE_at fl h with ⟨d, e, _⟩ | e <;> cases e
  refine ⟨r.len, fun i e h => ?_, fun i j a xs ys h => absurd h (no i xs), .no nf, fun i a xs _ h => absurd h (no i xs)⟩
  obtain ⟨s, h1, h2⟩ := r.at_ i e h
  rcases flatE_at fl h with ⟨d, rfl, hd⟩ | rfl
  · cases h2 with
    | val q => exact ⟨_, h1, .val (q.kept k hd)⟩
  · exact ⟨s, h1, .unk _⟩
section
variable (P : Program) (w : World) (K : PySem.W.Frag) (mg : Str → Option Value) (base : Heap) (N : List Str) (qual : Str) (st : Stmt) (f : Addr) (cdv : Value) (k : Nat) (A : Around) (outer : List PySem.Env) (L a : Addr) (gn : Nat) (go : Obj)
/-- what is fixed for a generator's whole life -/
structure DynOk : Prop where
  hr : RoomB true k (A.deeper (envOfC qual (defScope st) L f cdv))
  hg : (A.deeper (envOfC qual (defScope st) L f cdv)).guards = some []
  fr : A.frames = some outer
  sm : HasSm base
  mod : Mod K mg base
  nd : N.Nodup
  kind : (defScope st).kind = .function
  names : ∀ y ∈ (defScope st).names, y.2 ≠ .free ∧ y.2 ≠ .cell
  cells : cellsFrom (L + 1) (defScope st).names [] = []
  fl : ∀ b ∈ frs outer, b < L
  La : L < a
  goc : ∀ v, go.data ≠ .cell v
  bsz : base.objs.size ≤ L
/-- what is fixed for a stretch -/
structure QOk (q : Sq) : Prop where
  sz : q.s0.heap.objs.size = L
  os : q.s0.os = q.ws.os
  gpw : ∀ b ∈ q.gpw, L ≤ b
  gL : L ∈ q.gpw
  ga : a ∈ q.gpw
  wa : a < q.ws.heap.objs.size
  frf : ∀ b ∈ frs outer, q.H0 b = none
  fun_ : ∀ b ∈ frs outer, ∃ o, q.ws.heap.get? b = some o ∧ ∀ vs, o.data ≠ .fields vs
  exc : ∀ x cl dd H', q.XP x sx0 → All q.H0 H' → ExRep K mg q.B H' x cl dd → q.E cl dd H'
/-- within a stretch -/
structure GAt (q : Sq) (ip : List (Addr × Obj)) (sl : List (Nat × GenState)) (σ : L2.St) (H : Hp) (s : Shared) (E : Env) : Prop where
  inv : Inv (genX P w K mg base N qual st f cdv L A outer q.s0 q.H0 q.E [(a, go)]) (ip ++ q.yp L) σ H s
  bd : ∃ B, St0 q.par sx0 B H ∧ EnvR K q.par sx0 B H σ E
  sl : ∀ x ∈ sl, s.gens[x.1]? = some x.2 ∧ Susp x.2 ∧ NG x.2 ∧ Ng q.slw q.ws x.1
  run : s.gens[gn]? = some .running
  oth : ∀ g x, q.ws.gens[g]? = some x → Stay x → g ∉ q.slw → g ≠ gn → s.gens[g]? = some x
  ipq : ∀ p ∈ ip, L ≤ p.1 ∧ Nw q.gpw q.ws p.1
def reSq (L : Addr) (s3 : Shared) (H3 : Hp) (gp : List (Addr × Obj)) (sl : List (Nat × GenState)) : Sq := ⟨cutS L s3, H3, fun _ _ _ => False, fun _ => False, fun _ _ => False, s3, gp.map (·.1), sl.map (·.1)⟩
end
section
variable {P : Program} {w : World} {K : PySem.W.Frag} {mg : Str → Option Value} {base : Heap} {N : List Str} {qual : Str} {st : Stmt} {f : Addr} {cdv : Value} {k : Nat} {A : Around} {outer : List PySem.Env} {L a : Addr} {gn : Nat} {go : Obj}
theorem GAt.all {q : Sq} {ip : List (Addr × Obj)} {sl : List (Nat × GenState)} {σ : L2.St} {H : Hp} {s : Shared} {E : Env} (h : GAt P w K mg base N qual st f cdv A outer L a gn go q ip sl σ H s E) : All q.H0 H := by
  obtain ⟨B, h1, _⟩ := h.bd
  exact all_of h1.ext.ext
/-- the end of a stretch -/
theorem GAt.endOk (Dy : DynOk K mg base N qual st f cdv k A outer L a go) {q : Sq} (Q : QOk K mg outer L a q) {ip : List (Addr × Obj)} {sl : List (Nat × GenState)} {σ : L2.St} {H : Hp} {s : Shared} {E : Env} (h : GAt P w K mg base N qual st f cdv A outer L a gn go q ip sl σ H s E) :
    EndOk P w outer L gn q.gpw q.slw q.s0.heap q.ws q.H0 H s where
  os := h.inv.os.trans Q.os
  bare := h.inv.bare
  hok := h.inv.hok
  all := h.all
  keepLo := fun b o e n hb => h.inv.base.keep b o e n hb (by simp)
  slot := fun b o e n hb => h.inv.base.slot b o e n hb (by simp)
  freeLo := fun b o e n => h.inv.base.free b o e n (by simp)
  keepHi := fun b o hL e n hp => (h.inv.pin (b, o) (List.mem_append_right _ (List.mem_append_right _ (Sq.mem_yp e hL n (fun z => hp (.inl z)) fun v z => hp (.inr ⟨hL, v, o, e, z⟩))))).1
  freeHi := fun b o hL e n hp => (h.inv.pin (b, o) (List.mem_append_right _ (List.mem_append_right _ (Sq.mem_yp e hL n (fun z => hp (.inl z)) fun v z => hp (.inr ⟨hL, v, o, e, z⟩))))).2.1
  oth := h.oth
/-- what is new for the stretch -/
theorem nw_of {q : Sq} {ip : List (Addr × Obj)} {σ : L2.St} {H H' : Hp} {s : Shared} (I : Inv (genX P w K mg base N qual st f cdv L A outer q.s0 q.H0 q.E [(a, go)]) (ip ++ q.yp L) σ H s) (al0 : All q.H0 H) (al : All H H') {b : Addr} (hL : L ≤ b) (hn : H' b = none) (hs : s.heap.get? b = none ∨ ∃ v, s.heap.IsCell b v) : Nw q.gpw q.ws b := by
  by_cases h1 : b ∈ q.gpw
  · exact .inl h1
  cases e : q.ws.heap.get? b with
  | none => exact .inr (.inl e)
  | some o =>
    by_cases h2 : ∃ v, o.data = .cell v
    · obtain ⟨v, h2⟩ := h2
      exact .inr (.inr ⟨v, o, e, h2⟩)
    · have h3 : ∀ v, o.data ≠ .cell v := fun v z => h2 ⟨v, z⟩
      cases e0 : q.H0 b with
      | some u =>
        rw [al b u (al0 b u e0)] at hn
        cases hn
      | none =>
        have g := (I.pin (b, o) (List.mem_append_right _ (List.mem_append_right _ (Sq.mem_yp e hL e0 h1 h3)))).1
        rcases hs with z | ⟨v, o2, z1, z2⟩
        · rw [z] at g
          cases g
        · rw [z1] at g
          cases g
          exact absurd z2 (h3 v)
theorem GAt.nw {q : Sq} {ip : List (Addr × Obj)} {sl : List (Nat × GenState)} {σ : L2.St} {H H' : Hp} {s : Shared} {E : Env} (h : GAt P w K mg base N qual st f cdv A outer L a gn go q ip sl σ H s E) (al : All H H') {b : Addr} (hL : L ≤ b) (hn : H' b = none) (hs : s.heap.get? b = none ∨ ∃ v, s.heap.IsCell b v) : Nw q.gpw q.ws b :=
  nw_of h.inv h.all al hL hn hs
theorem GAt.nwF {q : Sq} {ip : List (Addr × Obj)} {sl : List (Nat × GenState)} {σ : L2.St} {H : Hp} {s : Shared} {E : Env} (h : GAt P w K mg base N qual st f cdv A outer L a gn go q ip sl σ H s E) (sz : q.s0.heap.objs.size = L) {b : Addr}
    (hf : FpOk (genX P w K mg base N qual st f cdv L A outer q.s0 q.H0 q.E [(a, go)]) (ip ++ q.yp L) H b) : L ≤ b ∧ Nw q.gpw q.ws b := by
  obtain ⟨f1, f2, f3, f4, f5, f6⟩ := hf
  have hL : L ≤ b := by
    rcases f4 with z | z
    · exact absurd z (by simp)
    · rw [← sz]; exact z
  refine ⟨hL, ?_⟩
  by_cases h1 : b ∈ q.gpw
  · exact .inl h1
  cases e : q.ws.heap.get? b with
  | none => exact .inr (.inl e)
  | some o =>
    by_cases h2 : ∃ v, o.data = .cell v
    · obtain ⟨v, h2⟩ := h2
      exact .inr (.inr ⟨v, o, e, h2⟩)
    · have h3 : ∀ v, o.data ≠ .cell v := fun v z => h2 ⟨v, z⟩
      cases e0 : q.H0 b with
      | some u =>
        rw [h.all b u e0] at f1
        cases f1
      | none => exact absurd rfl (f6 (b, o) (List.mem_append_right _ (List.mem_append_right _ (Sq.mem_yp e hL e0 h1 h3))))
/-- asleep -/
theorem GAt.slp (Dy : DynOk K mg base N qual st f cdv k A outer L a go) {q : Sq} (Q : QOk K mg outer L a q) {ip : List (Addr × Obj)} {sl : List (Nat × GenState)} {σ : L2.St} {H : Hp} {s : Shared} {E : Env} (h : GAt P w K mg base N qual st f cdv A outer L a gn go q ip sl σ H s E) :
    ∃ oL, s.heap.get? L = some oL ∧ Slp L a gn go q.gpw q.slw q.ws H s ((L, oL) :: (a, go) :: ip) sl := by
  obtain ⟨m, ⟨oL, es, ep, h1, h2, h3⟩, _⟩ := h.inv.loc
  refine ⟨oL, h1, fun p hp => ?_, h.sl, h.run, by simp⟩
  rcases List.mem_cons.mp hp with rfl | hp
  · exact ⟨h1, h.inv.free, Nat.le_refl _, .inl Q.gL, fun v z => by rw [h2] at z; cases z⟩
  rcases List.mem_cons.mp hp with rfl | hp
  · obtain ⟨g1, g2, _⟩ := h.inv.pin (a, go) (List.mem_append_left _ (by simp))
    exact ⟨g1, g2, Nat.le_of_lt Dy.La, .inl Q.ga, Dy.goc⟩
  · obtain ⟨g1, g2, _, _, g5⟩ := h.inv.pin p (List.mem_append_right _ (List.mem_append_left _ hp))
    obtain ⟨i1, i2⟩ := h.ipq p hp
    exact ⟨g1, g2, i1, i2, g5⟩
theorem GAt.reQ (Dy : DynOk K mg base N qual st f cdv k A outer L a go) {q : Sq} (Q : QOk K mg outer L a q) {ip : List (Addr × Obj)} {sl : List (Nat × GenState)} {σ : L2.St} {H : Hp} {s : Shared} {E : Env} (h : GAt P w K mg base N qual st f cdv A outer L a gn go q ip sl σ H s E)
    {oL : Obj} {s3 : Shared} {H3 : Hp} (W : WakeOk P w K mg base A outer gn H ((L, oL) :: (a, go) :: ip) sl s3 H3) : QOk K mg outer L a (reSq L s3 H3 ((L, oL) :: (a, go) :: ip) sl) where
  sz := cutH_size (Nat.le_of_lt (Heap.lt_size (W.at_ (L, oL) (by simp)).1))
  os := rfl
  gpw := fun b hb => by
    obtain ⟨p, hp, rfl⟩ := List.mem_map.mp hb
    rcases List.mem_cons.mp hp with rfl | hp
    · exact Nat.le_refl _
    rcases List.mem_cons.mp hp with rfl | hp
    · exact Nat.le_of_lt Dy.La
    · exact (h.ipq p hp).1
  gL := List.mem_map.mpr ⟨(L, oL), by simp, rfl⟩
  ga := List.mem_map.mpr ⟨(a, go), by simp, rfl⟩
  wa := Heap.lt_size (W.at_ (a, go) (by simp)).1
  frf := W.e0.frf
  fun_ := fun b hb => (W.e0.funs.mem hb).2
  exc := fun x cl dd H' h => h.elim
/-- woken -/
theorem GAt.wake (Dy : DynOk K mg base N qual st f cdv k A outer L a go) {q : Sq} (Q : QOk K mg outer L a q) {ip : List (Addr × Obj)} {sl : List (Nat × GenState)} {σ : L2.St} {H : Hp} {s : Shared} {E : Env} (h : GAt P w K mg base N qual st f cdv A outer L a gn go q ip sl σ H s E) (fl : flatE E = true)
    {oL : Obj} (hoL : s.heap.get? L = some oL) {s3 : Shared} {H3 : Hp} (W : WakeOk P w K mg base A outer gn H ((L, oL) :: (a, go) :: ip) sl s3 H3) :
    GAt P w K mg base N qual st f cdv A outer L a gn go (reSq L s3 H3 ((L, oL) :: (a, go) :: ip) sl) ip sl σ H3 s3 E := by
  have Q' := h.reQ Dy Q W
  have I := h.inv
  have ko := I.ok
  have e0 := W.e0
  have wL := W.at_ (L, oL) (by simp)
  have wa := W.at_ (a, go) (by simp)
  have below : ∀ b o, base.get? b = some o → b < L := fun b o e => Nat.lt_of_lt_of_le (Heap.lt_size e) Dy.bsz
  have noc : ∀ x c, (envOfC qual (defScope st) L f cdv).cells.lookup x = some c → False := fun x c e => by
    have e : (cellsFrom (L + 1) (defScope st).names []).lookup x = some c := e
    rw [Dy.cells] at e
    cases e
  have funs : (cutH L s3.heap).FunFrames base outer := by
    have gen : ∀ (l : List PySem.Env), s3.heap.FunFrames base l → (∀ b ∈ frs l, b < L) → (cutH L s3.heap).FunFrames base l := by
      intro l
      induction l with
      | nil => intro _ _; trivial
      | cons env rest ih =>
        rintro ⟨g1, ⟨M, o, g2, g3, g4, g5⟩, g6⟩ hl
        have hM : M ∈ frs (env :: rest) := by
          unfold frs
          rw [List.filterMap_cons, g2]
          exact List.mem_cons_self
        refine ⟨g1, ⟨M, o, g2, g3, by rw [cutH_get, if_pos (hl M hM)]; exact g4, g5⟩, ih g6 fun b hb => hl b ?_⟩
        unfold frs
        rw [List.filterMap_cons, g2]
        exact List.mem_cons_of_mem _ hb
    exact gen outer e0.funs Dy.fl
  have cut : ∀ b o, (cutH L s3.heap).get? b = some o → s3.heap.get? b = some o := fun b o e => by
    rw [cutH_get] at e
    split at e
    · exact e
    · cases e
  have ok : (genX P w K mg base N qual st f cdv L A outer (reSq L s3 H3 ((L, oL) :: (a, go) :: ip) sl).s0 H3 (fun _ _ _ => False) [(a, go)]).Ok :=
    ⟨ko.mod, ko.kind, ko.glob, ko.blt, Nat.le_of_eq Q'.sz, fun x y c e => (noc x c e).elim, ko.has, fun x c _ e => (noc x c e).elim, fun _ => Dy.hr.hd_ rfl, ko.frames, ko.stk, fun b hb => by simp at hb,
      fun b o e => ⟨by show (cutH L s3.heap).get? b = some o; rw [cutH_get, if_pos (below b o e)]; exact (e0.bs b o e).1, (e0.bs b o e).2⟩, by rw [Q'.sz]; exact Dy.bsz, fun b o _ hb => by simp at hb, fun b hb => by simp at hb, funs, e0.frf⟩
  refine ⟨⟨ok, rfl, e0.bare, Un.kept cut, ?_, fun x c e => (noc x c e).elim, wL.2, fun x c e => (noc x c e).elim, fun p hp => ?_, e0.hok, I.len⟩, ?_, fun x hx => ⟨W.gens x hx, (h.sl x hx).2.1, (h.sl x hx).2.2.1, .inl (List.mem_map.mpr ⟨x, hx, rfl⟩)⟩, W.run, fun g x e _ _ _ => e, fun p hp => ⟨(h.ipq p hp).1, .inl (List.mem_map.mpr ⟨p, by simp [hp], rfl⟩)⟩⟩
  · obtain ⟨m, ⟨oo, es, ep, h1, h2⟩, h3⟩ := I.loc
    have h1 : s.heap.get? L = some oo := h1
    rw [hoL] at h1
    cases h1
    refine ⟨m, ⟨oL, es, ep, wL.1, h2⟩, fun i x v g1 g2 g3 => ?_⟩
    obtain ⟨u, r, lk⟩ := h3 i x v g1 g2 g3
    refine ⟨u, r, ?_⟩
    rcases lk with z | ⟨_, c, e, _⟩
    · exact .inl z
    · exact (noc x c e).elim
  · have hfr : ∀ b, L ≤ b → b ∉ frs outer := fun b hb z => absurd (Dy.fl b z) (Nat.not_lt.mpr hb)
    rcases List.mem_append.mp hp with hp | hp
    · rw [List.mem_singleton.mp hp]
      exact ⟨wa.1, wa.2, Nat.ne_of_gt Dy.La, hfr _ (Nat.le_of_lt Dy.La), Dy.goc⟩
    rcases List.mem_append.mp hp with hp | hp
    · obtain ⟨_, _, g3, _, g5⟩ := I.pin p (List.mem_append_right _ (List.mem_append_left _ hp))
      obtain ⟨w1, w2⟩ := W.at_ p (by simp [hp])
      exact ⟨w1, w2, g3, hfr _ (h.ipq p hp).1, g5⟩
    · obtain ⟨g1, g2, g3, g4, g5⟩ := Sq.of_yp hp
      exact ⟨g1, g3, fun z => g4 (by rw [z]; exact Q'.gL), hfr _ g2, g5⟩
  · obtain ⟨B, s1, r1⟩ := h.bd
    refine ⟨fun _ => False, ⟨fun b z => z.elim, fun b z => z.elim (fun z => z.elim) fun z => z.elim, rfl, Ev.refl, fun b z => z.elim⟩, env_kept r1 fl W.kept rfl⟩
end
end DL
end
section
namespace DL
open PySem PySem.Spec PyProof.Rows L2 _root_.GenW
abbrev GKo := Env → Outc → Prop
/-- what a statement of a generator does: from an environment and what is to come -/
abbrev GXS := Env → Outc → GKo → Prop
def gPlain (m : XS) : GXS := fun E out K => m E sx0 (fun o _ => ∃ E', o = .nx E' ∧ K E' out) (xpOf out)
def gSkip : GXS := fun E out K => K E out
def gSeq (a b : GXS) : GXS := fun E out K => a E out fun E' out' => b E' out' K
def gIf (t : XT) (a b : GXS) : GXS := fun E out K => t E sx0 (fun v _ => if v = true then a E out K else b E out K) (xpOf out)
def gYield (m : XE) : GXS := fun E out K => m E sx0 (fun d _ => ∃ xs, out = .inl (d :: xs) ∧ flat d = true ∧ flatE E = true ∧ K E (.inl xs)) (xpOf out)
/-- the turns over items -/
def gLoop (t : Tg) (b : GXS) : List D → GXS
  | [] => gSkip
  | d :: ds => fun E out K => ∃ E1, t.put d E = some E1 ∧ b E1 out fun E' out' => gLoop t b ds E' out' K
def gFor (m : XA) (t : Tg) (b : GXS) : GXS := fun E out K => m E sx0 (fun ds _ => gLoop t b ds E out K) (xpOf out)
section
variable (P : Program) (w : World) (K : PySem.W.Frag) (mg : Str → Option Value) (base : Heap) (N : List Str) (qual : Str) (st : Stmt) (f : Addr) (cdv : Value) (k : Nat) (A : Around) (outer : List PySem.Env) (L a : Addr) (gn : Nat) (go : Obj)
def postQ (q : Sq) : Outc → End → Shared → Prop
  | .inl xs => PostOf P w K mg base A outer L a gn go xs q.s0.heap q.ws q.H0 q.gpw q.slw
  | .inr _ => fun e s1 => ∃ ex, e = .ret (.error ex) ∧ CXd K P w outer q.H0 q.s0 q.E ex s1 ∧ s1.heap.get? a = some go
/-- the stretch goes with what is to come -/
structure QX (q : Sq) (out : Outc) : Prop where
  xp : q.XP = xpOf out
  ex : ∀ xs, out = .inl xs → q.E = fun _ _ _ => False
/-- where the generator's code stands -/
structure FCk (c : Code) (fs : List Frame) (gd : Bool → Bool) : Prop where
  over : A.over c fs = A.deeper (envOfC qual (defScope st) L f cdv)
  split : splitAtGen fs = none
  guard : fs.any Frame.guarded = false
  gd : gd false = false
structure GKont (Hk : Hp) (ip : List (Addr × Obj)) (sl : List (Nat × GenState)) (c : Code) (fs : List Frame) (Kc : Flow → Sem PySem.Fin) (J : Value → Sem PySem.Fin) (KK : GKo) : Prop where
  ok : ∀ q out σ H s E, QOk K mg outer L a q → QX q out → GAt P w K mg base N qual st f cdv A outer L a gn go q ip sl σ H s E → Kept Hk H → KK E out → Sg (model P w) A (postQ P w K mg base A outer L a gn go q out) c (Kc .next) fs s
  exc : ∀ q out e s, QOk K mg outer L a q → QX q out → (genX P w K mg base N qual st f cdv L A outer q.s0 q.H0 q.E [(a, go)]).xe e s → Sg (model P w) A (postQ P w K mg base A outer L a gn go q out) c (J e) fs s
end
section
variable (P : Program) (w : World) (K : PySem.W.Frag) (mg : Str → Option Value) (base : Heap) (N : List Str) (qual : Str) (st : Stmt) (f : Addr) (cdv : Value) (k : Nat) (b : Bool)
/-- b: no other generator sleeps -/
def GRun (tm : PySem.Env → Sem Flow) (u : GXS) : Prop :=
  ∀ (A : Around) (outer : List PySem.Env) (L a : Addr) (gn : Nat) (go : Obj), DynOk K mg base N qual st f cdv k A outer L a go → ∀ (q : Sq) (out : Outc), QOk K mg outer L a q → QX q out → ∀ (ip : List (Addr × Obj)) (sl : List (Nat × GenState)), (b = true → sl = []) →
    ∀ (σ : L2.St) (H : Hp) (s : Shared) (E : Env), GAt P w K mg base N qual st f cdv A outer L a gn go q ip sl σ H s E → ∀ (c : Code) (fs : List Frame) (Kc : Flow → Sem PySem.Fin) (J : Value → Sem PySem.Fin) (gd : Bool → Bool) (lv : List Value → List Value), FCk qual st f cdv A L c fs gd →
      ∀ (KK : GKo) (Hk : Hp), Kept Hk H → GKont P w K mg base N qual st f cdv A outer L a gn go Hk ip sl c fs Kc J KK → u E out KK → Sg (model P w) A (postQ P w K mg base A outer L a gn go q out) c ((tm (envOfC qual (defScope st) L f cdv)).wrap Kc J gd lv) fs s
structure GS1 (x : Stmt) (u : GXS) : Prop where
  run : GRun P w K mg base N qual st f cdv k b (fun env => exec x env) u
structure GSs (x : List Stmt) (u : GXS) : Prop where
  run : GRun P w K mg base N qual st f cdv k b (fun env => execs x env) u
/-- all that the words of a part of the body may lean on -/
def InGen (T : Cx → Par → Prop) : Prop := ∀ (cdv : Value) (L : Addr) (A : Around) (outer : List PySem.Env) (s : Shared) (H : Hp) (E : XK) (pn : List (Addr × Obj)) (p : Par), SitB true true (genX P w K mg base N qual st f cdv L A outer s H E pn) p k → (∀ n n' H H', p.SI n H → p.SI n' H' → p.SI n H') → (∀ i, p.pin i = none) → T (genX P w K mg base N qual st f cdv L A outer s H E pn) p
end
section
variable {P : Program} {w : World} {K : PySem.W.Frag} {mg : Str → Option Value} {base : Heap} {N : List Str} {qual : Str} {st : Stmt} {f : Addr} {cdv : Value} {k : Nat} {b : Bool} {A : Around} {outer : List PySem.Env} {L a : Addr} {gn : Nat} {go : Obj}
theorem par_ok {q : Sq} (Q : QOk K mg outer L a q) : q.par.Ok K mg := ⟨fun _ _ _ h _ _ => h, fun n n' x cl d B1 H1 H' σ st _ hx hs he hr => by
  have hc : n' = sx0 := hs
  subst hc
  exact Q.exc x cl d H' hx (all_of (st.ext.trans he).ext) (exrep_go (fun a z => bm_more he.up a (st.subc a z)) hr)⟩
theorem DynOk.sit (Dy : DynOk K mg base N qual st f cdv k A outer L a go) {q : Sq} (Q : QOk K mg outer L a q) : SitB true true (genX P w K mg base N qual st f cdv L A outer q.s0 q.H0 q.E [(a, go)]) q.par k :=
  sit_gen Dy.nd Dy.hr Dy.hg (par_ok Q) (fun _ _ _ _ h => h) rfl Dy.sm
theorem InGen.at {T : Cx → Par → Prop} (h : InGen P w K mg base N qual st f k T) (Dy : DynOk K mg base N qual st f cdv k A outer L a go) {q : Sq} (Q : QOk K mg outer L a q) : T (genX P w K mg base N qual st f cdv L A outer q.s0 q.H0 q.E [(a, go)]) q.par :=
  h cdv L A outer q.s0 q.H0 q.E [(a, go)] q.par (Dy.sit Q) (fun n n' H1 H2 (h1 : n = sx0) _ => h1) fun _ => rfl
theorem gs_plain {x : Stmt} {m : XS} (h : InGen P w K mg base N qual st f k fun X p => PSD X p x m) : GS1 P w K mg base N qual st f cdv k b x (gPlain m) := by
  refine ⟨fun A outer L a gn go Dy q out Q qx ip sl _ σ H s E g c fs Kc J gd lv fc KK Hk hk kk hu => ?_⟩
  obtain ⟨ts, a1, a2⟩ := (h.at Dy Q).ex
  obtain ⟨B, s1, r1⟩ := g.bd
  refine sg_wrap ?_
  rw [fc.over]
  have hu : m E sx0 (fun o _ => ∃ E', o = .nx E' ∧ KK E' out) (xpOf out) := hu
  rw [← qx.xp] at hu
  refine wpAny_mono (wpAny_fz (a1.run (ip ++ q.yp L) (frozen s) σ H { nx := fun σ' H' => ∃ E' B', St0 q.par sx0 B' H' ∧ EnvR K q.par sx0 B' H' σ' E' ∧ KK E' out ∧ Kept H H', rt := fun _ _ => False } (Inv.freeze g.inv)
    (a2 B H σ E sx0 _ _ s1 r1 hu (fun E' c' B' σ' H' m1 st1 t1 r1 => ?_) (fun d c' v H' m1 => ?_) (fun E' c' B' σ' H' m1 => ?_) (fun E' c' B' σ' H' m1 => ?_)))) (fun fl s' ⟨z, fz, sp⟩ => ?_) fun e s' ⟨z, fz, xe⟩ => kk.exc q out e s' Q qx (xe_thaw asleep_stay fz xe)
  · obtain ⟨E2, e, hK⟩ := m1
    cases e
    have hc : c' = sx0 := st1.si
    subst hc
    exact ⟨E', B', st1, r1, hK, t1.ext.imm⟩
  · obtain ⟨_, e, _⟩ := m1; cases e
  · obtain ⟨_, e, _⟩ := m1; cases e
  · obtain ⟨_, e, _⟩ := m1; cases e
  · cases fl with
    | next =>
      obtain ⟨σ', H', I', E', B', t1, t2, hK, hk2⟩ := sp
      exact kk.ok q out σ' H' s' E' Q qx ⟨Inv.thaw I' fz, ⟨B', t1, t2⟩, fun x hx => ⟨fz.kept (g.sl x hx).1 (g.sl x hx).2.1.stay, (g.sl x hx).2⟩, fz.kept g.run trivial, fun i x e h1 h2 h3 => fz.kept (g.oth i x e h1 h2 h3) h1, g.ipq⟩ (fun x o e i => hk2 x o (hk x o e i) i) hK
    | brk => obtain ⟨_, _, _, no⟩ := sp; exact no.elim
    | cont => obtain ⟨_, _, _, no⟩ := sp; exact no.elim
    | ret u => obtain ⟨_, _, _, _, _, no⟩ := sp; exact no.elim
theorem gss_nil : GSs P w K mg base N qual st f cdv k b [] gSkip := ⟨fun A outer L a gn go Dy q out Q qx ip sl _ σ H s E g c fs Kc J gd lv fc KK Hk hk kk hu => kk.ok q out σ H s E Q qx g hk hu⟩
theorem gss_cons {x : Stmt} {xs : List Stmt} {u v : GXS} (h1 : GS1 P w K mg base N qual st f cdv k b x u) (h2 : GSs P w K mg base N qual st f cdv k b xs v) : GSs P w K mg base N qual st f cdv k b (x :: xs) (gSeq u v) := by
  refine ⟨fun A outer L a gn go Dy q out Q qx ip sl hb σ H s E g c fs Kc J gd lv fc KK Hk hk kk hu => sg_execs_cons ?_⟩
  refine h1.run A outer L a gn go Dy q out Q qx ip sl hb σ H s E g c fs _ J gd lv fc _ Hk hk ⟨fun q' out' σ' H' s' E' Q' qx' g' hk' hK => ?_, kk.exc⟩ hu
  exact h2.run A outer L a gn go Dy q' out' Q' qx' ip sl hb σ' H' s' E' g' c fs Kc J gd lv fc KK Hk hk' kk hK
theorem gs_if {t : Expr} {b1 b2 : List Stmt} {pos : Pos} {m : XT} {u v : GXS} (h : InGen P w K mg base N qual st f k fun X p => PDT X p t m) (h1 : GSs P w K mg base N qual st f cdv k b b1 u) (h2 : GSs P w K mg base N qual st f cdv k b b2 v) :
    GS1 P w K mg base N qual st f cdv k b (.If t b1 b2 pos) (gIf m u v) := by
  refine ⟨fun A outer L a gn go Dy q out Q qx ip sl hb σ H s E g c fs Kc J gd lv fc KK Hk hk kk hu => sg_If ?_⟩
  obtain ⟨ts, a1, a2⟩ := (h.at Dy Q).ex
  obtain ⟨B, s1, r1⟩ := g.bd
  rw [fc.over]
  have hu : m E sx0 (fun v' _ => if v' = true then u E out KK else v E out KK) (xpOf out) := hu
  rw [← qx.xp] at hu
  refine wpAny_mono (wpAny_fz (a1.run (ip ++ q.yp L) (frozen s) σ H (fun v' H' => (if v' = true then u E out KK else v E out KK) ∧ Kept H H' ∧ ∃ B', St0 q.par sx0 B' H' ∧ EnvR K q.par sx0 B' H' σ E) (Inv.freeze g.inv)
    (a2 B H σ E sx0 _ _ s1 r1 hu fun v' c' H' m1 e1 si => ?_))) (fun v' s' ⟨z, fz, tp⟩ => ?_) fun e s' ⟨z, fz, xe⟩ => kk.exc q out e s' Q qx (xe_thaw asleep_stay fz xe)
  · have hc : c' = sx0 := si
    subst hc
    exact ⟨m1, e1.ext.imm, B, s1.go e1 si, r1.go s1 e1⟩
  · obtain ⟨H', I', hm, hk2, B', t1, t2⟩ := tp
    have hk' : Kept Hk H' := fun x o e i => hk2 x o (hk x o e i) i
    have g' : GAt P w K mg base N qual st f cdv A outer L a gn go q ip sl σ H' s' E := ⟨Inv.thaw I' fz, ⟨B', t1, t2⟩, fun x hx => ⟨fz.kept (g.sl x hx).1 (g.sl x hx).2.1.stay, (g.sl x hx).2⟩, fz.kept g.run trivial, fun i x e h1 h2 h3 => fz.kept (g.oth i x e h1 h2 h3) h1, g.ipq⟩
    cases v' with
    | true => exact h1.run A outer L a gn go Dy q out Q qx ip sl hb σ H' s' E g' c fs Kc J gd lv fc KK Hk hk' kk hm
    | false => exact h2.run A outer L a gn go Dy q out Q qx ip sl hb σ H' s' E g' c fs Kc J gd lv fc KK Hk hk' kk hm
/-- the generator falls asleep here, and goes on when it is woken -/
theorem post_susp (Dy : DynOk K mg base N qual st f cdv k A outer L a go) {q : Sq} (Q : QOk K mg outer L a q) {ip : List (Addr × Obj)} {sl : List (Nat × GenState)} {σ : L2.St} {H : Hp} {s : Shared} {E : Env} (g : GAt P w K mg base N qual st f cdv A outer L a gn go q ip sl σ H s E) (fl : flatE E = true)
    {x : D} {xs : List D} {v' : V} {v : Value} (hv : RelV v' v) (hx : flat x = true) (rx : Rep K (fun _ => False) H v' x) {gd : Bool} {l : List Value} {kr : Resume → Sem PySem.Fin} {c : Code} {p : Pos} {fs : List Frame} (hgd : (gd || fs.any Frame.guarded) = false) (hsp : splitAtGen fs = none)
    (hk : ∀ q' s3 H3, Kept H H3 → QOk K mg outer L a q' → QX q' (.inl xs) → GAt P w K mg base N qual st f cdv A outer L a gn go q' ip sl σ H3 s3 E → Sg (model P w) A (postQ P w K mg base A outer L a gn go q' (.inl xs)) c (kr (.send .none)) fs s3) :
    postQ P w K mg base A outer L a gn go q (.inl (x :: xs)) (.susp v gd l kr c p fs) s := by
  obtain ⟨oL, hoL, sp⟩ := g.slp Dy Q
  refine ⟨hgd, hsp, v', H, _, sl, hv, hx, rx, g.endOk Dy Q, sp, fun s3 H3 W => ?_⟩
  exact hk (reSq L s3 H3 ((L, oL) :: (a, go) :: ip) sl) s3 H3 W.kept (g.reQ Dy Q W) ⟨rfl, fun _ _ => rfl⟩ (g.wake Dy Q fl hoL W)
theorem gs_yield {e : Expr} {yp pos : Pos} {m : XE} (h : InGen P w K mg base N qual st f k fun X p => PD X p e m) (hco : (defScope st).isCoroutine = false := by rfl) (hi : ∀ L, interactive (envOfC qual (defScope st) L f cdv) = false := by intro _; rfl) :
    GS1 P w K mg base N qual st f cdv k b (.Expr (.Yield (some e) yp) pos) (gYield m) := by
  refine ⟨fun A outer L a gn go Dy q out Q qx ip sl hb σ H s E g c fs Kc J gd lv fc KK Hk hk kk hu => sg_Expr_Yield fc.split ?_ hco (hi L)⟩
  obtain ⟨ts, a1, a2⟩ := (h.at Dy Q).ex
  obtain ⟨B, s1, r1⟩ := g.bd
  rw [fc.over]
  have hu : m E sx0 (fun d _ => ∃ xs, out = .inl (d :: xs) ∧ flat d = true ∧ flatE E = true ∧ KK E (.inl xs)) (xpOf out) := hu
  rw [← qx.xp] at hu
  refine wpAny_mono (wpAny_fz (a1.run (ip ++ q.yp L) (frozen s) σ H (fun v' H' => ∃ d xs, out = .inl (d :: xs) ∧ flat d = true ∧ flatE E = true ∧ KK E (.inl xs) ∧ Rep K (fun _ => False) H' v' d ∧ ∃ B', St0 q.par sx0 B' H' ∧ EnvR K q.par sx0 B' H' σ E ∧ Kept H H') (Inv.freeze g.inv)
    (a2 B H σ E sx0 _ _ s1 r1 hu fun d c' v H' m1 e1 si rd => ?_))) (fun v s' ⟨z, fz, ep⟩ => ?_) fun e s' ⟨z, fz, xe⟩ => kk.exc q out e s' Q qx (xe_thaw asleep_stay fz xe)
  · obtain ⟨xs, h1, h2, h3, h4⟩ := m1
    have hc : c' = sx0 := si
    subst hc
    exact ⟨d, xs, h1, h2, h3, h4, rd.flat h2, B, s1.go e1 si, r1.go s1 e1, e1.ext.imm⟩
  · obtain ⟨v', H', I', rv, d, xs, rfl, h2, h3, h4, rd, B', t1, t2, hk2⟩ := ep
    have g' : GAt P w K mg base N qual st f cdv A outer L a gn go q ip sl σ H' s' E := ⟨Inv.thaw I' fz, ⟨B', t1, t2⟩, fun x hx => ⟨fz.kept (g.sl x hx).1 (g.sl x hx).2.1.stay, (g.sl x hx).2⟩, fz.kept g.run trivial, fun i x e h1 h2 h3 => fz.kept (g.oth i x e h1 h2 h3) h1, g.ipq⟩
    intro kr gg l p hgg hkr
    refine post_susp Dy Q g' h3 rv h2 rd (by rw [hgg, fc.gd, fc.guard]; rfl) fc.split fun q' s3 H3 hk3 Q' qx' g3 => ?_
    exact hkr _ s3 (kk.ok q' (.inl xs) σ H3 s3 E Q' qx' g3 (fun x o e i => hk3 x o (hk2 x o (hk x o e i) i) i) h4)
end
end DL
end
section
namespace DL
open PySem PySem.Spec PyProof.Rows L2 _root_.GenW
/-- what is walked hands out data without lists, whenever -/
structure WalkF (K : PySem.W.Frag) (Hs : Hp) (J : It) (ds : List D) : Prop where
  ex : ∃ G : Hp → Prop, G Hs ∧ (∀ H1, Kept Hs H1 → G H1) ∧
    Walk J ds.length G (fun i H x H' => All H H' ∧ ∃ d, ds[i]? = some d ∧ flat d = true ∧ (Kept Hs H → Rep K (fun _ => False) H' x d))
structure PDK (X : Cx) (p : Par) (tg e : Expr) (m : XA) : Prop where
  ex : ∃ wi, PI X tg e wi ∧ ∀ (B : Addr → Prop) (H : Hp) (σ : L2.St) (E : Env) (c : Sx) (P : List D → Sx → Prop) (R : It → Hp → Prop), St0 p c B H → EnvR X.K p c B H σ E → m E c P p.XP →
    (∀ ds c' J H', P ds c' → Ev p c H c' H' → p.SI c' H' → WalkF X.K H' J ds → R J H') → wi σ H R
theorem Kept.refl {H : Hp} : Kept H H := fun _ _ e _ => e
theorem Kept.trans {H H1 H2 : Hp} (a : Kept H H1) (b : Kept H1 H2) : Kept H H2 := fun x o e i => b x o (a x o e i) i
theorem All.kept {H H1 : Hp} (a : All H H1) : Kept H H1 := fun x o e _ => a x o e
section
variable {X : Cx} {p : Par} {k : Nat} {K : PySem.W.Frag} {tg : Expr}
theorem walkF_rng {H : Hp} {a b : Int} : WalkF K H (Itr a (b - a).toNat) (rng a b) := by
  refine ⟨fun _ => True, True.intro, fun _ _ => True.intro, ?_⟩
  rw [rng_length]
  refine walk_range.mono (fun _ h => h) fun i H1 x H' hi hg y => ⟨fun b o e => by rw [y.1]; exact e, _, rng_get a b hi, rfl, fun _ => ?_⟩
  rw [y.2]
  exact .int _
theorem pf_rng2 {a b : Expr} {m n : XE} {pn pos : Pos} (ha : PD X p a m) (hb : PD X p b n) (hm : X.mg "range" = none) (hg : Gl X "range" := by rfl) (hs : starEach [a, b] X.env = [(false, eval a X.env), (false, eval b X.env)] := by rfl) (hs2 : starEach [b] X.env = [(false, eval b X.env)] := by rfl) :
    PDK X p tg (.Call (.Name "range" pn) [a, b] [] pos) (iRng2 m n) := by
  obtain ⟨ta, a1, a2⟩ := ha.ex
  obtain ⟨tb, b1, b2⟩ := hb.ex
  refine ⟨_, pi_range2 hg hm (pa_cons a1 (pa_cons b1 pa_nil (by rw [hs2] <;> rfl)) (by rw [hs, hs2] <;> rfl)) hs hs2, fun B H σ E c P R st r m k => ?_⟩
  refine a2 B H σ E _ _ _ st r m fun d c1 v H1 m1 e1 s1 r1 => ?_
  refine b2 B H1 σ E _ _ _ (st.go e1 s1) (r.go st e1) m1 fun d2 c2' v2 H2 m2 e2 s2 r2 => ?_
  cases r1 with
  | int n =>
    cases r2 with
    | int n2 =>
      obtain ⟨⟨h1, h2, h3, h4⟩, m2⟩ := m2
      exact ⟨n, n2, rfl, ⟨by omega, by omega, by omega, by omega⟩, k _ _ _ H2 m2 (e1.trans e2) s2 walkF_rng⟩
    | _ => exact m2.elim
  | _ => exact m2.elim
end
section
variable {P : Program} {w : World} {K : PySem.W.Frag} {mg : Str → Option Value} {base : Heap} {N : List Str} {qual : Str} {st : Stmt} {f : Addr} {cdv : Value} {k : Nat} {b : Bool} {A : Around} {outer : List PySem.Env} {L a : Addr} {gn : Nat} {go : Obj}
theorem FCk.loop {c c' : Code} {fs : List Frame} {gd : Bool → Bool} {kk : Result → Sem PySem.Fin} {l kp : List Value} {p : Pos} (g : FCk qual st f cdv A L c fs gd) (hw : c'.weight = 0) (hu : c'.cUnits = 0) :
    FCk qual st f cdv A L c' (.ret kk none (gd false) l c p kp :: fs) id where
  over := (over_loop hw hu).trans g.over
  split := by
    show (splitAtGen fs).map _ = none
    rw [g.split]; rfl
  guard := by
    show (gd false || fs.any Frame.guarded) = false
    rw [g.gd, g.guard]; rfl
  gd := rfl
/-- an exception leaves the loop's code -/
theorem sg_cameBack {M : Model} {A0 A : Around} {T : End → Shared → Prop} {c : Code} {fs : List Frame} {K : Flow → Sem PySem.Fin} {J : Value → Sem PySem.Fin} {gd : Bool → Bool} {lv : List Value → List Value} {env : PySem.Env} {e : Value} {s : Shared} {xe : Value → Shared → Prop}
    (ho : A.over c fs = A0) (h : cameBackBy M A0 env xe e s) (hk : ∀ x s', xe x s' → Sg M A T c (J x) fs s') :
    Sg M A T c (((Sem.raise e : Sem Flow).onRaise (cameBack env)).wrap K J gd lv) fs s := by
  show Sg _ _ _ _ (((cameBack env e).bind fun _ => (Sem.raise e : Sem Flow)).wrap K J gd lv) _ _
  rw [Sem.bind_eq_wrap, Sem.wrap_wrap]
  refine sg_wrap ?_
  rw [ho]
  exact wpAny_mono h (fun _ s' hx => hk e s' hx) fun x s' hx => hk x s' hx
theorem GAt.pins {q : Sq} {ip : List (Addr × Obj)} {sl : List (Nat × GenState)} {σ : L2.St} {H : Hp} {s : Shared} {E : Env} {more : List (Addr × Obj)} (h : GAt P w K mg base N qual st f cdv A outer L a gn go q (ip ++ more) sl σ H s E) : GAt P w K mg base N qual st f cdv A outer L a gn go q ip sl σ H s E :=
  ⟨h.inv.pins_of fun p hp => h.inv.pin p (List.mem_append_right _ ((List.mem_append.mp hp).elim (fun z => List.mem_append_left _ (List.mem_append_left _ z)) fun z => List.mem_append_right _ z)), h.bd, h.sl, h.run, h.oth, fun p hp => h.ipq p (List.mem_append_left _ hp)⟩
theorem gs_for {tg iter : Expr} {body : List Stmt} {m : XA} {t : Tg} {u : GXS} {pos : Pos} (hi : InGen P w K mg base N qual st f k fun X p => PDK X p tg iter m) (hg : InGen P w K mg base N qual st f k fun X p => PG X tg (gOf X.K t)) (hb : GSs P w K mg base N qual st f cdv k b body u)
    (hs : ∀ L x, foldedSetIterable iter (envOfC qual (defScope st) L f cdv) x = pure x := by intro _ _; rfl) : GS1 P w K mg base N qual st f cdv k b (.For tg iter body [] pos) (gFor m t u) := by
  refine ⟨fun A outer L a gn go Dy q out Q qx ip sl hsl σ H s E g c fs Kc J gd lv fc KK Hk hk kk hu => sg_For ?_ (hs L)⟩
  obtain ⟨wi, a1, a2⟩ := (hi.at Dy Q).ex
  obtain ⟨B, s1, r1⟩ := g.bd
  rw [fc.over]
  have hu : m E sx0 (fun ds _ => gLoop t u ds E out KK) (xpOf out) := hu
  rw [← qx.xp] at hu
  have run := a1.run (ip ++ q.yp L) (frozen s) σ H (fun J H' => ∃ ds, Kept H H' ∧ gLoop t u ds E out KK ∧ WalkF K H' J ds ∧ ∃ B', St0 q.par sx0 B' H' ∧ EnvR K q.par sx0 B' H' σ E) (Inv.freeze g.inv)
    (a2 B H σ E sx0 _ _ s1 r1 hu fun ds c' J H' m1 e1 si wk => by
      have hc : c' = sx0 := si
      subst hc
      exact ⟨ds, e1.ext.imm, m1, wk, B, s1.go e1 si, r1.go s1 e1⟩)
  refine wpAny_mono (wpAny_fz run) (fun v s1 ⟨z1, fz1, h1⟩ => ?_) fun e s' ⟨z, fz, xe⟩ => kk.exc q out e s' Q qx (xe_thaw asleep_stay fz xe)
  refine wpAny_mono (wpAny_thaw asleep_stay fz1 h1) (fun itv s2 ⟨z2, fz2, h2⟩ p => ?_) fun e s' ⟨z, fz, xe⟩ => kk.exc q out e s' Q qx (xe_thaw asleep_stay fz xe)
  obtain ⟨it, fp, tn, It', H2, rfl, I2, T, st2, f2, ds, hk2, hl, ⟨G, gH, gK, wk⟩, B2, t2, r2⟩ := h2
  have gl := fun (kx : Result → Sem PySem.Fin) => fc.loop (kk := kx) (c' := .forLoop tg (.ref it) body [] (envOfC qual (defScope st) L f cdv)) (l := lv []) (kp := []) (p := p) rfl rfl
  have g2 : GAt P w K mg base N qual st f cdv A outer L a gn go q ip sl σ H2 s2 E := ⟨Inv.thaw I2 fz2, ⟨B2, t2, r2⟩, fun x hx => ⟨fz2.kept (g.sl x hx).1 (g.sl x hx).2.1.stay, (g.sl x hx).2⟩, fz2.kept g.run trivial, fun i x e h1 h2 h3 => fz2.kept (g.oth i x e h1 h2 h3) h1, g.ipq⟩
  rw [fz2.heap] at st2
  have hk2 := hk.trans hk2
  have fpre : ∀ (q' : Sq) (σ7 : L2.St) (H7 : Hp) (s7 : Shared) (E7 : Env) (h5 : Heap), QOk K mg outer L a q' → GAt P w K mg base N qual st f cdv A outer L a gn go q' (ip ++ pinsAt fp h5) sl σ7 H7 s7 E7 → (∀ b ∈ fp, ∃ o, h5.get? b = some o) →
      ∀ b ∈ fp, FpOk (genX P w K mg base N qual st f cdv L A outer q'.s0 q'.H0 q'.E [(a, go)]) (ip ++ q'.yp L) H7 b := fun q' σ7 H7 s7 E7 h5 Q' g7 ho b hb => by
    obtain ⟨o, e⟩ := ho b hb
    have hm := mem_pinsAt hb e
    obtain ⟨p1, p2, p3, p4, p5⟩ := g7.inv.pin (b, o) (List.mem_append_right _ (List.mem_append_left _ (List.mem_append_right _ hm)))
    obtain ⟨n1, n2⟩ := g7.ipq (b, o) (List.mem_append_right _ hm)
    obtain ⟨_, _, _, _, _, f6⟩ := f2 b hb
    refine ⟨p2, p3, p4, .inr (by rw [Q'.sz]; exact n1), fun x c e => ?_, fun p hp => ?_⟩
    · have e : (cellsFrom (L + 1) (defScope st).names []).lookup x = some c := e
      rw [Dy.cells] at e
      cases e
    · rcases List.mem_append.mp hp with hp | hp
      · exact f6 p (List.mem_append_left _ hp)
      rcases List.mem_append.mp hp with hp | hp
      · exact f6 p (List.mem_append_right _ (List.mem_append_left _ hp))
      · intro z
        obtain ⟨y1, y2, y3, y4, y5⟩ := Sq.of_yp hp
        rw [z] at y1 y4
        rcases n2 with z | z | ⟨v, o2, z1, z2⟩
        · exact y4 z
        · rw [y1] at z; cases z
        · rw [y1] at z1
          cases z1
          exact y5 v z2
  have loop : ∀ (n i : Nat) (q : Sq) (out : Outc) (s : Shared) (σ : L2.St) (H : Hp) (E : Env), n = ds.length - i → i ≤ ds.length → QOk K mg outer L a q → QX q out → GAt P w K mg base N qual st f cdv A outer L a gn go q ip sl σ H s E → Kept H2 H → gLoop t u (ds.drop i) E out KK → tn i s.heap →
      (∀ b ∈ fp, FpOk (genX P w K mg base N qual st f cdv L A outer q.s0 q.H0 q.E [(a, go)]) (ip ++ q.yp L) H b) →
      Sg (model P w) A (postQ P w K mg base A outer L a gn go q out) (.forLoop tg (.ref it) body [] (envOfC qual (defScope st) L f cdv)) ((model P w).den (.forLoop tg (.ref it) body [] (envOfC qual (defScope st) L f cdv)))
        (.ret (fun r => ((match r with | .ok f => (.pure f : Sem Flow) | .error e => .raise e).onRaise (cameBack (envOfC qual (defScope st) L f cdv))).wrap Kc J gd lv) none (gd false) (lv []) c p [] :: fs) s := by
    intro n
    induction n with
    | zero => ?_
    | succ n ih => ?_
    all_goals intro i q out s σ H E hn hi Q qx g kH hl stt fr
    all_goals
      have ee : ∀ (q : Sq) (out : Outc) (x : Value) (s' : Shared), QOk K mg outer L a q → QX q out → (genX P w K mg base N qual st f cdv L A outer q.s0 q.H0 q.E [(a, go)]).xe x s' → Sg (model P w) A (postQ P w K mg base A outer L a gn go q out) (.forLoop tg (.ref it) body [] (envOfC qual (defScope st) L f cdv))
          (NF (envOfC qual (defScope st) L f cdv) x)
          (.ret (fun r => ((match r with | .ok f => (.pure f : Sem Flow) | .error e => .raise e).onRaise (cameBack (envOfC qual (defScope st) L f cdv))).wrap Kc J gd lv) none (gd false) (lv []) c p [] :: fs) s' := fun q out x s' Q qx hx => by
        refine sg_wrap ?_
        rw [(gl _).over]
        refine wpAny_bind (wpAny_mono ((Dy.sit (P := P) (w := w) Q).po x s' hx) (fun _ s'' hcb => wpAny_theTreesLotGoes ?_) fun y s'' hcb => ?_)
        · exact sg_leaf (.error x) (sg_cameBack fc.over hcb fun x s' hx => kk.exc q out x s' Q qx hx)
        · exact sg_leaf (.error y) (sg_cameBack fc.over hcb fun x s' hx => kk.exc q out x s' Q qx hx)
      refine sg_forLoop ?_
      rw [(gl _).over]
    · have hi' : i = ds.length := by omega
      subst hi'
      rw [List.drop_length] at hl
      refine wpAny_mono (wpAny_fz (T.done (genX P w K mg base N qual st f cdv L A outer q.s0 q.H0 q.E [(a, go)]) rfl rfl rfl rfl ds.length _ (frozen s) σ H _ (Inv.freeze g.inv) fr stt (wk.stops H (gK H kH)))) (fun r' s3 ⟨z3, fz3, hr, I3⟩ => ?_) fun x s' ⟨z, fz, xe⟩ => ee q out x s' Q qx (xe_thaw asleep_stay fz xe)
      subst hr
      refine sg_again rfl ?_
      exact sg_leaf (.ok .next) (kk.ok q out σ H s3 E Q qx ⟨Inv.thaw I3 fz3, g.bd, fun x hx => ⟨fz3.kept (g.sl x hx).1 (g.sl x hx).2.1.stay, (g.sl x hx).2⟩, fz3.kept g.run trivial, fun i x e h1 h2 h3 => fz3.kept (g.oth i x e h1 h2 h3) h1, g.ipq⟩ (hk2.trans kH) hl)
    · have hi' : i < ds.length := by omega
      refine wpAny_mono (wpAny_fz (T.item (genX P w K mg base N qual st f cdv L A outer q.s0 q.H0 q.E [(a, go)]) rfl rfl rfl rfl i _ (frozen s) σ H _ (Inv.freeze g.inv) fr stt (wk.goes i H hi' (gK H kH)))) (fun r' s3 ⟨z3, fz3, uu, hr, h4⟩ => ?_) fun x s' ⟨z, fz, xe⟩ => ee q out x s' Q qx (xe_thaw asleep_stay fz xe)
      subst hr
      refine wpAny_mono (wpAny_thaw asleep_stay fz3 h4) (fun _ s5 ⟨z5, fz5, h5⟩ => ?_) fun x s' ⟨z, fz, xe⟩ => ee q out x s' Q qx (xe_thaw asleep_stay fz xe)
      obtain ⟨x, H5, I5, r5, y5, st5, fr5⟩ := h5
      obtain ⟨al, d, hd, fd, rd⟩ := wk.yields i H x H5 hi' (gK H kH) y5
      have rd := rd kH
      obtain ⟨B', t1, r1⟩ := g.bd
      have hdr : ds.drop i = d :: ds.drop (i + 1) := by
        obtain ⟨hl2, e⟩ := List.getElem?_eq_some_iff.mp hd
        rw [List.drop_eq_getElem_cons hl2, e]
      rw [hdr] at hl
      obtain ⟨E1, hp, hbody⟩ := hl
      have t5 : St0 q.par sx0 B' H5 := t1.go al.ev (t1.all (par_ok Q) al)
      have f5 : ∀ b ∈ fp, FpOk (genX P w K mg base N qual st f cdv L A outer q.s0 q.H0 q.E [(a, go)]) (ip ++ q.yp L) H5 b := fun b hb => let ⟨_, g1, g2, g3, g4, g5⟩ := fr b hb; ⟨fr5 b hb, g1, g2, g3, g4, g5⟩
      have ho5 : ∀ b ∈ fp, ∃ o, z5.heap.get? b = some o := fun b hb => let ⟨o, e, _⟩ := T.obj _ _ st5 b hb; ⟨o, e⟩
      have I5' := I5.pinned f5 (T.obj _ _ st5)
      have put := ((hg.at (P := P) (w := w) Dy Q).run _ z5 σ H5 x uu (fun σ6 H6 => H6 = H5 ∧ EnvR K q.par sx0 B' H5 σ6 E1) I5' r5 (gOf_put rfl (r1.go t1 al.ev) (rd.flat fd) hp _ fun σ6 e6 _ _ => ⟨rfl, e6⟩))
      refine wpAny_mono (wpAny_thaw asleep_stay fz5 put) (fun _ s6 ⟨z6, fz6, σ6, H6, I6, e6, r6⟩ => ?_) fun x s' ⟨z, fz, xe⟩ => ee q out x s' Q qx (xe_thaw asleep_stay fz xe)
      subst e6
      have g6 : GAt P w K mg base N qual st f cdv A outer L a gn go q (ip ++ pinsAt fp z5.heap) sl σ6 H6 s6 E1 := by
        refine ⟨Inv.thaw (I6.pins_of fun p hp => I6.pin p (List.mem_append_right _ ?_)) fz6, ⟨B', t5, r6⟩, fun x hx => ⟨fz6.kept (g.sl x hx).1 (g.sl x hx).2.1.stay, (g.sl x hx).2⟩, fz6.kept g.run trivial, fun i x e h1 h2 h3 => fz6.kept (g.oth i x e h1 h2 h3) h1, fun p hp => ?_⟩
        · rcases List.mem_append.mp hp with hp | hp
          · rcases List.mem_append.mp hp with hp | hp
            · exact List.mem_append_left _ (List.mem_append_left _ hp)
            · exact List.mem_append_right _ hp
          · exact List.mem_append_left _ (List.mem_append_right _ hp)
        · rcases List.mem_append.mp hp with hp | hp
          · exact g.ipq p hp
          · exact g.nwF Q.sz (fr p.1 (of_pinsAt hp).1)
      refine hb.run A outer L a gn go Dy q out Q qx (ip ++ pinsAt fp z5.heap) sl hsl σ6 H6 s6 E1 g6 _ _ _ _ id id (gl _) _ H2 (kH.trans al.kept) ⟨fun q' out' σ7 H7 s7 E7 Q' qx' g7 hk7 hK => ?_, fun q' out' x s7 Q' qx' hx => ee q' out' x s7 Q' qx' hx⟩ hbody
      have at7 : ∀ b ∈ fp, ∀ o, z5.heap.get? b = some o → s7.heap.get? b = some o := fun b hb o e =>
        (g7.inv.pin (b, o) (List.mem_append_right _ (List.mem_append_left _ (List.mem_append_right _ (mem_pinsAt hb e))))).1
      exact sg_again rfl (ih (i + 1) q' out' s7 σ7 H7 E7 (by omega) (by omega) Q' qx' g7.pins hk7 hK (T.keep _ _ _ st5 at7) (fpre q' σ7 H7 s7 E7 z5.heap Q' g7 ho5))
  exact loop ds.length 0 q out s2 σ H2 E (by simp) (Nat.zero_le _) Q qx g2 Kept.refl hl st2 f2
end
end DL
end
section
namespace DL
open PySem PySem.Spec PyProof.Rows L2 _root_.GenW
theorem mem_rngs {n m b : Nat} (h : n ≤ m) : b ∈ List.range' n (m - n) ↔ n ≤ b ∧ b < m := by
  rw [List.mem_range'_1]
  omega
theorem cells_none {n : Addr} : ∀ {l : List (Str × NameKind)} {acc : List (Str × Addr)}, (∀ y ∈ l, y.2 ≠ .cell) → cellsFrom n l acc = acc := by
  intro l
  induction l with
  | nil => intro acc h; rfl
  | cons y l ih =>
    intro acc h
    obtain ⟨x, kd⟩ := y
    have h1 := h (x, kd) List.mem_cons_self
    have h2 : ∀ y ∈ l, y.2 ≠ .cell := fun y hy => h y (List.mem_cons_of_mem _ hy)
    unfold cellsFrom
    cases kd <;> first | exact ih h2 | exact absurd rfl h1
/-- the stretch from the call on -/
def firstQ (s : Shared) (H : Hp) (EX : XK) (B : Addr → Prop) (out : Outc) (s2 : Shared) (n : Nat) : Sq :=
  ⟨s, H, (match out with | .inl _ => fun _ _ _ => False | .inr _ => EX), B, xpOf out, s2, List.range' s.heap.objs.size (n - s.heap.objs.size), []⟩
/-- what a call of a generator def gives -/
structure GMadeN (P : Program) (w : World) (K : PySem.W.Frag) (mg : Str → Option Value) (base : Heap) (k : Nat) (outer : List PySem.Env) (s : Shared) (H : Hp) (B : Addr → Prop) (out : Outc) (EX : XK) (u : Value) (s' : Shared) : Prop where
  ex : ∃ (a : Addr) (gn : Nat) (go : Obj) (c : Code) (nm qn : Value), u = .ref a ∧ s.heap.objs.size < a ∧ a < s'.heap.objs.size ∧ s'.heap.get? a = some go ∧ go.cls = .type "generator" ∧ go.data = .fields #[.int gn 0, nm, qn] ∧ go.slots = #[] ∧
    s'.gens[gn]? = some (.fresh c) ∧ s.gens.size ≤ gn ∧ s'.os = s.os ∧ AllBare s'.gens ∧ s'.heap.NoLimit ∧ (∀ b o, s.heap.get? b = some o → s'.heap.get? b = some o) ∧ (∀ (g : Nat) (x : GenState), s.gens[g]? = some x → s'.gens[g]? = some x) ∧
    ∀ (A : Around) (s2 : Shared), RoomB true k A → A.guards = some [] → A.frames = some outer → (∀ b o, s'.heap.get? b = some o → s2.heap.get? b = some o) → s2.os = s.os → AllBare s2.gens → s2.gens[gn]? = some .running →
      Sg (model P w) A (postQ P w K mg base A outer s.heap.objs.size a gn go (firstQ s H EX B out s2 s'.heap.objs.size) out) c ((model P w).den c) [] s2
abbrev GSp := List D → Outc → Prop
def gFn (np n : Nat) (u : GXS) : GSp := fun ds out => ds.length = np ∧ u (DL.start n (ds.map .val)) out fun _ o => o = .inl []
structure GFnN (P : Program) (w : World) (K : PySem.W.Frag) (mg : Str → Option Value) (base : Heap) (k : Nat) (f : Addr) (fd : FuncData) (ps : List Str) (sp : GSp) : Prop where
  len : ∀ ds out, sp ds out → ds.length = ps.length
  run : ∀ (A : Around) (outer : List PySem.Env) (s : Shared) (H : Hp) (args : Args) (us : List Value) (vs : List V) (ds : List D) (B : Addr → Prop) (out : Outc) (EX : XK), RoomB true k A → Env0 P w K mg base A outer s H → BindsTo s fd args (ps.zip us) → Vals vs us → (∀ a, B a → H a ≠ none) → Reps K B H vs ds → sp ds out →
    (∀ x cl dd H', out = .inr x → All H H' → ExRep K mg B H' x cl dd → EX cl dd H') →
    codeAny (model P w) A (.call (.ref f) args) (fun r s' => match r with | .ok (.ret u) => GMadeN P w K mg base k outer s H B out EX u s' | _ => False) s
theorem GFnN.mono {P : Program} {w : World} {K : PySem.W.Frag} {mg : Str → Option Value} {base : Heap} {j k : Nat} {f : Addr} {fd : FuncData} {ps : List Str} {sp : GSp} (F : GFnN P w K mg base j f fd ps sp) (h : j ≤ k) : GFnN P w K mg base k f fd ps sp := by
  refine ⟨F.len, fun A outer s H args us vs ds B out EX hr e0 hb rv trk rs hsp he => codeAny_mono (F.run A outer s H args us vs ds B out EX (hr.mono h) e0 hb rv trk rs hsp he) fun r s' q => ?_⟩
  match r, q with
  | .ok (.ret u), q =>
    obtain ⟨a, gn, go, c, nm, qn, h1, h2, h3, h4, h5, h6, h7, h8, h9, h10, h11, h12, h13, h15, h14⟩ := q.ex
    exact ⟨a, gn, go, c, nm, qn, h1, h2, h3, h4, h5, h6, h7, h8, h9, h10, h11, h12, h13, h15, fun A s2 hr => h14 A s2 (hr.mono h)⟩
section
variable {P : Program} {w : World} {K : PySem.W.Frag} {mg : Str → Option Value} {base : Heap} {N ps : List Str} {x qual : Str} {st : Stmt} {f : Addr} {k : Nat} {b : Bool}
/-- THE RULE: a generator def, by its body's words -/
theorem gfnN_of (sm : HasSm base) {fd : FuncData} (F : FnP K x qual st f fd) (S : GnScope N ps (defScope st)) {u : GXS} (hbody : ∀ cdv, GSs P w K mg base N qual st f cdv k b (defBody st) u) : GFnN P w K mg base (k + 1) f fd ps (gFn ps.length N.length u) := by
  obtain ⟨oc, od, dV, kV, doc, pm, an, cdv, ct, osl, rfl, lk, hcd, _, _⟩ := F.ex
  have GS0 : GScope N ps (defScope st) := ⟨S.kind, S.co, S.gen, S.nd, S.pre, fun x hx => .inl (S.par x hx), fun y hy => (S.nofree y hy).1⟩
  refine ⟨fun ds out h => h.1, fun A outer s H args us vs ds B out EX hr e0 hb rv trk rs hsp hex => ?_⟩
  have hlv : vs.length = ps.length := rs.length.trans hsp.1
  have KX : K.In s.heap := e0.mod.kin.keeps fun b o e => (e0.bs b o e).1
  have lim : s.heap.NoLimit := e0.mod.nolimit.keeps fun b o e => (e0.bs b o e).1
  have hkind : ∀ y ∈ ps.zip us, (defScope st).names.lookup y.1 = some .local ∨ ((defScope st).names.lookup y.1 = some .cell ∧ ((cellsFrom (s.heap.objs.size + 1) (defScope st).names []).lookup y.1).isSome = true) := fun ⟨n, v⟩ hy => .inl (S.par n (List.of_mem_zip hy).1)
  refine codeAny_call_generator hr.depth (KX _ _ lk) rfl S.co S.gen rfl (PySem.W.codeRec_of KX hcd) (hb _ _ _ _ ?_)
  refine wpAny_newFunctionEnv_cells S.kind hkind fun env he s1 en => ?_
  subst he
  have lim1 : s1.heap.NoLimit := lim.keeps en.toInCall.keep
  refine ⟨lim1, ?_⟩
  obtain ⟨h1, tk, es1, hk1⟩ := en.done
  have os1 : s1.os = s.os := by rw [es1]
  have gen1 : s1.gens = s.gens := by rw [es1]
  have lt1 : s.heap.objs.size < s1.heap.objs.size := en.toInCall.ns.lt
  have kp1 : ∀ b o, s.heap.get? b = some o → s1.heap.get? b = some o := en.toInCall.keep
  have hcells : cellsFrom (s.heap.objs.size + 1) (defScope st).names [] = [] := cells_none fun y hy => (S.nofree y hy).2
  have main : ∀ (go : Obj) (nm qn : Value) (tk2 : Nat), go.cls = .type "generator" → go.data = .fields #[.int s1.gens.size 0, nm, qn] → go.slots = #[] → (∀ h : Heap, (h.push go).get? h.objs.size = some go) →
      GMadeN P w K mg base (k + 1) outer s H B out EX (.ref s1.heap.objs.size) { s1 with gens := s1.gens.push (.fresh (.func (defBody st) (envOfC qual (defScope st) s.heap.objs.size f cdv))), toks := tk2, heap := s1.heap.push go } := by
    intro go nm qn tk2 hgc hgd0 hgs hgp
    have hpushed : (s1.heap.push go).get? s1.heap.objs.size = some go := hgp _
    have hgsz : (s1.heap.push go).objs.size = s1.heap.objs.size + 1 := Heap.size_push ..
    refine ⟨s1.heap.objs.size, s1.gens.size, go, _, nm, qn, rfl, lt1, by show _ < (s1.heap.push go).objs.size; rw [hgsz]; exact Nat.lt_succ_self _, hpushed, hgc, hgd0, hgs, Array.getElem?_push_size .., by rw [gen1]; exact Nat.le_refl _, os1,
      AllBare.push (by rw [gen1]; exact e0.bare) rfl, lim1.keeps fun b o e => Heap.get?_push_of_some _ e, fun b o e => Heap.get?_push_of_some _ (kp1 b o e), fun g x e => ?_, ?_⟩
    · show (s1.gens.push _)[g]? = _
      rw [Array.getElem?_push, gen1, if_neg (Nat.ne_of_lt (Array.getElem?_eq_some_iff.mp e).1)]
      exact e
    intro Aw s2 hrw hgw hfr hk2 hos hba hrun
    have e0w : Env0 P w K mg base Aw outer s H := ⟨hfr, e0.mod, e0.bs, e0.bsz, e0.funs, e0.frf, e0.hok, e0.bare⟩
    have I1 := inv_startG (E := EX) GS0 (hrw.hd_ rfl) e0w hlv rv en
    have kp2 : ∀ b o, s1.heap.get? b = some o → s2.heap.get? b = some o := fun b o e => hk2 b o (Heap.get?_push_of_some _ e)
    have I2 := I1.call' (s' := s2) (ch := []) (hos.trans os1.symm) (Un.kept kp2) (I1.hok.kept kp2) hba fun b z => by simp at z
    have hea : s2.heap.get? s1.heap.objs.size = some go := hk2 s1.heap.objs.size go hpushed
    have hgd : ∀ v, go.data ≠ .cell v := fun v q => by rw [hgd0] at q; cases q
    have frL : ∀ b ∈ frs outer, b < s.heap.objs.size := fun b hb => by
      obtain ⟨_, o, ho, _⟩ := e0.funs.mem hb
      exact Heap.lt_size ho
    have Dy : DynOk K mg base N qual st f cdv k Aw outer s.heap.objs.size s1.heap.objs.size go :=
      ⟨hrw.deeper _, hgw, hfr, sm, e0.mod, S.nd, S.kind, S.nofree, hcells, frL, lt1, hgd, e0.bsz⟩
    have mem : ∀ {b : Addr}, b ∈ List.range' s.heap.objs.size ((s1.heap.push go).objs.size - s.heap.objs.size) ↔ s.heap.objs.size ≤ b ∧ b < (s1.heap.push go).objs.size := fun {b} => by
      exact mem_rngs (by rw [hgsz]; exact Nat.le_succ_of_le (Nat.le_of_lt lt1))
    let q : Sq := firstQ s H EX B out s2 (s1.heap.push go).objs.size
    have Q : QOk K mg outer s.heap.objs.size s1.heap.objs.size q := by
      refine ⟨rfl, hos.symm, fun b hb => (mem.mp hb).1, mem.mpr ⟨Nat.le_refl _, by rw [hgsz]; exact Nat.lt_succ_of_lt lt1⟩, mem.mpr ⟨Nat.le_of_lt lt1, by rw [hgsz]; exact Nat.lt_succ_self _⟩, Heap.lt_size hea, e0.frf, fun b hb => ?_, fun x cl dd H' hx al er => ?_⟩
      · obtain ⟨_, o, ho, hd⟩ := e0.funs.mem hb
        exact ⟨o, kp2 b o (kp1 b o ho), hd⟩
      · cases out with
        | inl xs => exact hx.elim
        | inr y =>
          have e : x = y := hx
          subst e
          exact hex x cl dd H' rfl al er
    have qx : QX q out := ⟨rfl, fun xs e => by subst e; rfl⟩
    have nfr : ∀ b, s.heap.objs.size ≤ b → b ∉ frs outer := fun b hb z => absurd (frL b z) (Nat.not_lt.mpr hb)
    have G : GAt P w K mg base N qual st f cdv Aw outer s.heap.objs.size s1.heap.objs.size s1.gens.size go q [] [] (L2.start N vs) H s2 (DL.start N.length (ds.map Ent.val)) := by
      have ko := I2.ok
      refine ⟨⟨⟨ko.mod, ko.kind, ko.glob, ko.blt, ko.above, ko.inj, ko.has, ko.cab, ko.hd, ko.frames, ko.stk, ko.exf, ko.bs, ko.bsz, ko.noex, ko.exfs, ko.funs, ko.frf⟩, I2.os, I2.bare, I2.base, I2.loc, I2.cell, I2.free, I2.freeC, fun p hp => ?_, I2.hok, I2.len⟩, ⟨B, ?_, ?_⟩, fun x hx => by simp at hx, hrun, fun i x e _ _ _ => e, fun p hp => by simp at hp⟩
      · rcases List.mem_append.mp hp with hp | hp
        · rw [List.mem_singleton.mp hp]
          exact ⟨hea, I1.hok.fresh (Nat.le_refl _), Nat.ne_of_gt lt1, nfr _ (Nat.le_of_lt lt1), hgd⟩
        · obtain ⟨g1, g2, g3, g4, g5⟩ := Sq.of_yp (show p ∈ q.yp s.heap.objs.size from (List.mem_append.mp hp).elim (fun z => by simp at z) id)
          exact ⟨g1, g3, fun z => g4 (mem.mpr ⟨g2, by rw [z]; show s.heap.objs.size < _; rw [hgsz]; exact Nat.lt_succ_of_lt lt1⟩), nfr _ g2, g5⟩
      · exact ⟨fun _ z => .inl z, fun a z => trk a (z.elim id fun z => z.elim), rfl, Ev.refl, fun _ z _ => .inl z⟩
      · refine env_start (by rw [hlv]; have := S.pre; rw [← this, List.length_take]; exact Nat.min_le_right ..) (by rw [List.length_map]; exact rs.length) (fun i e h => vals_at (rs.less fun a z => z.elim id fun z => z.elim) i e h) (fun i es h => ?_) rfl
        rw [List.getElem?_map] at h
        cases qd : ds[i]? with
        | none => rw [qd] at h; cases h
        | some d => rw [qd] at h; cases h
    refine sg_func ?_
    refine (hbody cdv).run Aw outer s.heap.objs.size s1.heap.objs.size s1.gens.size go Dy q out Q qx [] [] (fun _ => rfl) _ H s2 _ G _ [] _ _ id id ⟨over_func, rfl, rfl, rfl⟩ _ H Kept.refl ⟨fun q' out' σ' H' s' E' Q' qx' g' _ hK => ?_, fun q' out' e s' Q' qx' hx => ?_⟩ hsp.2
    · have hK : out' = .inl [] := hK
      subst hK
      exact sg_end (.ok (.ret .none)) ⟨.inl rfl, H', g'.endOk Dy Q'⟩
    · refine sg_wrap ?_
      rw [over_func]
      refine wpAny_mono (show wpAny (model P w) (Aw.deeper (envOfC qual (defScope st) s.heap.objs.size f cdv)) (leaving (envOfC qual (defScope st) s.heap.objs.size f cdv) e) _ _ s' from hx) (fun _ s'' hq => ?_) fun _ s'' hq => hq.elim
      cases out' with
      | inl xs =>
        have hE := qx'.ex xs rfl
        obtain ⟨hc, _⟩ := hq
        rw [hE] at hc
        obtain ⟨_, _, _, _, _, _, _, _, _, _, _, _, _, _, no⟩ := hc
        exact no.elim
      | inr y => exact sg_end (.error e) ⟨e, rfl, hq.1, hq.2 (s1.heap.objs.size, go) (by simp)⟩
  exact main _ _ _ _ rfl rfl rfl fun h => Heap.get?_push_size _ rfl
end
end DL
end
section
namespace DL
open PySem PySem.Spec PyProof.Rows L2 _root_.GenW
theorem ok_has {P : Program} {w : World} {H : Hp} {h : Heap} {a : Addr} {o : HO} (x : ObjOk P w H h a o) : ∃ ob, h.get? a = some ob := by
  cases o with
  | lst xs => obtain ⟨_, _, _, _, e⟩ := x; exact ⟨_, e⟩
  | tup xs => obtain ⟨_, _, _, o, e, _⟩ := x; exact ⟨_, e⟩
  | dK kvs => obtain ⟨_, _, _, _, o, _, _, e, _⟩ := x; exact ⟨_, e⟩
  | dT kvs => obtain ⟨_, _, _, _, o, _, _, e, _⟩ := x; exact ⟨_, e⟩
  | set S n => obtain ⟨o, _, _, _, e, _⟩ := x; exact ⟨_, e⟩
  | ins C dx fs => obtain ⟨_, _, _, e, _⟩ := x; exact ⟨_, e⟩
  | own y => exact x
  | xd fs => obtain ⟨_, ⟨_, _, _, e, _⟩, _⟩ := x; exact ⟨_, e⟩
  | rng lo hi => obtain ⟨_, _, _, e⟩ := x; exact ⟨_, e⟩
  | frz ob u => obtain ⟨e, _⟩ := x; exact ⟨_, e⟩
  | tbl ps => exact ⟨_, (show h.get? a = some _ from x)⟩
  | met f y => exact ⟨_, (show h.get? a = some _ from x)⟩
  | ext φ => obtain ⟨_, e, _⟩ := x; exact e
section
variable {X : Cx} {pins : List (Addr × Obj)} {σ : L2.St} {H H' : Hp} {s : Shared}
theorem Inv.fsStk (I : Inv X pins σ H s) {b : Addr} (h : b ∈ X.fs) : b ∈ frs X.stack := by
  rcases I.ok.stk with e | ⟨e, hf⟩
  · rw [e]; exact h
  · rw [e]
    unfold frs
    rw [List.filterMap_cons, hf]
    exact List.mem_cons_of_mem _ h
/-- behind the first stretch: all that stood at the call -/
theorem EndOk.un {P : Program} {w : World} {outer : List PySem.Env} {L : Addr} {gn : Nat} {gpw : List Addr} {slw : List Nat} {s ws s1 : Shared} {H H' : Hp} (e : EndOk P w outer L gn gpw slw s.heap ws H H' s1) : Un (frs outer) [] H H' s.heap s1.heap where
  keep := fun b o h n hb _ => e.keepLo b o h n hb
  slot := fun b o h n hb _ => e.slot b o h n hb
  free := fun b o h n _ => e.freeLo b o h n
  there := fun b o h _ => by
    cases q : H b with
    | some u => exact ok_has (e.hok b u (e.all b u q))
    | none =>
      by_cases hb : b ∈ frs outer
      · obtain ⟨sl, h1⟩ := e.slot b o h q hb; exact ⟨_, h1⟩
      · exact ⟨o, e.keepLo b o h q hb⟩
  tups := fun b xs h => e.all b _ h
  frzs := fun b o u h => e.all b _ h
  tbls := fun b ps h => ⟨#[], by rw [e.all b _ h]; simp⟩
/-- behind a later stretch -/
theorem EndOk.inv (I : Inv X pins σ H s) {L : Addr} {gn : Nat} {gpw : List Addr} {slw : List Nat} {ws s1 : Shared} (hw : ws.heap = s.heap) (ho : ws.os = s.os) (e : EndOk X.prog X.w X.stack L gn gpw slw (cutH L s.heap) ws H H' s1) (y0 : X.s_0.heap.objs.size ≤ L) (y1 : X.env.locals < L) (y2 : ∀ x c, X.env.cells.lookup x = some c → c < L)
    (gl : ∀ b ∈ gpw, L ≤ b) (dis : ∀ b ∈ gpw, ∀ r ∈ X.pn ++ pins, r.1 ≠ b) : Inv X pins σ H' s1 := by
  classical
  let cs : List Addr := (List.range s.heap.objs.size).filter fun b => decide (L ≤ b ∧ ∃ v, s.heap.IsCell b v)
  have mcs : ∀ b, b ∈ cs ↔ L ≤ b ∧ ∃ v, s.heap.IsCell b v := fun b => by
    constructor
    · intro h
      exact of_decide_eq_true (List.mem_filter.mp h).2
    · intro h
      obtain ⟨v, o, ho, _⟩ := h.2
      exact List.mem_filter.mpr ⟨List.mem_range.mpr (Heap.lt_size ho), decide_eq_true h⟩
  have big : ∀ b ∈ gpw ++ cs, L ≤ b := fun b hb => (List.mem_append.mp hb).elim (gl b) fun z => ((mcs b).mp z).1
  have npv : ∀ b, b ∉ gpw ++ cs → ¬ Pv L gpw ws b := fun b hb z => by
    rw [List.mem_append, not_or] at hb
    rcases z with z | ⟨z1, v, z2⟩
    · exact hb.1 z
    · rw [Heap.IsCell, hw] at z2
      exact hb.2 ((mcs b).mpr ⟨z1, v, z2⟩)
  have lo : ∀ b o, b < L → s.heap.get? b = some o → (cutH L s.heap).get? b = some o := fun b o h q => by rw [cutH_get, if_pos h]; exact q
  have keep : ∀ b o, b ∉ frs X.stack → b ∉ gpw ++ cs → s.heap.get? b = some o → H b = none → s1.heap.get? b = some o := fun b o hf hc q n => by
    by_cases hL : b < L
    · exact e.keepLo b o (lo b o hL q) n hf
    · exact e.keepHi b o (Nat.le_of_not_lt hL) (by rw [hw]; exact q) n (npv b hc)
  have slot : ∀ b o, b ∈ frs X.stack → s.heap.get? b = some o → H b = none → ∃ sl, s1.heap.get? b = some { o with slots := sl } := fun b o hf q n => by
    refine e.slot b o (lo b o ?_ q) n hf
    rcases List.mem_cons.mp (I.stkSub b hf) with z | z
    · rw [z]; exact y1
    · obtain ⟨_, o0, e0, _⟩ := I.ok.funs.mem z
      exact Nat.lt_of_lt_of_le (Heap.lt_size e0) y0
  obtain ⟨hh, g, d, t, os1⟩ := s1
  have eo : os1 = s.os := e.os.trans ho
  subst eo
  refine I.step (g' := g) (t' := t) (d' := d) (ch := gpw ++ cs) (fun b hb => ⟨.inr (Nat.le_trans y0 (big b hb)), Nat.ne_of_gt (Nat.lt_of_lt_of_le y1 (big b hb)), fun x c q => Nat.ne_of_lt (Nat.lt_of_lt_of_le (y2 x c q) (big b hb)), fun r hr => ?_⟩)
    (fun b o h1 h2 h3 q n => keep b o (fun z => (List.mem_cons.mp (I.stkSub b z)).elim h1 h2) h3 q n) (fun b o h1 h2 h3 q n => slot b o (Inv.fsStk I h2) q n) (fun b o h1 q n => ?_) (fun b o h1 q => ?_) (fun b xs q => e.all b _ q) (fun b o u q => e.all b _ q) (fun b ps q => ⟨#[], by rw [e.all b _ q]; simp⟩) (fun m hm => ?_) e.hok e.bare
  · rcases List.mem_append.mp hb with z | z
    · exact dis b z r hr
    · intro er
      obtain ⟨g1, _, _, _, g5⟩ := I.pin r hr
      obtain ⟨_, v, o, ho, hd⟩ := (mcs b).mp z
      rw [er, ho] at g1
      cases g1
      exact g5 v hd
  · by_cases hL : b < L
    · exact e.freeLo b o (lo b o hL q) n
    · exact e.freeHi b o (Nat.le_of_not_lt hL) (by rw [hw]; exact q) n (npv b h1)
  · cases n : H b with
    | some u => exact ok_has (e.hok b u (e.all b u n))
    | none =>
      by_cases hf : b ∈ frs X.stack
      · obtain ⟨sl, z⟩ := slot b o hf q n; exact ⟨_, z⟩
      · exact ⟨o, keep b o hf h1 q n⟩
  · obtain ⟨o, es, ep, h1, h2, h3⟩ := hm
    by_cases hf : X.env.locals ∈ frs X.stack
    · obtain ⟨sl, z⟩ := slot _ o hf h1 I.free
      exact ⟨_, es, ep, z, h2, h3⟩
    · exact ⟨o, es, ep, keep _ o hf (fun z => absurd (big _ z) (Nat.not_le.mpr y1)) h1 I.free, h2, h3⟩
end
section
variable (P : Program) (w : World) (K : PySem.W.Frag) (mg : Str → Option Value) (base : Heap) (A : Around) (outer : List PySem.Env) (L a : Addr) (gn : Nat) (go : Obj)
/-- a generator that sleeps: xs is still to come -/
structure Sleeper (xs : List D) (H1 : Hp) (gp : List (Addr × Obj)) (sl : List (Nat × GenState)) (gs : GenState) : Prop where
  susp : Susp gs
  bare : gs.bare = true
  ng : NG gs
  gpo : ∀ p ∈ gp, L ≤ p.1 ∧ ∀ v, p.2.data ≠ .cell v
  gen : (a, go) ∈ gp
  slo : ∀ q ∈ sl, Susp q.2 ∧ NG q.2 ∧ q.1 ≠ gn
  go_ : ∀ s3 H3, WakeOk P w K mg base A outer gn H1 gp sl s3 H3 → GoesN (model P w) A (PostOf P w K mg base A outer L a gn go xs (cutH L s3.heap) s3 H3 (gp.map (·.1)) (sl.map (·.1))) gs (.send .none) s3
end
structure Stands (gn : Nat) (gp : List (Addr × Obj)) (sl : List (Nat × GenState)) (gs : GenState) (H : Hp) (s : Shared) : Prop where
  at_ : ∀ p ∈ gp, s.heap.get? p.1 = some p.2 ∧ H p.1 = none
  gens : ∀ q ∈ sl, s.gens[q.1]? = some q.2
  own : s.gens[gn]? = some gs
/-- the object of generator gn -/
structure GObj (gn : Nat) (go : Obj) : Prop where
  cls : go.cls = .type "generator"
  data : ∃ nm qn, go.data = .fields #[.int gn 0, nm, qn]
  slots : go.slots = #[]
theorem GObj.isGen {gn : Nat} {go : Obj} (h : GObj gn go) {hp : Heap} {a : Addr} (e : hp.get? a = some go) : hp.IsGen a gn := by
  obtain ⟨nm, qn, d⟩ := h.data
  exact ⟨go, nm, qn, e, h.cls, d, h.slots⟩
/-- the generator falls asleep: what its waker has -/
theorem sleeper_of {P : Program} {w : World} {K : PySem.W.Frag} {mg : Str → Option Value} {base : Heap} {A : Around} {outer : List PySem.Env} {L a : Addr} {gn : Nat} {go : Obj} {x : D} {xs : List D} {lo : Heap} {ws : Shared} {H0 : Hp} {gpw : List Addr} {slw : List Nat} {v : Value} {gd : Bool} {l : List Value} {k : Resume → Sem PySem.Fin} {c : Code} {p : Pos} {fs : List Frame} {s1 : Shared}
    (h : PostOf P w K mg base A outer L a gn go (x :: xs) lo ws H0 gpw slw (.susp v gd l k c p fs) s1) : (gd || fs.any Frame.guarded) = false ∧ ∃ v' H' gp sl, RelV v' v ∧ flat x = true ∧ Rep K (fun _ => False) H' v' x ∧ EndOk P w outer L gn gpw slw lo ws H0 H' s1 ∧ (∀ p ∈ gp, Nw gpw ws p.1) ∧ (∀ q ∈ sl, Ng slw ws q.1) ∧
      Sleeper P w K mg base A outer L a gn go xs H' gp sl (.suspended k l c p fs false) ∧ Stands gn gp sl (.suspended k l c p fs false) H' (s1.setGen gn (.suspended k l c p fs false)) := by
  obtain ⟨h1, h2, v', H', gp, sl, h3, h4, h5, h6, h7, h8⟩ := h
  have ne : ∀ q ∈ sl, q.1 ≠ gn := fun q hq e => by
    obtain ⟨z1, z2, _⟩ := h7.gens q hq
    rw [e, h7.run] at z1
    rw [← Option.some.inj z1] at z2
    exact z2
  refine ⟨h1, v', H', gp, sl, h3, h4, h5, h6, fun p hp => (h7.at_ p hp).2.2.2.1, fun q hq => (h7.gens q hq).2.2.2, ⟨trivial, rfl, h2, fun p hp => ⟨(h7.at_ p hp).2.2.1, (h7.at_ p hp).2.2.2.2⟩, h7.gen, fun q hq => ⟨(h7.gens q hq).2.1, (h7.gens q hq).2.2.1, ne q hq⟩, fun s3 H3 W => h8 s3 H3 W⟩, fun p hp => ⟨(h7.at_ p hp).1, (h7.at_ p hp).2.1⟩, fun q hq => ?_, setGen_at (Array.getElem?_eq_some_iff.mp h7.run).1⟩
  show (s1.gens.setIfInBounds gn _)[q.1]? = _
  rw [Array.getElem?_setIfInBounds_ne (Ne.symm (ne q hq))]
  exact (h7.gens q hq).1
end DL
end
section
namespace DL
open PySem PySem.Spec PyProof.Rows L2 _root_.GenW
/-- the generators that are not this one's are as they were -/
def Oth (gn : Nat) (slw : List Nat) (s s' : Shared) : Prop := ∀ (g : Nat) (x : GenState), s.gens[g]? = some x → Stay x → g ∉ slw → g ≠ gn → s'.gens[g]? = some x
theorem Oth.trans {gn : Nat} {slw slw' : List Nat} {s s1 s2 : Shared} (a : Oth gn slw s s1) (b : Oth gn slw' s1 s2) (h : ∀ g x, s.gens[g]? = some x → Stay x → g ∈ slw' → g ∈ slw ∨ g = gn) : Oth gn slw s s2 := fun g x e st n1 n2 =>
  b g x (a g x e st n1 n2) st (fun z => (h g x e st z).elim n1 n2) n2
section
variable {X : Cx} {pins : List (Addr × Obj)} {σ : L2.St} {H : Hp} {s : Shared}
/-- what came after the generator and is not its own stands -/
def Hi (L : Addr) (H : Hp) (s : Shared) (old : Addr → Prop) (H' : Hp) (s' : Shared) : Prop := ∀ b o, s.heap.get? b = some o → H b = none → L ≤ b → ¬ old b → (∀ v, o.data ≠ .cell v) → s'.heap.get? b = some o ∧ H' b = none
/-- what one has of a generator that has been asked for an item -/
def Got (X : Cx) (pins : List (Addr × Obj)) (σ : L2.St) (A : Around) (L a : Addr) (gn : Nat) (go : Obj) (H : Hp) (slw : List Nat) (s : Shared) (old : Addr → Prop) : List D → Option Value → Shared → Prop
  | [], r, s' => r = none ∧ ∃ H', Inv X pins σ H' s' ∧ All H H' ∧ Oth gn slw s s' ∧ Hi L H s old H' s'
  | x :: xs, r, s' => ∃ u v H' gp sl gs, r = some u ∧ RelV v u ∧ flat x = true ∧ Rep X.K (fun _ => False) H' v x ∧ Inv X pins σ H' s' ∧ All H H' ∧ Oth gn slw s s' ∧ Hi L H s old H' s' ∧ Sleeper X.prog X.w X.K X.mg X.base A X.stack L a gn go xs H' gp sl gs ∧ Stands gn gp sl gs H' s' ∧ (∀ p ∈ gp, ∀ r ∈ X.pn ++ pins, r.1 ≠ p.1) ∧
      (∀ p ∈ gp, old p.1 ∨ s.heap.get? p.1 = none ∨ ∃ v, s.heap.IsCell p.1 v) ∧ ∀ q ∈ sl, Ng slw s q.1
theorem Inv.setg (I : Inv X pins σ H s) {g : Nat} {x : GenState} (hx : x.bare = true) : Inv X pins σ H (s.setGen g x) := Inv.gens I rfl rfl (allBare_setGen I.bare hx)
theorem next_sleeper {A : Around} (hfr : A.frames = some X.stack) (I : Inv X pins σ H s) (hh : A.handled = none) (hroom : A.depth < recursionLimit) {L a : Addr} {gn : Nat} {go : Obj} (GO : GObj gn go) {xs : List D} {H1 : Hp} {gp : List (Addr × Obj)} {sl : List (Nat × GenState)} {gs : GenState}
    (Z : Sleeper X.prog X.w X.K X.mg X.base A.in1 X.stack L a gn go xs H1 gp sl gs) (T : Stands gn gp sl gs H s) (kH : Kept H1 H) (y0 : X.s_0.heap.objs.size ≤ L) (y1 : X.env.locals < L) (y2 : ∀ x c, X.env.cells.lookup x = some c → c < L) (dis : ∀ p ∈ gp, ∀ r ∈ X.pn ++ pins, r.1 ≠ p.1) {E : Value → Shared → Prop} :
    wpAny (model X.prog X.w) A (pyNext (.ref a)) (Got X pins σ A.in1 L a gn go H (sl.map (·.1)) s (fun b => b ∈ gp.map (·.1)) xs) E s := by
  have gl : ∀ b ∈ gp.map (·.1), L ≤ b := fun b hb => by
    obtain ⟨p, hp, rfl⟩ := List.mem_map.mp hb
    exact (Z.gpo p hp).1
  have dis' : ∀ b ∈ gp.map (·.1), ∀ r ∈ X.pn ++ pins, r.1 ≠ b := fun b hb => by
    obtain ⟨p, hp, rfl⟩ := List.mem_map.mp hb
    exact dis p hp
  have gsz : gn < s.gens.size := (Array.getElem?_eq_some_iff.mp T.own).1
  have ha := (T.at_ (a, go) Z.gen).1
  have e0 : Env0 X.prog X.w X.K X.mg X.base A.in1 X.stack (s.setGen gn .running) H :=
    let e := I.env0
    ⟨hfr, e.mod, e.bs, e.bsz, e.funs, e.frf, e.hok, allBare_setGen e.bare rfl⟩
  have W : WakeOk X.prog X.w X.K X.mg X.base A.in1 X.stack gn H1 gp sl (s.setGen gn .running) H := ⟨e0, T.at_, fun q hq => by
    show (s.gens.setIfInBounds gn _)[q.1]? = _
    rw [Array.getElem?_setIfInBounds_ne (Ne.symm (Z.slo q hq).2.2)]
    exact T.gens q hq, setGen_at gsz, kH⟩
  have oth0 : ∀ (g : Nat) (x : GenState), s.gens[g]? = some x → g ≠ gn → (s.setGen gn .running).gens[g]? = some x := fun g x e n => by
    show (s.gens.setIfInBounds gn _)[g]? = _
    rw [Array.getElem?_setIfInBounds_ne (Ne.symm n)]
    exact e
  have othE : ∀ {s1 : Shared} {y : GenState}, (∀ (g : Nat) (x : GenState), (s.setGen gn .running).gens[g]? = some x → Stay x → g ∉ sl.map (·.1) → g ≠ gn → s1.gens[g]? = some x) → Oth gn (sl.map (·.1)) s (s1.setGen gn y) := fun {s1 y} h g x e st n1 n2 => by
    show (s1.gens.setIfInBounds gn _)[g]? = _
    rw [Array.getElem?_setIfInBounds_ne (Ne.symm n2)]
    exact h g x (oth0 g x e n2) st n1 n2
  have hi : ∀ {H' : Hp} {s1 : Shared}, EndOk X.prog X.w X.stack L gn (gp.map (·.1)) (sl.map (·.1)) (cutH L (s.setGen gn .running).heap) (s.setGen gn .running) H H' s1 → Hi L H s (fun b => b ∈ gp.map (·.1)) H' s1 := fun {H' s1} e b o q n hL ho hc =>
    have np : ¬ Pv L (gp.map (·.1)) (s.setGen gn .running) b := fun z => z.elim ho fun ⟨_, v, o2, z1, z2⟩ => by
      have z1 : s.heap.get? b = some o2 := z1
      rw [q] at z1
      cases z1
      exact hc v z2
    ⟨e.keepHi b o hL q n np, e.freeHi b o hL q n np⟩
  refine next_gen hh I.nolimit hroom (GO.isGen ha) T.own (Z.go_ _ H W) (fun v gd l k c p fs s₁ hT hsz => ?_) (fun r s₁ hT => ?_) fun e s₁ hT => ?_
  · cases xs with
    | nil => exact hT.elim
    | cons x xs =>
      obtain ⟨q1, v', H', gp', sl', h3, h4, h5, h6, h7, h7', h8, h9⟩ := sleeper_of hT
      have I1 := EndOk.inv I (ws := s.setGen gn .running) rfl rfl h6 y0 y1 y2 gl dis'
      refine ⟨q1, v, v', H', gp', sl', _, rfl, h3, h4, h5, Inv.setg I1 rfl, h6.all, othE h6.oth, fun b o e n hL ho hc => hi h6 b o e n hL ho hc, h8, h9, fun p' hp' r hr z => ?_, h7, fun q hq => ?_⟩
      · obtain ⟨r1, _, _, _, r5⟩ := I.pin r hr
        rcases h7 p' hp' with z1 | z1 | ⟨v2, o2, z1, z2⟩
        · exact dis' _ z1 r hr z
        · have z1 : s.heap.get? p'.1 = none := z1
          rw [← z, r1] at z1
          cases z1
        · have z1 : s.heap.get? p'.1 = some o2 := z1
          rw [← z, r1] at z1
          cases z1
          exact r5 v2 z2
      · rcases h7' q hq with z | z
        · exact .inl z
        · by_cases hn : q.1 = gn
          · exact absurd hn (h8.slo q hq).2.2
          · exact .inr fun x e => z x (oth0 _ x e hn)
  · cases xs with
    | nil =>
      obtain ⟨h1, H', h2⟩ := hT
      refine ⟨by rcases h1 with e | e <;> cases e <;> first | exact .inl rfl | exact .inr rfl, fun h' hk => ⟨rfl, H', ?_, h2.all, fun g x e st n1 n2 => (othE (s1 := s₁) (y := GenState.finished) h2.oth) g x e st n1 n2, fun b o e n hL ho hc => ⟨hk b o (hi h2 b o e n hL ho hc).1, (hi h2 b o e n hL ho hc).2⟩⟩⟩
      have I1 := EndOk.inv I (ws := s.setGen gn .running) rfl rfl h2 y0 y1 y2 gl dis'
      have I2 := Inv.setg (g := gn) (x := .finished) I1 rfl
      exact I2.call' (s' := { s₁.setGen gn .finished with heap := h' }) (ch := []) rfl (Un.kept hk) (I2.hok.kept hk) I2.bare fun b z => by simp at z
    | cons x xs => exact hT.elim
  · cases xs with
    | nil =>
      obtain ⟨h1, _⟩ := hT
      rcases h1 with e | e <;> cases e
    | cons x xs => exact hT.elim
/-- the first item -/
theorem next_first {A : Around} {B : Addr → Prop} {out : Outc} {EX : XK} {L a : Addr} {gn : Nat} {go : Obj} {c : Code} {sn : Shared} {n : Nat} (hfr : A.frames = some X.stack) (I : Inv X pins σ H s) (hh : A.handled = none) (hn : A.depth < recursionLimit) (GO : GObj gn go) (hL : L = s.heap.objs.size) (hLn : L ≤ n)
    (hgo : sn.heap.get? a = some go) (hgen : sn.gens[gn]? = some (.fresh c)) (hos : sn.os = s.os) (hb : AllBare sn.gens) (hl : sn.heap.NoLimit) (kp : ∀ b o, s.heap.get? b = some o → sn.heap.get? b = some o)
    (seg : ∀ s2, (∀ b o, sn.heap.get? b = some o → s2.heap.get? b = some o) → s2.os = s.os → AllBare s2.gens → s2.gens[gn]? = some .running → Sg (model X.prog X.w) A.in1 (postQ X.prog X.w X.K X.mg X.base A.in1 X.stack L a gn go (firstQ s H EX B out s2 n) out) c ((model X.prog X.w).den c) [] s2)
    {Q : Option Value → Shared → Prop} {E : Value → Shared → Prop}
    (hQ : ∀ xs r s', out = .inl xs → Got X pins σ A.in1 L a gn go H [] sn (fun b => L ≤ b ∧ b < n) xs r s' → Q r s')
    (hE : ∀ y e s', out = .inr y → CXd X.K X.prog X.w X.stack H s EX e s' → NotStop (model X.prog X.w) e s'.heap ∧ E e (s'.setGen gn .finished)) :
    wpAny (model X.prog X.w) A (pyNext (.ref a)) Q E sn := by
  have gsz : gn < sn.gens.size := (Array.getElem?_eq_some_iff.mp hgen).1
  have S := seg (sn.setGen gn .running) (fun _ _ e => e) hos (allBare_setGen hb rfl) (setGen_at gsz)
  have oth0 : ∀ (g : Nat) (x : GenState), sn.gens[g]? = some x → g ≠ gn → (sn.setGen gn .running).gens[g]? = some x := fun g x e n => by
    show (sn.gens.setIfInBounds gn _)[g]? = _
    rw [Array.getElem?_setIfInBounds_ne (Ne.symm n)]
    exact e
  have othE : ∀ {s1 : Shared} {y : GenState}, (∀ (g : Nat) (x : GenState), (sn.setGen gn .running).gens[g]? = some x → Stay x → g ∉ ([] : List Nat) → g ≠ gn → s1.gens[g]? = some x) → Oth gn [] sn (s1.setGen gn y) := fun {s1 y} h g x e st n1 n2 => by
    show (s1.gens.setIfInBounds gn _)[g]? = _
    rw [Array.getElem?_setIfInBounds_ne (Ne.symm n2)]
    exact h g x (oth0 g x e n2) st n1 n2
  have mem : ∀ {b : Addr}, b ∈ List.range' s.heap.objs.size (n - s.heap.objs.size) ↔ L ≤ b ∧ b < n := fun {b} => by
    rw [hL]
    exact mem_rngs (by rw [← hL]; exact hLn)
  have hi : ∀ {H' : Hp} {s1 : Shared}, EndOk X.prog X.w X.stack L gn (firstQ s H EX B out (sn.setGen gn .running) n).gpw [] s.heap (sn.setGen gn .running) H H' s1 → Hi L H sn (fun b => L ≤ b ∧ b < n) H' s1 := fun {H' s1} e b o q n hL ho hc =>
    have np : ¬ Pv L (firstQ s H EX B out (sn.setGen gn .running) _).gpw (sn.setGen gn .running) b := fun z => z.elim (fun z => ho (mem.mp z)) fun ⟨_, v, o2, z1, z2⟩ => by
      have z1 : sn.heap.get? b = some o2 := z1
      rw [q] at z1
      cases z1
      exact hc v z2
    ⟨e.keepHi b o hL q n np, e.freeHi b o hL q n np⟩
  have inv : ∀ {H' : Hp} {s1 : Shared}, EndOk X.prog X.w X.stack L gn (firstQ s H EX B out (sn.setGen gn .running) n).gpw [] s.heap (sn.setGen gn .running) H H' s1 → Inv X pins σ H' s1 := fun {H' s1} e =>
    I.call' (ch := []) (e.os.trans hos) e.un e.hok e.bare fun b z => by simp at z
  cases out with
  | inr y =>
    refine next_gen hh hl hn (GO.isGen hgo) hgen ⟨rfl, S⟩ (fun v gd l k c p fs s₁ hT hsz => ?_) (fun r s₁ hT => ?_) fun e s₁ hT => ?_
    · obtain ⟨_, e, _⟩ := hT; cases e
    · obtain ⟨_, e, _⟩ := hT; cases e
    · obtain ⟨ex, e2, hc, hg⟩ := hT
      cases e2
      exact ⟨GO.isGen hg, hE y e s₁ rfl hc⟩
  | inl xs =>
    have hQ := fun r s' h => hQ xs r s' rfl h
    have S : Sg (model X.prog X.w) A.in1 (PostOf X.prog X.w X.K X.mg X.base A.in1 X.stack L a gn go xs s.heap (sn.setGen gn .running) H (firstQ s H EX B (.inl xs) (sn.setGen gn .running) n).gpw []) c ((model X.prog X.w).den c) [] (sn.setGen gn .running) := S
    refine next_gen hh hl hn (GO.isGen hgo) hgen ⟨rfl, S⟩ (fun v gd l k c p fs s₁ hT hsz => ?_) (fun r s₁ hT => ?_) fun e s₁ hT => ?_
    · cases xs with
      | nil => exact hT.elim
      | cons x xs =>
        obtain ⟨q1, v', H', gp', sl', h3, h4, h5, h6, h7, h7', h8, h9⟩ := sleeper_of hT
        refine ⟨q1, hQ _ _ ⟨v, v', H', gp', sl', _, rfl, h3, h4, h5, Inv.setg (inv h6) rfl, h6.all, othE h6.oth, fun b o e n hL ho hc => hi h6 b o e n hL ho hc, h8, h9, fun p' hp' r hr z => ?_, fun p' hp' => ?_, fun q hq => ?_⟩⟩
        · have hlt : r.1 < L := by
            rw [hL]
            exact Heap.lt_size (I.pin r hr).1
          rw [z] at hlt
          exact absurd hlt (Nat.not_lt.mpr (h8.gpo p' hp').1)
        · rcases h7 p' hp' with z | z | z
          · exact .inl (mem.mp z)
          · exact .inr (.inl z)
          · obtain ⟨v2, z⟩ := z
            exact .inr (.inr ⟨v2, z⟩)
        · rcases h7' q hq with z | z
          · simp at z
          · exact .inr fun x e => z x (oth0 _ x e (h8.slo q hq).2.2)
    · cases xs with
      | nil =>
        obtain ⟨h1, H', h2⟩ := hT
        refine ⟨by rcases h1 with e | e <;> cases e <;> first | exact .inl rfl | exact .inr rfl, fun h' hk => hQ _ _ ⟨rfl, H', ?_, h2.all, fun g x e st n1 n2 => (othE (s1 := s₁) (y := GenState.finished) h2.oth) g x e st n1 n2, fun b o e n hL ho hc => ⟨hk b o (hi h2 b o e n hL ho hc).1, (hi h2 b o e n hL ho hc).2⟩⟩⟩
        have I2 := Inv.setg (g := gn) (x := .finished) (inv h2) rfl
        exact I2.call' (s' := { s₁.setGen gn .finished with heap := h' }) (ch := []) rfl (Un.kept hk) (I2.hok.kept hk) I2.bare fun b z => by simp at z
      | cons x xs => exact hT.elim
    · cases xs with
      | nil =>
        obtain ⟨h1, _⟩ := hT
        rcases h1 with e | e <;> cases e
      | cons x xs => exact hT.elim
end
end DL
end
section
namespace DL
open PySem PySem.Spec PyProof.Rows L2 _root_.GenW
section
variable {X : Cx} {pins : List (Addr × Obj)} {σ : L2.St} {H : Hp} {s : Shared}
theorem all_reps {K : PySem.W.Frag} {B : Addr → Prop} {H H' : Hp} (a : All H H') {vs : List V} {ds : List D} (r : Reps K B H vs ds) : Reps K B H' vs ds := r.mono a.ext
/-- a list that is filled is tracked -/
theorem track_list {S : Addr} {acc : Array Value} {c : Nat} {vs : List V} (I : Inv X ((S, lstObj acc c) :: pins) σ H s) (r : Vals vs acc.toList) (hl : vs.length ≤ sizeLine) (y : X.s_0.heap.objs.size ≤ S) (yc : ∀ x c, X.env.cells.lookup x = some c → c ≠ S) (yp : ∀ p ∈ X.pn ++ pins, p.1 ≠ S) : Inv X pins σ (upd H S (.lst vs)) s := by
  obtain ⟨h1, h2, h3, h4, _⟩ := I.pin (S, lstObj acc c) (List.mem_append_right _ List.mem_cons_self)
  have I0 : Inv X pins σ H s := I.pins_of fun p hp => I.pin p (List.mem_append_right _ (List.mem_cons_of_mem _ hp))
  have ne : ∀ b u, H b = some u → b ≠ S := fun b u e z => by rw [z, h2] at e; cases e
  refine I0.call' (ch := [S]) rfl ⟨fun b o e _ _ _ => e, fun b o e _ _ _ => ⟨o.slots, e⟩, fun b o _ n hx => ?_, fun b o e _ => ⟨o, e⟩, fun b xs e => ?_, fun b o u e => ?_, fun b ps e => ⟨#[], ?_⟩⟩ (fun b u e => ?_) I.bare fun b hb => ?_
  · rw [upd_ne (fun z => hx (by simp [z]))]; exact n
  · rw [upd_ne (ne _ _ e)]; exact e
  · rw [upd_ne (ne _ _ e)]; exact e
  · rw [upd_ne (ne _ _ e), e]; simp
  · by_cases hb : b = S
    · subst hb
      rw [upd_same] at e
      cases e
      exact ⟨hl, acc.toList, c, r, by rw [h1]⟩
    · rw [upd_ne hb] at e
      exact (I.hok b u e).stay (fun _ _ _ z => z) (fun d z => by rw [upd_ne (ne _ _ z)]; exact z) fun d xs z => by rw [upd_ne (ne _ _ z)]; exact z
  · rw [List.mem_singleton.mp hb]
    exact ⟨.inr y, h3, yc, yp⟩
/-- what stands behind list(g) -/
def Drained (X : Cx) (pins : List (Addr × Obj)) (σ : L2.St) (S : Addr) (H : Hp) (xs : List D) (s' : Shared) : Prop :=
  ∃ H' vs acc c, Inv X ((S, lstObj acc c) :: pins) σ H' s' ∧ All H H' ∧ Vals vs acc.toList ∧ Reps X.K (fun _ => False) H' vs xs
theorem drainN {A : Around} (hfr : A.frames = some X.stack) (hh : A.handled = none) (hroom : A.depth < recursionLimit) {L a : Addr} {gn : Nat} {go : Obj} (GO : GObj gn go) {S : Addr} {res : Value} {R : Result → Shared → Prop} (y0 : X.s_0.heap.objs.size ≤ L) (y1 : X.env.locals < L) (y2 : ∀ x c, X.env.cells.lookup x = some c → c < L) (hS : L ≤ S) (dp : ∀ p ∈ X.pn ++ pins, p.1 ≠ S) (H0 : Hp)
    (pre xs : List D) (hsz : pre.length + xs.length ≤ sizeLine) (hR : ∀ s', Drained X pins σ S H0 (pre ++ xs) s' → R (.ok (.ret res)) s') :
    ∀ (H1 H : Hp) (gp : List (Addr × Obj)) (sl : List (Nat × GenState)) (gs : GenState) (s : Shared) (acc : Array Value) (c : Nat) (vs : List V), Sleeper X.prog X.w X.K X.mg X.base A.in1.in1 X.stack L a gn go xs H1 gp sl gs → Stands gn gp sl gs H s → Kept H1 H → Inv X ((S, lstObj acc c) :: pins) σ H s → All H0 H → Vals vs acc.toList → Reps X.K (fun _ => False) H vs pre →
      (∀ p ∈ gp, ∀ r ∈ X.pn ++ ((S, lstObj acc c) :: pins), r.1 ≠ p.1) → codeAny (model X.prog X.w) A (.builtin "list.extend.loop" ⟨[.ref S, .ref a, res], []⟩) R s := by
  induction xs generalizing pre with
  | nil =>
    intro H1 H gp sl gs s acc c vs Z T kH I al rv rp dis
    refine codeAny_builtin F.entry_extend_loop ?_
    rw [Around.under_plainId F.plain_extend_loop _]
    show wpAny _ A.in1 (pyNext (.ref a) >>= _) _ _ s
    refine wpAny_bind (wpAny_mono (next_sleeper (A := A.in1) hfr I hh hroom GO Z T kH y0 y1 y2 dis (E := fun _ _ => False)) (fun r s' hr => ?_) fun _ _ z => z.elim)
    obtain ⟨rfl, H', I', al', _⟩ := hr
    refine wpAny_pure (hR s' ⟨H', vs, acc, c, I', al.trans al', rv, ?_⟩)
    rw [List.append_nil]
    exact all_reps al' rp
  | cons x xs ih =>
    intro H1 H gp sl gs s acc c vs Z T kH I al rv rp dis
    refine codeAny_builtin F.entry_extend_loop ?_
    rw [Around.under_plainId F.plain_extend_loop _]
    show wpAny _ A.in1 (pyNext (.ref a) >>= _) _ _ s
    refine wpAny_bind (wpAny_mono (next_sleeper (A := A.in1) hfr I hh hroom GO Z T kH y0 y1 y2 dis (E := fun _ _ => False)) (fun r s' hr => ?_) fun _ _ z => z.elim)
    obtain ⟨u, v, H', gp', sl', gs', rfl, hv, _, hx, I', al', _, _, Z', T', dis', _⟩ := hr
    obtain ⟨h1, h2, h3, h4, _⟩ := I'.pin (S, lstObj acc c) (List.mem_append_right _ List.mem_cons_self)
    have hlen : vs.length = pre.length := rp.length
    have hacc : acc.size = vs.length := by
      have e1 := rv.length
      have e2 : acc.toList.length = acc.size := by simp
      omega
    have hsz' : acc.size < sizeLine := by
      simp only [List.length_cons] at hsz
      omega
    show wpAny _ A.in1 (updateSeq S (·.push u) >>= _) _ _ _
    refine wpAny_bind (wpAny_updateSeq h1 rfl (wpAny_pure ⟨plainId_quiet F.plain_extend_loop _, ?_⟩) (Nat.le_of_lt hsz') (by show (acc.push u).size ≤ sizeLine + 1; rw [Array.size_push]; omega))
    have e2 := Heap.get?_update_self (Obj.mapSeq (·.push u)) h1 rfl
    have keep : ∀ b o, b ≠ S → s'.heap.get? b = some o → (s'.heap.update S (Obj.mapSeq (·.push u))).get? b = some o := fun b o hb e => (Heap.get?_update_other _ _ (Ne.symm hb)).trans e
    have I0 : Inv X pins σ H' s' := I'.pins_of fun p hp => I'.pin p (List.mem_append_right _ (List.mem_cons_of_mem _ hp))
    have yS : X.s_0.heap.objs.size ≤ S := Nat.le_trans y0 hS
    have yc : ∀ x c, X.env.cells.lookup x = some c → c ≠ S := fun x c e => Nat.ne_of_lt (Nat.lt_of_lt_of_le (y2 x c e) hS)
    have I2 : Inv X pins σ H' { s' with heap := s'.heap.update S (Obj.mapSeq (·.push u)), toks := s'.toks } := I0.turned keep h2 h3 (.inr yS) yc dp
    obtain ⟨c', e3⟩ : ∃ c', (s'.heap.update S (Obj.mapSeq (·.push u))).get? S = some (lstObj (acc.push u) c') := ⟨_, e2⟩
    have I3 : Inv X ((S, lstObj (acc.push u) c') :: pins) σ H' { s' with heap := s'.heap.update S (Obj.mapSeq (·.push u)) } := I2.pins_of fun p hp => by
      rcases List.mem_cons.mp hp with rfl | hp
      · exact ⟨e3, h2, h3, h4, fun v q => by cases q⟩
      · exact I2.pin p (List.mem_append_right _ hp)
    refine ih (pre ++ [x]) (by simp only [List.length_append, List.length_cons, List.length_nil] at hsz ⊢; omega) (fun s' h => hR s' (by rw [List.append_assoc] at h; exact h)) H' H' gp' sl' gs' { s' with heap := s'.heap.update S (Obj.mapSeq (·.push u)) } (acc.push u) c' (vs ++ [v]) Z' ⟨fun p hp => ⟨keep _ _ (fun z => ?_) (T'.at_ p hp).1, (T'.at_ p hp).2⟩, T'.gens, T'.own⟩ Kept.refl I3 (al.trans al') ?_ ((all_reps al' rp).append (.cons hx .nil)) fun p hp r hr => ?_
    · exact dis' p hp (S, lstObj acc c) (List.mem_append_right _ List.mem_cons_self) z.symm
    · rw [Array.toList_push]
      exact rv.append (.cons hv .nil)
    · rcases List.mem_append.mp hr with hr | hr
      · exact dis' p hp r (List.mem_append_left _ hr)
      rcases List.mem_cons.mp hr with rfl | hr
      · exact dis' p hp (S, lstObj acc c) (List.mem_append_right _ List.mem_cons_self)
      · exact dis' p hp r (List.mem_append_right _ (List.mem_cons_of_mem _ hr))
/-- the list's loop, from the first item on -/
theorem drain1 {A : Around} {k : Nat} {B : Addr → Prop} {out : Outc} {EX : XK} {sc : Shared} (hfr : A.frames = some X.stack) (hh : A.handled = none) (hroom : A.depth < recursionLimit) (hr : RoomB true k A.in1.in1) (hg : A.guards = some []) {L a : Addr} {gn : Nat} {go : Obj} {c0 : Code} (GO : GObj gn go) {S : Addr} {res : Value} {R : Result → Shared → Prop} {sn : Shared} {n : Nat} {c : Nat}
    (I : Inv X pins σ H sc) (hL : L = sc.heap.objs.size) (hLn : L ≤ n) (hSn : n ≤ S) (hS : sn.heap.get? S = some (lstObj #[] c)) (hgo : sn.heap.get? a = some go) (hgen : sn.gens[gn]? = some (.fresh c0)) (hos : sn.os = sc.os) (hb : AllBare sn.gens) (hl : sn.heap.NoLimit) (kp : ∀ b o, sc.heap.get? b = some o → sn.heap.get? b = some o)
    (seg : ∀ s2, (∀ b o, sn.heap.get? b = some o → s2.heap.get? b = some o) → s2.os = sc.os → AllBare s2.gens → s2.gens[gn]? = some .running → Sg (model X.prog X.w) A.in1.in1 (postQ X.prog X.w X.K X.mg X.base A.in1.in1 X.stack L a gn go (firstQ sc H EX B out s2 n) out) c0 ((model X.prog X.w).den c0) [] s2)
    (hlen : ∀ xs, out = .inl xs → xs.length ≤ sizeLine) (hR : ∀ xs s', out = .inl xs → Drained X pins σ S H xs s' → R (.ok (.ret res)) s')
    (hE : ∀ y e s', out = .inr y → CXd X.K X.prog X.w X.stack H sc EX e s' → NotStop (model X.prog X.w) e s'.heap ∧ R (.error e) (s'.setGen gn .finished)) :
    codeAny (model X.prog X.w) A (.builtin "list.extend.loop" ⟨[.ref S, .ref a, res], []⟩) R sn := by
  have szL : X.s_0.heap.objs.size ≤ L := by rw [hL]; exact I.sz
  have locL : X.env.locals < L := by rw [hL]; exact I.lt
  have celL : ∀ x c, X.env.cells.lookup x = some c → c < L := fun x c e => by
    obtain ⟨v, o, ho, _⟩ := I.cell x c e
    rw [hL]
    exact Heap.lt_size ho
  have dp : ∀ p ∈ X.pn ++ pins, p.1 ≠ S := fun p hp => by
    have := Heap.lt_size (I.pin p hp).1
    rw [← hL] at this
    exact Nat.ne_of_lt (Nat.lt_of_lt_of_le this (Nat.le_trans hLn hSn))
  have yS : X.s_0.heap.objs.size ≤ S := Nat.le_trans szL (Nat.le_trans hLn hSn)
  have yc : ∀ x c, X.env.cells.lookup x = some c → c ≠ S := fun x c e => Nat.ne_of_lt (Nat.lt_of_lt_of_le (celL x c e) (Nat.le_trans hLn hSn))
  have hSL : L ≤ S := Nat.le_trans hLn hSn
  have nSt : H S = none := by
    cases e : H S with
    | none => rfl
    | some u =>
      have := I.hok.lt e
      rw [← hL] at this
      exact absurd this (Nat.not_lt.mpr hSL)
  have locS : S ≠ X.env.locals := fun z => absurd locL (Nat.not_lt.mpr (by rw [← z]; exact hSL))
  have fsS : S ∉ X.fs := I.nofs (by rw [← hL]; exact hSL)
  have noS : ¬ (L ≤ S ∧ S < n) := fun z => absurd z.2 (Nat.not_lt.mpr hSn)
  refine codeAny_builtin F.entry_extend_loop ?_
  rw [Around.under_plainId F.plain_extend_loop _]
  show wpAny _ A.in1 (pyNext (.ref a) >>= _) _ _ sn
  refine wpAny_bind (next_first (A := A.in1) hfr I hh hroom GO hL hLn hgo hgen hos hb hl kp seg (fun xs r s' eo hr => ?_) fun y e s' eo hc => hE y e s' eo hc)
  cases xs with
  | nil =>
    obtain ⟨rfl, H', I', al', _, hi⟩ := hr
    obtain ⟨z1, z2⟩ := hi S _ hS nSt hSL noS fun v q => by cases q
    refine wpAny_pure (hR [] s' eo ⟨H', [], #[], c, I'.pins_of fun p hp => ?_, al', .nil, .nil⟩)
    rcases List.mem_cons.mp hp with rfl | hp
    · exact ⟨z1, z2, locS, fsS, fun v q => by cases q⟩
    · exact I'.pin p (List.mem_append_right _ hp)
  | cons x xs =>
    obtain ⟨u, v, H', gp', sl', gs', rfl, hv, _, hx, I', al', _, hi, Z', T', dis', old', _⟩ := hr
    obtain ⟨z1, z2⟩ := hi S _ hS nSt hSL noS fun v q => by cases q
    have hl1 := hlen _ eo
    have hl1 : xs.length + 1 ≤ sizeLine := hl1
    show wpAny _ A.in1 (updateSeq S (·.push u) >>= _) _ _ _
    refine wpAny_bind (wpAny_updateSeq z1 rfl (wpAny_pure ⟨plainId_quiet F.plain_extend_loop _, ?_⟩) (Nat.zero_le _) (by show (#[].push u).size ≤ sizeLine + 1; simp))
    have e2 := Heap.get?_update_self (Obj.mapSeq (·.push u)) z1 rfl
    have keep : ∀ b o, b ≠ S → s'.heap.get? b = some o → (s'.heap.update S (Obj.mapSeq (·.push u))).get? b = some o := fun b o hb e => (Heap.get?_update_other _ _ (Ne.symm hb)).trans e
    have I2 : Inv X pins σ H' { s' with heap := s'.heap.update S (Obj.mapSeq (·.push u)), toks := s'.toks } := I'.turned keep z2 locS (.inr yS) yc dp
    obtain ⟨c', e3⟩ : ∃ c', (s'.heap.update S (Obj.mapSeq (·.push u))).get? S = some (lstObj (#[].push u) c') := ⟨_, e2⟩
    have I3 : Inv X ((S, lstObj (#[].push u) c') :: pins) σ H' { s' with heap := s'.heap.update S (Obj.mapSeq (·.push u)) } := I2.pins_of fun p hp => by
      rcases List.mem_cons.mp hp with rfl | hp
      · exact ⟨e3, z2, locS, fsS, fun v q => by cases q⟩
      · exact I2.pin p (List.mem_append_right _ hp)
    have nS : ∀ p ∈ gp', S ≠ p.1 := fun p hp z => by
      rcases old' p hp with q | q | ⟨v2, o2, q, q2⟩
      · rw [← z] at q; exact noS q
      · rw [← z, hS] at q; cases q
      · rw [← z, hS] at q
        cases q
        cases q2
    refine drainN hfr hh hroom GO szL locL celL hSL dp H [x] xs (by simp only [List.length_cons, List.length_nil]; omega) (fun s' h => hR (x :: xs) s' eo h) H' H' gp' sl' gs' { s' with heap := s'.heap.update S (Obj.mapSeq (·.push u)) } (#[].push u) c' [v] Z' ⟨fun p hp => ⟨keep _ _ (Ne.symm (nS p hp)) (T'.at_ p hp).1, (T'.at_ p hp).2⟩, T'.gens, T'.own⟩ Kept.refl I3 al' (.cons hv .nil) (.cons hx .nil) fun p hp r hr => ?_
    rcases List.mem_append.mp hr with hr | hr
    · exact dis' p hp r (List.mem_append_left _ hr)
    rcases List.mem_cons.mp hr with rfl | hr
    · exact nS p hp
    · exact dis' p hp r (List.mem_append_right _ hr)
end
end DL
end
section
namespace DL
open PySem PySem.Spec PyProof.Rows L2 _root_.GenW
theorem notStopD {P : Program} {w : World} {K : PySem.W.Frag} {outer : List PySem.Env} {H : Hp} {s s' : Shared} {E : XK} {e : Value} (hE : NoStop K E) (kin : K.In s'.heap) (c : CXd K P w outer H s E e s') : NotStop (model P w) e s'.heap := by
  obtain ⟨a, B, H', cls, d, yo, rfl, fl, _, _, _, _, _, _, hW⟩ := c
  obtain ⟨oe, vs, he, hz, hd⟩ := fl.there
  have L := PySem.W.looks_subIn (M := model P w) kin (hE cls d H' hW)
  intro A Q E' s2 hs hq
  simp only [isInstance]
  refine wpAny_bind (wpAny_typeOf_ref (o := oe) (by rw [hs]; exact he) ?_)
  rw [hz.1]
  exact L A Q E' s2 (fun b o z => by rw [hs]; exact z) hq
section
variable {X : Cx} {pins : List (Addr × Obj)} {σ : L2.St} {H : Hp}
/-- the module's objects stand where an exception has come out of a call -/
theorem kin_CXd {sc s' : Shared} {E : XK} {e : Value} (I1 : Inv X pins σ H sc) (hc : CXd X.K X.prog X.w X.stack H sc E e s') : X.K.In s'.heap := by
  obtain ⟨a, B, H', cls, d, yo, _, fl, _, ub, _⟩ := id hc
  refine I1.ok.mod.kin.keeps fun b o eb => fl.1 b o (ub.keep b o (I1.bs b o eb).1 (I1.bs b o eb).2 fun hm => ?_)
  rcases List.mem_cons.mp (I1.stkSub b hm) with z | z
  · have h1 := Heap.lt_size eb
    have h2 := Nat.le_trans I1.ok.bsz I1.ok.above
    rw [z] at h1
    exact absurd (Nat.lt_of_lt_of_le h1 h2) (Nat.lt_irrefl _)
  · exact I1.ok.nofr eb z
theorem call_listN {k : Nat} {B : Addr → Prop} {out : Outc} {EX : XK} {sc s : Shared} {u : Value} {Q' : Value → Shared → Prop} {E : Value → Shared → Prop} (I : Inv X pins σ H sc) (hr : RoomB true (k + 3) X.A) (hg : X.A.guards = some []) (GM : GMadeN X.prog X.w X.K X.mg X.base k X.stack sc H B out EX u s)
    (hlen : ∀ xs, out = .inl xs → xs.length ≤ sizeLine) (hQ : ∀ xs S s', out = .inl xs → sc.heap.objs.size ≤ S → Drained X pins σ S H xs s' → Q' (.ref S) s')
    (hE : ∀ y e s', out = .inr y → CXd X.K X.prog X.w X.stack H sc EX e s' → NotStop (model X.prog X.w) e s'.heap ∧ ∀ g, E e (s'.setGen g .finished)) :
    wpAny (model X.prog X.w) X.A (call (.type "list") [u]) Q' E s := by
  obtain ⟨a, gn, go, c, nm, qn, rfl, ha1, ha2, hgo, hgc, hgd, hgsl, hgs, hgsz, hos, hb, hl, hkp, hoth, wake⟩ := GM.ex
  have GO : GObj gn go := ⟨hgc, ⟨nm, qn, hgd⟩, hgsl⟩
  have hgI : s.heap.IsGen a gn := GO.isGen hgo
  have hSa : s.heap.objs.size ≠ a := Nat.ne_of_gt ha2
  refine callType_codes (Q₁ := fun obj s₁ => obj = .ref s.heap.objs.size ∧ s₁ = { s with heap := s.heap.push { cls := .type "list", data := .seq #[] } }) F.called_list (F.typeCall_list_1 _) F.entry_list_init
    (code_list_new _ ⟨rfl, rfl⟩) fun obj s₁ h₁ => ?_
  obtain ⟨rfl, rfl⟩ := h₁
  have hS : (s.heap.push { cls := .type "list", data := .seq #[] }).get? s.heap.objs.size = some { cls := .type "list", data := .seq #[] } := Heap.get?_push_size _ rfl
  refine ⟨⟨_, hS, rfl⟩, F.args_list_init_2 _ _, ?_⟩
  show wpAny _ X.A.in1.in1 (do let old ← Builtin.List.listItems (.ref s.heap.objs.size); Builtin.List.listUpdate (.ref s.heap.objs.size) (fun _ => #[]); letGo old.toList.reverse; Builtin.List.listExtendWith (.ref s.heap.objs.size) (.ref a) .none) _ _ _
  refine wpAny_bind ?_
  unfold Builtin.List.listItems
  refine wpAny_bind (wpAny_seqItems hS rfl (wpAny_pure ?_))
  show wpAny _ X.A.in1.in1 (updateSeq s.heap.objs.size (fun _ => #[]) >>= fun _ => letGo (#[] : Array Value).toList.reverse >>= fun _ => Builtin.List.listExtendWith (.ref s.heap.objs.size) (.ref a) .none) _ _ _
  refine wpAny_bind (wpAny_updateSeq hS rfl ?_)
  have hS2 := Heap.get?_update_self (Obj.mapSeq (fun _ => (#[] : Array Value))) hS rfl
  refine wpAny_bind (wpAny_letGo ?_)
  unfold Builtin.List.listExtendWith
  have up : ∀ (h : Heap) (f : Obj → Obj), (∀ b o, s.heap.get? b = some o → h.get? b = some o) → ∀ b o, s.heap.get? b = some o → (h.update s.heap.objs.size f).get? b = some o := fun h f q b o e =>
    (Heap.get?_update_other _ _ (Ne.symm (Nat.ne_of_lt (Heap.lt_size e)))).trans (q b o e)
  have k1 : ∀ b o, s.heap.get? b = some o → (s.heap.push { cls := .type "list", data := .seq #[] }).get? b = some o := fun b o e => Heap.get?_push_of_some _ e
  have k2 := up _ (Obj.mapSeq (fun _ => (#[] : Array Value))) k1
  have gty : ∀ {h : Heap}, (∀ b o, s.heap.get? b = some o → h.get? b = some o) → h.IsGen a gn := fun {h} q => hgI.keeps q
  refine wpAny_bind (wpAny_typeOf (Heap.IsGen.typeIs (s := { s with heap := _ }) (gty k2)) ?_)
  have h1 : Builtin.List.listSameRef (.ref s.heap.objs.size) (.ref a) = false := by simp [Builtin.List.listSameRef, hSa]
  have h2 : (Value.type "generator" == Value.type "list") = false := by decide
  have h3 : (Value.type "generator" == Value.type "tuple") = false := by decide
  simp only [h1, h2, h3, Bool.or_false, Bool.false_eq_true, if_false]
  refine wpAny_bind (wpAny_pyIter_gen (s := { s with heap := _ }) (gty k2) ?_)
  refine wpAny_bind (wpAny_holding ?_)
  unfold Builtin.List.listLengthHint
  refine wpAny_bind (wpAny_specialOf (Heap.IsGen.typeIs (s := { s with heap := _ }) (gty k2)) F.gen_no_len ?_)
  show wpAny _ X.A.in1.in1 (specialOf (Value.ref a) (Str.ofString "__length_hint__") >>= _) _ _ _
  refine wpAny_bind (wpAny_specialOf (Heap.IsGen.typeIs (s := { s with heap := _ }) (gty k2)) F.gen_no_hint ?_)
  refine wpAny_pure ?_
  show wpAny _ X.A.in1.in1 (rule "list.extend.makes-room" >>= fun _ => Builtin.List.listTouch (.ref s.heap.objs.size) >>= fun _ =>
    again (.builtin "list.extend.loop" ⟨[.ref s.heap.objs.size, .ref a, .none], []⟩)) _ _ _
  refine wpAny_bind (wpAny_rule ?_)
  refine wpAny_bind ?_
  show wpAny _ X.A.in1.in1 (updateSeq s.heap.objs.size (·.push .none) >>= fun _ => updateSeq s.heap.objs.size (·.pop)) _ _ _
  refine wpAny_bind (wpAny_updateSeq hS2 rfl ?_)
  have hS3 := Heap.get?_update_self (Obj.mapSeq (·.push Value.none)) hS2 rfl
  refine wpAny_updateSeq (hz := by seq_fits) hS3 rfl ?_
  have hS4 := Heap.get?_update_self (Obj.mapSeq (·.pop)) hS3 rfl
  have k4 := up _ (Obj.mapSeq (·.pop)) (up _ (Obj.mapSeq (·.push Value.none)) k2)
  refine wpAny_pure ⟨plainId_quiet F.plain_extend_loop _, ?_⟩
  obtain ⟨c4, hS5⟩ : ∃ c4, (((((s.heap.push { cls := .type "list", data := .seq #[] }).update s.heap.objs.size (Obj.mapSeq fun _ => #[])).update s.heap.objs.size (Obj.mapSeq (·.push Value.none))).update s.heap.objs.size (Obj.mapSeq (·.pop)))).get? s.heap.objs.size = some (lstObj #[] c4) := ⟨_, hS4⟩
  have hL1 : sc.heap.objs.size ≤ s.heap.objs.size := Nat.le_of_lt (Nat.lt_trans ha1 ha2)
  refine drain1 (A := X.A.in1) (k := k) I.ok.frames (hr.hd_ rfl) (by have := hr.dp; show X.A.depth < _; omega) ⟨hr.hd_, by have := hr.dp; show X.A.depth + 3 * k + 5 < _; omega, by have := hr.un; show X.A.units + 1 + 1 + 1 + 16 * k + 200 < _; omega⟩ hg GO I rfl hL1 (Nat.le_refl _) hS5 (k4 a go hgo) hgs hos hb (hl.keeps k4) (fun b o e => k4 b o (hkp b o e))
    (fun s2 q1 q2 q3 q4 => wake _ s2 ⟨hr.hd_, by have := hr.dp; show X.A.depth + 3 * k + 5 < _; omega, by have := hr.un; show X.A.units + 1 + 1 + 1 + 16 * k + 200 < _; omega⟩ hg I.ok.frames (fun b o e => q1 b o (k4 b o e)) q2 q3 q4) hlen (fun xs s' eo h => ⟨rfl, hQ xs _ s' eo hL1 h⟩) (fun y e s' eo h => ?_)
  obtain ⟨z1, z2⟩ := hE y e s' eo h
  exact ⟨z1, z2 gn⟩
end
end DL
end
section
namespace DL
open PySem PySem.Spec PyProof.Rows L2 _root_.GenW
/-- errors of this class end no iterator -/
def NoStp (K : PySem.W.Frag) (es : List Str) : Prop := ∀ n ∈ es, PySem.W.subIn K (.ref (He.ga K n)) (.type "StopIteration") = some false
theorem noStp_nil {K : PySem.W.Frag} : NoStp K [] := fun n h => by simp at h
/-- list(g(..)); es: the classes of errors that it may raise -/
def eListG (es : List Str) (sp : GSp) (ma : XA) : XE := fun E => bnd (ma E) fun ds => fun c P Xp => ∃ out, sp ds out ∧ match out with
  | .inl xs => xs.length ≤ sizeLine ∧ flatAll xs = true ∧ P (.list xs) c
  | .inr y => y.cls ∈ es ∧ Xp y c
section
variable {X : Cx} {p : Par} {k : Nat} {vb : Bool}
def gEX (K : PySem.W.Frag) (es : List Str) (EK : XK) (out : Outc) : XK := fun cls dd H' => ∃ y, out = .inr y ∧ cls = .ref (He.ga K y.cls) ∧ y.cls ∈ es ∧ EK cls dd H'
theorem gEX_no {K : PySem.W.Frag} {es : List Str} {EK : XK} {out : Outc} (h : NoStp K es) : NoStop K (gEX K es EK out) := fun cls d H ⟨y, _, e, hm, _⟩ => by rw [e]; exact h _ hm
/-- a generator def is called -/
structure GCalled (X : Cx) (p : Par) (k : Nat) (es : List Str) (sp : GSp) (pins : List (Addr × Obj)) (σ : L2.St) (Kd : Outc → (Addr → Prop) → List V → Hp → Prop) (u : Value) (s' : Shared) : Prop where
  ex : ∃ out B vs H1 sc, Kd out B vs H1 ∧ Inv X pins σ H1 sc ∧ GMadeN X.prog X.w X.K X.mg X.base k X.stack sc H1 B out (gEX X.K es (p.EK σ) out) u s'
theorem eval_gen {j : Nat} (hj : j ≤ k) (S : SitB true vb X p k) {es : List Str} {sp : GSp} {x : Str} {f : Addr} {fd : FuncData} {ps : List Str} {e : Expr} {er : List Expr} {ta : TA} {pn pos : Pos} (F : GFnN X.prog X.w X.K X.mg X.base j f fd ps sp) (D : Def X.K X.mg x f fd ps) (ha : PA X (e :: er) ta)
    (hg : Gl X x) (hdb : (x == ("__debug__" : Str)) = false) (he : starEach (e :: er) X.env = (false, eval e X.env) :: starEach er X.env) (hpl : (backTo pos (starEach er X.env)).any (·.1) = false)
    {pins : List (Addr × Obj)} {σ : L2.St} {H : Hp} {s : Shared} {Kd : Outc → (Addr → Prop) → List V → Hp → Prop} (I : Inv X pins σ H s)
    (h : ta σ H fun vs H1 => ∃ B ds out, (∀ a, B a → H1 a ≠ none) ∧ Reps X.K B H1 vs ds ∧ sp ds out ∧ (∀ y, out = .inr y → y.cls ∈ es ∧ ∀ cl dd H', All H1 H' → ExRep X.K X.mg B H' y cl dd → p.EK σ cl dd H') ∧ Kd out B vs H1) :
    wpAny (model X.prog X.w) X.A (eval (.Call (.Name x pn) (e :: er) [] pos) X.env) (GCalled X p j es sp pins σ Kd) X.xe s := by
  refine wpAny_Call_Name_kw (ld_glob I hg D.mg ?_ hdb)
  refine PySem.W.callWith_K (h₀ := X.base) I.ok.mod.kin D.kp (thn (ha.run pos pins s σ H _ I h) fun us s1 ⟨vs, H1, I1, r, B, ds, out, trk, rs, hsp, hex, hK⟩ => ⟨I1.kIn, ?_⟩) he hpl
  have hl : us.length = ps.length := r.length.symm.trans (rs.length.trans (F.len ds out hsp))
  have bound := D.bd s1 us I1.kIn (by rw [List.append_nil]; exact hl)
  rw [List.append_nil] at bound
  refine wpAny_call (codeAny_mono (F.run X.A X.stack s1 H1 ⟨us, []⟩ us vs ds B out (gEX X.K es (p.EK σ) out) (S.rm.mono hj) I1.env0 bound r trk rs hsp fun y cl dd H' eo al er => ?_) fun res s' hq => ?_)
  · obtain ⟨h1, h2⟩ := hex y eo
    exact ⟨y, eo, er.1, h1, h2 cl dd H' al er⟩
  · match res, hq with
    | .ok (.ret u), hq => exact ⟨out, B, vs, H1, s1, hK, I1, hq⟩
def tListN (X : Cx) (p : Par) (es : List Str) (sp : GSp) (ta : TA) : TE := fun σ H Q => ta σ H fun vs H1 => ∃ B ds out, (∀ a, B a → H1 a ≠ none) ∧ Reps X.K B H1 vs ds ∧ sp ds out ∧ (∀ y, out = .inr y → y.cls ∈ es ∧ ∀ cl dd H', All H1 H' → ExRep X.K X.mg B H' y cl dd → p.EK σ cl dd H') ∧
  ∀ xs, out = .inl xs → xs.length ≤ sizeLine ∧ ∀ H' S ws, All H1 H' → H' S = none → Reps X.K (fun _ => False) H' ws xs → Q (.ref S) (upd H' S (.lst ws))
theorem pd_listGen {j : Nat} (S : SitB true vb X p k) (hj : j + 3 ≤ k) {es : List Str} (ns : NoStp X.K es) {sp : GSp} {x : Str} {f : Addr} {fd : FuncData} {ps : List Str} {e : Expr} {er : List Expr} {ma : XA} {pl pn pos pos' : Pos} (F : GFnN X.prog X.w X.K X.mg X.base j f fd ps sp) (D : Def X.K X.mg x f fd ps) (ha : PDA X p (e :: er) ma)
    (hm : X.mg "list" = none) (hgl : Gl X "list" := by rfl) (hg : Gl X x := by rfl) (hdb : (x == ("__debug__" : Str)) = false := by decide) (he : starEach (e :: er) X.env = (false, eval e X.env) :: starEach er X.env := by rfl) (hpl : (backTo pos' (starEach er X.env)).any (·.1) = false := by rfl)
    (he1 : starEach [.Call (.Name x pn) (e :: er) [] pos'] X.env = (false, eval (.Call (.Name x pn) (e :: er) [] pos') X.env) :: starEach [] X.env := by rfl) (hv : bootBuiltins "list" = some (.type "list") := by decide +kernel) :
    PD X p (.Call (.Name "list" pl) [.Call (.Name x pn) (e :: er) [] pos'] [] pos) (eListG es sp ma) := by
  obtain ⟨ta, a1, a2⟩ := ha.ex
  refine ⟨tListN X p es sp ta, ⟨fun pins s σ H Q I h => ?_⟩, fun B H σ E c P Q st r mm kk => ?_⟩
  · refine wpAny_Call_Name_kw (ld_blt I hgl hm hv ?_ (by decide) (by decide))
    refine PyProof.Rows.callWith_type1 ?_ he1 rfl
    rw [he1]
    show wpAny _ _ (spliced ((false, eval _ X.env) :: backTo pos (starEach [] X.env))) _ _ s
    have hw : ta σ H fun vs H1 => ∃ B ds out, (∀ a, B a → H1 a ≠ none) ∧ Reps X.K B H1 vs ds ∧ sp ds out ∧ (∀ y, out = .inr y → y.cls ∈ es ∧ ∀ cl dd H', All H1 H' → ExRep X.K X.mg B H' y cl dd → p.EK σ cl dd H') ∧
        ∀ xs, out = .inl xs → xs.length ≤ sizeLine ∧ ∀ H' S ws, All H1 H' → H' S = none → Reps X.K (fun _ => False) H' ws xs → Q (.ref S) (upd H' S (.lst ws)) := h
    refine Calls.spliced_cons (thn (eval_gen (j := j) (by omega) S F D a1 hg hdb he hpl I (Kd := fun out _ _ H1 => ∀ xs, out = .inl xs → xs.length ≤ sizeLine ∧ ∀ H' S ws, All H1 H' → H' S = none → Reps X.K (fun _ => False) H' ws xs → Q (.ref S) (upd H' S (.lst ws))) hw) fun u s1 G => ?_)
    obtain ⟨out, B, vs, H1, sc, hK, I1, GM⟩ := G.ex
    refine Calls.spliced_nil ?_
    refine call_listN I1 (S.rm.mono hj) S.gd GM (fun xs eo => (hK xs eo).1) (fun xs Sa s' eo hS dr => ?_) fun y e s' eo hc => ⟨notStopD (gEX_no ns) (kin_CXd I1 hc) hc, fun g => ?_⟩
    · obtain ⟨H', ws, acc, c, I2, al, rv, rp⟩ := dr
      obtain ⟨_, h2, _⟩ := I2.pin (Sa, lstObj acc c) (List.mem_append_right _ List.mem_cons_self)
      refine ⟨.ref Sa, upd H' Sa (.lst ws), track_list I2 rv (by rw [rp.length]; exact (hK xs eo).1) (Nat.le_trans I1.sz hS) (fun x c e z => ?_) (fun q hq z => ?_), rfl, (hK xs eo).2 H' Sa ws al h2 rp⟩
      · obtain ⟨v, o, ho, _⟩ := I1.cell x c e
        have := Heap.lt_size ho
        rw [z] at this
        exact absurd this (Nat.not_lt.mpr hS)
      · have := Heap.lt_size (I1.pin q hq).1
        rw [z] at this
        exact absurd this (Nat.not_lt.mpr hS)
    · refine S.ps σ pins H1 sc e _ I1 ?_
      have hc2 := hc.imp (E' := p.EK σ) fun _ _ _ ⟨_, _, _, _, z⟩ => z
      exact hc2.gens rfl rfl (allBare_setGen hc2.bare rfl)
  · refine a2 B H σ E c _ _ st r mm fun ds c1 vs H1 m1 e1 s1 r1 => ?_
    obtain ⟨out, hsp, hm⟩ := m1
    have st1 := st.go e1 s1
    refine ⟨bm p B c1, ds, out, st1.trk, r1, hsp, fun y eo => ?_, fun xs eo => ?_⟩
    · subst eo
      refine ⟨hm.1, fun cl dd H' al er => ?_⟩
      exact S.ok.exc c1 c1 y cl dd B H1 H' σ st1 (r.go st e1).fx hm.2 (st1.all S.ok al) al.ev er
    · subst eo
      refine ⟨hm.1, fun H' Sa ws al hn rp => ?_⟩
      have al2 : All H1 (upd H' Sa (.lst ws)) := al.trans (All.new hn)
      refine kk (.list xs) c1 (.ref Sa) _ hm.2.2 (e1.trans al2.ev) (st1.all S.ok al2) ?_
      refine .lst upd_same (fun z => ?_) ((Reps.flat hm.2.1 rp).mono (All.new hn).ext)
      have := st1.trk Sa z
      cases q : H1 Sa with
      | none => exact this q
      | some u => rw [al Sa u q] at hn; cases hn
end
end DL
end
section
namespace DL
open PySem PySem.Spec PyProof.Rows L2 _root_.GenW
/-- for x in g(..) within a generator -/
def gForG (sp : GSp) (m : XA) (t : Tg) (b : GXS) : GXS := fun E out K => m E sx0 (fun ds _ => ∃ ys, sp ds (.inl ys) ∧ gLoop t b ys E out K) (xpOf out)
theorem Room_in1 {k : Nat} {A : Around} (r : RoomB true (k + 1) A) : RoomB true k A.in1 :=
  ⟨r.hd_, by have := r.dp; show A.depth + 3 * k + 5 < _; omega, by have := r.un; show A.units + 1 + 16 * k + 200 < _; omega⟩
section
variable {P : Program} {w : World} {K : PySem.W.Frag} {mg : Str → Option Value} {base : Heap} {N : List Str} {qual : Str} {st : Stmt} {f : Addr} {cdv : Value} {k : Nat} {b : Bool} {A : Around} {outer : List PySem.Env} {L a : Addr} {gn : Nat} {go : Obj}
/-- the generator with another one that sleeps beside it -/
theorem got_at {q : Sq} {ip : List (Addr × Obj)} {σ : L2.St} {H : Hp} {s : Shared} {E : Env} {A2 : Around} {O2 : List PySem.Env} {L2' a2 : Addr} {gn2 : Nat} {go2 : Obj} {ys : List D} {H1 : Hp} {gp : List (Addr × Obj)} {sl : List (Nat × GenState)} {gs : GenState} (Dy : DynOk K mg base N qual st f cdv k A outer L a go)
    (I : Inv (genX P w K mg base N qual st f cdv L A outer q.s0 q.H0 q.E [(a, go)]) (ip ++ q.yp L) σ H s) (bd : ∃ B, St0 q.par sx0 B H ∧ EnvR K q.par sx0 B H σ E) (run : s.gens[gn]? = some .running) (oth : ∀ g x, q.ws.gens[g]? = some x → Stay x → g ∉ q.slw → g ≠ gn → s.gens[g]? = some x)
    (ipq : ∀ p ∈ ip, L ≤ p.1 ∧ Nw q.gpw q.ws p.1) (Z : Sleeper P w K mg base A2 O2 L2' a2 gn2 go2 ys H1 gp sl gs) (T : Stands gn2 gp sl gs H s) (hL : L < L2') (nw : ∀ p ∈ gp, Nw q.gpw q.ws p.1) (ng2 : Ng q.slw q.ws gn2) (ng : ∀ x ∈ sl, Ng q.slw q.ws x.1) :
    GAt P w K mg base N qual st f cdv A outer L a gn go q (ip ++ gp) ((gn2, gs) :: sl) σ H s E := by
  refine ⟨I.pins_of fun p hp => ?_, bd, fun x hx => ?_, run, oth, fun p hp => ?_⟩
  · rcases List.mem_append.mp hp with hp | hp
    · rcases List.mem_append.mp hp with hp | hp
      · exact I.pin p (List.mem_append_right _ (List.mem_append_left _ hp))
      · have h1 := (Z.gpo p hp).1
        exact ⟨(T.at_ p hp).1, (T.at_ p hp).2, Nat.ne_of_gt (Nat.lt_of_lt_of_le hL h1), fun z => absurd (Dy.fl _ z) (Nat.not_lt.mpr (Nat.le_trans (Nat.le_of_lt hL) h1)), (Z.gpo p hp).2⟩
    · exact I.pin p (List.mem_append_right _ (List.mem_append_right _ hp))
  · rcases List.mem_cons.mp hx with rfl | hx
    · exact ⟨T.own, Z.susp, Z.ng, ng2⟩
    · exact ⟨T.gens x hx, (Z.slo x hx).1, (Z.slo x hx).2.1, ng x hx⟩
  · rcases List.mem_append.mp hp with hp | hp
    · exact ipq p hp
    · exact ⟨Nat.le_trans (Nat.le_of_lt hL) (Z.gpo p hp).1, nw p hp⟩
theorem ng_from {q : Sq} {s : Shared} (run : s.gens[gn]? = some .running) (oth : ∀ g x, q.ws.gens[g]? = some x → Stay x → g ∉ q.slw → g ≠ gn → s.gens[g]? = some x) {i : Nat} (h : ∀ x, s.gens[i]? = some x → ¬ Stay x) : Ng q.slw q.ws i := by
  by_cases h1 : i ∈ q.slw
  · exact .inl h1
  refine .inr fun x e st => ?_
  by_cases h2 : i = gn
  · subst h2
    exact h _ run trivial
  · exact h x (oth i x e st h1 h2) st
theorem gs_forG {j : Nat} {tg : Expr} {x : Str} {f2 : Addr} {fd2 : FuncData} {ps2 : List Str} {sp2 : GSp} {e : Expr} {er : List Expr} {body : List Stmt} {ma : XA} {t : Tg} {u : GXS} {pn cpos pos : Pos} (F : GFnN P w K mg base j f2 fd2 ps2 sp2) (hj : j + 1 ≤ k) (Df : Def K mg x f2 fd2 ps2)
    (ha : InGen P w K mg base N qual st f k fun X p => PDA X p (e :: er) ma) (hg : InGen P w K mg base N qual st f k fun X p => PG X tg (gOf X.K t)) (hb : GSs P w K mg base N qual st f cdv k false body u)
    (side : InGen P w K mg base N qual st f k fun X p => Gl X x ∧ starEach (e :: er) X.env = (false, eval e X.env) :: starEach er X.env ∧ (backTo cpos (starEach er X.env)).any (·.1) = false) (hdb : (x == ("__debug__" : Str)) = false := by decide)
    (hs : ∀ L y, foldedSetIterable (.Call (.Name x pn) (e :: er) [] cpos) (envOfC qual (defScope st) L f cdv) y = pure y := by intro _ _; rfl) :
    GS1 P w K mg base N qual st f cdv k true (.For tg (.Call (.Name x pn) (e :: er) [] cpos) body [] pos) (gForG sp2 ma t u) := by
  refine ⟨fun A outer L a gn go Dy q out Q qx ip sl hsl σ H s E g c fs Kc J gd lv fc KK Hk hk kk hu => sg_For ?_ (hs L)⟩
  have hsl := hsl rfl
  subst hsl
  obtain ⟨ta, a1, a2⟩ := (ha.at Dy Q).ex
  obtain ⟨sd1, sd2, sd3⟩ := side.at (P := P) (w := w) Dy Q
  obtain ⟨B, s1, r1⟩ := g.bd
  have S := Dy.sit (P := P) (w := w) Q
  rw [fc.over]
  have hu : ma E sx0 (fun ds _ => ∃ ys, sp2 ds (.inl ys) ∧ gLoop t u ys E out KK) (xpOf out) := hu
  rw [← qx.xp] at hu
  have ev := eval_gen (pn := pn) (pos := cpos) (by omega : j ≤ k) S (es := []) (x := x) (Kd := fun o B2 vs H1 => ∃ ys, o = .inl ys ∧ gLoop t u ys E out KK ∧ Kept H H1 ∧ All q.H0 H1 ∧ ∃ B', St0 q.par sx0 B' H1 ∧ EnvR K q.par sx0 B' H1 σ E) F Df a1 sd1 hdb sd2 sd3 (Inv.freeze g.inv)
    (a2 B H σ E sx0 _ _ s1 r1 hu fun ds c1 vs H1 m1 e1 si rs => by
      obtain ⟨ys, h1, h2⟩ := m1
      have hc : c1 = sx0 := si
      subst hc
      have st1 := s1.go e1 si
      exact ⟨bm q.par B sx0, ds, .inl ys, st1.trk, rs, h1, (fun y e => nomatch e), ys, rfl, h2, e1.ext.imm, g.all.trans (all_of e1.ext), B, st1, r1.go s1 e1⟩)
  refine wpAny_mono (wpAny_fz ev) (fun uv s2 ⟨z2, fz2, G⟩ => ?_) fun e s' ⟨z, fz, xe⟩ => kk.exc q out e s' Q qx (xe_thaw asleep_stay fz xe)
  obtain ⟨o2, B2, vs2, H2, sc, ⟨ys, rfl, hl, hk2, al2, B3, st3, r3⟩, Ic, GM⟩ := G.ex
  obtain ⟨a2', gn2, go2, c2, nm, qn, rfl, ha1, ha2, hgo, hgc, hgd, hgsl, hgs, hgsz, hos, hbz, hlz, hkp, hothz, wake⟩ := GM.ex
  have GO : GObj gn2 go2 := ⟨hgc, ⟨nm, qn, hgd⟩, hgsl⟩
  have hs2 : s2.heap = z2.heap := fz2.heap.symm
  have run2 : s2.gens[gn]? = some .running := fz2.kept g.run trivial
  have oth2 : ∀ g0 x, q.ws.gens[g0]? = some x → Stay x → g0 ∉ q.slw → g0 ≠ gn → s2.gens[g0]? = some x := fun i x e h1 h2 h3 => fz2.kept (g.oth i x e h1 h2 h3) h1
  have fresh2 : s2.gens[gn2]? = some (.fresh c2) := by
    cases e : asleep s gn2 with
    | none => rw [← fz2.un gn2 e]; exact hgs
    | some x =>
      obtain ⟨_, h2⟩ := fz2.fr gn2 x e
      rw [hgs] at h2
      have := asleep_stay gn2 x e
      cases x <;> simp [frz, Stay] at h2 this
  have bare2 : AllBare s2.gens := fz2.bare hbz
  have ng2 : Ng q.slw q.ws gn2 := ng_from run2 oth2 fun x e st => by
    rw [fresh2] at e
    cases e
    exact st
  have ne2 : gn ≠ gn2 := fun z => by rw [z, fresh2] at run2; cases run2
  have hLc : L < sc.heap.objs.size := Ic.lt
  refine wpAny_pyIter_gen (GO.isGen (by rw [hs2]; exact hgo)) fun p => ?_
  have gl := fun (kx : Result → Sem PySem.Fin) => fc.loop (kk := kx) (c' := .forLoop tg (.ref a2') body [] (envOfC qual (defScope st) L f cdv)) (l := lv []) (kp := []) (p := p) rfl rfl
  have ee : ∀ (q : Sq) (out : Outc) (x : Value) (s' : Shared), QOk K mg outer L a q → QX q out → (genX P w K mg base N qual st f cdv L A outer q.s0 q.H0 q.E [(a, go)]).xe x s' → Sg (model P w) A (postQ P w K mg base A outer L a gn go q out) (.forLoop tg (.ref a2') body [] (envOfC qual (defScope st) L f cdv))
      (NF (envOfC qual (defScope st) L f cdv) x)
      (.ret (fun r => ((match r with | .ok f => (.pure f : Sem Flow) | .error e => .raise e).onRaise (cameBack (envOfC qual (defScope st) L f cdv))).wrap Kc J gd lv) none (gd false) (lv []) c p [] :: fs) s' := fun q out x s' Q qx hx => by
    refine sg_wrap ?_
    rw [(gl _).over]
    refine wpAny_bind (wpAny_mono ((Dy.sit (P := P) (w := w) Q).po x s' hx) (fun _ s'' hcb => wpAny_theTreesLotGoes ?_) fun y s'' hcb => ?_)
    · exact sg_leaf (.error x) (sg_cameBack fc.over hcb fun x s' hx => kk.exc q out x s' Q qx hx)
    · exact sg_leaf (.error y) (sg_cameBack fc.over hcb fun x s' hx => kk.exc q out x s' Q qx hx)
  -- the turn: what follows an item
  have turn : ∀ (ys : List D), (∀ (q : Sq) (out : Outc) (s : Shared) (σ : L2.St) (H H1 : Hp) (E : Env) (gp : List (Addr × Obj)) (sl2 : List (Nat × GenState)) (gs : GenState), QOk K mg outer L a q → QX q out → GAt P w K mg base N qual st f cdv A outer L a gn go q (ip ++ gp) ((gn2, gs) :: sl2) σ H s E → Kept H2 H → Kept H1 H →
      Sleeper P w K mg base (A.deeper (envOfC qual (defScope st) L f cdv)).in1 (envOfC qual (defScope st) L f cdv :: outer) sc.heap.objs.size a2' gn2 go2 ys H1 gp sl2 gs → (∀ p ∈ gp, ∀ r ∈ (a, go) :: ip, r.1 ≠ p.1) → gLoop t u ys E out KK →
      Sg (model P w) A (postQ P w K mg base A outer L a gn go q out) (.forLoop tg (.ref a2') body [] (envOfC qual (defScope st) L f cdv)) ((model P w).den (.forLoop tg (.ref a2') body [] (envOfC qual (defScope st) L f cdv)))
        (.ret (fun r => ((match r with | .ok f => (.pure f : Sem Flow) | .error e => .raise e).onRaise (cameBack (envOfC qual (defScope st) L f cdv))).wrap Kc J gd lv) none (gd false) (lv []) c p [] :: fs) s) →
    ∀ (q : Sq) (out : Outc) (s s' : Shared) (σ : L2.St) (H : Hp) (E : Env) (d : D) (slw : List Nat) (old : Addr → Prop) (v : Value), QOk K mg outer L a q → QX q out → (∃ B, St0 q.par sx0 B H ∧ EnvR K q.par sx0 B H σ E) → Kept H2 H → All q.H0 H → s'.gens[gn]? = some .running → (∀ g0 x, q.ws.gens[g0]? = some x → Stay x → g0 ∉ q.slw → g0 ≠ gn → s'.gens[g0]? = some x) → (∀ p ∈ ip, L ≤ p.1 ∧ Nw q.gpw q.ws p.1) →
      (∀ b, L ≤ b → (old b ∨ s.heap.get? b = none ∨ ∃ v, s.heap.IsCell b v) → ∀ H', All H H' → H' b = none → sc.heap.objs.size ≤ b → Nw q.gpw q.ws b) → (∀ i, Ng slw s i → i ≠ gn2 → Ng q.slw q.ws i) → Ng q.slw q.ws gn2 → gLoop t u (d :: ys) E out KK →
      Got (genX P w K mg base N qual st f cdv L A outer q.s0 q.H0 q.E [(a, go)]) (ip ++ q.yp L) σ (A.deeper (envOfC qual (defScope st) L f cdv)).in1 sc.heap.objs.size a2' gn2 go2 H slw s old (d :: ys) (some v) s' →
      wpAny (model P w) (A.deeper (envOfC qual (defScope st) L f cdv)) (letOwnedTupleGo tg (.ref a2') v) (fun _ s2 => wpAny (model P w) (A.deeper (envOfC qual (defScope st) L f cdv)) (assign tg (envOfC qual (defScope st) L f cdv) v) (fun _ s3 =>
            Sg (model P w) A (postQ P w K mg base A outer L a gn go q out) (.forLoop tg (.ref a2') body [] (envOfC qual (defScope st) L f cdv)) ((execs body (envOfC qual (defScope st) L f cdv)).wrap (fun f' => match f' with
              | .next | .cont => .pure (.again (.forLoop tg (.ref a2') body [] (envOfC qual (defScope st) L f cdv)))
              | .brk => .pure (.done .next)
              | .ret v => .pure (.done (.ret v))) (NF (envOfC qual (defScope st) L f cdv)) id id) (.ret (fun r => ((match r with | .ok f => (.pure f : Sem Flow) | .error e => .raise e).onRaise (cameBack (envOfC qual (defScope st) L f cdv))).wrap Kc J gd lv) none (gd false) (lv []) c p [] :: fs) s3)
            (fun x s' => Sg (model P w) A (postQ P w K mg base A outer L a gn go q out) (.forLoop tg (.ref a2') body [] (envOfC qual (defScope st) L f cdv)) (NF (envOfC qual (defScope st) L f cdv) x) (.ret (fun r => ((match r with | .ok f => (.pure f : Sem Flow) | .error e => .raise e).onRaise (cameBack (envOfC qual (defScope st) L f cdv))).wrap Kc J gd lv) none (gd false) (lv []) c p [] :: fs) s') s2)
            (fun x s' => Sg (model P w) A (postQ P w K mg base A outer L a gn go q out) (.forLoop tg (.ref a2') body [] (envOfC qual (defScope st) L f cdv)) (NF (envOfC qual (defScope st) L f cdv) x) (.ret (fun r => ((match r with | .ok f => (.pure f : Sem Flow) | .error e => .raise e).onRaise (cameBack (envOfC qual (defScope st) L f cdv))).wrap Kc J gd lv) none (gd false) (lv []) c p [] :: fs) s') s' := by
    intro ys cont q out s s' σ H E d slw old v Q qx bdh kH alH run oth ipq hnw hng ng2 hl got
    obtain ⟨u', v', H', gp, sl2, gs, e1, hv, fd, rd, I', al, _, _, Z, T, dis, old', ngs⟩ := got
    cases e1
    obtain ⟨E1, hp, hbody⟩ := hl
    obtain ⟨B, t1, r1⟩ := bdh
    have t5 : St0 q.par sx0 B H' := t1.go al.ev (t1.all (par_ok Q) al)
    have hgo' := (T.at_ (a2', go2) Z.gen).1
    obtain ⟨nm, qn, hgd⟩ := GO.data
    refine L2.go_of hgo' GO.cls hgd (by decide) ?_
    have nw : ∀ p ∈ gp, Nw q.gpw q.ws p.1 := fun p hp => hnw p.1 (Nat.le_trans (Nat.le_of_lt hLc) (Z.gpo p hp).1) (old' p hp) H' al (T.at_ p hp).2 (Z.gpo p hp).1
    have ng : ∀ x ∈ sl2, Ng q.slw q.ws x.1 := fun x hx => hng x.1 (ngs x hx) (Z.slo x hx).2.2
    have g0 := got_at Dy I' ⟨B, t5, r1.go t1 al.ev⟩ run oth ipq Z T hLc nw ng2 ng
    have put := ((hg.at (P := P) (w := w) Dy Q).run _ (frozen s') σ H' v' v (fun σ6 H6 => H6 = H' ∧ EnvR K q.par sx0 B H' σ6 E1) (Inv.freeze g0.inv) hv (gOf_put rfl (r1.go t1 al.ev) (rd.flat fd) hp _ fun σ6 e6 _ _ => ⟨rfl, e6⟩))
    refine wpAny_mono (wpAny_fz put) (fun _ s6 ⟨z6, fz6, σ6, H6, I6, e6, r6⟩ => ?_) fun x s' ⟨z, fz, xe⟩ => ee q out x s' Q qx (xe_thaw asleep_stay fz xe)
    subst e6
    have g6 : GAt P w K mg base N qual st f cdv A outer L a gn go q (ip ++ gp) ((gn2, gs) :: sl2) σ6 H6 s6 E1 :=
      ⟨Inv.thaw I6 fz6, ⟨B, t5, r6⟩, fun x hx => ⟨fz6.kept (g0.sl x hx).1 (g0.sl x hx).2.1.stay, (g0.sl x hx).2⟩, fz6.kept g0.run trivial, fun i x e h1 h2 h3 => fz6.kept (g0.oth i x e h1 h2 h3) h1, g0.ipq⟩
    refine hb.run A outer L a gn go Dy q out Q qx (ip ++ gp) ((gn2, gs) :: sl2) (fun z => nomatch z) σ6 H6 s6 E1 g6 _ _ _ _ id id (gl _) _ H6 Kept.refl ⟨fun q' out' σ7 H7 s7 E7 Q' qx' g7 hk7 hK => ?_, fun q' out' x s7 Q' qx' hx => ee q' out' x s7 Q' qx' hx⟩ hbody
    exact sg_again rfl (cont q' out' s7 σ7 H7 H6 E7 gp sl2 gs Q' qx' g7 ((kH.trans al.kept).trans hk7) hk7 Z (fun p hp r hr => dis p hp r (List.mem_append.mpr ((List.mem_cons.mp hr).elim (fun z => .inl (by rw [z]; simp)) fun z => .inr (List.mem_append_left _ z)))) hK)
  have loop : ∀ (ys : List D) (q : Sq) (out : Outc) (s : Shared) (σ : L2.St) (H H1 : Hp) (E : Env) (gp : List (Addr × Obj)) (sl2 : List (Nat × GenState)) (gs : GenState), QOk K mg outer L a q → QX q out → GAt P w K mg base N qual st f cdv A outer L a gn go q (ip ++ gp) ((gn2, gs) :: sl2) σ H s E → Kept H2 H → Kept H1 H →
      Sleeper P w K mg base (A.deeper (envOfC qual (defScope st) L f cdv)).in1 (envOfC qual (defScope st) L f cdv :: outer) sc.heap.objs.size a2' gn2 go2 ys H1 gp sl2 gs → (∀ p ∈ gp, ∀ r ∈ (a, go) :: ip, r.1 ≠ p.1) → gLoop t u ys E out KK →
      Sg (model P w) A (postQ P w K mg base A outer L a gn go q out) (.forLoop tg (.ref a2') body [] (envOfC qual (defScope st) L f cdv)) ((model P w).den (.forLoop tg (.ref a2') body [] (envOfC qual (defScope st) L f cdv)))
        (.ret (fun r => ((match r with | .ok f => (.pure f : Sem Flow) | .error e => .raise e).onRaise (cameBack (envOfC qual (defScope st) L f cdv))).wrap Kc J gd lv) none (gd false) (lv []) c p [] :: fs) s := by
    intro ys
    induction ys with
    | nil => ?_
    | cons d ys ih => ?_
    all_goals intro q out s σ H H1 E gp sl2 gs Q qx g kH2 kH1 Z dis hl
    all_goals
      have T : Stands gn2 gp sl2 gs H s := ⟨fun p hp => let z := g.inv.pin p (List.mem_append_right _ (List.mem_append_left _ (List.mem_append_right _ hp))); ⟨z.1, z.2.1⟩, fun x hx => (g.sl x (List.mem_cons_of_mem _ hx)).1, (g.sl (gn2, gs) List.mem_cons_self).1⟩
      have dis' : ∀ p ∈ gp, ∀ r ∈ (genX P w K mg base N qual st f cdv L A outer q.s0 q.H0 q.E [(a, go)]).pn ++ (ip ++ q.yp L), r.1 ≠ p.1 := fun p hp r hr => by
        rcases List.mem_append.mp hr with hr | hr
        · exact dis p hp r (by rw [List.mem_singleton.mp hr]; exact List.mem_cons_self)
        rcases List.mem_append.mp hr with hr | hr
        · exact dis p hp r (List.mem_cons_of_mem _ hr)
        · intro z
          obtain ⟨y1, y2, y3, y4, y5⟩ := Sq.of_yp hr
          rw [z] at y1 y4
          rcases (g.ipq p (List.mem_append_right _ hp)).2 with z | z | ⟨v, o2, z1, z2⟩
          · exact y4 z
          · rw [y1] at z; cases z
          · rw [y1] at z1
            cases z1
            exact y5 v z2
      have nq2 : Ng q.slw q.ws gn2 := (g.sl (gn2, gs) List.mem_cons_self).2.2.2
      have nqs : ∀ i ∈ sl2.map (·.1), Ng q.slw q.ws i := fun i hi => by
        obtain ⟨x, hx, rfl⟩ := List.mem_map.mp hi
        exact (g.sl x (List.mem_cons_of_mem _ hx)).2.2.2
      have gni : gn ∉ sl2.map (·.1) := fun hi => by
        obtain ⟨x, hx, e⟩ := List.mem_map.mp hi
        have h1 := (g.sl x (List.mem_cons_of_mem _ hx)).1
        have h2 := (g.sl x (List.mem_cons_of_mem _ hx)).2.1
        rw [e, g.run] at h1
        rw [← Option.some.inj h1] at h2
        exact h2
      have othN : ∀ {s' : Shared}, Oth gn2 (sl2.map (·.1)) s s' → s'.gens[gn]? = some .running ∧ ∀ g0 x, q.ws.gens[g0]? = some x → Stay x → g0 ∉ q.slw → g0 ≠ gn → s'.gens[g0]? = some x := fun {s'} o => by
        refine ⟨o gn _ g.run trivial gni ne2, fun g0 x e st n1 n2 => o g0 x (g.oth g0 x e st n1 n2) st (fun z => ?_) fun z => ?_⟩
        · rcases nqs g0 z with z | z
          · exact n1 z
          · exact z x e st
        · subst z
          rcases nq2 with z | z
          · exact n1 z
          · exact z x e st
      refine sg_forLoop ?_
      rw [(gl _).over]
      refine wpAny_mono (next_sleeper (X := genX P w K mg base N qual st f cdv L A outer q.s0 q.H0 q.E [(a, go)]) (A := A.deeper (envOfC qual (defScope st) L f cdv)) g.pins.inv.ok.frames g.pins.inv (Dy.hr.hd_ rfl) Dy.hr.depth GO Z T kH1 (by show q.s0.heap.objs.size ≤ _; rw [Q.sz]; exact Nat.le_of_lt hLc) hLc (fun x c e => ?_) dis' (E := fun _ _ => False)) (fun r' s3 got => ?_) fun _ _ z => z.elim
    · have e : (cellsFrom (L + 1) (defScope st).names []).lookup x = some c := e
      rw [Dy.cells] at e
      cases e
    · obtain ⟨rfl, H', I', al, ot, _⟩ := got
      obtain ⟨o1, o2⟩ := othN ot
      obtain ⟨B, t1, r1⟩ := g.bd
      refine sg_again rfl ?_
      exact sg_leaf (.ok .next) (kk.ok q out σ H' s3 E Q qx ⟨I', ⟨B, t1.go al.ev (t1.all (par_ok Q) al), r1.go t1 al.ev⟩, fun x hx => (by simp at hx), o1, o2, g.pins.ipq⟩ ((hk.trans hk2).trans (kH2.trans al.kept)) hl)
    · have e : (cellsFrom (L + 1) (defScope st).names []).lookup x = some c := e
      rw [Dy.cells] at e
      cases e
    · have got2 := got
      obtain ⟨u', v', H', gp', sl', gs', rfl, _, _, _, _, _, ot, _⟩ := got2
      obtain ⟨o1, o2⟩ := othN ot
      refine turn ys ih q out s s3 σ H E d _ _ u' Q qx g.bd kH2 g.all o1 o2 g.pins.ipq (fun b hb ho H' al hn _ => ?_) (fun i hi hne => ?_) nq2 hl got
      · rcases ho with z | z
        · obtain ⟨p', hp', rfl⟩ := List.mem_map.mp z
          exact (g.ipq p' (List.mem_append_right _ hp')).2
        · exact g.nw al hb hn z
      · rcases hi with z | z
        · exact nqs i z
        · exact ng_from g.run g.oth z
  -- the first item
  refine sg_forLoop ?_
  rw [(gl _).over]
  refine wpAny_mono (next_first (X := genX P w K mg base N qual st f cdv L A outer q.s0 q.H0 q.E [(a, go)]) (A := A.deeper (envOfC qual (defScope st) L f cdv)) (n := z2.heap.objs.size) (sn := s2) Ic.ok.frames Ic (Dy.hr.hd_ rfl) Dy.hr.depth GO rfl (Nat.le_of_lt (Nat.lt_trans ha1 ha2)) (by rw [hs2]; exact hgo) fresh2 (fz2.os.symm.trans hos) bare2 (by rw [hs2]; exact hlz) (fun b o e => by rw [hs2]; exact hkp b o e)
    (fun s3 q1 q2 q3 q4 => wake _ s3 (Room_in1 (Dy.hr.mono hj)) Dy.hg Ic.ok.frames (fun b o e => q1 b o (by rw [hs2]; exact e)) q2 q3 q4) (Q := fun r s' => Got (genX P w K mg base N qual st f cdv L A outer q.s0 q.H0 q.E [(a, go)]) (ip ++ q.yp L) σ (A.deeper (envOfC qual (defScope st) L f cdv)).in1 sc.heap.objs.size a2' gn2 go2 H2 [] s2 (fun b => sc.heap.objs.size ≤ b ∧ b < z2.heap.objs.size) ys r s') (E := fun _ _ => False)
    (fun xs r s' e h => by cases e; exact h) fun y e s' eo _ => nomatch eo) (fun r' s3 got => ?_) fun _ _ z => z.elim
  have othN : ∀ {s' : Shared}, Oth gn2 [] s2 s' → s'.gens[gn]? = some .running ∧ ∀ g0 x, q.ws.gens[g0]? = some x → Stay x → g0 ∉ q.slw → g0 ≠ gn → s'.gens[g0]? = some x := fun {s'} o => by
    refine ⟨o gn _ run2 trivial (by simp) ne2, fun g0 x e st n1 n2 => o g0 x (oth2 g0 x e st n1 n2) st (by simp) fun z => ?_⟩
    subst z
    have h1 := oth2 g0 x e st n1 n2
    rw [fresh2] at h1
    cases h1
    exact st
  cases ys with
  | nil =>
    obtain ⟨rfl, H', I', al, ot, _⟩ := got
    obtain ⟨o1, o2⟩ := othN ot
    refine sg_again rfl ?_
    exact sg_leaf (.ok .next) (kk.ok q out σ H' s3 E Q qx ⟨I', ⟨B3, st3.go al.ev (st3.all (par_ok Q) al), r3.go st3 al.ev⟩, fun x hx => (by simp at hx), o1, o2, g.ipq⟩ ((hk.trans hk2).trans al.kept) hl)
  | cons d ys =>
    have got2 := got
    obtain ⟨u', v', H', gp', sl', gs', rfl, _, _, _, _, _, ot, _⟩ := got2
    obtain ⟨o1, o2⟩ := othN ot
    exact turn ys (loop ys) q out s2 s3 σ H2 E d _ _ u' Q qx ⟨B3, st3, r3⟩ Kept.refl al2 o1 o2 g.ipq (fun b hb _ H' al hn hsz => nw_of Ic al2 al hb hn (.inl (by
      cases q0 : sc.heap.get? b with
      | none => rfl
      | some o => exact absurd (Heap.lt_size q0) (Nat.not_lt.mpr hsz)))) (fun i hi hne => ng_from run2 oth2 fun x e st => by
        rcases hi with z | z
        · simp at z
        · exact z x e st) ng2 hl got
end
end DL
end
section
namespace DL
open PySem PySem.Spec PyProof.Rows L2 _root_.GenW
/-- a generator def that calls itself, to a depth -/
def recG (F : GSp → GSp) : Nat → GSp
  | 0 => fun _ _ => False
  | n + 1 => F (recG F n)
theorem GFnN.stuck {P : Program} {w : World} {K : PySem.W.Frag} {mg : Str → Option Value} {base : Heap} {k : Nat} {f : Addr} {fd : FuncData} {ps : List Str} : GFnN P w K mg base k f fd ps (fun _ _ => False) :=
  ⟨fun _ _ h => h.elim, fun _ _ _ _ _ _ _ _ _ _ _ _ _ _ _ _ _ h _ => h.elim⟩
def gnScopeB (N ps : List Str) (sc : Scope) : Bool :=
  decide (sc.kind = .function) && !sc.isCoroutine && sc.isGenerator && decide N.Nodup && decide (N.take ps.length = ps) && (ps.all fun x => decide (sc.names.lookup x = some .local)) && sc.names.all fun y => !decide (y.2 = .free) && !decide (y.2 = .cell)
theorem gnScope_by {N ps : List Str} {sc : Scope} (h : gnScopeB N ps sc = true) : GnScope N ps sc := by
  unfold gnScopeB at h
  simp only [Bool.and_eq_true, Bool.not_eq_true', decide_eq_true_eq, decide_eq_false_iff_not, List.all_eq_true] at h
  obtain ⟨⟨⟨⟨⟨⟨h1, h2⟩, h3⟩, h4⟩, h5⟩, h6⟩, h7⟩ := h
  exact ⟨h1, h2, h3, h4, h5, h6, h7⟩
section
variable {P : Program} {w : World} {K : PySem.W.Frag} {mg : Str → Option Value} {base : Heap} {N : List Str} {qual : Str} {st : Stmt} {f : Addr} {cdv : Value} {k : Nat}
theorem gss_one {b : Bool} {x : Stmt} {u : GXS} (h : GS1 P w K mg base N qual st f cdv k b x u) : GSs P w K mg base N qual st f cdv k b [x] u :=
  ⟨fun A outer L a gn go Dy q out Q qx ip sl hb σ H s E g c fs Kc J gd lv fc KK Hk hk kk hu => sg_execs_cons (h.run A outer L a gn go Dy q out Q qx ip sl hb σ H s E g c fs _ J gd lv fc KK Hk hk ⟨fun q' out' σ' H' s' E' Q' qx' g' hk' hK => kk.ok q' out' σ' H' s' E' Q' qx' g' hk' hK, kk.exc⟩ hu)⟩
end
end DL
end
section
namespace DL
open PySem PySem.Spec PyProof.Rows L2
end DL
end
section
namespace DL
open PySem PySem.Spec PyProof.Rows L2
section
variable {X : Cx} {p : Par} {k : Nat} {cb vb : Bool}
/-- set(xs), a list or a tuple of ints -/
def rSetL (K : PySem.W.Frag) (w : World) : List V → Hp → VK → Prop := fun xs H Q => ∃ (l : Addr) (ns : List Int), xs = [.ref l] ∧ (SqL K H l (ns.map V.int) ∨ SqT K H l (ns.map V.int)) ∧ setOk ns ∧ ∀ q c, H q = none → c ≤ 60 → Q (.ref q) (upd H q (SetO w q (fun j => decide (j ∈ ns)) c))
end
end DL
end
section
namespace DL
open PySem PySem.Spec PyProof.Rows L2
def tup? : D → Option (List Int)
  | .tuple ds => ints? ds
  | _ => none
def tups? : List D → Option (List (List Int))
  | [] => some []
  | d :: ds => match tup? d, tups? ds with
    | some l, some ls => some (l :: ls)
    | _, _ => none
def tupOk (ls : List (List Int)) : Prop := ls.length < 64 ∧ ∃ d, 1 ≤ d ∧ ∀ l ∈ ls, l.length = d ∧ ∀ m ∈ l, 0 ≤ m ∧ m < 64
def opSrtSetT : D → W D
  | .list xs => match tups? xs with
    | some ls => grd (tupOk ls) fun n P _ => ∀ ms : List (List Int), ms.Nodup → ms.Pairwise (fun a b => TS.code 64 a ≤ TS.code 64 b) → (∀ l, l ∈ ms ↔ l ∈ ls) → P (.list (ms.map fun l => .tuple (l.map PyData.int))) n
    | none => stuck
  | _ => stuck
def eSrtSetT (a : XE) : XE := fun E => bnd (a E) opSrtSetT
theorem tups_reps {K : PySem.W.Frag} {B : Addr → Prop} {H : Hp} : ∀ {vs : List V} {ds : List D} {ls : List (List Int)}, Reps K B H vs ds → tups? ds = some ls → ∃ ks : List (Addr × List Int), vs = ks.map (fun p => V.ref p.1) ∧ ks.map (·.2) = ls ∧ ∀ p ∈ ks, SqT K H p.1 (p.2.map V.int)
  | _, _, ls, .nil, h => by
    cases h
    exact ⟨[], rfl, rfl, fun p hp => by cases hp⟩
  | _, _, ls, .cons (d := d) (ds := ds) r t, h => by
    unfold tups? at h
    cases e1 : tup? d with
    | none => rw [e1] at h; cases h
    | some l =>
      cases e2 : tups? ds with
      | none => rw [e1, e2] at h; cases h
      | some ls' =>
        rw [e1, e2] at h
        cases h
        obtain ⟨ks, h1, h2, h3⟩ := tups_reps t e2
        cases r with
        | @tup q xs ds' hq rs =>
          have ex := rs.ints (show ints? ds' = some l from e1)
          subst ex
          refine ⟨(q, l) :: ks, by rw [h1]; rfl, by rw [← h2]; rfl, fun p hp => ?_⟩
          rcases List.mem_cons.mp hp with rfl | hp
          · exact hq
          · exact h3 p hp
        | _ => cases e1
theorem reps_tups {K : PySem.W.Frag} {B : Addr → Prop} {H : Hp} : ∀ (ks : List (Addr × List Int)), (∀ p ∈ ks, SqT K H p.1 (p.2.map V.int)) → Reps K B H (ks.map fun p => V.ref p.1) ((ks.map (·.2)).map fun l => .tuple (l.map PyData.int))
  | [], _ => .nil
  | p :: ks, h => .cons (.tup (h p List.mem_cons_self) (Reps.of_ints p.2)) (reps_tups ks fun q hq => h q (List.mem_cons_of_mem _ hq))
section
variable {X : Cx} {p : Par} {k : Nat} {vb : Bool}
theorem pd_srtSetT (S : SitB true vb X p k) {a : Expr} {m : XE} {p1 p2 q1 q2 : Pos} (hm : X.mg "sorted" = none) (hm2 : X.mg "set" = none) (ha : PD X p a m) (hg : Gl X "sorted" := by rfl) (hg2 : Gl X "set" := by rfl)
    (he : starEach [a] X.env = (false, eval a X.env) :: starEach [] X.env := by rfl) (hpl : (backTo q2 (starEach [] X.env)).any (·.1) = false := by rfl)
    (he2 : starEach [.Call (.Name "set" p2) [a] [] q2] X.env = (false, eval (.Call (.Name "set" p2) [a] [] q2) X.env) :: starEach [] X.env := by rfl) (hpl2 : (backTo q1 (starEach [] X.env)).any (·.1) = false := by rfl) :
    PD X p (.Call (.Name "sorted" p1) [.Call (.Name "set" p2) [a] [] q2] [] q1) (eSrtSetT m) := by
  obtain ⟨ta, a1, a2⟩ := ha.ex
  have hu : X.A.units + 64 < cLine := by have := S.rm.un; omega
  have inner := pe_callTy (p := p2) (pos := q2) (cr_setOfT S.calm hu) hg2 hm2 (by decide +kernel) (pa_cons a1 pa_nil he) (by decide) (by decide) he hpl
  refine ⟨_, pe_callB (pos := q1) (cr_sortedT S.calm) hg hm (by decide +kernel) (pa_cons inner pa_nil he2) (by decide) (by decide) he2 hpl2, fun B H σ E c P Q s re mm kk => ?_⟩
  refine a2 B H σ E _ _ _ s re mm fun d c1 v H1 m1 e1 s1 r1 => ?_
  have st1 := s.go e1 s1
  cases r1 with
  | @lst l xs ds hq nb t =>
    have m1' : (opSrtSetT (PyData.list ds)) c1 P p.XP := m1
    unfold opSrtSetT at m1'
    cases hi : tups? ds with
    | none =>
      simp only [hi] at m1'
      exact m1'.elim
    | some ls =>
      simp only [hi] at m1'
      obtain ⟨⟨few, dd, d1, hd⟩, m2⟩ := m1'
      obtain ⟨ks, rfl, rfl, hks⟩ := tups_reps t hi
      rw [List.length_map] at few
      refine ⟨l, ks, rfl, SqL.of hq, hks, few, fun q L hn hsub hall => ?_⟩
      have al1 : All H1 (upd H1 q (SetTO X.prog X.w q L)) := All.new hn
      have hL : ∀ p ∈ L, SqT X.K (upd H1 q (SetTO X.prog X.w q L)) p.1 (p.2.map V.int) := fun p hp => (al1.ext (B := fun _ => False)).sqT (hks p (hsub p hp))
      refine ⟨q, L, dd, 64, rfl, upd_same, hL, d1, fun p hp => hd p.2 (List.mem_map.mpr ⟨p, hsub p hp, rfl⟩), fun L' o pm nd fl pw hn2 => ?_⟩
      have al2 := al1.trans (All.new hn2 (o := .lst (L'.map fun q => V.ref q.1)))
      refine kk _ _ _ _ (m2 (L'.map (·.2)) nd (List.pairwise_map.mpr pw) fun l => ?_) (e1.trans al2.ev) (st1.all S.ok al2) ?_
      · constructor
        · intro h
          obtain ⟨p, hp, rfl⟩ := List.mem_map.mp h
          exact List.mem_map.mpr ⟨p, hsub p (pm.mem_iff.mp hp), rfl⟩
        · intro h
          obtain ⟨p, hp, rfl⟩ := List.mem_map.mp h
          obtain ⟨p2, hp2, e⟩ := List.mem_map.mp (hall p hp)
          exact List.mem_map.mpr ⟨p2, pm.mem_iff.mpr hp2, e⟩
      · refine .lst upd_same (fun z => absurd hn2 ((al1.ext (B := fun _ => False)).dom _ (st1.trk _ z))) (reps_tups L' fun p hp => ?_)
        exact ((All.new hn2 (o := .lst (L'.map fun q => V.ref q.1))).ext (B := fun _ => False)).sqT (hL p (pm.mem_iff.mp hp))
  | _ => exact m1.elim
end
end DL
end
section
namespace DL
open PySem
def w_is_entry_0 : Fn := fn 1 3 (sSeq (sIf (DL.tOr (tNot (tTru (eIs .tuple (eVar 0)))) (DL.tOr (tBool (eCmp .ne (eB1 .len (eVar 0)) (eCon (.int 2)))) (tNot (tTru (eCall w_is_integer_0 (aCons (eIdx (eVar 0) (eCon (.int 0))) (aCons (eCon (.int 1)) (aCons (eCon (.int (1464))) (aNil))))))))) (sRet (eCon (.bool false))) (sSkip))
    (sSeq (sAsg 1 (eIdx (eVar 0) (eCon (.int 1))))
    (sRet (eAnd (eIs .tuple (eVar 1)) (eAnd (eCmp .ne (eVar 1) (eTup (aNil))) (eB1 .all (eComp (iSeq (eVar 1)) (.nm 2) (tYes) (eCall w_is_integer_0 (aCons (eVar 2) (aCons (eCon (.int 0)) (aCons (eCon (.int (24))) (aNil))))) [2])))))))
def w__law_short_1 : Fn := fnS 1 3 (sSeq (sAsg 1 (eBin .add (eCon (.int 1)) (eCallS fDraw 0 (aCons (eCon (.int 3)) (aNil)))))
    (sRet (eB1 .tuple (eComp (iRng1 (eVar 1)) (.nm 2) (tYes) (eBin .add (eCon (.int 1)) (eCallS fDraw 0 (aCons (eIdx (eLst (aCons (eCon (.int 3)) (aCons (eCon (.int 8)) (aCons (eCon (.int 8)) (aNil))))) (eCallS fDraw 0 (aCons (eCon (.int 3)) (aNil)))) (aNil)))) [2]))))
def w_rows_of_0F (self : GSp) : GSp := gFn 3 5 (gIf (tBool (eCmp .eq (eVar 0) (eCon (.int 1)))) (gIf (tBool (eChain .le .le (eCon (.int 1)) (eVar 2) (eVar 1))) (gYield (eTup (aCons (eVar 2) (aNil))))
    (gSkip))
    (gFor (iRng2 (eCon (.int 1)) (eBin .add (eB2 .min (eVar 1) (eBin .add (eBin .sub (eVar 2) (eVar 0)) (eCon (.int 1)))) (eCon (.int 1)))) (.nm 3) (gForG self (aCons (eBin .sub (eVar 0) (eCon (.int 1))) (aCons (eVar 1) (aCons (eBin .sub (eVar 2) (eVar 3)) (aNil)))) (.nm 4) (gYield (eTup (aCons (eVar 3) (aStar (eVar 4) (aNil))))))))
def w_rows_of_0 : GSp := recG w_rows_of_0F 4
def w_rows_with_0 : GSp := gFn 2 5 (gIf (DL.tAnd (tTru (eIs .tuple (eVar 0))) (DL.tAnd (tBool (eCmp .ne (eVar 0) (eTup (aNil)))) (tTru (eB1 .all (eComp (iSeq (eVar 0)) (.nm 4) (tYes) (eCall w_is_entry_0 (aCons (eVar 4) (aNil))) [4]))))) (gSeq (gPlain (sAsg 2 (eIf (tBool (eCmp .gt (eB1 .len (eVar 0)) (eCon (.int 1)))) (eBin .add (eIdx (eIdx (eIdx (eVar 0) (eNeg (eCon (.int 2)))) (eCon (.int 1))) (eNeg (eCon (.int 1)))) (eCon (.int 1))) (eCon (.int 1)))))
    (gIf (DL.tAnd (tBool (eCmp .le (eVar 2) (eVar 1))) (tBool (eCmp .le (eIdx (eIdx (eVar 0) (eCon (.int 0))) (eCon (.int 0))) (eCon (.int (60)))))) (gForG w_rows_of_0 (aCons (eVar 2) (aCons (eIdx (eIdx (eVar 0) (eCon (.int 0))) (eCon (.int 0))) (aCons (eBin .add (eBin .sub (eIdx (eIdx (eVar 0) (eNeg (eCon (.int 1)))) (eCon (.int 0))) (eVar 2)) (eCon (.int 1))) (aNil)))) (.nm 3) (gIf (tBool (eCmp .eq (eCall w_book_of_0 (aCons (eVar 3) (aNil))) (eVar 0))) (gYield (eVar 3))
    (gSkip)))
    (gSkip)))
    (gSkip))
end DL
end
section
namespace Wk34
open PySem DL
def m_law : XS := sSeq (sFor (iRng1 (eCon (.int 3))) (.nm 2) (sSeq (sAsg 3 (eCallS w__law_short_1 1 (aNil)))
    (sSeq (sIf (tBool (eCmp .eq (eBin .mod (eVar 2) (eCon (.int 3))) (eCon (.int 2)))) (sAsg 3 (eTup (aCons (eBin .add (eCon (.int 1)) (eCallS fDraw 1 (aCons (eCon (.int 60)) (aNil)))) (aCons (eBin .add (eCon (.int 1)) (eCallS fDraw 1 (aCons (eCon (.int 60)) (aNil)))) (aNil))))) (sSkip))
    (sSeq (sPar 4 5 (eListG [] w_rows_with_0 (aCons (eCall w_book_of_0 (aCons (eVar 3) (aNil))) (aCons (eCon (.int 3)) (aNil)))) (eCall w_extent_0 (aCons (eVar 3) (aCons (eCon (.int 0)) (aCons (eBin .sub (eB1 .len (eVar 3)) (eCon (.int 1))) (aNil))))))
    (sSeq (sIf (DL.tOr (tBool (eIn true (eVar 3) (eVar 4))) (DL.tOr (tBool (eCmp .ne (eVar 4) (eSrtSetT (eVar 4)))) (tBool (eCmp .ne (eComp (iSeq (eVar 4)) (.nm 6) (tBool (eCmp .ne (eCall w_book_of_0 (aCons (eVar 6) (aNil))) (eCall w_book_of_0 (aCons (eVar 3) (aNil))))) (eVar 6) [6]) (eLst (aNil)))))) (sRet (eCon (.bool false))) (sSkip))
    (sSeq (sFor (iSeq (eVar 4)) (.nm 6) (sIf (DL.tOr (tBool (eCmp .notN (eCall w_first_unlike_0 (aCons (eVar 6) (aCons (eVar 3) (aNil)))) (eCon .none))) (DL.tOr (tBool (eCmp .ne (eB1 .len (eVar 6)) (eB1 .len (eVar 3)))) (tBool (eCmp .ne (eCall w_extent_0 (aCons (eVar 6) (aCons (eCon (.int 0)) (aCons (eBin .sub (eB1 .len (eVar 6)) (eCon (.int 1))) (aNil))))) (eVar 5))))) (sRet (eCon (.bool false))) (sSkip)))
    (sSeq (sAsg 7 (eCallS w__law_partner_0 1 (aCons (eVar 3) (aNil))))
    (sSeq (sIf (DL.tAnd (tBool (eCmp .ne (eIn false (eVar 7) (eVar 4)) (eCmp .isN (eCall w_first_unlike_0 (aCons (eVar 7) (aCons (eVar 3) (aNil)))) (eCon .none)))) (tBool (eCmp .lt (eB1 .len (eVar 7)) (eCon (.int 4))))) (sRet (eCon (.bool false))) (sSkip))
    (sSeq (sIf (DL.tOr (DL.tAnd (tBool (eCmp .eq (eB1 .len (eVar 3)) (eCon (.int 1)))) (tBool (eCmp .ne (eVar 4) (eLst (aCons (eVar 3) (aNil)))))) (tBool (eCmp .ne (eComp (iSeq (eVar 4)) (.nm 6) (tBool (eCmp .ne (eCall w_longest_0 (aCons (eVar 6) (aNil))) (eCall w_longest_0 (aCons (eVar 3) (aNil))))) (eVar 6) [6]) (eLst (aNil))))) (sRet (eCon (.bool false))) (sSkip))
    (sIf (DL.tOr (tBool (eCmp .ne (eListG [] w_rows_with_0 (aCons (eCall w_book_of_0 (aCons (eVar 3) (aNil))) (aCons (eB1 .len (eVar 3)) (aNil)))) (eVar 4))) (DL.tAnd (tBool (eCmp .gt (eB1 .len (eVar 3)) (eCon (.int 1)))) (tBool (eCmp .ne (eListG [] w_rows_with_0 (aCons (eCall w_book_of_0 (aCons (eVar 3) (aNil))) (aCons (eCon (.int 1)) (aNil)))) (eLst (aNil)))))) (sRet (eCon (.bool false))) (sSkip)))))))))))
    (sRet (eCon (.bool true)))
end Wk34
end
section
namespace Wk34
open PySem PySem.Spec PyProof.Rows DL
def top (i : Nat) : Stmt := PySem.Challenge.pw_wrapwidths_k34_whole_rows_behind_a_book.main.body.getD i (.Pass ⟨0, 0, 0, 0⟩)
abbrev s_is_integer : Stmt := top 7
abbrev s_check_place : Stmt := top 8
abbrev s_extent_of : Stmt := top 9
abbrev s_extent : Stmt := top 10
abbrev s_longest : Stmt := top 11
abbrev s_next_start : Stmt := top 13
abbrev s_starts_of : Stmt := top 14
abbrev s_next_width : Stmt := top 17
abbrev s_book_of : Stmt := top 18
abbrev s_first_unlike : Stmt := top 19
abbrev s_is_entry : Stmt := top 20
abbrev s_rows_of : Stmt := top 21
abbrev s_rows_with : Stmt := top 22
abbrev s__law_stream : Stmt := top 24
abbrev s__law_draw : Stmt := top 25
abbrev s__law_partner : Stmt := top 26
abbrev s__law_short : Stmt := top 27
abbrev s_law : Stmt := top 28
theorem sc_rows_of : GnScope ["many", "most", "letters", "length", "rest"] ["many", "most", "letters"] (L2.defScope s_rows_of) := gnScope_by (by decide +kernel)
theorem sc_rows_with : GnScope ["book", "most", "many", "row", "item"] ["book", "most"] (L2.defScope s_rows_with) := gnScope_by (by decide +kernel)
theorem sc_is_integer : L2.FnScope ["value", "low", "high"] ["value", "low", "high"] (L2.defScope s_is_integer) := ⟨rfl, rfl, rfl, by decide +kernel, rfl, by decide +kernel, by decide +kernel⟩
theorem sc_check_place : L2.FnScope ["row", "value"] ["row", "value"] (L2.defScope s_check_place) := ⟨rfl, rfl, rfl, by decide +kernel, rfl, by decide +kernel, by decide +kernel⟩
theorem sc_extent_of : L2.FnScope ["row", "first", "last"] ["row", "first", "last"] (L2.defScope s_extent_of) := ⟨rfl, rfl, rfl, by decide +kernel, rfl, by decide +kernel, by decide +kernel⟩
theorem sc_extent : L2.FnScope ["row", "first", "last"] ["row", "first", "last"] (L2.defScope s_extent) := ⟨rfl, rfl, rfl, by decide +kernel, rfl, by decide +kernel, by decide +kernel⟩
theorem sc_longest : L2.FnScope ["row"] ["row"] (L2.defScope s_longest) := ⟨rfl, rfl, rfl, by decide +kernel, rfl, by decide +kernel, by decide +kernel⟩
theorem sc_next_start : L2.FnScope ["row", "width", "start", "following"] ["row", "width", "start"] (L2.defScope s_next_start) := ⟨rfl, rfl, rfl, by decide +kernel, rfl, by decide +kernel, by decide +kernel⟩
theorem sc_starts_of : L2.FnScope ["row", "width", "starts", "following"] ["row", "width"] (L2.defScope s_starts_of) := ⟨rfl, rfl, rfl, by decide +kernel, rfl, by decide +kernel, by decide +kernel⟩
theorem sc_next_width : L2.FnScope ["row", "starts", "widths", "start", "following"] ["row", "starts"] (L2.defScope s_next_width) := ⟨rfl, rfl, rfl, by decide +kernel, rfl, by decide +kernel, by decide +kernel⟩
theorem sc_book_of : L2.FnScope ["row", "width", "found", "starts"] ["row"] (L2.defScope s_book_of) := ⟨rfl, rfl, rfl, by decide +kernel, rfl, by decide +kernel, by decide +kernel⟩
theorem sc_first_unlike : L2.FnScope ["one", "other", "first", "second"] ["one", "other"] (L2.defScope s_first_unlike) := ⟨rfl, rfl, rfl, by decide +kernel, rfl, by decide +kernel, by decide +kernel⟩
theorem sc_is_entry : L2.FnScope ["value", "starts", "item"] ["value"] (L2.defScope s_is_entry) := ⟨rfl, rfl, rfl, by decide +kernel, rfl, by decide +kernel, by decide +kernel⟩
theorem sc__law_stream : L2.FnScope ["_law_script", "_law_cells", "_law_cell"] ["_law_script"] (L2.defScope s__law_stream) := ⟨rfl, rfl, rfl, by decide +kernel, rfl, by decide +kernel, by decide +kernel⟩
theorem sc__law_draw : L2.FnScope ["_law_stream_here", "_law_many", "_law_rest", "_law_turn", "_law_cell", "_law_mixed"] ["_law_stream_here", "_law_many"] (L2.defScope s__law_draw) := ⟨rfl, rfl, rfl, by decide +kernel, rfl, by decide +kernel, by decide +kernel⟩
theorem sc__law_partner : L2.FnScope ["_law_stream_here", "_law_row", "_law_way", "_law_spot", "_law_size"] ["_law_stream_here", "_law_row"] (L2.defScope s__law_partner) := ⟨rfl, rfl, rfl, by decide +kernel, rfl, by decide +kernel, by decide +kernel⟩
theorem sc__law_short : L2.FnScope ["_law_stream_here", "_law_many", "_law_k"] ["_law_stream_here"] (L2.defScope s__law_short) := ⟨rfl, rfl, rfl, by decide +kernel, rfl, by decide +kernel, by decide +kernel⟩
theorem sc_law : L2.FnScope ["_law_script", "_law_stream_here", "_law_turn", "_law_row", "_law_some", "_law_whole", "_law_own", "_law_other"] ["_law_script"] (L2.defScope s_law) := ⟨rfl, rfl, rfl, by decide +kernel, rfl, by decide +kernel, by decide +kernel⟩
abbrev i_NoPlace : Stmt := (clsBody (top 5)).getD 0 (.Pass ⟨0, 0, 0, 0⟩)
structure Txt (K : PySem.W.Frag) (mg : Str → Option Value) where
  fd_is_integer : FuncData
  F_is_integer : FnP K "is_integer" "is_integer" s_is_integer (He.ga K "is_integer") fd_is_integer
  D_is_integer : Def K mg "is_integer" (He.ga K "is_integer") fd_is_integer ["value", "low", "high"]
  fd_check_place : FuncData
  F_check_place : FnP K "check_place" "check_place" s_check_place (He.ga K "check_place") fd_check_place
  D_check_place : Def K mg "check_place" (He.ga K "check_place") fd_check_place ["row", "value"]
  fd_extent_of : FuncData
  F_extent_of : FnP K "extent_of" "extent_of" s_extent_of (He.ga K "extent_of") fd_extent_of
  D_extent_of : Def K mg "extent_of" (He.ga K "extent_of") fd_extent_of ["row", "first", "last"]
  fd_extent : FuncData
  F_extent : FnP K "extent" "extent" s_extent (He.ga K "extent") fd_extent
  D_extent : Def K mg "extent" (He.ga K "extent") fd_extent ["row", "first", "last"]
  fd_longest : FuncData
  F_longest : FnP K "longest" "longest" s_longest (He.ga K "longest") fd_longest
  D_longest : Def K mg "longest" (He.ga K "longest") fd_longest ["row"]
  fd_next_start : FuncData
  F_next_start : FnP K "next_start" "next_start" s_next_start (He.ga K "next_start") fd_next_start
  D_next_start : Def K mg "next_start" (He.ga K "next_start") fd_next_start ["row", "width", "start"]
  fd_starts_of : FuncData
  F_starts_of : FnP K "starts_of" "starts_of" s_starts_of (He.ga K "starts_of") fd_starts_of
  D_starts_of : Def K mg "starts_of" (He.ga K "starts_of") fd_starts_of ["row", "width"]
  fd_next_width : FuncData
  F_next_width : FnP K "next_width" "next_width" s_next_width (He.ga K "next_width") fd_next_width
  D_next_width : Def K mg "next_width" (He.ga K "next_width") fd_next_width ["row", "starts"]
  fd_book_of : FuncData
  F_book_of : FnP K "book_of" "book_of" s_book_of (He.ga K "book_of") fd_book_of
  D_book_of : Def K mg "book_of" (He.ga K "book_of") fd_book_of ["row"]
  fd_first_unlike : FuncData
  F_first_unlike : FnP K "first_unlike" "first_unlike" s_first_unlike (He.ga K "first_unlike") fd_first_unlike
  D_first_unlike : Def K mg "first_unlike" (He.ga K "first_unlike") fd_first_unlike ["one", "other"]
  fd_is_entry : FuncData
  F_is_entry : FnP K "is_entry" "is_entry" s_is_entry (He.ga K "is_entry") fd_is_entry
  D_is_entry : Def K mg "is_entry" (He.ga K "is_entry") fd_is_entry ["value"]
  fd_rows_of : FuncData
  F_rows_of : FnP K "rows_of" "rows_of" s_rows_of (He.ga K "rows_of") fd_rows_of
  D_rows_of : Def K mg "rows_of" (He.ga K "rows_of") fd_rows_of ["many", "most", "letters"]
  fd_rows_with : FuncData
  F_rows_with : FnP K "rows_with" "rows_with" s_rows_with (He.ga K "rows_with") fd_rows_with
  D_rows_with : Def K mg "rows_with" (He.ga K "rows_with") fd_rows_with ["book", "most"]
  fd__law_stream : FuncData
  F__law_stream : FnP K "_law_stream" "_law_stream" s__law_stream (He.ga K "_law_stream") fd__law_stream
  D__law_stream : Def K mg "_law_stream" (He.ga K "_law_stream") fd__law_stream ["_law_script"]
  fd__law_draw : FuncData
  F__law_draw : FnP K "_law_draw" "_law_draw" s__law_draw (He.ga K "_law_draw") fd__law_draw
  D__law_draw : Def K mg "_law_draw" (He.ga K "_law_draw") fd__law_draw ["_law_stream_here", "_law_many"]
  fd__law_partner : FuncData
  F__law_partner : FnP K "_law_partner" "_law_partner" s__law_partner (He.ga K "_law_partner") fd__law_partner
  D__law_partner : Def K mg "_law_partner" (He.ga K "_law_partner") fd__law_partner ["_law_stream_here", "_law_row"]
  fd__law_short : FuncData
  F__law_short : FnP K "_law_short" "_law_short" s__law_short (He.ga K "_law_short") fd__law_short
  D__law_short : Def K mg "_law_short" (He.ga K "_law_short") fd__law_short ["_law_stream_here"]
  fd_law : FuncData
  F_law : FnP K "law" "law" s_law (He.ga K "law") fd_law
  D_law : Def K mg "law" (He.ga K "law") fd_law ["_law_script"]
  g_abs : mg "abs" = none
  g_all : mg "all" = none
  g_bool : mg "bool" = none
  g_int : mg "int" = none
  g_isinstance : mg "isinstance" = none
  g_len : mg "len" = none
  g_list : mg "list" = none
  g_max : mg "max" = none
  g_min : mg "min" = none
  g_range : mg "range" = none
  g_set : mg "set" = none
  g_sorted : mg "sorted" = none
  g_sum : mg "sum" = none
  g_tuple : mg "tuple" = none
  g_zip : mg "zip" = none
  g_MAX_EXTENT : ∃ t, mg "MAX_EXTENT" = some (.int (1464) t)
  g_MAX_LENGTH : ∃ t, mg "MAX_LENGTH" = some (.int (60) t)
  g_MAX_WORDS : ∃ t, mg "MAX_WORDS" = some (.int (24) t)
  m_NoStretch : mg "NoStretch" = some (.ref (He.ga K "NoStretch"))
  p_NoStretch : here K "NoStretch" = true
  m_NoPlace : mg "NoPlace" = some (.ref (He.ga K "NoPlace"))
  p_NoPlace : here K "NoPlace" = true
  E_NoStretch : ErrZ K "NoStretch" .ve
  E_NoPlace : ErrT K "NoPlace" .value .le
section
variable {P : Program} {w : World} {K : PySem.W.Frag} {mg : Str → Option Value} {base : Heap}
theorem Txt.ok_is_integer (T : Txt K mg) (sm : HasSm base) : FnG true P w K mg base 1 (He.ga K "is_integer") T.fd_is_integer ["value", "low", "high"] (spF K mg w_is_integer_0) :=
  fn_pure sm T.F_is_integer sc_is_integer (by decide) fun cdv A outer s H E p S Z hp => ssd_one (sd_ret (pd_and (pd_is S .int (pd_var 0) T.g_isinstance T.g_int) (pd_and (pd_not (pd_is S .bool (pd_var 0) T.g_isinstance T.g_bool)) (pd_one (pd_chain S .le .le (pd_var 1) (pd_var 0) (pd_var 2))))))
theorem Txt.ok_extent_of (T : Txt K mg) (sm : HasSm base) : FnG true P w K mg base 1 (He.ga K "extent_of") T.fd_extent_of ["row", "first", "last"] (spF K mg w_extent_of_0) :=
  fn_pure sm T.F_extent_of sc_extent_of (by decide) fun cdv A outer s H E p S Z hp => ssd_one (sd_ret (pd_bin S .sub (pd_bin S .add (pd_call1 S (c_sum S.calm) T.g_sum (pd_cut S (pd_var 0) (pdo_some (pd_var 1)) (pdo_some (pd_bin S .add (pd_var 2) (pd_int))))) (pd_var 2)) (pd_var 1)))
theorem Txt.ok_longest (T : Txt K mg) (sm : HasSm base) : FnG true P w K mg base 1 (He.ga K "longest") T.fd_longest ["row"] (spF K mg w_longest_0) :=
  fn_pure sm T.F_longest sc_longest (by decide) fun cdv A outer s H E p S Z hp => ssd_one (sd_ret (pd_call1 S (c_max S) T.g_max (pd_var 0)))
theorem Txt.ok__law_stream (T : Txt K mg) (sm : HasSm base) : FnG true P w K mg base 1 (He.ga K "_law_stream") T.fd__law_stream ["_law_script"] (spMake K) :=
  fn_stream sm T.F__law_stream sc__law_stream rfl fun cdv A outer s H E p S =>
    ⟨_, _, _, fun t1 te1 te2 h1 h2 h3 => L2.pss_cons h1 (L2.pss_one (L2.ps_ret (L2.pe_lst (L2.pa_cons h2 (L2.pa_cons h3 (L2.pa_cons L2.pe_int L2.pa_nil)))))),
      sd_comp S (i := 1) (t := .nm 2) [("_law_cell", 2)] rfl rfl (L2.sw_true rfl rfl rfl (by decide +kernel)) (pi_scr 0 (L2.pv 0)) (L2.blkOk_by (N := ["_law_script", "_law_cells", "_law_cell"]) (sc := L2.defScope s__law_stream) (by decide +kernel)) (by decide) (fun _ _ _ _ _ => L2.pg_name (i := 2) S.nd rfl (Or.inl rfl)) (fun _ _ _ _ _ S => pdts_nil) (fun _ _ _ _ _ S => pd_call1 S c_abs T.g_abs (pd_var 2)),
      pf_comp S (t := .nm 2) [("_law_cell", 2)] (pi_lstD (pd_var 1)) (L2.blkOk_by (N := ["_law_script", "_law_cells", "_law_cell"]) (sc := L2.defScope s__law_stream) (by decide +kernel)) (by decide) (fun _ _ _ _ _ => L2.pg_name (i := 2) S.nd rfl (Or.inl rfl)) (fun _ _ _ _ _ S => pdts_one (pt_cmpD S .ge (pd_var 2) (pd_bin S .pow pd_int pd_int))) (fun _ _ _ _ _ S => pd_var 2),
      pd_if (pt_cmpD S .ne (pd_var 1) (pd_lst S pda_nil)) (pd_var 1) (pd_lst S (pda_cons pd_int pda_nil))⟩
theorem Txt.ok__law_draw (T : Txt K mg) (sm : HasSm base) : FnG true P w K mg base 1 (He.ga K "_law_draw") T.fd__law_draw ["_law_stream_here", "_law_many"] (spS K mg fDraw) :=
  fn_draw sm T.F__law_draw sc__law_draw rfl fun cdv A outer s H E p S =>
    L2.pss_cons (L2.ps_while S.po (L2.pt_cmpR (op_cmpD S.un .ne) (L2.pe_ix L2.ix_list (L2.pv 0) L2.pe_int (fun _ _ => rfl)) (L2.pe_lst L2.pa_nil) (L2.nomark _))
      (L2.pss_cons (L2.ps_set (i := 2) S.nd rfl (Or.inl rfl) (L2.pe_ix ix_D (L2.pe_ix L2.ix_list (L2.pv 0) L2.pe_int (fun _ _ => rfl)) L2.pe_int (fun _ _ => rfl)))
        (L2.pss_cons (L2.ps_if (L2.pt_cmpR (op_cmpD S.un .gt) (L2.pv 2) L2.pe_int (L2.nomark _))
            (L2.pss_cons (L2.ps_asg (L2.pe_op (op_binD .fdiv) (L2.pv 2) (L2.pv 1)) (L2.pg_sub (L2.pe_ix L2.ix_list (L2.pv 0) L2.pe_int (fun _ _ => rfl)) L2.pe_int L2.set_list)) (L2.pss_one (L2.ps_ret (L2.pe_op (op_binD .mod) (L2.pv 2) (L2.pv 1))))) L2.pss_nil)
          (L2.pss_one (L2.ps_expr (L2.pe_bm PySem.F.plainAttrs_list PySem.F.slot_list_pop PySem.F.type_list_pop L2.mt_popAt (L2.pe_ix L2.ix_list (L2.pv 0) L2.pe_int (fun _ _ => rfl)) (L2.pa_cons L2.pe_int L2.pa_nil)))))))
    (L2.pss_cons (L2.ps_set (i := 3) S.nd rfl (Or.inl rfl) (L2.pe_op (op_binD .add) (L2.pe_ix L2.ix_list (L2.pv 0) L2.pe_int (fun _ _ => rfl)) L2.pe_int))
    (L2.pss_cons (L2.ps_asg (L2.pv 3) (L2.pg_sub (L2.pv 0) L2.pe_int L2.set_list))
    (L2.pss_cons (L2.ps_set (i := 4) S.nd rfl (Or.inl rfl) (L2.pe_op (op_binD .mod) (L2.pe_ix ix_D (L2.pe_ix L2.ix_list (L2.pv 0) L2.pe_int (fun _ _ => rfl)) (L2.pe_op (op_binD .mod) (L2.pv 3) (L2.pe_callB c_len rfl T.g_len (by decide +kernel) (L2.pa_cons (L2.pe_ix L2.ix_list (L2.pv 0) L2.pe_int (fun _ _ => rfl)) L2.pa_nil))) (fun _ _ => rfl)) L2.pe_int))
    (L2.pss_cons (L2.ps_set (i := 5) S.nd rfl (Or.inl rfl) (L2.pe_op (op_binD .mod) (L2.pe_op (op_binD .add) (L2.pe_op (op_binD .add) (L2.pe_op (op_binD .mul) (L2.pv 4) (L2.pe_op (op_binD .add) L2.pe_int (L2.pe_op (op_binD .mul) L2.pe_int (L2.pv 3)))) (L2.pe_op (op_binD .mul) (L2.pe_op (op_binD .mul) L2.pe_int (L2.pv 3)) (L2.pv 3))) L2.pe_int) L2.pe_int))
    (L2.pss_one (L2.ps_ret (L2.pe_op (op_binD .mod) (L2.pe_op (op_binD .fdiv) (L2.pe_op (op_binD .mod) (L2.pe_op (op_binD .mul) (L2.pv 5) (L2.pv 5)) L2.pe_int) L2.pe_int) (L2.pv 1))))))))
theorem Txt.ok_check_place (T : Txt K mg) (sm : HasSm base) : FnG true P w K mg base 2 (He.ga K "check_place") T.fd_check_place ["row", "value"] (spF K mg w_check_place_0) :=
  fn_pure sm T.F_check_place sc_check_place (by decide) fun cdv A outer s H E p S Z hp => ssd_one (sd_if (pt_notD (pt_tru (pd_fn S (T.ok_is_integer sm) (by decide) T.D_is_integer (pda_cons (pd_var 1) (pda_cons (pd_int) (pda_cons (pd_bin S .sub (pd_call1 S c_len T.g_len (pd_var 0)) (pd_int)) (pda_nil))))))) (ssd_one (sd_raise1 S T.E_NoPlace T.m_NoPlace (pd_var 1))) (ssd_nil))
theorem Txt.ok_next_start (T : Txt K mg) (sm : HasSm base) : FnG true P w K mg base 2 (He.ga K "next_start") T.fd_next_start ["row", "width", "start"] (spF K mg w_next_start_0) :=
  fn_pure sm T.F_next_start sc_next_start (by decide) fun cdv A outer s H E p S Z hp => ssd_cons (sd_set S (i := 3) rfl (Or.inl rfl) (pd_bin S .add (pd_var 2) (pd_int)))
    (ssd_cons (sd_while S (PDW.pt (pw_andD (pt_cmpD S .lt (pd_var 3) (pd_call1 S c_len T.g_len (pd_var 0))) (pw_and1D (pt_cmpD S .le (pd_fn S (T.ok_extent_of sm) (by decide) T.D_extent_of (pda_cons (pd_var 0) (pda_cons (pd_var 2) (pda_cons (pd_var 3) (pda_nil))))) (pd_var 1))))) (ssd_one (sd_set S (i := 3) rfl (Or.inl rfl) (pd_bin S .add (pd_var 3) (pd_int)))))
    (ssd_one (sd_ret (pd_var 3))))
theorem Txt.ok_next_width (T : Txt K mg) (sm : HasSm base) : FnG true P w K mg base 2 (He.ga K "next_width") T.fd_next_width ["row", "starts"] (spF K mg w_next_width_0) :=
  fn_pure sm T.F_next_width sc_next_width (by decide) fun cdv A outer s H E p S Z hp => ssd_cons (sd_comp S (i := 2) (t := .tp [3, 4]) [("start", 3), ("following", 4)] rfl rfl (L2.sw_true rfl rfl rfl (by decide +kernel)) (pi_zipD S (pd_var 1) (pd_cut S (pd_var 1) (pdo_some (pd_int)) (pdo_none)) T.g_zip) (L2.blkOk_by (N := ["row", "starts", "widths", "start", "following"]) (sc := L2.defScope s_next_width) (by decide +kernel)) (by decide) (fun _ _ _ _ _ => pg_tl S.calm (L2.pgs_cons (L2.pg_name (i := 3) S.nd rfl (Or.inl rfl)) (L2.pgs_cons (L2.pg_name (i := 4) S.nd rfl (Or.inl rfl)) (L2.pgs_nil)))) (fun _ _ _ _ _ S => pdts_nil) (fun _ _ _ _ _ S => pd_fn S (T.ok_extent_of sm) (by decide) T.D_extent_of (pda_cons (pd_var 0) (pda_cons (pd_var 3) (pda_cons (pd_var 4) (pda_nil))))))
    (ssd_one (sd_ret (pd_if (pt_cmpD S .ne (pd_var 2) (pd_lst S (pda_nil))) (pd_call1 S (c_min S) T.g_min (pd_var 2)) (pd_non))))
theorem Txt.ok_is_entry (T : Txt K mg) (sm : HasSm base) : FnG true P w K mg base 2 (He.ga K "is_entry") T.fd_is_entry ["value"] (spF K mg w_is_entry_0) :=
  fn_pure sm T.F_is_entry sc_is_entry (by decide) fun cdv A outer s H E p S Z hp => ssd_cons (sd_if (PDW.pt (pw_orD (pt_notD (pt_tru (pd_is S .tuple (pd_var 0) T.g_isinstance T.g_tuple))) (pw_orD (pt_cmpD S .ne (pd_call1 S c_len T.g_len (pd_var 0)) (pd_int)) (pw_or1D (pt_notD (pt_tru (pd_fn S (T.ok_is_integer sm) (by decide) T.D_is_integer (pda_cons (pd_ix S (pd_var 0) (pd_int)) (pda_cons (pd_int) (pda_cons (pd_glob T.g_MAX_EXTENT) (pda_nil))))))))))) (ssd_one (sd_ret (pd_bl))) (ssd_nil))
    (ssd_cons (sd_set S (i := 1) rfl (Or.inl rfl) (pd_ix S (pd_var 0) (pd_int)))
    (ssd_one (sd_ret (pd_and (pd_is S .tuple (pd_var 1) T.g_isinstance T.g_tuple) (pd_and (pd_cmp S .ne (pd_var 1) (pd_tup S (pda_nil))) (pd_one (pd_call1 S (c_all S.calm) T.g_all (PDF.pd (pf_comp S (t := .nm 2) [("item", 2)] (pi_seq (pd_var 1)) (L2.blkOk_by (N := ["value", "starts", "item"]) (sc := L2.defScope s_is_entry) (by decide +kernel)) (by decide) (fun _ _ _ _ _ => L2.pg_name (i := 2) S.nd rfl (Or.inl rfl)) (fun _ _ _ _ _ S => pdts_nil) (fun _ _ _ _ _ S => pd_fn S (T.ok_is_integer sm) (by decide) T.D_is_integer (pda_cons (pd_var 2) (pda_cons (pd_int) (pda_cons (pd_glob T.g_MAX_WORDS) (pda_nil))))))))))))))
theorem Txt.ok__law_partner (T : Txt K mg) (sm : HasSm base) : FnG true P w K mg base 2 (He.ga K "_law_partner") T.fd__law_partner ["_law_stream_here", "_law_row"] (spS K mg w__law_partner_0) :=
  fn_str sm T.F__law_partner sc__law_partner (by decide) fun cdv A outer s H E p S Z hp => ssd_cons (sd_par3 S (i := 2) (j := 3) (l := 4) rfl rfl rfl (by decide) (by decide) (by decide) rfl rfl rfl (pd_fnS S Z (T.ok__law_draw sm) (by decide) T.D__law_draw (L2.pv 0) (pda_cons (pd_int) (pda_nil))) (pd_fnS S Z (T.ok__law_draw sm) (by decide) T.D__law_draw (L2.pv 0) (pda_cons (pd_call1 S c_len T.g_len (pd_var 1)) (pda_nil))) (pd_call1 S c_len T.g_len (pd_var 1)) rfl)
    (ssd_cons (sd_if (PDW.pt (pw_andD (pt_cmpD S .lt (pd_var 2) (pd_int)) (pw_andD (pt_cmpD S .lt (pd_bin S .add (pd_var 3) (pd_int)) (pd_var 4)) (pw_andD (pt_cmpD S .gt (pd_ix S (pd_var 1) (pd_var 3)) (pd_int)) (pw_and1D (pt_cmpD S .lt (pd_ix S (pd_var 1) (pd_bin S .add (pd_var 3) (pd_int))) (pd_int))))))) (ssd_one (sd_ret (pd_bin S .add (pd_bin S .add (pd_cut S (pd_var 1) (pdo_none) (pdo_some (pd_var 3))) (pd_tup S (pda_cons (pd_bin S .sub (pd_ix S (pd_var 1) (pd_var 3)) (pd_int)) (pda_cons (pd_bin S .add (pd_ix S (pd_var 1) (pd_bin S .add (pd_var 3) (pd_int))) (pd_int)) (pda_nil))))) (pd_cut S (pd_var 1) (pdo_some (pd_bin S .add (pd_var 3) (pd_int))) (pdo_none))))) (ssd_nil))
    (ssd_cons (sd_if (pt_cmpD S .eq (pd_var 2) (pd_int)) (ssd_one (sd_ret (pd_bin S .add (pd_bin S .add (pd_cut S (pd_var 1) (pdo_none) (pdo_some (pd_var 3))) (pd_tup S (pda_cons (pd_bin S .add (pd_int) (pd_fnS S Z (T.ok__law_draw sm) (by decide) T.D__law_draw (L2.pv 0) (pda_cons (pd_int) (pda_nil)))) (pda_nil)))) (pd_cut S (pd_var 1) (pdo_some (pd_bin S .add (pd_var 3) (pd_int))) (pdo_none))))) (ssd_nil))
    (ssd_cons (sd_if (PDW.pt (pw_andD (pt_cmpD S .eq (pd_var 2) (pd_int)) (pw_and1D (pt_cmpD S .gt (pd_var 4) (pd_int))))) (ssd_one (sd_ret (pd_bin S .add (pd_cut S (pd_var 1) (pdo_none) (pdo_some (pd_var 3))) (pd_cut S (pd_var 1) (pdo_some (pd_bin S .add (pd_var 3) (pd_int))) (pdo_none))))) (ssd_nil))
    (ssd_cons (sd_if (PDW.pt (pw_andD (pt_cmpD S .eq (pd_var 2) (pd_int)) (pw_and1D (pt_cmpD S .lt (pd_var 4) (pd_int))))) (ssd_one (sd_ret (pd_bin S .add (pd_bin S .add (pd_cut S (pd_var 1) (pdo_none) (pdo_some (pd_var 3))) (pd_tup S (pda_cons (pd_bin S .add (pd_int) (pd_fnS S Z (T.ok__law_draw sm) (by decide) T.D__law_draw (L2.pv 0) (pda_cons (pd_int) (pda_nil)))) (pda_nil)))) (pd_cut S (pd_var 1) (pdo_some (pd_var 3)) (pdo_none))))) (ssd_nil))
    (ssd_one (sd_ret (pd_if (pt_cmpD S .eq (pd_var 2) (pd_int)) (pd_var 1) (pd_bin S .add (pd_cut S (pd_var 1) (pdo_none) (pdo_some (pd_int))) (pd_rev S (pd_cut S (pd_var 1) (pdo_some (pd_int)) (pdo_none)))))))))))
theorem Txt.ok__law_short (T : Txt K mg) (sm : HasSm base) : FnG true P w K mg base 2 (He.ga K "_law_short") T.fd__law_short ["_law_stream_here"] (spS K mg w__law_short_1) :=
  fn_str sm T.F__law_short sc__law_short (by decide) fun cdv A outer s H E p S Z hp => ssd_cons (sd_set S (i := 1) rfl (Or.inl rfl) (pd_bin S .add (pd_int) (pd_fnS S Z (T.ok__law_draw sm) (by decide) T.D__law_draw (L2.pv 0) (pda_cons (pd_int) (pda_nil)))))
    (ssd_one (sd_ret (pd_callT1 S c_tuple T.g_tuple (PDF.pd (pf_comp S (t := .nm 2) [("_law_k", 2)] (pi_rng1D (pd_var 1) T.g_range) (L2.blkOk_by (N := ["_law_stream_here", "_law_many", "_law_k"]) (sc := L2.defScope s__law_short) (by decide +kernel)) (by decide) (fun _ _ _ _ _ => L2.pg_name (i := 2) S.nd rfl (Or.inl rfl)) (fun _ _ _ _ _ S => pdts_nil) (fun _ _ _ _ _ S => pd_bin S .add (pd_int) (pd_fnS S Z (T.ok__law_draw sm) (by decide) T.D__law_draw (L2.pv 0) (pda_cons (pd_ix S (pd_lst S (pda_cons (pd_int) (pda_cons (pd_int) (pda_cons (pd_int) (pda_nil))))) (pd_fnS S Z (T.ok__law_draw sm) (by decide) T.D__law_draw (L2.pv 0) (pda_cons (pd_int) (pda_nil)))) (pda_nil)))))))))
theorem Txt.ok_extent (T : Txt K mg) (sm : HasSm base) : FnG true P w K mg base 3 (He.ga K "extent") T.fd_extent ["row", "first", "last"] (spF K mg w_extent_0) :=
  fn_pure sm T.F_extent sc_extent (by decide) fun cdv A outer s H E p S Z hp => ssd_cons (sd_expr (pd_fn S (T.ok_check_place sm) (by decide) T.D_check_place (pda_cons (pd_var 0) (pda_cons (pd_var 1) (pda_nil)))))
    (ssd_cons (sd_expr (pd_fn S (T.ok_check_place sm) (by decide) T.D_check_place (pda_cons (pd_var 0) (pda_cons (pd_var 2) (pda_nil)))))
    (ssd_cons (sd_if (pt_cmpD S .lt (pd_var 2) (pd_var 1)) (ssd_one (sd_raise0 S T.E_NoStretch T.m_NoStretch)) (ssd_nil))
    (ssd_one (sd_ret (pd_fn S (T.ok_extent_of sm) (by decide) T.D_extent_of (pda_cons (pd_var 0) (pda_cons (pd_var 1) (pda_cons (pd_var 2) (pda_nil)))))))))
theorem Txt.ok_starts_of (T : Txt K mg) (sm : HasSm base) : FnG true P w K mg base 3 (He.ga K "starts_of") T.fd_starts_of ["row", "width"] (spF K mg w_starts_of_0) :=
  fn_pure sm T.F_starts_of sc_starts_of (by decide) fun cdv A outer s H E p S Z hp => ssd_cons (sd_own S (i := 2) rfl (Or.inl rfl) (pf_lst S (pda_cons (pd_int) (pda_nil))))
    (ssd_cons (sd_set S (i := 3) rfl (Or.inl rfl) (pd_fn S (T.ok_next_start sm) (by decide) T.D_next_start (pda_cons (pd_var 0) (pda_cons (pd_var 1) (pda_cons (pd_int) (pda_nil))))))
    (ssd_cons (sd_while S (pt_cmpD S .lt (pd_var 3) (pd_call1 S c_len T.g_len (pd_var 0))) (ssd_cons (sd_app S 2 (pd_var 3) (fun h => L2.pe_bm PySem.F.plainAttrs_list PySem.F.slot_list_append PySem.F.type_list_append L2.mt_append (L2.pv 2) (L2.pa_cons h L2.pa_nil)))
    (ssd_one (sd_set S (i := 3) rfl (Or.inl rfl) (pd_fn S (T.ok_next_start sm) (by decide) T.D_next_start (pda_cons (pd_var 0) (pda_cons (pd_var 1) (pda_cons (pd_var 3) (pda_nil)))))))))
    (ssd_one (sd_rel S 2 (sd_ret (pd_callT1 S c_tuple T.g_tuple (pd_var 2)))))))
theorem Txt.ok_book_of (T : Txt K mg) (sm : HasSm base) : FnG true P w K mg base 4 (He.ga K "book_of") T.fd_book_of ["row"] (spF K mg w_book_of_0) :=
  fn_pure sm T.F_book_of sc_book_of (by decide) fun cdv A outer s H E p S Z hp => ssd_cons (sd_set S (i := 1) rfl (Or.inl rfl) (pd_fn S (T.ok_longest sm) (by decide) T.D_longest (pda_cons (pd_var 0) (pda_nil))))
    (ssd_cons (sd_own S (i := 2) rfl (Or.inl rfl) (pf_lst S (pda_nil)))
    (ssd_cons (sd_while S (pt_cmpD S .notN (pd_var 1) (pd_non)) (ssd_cons (sd_set S (i := 3) rfl (Or.inl rfl) (pd_fn S (T.ok_starts_of sm) (by decide) T.D_starts_of (pda_cons (pd_var 0) (pda_cons (pd_var 1) (pda_nil)))))
    (ssd_cons (sd_app S 2 (pd_tup S (pda_cons (pd_var 1) (pda_cons (pd_var 3) (pda_nil)))) (fun h => L2.pe_bm PySem.F.plainAttrs_list PySem.F.slot_list_append PySem.F.type_list_append L2.mt_append (L2.pv 2) (L2.pa_cons h L2.pa_nil)))
    (ssd_one (sd_set S (i := 1) rfl (Or.inl rfl) (pd_fn S (T.ok_next_width sm) (by decide) T.D_next_width (pda_cons (pd_var 0) (pda_cons (pd_var 3) (pda_nil)))))))))
    (ssd_one (sd_rel S 2 (sd_ret (pd_callT1 S c_tuple T.g_tuple (pd_var 2)))))))
theorem Txt.ok_first_unlike (T : Txt K mg) (sm : HasSm base) : FnG true P w K mg base 5 (He.ga K "first_unlike") T.fd_first_unlike ["one", "other"] (spF K mg w_first_unlike_0) :=
  fn_pure sm T.F_first_unlike sc_first_unlike (by decide) fun cdv A outer s H E p S Z hp => ssd_one (sd_forE S (t := .tp [2, 3]) (pi_zipD S (pd_fn S (T.ok_book_of sm) (by decide) T.D_book_of (pda_cons (pd_var 0) (pda_nil))) (pd_fn S (T.ok_book_of sm) (by decide) T.D_book_of (pda_cons (pd_var 1) (pda_nil))) T.g_zip) (pg_tl S.calm (L2.pgs_cons (L2.pg_name (i := 2) S.nd rfl (Or.inl rfl)) (L2.pgs_cons (L2.pg_name (i := 3) S.nd rfl (Or.inl rfl)) (L2.pgs_nil)))) (ssd_one (sd_if (pt_cmpD S .ne (pd_var 2) (pd_var 3)) (ssd_one (sd_ret (pd_call2 S (c_min2 S.calm) T.g_min (pd_ix S (pd_var 2) (pd_int)) (pd_ix S (pd_var 3) (pd_int))))) (ssd_nil))) (ssd_one (sd_ret (pd_non))))
theorem Txt.okr_rows_of (T : Txt K mg) (sm : HasSm base) : ∀ n : Nat, GFnN P w K mg base (1 + 2 * n) (He.ga K "rows_of") T.fd_rows_of ["many", "most", "letters"] (recG w_rows_of_0F n)
  | 0 => GFnN.stuck
  | n + 1 => have ih := T.okr_rows_of sm n
    gfnN_of sm T.F_rows_of sc_rows_of fun cdv => gss_one (gs_if (fun cdv L A outer s H E pn p S Z hp => pt_cmpD S .eq (pd_var 0) (pd_int)) (gss_one (gs_if (fun cdv L A outer s H E pn p S Z hp => pt_chainD S .le .le (pd_int) (pd_var 2) (pd_var 1)) (gss_one (gs_yield (fun cdv L A outer s H E pn p S Z hp => pd_tup S (pda_cons (pd_var 2) (pda_nil))))) (gss_nil))) (gss_one (gs_for (fun cdv L A outer s H E pn p S Z hp => pf_rng2 (pd_int) (pd_bin S .add (pd_call2 S (c_min2 S.calm) T.g_min (pd_var 1) (pd_bin S .add (pd_bin S .sub (pd_var 2) (pd_var 0)) (pd_int))) (pd_int)) T.g_range) (fun cdv L A outer s H E pn p S Z hp => L2.pg_name (i := 3) S.nd rfl (Or.inl rfl)) (gss_one (gs_forG ih (Nat.le_refl _) T.D_rows_of (fun cdv L A outer s H E pn p S Z hp => pda_cons (pd_bin S .sub (pd_var 0) (pd_int)) (pda_cons (pd_var 1) (pda_cons (pd_bin S .sub (pd_var 2) (pd_var 3)) (pda_nil)))) (fun cdv L A outer s H E pn p S Z hp => L2.pg_name (i := 4) S.nd rfl (Or.inl rfl)) (gss_one (gs_yield (fun cdv L A outer s H E pn p S Z hp => pd_tup S (pda_cons (pd_var 3) (pda_star (pd_var 4) (pda_nil)))))) (fun cdv L A outer s H E pn p S Z hp => ⟨by rfl, by rfl, by rfl⟩))))))
theorem Txt.ok_rows_of (T : Txt K mg) (sm : HasSm base) : GFnN P w K mg base 9 (He.ga K "rows_of") T.fd_rows_of ["many", "most", "letters"] w_rows_of_0 := T.okr_rows_of sm 4
theorem Txt.ok_rows_with (T : Txt K mg) (sm : HasSm base) : GFnN P w K mg base 11 (He.ga K "rows_with") T.fd_rows_with ["book", "most"] w_rows_with_0 :=
  gfnN_of sm T.F_rows_with sc_rows_with fun cdv => gss_one (gs_if (fun cdv L A outer s H E pn p S Z hp => PDW.pt (pw_andD (pt_tru (pd_is S .tuple (pd_var 0) T.g_isinstance T.g_tuple)) (pw_andD (pt_cmpD S .ne (pd_var 0) (pd_tup S (pda_nil))) (pw_and1D (pt_tru (pd_call1 S (c_all S.calm) T.g_all (PDF.pd (pf_comp S (t := .nm 4) [("item", 4)] (pi_seq (pd_var 0)) (L2.blkOk_by (N := ["book", "most", "many", "row", "item"]) (sc := L2.defScope s_rows_with) (by decide +kernel)) (by decide) (fun _ _ _ _ _ => L2.pg_name (i := 4) S.nd rfl (Or.inl rfl)) (fun _ _ _ _ _ S => pdts_nil) (fun _ _ _ _ _ S => pd_fn S (T.ok_is_entry sm) (by decide) T.D_is_entry (pda_cons (pd_var 4) (pda_nil))))))))))) (gss_cons (gs_plain (fun cdv L A outer s H E pn p S Z hp => sd_set S (i := 2) rfl (Or.inl rfl) (pd_if (pt_cmpD S .gt (pd_call1 S c_len T.g_len (pd_var 0)) (pd_int)) (pd_bin S .add (pd_ix S (pd_ix S (pd_ix S (pd_var 0) (pd_neg S (pd_int))) (pd_int)) (pd_neg S (pd_int))) (pd_int)) (pd_int))))
    (gss_one (gs_if (fun cdv L A outer s H E pn p S Z hp => PDW.pt (pw_andD (pt_cmpD S .le (pd_var 2) (pd_var 1)) (pw_and1D (pt_cmpD S .le (pd_ix S (pd_ix S (pd_var 0) (pd_int)) (pd_int)) (pd_glob T.g_MAX_LENGTH))))) (gss_one (gs_forG (T.ok_rows_of sm) (by decide) T.D_rows_of (fun cdv L A outer s H E pn p S Z hp => pda_cons (pd_var 2) (pda_cons (pd_ix S (pd_ix S (pd_var 0) (pd_int)) (pd_int)) (pda_cons (pd_bin S .add (pd_bin S .sub (pd_ix S (pd_ix S (pd_var 0) (pd_neg S (pd_int))) (pd_int)) (pd_var 2)) (pd_int)) (pda_nil)))) (fun cdv L A outer s H E pn p S Z hp => L2.pg_name (i := 3) S.nd rfl (Or.inl rfl)) (gss_one (gs_if (fun cdv L A outer s H E pn p S Z hp => pt_cmpD S .eq (pd_fn S (T.ok_book_of sm) (by decide) T.D_book_of (pda_cons (pd_var 3) (pda_nil))) (pd_var 0)) (gss_one (gs_yield (fun cdv L A outer s H E pn p S Z hp => pd_var 3))) (gss_nil))) (fun cdv L A outer s H E pn p S Z hp => ⟨by rfl, by rfl, by rfl⟩))) (gss_nil)))) (gss_nil))
theorem Txt.ok_law (T : Txt K mg) (sm : HasSm base) (math : m_law (lawE 8 1) (.z 0) (fun o _ => o = .rt (.bool true)) fun _ _ => False) : FnG true P w K mg base 16 (He.ga K "law") T.fd_law ["_law_script"] (spLaw K) :=
  fn_law sm (i := 1) T.F_law sc_law (by decide) (by decide) (T.ok__law_stream sm) (by decide : 1 ≤ 15) (fun cdv A outer s H E => ⟨_, fun ts hr hg hx h => L2.pss_cons (L2.ps_set (i := 1) sc_law.nd rfl (Or.inl rfl) (pe_G (T.ok__law_stream sm) (hr.mono (by decide)) hg T.D__law_stream.mg T.D__law_stream.kp T.D__law_stream.bd hx (L2.pa_cons (L2.pv 0) L2.pa_nil))) h, fun p S Z hp => ssd_cons (sd_for S (t := .nm 2) (pi_rng1D (pd_int) T.g_range) (L2.pg_name (i := 2) S.nd rfl (Or.inl rfl)) (ssd_cons (sd_set S (i := 3) rfl (Or.inr rfl) (pd_fnS S Z (T.ok__law_short sm) (by decide) T.D__law_short (L2.pv 1) (pda_nil)))
    (ssd_cons (sd_if (pt_cmpD S .eq (pd_bin S .mod (pd_var 2) (pd_int)) (pd_int)) (ssd_one (sd_set S (i := 3) rfl (Or.inr rfl) (pd_tup S (pda_cons (pd_bin S .add (pd_int) (pd_fnS S Z (T.ok__law_draw sm) (by decide) T.D__law_draw (L2.pv 1) (pda_cons (pd_int) (pda_nil)))) (pda_cons (pd_bin S .add (pd_int) (pd_fnS S Z (T.ok__law_draw sm) (by decide) T.D__law_draw (L2.pv 1) (pda_cons (pd_int) (pda_nil)))) (pda_nil)))))) (ssd_nil))
    (ssd_cons (sd_par S (i := 4) (j := 5) rfl rfl (by decide) rfl rfl (pd_listGen S (by decide) noStp_nil (T.ok_rows_with sm) T.D_rows_with (pda_cons (pd_fn S (T.ok_book_of sm) (by decide) T.D_book_of (pda_cons (pd_var 3) (pda_nil))) (pda_cons (pd_int) (pda_nil))) T.g_list) (pd_fn S (T.ok_extent sm) (by decide) T.D_extent (pda_cons (pd_var 3) (pda_cons (pd_int) (pda_cons (pd_bin S .sub (pd_call1 S c_len T.g_len (pd_var 3)) (pd_int)) (pda_nil))))) rfl)
    (ssd_cons (sd_if (PDW.pt (pw_orD (pt_notInD S (pd_var 3) (pd_var 4)) (pw_orD (pt_cmpD S .ne (pd_var 4) (pd_srtSetT S T.g_sorted T.g_set (pd_var 4))) (pw_or1D (pt_cmpD S .ne (PDF.pd (pf_comp S (t := .nm 6) [("_law_own", 6)] (pi_seq (pd_var 4)) (L2.blkOk_by (N := ["_law_script", "_law_stream_here", "_law_turn", "_law_row", "_law_some", "_law_whole", "_law_own", "_law_other"]) (sc := L2.defScope s_law) (by decide +kernel)) (by decide) (fun _ _ _ _ _ => L2.pg_name (i := 6) S.nd rfl (Or.inl rfl)) (fun _ _ _ _ _ S => pdts_one (pt_cmpD S .ne (pd_fn S (T.ok_book_of sm) (by decide) T.D_book_of (pda_cons (pd_var 6) (pda_nil))) (pd_fn S (T.ok_book_of sm) (by decide) T.D_book_of (pda_cons (pd_var 3) (pda_nil))))) (fun _ _ _ _ _ S => pd_var 6))) (pd_lst S (pda_nil))))))) (ssd_one (sd_ret (pd_bl))) (ssd_nil))
    (ssd_cons (sd_for S (t := .nm 6) (pi_seq (pd_var 4)) (L2.pg_name (i := 6) S.nd rfl (Or.inl rfl)) (ssd_one (sd_if (PDW.pt (pw_orD (pt_cmpD S .notN (pd_fn S (T.ok_first_unlike sm) (by decide) T.D_first_unlike (pda_cons (pd_var 6) (pda_cons (pd_var 3) (pda_nil)))) (pd_non)) (pw_orD (pt_cmpD S .ne (pd_call1 S c_len T.g_len (pd_var 6)) (pd_call1 S c_len T.g_len (pd_var 3))) (pw_or1D (pt_cmpD S .ne (pd_fn S (T.ok_extent sm) (by decide) T.D_extent (pda_cons (pd_var 6) (pda_cons (pd_int) (pda_cons (pd_bin S .sub (pd_call1 S c_len T.g_len (pd_var 6)) (pd_int)) (pda_nil))))) (pd_var 5)))))) (ssd_one (sd_ret (pd_bl))) (ssd_nil))))
    (ssd_cons (sd_set S (i := 7) rfl (Or.inl rfl) (pd_fnS S Z (T.ok__law_partner sm) (by decide) T.D__law_partner (L2.pv 1) (pda_cons (pd_var 3) (pda_nil))))
    (ssd_cons (sd_if (PDW.pt (pw_andD (pt_cmpD S .ne (pd_in S (pd_var 7) (pd_var 4)) (pd_cmp S .isN (pd_fn S (T.ok_first_unlike sm) (by decide) T.D_first_unlike (pda_cons (pd_var 7) (pda_cons (pd_var 3) (pda_nil)))) (pd_non))) (pw_and1D (pt_cmpD S .lt (pd_call1 S c_len T.g_len (pd_var 7)) (pd_int))))) (ssd_one (sd_ret (pd_bl))) (ssd_nil))
    (ssd_cons (sd_if (PDW.pt (pw_orD (PDW.pt (pw_andD (pt_cmpD S .eq (pd_call1 S c_len T.g_len (pd_var 3)) (pd_int)) (pw_and1D (pt_cmpD S .ne (pd_var 4) (pd_lst S (pda_cons (pd_var 3) (pda_nil))))))) (pw_or1D (pt_cmpD S .ne (PDF.pd (pf_comp S (t := .nm 6) [("_law_own", 6)] (pi_seq (pd_var 4)) (L2.blkOk_by (N := ["_law_script", "_law_stream_here", "_law_turn", "_law_row", "_law_some", "_law_whole", "_law_own", "_law_other"]) (sc := L2.defScope s_law) (by decide +kernel)) (by decide) (fun _ _ _ _ _ => L2.pg_name (i := 6) S.nd rfl (Or.inl rfl)) (fun _ _ _ _ _ S => pdts_one (pt_cmpD S .ne (pd_fn S (T.ok_longest sm) (by decide) T.D_longest (pda_cons (pd_var 6) (pda_nil))) (pd_fn S (T.ok_longest sm) (by decide) T.D_longest (pda_cons (pd_var 3) (pda_nil))))) (fun _ _ _ _ _ S => pd_var 6))) (pd_lst S (pda_nil)))))) (ssd_one (sd_ret (pd_bl))) (ssd_nil))
    (ssd_one (sd_if (PDW.pt (pw_orD (pt_cmpD S .ne (pd_listGen S (by decide) noStp_nil (T.ok_rows_with sm) T.D_rows_with (pda_cons (pd_fn S (T.ok_book_of sm) (by decide) T.D_book_of (pda_cons (pd_var 3) (pda_nil))) (pda_cons (pd_call1 S c_len T.g_len (pd_var 3)) (pda_nil))) T.g_list) (pd_var 4)) (pw_or1D (PDW.pt (pw_andD (pt_cmpD S .gt (pd_call1 S c_len T.g_len (pd_var 3)) (pd_int)) (pw_and1D (pt_cmpD S .ne (pd_listGen S (by decide) noStp_nil (T.ok_rows_with sm) T.D_rows_with (pda_cons (pd_fn S (T.ok_book_of sm) (by decide) T.D_book_of (pda_cons (pd_var 3) (pda_nil))) (pda_cons (pd_int) (pda_nil))) T.g_list) (pd_lst S (pda_nil))))))))) (ssd_one (sd_ret (pd_bl))) (ssd_nil))))))))))))
    (ssd_one (sd_ret (pd_bl)))⟩) math
end
def d_is_integer : He.DefD := ⟨("is_integer", none), "is_integer", "is_integer", L2.defArgs s_is_integer, L2.defBody s_is_integer, L2.defScope s_is_integer, [], []⟩
def d_check_place : He.DefD := ⟨("check_place", none), "check_place", "check_place", L2.defArgs s_check_place, L2.defBody s_check_place, L2.defScope s_check_place, [], []⟩
def d_extent_of : He.DefD := ⟨("extent_of", none), "extent_of", "extent_of", L2.defArgs s_extent_of, L2.defBody s_extent_of, L2.defScope s_extent_of, [], []⟩
def d_extent : He.DefD := ⟨("extent", none), "extent", "extent", L2.defArgs s_extent, L2.defBody s_extent, L2.defScope s_extent, [], []⟩
def d_longest : He.DefD := ⟨("longest", none), "longest", "longest", L2.defArgs s_longest, L2.defBody s_longest, L2.defScope s_longest, [], []⟩
def d_next_start : He.DefD := ⟨("next_start", none), "next_start", "next_start", L2.defArgs s_next_start, L2.defBody s_next_start, L2.defScope s_next_start, [], []⟩
def d_starts_of : He.DefD := ⟨("starts_of", none), "starts_of", "starts_of", L2.defArgs s_starts_of, L2.defBody s_starts_of, L2.defScope s_starts_of, [], []⟩
def d_next_width : He.DefD := ⟨("next_width", none), "next_width", "next_width", L2.defArgs s_next_width, L2.defBody s_next_width, L2.defScope s_next_width, [], []⟩
def d_book_of : He.DefD := ⟨("book_of", none), "book_of", "book_of", L2.defArgs s_book_of, L2.defBody s_book_of, L2.defScope s_book_of, [], []⟩
def d_first_unlike : He.DefD := ⟨("first_unlike", none), "first_unlike", "first_unlike", L2.defArgs s_first_unlike, L2.defBody s_first_unlike, L2.defScope s_first_unlike, [], []⟩
def d_is_entry : He.DefD := ⟨("is_entry", none), "is_entry", "is_entry", L2.defArgs s_is_entry, L2.defBody s_is_entry, L2.defScope s_is_entry, [], []⟩
def d_rows_of : He.DefD := ⟨("rows_of", none), "rows_of", "rows_of", L2.defArgs s_rows_of, L2.defBody s_rows_of, L2.defScope s_rows_of, [], []⟩
def d_rows_with : He.DefD := ⟨("rows_with", none), "rows_with", "rows_with", L2.defArgs s_rows_with, L2.defBody s_rows_with, L2.defScope s_rows_with, [], []⟩
def d__law_stream : He.DefD := ⟨("_law_stream", none), "_law_stream", "_law_stream", L2.defArgs s__law_stream, L2.defBody s__law_stream, L2.defScope s__law_stream, [], []⟩
def d__law_draw : He.DefD := ⟨("_law_draw", none), "_law_draw", "_law_draw", L2.defArgs s__law_draw, L2.defBody s__law_draw, L2.defScope s__law_draw, [], []⟩
def d__law_partner : He.DefD := ⟨("_law_partner", none), "_law_partner", "_law_partner", L2.defArgs s__law_partner, L2.defBody s__law_partner, L2.defScope s__law_partner, [], []⟩
def d__law_short : He.DefD := ⟨("_law_short", none), "_law_short", "_law_short", L2.defArgs s__law_short, L2.defBody s__law_short, L2.defScope s__law_short, [], []⟩
def d_law : He.DefD := ⟨("law", none), "law", "law", L2.defArgs s_law, L2.defBody s_law, L2.defScope s_law, [], []⟩
def di_NoPlace : He.DefD := ⟨("NoPlace", some "__init__"), "__init__", "NoPlace.__init__", L2.defArgs i_NoPlace, L2.defBody i_NoPlace, L2.defScope i_NoPlace, [], []⟩
def fnl : List He.DefD := [d_is_integer, d_check_place, d_extent_of, d_extent, d_longest, d_next_start, d_starts_of, d_next_width, d_book_of, d_first_unlike, d_is_entry, d_rows_of, d_rows_with, d__law_stream, d__law_draw, d__law_partner, d__law_short, d_law, di_NoPlace]
def exl (K : PySem.W.Frag) : Bool := smB K && (errZB K "NoStretch" .ve) && (errTB K "NoPlace" .le)
def fal : List He.Fa := [.glo "is_integer", .glo "check_place", .glo "extent_of", .glo "extent", .glo "longest", .glo "next_start", .glo "starts_of", .glo "next_width", .glo "book_of", .glo "first_unlike", .glo "is_entry", .glo "rows_of", .glo "rows_with", .glo "_law_stream", .glo "_law_draw", .glo "_law_partner", .glo "_law_short", .glo "law", .free "abs", .free "all", .free "bool", .free "int", .free "isinstance", .free "len", .free "list", .free "max", .free "min", .free "range", .free "set", .free "sorted", .free "sum", .free "tuple", .free "zip", .int "MAX_EXTENT" (1464), .int "MAX_LENGTH" (60), .int "MAX_WORDS" (24), .glo "NoStretch", .glo "NoPlace"]
abbrev R : PySem.W.OpenRow := PySem.W.OpenLaw.row PySem.Challenge.rw_wrapwidths_k34_whole_rows_behind_a_book
abbrev hk : PySem.W.Hook := hookH 4 fal fnl exl
def ob (s : PySem.W.SharedT) : AlH := obsH 4 fal fnl exl (HandSHeadRun.getT s)
theorem ob_eq (s : PySem.W.SharedT) : ob s = hk.obs s.abs := obsH_eq (HandSHeadRun.getT_eq s)
theorem run (w : World) : HandSHeadRun.RunEq R (PySem.W.view R.prog [28]) hk ob 6000 ["MAX_WORDS", "MAX_LENGTH", "MAX_EXTENT", "WrapError", "NoStretch", "NoPlace", "is_integer", "check_place", "extent_of", "extent", "longest", "next_start", "starts_of", "next_width", "book_of", "first_unlike", "is_entry", "rows_of", "rows_with", "_law_stream", "_law_draw", "_law_partner", "_law_short"] w := by
  intro os
  kernel_rfl
theorem facts {P : Program} {w : World} {K : PySem.W.Frag} {h : Heap} {mg : Str → Option Value} {f : Addr} (X : K.In h) (G : h.Ns mainGlobals mg) (hfa : mg ("law" : Str) = some (.ref f)) (ch : SaysH fal fnl exl K)
    (math : m_law (lawE 8 1) (.z 0) (fun o _ => o = .rt (.bool true)) fun _ _ => False) :
    ∃ fd : FuncData, (∀ (s : Shared) (v : Value), BindsTo s fd ⟨[v], []⟩ [("_law_script", v)]) ∧ ∀ base : Heap, K.In base → base.Ns mainGlobals mg → FnG true P w K mg base 16 f fd ["_law_script"] (spLaw K) := by
  have c := ch.d
  have hx := ch.x
  obtain ⟨fd_is_integer, F_is_integer⟩ := c.def_ 0 (d := d_is_integer) rfl
  have G_is_integer : mg "is_integer" = some (.ref (He.ga K "is_integer")) := He.glo_ok X G (c.fact 0 (f := .glo "is_integer") rfl)
  have B_is_integer : L2.Binds K fd_is_integer ["value", "low", "high"] [] := L2.FunD.bindsN F_is_integer fun _ _ _ _ _ _ us hl => match us, hl with | [_, _, _], _ => rfl
  obtain ⟨fd_check_place, F_check_place⟩ := c.def_ 1 (d := d_check_place) rfl
  have G_check_place : mg "check_place" = some (.ref (He.ga K "check_place")) := He.glo_ok X G (c.fact 1 (f := .glo "check_place") rfl)
  have B_check_place : L2.Binds K fd_check_place ["row", "value"] [] := L2.FunD.bindsN F_check_place fun _ _ _ _ _ _ us hl => match us, hl with | [_, _], _ => rfl
  obtain ⟨fd_extent_of, F_extent_of⟩ := c.def_ 2 (d := d_extent_of) rfl
  have G_extent_of : mg "extent_of" = some (.ref (He.ga K "extent_of")) := He.glo_ok X G (c.fact 2 (f := .glo "extent_of") rfl)
  have B_extent_of : L2.Binds K fd_extent_of ["row", "first", "last"] [] := L2.FunD.bindsN F_extent_of fun _ _ _ _ _ _ us hl => match us, hl with | [_, _, _], _ => rfl
  obtain ⟨fd_extent, F_extent⟩ := c.def_ 3 (d := d_extent) rfl
  have G_extent : mg "extent" = some (.ref (He.ga K "extent")) := He.glo_ok X G (c.fact 3 (f := .glo "extent") rfl)
  have B_extent : L2.Binds K fd_extent ["row", "first", "last"] [] := L2.FunD.bindsN F_extent fun _ _ _ _ _ _ us hl => match us, hl with | [_, _, _], _ => rfl
  obtain ⟨fd_longest, F_longest⟩ := c.def_ 4 (d := d_longest) rfl
  have G_longest : mg "longest" = some (.ref (He.ga K "longest")) := He.glo_ok X G (c.fact 4 (f := .glo "longest") rfl)
  have B_longest : L2.Binds K fd_longest ["row"] [] := L2.FunD.bindsN F_longest fun _ _ _ _ _ _ us hl => match us, hl with | [_], _ => rfl
  obtain ⟨fd_next_start, F_next_start⟩ := c.def_ 5 (d := d_next_start) rfl
  have G_next_start : mg "next_start" = some (.ref (He.ga K "next_start")) := He.glo_ok X G (c.fact 5 (f := .glo "next_start") rfl)
  have B_next_start : L2.Binds K fd_next_start ["row", "width", "start"] [] := L2.FunD.bindsN F_next_start fun _ _ _ _ _ _ us hl => match us, hl with | [_, _, _], _ => rfl
  obtain ⟨fd_starts_of, F_starts_of⟩ := c.def_ 6 (d := d_starts_of) rfl
  have G_starts_of : mg "starts_of" = some (.ref (He.ga K "starts_of")) := He.glo_ok X G (c.fact 6 (f := .glo "starts_of") rfl)
  have B_starts_of : L2.Binds K fd_starts_of ["row", "width"] [] := L2.FunD.bindsN F_starts_of fun _ _ _ _ _ _ us hl => match us, hl with | [_, _], _ => rfl
  obtain ⟨fd_next_width, F_next_width⟩ := c.def_ 7 (d := d_next_width) rfl
  have G_next_width : mg "next_width" = some (.ref (He.ga K "next_width")) := He.glo_ok X G (c.fact 7 (f := .glo "next_width") rfl)
  have B_next_width : L2.Binds K fd_next_width ["row", "starts"] [] := L2.FunD.bindsN F_next_width fun _ _ _ _ _ _ us hl => match us, hl with | [_, _], _ => rfl
  obtain ⟨fd_book_of, F_book_of⟩ := c.def_ 8 (d := d_book_of) rfl
  have G_book_of : mg "book_of" = some (.ref (He.ga K "book_of")) := He.glo_ok X G (c.fact 8 (f := .glo "book_of") rfl)
  have B_book_of : L2.Binds K fd_book_of ["row"] [] := L2.FunD.bindsN F_book_of fun _ _ _ _ _ _ us hl => match us, hl with | [_], _ => rfl
  obtain ⟨fd_first_unlike, F_first_unlike⟩ := c.def_ 9 (d := d_first_unlike) rfl
  have G_first_unlike : mg "first_unlike" = some (.ref (He.ga K "first_unlike")) := He.glo_ok X G (c.fact 9 (f := .glo "first_unlike") rfl)
  have B_first_unlike : L2.Binds K fd_first_unlike ["one", "other"] [] := L2.FunD.bindsN F_first_unlike fun _ _ _ _ _ _ us hl => match us, hl with | [_, _], _ => rfl
  obtain ⟨fd_is_entry, F_is_entry⟩ := c.def_ 10 (d := d_is_entry) rfl
  have G_is_entry : mg "is_entry" = some (.ref (He.ga K "is_entry")) := He.glo_ok X G (c.fact 10 (f := .glo "is_entry") rfl)
  have B_is_entry : L2.Binds K fd_is_entry ["value"] [] := L2.FunD.bindsN F_is_entry fun _ _ _ _ _ _ us hl => match us, hl with | [_], _ => rfl
  obtain ⟨fd_rows_of, F_rows_of⟩ := c.def_ 11 (d := d_rows_of) rfl
  have G_rows_of : mg "rows_of" = some (.ref (He.ga K "rows_of")) := He.glo_ok X G (c.fact 11 (f := .glo "rows_of") rfl)
  have B_rows_of : L2.Binds K fd_rows_of ["many", "most", "letters"] [] := L2.FunD.bindsN F_rows_of fun _ _ _ _ _ _ us hl => match us, hl with | [_, _, _], _ => rfl
  obtain ⟨fd_rows_with, F_rows_with⟩ := c.def_ 12 (d := d_rows_with) rfl
  have G_rows_with : mg "rows_with" = some (.ref (He.ga K "rows_with")) := He.glo_ok X G (c.fact 12 (f := .glo "rows_with") rfl)
  have B_rows_with : L2.Binds K fd_rows_with ["book", "most"] [] := L2.FunD.bindsN F_rows_with fun _ _ _ _ _ _ us hl => match us, hl with | [_, _], _ => rfl
  obtain ⟨fd__law_stream, F__law_stream⟩ := c.def_ 13 (d := d__law_stream) rfl
  have G__law_stream : mg "_law_stream" = some (.ref (He.ga K "_law_stream")) := He.glo_ok X G (c.fact 13 (f := .glo "_law_stream") rfl)
  have B__law_stream : L2.Binds K fd__law_stream ["_law_script"] [] := L2.FunD.bindsN F__law_stream fun _ _ _ _ _ _ us hl => match us, hl with | [_], _ => rfl
  obtain ⟨fd__law_draw, F__law_draw⟩ := c.def_ 14 (d := d__law_draw) rfl
  have G__law_draw : mg "_law_draw" = some (.ref (He.ga K "_law_draw")) := He.glo_ok X G (c.fact 14 (f := .glo "_law_draw") rfl)
  have B__law_draw : L2.Binds K fd__law_draw ["_law_stream_here", "_law_many"] [] := L2.FunD.bindsN F__law_draw fun _ _ _ _ _ _ us hl => match us, hl with | [_, _], _ => rfl
  obtain ⟨fd__law_partner, F__law_partner⟩ := c.def_ 15 (d := d__law_partner) rfl
  have G__law_partner : mg "_law_partner" = some (.ref (He.ga K "_law_partner")) := He.glo_ok X G (c.fact 15 (f := .glo "_law_partner") rfl)
  have B__law_partner : L2.Binds K fd__law_partner ["_law_stream_here", "_law_row"] [] := L2.FunD.bindsN F__law_partner fun _ _ _ _ _ _ us hl => match us, hl with | [_, _], _ => rfl
  obtain ⟨fd__law_short, F__law_short⟩ := c.def_ 16 (d := d__law_short) rfl
  have G__law_short : mg "_law_short" = some (.ref (He.ga K "_law_short")) := He.glo_ok X G (c.fact 16 (f := .glo "_law_short") rfl)
  have B__law_short : L2.Binds K fd__law_short ["_law_stream_here"] [] := L2.FunD.bindsN F__law_short fun _ _ _ _ _ _ us hl => match us, hl with | [_], _ => rfl
  obtain ⟨fd_law, F_law⟩ := c.def_ 17 (d := d_law) rfl
  have G_law : mg "law" = some (.ref (He.ga K "law")) := He.glo_ok X G (c.fact 17 (f := .glo "law") rfl)
  have B_law : L2.Binds K fd_law ["_law_script"] [] := L2.FunD.bindsN F_law fun _ _ _ _ _ _ us hl => match us, hl with | [_], _ => rfl
  simp only [exl, Bool.and_eq_true] at hx
  obtain ⟨⟨h0, h_NoStretch⟩, h_NoPlace⟩ := hx
  obtain ⟨fi_NoPlace, FI_NoPlace⟩ := c.def_ 18 (d := di_NoPlace) rfl
  have T : Txt K mg := ⟨fd_is_integer, F_is_integer, ⟨G_is_integer, F_is_integer.kp, B_is_integer⟩, fd_check_place, F_check_place, ⟨G_check_place, F_check_place.kp, B_check_place⟩, fd_extent_of, F_extent_of, ⟨G_extent_of, F_extent_of.kp, B_extent_of⟩, fd_extent, F_extent, ⟨G_extent, F_extent.kp, B_extent⟩, fd_longest, F_longest, ⟨G_longest, F_longest.kp, B_longest⟩, fd_next_start, F_next_start, ⟨G_next_start, F_next_start.kp, B_next_start⟩, fd_starts_of, F_starts_of, ⟨G_starts_of, F_starts_of.kp, B_starts_of⟩, fd_next_width, F_next_width, ⟨G_next_width, F_next_width.kp, B_next_width⟩, fd_book_of, F_book_of, ⟨G_book_of, F_book_of.kp, B_book_of⟩, fd_first_unlike, F_first_unlike, ⟨G_first_unlike, F_first_unlike.kp, B_first_unlike⟩, fd_is_entry, F_is_entry, ⟨G_is_entry, F_is_entry.kp, B_is_entry⟩, fd_rows_of, F_rows_of, ⟨G_rows_of, F_rows_of.kp, B_rows_of⟩, fd_rows_with, F_rows_with, ⟨G_rows_with, F_rows_with.kp, B_rows_with⟩, fd__law_stream, F__law_stream, ⟨G__law_stream, F__law_stream.kp, B__law_stream⟩, fd__law_draw, F__law_draw, ⟨G__law_draw, F__law_draw.kp, B__law_draw⟩, fd__law_partner, F__law_partner, ⟨G__law_partner, F__law_partner.kp, B__law_partner⟩, fd__law_short, F__law_short, ⟨G__law_short, F__law_short.kp, B__law_short⟩, fd_law, F_law, ⟨G_law, F_law.kp, B_law⟩, He.free_ok X G (c.fact 18 (f := .free "abs") rfl), He.free_ok X G (c.fact 19 (f := .free "all") rfl), He.free_ok X G (c.fact 20 (f := .free "bool") rfl), He.free_ok X G (c.fact 21 (f := .free "int") rfl), He.free_ok X G (c.fact 22 (f := .free "isinstance") rfl), He.free_ok X G (c.fact 23 (f := .free "len") rfl), He.free_ok X G (c.fact 24 (f := .free "list") rfl), He.free_ok X G (c.fact 25 (f := .free "max") rfl), He.free_ok X G (c.fact 26 (f := .free "min") rfl), He.free_ok X G (c.fact 27 (f := .free "range") rfl), He.free_ok X G (c.fact 28 (f := .free "set") rfl), He.free_ok X G (c.fact 29 (f := .free "sorted") rfl), He.free_ok X G (c.fact 30 (f := .free "sum") rfl), He.free_ok X G (c.fact 31 (f := .free "tuple") rfl), He.free_ok X G (c.fact 32 (f := .free "zip") rfl), He.int_ok X G (c.fact 33 (f := .int "MAX_EXTENT" (1464)) rfl), He.int_ok X G (c.fact 34 (f := .int "MAX_LENGTH" (60)) rfl), He.int_ok X G (c.fact 35 (f := .int "MAX_WORDS" (24)) rfl), He.glo_ok X G (c.fact 36 (f := .glo "NoStretch") rfl), here_of (c.fact 36 (f := .glo "NoStretch") rfl), He.glo_ok X G (c.fact 37 (f := .glo "NoPlace") rfl), here_of (c.fact 37 (f := .glo "NoPlace") rfl), errZ_ok h_NoStretch, errT_ok h_NoPlace ⟨_, _, _, _, _, _, _, _, FI_NoPlace⟩⟩
  have e := hfa.symm.trans T.D_law.mg
  cases e
  have b := L2.FunD.bindsA (ps := ["_law_script"]) T.F_law fun _ _ _ _ _ _ us hl => match us, hl with | [_], _ => rfl
  exact ⟨T.fd_law, fun s v => b s [v] rfl, fun base XB _ => T.ok_law (smB_ok h0 XB) math⟩
end Wk34
open PySem PySem.W PySem.Calls PyProof.Rows
theorem Wk34.end_ (math : Wk34.m_law (DL.lawE 8 1) (.z 0) (fun o _ => o = .rt (.bool true)) fun _ _ => False) : PySem.Challenge.rw_wrapwidths_k34_whole_rows_behind_a_book.Holds := by
  w_on; o_law
  refine HandSHeadRun.head_any (r := OpenLaw.row PySem.Challenge.rw_wrapwidths_k34_whole_rows_behind_a_book) (q := view (OpenLaw.row PySem.Challenge.rw_wrapwidths_k34_whole_rows_behind_a_book).prog [28]) (H := Wk34.hk) (ob := Wk34.ob) (M := 6000) (loose := ["MAX_WORDS", "MAX_LENGTH", "MAX_EXTENT", "WrapError", "NoStretch", "NoPlace", "is_integer", "check_place", "extent_of", "extent", "longest", "next_start", "starts_of", "next_width", "book_of", "first_unlike", "is_entry", "rows_of", "rows_with", "_law_stream", "_law_draw", "_law_partner", "_law_short"])
    (d := HandSHeadRun.topDef (OpenLaw.row PySem.Challenge.rw_wrapwidths_k34_whole_rows_behind_a_book).prog 28) (kwd := []) Wk34.ob_eq
    (by kernel_rfl) (fun s => by kernel_rfl) Wk34.run (by kernel_rfl) (by kernel_rfl) (by kernel_rfl) (by rfl) (by first | assumption | decide +kernel) (by decide +kernel) ⟨rfl, rfl, rfl, rfl, rfl, by decide +kernel⟩ ?hw ?hc
  case hw => w_witness2
  case hc =>
    refine DL.walk_law (l := PySem.Challenge.rw_wrapwidths_k34_whole_rows_behind_a_book) (k := 16) (x := "_law_script") rfl (by kernel_rfl) ⟨rfl, by decide, by decide⟩ ?F
    intro w mg f h Y G hmg0
    obtain ⟨K, KX, c⟩ := Y
    have hmg : mg ("law" : PySem.Str) = some (.ref f) := by
      have e : (HandSHeadRun.topDef (OpenLaw.row PySem.Challenge.rw_wrapwidths_k34_whole_rows_behind_a_book).prog 28).name = ("law" : PySem.Str) := by kernel_rfl
      rw [← e]
      exact hmg0
    obtain ⟨fd, hb, hF⟩ := Wk34.facts (P := (PySem.Challenge.rw_wrapwidths_k34_whole_rows_behind_a_book).prog) (w := w) KX G hmg c math
    exact ⟨K, fd, KX, hb, hF⟩
end
section
namespace DL
open PySem
/-- m gives what Q says, drawing at most n times -/
def Ok {α : Type} (m : W α) (n : Nat) (Q : α → Prop) : Prop := ∀ (c : Sx) (P : α → Sx → Prop) (X : Exn → Sx → Prop), c.n + n < 2 ^ 40 → (∀ a c', (c'.n ≤ c.n + n ∧ c'.mu = c.mu) → Q a → P a c') → m c P X
section
variable {α β : Type} {m : W α} {n n' k : Nat} {Q R : α → Prop}
theorem Ok.ret {a : α} (h : Q a) : Ok (ret a) n Q := fun c P X _ k => k a c ⟨by omega, rfl⟩ h
theorem Ok.bnd {f : α → W β} {S : β → Prop} (h : Ok m n Q) (hf : ∀ a, Q a → Ok (f a) k S) : Ok (bnd m f) (n + k) S := fun c P X hc kk =>
  h c _ X (by omega) fun a c' hc' q => hf a q c' P X (by have := hc'.1; omega) fun b c'' h2 s => kk b c'' ⟨by have := hc'.1; have := h2.1; omega, h2.2.trans hc'.2⟩ s
theorem Ok.bnd' {f : α → W β} {S : β → Prop} (t : Nat) (h : Ok m n Q) (hn : n ≤ t) (hf : ∀ a, Q a → Ok (f a) (t - n) S) : Ok (DL.bnd m f) t S := by
  have := Ok.bnd h hf
  rw [Nat.add_sub_cancel' hn] at this
  exact this
theorem Ok.mono (h : Ok m n Q) (hn : n ≤ n') (hq : ∀ a, Q a → R a) : Ok m n' R := fun c P X hc kk => h c P X (by omega) fun a c' h1 h2 => kk a c' ⟨by have := h1.1; omega, h1.2⟩ (hq a h2)
theorem Ok.le (h : Ok m n Q) (hn : n ≤ n') : Ok m n' Q := h.mono hn fun _ h => h
theorem Ok.imp (h : Ok m n Q) (hq : ∀ a, Q a → R a) : Ok m n R := h.mono (Nat.le_refl _) hq
theorem Ok.grd {c : Prop} (hc : c) (h : Ok m n Q) : Ok (grd c m) n Q := by rw [grd_pos hc]; exact h
theorem Ok.eq {m' : W α} (e : m = m') (h : Ok m' n Q) : Ok m n Q := by rw [e]; exact h
theorem Ok.run {P : α → Prop} {X : Exn → Sx → Prop} (h : Ok m n Q) (hn : n < 2 ^ 40) (hq : ∀ a, Q a → P a) : m (.z 0) (fun a _ => P a) X := h (.z 0) _ X (by show 0 + n < _; omega) fun a _ _ q => hq a q
theorem Ok.draw {many : Int} (h0 : 0 < many) (h1 : many < 9223372036854775808) : Ok (fDraw [.int many]) (n + 1) (fun d => ∃ r : Int, d = .int r ∧ 0 ≤ r ∧ r < many) := fun c P X hc k =>
  ⟨⟨h0, h1, by omega⟩, fun r a b => k _ _ ⟨by show c.n + 1 ≤ _; omega, rfl⟩ ⟨r, rfl, a, b⟩⟩
theorem Ok.drawB {many : Int} {f : D → W β} {S : β → Prop} (h0 : 0 < many) (h1 : many < 9223372036854775808) (hf : ∀ r : Int, 0 ≤ r → r < many → Ok (f (.int r)) n S) : Ok (DL.bnd (fDraw [.int many]) f) (n + 1) S := by
  refine Ok.bnd' (n + 1) (Ok.draw (n := 0) h0 h1) (by omega) ?_
  rintro a ⟨r, rfl, h2, h3⟩
  exact hf r h2 h3
theorem Ok.noX (h : Ok m n Q) : Ok (noX m) n Q := fun c P X hc k => h c P _ hc k
theorem Ok.ite {c : Prop} [Decidable c] {a b : W α} (ha : c → Ok a n Q) (hb : ¬ c → Ok b n Q) : Ok (if c then a else b) n Q := by
  split
  · exact ha ‹_›
  · exact hb ‹_›
theorem bnd_ite {c : Prop} [Decidable c] (a b : W α) (f : α → W β) : DL.bnd (if c then a else b) f = if c then DL.bnd a f else DL.bnd b f := by split <;> rfl
theorem bnd_assoc {γ : Type} (m : W α) (f : α → W β) (g : β → W γ) : DL.bnd (DL.bnd m f) g = DL.bnd m fun a => DL.bnd (f a) g := id rfl
end
/-- a walk: the invariant by the turn -/
theorem forL_ok {tg : Tg} {s : XS} {b : Nat} {Q : Out → Prop} (I : Nat → Env → Prop) : ∀ (ds : List D) (i : Nat) (E : Env), I i E →
    (∀ j d E, ds[j]? = some d → I (i + j) E → ∃ E1, tg.put d E = some E1 ∧ Ok (s E1) b fun o => match o with | .nx E' => I (i + j + 1) E' | .ct E' => I (i + j + 1) E' | .bk E' => Q (.nx E') | .rt d => Q (.rt d)) →
    (∀ E, I (i + ds.length) E → Q (.nx E)) → Ok (forL tg s ds E) (ds.length * b) Q
  | [], i, E, h0, _, hd => by
    show Ok (ret (Out.nx E)) _ _
    exact Ok.ret (hd E h0)
  | d :: ds, i, E, h0, hs, hd => by
    obtain ⟨E1, e1, h1⟩ := hs 0 d E rfl h0
    show Ok (match tg.put d E with | none => stuck | some E1 => bnd (s E1) fun o => match o with
      | .nx E' => forL tg s ds E' | .ct E' => forL tg s ds E' | .bk E' => ret (.nx E') | .rt d => ret (.rt d)) _ _
    rw [e1, List.length_cons, Nat.succ_mul, Nat.add_comm]
    have rest : ∀ E', I (i + 1) E' → Ok (forL tg s ds E') (ds.length * b) Q := fun E' h' => forL_ok I ds (i + 1) E' h'
      (fun j d E hj hI => by
        have e : i + 1 + j = i + (j + 1) := by omega
        rw [e] at hI ⊢
        exact hs (j + 1) d E hj hI) fun E hI => hd E (by
        have e : i + 1 + ds.length = i + (d :: ds).length := by simp only [List.length_cons]; omega
        rw [← e]; exact hI)
    refine Ok.bnd h1 fun o ho => ?_
    cases o with
    | nx E' => exact rest E' ho
    | ct E' => exact rest E' ho
    | bk E' => exact Ok.ret ho
    | rt d => exact Ok.ret ho
theorem for_ok {tg : Tg} {s : XS} {ds : List D} {E : Env} {b t : Nat} {Q : Out → Prop} (I : Nat → Env → Prop) (h0 : I 0 E) (ht : ds.length * b ≤ t)
    (hs : ∀ j d E, ds[j]? = some d → I j E → ∃ E1, tg.put d E = some E1 ∧ Ok (s E1) b fun o => match o with | .nx E' => I (j + 1) E' | .ct E' => I (j + 1) E' | .bk E' => Q (.nx E') | .rt d => Q (.rt d))
    (hd : ∀ E, I ds.length E → Q (.nx E)) : Ok (forL tg s ds E) t Q :=
  (forL_ok (b := b) (Q := Q) I ds 0 E h0 (fun j d E h1 h2 => by rw [Nat.zero_add] at h2 ⊢; exact hs j d E h1 h2) fun E h => hd E (by rw [Nat.zero_add] at h; exact h)).le ht
/-- the new list: each item's own words -/
theorem comp_ok {tg : Tg} {t : XT} {e : XE} {b : Nat} {E : Env} {G : D → Prop} : ∀ (ds acc : List D), acc.length + ds.length ≤ 1000000 → (∀ d ∈ acc, G d) →
    (∀ d ∈ ds, ∃ E1, tg.put d E = some E1 ∧ t E1 = ret true ∧ Ok (e E1) b G) → Ok (compL tg t e ds acc E) (ds.length * b) fun ys => ys.length = acc.length + ds.length ∧ ∀ d ∈ ys, G d
  | [], acc, _, ha, _ => Ok.ret ⟨rfl, ha⟩
  | d :: ds, acc, hl, ha, hs => by
    obtain ⟨E1, e1, e2, h1⟩ := hs d (.head _)
    show Ok (match tg.put d E with | none => stuck | some E1 => bnd (t E1) fun c => if c = true then bnd (e E1) fun y => grd (small acc.length) (compL tg t e ds (acc ++ [y]) E) else compL tg t e ds acc E) _ _
    simp only [e1, e2, bnd_ret, if_true]
    rw [List.length_cons, Nat.succ_mul, Nat.add_comm]
    simp only [List.length_cons] at hl
    refine Ok.bnd h1 fun y hy => Ok.grd (by unfold small; omega) ?_
    refine (comp_ok ds (acc ++ [y]) (by rw [List.length_append, List.length_singleton]; omega) ?_ fun d hd => hs d (.tail _ hd)).imp ?_
    · intro d hd
      rcases List.mem_append.mp hd with h | h
      · exact ha d h
      · rw [List.mem_singleton.mp h]; exact hy
    · rintro ys ⟨h2, h3⟩
      exact ⟨by rw [h2, List.length_append, List.length_cons, List.length_nil]; omega, h3⟩
/-- .. all items pure: the list itself -/
theorem comp_map {tg : Tg} {t : XT} {e : XE} {E : Env} (f : D → D) : ∀ (ds acc : List D), acc.length + ds.length ≤ 1000000 →
    (∀ d ∈ ds, ∃ E1, tg.put d E = some E1 ∧ t E1 = ret true ∧ e E1 = ret (f d)) → compL tg t e ds acc E = ret (acc ++ ds.map f)
  | [], acc, _, _ => by simp [compL]
  | d :: ds, acc, hl, hs => by
    obtain ⟨E1, e1, e2, e3⟩ := hs d (.head _)
    simp only [List.length_cons] at hl
    have hs' : small acc.length := by unfold small; omega
    show (match tg.put d E with | none => stuck | some E1 => bnd (t E1) fun c => if c = true then bnd (e E1) fun y => grd (small acc.length) (compL tg t e ds (acc ++ [y]) E) else compL tg t e ds acc E) = _
    simp only [e1, e2, e3, bnd_ret, if_true, grd_pos hs']
    rw [comp_map f ds (acc ++ [f d]) (by simp only [List.length_append, List.length_singleton]; omega) fun d hd => hs d (.tail _ hd)]
    simp
/-- .. with a test -/
theorem comp_filt {tg : Tg} {t : XT} {e : XE} {E : Env} (q : D → Bool) (f : D → D) : ∀ (ds acc : List D), acc.length + ds.length ≤ 1000000 →
    (∀ d ∈ ds, ∃ E1, tg.put d E = some E1 ∧ t E1 = ret (q d) ∧ (q d = true → e E1 = ret (f d))) → compL tg t e ds acc E = ret (acc ++ (ds.filter q).map f)
  | [], acc, _, _ => by simp [compL]
  | d :: ds, acc, hl, hs => by
    obtain ⟨E1, e1, e2, e3⟩ := hs d (.head _)
    simp only [List.length_cons] at hl
    have hs' : small acc.length := by unfold small; omega
    show (match tg.put d E with | none => stuck | some E1 => bnd (t E1) fun c => if c = true then bnd (e E1) fun y => grd (small acc.length) (compL tg t e ds (acc ++ [y]) E) else compL tg t e ds acc E) = _
    simp only [e1, e2, bnd_ret]
    cases hq : q d with
    | true =>
      simp only [if_true, e3 hq, bnd_ret, grd_pos hs']
      rw [comp_filt q f ds (acc ++ [f d]) (by simp only [List.length_append, List.length_singleton]; omega) fun d hd => hs d (.tail _ hd), List.filter_cons_of_pos hq]
      simp
    | false =>
      rw [if_neg (by decide), comp_filt q f ds acc (by omega) fun d hd => hs d (.tail _ hd), List.filter_cons_of_neg (by rw [hq]; decide)]
section
variable {E : Env}
theorem x_var (i : Nat) : eVar i E = match E[i]? with | some (.val d) => ret d | _ => stuck := id rfl
theorem x_con (d : D) : eCon d E = ret d := id rfl
theorem x_bin (o : Op) (a b : XE) : eBin o a b E = bnd (a E) fun x => bnd (b E) fun y => opBin o x y := id rfl
theorem x_neg (a : XE) : eNeg a E = bnd (a E) opNeg := id rfl
theorem x_cmp (o : Cmp) (a b : XE) : eCmp o a b E = bnd (a E) fun x => bnd (b E) fun y => bnd (opCmp o x y) fun c => ret (.bool c) := id rfl
theorem x_chain (o o' : Cmp) (a b c : XE) : eChain o o' a b c E = bnd (a E) fun x => bnd (b E) fun y => bnd (opCmp o x y) fun k => if k = true then bnd (c E) fun z => bnd (opCmp o' y z) fun k' => ret (.bool k') else ret (.bool false) := id rfl
theorem x_tTru (a : XE) : tTru a E = bnd (a E) tru := id rfl
theorem x_tNot (t : XT) : tNot t E = bnd (t E) fun c => ret (!c) := id rfl
theorem x_tAnd (t u : XT) : tAnd t u E = bnd (t E) fun c => if c = true then u E else ret false := id rfl
theorem x_tOr (t u : XT) : tOr t u E = bnd (t E) fun c => if c = true then ret true else u E := id rfl
theorem x_tBool (a : XE) : tBool a E = bnd (a E) fun d => match d with | .bool b => ret b | _ => stuck := id rfl
theorem x_tYes : tYes E = ret true := id rfl
theorem x_not (a : XE) : eNot a E = bnd (a E) fun x => bnd (tru x) fun c => ret (.bool (!c)) := id rfl
theorem x_and (a b : XE) : eAnd a b E = bnd (a E) fun x => bnd (tru x) fun c => if c = true then b E else ret x := id rfl
theorem x_or (a b : XE) : eOr a b E = bnd (a E) fun x => bnd (tru x) fun c => if c = true then ret x else b E := id rfl
theorem x_if (t : XT) (a b : XE) : eIf t a b E = bnd (t E) fun c => if c = true then a E else b E := id rfl
theorem x_b1 (f : B1) (a : XE) : eB1 f a E = bnd (a E) (bi1 f) := id rfl
theorem x_b2 (f : B2) (a b : XE) : eB2 f a b E = bnd (a E) fun x => bnd (b E) fun y => bi2 f x y := id rfl
theorem x_is (t : Ty) (a : XE) : eIs t a E = bnd (a E) fun x => grd (noXn x = true) (ret (.bool (isTy t x))) := id rfl
theorem x_isC (ms : List Str) (a : XE) : eIsC ms a E = bnd (a E) (isC ms) := id rfl
theorem x_fld (a : XE) (f : Str) : eFld a f E = bnd (a E) (fldOf f) := id rfl
theorem x_in (n : Bool) (a b : XE) : eIn n a b E = bnd (a E) fun x => bnd (b E) fun y => opIn n x y := id rfl
theorem x_count (a b : XE) : eCnt a b E = bnd (a E) fun x => match x with | .list xs => bnd (b E) fun y => opCnt (.list xs) y | _ => stuck := id rfl
theorem x_lstR (a : XA) : eLstR a E = bnd (a E) fun xs => grd (small xs.length) (ret (.list xs)) := id rfl
theorem x_tupR (a : XA) : eTupR a E = bnd (a E) fun xs => grd (small xs.length) (ret (.tuple xs)) := id rfl
theorem x_raise (n : Str) (fs : List Str) (a : XA) : sRaise n fs a E = bnd (a E) fun xs => thr ⟨n, fs.zip xs⟩ := id rfl
theorem x_star (a : XE) (r : XA) : aStar a r E = bnd (a E) fun x => bnd (itemsOf x) fun ys => bnd (r E) fun xs => ret (ys ++ xs) := id rfl
theorem x_rev (a : XE) : eRev a E = bnd (a E) opRev := id rfl
theorem x_idx (a b : XE) : eIdx a b E = bnd (a E) fun x => bnd (b E) fun y => opIdx x y := id rfl
theorem x_oNone : oNone E = ret none := id rfl
theorem x_oSome (a : XE) : oSome a E = bnd (a E) fun x => bnd (asInt x) fun i => ret (some i) := id rfl
theorem x_cut (a : XE) (lo hi : XO) : eCut a lo hi E = bnd (a E) fun x => bnd (lo E) fun l => bnd (hi E) fun h => opCut x l h := id rfl
theorem x_aNil : aNil E = ret [] := id rfl
theorem x_aCons (a : XE) (r : XA) : aCons a r E = bnd (a E) fun x => bnd (r E) fun xs => ret (x :: xs) := id rfl
theorem x_tup (a : XA) : eTup a E = bnd (a E) fun xs => grd (small xs.length) (ret (.tuple xs)) := id rfl
theorem x_lst (a : XA) : eLst a E = bnd (a E) fun xs => grd (small xs.length) (ret (.list xs)) := id rfl
theorem x_call (f : Fn) (a : XA) : eCall f a E = bnd (a E) f := id rfl
theorem x_callS (f : Fn) (s : Nat) (a : XA) : eCallS f s a E = match E[s]? with | some .stm => bnd (a E) f | _ => stuck := id rfl
theorem x_iSeq (a : XE) : iSeq a E = bnd (a E) itemsOf := id rfl
theorem x_iRng1 (a : XE) : iRng1 a E = bnd (a E) fun x => bnd (asInt x) fun n => grd (rngOk 0 n) (ret (rng 0 n)) := id rfl
theorem x_iRng2 (a b : XE) : iRng2 a b E = bnd (a E) fun x => bnd (b E) fun y => bnd (asInt x) fun n => bnd (asInt y) fun m => grd (rngOk n m) (ret (rng n m)) := id rfl
theorem x_comp (it : XA) (tg : Tg) (t : XT) (e : XE) (vs : List Nat) : eComp it tg t e vs E = bnd (it E) fun ds => bnd (noX (compL tg t e ds [] (wipeE E vs))) fun ys => ret (.list ys) := id rfl
theorem x_bor (i : Nat) (e : XE) : eBor i e E = match E[i]? with | some (.own ds) => bnd (e (E.set i (.val (.list ds)))) fun d => grd (flat d = true) (ret d) | _ => e E := id rfl
theorem x_tBor (i : Nat) (t : XT) : tBor i t E = match E[i]? with | some (.own ds) => t (E.set i (.val (.list ds))) | _ => t E := id rfl
theorem x_seq (a b : XS) : sSeq a b E = bnd (a E) fun o => match o with | .nx E' => b E' | o => ret o := id rfl
theorem x_skip : sSkip E = ret (.nx E) := id rfl
theorem x_asg (i : Nat) (e : XE) : sAsg i e E = bnd (e E) fun d => ret (.nx (E.set i (.val d))) := id rfl
theorem x_put (tg : Tg) (e : XE) : sPut tg e E = bnd (e E) fun d => match tg.put d E with | some E' => ret (.nx E') | none => stuck := id rfl
theorem x_par (i j : Nat) (a b : XE) : sPar i j a b E = bnd (a E) fun x => bnd (b E) fun y => ret (.nx ((E.set i (.val x)).set j (.val y))) := id rfl
theorem x_parO (i j : Nat) (a b : XE) : sParO i j a b E = bnd (a E) fun x => bnd (b E) fun y => match x with | .list ds => ret (.nx ((E.set i (.own ds)).set j (.val y))) | _ => stuck := id rfl
theorem x_own (i : Nat) (e : XE) : sOwn i e E = bnd (e E) fun d => match d with | .list ds => ret (.nx (E.set i (.own ds))) | _ => stuck := id rfl
theorem x_rel (i : Nat) (s : XS) : sRel i s E = match E[i]? with | some (.own ds) => s (E.set i (.val (.list ds))) | _ => s E := id rfl
theorem x_app (i : Nat) (e : XE) : sApp i e E = match E[i]? with | some (.own ds) => bnd (e E) fun d => grd (small ds.length) (ret (.nx (E.set i (.own (ds ++ [d]))))) | _ => stuck := id rfl
theorem x_setI (i : Nat) (k e : XE) : sSet i k e E = match E[i]? with
  | some (.own ds) => bnd (e E) fun d => bnd (k E) fun n => match n with
    | .int z => match L2.ixN ds.length z with
      | some j => ret (.nx (E.set i (.own (ds.set j d))))
      | none => stuck
    | _ => stuck
  | _ => stuck := id rfl
theorem x_sIf (t : XT) (a b : XS) : sIf t a b E = bnd (t E) fun c => if c = true then a E else b E := id rfl
theorem x_for (it : XA) (tg : Tg) (s : XS) : sFor it tg s E = bnd (it E) fun ds => forL tg s ds E := id rfl
theorem x_ret (e : XE) : sRet e E = bnd (e E) fun d => ret (.rt d) := id rfl
theorem x_retN : sRetN E = ret (.rt .none) := id rfl
theorem x_expr (e : XE) : sExpr e E = bnd (e E) fun _ => ret (.nx E) := id rfl
theorem x_brk : sBreak E = ret (.bk E) := id rfl
theorem x_cnt : sCont E = ret (.ct E) := id rfl
theorem x_fnS (k n : Nat) (s : XS) (ds : List D) : fnS k n s ds = grd (ds.length + 1 = k) (bnd (s (start n (.stm :: ds.map .val))) endOf) := id rfl
theorem x_put1 (i : Nat) (d : D) (E : Env) : Tg.put (.nm i) d E = some (E.set i (.val d)) := id rfl
end
theorem grd_tt {α : Type} (m : W α) : grd (true = true) m = m := grd_pos rfl m
theorem nx_int (i : Int) : noXn (.int i) = true := id rfl
theorem nx_bool (i : Bool) : noXn (.bool i) = true := id rfl
theorem nx_str (i : Str) : noXn (.str i) = true := id rfl
theorem nx_none : noXn .none = true := id rfl
theorem nx_tup (i : List D) : noXn (.tuple i) = true := id rfl
theorem nx_lst (i : List D) : noXn (.list i) = true := id rfl
theorem nx_plain : ∀ {d : D}, plain d = true → noXn d = true
  | .none, _ => rfl
  | .bool _, _ => rfl
  | .int _, _ => rfl
  | .str _, _ => rfl
  | .tuple _, _ => rfl
  | .list _, _ => rfl
  | .dict [], _ => rfl
  | .dict ((.none, _) :: _), h => by simp [plain] at h
  | .dict ((.bool _, _) :: _), _ => rfl
  | .dict ((.int _, _) :: _), _ => rfl
  | .dict ((.str _, _) :: _), _ => rfl
  | .dict ((.list _, _) :: _), _ => rfl
  | .dict ((.tuple _, _) :: _), _ => rfl
  | .dict ((.dict _, _) :: _), _ => rfl
theorem fld_x (n f : Str) (d : D) : fldOf f (xD n [(f, d)]) = ret d := by
  show (if f = f then ret d else stuck) = _
  rw [if_pos rfl]
theorem exn_d (n : Str) (fs : List (Str × D)) : Exn.d ⟨n, fs⟩ = xD n fs := id rfl
/-- ints -/
theorem o_add (a b : Int) : opBin .add (.int a) (.int b) = ret (.int (a + b)) := id rfl
theorem o_sub (a b : Int) : opBin .sub (.int a) (.int b) = ret (.int (a - b)) := id rfl
theorem o_mod (a b : Int) : opBin .mod (.int a) (.int b) = grd (0 < b) (ret (.int (a % b))) := id rfl
theorem o_neg (a : Int) : opNeg (.int a) = ret (.int (-a)) := id rfl
theorem eqv_int (a b : Int) : opEq (.int a) (.int b) = ret (decide (a = b)) := by
  unfold opEq
  rw [grd_pos (eqOk_of rfl rfl)]
  rfl
theorem o_eq (a b : Int) : opCmp .eq (.int a) (.int b) = ret (decide (a = b)) := eqv_int a b
theorem o_ne (a b : Int) : opCmp .ne (.int a) (.int b) = ret (!decide (a = b)) := by
  show bnd (opEq _ _) _ = _
  rw [eqv_int]
  rfl
theorem o_lt (a b : Int) : opCmp .lt (.int a) (.int b) = ret (decide (a < b)) := id rfl
theorem o_le (a b : Int) : opCmp .le (.int a) (.int b) = ret (decide (a ≤ b)) := id rfl
theorem o_gt (a b : Int) : opCmp .gt (.int a) (.int b) = ret (decide (b < a)) := id rfl
theorem o_ge (a b : Int) : opCmp .ge (.int a) (.int b) = ret (decide (b ≤ a)) := id rfl
theorem eqv_str (a b : Str) : opEq (.str a) (.str b) = ret (decide (a = b)) := by
  unfold opEq
  rw [grd_pos (show eqOk (.str a) (.str b) from True.intro)]
  show ret (a == b) = _
  have e : (a == b) = decide (a = b) := by
    rw [Bool.eq_iff_iff]
    simp
  rw [e]
theorem o_eqS (a b : Str) : opCmp .eq (.str a) (.str b) = ret (decide (a = b)) := eqv_str a b
theorem o_neS (a b : Str) : opCmp .ne (.str a) (.str b) = ret (!decide (a = b)) := by
  show bnd (opEq _ _) _ = _
  rw [eqv_str]
  rfl
end DL
end
section
namespace DL
open PySem
/-- tame data, to be shown: at most n items in all, k deep, its ints of at most 45 digits -/
structure Tame (n k : Nat) (d : D) : Prop where
  short : PyData.leavesShort 48 d = true
  able : PyData.showable d = true
  bulk : PyData.bulk d ≤ n
  deep : PyData.depth d ≤ k
  pln : plain d = true
theorem Tame.mono {n k n' k' : Nat} {d : D} (h : Tame n k d) (hn : n ≤ n') (hk : k ≤ k') : Tame n' k' d := ⟨h.short, h.able, Nat.le_trans h.bulk hn, Nat.le_trans h.deep hk, h.pln⟩
structure TameAll (n k : Nat) (ds : List D) : Prop where
  short : PyData.leavesShortAll 48 ds = true
  able : PyData.showableAll ds = true
  bulk : PyData.bulkAll ds ≤ n
  deep : PyData.depthAll ds ≤ k
  pln : plainAll ds = true
theorem TameAll.mono {n k n' k' : Nat} {ds : List D} (h : TameAll n k ds) (hn : n ≤ n') (hk : k ≤ k') : TameAll n' k' ds := ⟨h.short, h.able, Nat.le_trans h.bulk hn, Nat.le_trans h.deep hk, h.pln⟩
theorem deep_ints : ∀ ns : List Int, PyData.depthAll (ns.map PyData.int) = 0
  | [] => rfl
  | _ :: r => by rw [List.map_cons, PyData.depthAll, deep_ints r]; rfl
theorem eqvAll_ints : ∀ a b : List Int, PyData.eqvAll (a.map PyData.int) (b.map PyData.int) = decide (a = b)
  | [], [] => rfl
  | [], _ :: _ => rfl
  | _ :: _, [] => rfl
  | x :: a, y :: b => by
    rw [List.map_cons, List.map_cons, PyData.eqvAll, eqvAll_ints a b]
    have e : PyData.eqv (.int x) (.int y) = decide (x = y) := rfl
    rw [e]
    simp
theorem shp_ints (ns : List Int) : SeqAt.shaped (.tuple (ns.map PyData.int)) = true := by
  unfold SeqAt.shaped
  simp [PyData.canLay0, lay_ints, PyData.depth, deep_ints]
theorem shp_intsL (ns : List Int) : SeqAt.shaped (.list (ns.map PyData.int)) = true := by
  unfold SeqAt.shaped
  simp [PyData.canLay0, lay_ints, PyData.depth, deep_ints]
theorem eq_ints (a b : List Int) : opEq (.tuple (a.map PyData.int)) (.tuple (b.map PyData.int)) = ret (decide (a = b)) := by
  unfold opEq
  rw [grd_pos (eqOk_of (shp_ints a) (shp_ints b))]
  show ret (PyData.eqvAll _ _) = _
  rw [eqvAll_ints]
theorem o_eqT (a b : List Int) : opCmp .eq (.tuple (a.map PyData.int)) (.tuple (b.map PyData.int)) = ret (decide (a = b)) := eq_ints a b
theorem eq_intsL (a b : List Int) : opEq (.list (a.map PyData.int)) (.list (b.map PyData.int)) = ret (decide (a = b)) := by
  unfold opEq
  rw [grd_pos (eqOk_of (shp_intsL a) (shp_intsL b))]
  show ret (PyData.eqvAll _ _) = _
  rw [eqvAll_ints]
theorem o_neL (a b : List Int) : opCmp .ne (.list (a.map PyData.int)) (.list (b.map PyData.int)) = ret (!decide (a = b)) := by
  show bnd (opEq _ _) _ = _
  rw [eq_intsL]
  rfl
theorem shp_of {d : D} (h : PyData.canLay0 d = true) (k : PyData.depth d ≤ 64) : SeqAt.shaped d = true := by
  unfold SeqAt.shaped
  rw [h, decide_eq_true k]
  rfl
section
variable {E : Env} {n k : Nat} {Q : Out → Prop}
theorem Ok.seq {a b : XS} (t : Nat) (R : Env → Prop) (h : Ok (a E) n fun o => match o with | .nx E' => R E' | .rt d => Q (.rt d) | .bk E' => Q (.bk E') | .ct E' => Q (.ct E')) (hn : n ≤ t) (hb : ∀ E', R E' → Ok (b E') (t - n) Q) : Ok (sSeq a b E) t Q := by
  refine Ok.bnd' t h hn fun o ho => ?_
  cases o with
  | nx E' => exact hb E' ho
  | rt d => exact Ok.ret ho
  | bk E' => exact Ok.ret ho
  | ct E' => exact Ok.ret ho
theorem Ok.fn {s : XS} {Q : D → Prop} (h : Ok (s E) n fun o => match o with | .rt d => Q d | .nx _ => Q .none | _ => False) : Ok (DL.bnd (s E) endOf) n Q := by
  refine Ok.bnd' n h (Nat.le_refl _) fun o ho => ?_
  cases o with
  | nx E' => exact Ok.ret ho
  | rt d => exact Ok.ret ho
  | bk E' => exact ho.elim
  | ct E' => exact ho.elim
theorem s_asg (i : Nat) (e : XE) (b : XS) : sSeq (sAsg i e) b E = bnd (e E) fun d => b (E.set i (.val d)) := id rfl
theorem s_par (i j : Nat) (x y : XE) (b : XS) : sSeq (sPar i j x y) b E = bnd (x E) fun v => bnd (y E) fun w => b ((E.set i (.val v)).set j (.val w)) := id rfl
theorem s_own (i : Nat) (e : XE) (b : XS) : sSeq (sOwn i e) b E = bnd (e E) fun d => match d with | .list ds => b (E.set i (.own ds)) | _ => stuck := by
  show bnd (bnd (e E) _) _ = _
  rw [bnd_assoc]
  congr 1
  funext d
  cases d <;> rfl
theorem s_parO (i j : Nat) (x y : XE) (b : XS) : sSeq (sParO i j x y) b E = bnd (x E) fun v => bnd (y E) fun w => match v with | .list ds => b ((E.set i (.own ds)).set j (.val w)) | _ => stuck := by
  show bnd (bnd (x E) _) _ = _
  rw [bnd_assoc]
  congr 1
  funext v
  rw [bnd_assoc]
  congr 1
  funext w
  cases v <;> rfl
theorem s_app (i : Nat) (e : XE) (b : XS) {ds : List D} (h : E[i]? = some (.own ds)) : sSeq (sApp i e) b E = bnd (e E) fun d => grd (small ds.length) (b (E.set i (.own (ds ++ [d])))) := by
  show bnd (sApp i e E) _ = _
  rw [x_app, h]
  rfl
theorem s_put (tg : Tg) (e : XE) (b : XS) : sSeq (sPut tg e) b E = bnd (e E) fun d => match tg.put d E with | some E' => b E' | none => stuck := by
  show bnd (bnd (e E) _) _ = _
  rw [bnd_assoc]
  congr 1
  funext d
  cases tg.put d E <;> rfl
theorem s_expr (e : XE) (b : XS) : sSeq (sExpr e) b E = bnd (e E) fun _ => b E := id rfl
theorem s_ret (e : XE) (b : XS) : sSeq (sRet e) b E = bnd (e E) fun d => ret (.rt d) := id rfl
theorem s_skip (b : XS) : sSeq sSkip b E = b E := id rfl
theorem s_seq (a b c : XS) : sSeq (sSeq a b) c E = sSeq a (sSeq b c) E := by
  show bnd (bnd (a E) _) _ = bnd (a E) _
  rw [bnd_assoc]
  congr 1
  funext o
  cases o <;> rfl
theorem s_if (t : XT) (x y b : XS) : sSeq (sIf t x y) b E = bnd (t E) fun c => if c = true then sSeq x b E else sSeq y b E := by
  show bnd (bnd (t E) _) _ = _
  rw [bnd_assoc]
  congr 1
  funext c
  cases c <;> rfl
theorem s_rel (i : Nat) (s b : XS) : sSeq (sRel i s) b E = match E[i]? with | some (.own ds) => sSeq s b (E.set i (.val (.list ds))) | _ => sSeq s b E := by
  show bnd (sRel i s E) _ = _
  rw [x_rel]
  cases h : E[i]? with
  | none => rfl
  | some y => cases y <;> rfl
theorem b1_if {α β : Type} (c : Bool) (x y : W α) (f : α → W β) : bnd (if c = true then x else y) f = if c = true then bnd x f else bnd y f := by cases c <;> rfl
end
theorem idx_tup {ds : List D} {i : Int} (h0 : 0 ≤ i) (h1 : i < ds.length) : opIdx (.tuple ds) (.int i) = ret (ds[i.toNat]'(by omega)) := by
  show (match L2.atI ds i with | some d => ret d | none => stuck) = _
  have e : L2.atI ds i = some (ds[i.toNat]'(by omega)) := by
    unfold L2.atI L2.ixN
    rw [if_pos h0, if_pos h1]
    exact List.getElem?_eq_getElem _
  rw [e]
theorem idx_ints {ns : List Int} {i : Int} (h0 : 0 ≤ i) (h1 : i < ns.length) : opIdx (.tuple (ns.map PyData.int)) (.int i) = ret (.int (ns[i.toNat]'(by omega))) := by
  rw [idx_tup h0 (by rw [List.length_map]; exact h1), List.getElem_map]
theorem ok_comp {β : Type} {it : XA} {tg : Tg} {t : XT} {e : XE} {vs : List Nat} {E : Env} {ds : List D} {b T : Nat} {G : D → Prop} {f : D → W β} {Q : β → Prop} (hit : it E = ret ds) (hl : ds.length ≤ 1000000)
    (hs : ∀ d ∈ ds, ∃ E1, tg.put d (wipeE E vs) = some E1 ∧ t E1 = ret true ∧ Ok (e E1) b G) (hT : ds.length * b ≤ T)
    (hf : ∀ ys : List D, ys.length = ds.length → (∀ d ∈ ys, G d) → Ok (f (.list ys)) (T - ds.length * b) Q) : Ok (DL.bnd (eComp it tg t e vs E) f) T Q := by
  rw [x_comp, hit, bnd_ret, bnd_assoc]
  refine Ok.bnd' T (Ok.noX (comp_ok (G := G) (b := b) ds [] (by simp only [List.length_nil]; omega) (fun d hd => (nomatch hd)) hs)) hT ?_
  rintro ys ⟨h1, h2⟩
  rw [bnd_ret]
  exact hf ys (by rw [h1, List.length_nil, Nat.zero_add]) h2
theorem ints_of {Q : Int → Prop} : ∀ {ds : List D}, (∀ d ∈ ds, ∃ x : Int, d = .int x ∧ Q x) → ∃ ns : List Int, ds = ns.map PyData.int ∧ ∀ x ∈ ns, Q x
  | [], _ => ⟨[], rfl, fun _ h => (nomatch h)⟩
  | d :: ds, h => by
    obtain ⟨x, rfl, hx⟩ := h d (.head _)
    obtain ⟨ns, rfl, hn⟩ := ints_of fun d hd => h d (.tail _ hd)
    refine ⟨x :: ns, rfl, fun y hy => ?_⟩
    rcases List.mem_cons.mp hy with rfl | hy
    · exact hx
    · exact hn y hy
theorem rng_len (a b : Int) : (rng a b).length = (b - a).toNat := by
  unfold rng
  rw [List.length_map, List.length_range]
theorem rng_mem {a b : Int} {d : D} (h : d ∈ rng a b) : ∃ i : Int, d = .int i ∧ a ≤ i ∧ i < b := by
  unfold rng at h
  obtain ⟨i, hi, rfl⟩ := List.mem_map.mp h
  exact ⟨_, rfl, by omega, by have := List.mem_range.mp hi; omega⟩
theorem rng_at {a b : Int} {j : Nat} {d : D} (h : (rng a b)[j]? = some d) : d = .int (a + j) ∧ a + j < b := by
  unfold rng at h
  rw [List.getElem?_map] at h
  cases e : (List.range (b - a).toNat)[j]? with
  | none => rw [e] at h; cases h
  | some i =>
    rw [e] at h
    obtain ⟨h1, h2⟩ := List.getElem?_eq_some_iff.mp e
    rw [List.getElem_range] at h2
    rw [List.length_range] at h1
    subst h2
    cases h
    exact ⟨rfl, by omega⟩
theorem f_fn {k n : Nat} {s : XS} {ds : List D} (h : ds.length = k) : fn k n s ds = bnd (s (start n (ds.map .val))) endOf := grd_pos h _
end DL
end
section
namespace DL
open PySem
end DL
end
section
namespace DL
open PySem
theorem is_integer_0 (i lo hi : Int) : w_is_integer_0 [.int i, .int lo, .int hi] = ret (.bool (decide (lo ≤ i ∧ i ≤ hi))) := by
  unfold w_is_integer_0
  refine (f_fn (by rfl)).trans ?_
  simp only [x_var, x_con, x_bin, x_neg, x_cmp, x_chain, x_tTru, x_tNot, x_tAnd, x_tOr, x_tBool, x_tYes, x_not, x_and, x_or, x_if, x_b1, x_b2, x_is, x_idx, x_oNone, x_oSome, x_cut, x_aNil, x_aCons, x_tup, x_lst, x_call, x_callS,
    x_iSeq, x_iRng1, x_iRng2, x_bor, x_tBor, x_put1, List.map_cons, List.map_nil, List.cons_append, List.nil_append, List.length_cons, List.length_nil, Nat.zero_add, Nat.reduceAdd, Nat.reduceSub, List.reduceReplicate, start,
    List.getElem?_cons_zero, List.getElem?_cons_succ, List.set_cons_zero, List.set_cons_succ, bnd_ret, bnd_assoc, bnd_grd, b1_if, bnd_ite, small, Nat.reduceLeDiff, grd_true, o_add, o_sub, o_neg, o_eq, o_ne, o_lt, o_le, o_gt, o_ge, o_eqS, o_neS,
    decide_eq_true_eq, reduceIte, decide_true, decide_false, Bool.not_true, Bool.not_false, Bool.false_eq_true, itemsOf, asInt, bi2, endOf, isTy,
    grd_tt, nx_int, nx_bool, nx_str, nx_none, nx_tup, nx_lst, x_isC, x_fld, x_in, x_count, x_lstR, x_tupR, x_raise, x_star, bnd_thr, noX_ret, fld_x, exn_d, eSetO, Out.clear, List.zip_cons_cons, List.zip_nil_left, List.zip_nil_right, s_asg, s_par, s_own, s_parO, s_put, s_expr, s_ret, s_skip, s_seq, s_rel, x_asg, x_par, x_own, x_parO, x_put, x_expr, x_ret, x_retN, x_skip, x_rel, x_app, x_setI, x_sIf, x_for, x_brk, x_cnt, tru]
  by_cases h : lo ≤ i
  · simp [h]
  · simp [h]
/-- the extent of a stretch -/
def ext (ns : List Int) (i j : Nat) : Int := ((ns.drop i).take (j + 1 - i)).sum + j - i
theorem cut_nat (ds : List D) (i j : Nat) (hi : i ≤ ds.length) (hj : j ≤ ds.length) : DL.cut ds (some (i : Int)) (some (j : Int)) = (ds.drop i).take (j - i) := by
  unfold DL.cut
  rw [HT.sIx_nat, HT.sIx_nat, Nat.min_eq_left hi, Nat.min_eq_left hj]
theorem sum_ints (ns : List Int) : bi1 .sum (.tuple (ns.map PyData.int)) = ret (.int ns.sum) := by
  show bnd (intsOf (.tuple (ns.map PyData.int))) _ = _
  simp only [intsOf, itemsOf, bnd_ret, ints?_map]
theorem extent_of_0 {ns : List Int} {i j : Nat} (h : i ≤ j) (hj : j < ns.length) : w_extent_of_0 [.tuple (ns.map PyData.int), .int i, .int j] = ret (.int (ext ns i j)) := by
  unfold w_extent_of_0
  refine (f_fn (by rfl)).trans ?_
  simp only [x_var, x_con, x_bin, x_neg, x_cmp, x_chain, x_tTru, x_tNot, x_tAnd, x_tOr, x_tBool, x_tYes, x_not, x_and, x_or, x_if, x_b1, x_b2, x_is, x_idx, x_oNone, x_oSome, x_cut, x_aNil, x_aCons, x_tup, x_lst, x_call, x_callS,
    x_iSeq, x_iRng1, x_iRng2, x_bor, x_tBor, x_put1, List.map_cons, List.map_nil, List.cons_append, List.nil_append, List.length_cons, List.length_nil, Nat.zero_add, Nat.reduceAdd, Nat.reduceSub, List.reduceReplicate, start,
    List.getElem?_cons_zero, List.getElem?_cons_succ, List.set_cons_zero, List.set_cons_succ, bnd_ret, bnd_assoc, bnd_grd, b1_if, bnd_ite, small, Nat.reduceLeDiff, grd_true, o_add, o_sub, o_neg, o_eq, o_ne, o_lt, o_le, o_gt, o_ge, o_eqS, o_neS,
    decide_eq_true_eq, reduceIte, decide_true, decide_false, Bool.not_true, Bool.not_false, Bool.false_eq_true, itemsOf, asInt, bi2, endOf, isTy,
    grd_tt, nx_int, nx_bool, nx_str, nx_none, nx_tup, nx_lst, x_isC, x_fld, x_in, x_count, x_lstR, x_tupR, x_raise, x_star, bnd_thr, noX_ret, fld_x, exn_d, eSetO, Out.clear, List.zip_cons_cons, List.zip_nil_left, List.zip_nil_right, s_asg, s_par, s_own, s_parO, s_put, s_expr, s_ret, s_skip, s_seq, s_rel, x_asg, x_par, x_own, x_parO, x_put, x_expr, x_ret, x_retN, x_skip, x_rel, x_app, x_setI, x_sIf, x_for, x_brk, x_cnt, opCut]
  rw [show ((j : Int) + 1) = ((j + 1 : Nat) : Int) by omega, cut_nat _ i (j + 1) (by rw [List.length_map]; omega) (by rw [List.length_map]; omega), ← List.map_drop, ← List.map_take, sum_ints]
  simp only [x_var, x_con, x_bin, x_neg, x_cmp, x_chain, x_tTru, x_tNot, x_tAnd, x_tOr, x_tBool, x_tYes, x_not, x_and, x_or, x_if, x_b1, x_b2, x_is, x_idx, x_oNone, x_oSome, x_cut, x_aNil, x_aCons, x_tup, x_lst, x_call, x_callS,
    x_iSeq, x_iRng1, x_iRng2, x_bor, x_tBor, x_put1, List.map_cons, List.map_nil, List.cons_append, List.nil_append, List.length_cons, List.length_nil, Nat.zero_add, Nat.reduceAdd, Nat.reduceSub, List.reduceReplicate, start,
    List.getElem?_cons_zero, List.getElem?_cons_succ, List.set_cons_zero, List.set_cons_succ, bnd_ret, bnd_assoc, bnd_grd, b1_if, bnd_ite, small, Nat.reduceLeDiff, grd_true, o_add, o_sub, o_neg, o_eq, o_ne, o_lt, o_le, o_gt, o_ge, o_eqS, o_neS,
    decide_eq_true_eq, reduceIte, decide_true, decide_false, Bool.not_true, Bool.not_false, Bool.false_eq_true, itemsOf, asInt, bi2, endOf, isTy,
    grd_tt, nx_int, nx_bool, nx_str, nx_none, nx_tup, nx_lst, x_isC, x_fld, x_in, x_count, x_lstR, x_tupR, x_raise, x_star, bnd_thr, noX_ret, fld_x, exn_d, eSetO, Out.clear, List.zip_cons_cons, List.zip_nil_left, List.zip_nil_right, s_asg, s_par, s_own, s_parO, s_put, s_expr, s_ret, s_skip, s_seq, s_rel, x_asg, x_par, x_own, x_parO, x_put, x_expr, x_ret, x_retN, x_skip, x_rel, x_app, x_setI, x_sIf, x_for, x_brk, x_cnt]
  unfold ext
  rfl
theorem check_place_0 {ns : List Int} {i : Int} (h0 : 0 ≤ i) (h1 : i < ns.length) : w_check_place_0 [.tuple (ns.map PyData.int), .int i] = ret .none := by
  unfold w_check_place_0
  refine (f_fn (by rfl)).trans ?_
  simp only [x_var, x_con, x_bin, x_neg, x_cmp, x_chain, x_tTru, x_tNot, x_tAnd, x_tOr, x_tBool, x_tYes, x_not, x_and, x_or, x_if, x_b1, x_b2, x_is, x_idx, x_oNone, x_oSome, x_cut, x_aNil, x_aCons, x_tup, x_lst, x_call, x_callS,
    x_iSeq, x_iRng1, x_iRng2, x_bor, x_tBor, x_put1, List.map_cons, List.map_nil, List.cons_append, List.nil_append, List.length_cons, List.length_nil, Nat.zero_add, Nat.reduceAdd, Nat.reduceSub, List.reduceReplicate, start,
    List.getElem?_cons_zero, List.getElem?_cons_succ, List.set_cons_zero, List.set_cons_succ, bnd_ret, bnd_assoc, bnd_grd, b1_if, bnd_ite, small, Nat.reduceLeDiff, grd_true, o_add, o_sub, o_neg, o_eq, o_ne, o_lt, o_le, o_gt, o_ge, o_eqS, o_neS,
    decide_eq_true_eq, reduceIte, decide_true, decide_false, Bool.not_true, Bool.not_false, Bool.false_eq_true, itemsOf, asInt, bi2, endOf, isTy,
    grd_tt, nx_int, nx_bool, nx_str, nx_none, nx_tup, nx_lst, x_isC, x_fld, x_in, x_count, x_lstR, x_tupR, x_raise, x_star, bnd_thr, noX_ret, fld_x, exn_d, eSetO, Out.clear, List.zip_cons_cons, List.zip_nil_left, List.zip_nil_right, s_asg, s_par, s_own, s_parO, s_put, s_expr, s_ret, s_skip, s_seq, s_rel, x_asg, x_par, x_own, x_parO, x_put, x_expr, x_ret, x_retN, x_skip, x_rel, x_app, x_setI, x_sIf, x_for, x_brk, x_cnt, bi1, List.length_map, is_integer_0, tru]
  rw [decide_eq_true (show 0 ≤ i ∧ i ≤ (ns.length : Int) - 1 by omega)]
  rfl
theorem extent_0 {ns : List Int} {i j : Nat} (h : i ≤ j) (hj : j < ns.length) : w_extent_0 [.tuple (ns.map PyData.int), .int i, .int j] = ret (.int (ext ns i j)) := by
  unfold w_extent_0
  refine (f_fn (by rfl)).trans ?_
  simp only [x_var, x_con, x_bin, x_neg, x_cmp, x_chain, x_tTru, x_tNot, x_tAnd, x_tOr, x_tBool, x_tYes, x_not, x_and, x_or, x_if, x_b1, x_b2, x_is, x_idx, x_oNone, x_oSome, x_cut, x_aNil, x_aCons, x_tup, x_lst, x_call, x_callS,
    x_iSeq, x_iRng1, x_iRng2, x_bor, x_tBor, x_put1, List.map_cons, List.map_nil, List.cons_append, List.nil_append, List.length_cons, List.length_nil, Nat.zero_add, Nat.reduceAdd, Nat.reduceSub, List.reduceReplicate, start,
    List.getElem?_cons_zero, List.getElem?_cons_succ, List.set_cons_zero, List.set_cons_succ, bnd_ret, bnd_assoc, bnd_grd, b1_if, bnd_ite, small, Nat.reduceLeDiff, grd_true, o_add, o_sub, o_neg, o_eq, o_ne, o_lt, o_le, o_gt, o_ge, o_eqS, o_neS,
    decide_eq_true_eq, reduceIte, decide_true, decide_false, Bool.not_true, Bool.not_false, Bool.false_eq_true, itemsOf, asInt, bi2, endOf, isTy,
    grd_tt, nx_int, nx_bool, nx_str, nx_none, nx_tup, nx_lst, x_isC, x_fld, x_in, x_count, x_lstR, x_tupR, x_raise, x_star, bnd_thr, noX_ret, fld_x, exn_d, eSetO, Out.clear, List.zip_cons_cons, List.zip_nil_left, List.zip_nil_right, s_asg, s_par, s_own, s_parO, s_put, s_expr, s_ret, s_skip, s_seq, s_rel, x_asg, x_par, x_own, x_parO, x_put, x_expr, x_ret, x_retN, x_skip, x_rel, x_app, x_setI, x_sIf, x_for, x_brk, x_cnt]
  rw [check_place_0 (i := (i : Int)) (by omega) (by omega), check_place_0 (i := (j : Int)) (by omega) (by omega)]
  simp only [x_var, x_con, x_bin, x_neg, x_cmp, x_chain, x_tTru, x_tNot, x_tAnd, x_tOr, x_tBool, x_tYes, x_not, x_and, x_or, x_if, x_b1, x_b2, x_is, x_idx, x_oNone, x_oSome, x_cut, x_aNil, x_aCons, x_tup, x_lst, x_call, x_callS,
    x_iSeq, x_iRng1, x_iRng2, x_bor, x_tBor, x_put1, List.map_cons, List.map_nil, List.cons_append, List.nil_append, List.length_cons, List.length_nil, Nat.zero_add, Nat.reduceAdd, Nat.reduceSub, List.reduceReplicate, start,
    List.getElem?_cons_zero, List.getElem?_cons_succ, List.set_cons_zero, List.set_cons_succ, bnd_ret, bnd_assoc, bnd_grd, b1_if, bnd_ite, small, Nat.reduceLeDiff, grd_true, o_add, o_sub, o_neg, o_eq, o_ne, o_lt, o_le, o_gt, o_ge, o_eqS, o_neS,
    decide_eq_true_eq, reduceIte, decide_true, decide_false, Bool.not_true, Bool.not_false, Bool.false_eq_true, itemsOf, asInt, bi2, endOf, isTy,
    grd_tt, nx_int, nx_bool, nx_str, nx_none, nx_tup, nx_lst, x_isC, x_fld, x_in, x_count, x_lstR, x_tupR, x_raise, x_star, bnd_thr, noX_ret, fld_x, exn_d, eSetO, Out.clear, List.zip_cons_cons, List.zip_nil_left, List.zip_nil_right, s_asg, s_par, s_own, s_parO, s_put, s_expr, s_ret, s_skip, s_seq, s_rel, x_asg, x_par, x_own, x_parO, x_put, x_expr, x_ret, x_retN, x_skip, x_rel, x_app, x_setI, x_sIf, x_for, x_brk, x_cnt, s_if, extent_of_0 h hj]
  rw [if_neg (show ¬ (j : Int) < i by omega)]
theorem ext_self {ns : List Int} {i : Nat} {x : Int} (h : ns[i]? = some x) : ext ns i i = x := by
  unfold ext
  obtain ⟨hl, e⟩ := List.getElem?_eq_some_iff.mp h
  rw [show i + 1 - i = 1 by omega, List.drop_eq_getElem_cons hl, e]
  simp
theorem ext_next {ns : List Int} {i j : Nat} {x : Int} (hij : i ≤ j) (h : ns[j + 1]? = some x) : ext ns i (j + 1) = ext ns i j + 1 + x := by
  unfold ext
  have e : ((ns.drop i).take (j + 1 + 1 - i)) = (ns.drop i).take (j + 1 - i) ++ [x] := by
    rw [show j + 1 + 1 - i = (j + 1 - i) + 1 by omega, List.take_succ, List.getElem?_drop, show i + (j + 1 - i) = j + 1 by omega, h]
    rfl
  rw [e, List.sum_append]
  simp
  omega
theorem sum_bound : ∀ {ns : List Int} {b : Int}, 0 ≤ b → (∀ x ∈ ns, 0 ≤ x ∧ x ≤ b) → 0 ≤ ns.sum ∧ ns.sum ≤ b * ns.length
  | [], b, _, _ => by simp
  | x :: ns, b, hb, h => by
    have := sum_bound hb fun y hy => h y (.tail _ hy)
    have hx := h x (.head _)
    rw [List.sum_cons, List.length_cons]
    have e : b * ((ns.length + 1 : Nat) : Int) = b * ns.length + b := by rw [Int.natCast_add, Int.mul_add]; simp
    omega
end DL
end
section
namespace DL
open PySem
/-- a while that draws nothing: so many turns, from here to there -/
inductive Runs (t : XT) (s : XS) : Nat → Env → Env → Prop
  | stop {E : Env} : t E = ret false → Runs t s 0 E E
  | turn {k : Nat} {E E' E2 : Env} : t E = ret true → s E = ret (.nx E') → Runs t s k E' E2 → Runs t s (k + 1) E E2
theorem Runs.at_ {t : XT} {s : XS} : ∀ {k : Nat} {E E2 : Env}, Runs t s k E E2 → ∀ n, whileL t s n E = if k < n then ret (.nx E2) else stuck
  | _, _, _, _, 0 => by simp [whileL]
  | _, E, _, .stop h, n + 1 => by
    show bnd (t E) _ = _
    rw [h, bnd_ret, if_neg (by decide), if_pos (Nat.succ_pos n)]
  | _, E, _, .turn (k := k) (E' := E') h1 h2 r, n + 1 => by
    show bnd (t E) _ = _
    rw [h1, bnd_ret, if_pos rfl, h2, bnd_ret]
    show whileL t s n E' = _
    rw [Runs.at_ r n]
    by_cases h : k < n
    · rw [if_pos h, if_pos (by omega)]
    · rw [if_neg h, if_neg (by omega)]
theorem Runs.eq {t : XT} {s : XS} {k : Nat} {E E2 : Env} (r : Runs t s k E E2) : sWhile t s E = ret (.nx E2) := by
  funext c P X
  show (∃ n, whileL t s n E c P X) = _
  refine propext ⟨fun ⟨n, h⟩ => ?_, fun h => ⟨k + 1, ?_⟩⟩
  · rw [r.at_ n] at h
    split at h
    · exact h
    · exact h.elim
  · rw [r.at_ (k + 1), if_pos (Nat.lt_succ_self k)]
    exact h
/-- the least place from j on whose stretch from i on is too long, or the end -/
def nxFrom (ns : List Int) (w : Int) (i : Nat) : Nat → Nat → Nat
  | 0, j => j
  | f + 1, j => if j < ns.length ∧ ext ns i j ≤ w then nxFrom ns w i f (j + 1) else j
def nx (ns : List Int) (w : Int) (i : Nat) : Nat := nxFrom ns w i (ns.length - i) (i + 1)
theorem extent_ofZ {ns : List Int} {i j : Nat} (h : i ≤ j) (hj : j < ns.length) : w_extent_of_0 [.tuple (ns.map PyData.int), .int (i : Int), .int (j : Int)] = ret (.int (ext ns i j)) := extent_of_0 h hj
theorem next_start_runs {ns : List Int} {w : Int} {i : Nat} : ∀ (f j : Nat), i ≤ j → ns.length ≤ j + f → j ≤ ns.length → ∃ k, Runs (tAnd (tBool (eCmp .lt (eVar 3) (eB1 .len (eVar 0)))) (tBool (eCmp .le (eCall w_extent_of_0 (aCons (eVar 0) (aCons (eVar 2) (aCons (eVar 3) (aNil))))) (eVar 1))))
      (sAsg 3 (eBin .add (eVar 3) (eCon (.int 1)))) k [.val (.tuple (ns.map PyData.int)), .val (.int w), .val (.int i), .val (.int j)] [.val (.tuple (ns.map PyData.int)), .val (.int w), .val (.int i), .val (.int (nxFrom ns w i f j))]
  | 0, j, hij, hf, hj => by
    refine ⟨0, .stop ?_⟩
    simp only [x_var, x_con, x_bin, x_neg, x_cmp, x_chain, x_tTru, x_tNot, x_tAnd, x_tOr, x_tBool, x_tYes, x_not, x_and, x_or, x_if, x_b1, x_b2, x_is, x_idx, x_oNone, x_oSome, x_cut, x_aNil, x_aCons, x_tup, x_lst, x_call, x_callS,
    x_iSeq, x_iRng1, x_iRng2, x_bor, x_tBor, x_put1, List.map_cons, List.map_nil, List.cons_append, List.nil_append, List.length_cons, List.length_nil, Nat.zero_add, Nat.reduceAdd, Nat.reduceSub, List.reduceReplicate, start,
    List.getElem?_cons_zero, List.getElem?_cons_succ, List.set_cons_zero, List.set_cons_succ, bnd_ret, bnd_assoc, bnd_grd, b1_if, bnd_ite, small, Nat.reduceLeDiff, grd_true, o_add, o_sub, o_neg, o_eq, o_ne, o_lt, o_le, o_gt, o_ge, o_eqS, o_neS,
    decide_eq_true_eq, reduceIte, decide_true, decide_false, Bool.not_true, Bool.not_false, Bool.false_eq_true, itemsOf, asInt, bi2, endOf, isTy,
    grd_tt, nx_int, nx_bool, nx_str, nx_none, nx_tup, nx_lst, x_isC, x_fld, x_in, x_count, x_lstR, x_tupR, x_raise, x_star, bnd_thr, noX_ret, fld_x, exn_d, eSetO, Out.clear, List.zip_cons_cons, List.zip_nil_left, List.zip_nil_right, bi1, List.length_map]
    rw [if_neg (by omega)]
  | f + 1, j, hij, hf, hj => by
    by_cases h : j < ns.length ∧ ext ns i j ≤ w
    · obtain ⟨k, r⟩ := next_start_runs (ns := ns) (w := w) (i := i) f (j + 1) (by omega) (by omega) (by omega)
      refine ⟨k + 1, .turn (E' := [.val (.tuple (ns.map PyData.int)), .val (.int w), .val (.int i), .val (.int ((j + 1 : Nat) : Int))]) ?_ ?_ ?_⟩
      · simp only [x_var, x_con, x_bin, x_neg, x_cmp, x_chain, x_tTru, x_tNot, x_tAnd, x_tOr, x_tBool, x_tYes, x_not, x_and, x_or, x_if, x_b1, x_b2, x_is, x_idx, x_oNone, x_oSome, x_cut, x_aNil, x_aCons, x_tup, x_lst, x_call, x_callS,
    x_iSeq, x_iRng1, x_iRng2, x_bor, x_tBor, x_put1, List.map_cons, List.map_nil, List.cons_append, List.nil_append, List.length_cons, List.length_nil, Nat.zero_add, Nat.reduceAdd, Nat.reduceSub, List.reduceReplicate, start,
    List.getElem?_cons_zero, List.getElem?_cons_succ, List.set_cons_zero, List.set_cons_succ, bnd_ret, bnd_assoc, bnd_grd, b1_if, bnd_ite, small, Nat.reduceLeDiff, grd_true, o_add, o_sub, o_neg, o_eq, o_ne, o_lt, o_le, o_gt, o_ge, o_eqS, o_neS,
    decide_eq_true_eq, reduceIte, decide_true, decide_false, Bool.not_true, Bool.not_false, Bool.false_eq_true, itemsOf, asInt, bi2, endOf, isTy,
    grd_tt, nx_int, nx_bool, nx_str, nx_none, nx_tup, nx_lst, x_isC, x_fld, x_in, x_count, x_lstR, x_tupR, x_raise, x_star, bnd_thr, noX_ret, fld_x, exn_d, eSetO, Out.clear, List.zip_cons_cons, List.zip_nil_left, List.zip_nil_right, bi1, List.length_map]
        rw [if_pos (by omega), extent_ofZ hij h.1]
        simp only [x_var, x_con, x_bin, x_neg, x_cmp, x_chain, x_tTru, x_tNot, x_tAnd, x_tOr, x_tBool, x_tYes, x_not, x_and, x_or, x_if, x_b1, x_b2, x_is, x_idx, x_oNone, x_oSome, x_cut, x_aNil, x_aCons, x_tup, x_lst, x_call, x_callS,
    x_iSeq, x_iRng1, x_iRng2, x_bor, x_tBor, x_put1, List.map_cons, List.map_nil, List.cons_append, List.nil_append, List.length_cons, List.length_nil, Nat.zero_add, Nat.reduceAdd, Nat.reduceSub, List.reduceReplicate, start,
    List.getElem?_cons_zero, List.getElem?_cons_succ, List.set_cons_zero, List.set_cons_succ, bnd_ret, bnd_assoc, bnd_grd, b1_if, bnd_ite, small, Nat.reduceLeDiff, grd_true, o_add, o_sub, o_neg, o_eq, o_ne, o_lt, o_le, o_gt, o_ge, o_eqS, o_neS,
    decide_eq_true_eq, reduceIte, decide_true, decide_false, Bool.not_true, Bool.not_false, Bool.false_eq_true, itemsOf, asInt, bi2, endOf, isTy,
    grd_tt, nx_int, nx_bool, nx_str, nx_none, nx_tup, nx_lst, x_isC, x_fld, x_in, x_count, x_lstR, x_tupR, x_raise, x_star, bnd_thr, noX_ret, fld_x, exn_d, eSetO, Out.clear, List.zip_cons_cons, List.zip_nil_left, List.zip_nil_right]
        rw [decide_eq_true h.2]
      · simp only [x_var, x_con, x_bin, x_neg, x_cmp, x_chain, x_tTru, x_tNot, x_tAnd, x_tOr, x_tBool, x_tYes, x_not, x_and, x_or, x_if, x_b1, x_b2, x_is, x_idx, x_oNone, x_oSome, x_cut, x_aNil, x_aCons, x_tup, x_lst, x_call, x_callS,
    x_iSeq, x_iRng1, x_iRng2, x_bor, x_tBor, x_put1, List.map_cons, List.map_nil, List.cons_append, List.nil_append, List.length_cons, List.length_nil, Nat.zero_add, Nat.reduceAdd, Nat.reduceSub, List.reduceReplicate, start,
    List.getElem?_cons_zero, List.getElem?_cons_succ, List.set_cons_zero, List.set_cons_succ, bnd_ret, bnd_assoc, bnd_grd, b1_if, bnd_ite, small, Nat.reduceLeDiff, grd_true, o_add, o_sub, o_neg, o_eq, o_ne, o_lt, o_le, o_gt, o_ge, o_eqS, o_neS,
    decide_eq_true_eq, reduceIte, decide_true, decide_false, Bool.not_true, Bool.not_false, Bool.false_eq_true, itemsOf, asInt, bi2, endOf, isTy,
    grd_tt, nx_int, nx_bool, nx_str, nx_none, nx_tup, nx_lst, x_isC, x_fld, x_in, x_count, x_lstR, x_tupR, x_raise, x_star, bnd_thr, noX_ret, fld_x, exn_d, eSetO, Out.clear, List.zip_cons_cons, List.zip_nil_left, List.zip_nil_right, s_asg, s_par, s_own, s_parO, s_put, s_expr, s_ret, s_skip, s_seq, s_rel, x_asg, x_par, x_own, x_parO, x_put, x_expr, x_ret, x_retN, x_skip, x_rel, x_app, x_setI, x_sIf, x_for, x_brk, x_cnt]
        rfl
      · have e : nxFrom ns w i (f + 1) j = nxFrom ns w i f (j + 1) := by
          show (if j < ns.length ∧ ext ns i j ≤ w then nxFrom ns w i f (j + 1) else j) = _
          rw [if_pos h]
        rw [e]
        exact r
    · have e : nxFrom ns w i (f + 1) j = j := by
        show (if j < ns.length ∧ ext ns i j ≤ w then nxFrom ns w i f (j + 1) else j) = _
        rw [if_neg h]
      rw [e]
      refine ⟨0, .stop ?_⟩
      simp only [x_var, x_con, x_bin, x_neg, x_cmp, x_chain, x_tTru, x_tNot, x_tAnd, x_tOr, x_tBool, x_tYes, x_not, x_and, x_or, x_if, x_b1, x_b2, x_is, x_idx, x_oNone, x_oSome, x_cut, x_aNil, x_aCons, x_tup, x_lst, x_call, x_callS,
    x_iSeq, x_iRng1, x_iRng2, x_bor, x_tBor, x_put1, List.map_cons, List.map_nil, List.cons_append, List.nil_append, List.length_cons, List.length_nil, Nat.zero_add, Nat.reduceAdd, Nat.reduceSub, List.reduceReplicate, start,
    List.getElem?_cons_zero, List.getElem?_cons_succ, List.set_cons_zero, List.set_cons_succ, bnd_ret, bnd_assoc, bnd_grd, b1_if, bnd_ite, small, Nat.reduceLeDiff, grd_true, o_add, o_sub, o_neg, o_eq, o_ne, o_lt, o_le, o_gt, o_ge, o_eqS, o_neS,
    decide_eq_true_eq, reduceIte, decide_true, decide_false, Bool.not_true, Bool.not_false, Bool.false_eq_true, itemsOf, asInt, bi2, endOf, isTy,
    grd_tt, nx_int, nx_bool, nx_str, nx_none, nx_tup, nx_lst, x_isC, x_fld, x_in, x_count, x_lstR, x_tupR, x_raise, x_star, bnd_thr, noX_ret, fld_x, exn_d, eSetO, Out.clear, List.zip_cons_cons, List.zip_nil_left, List.zip_nil_right, bi1, List.length_map]
      by_cases hl : j < ns.length
      · rw [if_pos (by omega), extent_ofZ hij hl]
        simp only [x_var, x_con, x_bin, x_neg, x_cmp, x_chain, x_tTru, x_tNot, x_tAnd, x_tOr, x_tBool, x_tYes, x_not, x_and, x_or, x_if, x_b1, x_b2, x_is, x_idx, x_oNone, x_oSome, x_cut, x_aNil, x_aCons, x_tup, x_lst, x_call, x_callS,
    x_iSeq, x_iRng1, x_iRng2, x_bor, x_tBor, x_put1, List.map_cons, List.map_nil, List.cons_append, List.nil_append, List.length_cons, List.length_nil, Nat.zero_add, Nat.reduceAdd, Nat.reduceSub, List.reduceReplicate, start,
    List.getElem?_cons_zero, List.getElem?_cons_succ, List.set_cons_zero, List.set_cons_succ, bnd_ret, bnd_assoc, bnd_grd, b1_if, bnd_ite, small, Nat.reduceLeDiff, grd_true, o_add, o_sub, o_neg, o_eq, o_ne, o_lt, o_le, o_gt, o_ge, o_eqS, o_neS,
    decide_eq_true_eq, reduceIte, decide_true, decide_false, Bool.not_true, Bool.not_false, Bool.false_eq_true, itemsOf, asInt, bi2, endOf, isTy,
    grd_tt, nx_int, nx_bool, nx_str, nx_none, nx_tup, nx_lst, x_isC, x_fld, x_in, x_count, x_lstR, x_tupR, x_raise, x_star, bnd_thr, noX_ret, fld_x, exn_d, eSetO, Out.clear, List.zip_cons_cons, List.zip_nil_left, List.zip_nil_right]
        rw [decide_eq_false fun z => h ⟨hl, z⟩]
      · rw [if_neg (by omega)]
theorem next_start_0 {ns : List Int} {w : Int} {i : Nat} (hi : i < ns.length) : w_next_start_0 [.tuple (ns.map PyData.int), .int w, .int (i : Int)] = ret (.int (nx ns w i : Nat)) := by
  unfold w_next_start_0
  refine (f_fn (by rfl)).trans ?_
  simp only [x_var, x_con, x_bin, x_neg, x_cmp, x_chain, x_tTru, x_tNot, x_tAnd, x_tOr, x_tBool, x_tYes, x_not, x_and, x_or, x_if, x_b1, x_b2, x_is, x_idx, x_oNone, x_oSome, x_cut, x_aNil, x_aCons, x_tup, x_lst, x_call, x_callS,
    x_iSeq, x_iRng1, x_iRng2, x_bor, x_tBor, x_put1, List.map_cons, List.map_nil, List.cons_append, List.nil_append, List.length_cons, List.length_nil, Nat.zero_add, Nat.reduceAdd, Nat.reduceSub, List.reduceReplicate, start,
    List.getElem?_cons_zero, List.getElem?_cons_succ, List.set_cons_zero, List.set_cons_succ, bnd_ret, bnd_assoc, bnd_grd, b1_if, bnd_ite, small, Nat.reduceLeDiff, grd_true, o_add, o_sub, o_neg, o_eq, o_ne, o_lt, o_le, o_gt, o_ge, o_eqS, o_neS,
    decide_eq_true_eq, reduceIte, decide_true, decide_false, Bool.not_true, Bool.not_false, Bool.false_eq_true, itemsOf, asInt, bi2, endOf, isTy,
    grd_tt, nx_int, nx_bool, nx_str, nx_none, nx_tup, nx_lst, x_isC, x_fld, x_in, x_count, x_lstR, x_tupR, x_raise, x_star, bnd_thr, noX_ret, fld_x, exn_d, eSetO, Out.clear, List.zip_cons_cons, List.zip_nil_left, List.zip_nil_right, s_asg, s_par, s_own, s_parO, s_put, s_expr, s_ret, s_skip, s_seq, s_rel, x_asg, x_par, x_own, x_parO, x_put, x_expr, x_ret, x_retN, x_skip, x_rel, x_app, x_setI, x_sIf, x_for, x_brk, x_cnt]
  obtain ⟨k, r⟩ := next_start_runs (ns := ns) (w := w) (i := i) (ns.length - i) (i + 1) (by omega) (by omega) (by omega)
  have e := r.eq
  rw [show ((i : Int) + 1) = ((i + 1 : Nat) : Int) by omega]
  rw [x_seq, e]
  simp only [x_var, x_con, x_bin, x_neg, x_cmp, x_chain, x_tTru, x_tNot, x_tAnd, x_tOr, x_tBool, x_tYes, x_not, x_and, x_or, x_if, x_b1, x_b2, x_is, x_idx, x_oNone, x_oSome, x_cut, x_aNil, x_aCons, x_tup, x_lst, x_call, x_callS,
    x_iSeq, x_iRng1, x_iRng2, x_bor, x_tBor, x_put1, List.map_cons, List.map_nil, List.cons_append, List.nil_append, List.length_cons, List.length_nil, Nat.zero_add, Nat.reduceAdd, Nat.reduceSub, List.reduceReplicate, start,
    List.getElem?_cons_zero, List.getElem?_cons_succ, List.set_cons_zero, List.set_cons_succ, bnd_ret, bnd_assoc, bnd_grd, b1_if, bnd_ite, small, Nat.reduceLeDiff, grd_true, o_add, o_sub, o_neg, o_eq, o_ne, o_lt, o_le, o_gt, o_ge, o_eqS, o_neS,
    decide_eq_true_eq, reduceIte, decide_true, decide_false, Bool.not_true, Bool.not_false, Bool.false_eq_true, itemsOf, asInt, bi2, endOf, isTy,
    grd_tt, nx_int, nx_bool, nx_str, nx_none, nx_tup, nx_lst, x_isC, x_fld, x_in, x_count, x_lstR, x_tupR, x_raise, x_star, bnd_thr, noX_ret, fld_x, exn_d, eSetO, Out.clear, List.zip_cons_cons, List.zip_nil_left, List.zip_nil_right, s_asg, s_par, s_own, s_parO, s_put, s_expr, s_ret, s_skip, s_seq, s_rel, x_asg, x_par, x_own, x_parO, x_put, x_expr, x_ret, x_retN, x_skip, x_rel, x_app, x_setI, x_sIf, x_for, x_brk, x_cnt]
  rfl
theorem nxFrom_ge (ns : List Int) (w : Int) (i : Nat) : ∀ f j, j ≤ nxFrom ns w i f j
  | 0, _ => Nat.le_refl _
  | f + 1, j => by
    unfold nxFrom
    split
    · exact Nat.le_trans (Nat.le_succ j) (nxFrom_ge ns w i f (j + 1))
    · exact Nat.le_refl _
theorem nx_gt (ns : List Int) (w : Int) (i : Nat) : i < nx ns w i := nxFrom_ge ns w i _ (i + 1)
/-- the starts from j on -/
def restF (ns : List Int) (w : Int) : Nat → Nat → List Nat
  | 0, _ => []
  | f + 1, j => if j < ns.length then j :: restF ns w f (nx ns w j) else []
def starts (ns : List Int) (w : Int) : List Nat := 0 :: restF ns w ns.length (nx ns w 0)
def natsD (l : List Nat) : List D := l.map fun (n : Nat) => PyData.int (n : Int)
theorem starts_runs {ns : List Int} {w : Int} : ∀ (f j : Nat) (acc : List Nat), ns.length ≤ j + f → acc.length + f ≤ 1000 → ∃ k e3, Runs (tBool (eCmp .lt (eVar 3) (eB1 .len (eVar 0))))
      (sSeq (sApp 2 (eVar 3)) (sAsg 3 (eCall w_next_start_0 (aCons (eVar 0) (aCons (eVar 1) (aCons (eVar 3) (aNil))))))) k
      [.val (.tuple (ns.map PyData.int)), .val (.int w), .own (natsD acc), .val (.int j)] [.val (.tuple (ns.map PyData.int)), .val (.int w), .own (natsD (acc ++ restF ns w f j)), e3]
  | 0, j, acc, hf, ha => by
    refine ⟨0, .val (.int j), ?_⟩
    rw [show acc ++ restF ns w 0 j = acc by simp [restF]]
    refine .stop ?_
    simp only [x_var, x_con, x_bin, x_neg, x_cmp, x_chain, x_tTru, x_tNot, x_tAnd, x_tOr, x_tBool, x_tYes, x_not, x_and, x_or, x_if, x_b1, x_b2, x_is, x_idx, x_oNone, x_oSome, x_cut, x_aNil, x_aCons, x_tup, x_lst, x_call, x_callS,
    x_iSeq, x_iRng1, x_iRng2, x_bor, x_tBor, x_put1, List.map_cons, List.map_nil, List.cons_append, List.nil_append, List.length_cons, List.length_nil, Nat.zero_add, Nat.reduceAdd, Nat.reduceSub, List.reduceReplicate, start,
    List.getElem?_cons_zero, List.getElem?_cons_succ, List.set_cons_zero, List.set_cons_succ, bnd_ret, bnd_assoc, bnd_grd, b1_if, bnd_ite, small, Nat.reduceLeDiff, grd_true, o_add, o_sub, o_neg, o_eq, o_ne, o_lt, o_le, o_gt, o_ge, o_eqS, o_neS,
    decide_eq_true_eq, reduceIte, decide_true, decide_false, Bool.not_true, Bool.not_false, Bool.false_eq_true, itemsOf, asInt, bi2, endOf, isTy,
    grd_tt, nx_int, nx_bool, nx_str, nx_none, nx_tup, nx_lst, x_isC, x_fld, x_in, x_count, x_lstR, x_tupR, x_raise, x_star, bnd_thr, noX_ret, fld_x, exn_d, eSetO, Out.clear, List.zip_cons_cons, List.zip_nil_left, List.zip_nil_right, bi1, List.length_map]
    rw [decide_eq_false (by omega)]
  | f + 1, j, acc, hf, ha => by
    by_cases h : j < ns.length
    · have hg := nx_gt ns w j
      obtain ⟨k, e3, r⟩ := starts_runs (ns := ns) (w := w) f (nx ns w j) (acc ++ [j]) (by omega) (by rw [List.length_append, List.length_singleton]; omega)
      have e : acc ++ restF ns w (f + 1) j = acc ++ [j] ++ restF ns w f (nx ns w j) := by
        show acc ++ (if j < ns.length then j :: restF ns w f (nx ns w j) else []) = _
        rw [if_pos h]
        simp
      rw [e]
      refine ⟨k + 1, e3, .turn ?_ ?_ r⟩
      · simp only [x_var, x_con, x_bin, x_neg, x_cmp, x_chain, x_tTru, x_tNot, x_tAnd, x_tOr, x_tBool, x_tYes, x_not, x_and, x_or, x_if, x_b1, x_b2, x_is, x_idx, x_oNone, x_oSome, x_cut, x_aNil, x_aCons, x_tup, x_lst, x_call, x_callS,
    x_iSeq, x_iRng1, x_iRng2, x_bor, x_tBor, x_put1, List.map_cons, List.map_nil, List.cons_append, List.nil_append, List.length_cons, List.length_nil, Nat.zero_add, Nat.reduceAdd, Nat.reduceSub, List.reduceReplicate, start,
    List.getElem?_cons_zero, List.getElem?_cons_succ, List.set_cons_zero, List.set_cons_succ, bnd_ret, bnd_assoc, bnd_grd, b1_if, bnd_ite, small, Nat.reduceLeDiff, grd_true, o_add, o_sub, o_neg, o_eq, o_ne, o_lt, o_le, o_gt, o_ge, o_eqS, o_neS,
    decide_eq_true_eq, reduceIte, decide_true, decide_false, Bool.not_true, Bool.not_false, Bool.false_eq_true, itemsOf, asInt, bi2, endOf, isTy,
    grd_tt, nx_int, nx_bool, nx_str, nx_none, nx_tup, nx_lst, x_isC, x_fld, x_in, x_count, x_lstR, x_tupR, x_raise, x_star, bnd_thr, noX_ret, fld_x, exn_d, eSetO, Out.clear, List.zip_cons_cons, List.zip_nil_left, List.zip_nil_right, bi1, List.length_map]
        rw [decide_eq_true (by omega)]
      · have hs : small (natsD acc).length := by unfold natsD small; rw [List.length_map]; omega
        rw [s_app 2 (eVar 3) _ (ds := natsD acc) rfl]
        simp only [x_var, List.getElem?_cons_zero, List.getElem?_cons_succ, bnd_ret, grd_pos hs]
        simp only [x_var, x_con, x_bin, x_neg, x_cmp, x_chain, x_tTru, x_tNot, x_tAnd, x_tOr, x_tBool, x_tYes, x_not, x_and, x_or, x_if, x_b1, x_b2, x_is, x_idx, x_oNone, x_oSome, x_cut, x_aNil, x_aCons, x_tup, x_lst, x_call, x_callS,
    x_iSeq, x_iRng1, x_iRng2, x_bor, x_tBor, x_put1, List.map_cons, List.map_nil, List.cons_append, List.nil_append, List.length_cons, List.length_nil, Nat.zero_add, Nat.reduceAdd, Nat.reduceSub, List.reduceReplicate, start,
    List.getElem?_cons_zero, List.getElem?_cons_succ, List.set_cons_zero, List.set_cons_succ, bnd_ret, bnd_assoc, bnd_grd, b1_if, bnd_ite, small, Nat.reduceLeDiff, grd_true, o_add, o_sub, o_neg, o_eq, o_ne, o_lt, o_le, o_gt, o_ge, o_eqS, o_neS,
    decide_eq_true_eq, reduceIte, decide_true, decide_false, Bool.not_true, Bool.not_false, Bool.false_eq_true, itemsOf, asInt, bi2, endOf, isTy,
    grd_tt, nx_int, nx_bool, nx_str, nx_none, nx_tup, nx_lst, x_isC, x_fld, x_in, x_count, x_lstR, x_tupR, x_raise, x_star, bnd_thr, noX_ret, fld_x, exn_d, eSetO, Out.clear, List.zip_cons_cons, List.zip_nil_left, List.zip_nil_right, s_asg, s_par, s_own, s_parO, s_put, s_expr, s_ret, s_skip, s_seq, s_rel, x_asg, x_par, x_own, x_parO, x_put, x_expr, x_ret, x_retN, x_skip, x_rel, x_app, x_setI, x_sIf, x_for, x_brk, x_cnt]
        rw [next_start_0 h]
        simp only [bnd_ret]
        rw [show natsD (acc ++ [j]) = natsD acc ++ [PyData.int j] by simp [natsD]]
    · have e : acc ++ restF ns w (f + 1) j = acc := by
        show acc ++ (if j < ns.length then j :: restF ns w f (nx ns w j) else []) = _
        rw [if_neg h]
        simp
      rw [e]
      refine ⟨0, .val (.int j), .stop ?_⟩
      simp only [x_var, x_con, x_bin, x_neg, x_cmp, x_chain, x_tTru, x_tNot, x_tAnd, x_tOr, x_tBool, x_tYes, x_not, x_and, x_or, x_if, x_b1, x_b2, x_is, x_idx, x_oNone, x_oSome, x_cut, x_aNil, x_aCons, x_tup, x_lst, x_call, x_callS,
    x_iSeq, x_iRng1, x_iRng2, x_bor, x_tBor, x_put1, List.map_cons, List.map_nil, List.cons_append, List.nil_append, List.length_cons, List.length_nil, Nat.zero_add, Nat.reduceAdd, Nat.reduceSub, List.reduceReplicate, start,
    List.getElem?_cons_zero, List.getElem?_cons_succ, List.set_cons_zero, List.set_cons_succ, bnd_ret, bnd_assoc, bnd_grd, b1_if, bnd_ite, small, Nat.reduceLeDiff, grd_true, o_add, o_sub, o_neg, o_eq, o_ne, o_lt, o_le, o_gt, o_ge, o_eqS, o_neS,
    decide_eq_true_eq, reduceIte, decide_true, decide_false, Bool.not_true, Bool.not_false, Bool.false_eq_true, itemsOf, asInt, bi2, endOf, isTy,
    grd_tt, nx_int, nx_bool, nx_str, nx_none, nx_tup, nx_lst, x_isC, x_fld, x_in, x_count, x_lstR, x_tupR, x_raise, x_star, bnd_thr, noX_ret, fld_x, exn_d, eSetO, Out.clear, List.zip_cons_cons, List.zip_nil_left, List.zip_nil_right, bi1, List.length_map]
      rw [decide_eq_false (by omega)]
theorem starts_of_0 {ns : List Int} {w : Int} (h1 : 0 < ns.length) (h2 : ns.length ≤ 900) : w_starts_of_0 [.tuple (ns.map PyData.int), .int w] = ret (.tuple (natsD (starts ns w))) := by
  unfold w_starts_of_0
  refine (f_fn (by rfl)).trans ?_
  simp only [x_var, x_con, x_bin, x_neg, x_cmp, x_chain, x_tTru, x_tNot, x_tAnd, x_tOr, x_tBool, x_tYes, x_not, x_and, x_or, x_if, x_b1, x_b2, x_is, x_idx, x_oNone, x_oSome, x_cut, x_aNil, x_aCons, x_tup, x_lst, x_call, x_callS,
    x_iSeq, x_iRng1, x_iRng2, x_bor, x_tBor, x_put1, List.map_cons, List.map_nil, List.cons_append, List.nil_append, List.length_cons, List.length_nil, Nat.zero_add, Nat.reduceAdd, Nat.reduceSub, List.reduceReplicate, start,
    List.getElem?_cons_zero, List.getElem?_cons_succ, List.set_cons_zero, List.set_cons_succ, bnd_ret, bnd_assoc, bnd_grd, b1_if, bnd_ite, small, Nat.reduceLeDiff, grd_true, o_add, o_sub, o_neg, o_eq, o_ne, o_lt, o_le, o_gt, o_ge, o_eqS, o_neS,
    decide_eq_true_eq, reduceIte, decide_true, decide_false, Bool.not_true, Bool.not_false, Bool.false_eq_true, itemsOf, asInt, bi2, endOf, isTy,
    grd_tt, nx_int, nx_bool, nx_str, nx_none, nx_tup, nx_lst, x_isC, x_fld, x_in, x_count, x_lstR, x_tupR, x_raise, x_star, bnd_thr, noX_ret, fld_x, exn_d, eSetO, Out.clear, List.zip_cons_cons, List.zip_nil_left, List.zip_nil_right, s_asg, s_par, s_own, s_parO, s_put, s_expr, s_ret, s_skip, s_seq, s_rel, x_asg, x_par, x_own, x_parO, x_put, x_expr, x_ret, x_retN, x_skip, x_rel, x_app, x_setI, x_sIf, x_for, x_brk, x_cnt]
  have e0 := next_start_0 (ns := ns) (w := w) (i := 0) h1
  rw [show (((0 : Nat) : Int)) = 0 from rfl] at e0
  rw [e0]
  simp only [x_var, x_con, x_bin, x_neg, x_cmp, x_chain, x_tTru, x_tNot, x_tAnd, x_tOr, x_tBool, x_tYes, x_not, x_and, x_or, x_if, x_b1, x_b2, x_is, x_idx, x_oNone, x_oSome, x_cut, x_aNil, x_aCons, x_tup, x_lst, x_call, x_callS,
    x_iSeq, x_iRng1, x_iRng2, x_bor, x_tBor, x_put1, List.map_cons, List.map_nil, List.cons_append, List.nil_append, List.length_cons, List.length_nil, Nat.zero_add, Nat.reduceAdd, Nat.reduceSub, List.reduceReplicate, start,
    List.getElem?_cons_zero, List.getElem?_cons_succ, List.set_cons_zero, List.set_cons_succ, bnd_ret, bnd_assoc, bnd_grd, b1_if, bnd_ite, small, Nat.reduceLeDiff, grd_true, o_add, o_sub, o_neg, o_eq, o_ne, o_lt, o_le, o_gt, o_ge, o_eqS, o_neS,
    decide_eq_true_eq, reduceIte, decide_true, decide_false, Bool.not_true, Bool.not_false, Bool.false_eq_true, itemsOf, asInt, bi2, endOf, isTy,
    grd_tt, nx_int, nx_bool, nx_str, nx_none, nx_tup, nx_lst, x_isC, x_fld, x_in, x_count, x_lstR, x_tupR, x_raise, x_star, bnd_thr, noX_ret, fld_x, exn_d, eSetO, Out.clear, List.zip_cons_cons, List.zip_nil_left, List.zip_nil_right, s_asg, s_par, s_own, s_parO, s_put, s_expr, s_ret, s_skip, s_seq, s_rel, x_asg, x_par, x_own, x_parO, x_put, x_expr, x_ret, x_retN, x_skip, x_rel, x_app, x_setI, x_sIf, x_for, x_brk, x_cnt]
  obtain ⟨k, e3, r⟩ := starts_runs (ns := ns) (w := w) ns.length (nx ns w 0) [0] (by omega) (by simp only [List.length_singleton]; omega)
  have e := r.eq
  have n0 : natsD [0] = [PyData.int 0] := rfl
  rw [n0] at e
  rw [x_seq, e]
  simp only [x_var, x_con, x_bin, x_neg, x_cmp, x_chain, x_tTru, x_tNot, x_tAnd, x_tOr, x_tBool, x_tYes, x_not, x_and, x_or, x_if, x_b1, x_b2, x_is, x_idx, x_oNone, x_oSome, x_cut, x_aNil, x_aCons, x_tup, x_lst, x_call, x_callS,
    x_iSeq, x_iRng1, x_iRng2, x_bor, x_tBor, x_put1, List.map_cons, List.map_nil, List.cons_append, List.nil_append, List.length_cons, List.length_nil, Nat.zero_add, Nat.reduceAdd, Nat.reduceSub, List.reduceReplicate, start,
    List.getElem?_cons_zero, List.getElem?_cons_succ, List.set_cons_zero, List.set_cons_succ, bnd_ret, bnd_assoc, bnd_grd, b1_if, bnd_ite, small, Nat.reduceLeDiff, grd_true, o_add, o_sub, o_neg, o_eq, o_ne, o_lt, o_le, o_gt, o_ge, o_eqS, o_neS,
    decide_eq_true_eq, reduceIte, decide_true, decide_false, Bool.not_true, Bool.not_false, Bool.false_eq_true, itemsOf, asInt, bi2, endOf, isTy,
    grd_tt, nx_int, nx_bool, nx_str, nx_none, nx_tup, nx_lst, x_isC, x_fld, x_in, x_count, x_lstR, x_tupR, x_raise, x_star, bnd_thr, noX_ret, fld_x, exn_d, eSetO, Out.clear, List.zip_cons_cons, List.zip_nil_left, List.zip_nil_right, s_asg, s_par, s_own, s_parO, s_put, s_expr, s_ret, s_skip, s_seq, s_rel, x_asg, x_par, x_own, x_parO, x_put, x_expr, x_ret, x_retN, x_skip, x_rel, x_app, x_setI, x_sIf, x_for, x_brk, x_cnt, bi1]
  rfl
theorem nxFrom_eq {ns : List Int} {w : Int} {i m : Nat} (hm : m ≤ ns.length) (ho : m < ns.length → w < ext ns i m) : ∀ f j, j ≤ m → m ≤ j + f → (∀ k, j ≤ k → k < m → ext ns i k ≤ w) → nxFrom ns w i f j = m
  | 0, j, h1, h2, _ => by
    show j = m
    omega
  | f + 1, j, h1, h2, hk => by
    show (if j < ns.length ∧ ext ns i j ≤ w then nxFrom ns w i f (j + 1) else j) = m
    by_cases e : j = m
    · subst e
      rw [if_neg]
      rintro ⟨h3, h4⟩
      have := ho h3
      omega
    · rw [if_pos ⟨by omega, hk j (Nat.le_refl _) (by omega)⟩]
      exact nxFrom_eq hm ho f (j + 1) (by omega) (by omega) fun k a b => hk k (by omega) b
theorem nx_eq {ns : List Int} {w : Int} {i m : Nat} (hi : i < m) (hm : m ≤ ns.length) (hk : ∀ k, i < k → k < m → ext ns i k ≤ w) (ho : m < ns.length → w < ext ns i m) : nx ns w i = m :=
  nxFrom_eq hm ho _ _ hi (by omega) fun k a b => hk k a b
theorem nx_le (ns : List Int) (w : Int) (i : Nat) (hi : i < ns.length) : nx ns w i ≤ ns.length := by
  have go : ∀ f j, j ≤ ns.length → nxFrom ns w i f j ≤ ns.length := by
    intro f
    induction f with
    | zero => intro j h; exact h
    | succ f ih =>
      intro j h
      unfold nxFrom
      split
      · exact ih (j + 1) (by omega)
      · exact h
  exact go _ _ hi
/-- a walk over the words: the starts so far, the last of them, what the line holds -/
structure Greedy (ns : List Int) (w : Int) (acc : List Nat) (last p : Nat) : Prop where
  fits : ∀ k, last < k → k ≤ p → ext ns last k ≤ w
  le : last ≤ p
  rest : ∃ f, ns.length ≤ last + f ∧ starts ns w = acc ++ restF ns w f (nx ns w last)
theorem Greedy.new {ns : List Int} {w : Int} {acc : List Nat} {last p : Nat} (g : Greedy ns w acc last p) (hp : p + 1 < ns.length) (h : w < ext ns last (p + 1)) : Greedy ns w (acc ++ [p + 1]) (p + 1) (p + 1) := by
  have hle := g.le
  obtain ⟨f, hf, hs⟩ := g.rest
  have e : nx ns w last = p + 1 := nx_eq (by omega) (by omega) (fun k a b => g.fits k a (by omega)) fun _ => h
  refine ⟨fun k a b => by omega, Nat.le_refl _, ?_⟩
  cases f with
  | zero => omega
  | succ f =>
    refine ⟨f, by omega, ?_⟩
    rw [hs, e]
    show acc ++ (if p + 1 < ns.length then (p + 1) :: restF ns w f (nx ns w (p + 1)) else []) = _
    rw [if_pos hp]
    simp
theorem Greedy.same {ns : List Int} {w : Int} {acc : List Nat} {last p : Nat} (g : Greedy ns w acc last p) (h : ext ns last (p + 1) ≤ w) : Greedy ns w acc last (p + 1) := by
  refine ⟨fun k a b => ?_, Nat.le_succ_of_le g.le, g.rest⟩
  by_cases e : k = p + 1
  · rw [e]; exact h
  · exact g.fits k a (by omega)
theorem Greedy.all {ns : List Int} {w : Int} {acc : List Nat} {last p : Nat} (g : Greedy ns w acc last p) (hp : p + 1 = ns.length) : acc = starts ns w := by
  have hle := g.le
  obtain ⟨f, hf, hs⟩ := g.rest
  have e : nx ns w last = ns.length := nx_eq (by omega) (Nat.le_refl _) (fun k a b => g.fits k a (by omega)) fun h => by omega
  rw [hs, e]
  cases f with
  | zero => simp [restF]
  | succ f => simp [restF]
theorem Greedy.start (ns : List Int) (w : Int) : Greedy ns w [0] 0 0 := ⟨fun k a b => by omega, Nat.le_refl _, ns.length, by omega, rfl⟩
end DL
end
section
namespace DL
open PySem
/-- no word is longer than the line, or there is a first one that is -/
inductive Long (ns : List Int) (w : Int) : Option Nat → Prop
  | no : (∀ (j : Nat) (x : Int), ns[j]? = some x → x ≤ w) → Long ns w none
  | yes {j : Nat} {x : Int} : ns[j]? = some x → w < x → (∀ (k : Nat) (y : Int), k < j → ns[k]? = some y → y ≤ w) → Long ns w (some j)
theorem Long.cases (w : Int) : ∀ ns : List Int, ∃ o, Long ns w o
  | [] => ⟨none, .no fun j x h => by simp at h⟩
  | a :: ns => by
    by_cases h : w < a
    · exact ⟨some 0, .yes (x := a) rfl h fun k y hk => by omega⟩
    · obtain ⟨o, ho⟩ := Long.cases w ns
      cases ho with
      | no g =>
        refine ⟨none, .no fun j x hj => ?_⟩
        cases j with
        | zero => simp at hj; omega
        | succ j => exact g j x hj
      | yes g1 g2 g3 =>
        refine ⟨some _, .yes (j := _ + 1) g1 g2 fun k y hk hy => ?_⟩
        cases k with
        | zero => simp at hy; omega
        | succ k => exact g3 k y (by omega) hy
theorem Long.lt {ns : List Int} {w : Int} {j : Nat} (h : Long ns w (some j)) : j < ns.length := by
  cases h with
  | yes g1 g2 g3 => exact (List.getElem?_eq_some_iff.mp g1).1
theorem natsD_ints (l : List Nat) : natsD l = (l.map fun n : Nat => (n : Int)).map PyData.int := by
  unfold natsD
  rw [List.map_map]
  rfl
theorem restF_lt {ns : List Int} {w : Int} : ∀ (f j : Nat), ∀ n ∈ restF ns w f j, n < ns.length
  | 0, j, n, h => by cases h
  | f + 1, j, n, h => by
    unfold restF at h
    split at h
    · cases h with
      | head => assumption
      | tail _ h => exact restF_lt f _ n h
    · cases h
theorem restF_len {ns : List Int} {w : Int} : ∀ (f j : Nat), (restF ns w f j).length ≤ f
  | 0, j => Nat.le_refl _
  | f + 1, j => by
    unfold restF
    split
    · exact Nat.succ_le_succ (restF_len f _)
    · exact Nat.zero_le _
theorem starts_lt {ns : List Int} {w : Int} (h : 0 < ns.length) : ∀ n ∈ starts ns w, n < ns.length := fun n hn => by
  cases hn with
  | head => exact h
  | tail _ hn => exact restF_lt _ _ n hn
theorem starts_len (ns : List Int) (w : Int) : (starts ns w).length ≤ ns.length + 1 := Nat.succ_le_succ (restF_len _ _)
theorem max_ints {ns : List Int} (h : 0 < ns.length) : ∃ m, bi1 .max (.tuple (ns.map PyData.int)) = ret (.int m) ∧ m ∈ ns := by
  match ns, h with
  | a :: r, _ =>
    refine ⟨greatest a r, ?_, ?_⟩
    · show bnd (intsOf (.tuple ((a :: r).map PyData.int))) _ = _
      simp only [intsOf, itemsOf, bnd_ret, ints?_map]
    · have go : ∀ (r : List Int) (a : Int), r.foldl max a = a ∨ r.foldl max a ∈ r := by
        intro r
        induction r with
        | nil => intro a; exact .inl rfl
        | cons b r ih =>
          intro a
          rw [List.foldl_cons]
          rcases ih (max a b) with h | h
          · rw [h]
            by_cases hb : b ≤ a
            · exact .inl (Int.max_eq_left hb)
            · rw [Int.max_eq_right (by omega)]
              exact .inr (.head _)
          · exact .inr (.tail _ h)
      rcases go r a with h | h
      · unfold greatest; rw [h]; exact .head _
      · exact .tail _ h
theorem b_lenT (xs : List D) : bi1 .len (.tuple xs) = ret (.int xs.length) := id rfl
theorem b_lenL (xs : List D) : bi1 .len (.list xs) = ret (.int xs.length) := id rfl
theorem b_tupL (xs : List D) : bi1 .tuple (.list xs) = ret (.tuple xs) := id rfl
theorem b_tupT (xs : List D) : bi1 .tuple (.tuple xs) = ret (.tuple xs) := id rfl
theorem b_max2 (i j : Int) : bi2 .max (.int i) (.int j) = ret (.int (if j > i then j else i)) := id rfl
theorem b_min2 (i j : Int) : bi2 .min (.int i) (.int j) = ret (.int (if j < i then j else i)) := id rfl
theorem o_addL (xs ys : List D) : opBin .add (.list xs) (.list ys) = grd (small (xs.length + ys.length)) (ret (.list (xs ++ ys))) := id rfl
theorem o_addT (xs ys : List D) : opBin .add (.tuple xs) (.tuple ys) = grd (small (xs.length + ys.length)) (ret (.tuple (xs ++ ys))) := id rfl
theorem cut_ints {ns : List Int} {i j : Int} (h0 : 0 ≤ i) (h1 : i ≤ ns.length) (h2 : 0 ≤ j) (h3 : j ≤ ns.length) : opCut (.tuple (ns.map PyData.int)) (some i) (some j) = ret (.tuple (((ns.drop i.toNat).take (j.toNat - i.toNat)).map PyData.int)) := by
  obtain ⟨a, rfl⟩ := Int.eq_ofNat_of_zero_le h0
  obtain ⟨b, rfl⟩ := Int.eq_ofNat_of_zero_le h2
  show ret (PyData.tuple (DL.cut (ns.map PyData.int) (some (a : Int)) (some (b : Int)))) = _
  rw [cut_nat _ a b (by rw [List.length_map]; omega) (by rw [List.length_map]; omega), ← List.map_drop, ← List.map_take]
  rfl
theorem sum_part {ns : List Int} {i k : Nat} (hn : ∀ x ∈ ns, 1 ≤ x ∧ x ≤ 60) (h2 : ns.length ≤ 24) : 0 ≤ ((ns.drop i).take k).sum ∧ ((ns.drop i).take k).sum ≤ 1440 := by
  have := sum_bound (ns := (ns.drop i).take k) (b := 60) (by decide) fun x hx => by
    have := hn x (List.mem_of_mem_drop (List.mem_of_mem_take hx))
    omega
  have hl2 : ((ns.drop i).take k).length ≤ 24 := by
    rw [List.length_take, List.length_drop]; omega
  omega
theorem s_chk (t : XT) (a : XE) (b : XS) (E : Env) : sSeq (sIf t (sRet a) sSkip) b E = bnd (t E) fun c => if c = true then bnd (a E) (fun d => ret (.rt d)) else b E := by
  rw [s_if]
  refine congrArg (bnd (t E)) (funext fun c => ?_)
  cases c <;> rfl
theorem s_brk (b : XS) (E : Env) : sSeq sBreak b E = ret (.bk E) := id rfl
theorem s_cnt (b : XS) (E : Env) : sSeq sCont b E = ret (.ct E) := id rfl
theorem s_retN (b : XS) (E : Env) : sSeq sRetN b E = ret (.rt .none) := id rfl
theorem t_bool (b : Bool) : tru (.bool b) = ret b := id rfl
theorem s_for (it : XA) (tg : Tg) (s b : XS) (E : Env) : sSeq (sFor it tg s) b E = bnd (it E) fun ds => bnd (forL tg s ds E) fun o => match o with | .nx E' => b E' | o => ret o := id rfl
theorem g_rng {α : Type} {a b : Int} {m : W α} (h0 : -1000000 ≤ a) (h1 : a ≤ 1000000) (h2 : -1000000 ≤ b) (h3 : b ≤ 1000000) : grd (rngOk a b) m = m := grd_pos (by unfold rngOk; omega) m
theorem g_le {α : Type} {a b : Nat} {m : W α} (h : a ≤ b) : grd (a ≤ b) m = m := grd_pos h m
end DL
end
section
namespace DL
open PySem
theorem x_iTwos (a b : XE) (E : Env) : iTwos a b E = bnd (a E) fun x => bnd (b E) fun y => bnd (itemsOf x) fun xs => bnd (itemsOf y) fun ys => ret (twos xs ys) := id rfl
def cutN (ns : List Int) (a b : Nat) : List Int := (ns.drop a).take (b - a)
def part (ns : List Int) (a b : Nat) : D := .tuple ((cutN ns a b).map PyData.int)
/-- the lines that begin at the given places and end at e -/
def parts (ns : List Int) : List Nat → Nat → List D
  | [], _ => []
  | [a], e => [part ns a e]
  | a :: b :: r, e => part ns a b :: parts ns (b :: r) e
theorem cut_tail (ds : List D) : DL.cut ds (some 1) none = ds.tail := by
  cases ds with
  | nil => rfl
  | cons d ds =>
    unfold DL.cut
    rw [show (1 : Int) = ((1 : Nat) : Int) from rfl, HT.sIx_nat, show HT.sIx (d :: ds).length (d :: ds).length none = (d :: ds).length from rfl, List.length_cons, Nat.min_eq_left (by omega)]
    simp
theorem cut_tailT (ds : List D) : opCut (.tuple ds) (some 1) none = ret (.tuple ds.tail) := by rw [← cut_tail]; rfl
theorem natsD_tail (l : List Nat) : (natsD l).tail = natsD l.tail := by cases l <;> rfl
theorem atI_last (xs : List D) (x : D) : L2.atI (xs ++ [x]) (-1) = some x := by
  unfold L2.atI L2.ixN
  rw [if_neg (by decide), List.length_append, List.length_singleton, if_pos (by omega)]
  show (xs ++ [x])[(-1 + ((xs.length + 1 : Nat) : Int)).toNat]? = _
  rw [show (-1 + ((xs.length + 1 : Nat) : Int)).toNat = xs.length by omega]
  simp
end DL
end
section
namespace DL
open PySem
theorem cut_from {ns : List Int} {a : Nat} (ha : a ≤ ns.length) : opCut (.tuple (ns.map PyData.int)) (some (a : Int)) none = ret (.tuple ((ns.drop a).map PyData.int)) := by
  show ret (PyData.tuple (DL.cut (ns.map PyData.int) (some (a : Int)) none)) = _
  unfold DL.cut
  rw [HT.sIx_nat, show HT.sIx (ns.map PyData.int).length (ns.map PyData.int).length none = (ns.map PyData.int).length from rfl, List.length_map, Nat.min_eq_left ha, ← List.map_drop, List.take_of_length_le (by rw [List.length_map, List.length_drop]; omega)]
end DL
end
section
namespace DL
open PySem
structure Thin (n k : Nat) (d : D) : Prop where
  short : PyData.leavesShort 8 d = true
  able : PyData.showable d = true
  bulk : PyData.bulk d ≤ n
  deep : PyData.depth d ≤ k
  pln : plain d = true
theorem Thin.mono {n k n' k' : Nat} {d : D} (h : Thin n k d) (hn : n ≤ n') (hk : k ≤ k') : Thin n' k' d := ⟨h.short, h.able, Nat.le_trans h.bulk hn, Nat.le_trans h.deep hk, h.pln⟩
structure ThinAll (n k : Nat) (ds : List D) : Prop where
  short : PyData.leavesShortAll 8 ds = true
  able : PyData.showableAll ds = true
  bulk : PyData.bulkAll ds ≤ n
  deep : PyData.depthAll ds ≤ k
  pln : plainAll ds = true
theorem ThinAll.mono {n k n' k' : Nat} {ds : List D} (h : ThinAll n k ds) (hn : n ≤ n') (hk : k ≤ k') : ThinAll n' k' ds := ⟨h.short, h.able, Nat.le_trans h.bulk hn, Nat.le_trans h.deep hk, h.pln⟩
end DL
end
section
namespace DL
open PySem
theorem nxFrom_spec (ns : List Int) (w : Int) (i : Nat) : ∀ f j, j ≤ ns.length → ns.length ≤ j + f → nxFrom ns w i f j ≤ ns.length ∧ (∀ k, j ≤ k → k < nxFrom ns w i f j → ext ns i k ≤ w) ∧ (nxFrom ns w i f j < ns.length → w < ext ns i (nxFrom ns w i f j))
  | 0, j, h1, h2 => by
    refine ⟨h1, fun k a b => ?_, fun h => ?_⟩
    · have : k < j := b; omega
    · have : j < ns.length := h; omega
  | f + 1, j, h1, h2 => by
    unfold nxFrom
    by_cases h : j < ns.length ∧ ext ns i j ≤ w
    · rw [if_pos h]
      obtain ⟨a, b, c⟩ := nxFrom_spec ns w i f (j + 1) (by omega) (by omega)
      refine ⟨a, fun k k1 k2 => ?_, c⟩
      by_cases e : k = j
      · rw [e]; exact h.2
      · exact b k (by omega) k2
    · rw [if_neg h]
      refine ⟨h1, fun k a b => by omega, fun hl => ?_⟩
      have : ¬ ext ns i j ≤ w := fun z => h ⟨hl, z⟩
      omega
theorem nx_spec {ns : List Int} {w : Int} {i : Nat} (hi : i < ns.length) : i < nx ns w i ∧ nx ns w i ≤ ns.length ∧ (∀ k, i < k → k < nx ns w i → ext ns i k ≤ w) ∧ (nx ns w i < ns.length → w < ext ns i (nx ns w i)) := by
  obtain ⟨a, b, c⟩ := nxFrom_spec ns w i (ns.length - i) (i + 1) (by omega) (by omega)
  exact ⟨nx_gt ns w i, a, fun k k1 k2 => b k k1 k2, c⟩
/-- the starts of the lines at width w, from one on -/
def Chain (ns : List Int) (w : Int) : List Nat → Prop
  | [] => False
  | [a] => a < ns.length ∧ nx ns w a = ns.length
  | a :: b :: r => a < ns.length ∧ nx ns w a = b ∧ Chain ns w (b :: r)
theorem Chain.lt {ns : List Int} {w : Int} : ∀ {a : Nat} {r : List Nat}, Chain ns w (a :: r) → a < ns.length
  | _, [], h => h.1
  | _, _ :: _, h => h.1
theorem chain_rest {ns : List Int} {w : Int} : ∀ f j, ns.length ≤ j + f → j < ns.length → Chain ns w (j :: restF ns w f (nx ns w j))
  | 0, j, h1, h2 => by omega
  | f + 1, j, h1, h2 => by
    have g := nx_gt ns w j
    have l := nx_le ns w j h2
    by_cases h : nx ns w j < ns.length
    · rw [show restF ns w (f + 1) (nx ns w j) = nx ns w j :: restF ns w f (nx ns w (nx ns w j)) from if_pos h]
      exact ⟨h2, rfl, chain_rest f _ (by omega) h⟩
    · rw [show restF ns w (f + 1) (nx ns w j) = [] from if_neg h]
      exact ⟨h2, by omega⟩
theorem starts_chain {ns : List Int} (w : Int) (h : 0 < ns.length) : Chain ns w (starts ns w) := chain_rest _ 0 (by omega) h
theorem chain_unique {ns : List Int} {w : Int} : ∀ (l : List Nat) (a f : Nat), Chain ns w (a :: l) → ns.length ≤ a + f → restF ns w f (nx ns w a) = l
  | [], a, f, h, hf => by
    rw [h.2]
    cases f with
    | zero => rfl
    | succ f => exact if_neg (by omega)
  | b :: r, a, f, h, hf => by
    obtain ⟨h1, h2, h3⟩ := h
    have g := nx_gt ns w a
    have hb := h3.lt
    rw [h2] at g ⊢
    cases f with
    | zero => omega
    | succ f =>
      rw [show restF ns w (f + 1) b = b :: restF ns w f (nx ns w b) from if_pos hb, chain_unique r b f h3 (by omega)]
theorem starts_unique {ns : List Int} {w : Int} {l : List Nat} (h : Chain ns w (0 :: l)) : starts ns w = 0 :: l := congrArg (0 :: ·) (chain_unique l 0 _ h (by omega))
/-- how wide each line with the next word would be -/
def exts (ns : List Int) : List Nat → List Int
  | [] => []
  | [_] => []
  | a :: b :: r => ext ns a b :: exts ns (b :: r)
theorem chain_keep {ns : List Int} {w v : Int} (hv : w ≤ v) : ∀ {l : List Nat}, Chain ns w l → (∀ e ∈ exts ns l, v < e) → Chain ns v l
  | [a], h, _ => by
    obtain ⟨h1, h2⟩ := h
    obtain ⟨s1, s2, s3, s4⟩ := nx_spec (w := w) h1
    rw [h2] at s1 s3
    exact ⟨h1, nx_eq h1 (Nat.le_refl _) (fun k a b => Int.le_trans (s3 k a b) hv) fun z => by omega⟩
  | a :: b :: r, h, he => by
    obtain ⟨h1, h2, h3⟩ := h
    obtain ⟨s1, s2, s3, s4⟩ := nx_spec (w := w) h1
    rw [h2] at s1 s2 s3
    exact ⟨h1, nx_eq s1 s2 (fun k a b => Int.le_trans (s3 k a b) hv) fun z => he _ (.head _), chain_keep hv h3 fun e x => he e (.tail _ x)⟩
theorem chain_gt {ns : List Int} {w : Int} : ∀ {l : List Nat}, Chain ns w l → ∀ e ∈ exts ns l, w < e
  | [a], h, e, he => by cases he
  | a :: b :: r, h, e, he => by
    obtain ⟨h1, h2, h3⟩ := h
    cases he with
    | head =>
      obtain ⟨s1, s2, s3, s4⟩ := nx_spec (w := w) h1
      rw [h2] at s4
      exact s4 h3.lt
    | tail _ he => exact chain_gt h3 e he
theorem sum_sub : ∀ {ns : List Int} {i k : Nat}, (∀ x ∈ ns, 0 ≤ x) → ((ns.drop i).take k).sum ≤ ns.sum
  | ns, i, k, h => by
    have pos : ∀ l : List Int, (∀ x ∈ l, 0 ≤ x) → 0 ≤ l.sum := fun l hl => by
      induction l with
      | nil => simp
      | cons a l ih =>
        have := hl a (.head _)
        have := ih fun x hx => hl x (.tail _ hx)
        rw [List.sum_cons]; omega
    have e1 : ns.sum = (ns.take i).sum + (ns.drop i).sum := by rw [← List.sum_append, List.take_append_drop]
    have e2 : (ns.drop i).sum = ((ns.drop i).take k).sum + ((ns.drop i).drop k).sum := by rw [← List.sum_append, List.take_append_drop]
    have p1 := pos (ns.take i) fun x hx => h x (List.mem_of_mem_take hx)
    have p2 := pos ((ns.drop i).drop k) fun x hx => h x (List.mem_of_mem_drop (List.mem_of_mem_drop hx))
    omega
theorem exts_le {ns : List Int} (hn : ∀ x ∈ ns, 0 ≤ x) : ∀ {l : List Nat}, (∀ a ∈ l, a < ns.length) → ∀ e ∈ exts ns l, e ≤ ns.sum + ns.length - 1
  | [], _, e, he => by cases he
  | [a], _, e, he => by cases he
  | a :: b :: r, h, e, he => by
    cases he with
    | head =>
      have := h b (.tail _ (.head _))
      have := sum_sub (i := a) (k := b + 1 - a) hn
      unfold ext
      omega
    | tail _ he => exact exts_le hn (fun x hx => h x (.tail _ hx)) e he
def nextW (ns : List Int) (l : List Nat) : Option Int := match exts ns l with
  | [] => none
  | a :: r => some (least a r)
theorem least_mem : ∀ (r : List Int) (a : Int), least a r ∈ a :: r := by
  intro r
  induction r with
  | nil => intro a; exact .head _
  | cons b r ih =>
    intro a
    show r.foldl min (min a b) ∈ _
    have := ih (min a b)
    unfold least at this
    rcases List.mem_cons.mp this with e | h
    · rw [e]
      by_cases h : a ≤ b
      · rw [Int.min_eq_left h]; exact .head _
      · rw [Int.min_eq_right (by omega)]; exact .tail _ (.head _)
    · exact .tail _ (.tail _ h)
theorem least_le : ∀ (r : List Int) (a : Int), ∀ x ∈ a :: r, least a r ≤ x := by
  intro r
  induction r with
  | nil => intro a x hx; cases hx with
    | head => exact Int.le_refl _
    | tail _ h => cases h
  | cons b r ih =>
    intro a x hx
    show r.foldl min (min a b) ≤ x
    have := ih (min a b)
    unfold least at this
    cases hx with
    | head => exact Int.le_trans (this _ (.head _)) (Int.min_le_left _ _)
    | tail _ hx =>
      cases hx with
      | head => exact Int.le_trans (this _ (.head _)) (Int.min_le_right _ _)
      | tail _ hx => exact this x (.tail _ hx)
theorem nextW_some {ns : List Int} {l : List Nat} {v : Int} (h : nextW ns l = some v) : v ∈ exts ns l ∧ ∀ e ∈ exts ns l, v ≤ e := by
  unfold nextW at h
  split at h
  · cases h
  · next a r e =>
    rw [e]
    cases h
    exact ⟨least_mem r a, least_le r a⟩
theorem nextW_none {ns : List Int} {l : List Nat} (h : nextW ns l = none) : exts ns l = [] := by
  unfold nextW at h
  split at h
  · assumption
  · cases h
def bookF (ns : List Int) : Nat → Int → List (Int × List Nat)
  | 0, _ => []
  | f + 1, w => (w, starts ns w) :: match nextW ns (starts ns w) with
    | none => []
    | some v => bookF ns f v
def entD (p : Int × List Nat) : D := .tuple [.int p.1, .tuple (natsD p.2)]
def intO : Option Int → D
  | none => .none
  | some v => .int v
def extF (ns : List Int) (d : D) : D := match d with
  | .tuple [.int a, .int b] => .int (ext ns a.toNat b.toNat)
  | d => d
theorem twos_exts (ns : List Int) : ∀ l : List Nat, (twos (natsD l) (natsD l.tail)).map (extF ns) = (exts ns l).map PyData.int
  | [] => rfl
  | [a] => rfl
  | a :: b :: r => congrArg (PyData.int (ext ns a b) :: ·) (twos_exts ns (b :: r))
theorem twos_up {ns : List Int} {w : Int} : ∀ {l : List Nat} {d : D}, Chain ns w l → d ∈ twos (natsD l) (natsD l.tail) → ∃ a b : Nat, d = .tuple [.int (a : Int), .int (b : Int)] ∧ a ≤ b ∧ b < ns.length
  | [a], d, _, h => by cases h
  | a :: b :: r, d, c, h => by
    obtain ⟨c1, c2, c3⟩ := c
    cases h with
    | head => exact ⟨a, b, rfl, by have := nx_gt ns w a; omega, c3.lt⟩
    | tail _ h => exact twos_up (l := b :: r) c3 h
theorem next_width_0 {ns : List Int} {w : Int} {l : List Nat} (c : Chain ns w l) (hl : l.length ≤ 1000) : w_next_width_0 [.tuple (ns.map PyData.int), .tuple (natsD l)] = ret (intO (nextW ns l)) := by
  unfold w_next_width_0
  refine (f_fn (by rfl)).trans ?_
  try simp only [x_var, x_con, x_bin, x_neg, x_cmp, x_chain, x_tTru, x_tNot, x_tAnd, x_tOr, x_tBool, x_tYes, x_not, x_and, x_or, x_if, x_b1, x_b2, x_is, x_idx, x_oNone, x_oSome, x_cut, x_aNil, x_aCons, x_tup, x_lst, x_call, x_callS,
    x_iSeq, x_iRng1, x_iRng2, x_bor, x_tBor, x_put1, List.map_cons, List.map_nil, List.cons_append, List.nil_append, List.length_cons, List.length_nil, Nat.zero_add, Nat.reduceAdd, Nat.reduceSub, List.reduceReplicate, start,
    List.getElem?_cons_zero, List.getElem?_cons_succ, List.set_cons_zero, List.set_cons_succ, bnd_ret, bnd_assoc, bnd_grd, b1_if, bnd_ite, small, Nat.reduceLeDiff, grd_true, o_add, o_sub, o_neg, o_eq, o_ne, o_lt, o_le, o_gt, o_ge, o_eqS, o_neS,
    decide_eq_true_eq, reduceIte, decide_true, decide_false, Bool.not_true, Bool.not_false, Bool.false_eq_true, itemsOf, asInt, endOf, isTy,
    grd_tt, nx_int, nx_bool, nx_str, nx_none, nx_tup, nx_lst, x_isC, x_fld, x_in, x_count, x_lstR, x_tupR, x_raise, x_star, bnd_thr, noX_ret, fld_x, exn_d, eSetO, Out.clear, List.zip_cons_cons, List.zip_nil_left, List.zip_nil_right, s_asg, s_par, s_own, s_parO, s_put, s_expr, s_ret, s_skip, s_seq, s_rel, x_asg, x_par, x_own, x_parO, x_put, x_expr, x_ret, x_retN, x_skip, x_rel, x_app, x_setI, x_sIf, x_for, x_brk, x_cnt, b_lenT, b_lenL, b_tupL, b_tupT, b_max2, b_min2, o_addL, o_addT, cut_ints, sum_ints, s_chk, s_for, s_brk, s_cnt, s_retN, t_bool, g_rng, g_le, List.length_map, x_comp, x_iTwos, wipeE, cut_tailT, natsD_tail]
  have e := comp_map (tg := .tp [3, 4]) (t := tYes) (e := eCall w_extent_of_0 (aCons (eVar 0) (aCons (eVar 3) (aCons (eVar 4) (aNil))))) (E := [.val (.tuple (ns.map PyData.int)), .val (.tuple (natsD l)), .unk, .unk, .unk]) (extF ns)
    (twos (natsD l) (natsD l.tail)) [] (by rw [twos_len]; unfold natsD; simp; omega) (by
    intro d hd
    obtain ⟨a, b, rfl, hab, hb⟩ := twos_up c hd
    refine ⟨_, rfl, rfl, ?_⟩
    simp only [x_var, x_con, x_bin, x_neg, x_cmp, x_chain, x_tTru, x_tNot, x_tAnd, x_tOr, x_tBool, x_tYes, x_not, x_and, x_or, x_if, x_b1, x_b2, x_is, x_idx, x_oNone, x_oSome, x_cut, x_aNil, x_aCons, x_tup, x_lst, x_call, x_callS,
    x_iSeq, x_iRng1, x_iRng2, x_bor, x_tBor, x_put1, List.map_cons, List.map_nil, List.cons_append, List.nil_append, List.length_cons, List.length_nil, Nat.zero_add, Nat.reduceAdd, Nat.reduceSub, List.reduceReplicate, start,
    List.getElem?_cons_zero, List.getElem?_cons_succ, List.set_cons_zero, List.set_cons_succ, bnd_ret, bnd_assoc, bnd_grd, b1_if, bnd_ite, small, Nat.reduceLeDiff, grd_true, o_add, o_sub, o_neg, o_eq, o_ne, o_lt, o_le, o_gt, o_ge, o_eqS, o_neS,
    decide_eq_true_eq, reduceIte, decide_true, decide_false, Bool.not_true, Bool.not_false, Bool.false_eq_true, itemsOf, asInt, bi2, endOf, isTy,
    grd_tt, nx_int, nx_bool, nx_str, nx_none, nx_tup, nx_lst, x_isC, x_fld, x_in, x_count, x_lstR, x_tupR, x_raise, x_star, bnd_thr, noX_ret, fld_x, exn_d, eSetO, Out.clear, List.zip_cons_cons, List.zip_nil_left, List.zip_nil_right, s_asg, s_par, s_own, s_parO, s_put, s_expr, s_ret, s_skip, s_seq, s_rel, x_asg, x_par, x_own, x_parO, x_put, x_expr, x_ret, x_retN, x_skip, x_rel, x_app, x_setI, x_sIf, x_for, x_brk, x_cnt, extent_of_0 hab hb, extF, Int.toNat_natCast])
  rw [e]
  try simp only [x_var, x_con, x_bin, x_neg, x_cmp, x_chain, x_tTru, x_tNot, x_tAnd, x_tOr, x_tBool, x_tYes, x_not, x_and, x_or, x_if, x_b1, x_b2, x_is, x_idx, x_oNone, x_oSome, x_cut, x_aNil, x_aCons, x_tup, x_lst, x_call, x_callS,
    x_iSeq, x_iRng1, x_iRng2, x_bor, x_tBor, x_put1, List.map_cons, List.map_nil, List.cons_append, List.nil_append, List.length_cons, List.length_nil, Nat.zero_add, Nat.reduceAdd, Nat.reduceSub, List.reduceReplicate, start,
    List.getElem?_cons_zero, List.getElem?_cons_succ, List.set_cons_zero, List.set_cons_succ, bnd_ret, bnd_assoc, bnd_grd, b1_if, bnd_ite, small, Nat.reduceLeDiff, grd_true, o_add, o_sub, o_neg, o_eq, o_ne, o_lt, o_le, o_gt, o_ge, o_eqS, o_neS,
    decide_eq_true_eq, reduceIte, decide_true, decide_false, Bool.not_true, Bool.not_false, Bool.false_eq_true, itemsOf, asInt, endOf, isTy,
    grd_tt, nx_int, nx_bool, nx_str, nx_none, nx_tup, nx_lst, x_isC, x_fld, x_in, x_count, x_lstR, x_tupR, x_raise, x_star, bnd_thr, noX_ret, fld_x, exn_d, eSetO, Out.clear, List.zip_cons_cons, List.zip_nil_left, List.zip_nil_right, s_asg, s_par, s_own, s_parO, s_put, s_expr, s_ret, s_skip, s_seq, s_rel, x_asg, x_par, x_own, x_parO, x_put, x_expr, x_ret, x_retN, x_skip, x_rel, x_app, x_setI, x_sIf, x_for, x_brk, x_cnt, b_lenT, b_lenL, b_tupL, b_tupT, b_max2, b_min2, o_addL, o_addT, cut_ints, sum_ints, s_chk, s_for, s_brk, s_cnt, s_retN, t_bool, g_rng, g_le, List.length_map, twos_exts]
  rw [show opCmp .ne (.list ((exts ns l).map PyData.int)) (.list []) = ret (!decide (exts ns l = [])) from o_neL _ []]
  unfold nextW
  cases hx : exts ns l with
  | nil => simp only [x_var, x_con, x_bin, x_neg, x_cmp, x_chain, x_tTru, x_tNot, x_tAnd, x_tOr, x_tBool, x_tYes, x_not, x_and, x_or, x_if, x_b1, x_b2, x_is, x_idx, x_oNone, x_oSome, x_cut, x_aNil, x_aCons, x_tup, x_lst, x_call, x_callS,
    x_iSeq, x_iRng1, x_iRng2, x_bor, x_tBor, x_put1, List.map_cons, List.map_nil, List.cons_append, List.nil_append, List.length_cons, List.length_nil, Nat.zero_add, Nat.reduceAdd, Nat.reduceSub, List.reduceReplicate, start,
    List.getElem?_cons_zero, List.getElem?_cons_succ, List.set_cons_zero, List.set_cons_succ, bnd_ret, bnd_assoc, bnd_grd, b1_if, bnd_ite, small, Nat.reduceLeDiff, grd_true, o_add, o_sub, o_neg, o_eq, o_ne, o_lt, o_le, o_gt, o_ge, o_eqS, o_neS,
    decide_eq_true_eq, reduceIte, decide_true, decide_false, Bool.not_true, Bool.not_false, Bool.false_eq_true, itemsOf, asInt, endOf, isTy,
    grd_tt, nx_int, nx_bool, nx_str, nx_none, nx_tup, nx_lst, x_isC, x_fld, x_in, x_count, x_lstR, x_tupR, x_raise, x_star, bnd_thr, noX_ret, fld_x, exn_d, eSetO, Out.clear, List.zip_cons_cons, List.zip_nil_left, List.zip_nil_right, s_asg, s_par, s_own, s_parO, s_put, s_expr, s_ret, s_skip, s_seq, s_rel, x_asg, x_par, x_own, x_parO, x_put, x_expr, x_ret, x_retN, x_skip, x_rel, x_app, x_setI, x_sIf, x_for, x_brk, x_cnt, b_lenT, b_lenL, b_tupL, b_tupT, b_max2, b_min2, o_addL, o_addT, cut_ints, sum_ints, s_chk, s_for, s_brk, s_cnt, s_retN, t_bool, g_rng, g_le, List.length_map]; rfl
  | cons a r =>
    try simp only [x_var, x_con, x_bin, x_neg, x_cmp, x_chain, x_tTru, x_tNot, x_tAnd, x_tOr, x_tBool, x_tYes, x_not, x_and, x_or, x_if, x_b1, x_b2, x_is, x_idx, x_oNone, x_oSome, x_cut, x_aNil, x_aCons, x_tup, x_lst, x_call, x_callS,
    x_iSeq, x_iRng1, x_iRng2, x_bor, x_tBor, x_put1, List.map_cons, List.map_nil, List.cons_append, List.nil_append, List.length_cons, List.length_nil, Nat.zero_add, Nat.reduceAdd, Nat.reduceSub, List.reduceReplicate, start,
    List.getElem?_cons_zero, List.getElem?_cons_succ, List.set_cons_zero, List.set_cons_succ, bnd_ret, bnd_assoc, bnd_grd, b1_if, bnd_ite, small, Nat.reduceLeDiff, grd_true, o_add, o_sub, o_neg, o_eq, o_ne, o_lt, o_le, o_gt, o_ge, o_eqS, o_neS,
    decide_eq_true_eq, reduceIte, decide_true, decide_false, Bool.not_true, Bool.not_false, Bool.false_eq_true, itemsOf, asInt, endOf, isTy,
    grd_tt, nx_int, nx_bool, nx_str, nx_none, nx_tup, nx_lst, x_isC, x_fld, x_in, x_count, x_lstR, x_tupR, x_raise, x_star, bnd_thr, noX_ret, fld_x, exn_d, eSetO, Out.clear, List.zip_cons_cons, List.zip_nil_left, List.zip_nil_right, s_asg, s_par, s_own, s_parO, s_put, s_expr, s_ret, s_skip, s_seq, s_rel, x_asg, x_par, x_own, x_parO, x_put, x_expr, x_ret, x_retN, x_skip, x_rel, x_app, x_setI, x_sIf, x_for, x_brk, x_cnt, b_lenT, b_lenL, b_tupL, b_tupT, b_max2, b_min2, o_addL, o_addT, cut_ints, sum_ints, s_chk, s_for, s_brk, s_cnt, s_retN, t_bool, g_rng, g_le, List.length_map, List.cons_ne_nil]
    rw [← List.map_cons]
    have em : bi1 .min (.list ((a :: r).map PyData.int)) = ret (.int (least a r)) := by
      show bnd (intsOf (.list ((a :: r).map PyData.int))) _ = _
      simp only [intsOf, itemsOf, bnd_ret, ints?_map]
    rw [em]
    rfl
theorem book_runs {ns : List Int} {B : Int} (hB : B ≤ 100000) (h1 : 0 < ns.length) (h2 : ns.length ≤ 900) (hn : ∀ x ∈ ns, 0 ≤ x) (hb : ns.sum + ns.length - 1 ≤ B) : ∀ (f : Nat) (w : Int) (acc : List (Int × List Nat)) (e3 : Ent), w ≤ B → B < w + f → acc.length + f ≤ 200000 → ∃ k e3', Runs (tBool (eCmp .notN (eVar 1) (eCon .none)))
      (sSeq (sAsg 3 (eCall w_starts_of_0 (aCons (eVar 0) (aCons (eVar 1) (aNil))))) (sSeq (sApp 2 (eTup (aCons (eVar 1) (aCons (eVar 3) (aNil))))) (sAsg 1 (eCall w_next_width_0 (aCons (eVar 0) (aCons (eVar 3) (aNil))))))) k
      [.val (.tuple (ns.map PyData.int)), .val (.int w), .own (acc.map entD), e3] [.val (.tuple (ns.map PyData.int)), .val .none, .own ((acc ++ bookF ns f w).map entD), e3']
  | 0, w, acc, e3, hw, hf, _ => by omega
  | f + 1, w, acc, e3, hw, hf, ha => by
    have c := starts_chain w h1
    have sl := starts_len ns w
    have turn : (sSeq (sAsg 3 (eCall w_starts_of_0 (aCons (eVar 0) (aCons (eVar 1) (aNil))))) (sSeq (sApp 2 (eTup (aCons (eVar 1) (aCons (eVar 3) (aNil))))) (sAsg 1 (eCall w_next_width_0 (aCons (eVar 0) (aCons (eVar 3) (aNil)))))))
        [.val (.tuple (ns.map PyData.int)), .val (.int w), .own (acc.map entD), e3] = ret (.nx [.val (.tuple (ns.map PyData.int)), .val (intO (nextW ns (starts ns w))), .own ((acc ++ [(w, starts ns w)]).map entD), .val (.tuple (natsD (starts ns w)))]) := by
      rw [s_asg]
      try simp only [x_var, x_con, x_bin, x_neg, x_cmp, x_chain, x_tTru, x_tNot, x_tAnd, x_tOr, x_tBool, x_tYes, x_not, x_and, x_or, x_if, x_b1, x_b2, x_is, x_idx, x_oNone, x_oSome, x_cut, x_aNil, x_aCons, x_tup, x_lst, x_call, x_callS,
    x_iSeq, x_iRng1, x_iRng2, x_bor, x_tBor, x_put1, List.map_cons, List.map_nil, List.cons_append, List.nil_append, List.length_cons, List.length_nil, Nat.zero_add, Nat.reduceAdd, Nat.reduceSub, List.reduceReplicate, start,
    List.getElem?_cons_zero, List.getElem?_cons_succ, List.set_cons_zero, List.set_cons_succ, bnd_ret, bnd_assoc, bnd_grd, b1_if, bnd_ite, small, Nat.reduceLeDiff, grd_true, o_add, o_sub, o_neg, o_eq, o_ne, o_lt, o_le, o_gt, o_ge, o_eqS, o_neS,
    decide_eq_true_eq, reduceIte, decide_true, decide_false, Bool.not_true, Bool.not_false, Bool.false_eq_true, itemsOf, asInt, endOf, isTy,
    grd_tt, nx_int, nx_bool, nx_str, nx_none, nx_tup, nx_lst, x_isC, x_fld, x_in, x_count, x_lstR, x_tupR, x_raise, x_star, bnd_thr, noX_ret, fld_x, exn_d, eSetO, Out.clear, List.zip_cons_cons, List.zip_nil_left, List.zip_nil_right, s_asg, s_par, s_own, s_parO, s_put, s_expr, s_ret, s_skip, s_seq, s_rel, x_asg, x_par, x_own, x_parO, x_put, x_expr, x_ret, x_retN, x_skip, x_rel, x_app, x_setI, x_sIf, x_for, x_brk, x_cnt, b_lenT, b_lenL, b_tupL, b_tupT, b_max2, b_min2, o_addL, o_addT, cut_ints, sum_ints, s_chk, s_for, s_brk, s_cnt, s_retN, t_bool, g_rng, g_le, List.length_map]
      rw [starts_of_0 h1 h2]
      simp only [bnd_ret, List.set_cons_succ, List.set_cons_zero]
      rw [s_app 2 _ _ (ds := acc.map entD) rfl]
      try simp only [x_var, x_con, x_bin, x_neg, x_cmp, x_chain, x_tTru, x_tNot, x_tAnd, x_tOr, x_tBool, x_tYes, x_not, x_and, x_or, x_if, x_b1, x_b2, x_is, x_idx, x_oNone, x_oSome, x_cut, x_aNil, x_aCons, x_tup, x_lst, x_call, x_callS,
    x_iSeq, x_iRng1, x_iRng2, x_bor, x_tBor, x_put1, List.map_cons, List.map_nil, List.cons_append, List.nil_append, List.length_cons, List.length_nil, Nat.zero_add, Nat.reduceAdd, Nat.reduceSub, List.reduceReplicate, start,
    List.getElem?_cons_zero, List.getElem?_cons_succ, List.set_cons_zero, List.set_cons_succ, bnd_ret, bnd_assoc, bnd_grd, b1_if, bnd_ite, small, Nat.reduceLeDiff, grd_true, o_add, o_sub, o_neg, o_eq, o_ne, o_lt, o_le, o_gt, o_ge, o_eqS, o_neS,
    decide_eq_true_eq, reduceIte, decide_true, decide_false, Bool.not_true, Bool.not_false, Bool.false_eq_true, itemsOf, asInt, endOf, isTy,
    grd_tt, nx_int, nx_bool, nx_str, nx_none, nx_tup, nx_lst, x_isC, x_fld, x_in, x_count, x_lstR, x_tupR, x_raise, x_star, bnd_thr, noX_ret, fld_x, exn_d, eSetO, Out.clear, List.zip_cons_cons, List.zip_nil_left, List.zip_nil_right, s_asg, s_par, s_own, s_parO, s_put, s_expr, s_ret, s_skip, s_seq, s_rel, x_asg, x_par, x_own, x_parO, x_put, x_expr, x_ret, x_retN, x_skip, x_rel, x_app, x_setI, x_sIf, x_for, x_brk, x_cnt, b_lenT, b_lenL, b_tupL, b_tupT, b_max2, b_min2, o_addL, o_addT, cut_ints, sum_ints, s_chk, s_for, s_brk, s_cnt, s_retN, t_bool, g_rng, g_le, List.length_map]
      rw [grd_pos (by omega), next_width_0 c (by omega)]
      try simp only [x_var, x_con, x_bin, x_neg, x_cmp, x_chain, x_tTru, x_tNot, x_tAnd, x_tOr, x_tBool, x_tYes, x_not, x_and, x_or, x_if, x_b1, x_b2, x_is, x_idx, x_oNone, x_oSome, x_cut, x_aNil, x_aCons, x_tup, x_lst, x_call, x_callS,
    x_iSeq, x_iRng1, x_iRng2, x_bor, x_tBor, x_put1, List.map_cons, List.map_nil, List.cons_append, List.nil_append, List.length_cons, List.length_nil, Nat.zero_add, Nat.reduceAdd, Nat.reduceSub, List.reduceReplicate, start,
    List.getElem?_cons_zero, List.getElem?_cons_succ, List.set_cons_zero, List.set_cons_succ, bnd_ret, bnd_assoc, bnd_grd, b1_if, bnd_ite, small, Nat.reduceLeDiff, grd_true, o_add, o_sub, o_neg, o_eq, o_ne, o_lt, o_le, o_gt, o_ge, o_eqS, o_neS,
    decide_eq_true_eq, reduceIte, decide_true, decide_false, Bool.not_true, Bool.not_false, Bool.false_eq_true, itemsOf, asInt, endOf, isTy,
    grd_tt, nx_int, nx_bool, nx_str, nx_none, nx_tup, nx_lst, x_isC, x_fld, x_in, x_count, x_lstR, x_tupR, x_raise, x_star, bnd_thr, noX_ret, fld_x, exn_d, eSetO, Out.clear, List.zip_cons_cons, List.zip_nil_left, List.zip_nil_right, s_asg, s_par, s_own, s_parO, s_put, s_expr, s_ret, s_skip, s_seq, s_rel, x_asg, x_par, x_own, x_parO, x_put, x_expr, x_ret, x_retN, x_skip, x_rel, x_app, x_setI, x_sIf, x_for, x_brk, x_cnt, b_lenT, b_lenL, b_tupL, b_tupT, b_max2, b_min2, o_addL, o_addT, cut_ints, sum_ints, s_chk, s_for, s_brk, s_cnt, s_retN, t_bool, g_rng, g_le, List.length_map]
      rw [List.map_append]
      rfl
    have test : tBool (eCmp .notN (eVar 1) (eCon .none)) [.val (.tuple (ns.map PyData.int)), .val (.int w), .own (acc.map entD), e3] = ret true := by
      try simp only [x_var, x_con, x_bin, x_neg, x_cmp, x_chain, x_tTru, x_tNot, x_tAnd, x_tOr, x_tBool, x_tYes, x_not, x_and, x_or, x_if, x_b1, x_b2, x_is, x_idx, x_oNone, x_oSome, x_cut, x_aNil, x_aCons, x_tup, x_lst, x_call, x_callS,
    x_iSeq, x_iRng1, x_iRng2, x_bor, x_tBor, x_put1, List.map_cons, List.map_nil, List.cons_append, List.nil_append, List.length_cons, List.length_nil, Nat.zero_add, Nat.reduceAdd, Nat.reduceSub, List.reduceReplicate, start,
    List.getElem?_cons_zero, List.getElem?_cons_succ, List.set_cons_zero, List.set_cons_succ, bnd_ret, bnd_assoc, bnd_grd, b1_if, bnd_ite, small, Nat.reduceLeDiff, grd_true, o_add, o_sub, o_neg, o_eq, o_ne, o_lt, o_le, o_gt, o_ge, o_eqS, o_neS,
    decide_eq_true_eq, reduceIte, decide_true, decide_false, Bool.not_true, Bool.not_false, Bool.false_eq_true, itemsOf, asInt, endOf, isTy,
    grd_tt, nx_int, nx_bool, nx_str, nx_none, nx_tup, nx_lst, x_isC, x_fld, x_in, x_count, x_lstR, x_tupR, x_raise, x_star, bnd_thr, noX_ret, fld_x, exn_d, eSetO, Out.clear, List.zip_cons_cons, List.zip_nil_left, List.zip_nil_right, s_asg, s_par, s_own, s_parO, s_put, s_expr, s_ret, s_skip, s_seq, s_rel, x_asg, x_par, x_own, x_parO, x_put, x_expr, x_ret, x_retN, x_skip, x_rel, x_app, x_setI, x_sIf, x_for, x_brk, x_cnt, b_lenT, b_lenL, b_tupL, b_tupT, b_max2, b_min2, o_addL, o_addT, cut_ints, sum_ints, s_chk, s_for, s_brk, s_cnt, s_retN, t_bool, g_rng, g_le, List.length_map, isN_none, notN_none, isNone]
    cases hx : nextW ns (starts ns w) with
    | none =>
      rw [hx] at turn
      refine ⟨1, .val (.tuple (natsD (starts ns w))), .turn test turn ?_⟩
      have e : bookF ns (f + 1) w = [(w, starts ns w)] := by
        show (w, starts ns w) :: (match nextW ns (starts ns w) with | none => [] | some v => bookF ns f v) = _
        rw [hx]
      rw [e]
      refine .stop ?_
      try simp only [x_var, x_con, x_bin, x_neg, x_cmp, x_chain, x_tTru, x_tNot, x_tAnd, x_tOr, x_tBool, x_tYes, x_not, x_and, x_or, x_if, x_b1, x_b2, x_is, x_idx, x_oNone, x_oSome, x_cut, x_aNil, x_aCons, x_tup, x_lst, x_call, x_callS,
    x_iSeq, x_iRng1, x_iRng2, x_bor, x_tBor, x_put1, List.map_cons, List.map_nil, List.cons_append, List.nil_append, List.length_cons, List.length_nil, Nat.zero_add, Nat.reduceAdd, Nat.reduceSub, List.reduceReplicate, start,
    List.getElem?_cons_zero, List.getElem?_cons_succ, List.set_cons_zero, List.set_cons_succ, bnd_ret, bnd_assoc, bnd_grd, b1_if, bnd_ite, small, Nat.reduceLeDiff, grd_true, o_add, o_sub, o_neg, o_eq, o_ne, o_lt, o_le, o_gt, o_ge, o_eqS, o_neS,
    decide_eq_true_eq, reduceIte, decide_true, decide_false, Bool.not_true, Bool.not_false, Bool.false_eq_true, itemsOf, asInt, endOf, isTy,
    grd_tt, nx_int, nx_bool, nx_str, nx_none, nx_tup, nx_lst, x_isC, x_fld, x_in, x_count, x_lstR, x_tupR, x_raise, x_star, bnd_thr, noX_ret, fld_x, exn_d, eSetO, Out.clear, List.zip_cons_cons, List.zip_nil_left, List.zip_nil_right, s_asg, s_par, s_own, s_parO, s_put, s_expr, s_ret, s_skip, s_seq, s_rel, x_asg, x_par, x_own, x_parO, x_put, x_expr, x_ret, x_retN, x_skip, x_rel, x_app, x_setI, x_sIf, x_for, x_brk, x_cnt, b_lenT, b_lenL, b_tupL, b_tupT, b_max2, b_min2, o_addL, o_addT, cut_ints, sum_ints, s_chk, s_for, s_brk, s_cnt, s_retN, t_bool, g_rng, g_le, List.length_map, isN_none, notN_none, isNone, intO]
    | some v =>
      rw [hx] at turn
      obtain ⟨m1, m2⟩ := nextW_some hx
      have hv := chain_gt c v m1
      have hv2 := exts_le hn (starts_lt h1) v m1
      obtain ⟨k, e3', r⟩ := book_runs hB h1 h2 hn hb f v (acc ++ [(w, starts ns w)]) (.val (.tuple (natsD (starts ns w)))) (by omega) (by omega) (by rw [List.length_append, List.length_singleton]; omega)
      refine ⟨k + 1, e3', .turn test turn ?_⟩
      have e : bookF ns (f + 1) w = (w, starts ns w) :: bookF ns f v := by
        show (w, starts ns w) :: (match nextW ns (starts ns w) with | none => [] | some v => bookF ns f v) = _
        rw [hx]
      rw [e]
      rw [List.append_assoc] at r
      exact r
end DL
end
section
namespace DL
open PySem
structure Shp (k : Nat) (d : D) : Prop where
  lay : PyData.canLay0 d = true
  deep : PyData.depth d ≤ k
theorem Shp.ok {k : Nat} {d : D} (h : Shp k d) (hk : k ≤ 64) : SeqAt.shaped d = true := shp_of h.lay (Nat.le_trans h.deep hk)
theorem Shp.mono {k k' : Nat} {d : D} (h : Shp k d) (hk : k ≤ k') : Shp k' d := ⟨h.lay, Nat.le_trans h.deep hk⟩
theorem shp_int (i : Int) : Shp 0 (.int i) := ⟨rfl, Nat.le_refl _⟩
theorem shp_all {k : Nat} : ∀ {ds : List D}, (∀ d ∈ ds, Shp k d) → PyData.canLayAll0 ds = true ∧ PyData.depthAll ds ≤ k
  | [], _ => ⟨rfl, Nat.zero_le _⟩
  | d :: ds, h => by
    obtain ⟨a, b⟩ := shp_all fun x hx => h x (.tail _ hx)
    have c := h d (.head _)
    have := c.deep
    refine ⟨?_, ?_⟩
    · simp only [PyData.canLayAll0, a, c.lay, Bool.and_self]
    · simp only [PyData.depthAll]; omega
theorem shp_tup {k : Nat} {ds : List D} (h : ∀ d ∈ ds, Shp k d) : Shp (k + 1) (.tuple ds) := by
  obtain ⟨a, b⟩ := shp_all h
  exact ⟨by simp only [PyData.canLay0, a], by simp only [PyData.depth]; omega⟩
theorem shp_lst {k : Nat} {ds : List D} (h : ∀ d ∈ ds, Shp k d) : Shp (k + 1) (.list ds) := by
  obtain ⟨a, b⟩ := shp_all h
  exact ⟨by simp only [PyData.canLay0, a], by simp only [PyData.depth]; omega⟩
theorem shp_nats (l : List Nat) : Shp 1 (.tuple (natsD l)) := shp_tup fun d hd => by
  obtain ⟨n, _, rfl⟩ := List.mem_map.mp hd
  exact shp_int _
theorem o_eqN (a b : List Nat) : opCmp .eq (.tuple (natsD a)) (.tuple (natsD b)) = ret (decide (a = b)) := by
  rw [natsD_ints, natsD_ints, o_eqT]
  have inj : (a.map (fun n : Nat => (n : Int)) = b.map fun n : Nat => (n : Int)) ↔ a = b := by
    constructor
    · intro h
      exact List.map_inj_right (fun x y h => Int.ofNat.inj h) |>.mp h
    · rintro rfl; rfl
  rw [decide_eq_decide.mpr inj]
def push {β : Type} [DecidableEq β] (acc : List (Int × β)) (p : Int × β) : List (Int × β) := match acc.getLast? with
  | none => acc ++ [p]
  | some q => if q.2 = p.2 then acc else acc ++ [p]
def scanA {β : Type} [DecidableEq β] (S : Int → β) (m : Int) : Nat → List (Int × β)
  | 0 => []
  | n + 1 => push (scanA S m n) (m + n, S (m + n))
theorem push_snoc {β : Type} [DecidableEq β] (P : List (Int × β)) (q p : Int × β) : push (P ++ [q]) p = if q.2 = p.2 then P ++ [q] else P ++ [q] ++ [p] := by
  unfold push
  rw [List.getLast?_concat]
theorem scanA_mem {β : Type} [DecidableEq β] {S : Int → β} {m : Int} : ∀ {n : Nat} {p : Int × β}, p ∈ scanA S m n → p.2 = S p.1 ∧ m ≤ p.1 ∧ p.1 < m + n
  | 0, p, h => by cases h
  | n + 1, p, h => by
    have old : p ∈ scanA S m n → p.2 = S p.1 ∧ m ≤ p.1 ∧ p.1 < m + (n + 1 : Nat) := fun h => by
      obtain ⟨a, b, c⟩ := scanA_mem h
      exact ⟨a, b, by omega⟩
    have new : p ∈ scanA S m n ++ [(m + (n : Int), S (m + n))] → p.2 = S p.1 ∧ m ≤ p.1 ∧ p.1 < m + (n + 1 : Nat) := fun h => by
      rcases List.mem_append.mp h with h | h
      · exact old h
      · rw [List.mem_singleton] at h
        subst h
        exact ⟨rfl, by show m ≤ m + (n : Int); omega, by show m + (n : Int) < _; omega⟩
    unfold scanA push at h
    split at h
    · exact new h
    · split at h
      · exact old h
      · exact new h
theorem scanA_len {β : Type} [DecidableEq β] {S : Int → β} {m : Int} : ∀ n : Nat, (scanA S m n).length ≤ n
  | 0 => Nat.le_refl _
  | n + 1 => by
    have := scanA_len (S := S) (m := m) n
    unfold scanA push
    split
    · rw [List.length_append, List.length_singleton]; omega
    · split
      · omega
      · rw [List.length_append, List.length_singleton]; omega
theorem book_scan {ns : List Int} {m B : Int} (h1 : 0 < ns.length) (hn : ∀ x ∈ ns, 0 ≤ x) (hb : ns.sum + ns.length - 1 ≤ B) (hm : m ≤ B) {F : Nat} (hF : B < m + F) : ∀ n : Nat, 1 ≤ n →
    ∃ P w f, scanA (starts ns) m n = P ++ [(w, starts ns w)] ∧ P ++ bookF ns f w = bookF ns F m ∧ w ≤ m + n - 1 ∧ w ≤ B ∧ B < w + (f : Nat) ∧ ∀ e ∈ exts ns (starts ns w), m + n - 1 < e
  | 0, h => by omega
  | 1, _ => by
    refine ⟨[], m, F, ?_, rfl, by omega, hm, hF, fun e he => ?_⟩
    · show push [] (m + (0 : Nat), starts ns (m + (0 : Nat))) = _
      rw [show m + ((0 : Nat) : Int) = m by omega]
      rfl
    · have := chain_gt (starts_chain m h1) e he
      omega
  | n + 2, _ => by
    obtain ⟨P, w, f, e1, e2, e3, e4, e5, e6⟩ := book_scan h1 hn hb hm hF (n + 1) (by omega)
    have step : scanA (starts ns) m (n + 2) = push (P ++ [(w, starts ns w)]) (m + (n + 1 : Nat), starts ns (m + (n + 1 : Nat))) := by
      rw [← e1]; rfl
    rw [step, push_snoc]
    by_cases h : starts ns w = starts ns (m + (n + 1 : Nat))
    · rw [if_pos h]
      refine ⟨P, w, f, rfl, e2, by omega, e4, e5, fun e he => ?_⟩
      have g := chain_gt (starts_chain (m + (n + 1 : Nat)) h1)
      rw [← h] at g
      have := g e he
      omega
    · rw [if_neg h]
      have hx : ∃ v, nextW ns (starts ns w) = some v ∧ v = m + (n + 1 : Nat) := by
        cases hx : nextW ns (starts ns w) with
        | none =>
          exfalso
          have k := chain_keep (v := m + (n + 1 : Nat)) (by omega) (starts_chain w h1) (by rw [nextW_none hx]; intro e he; cases he)
          exact h (starts_unique k).symm
        | some v =>
          obtain ⟨m1, m2⟩ := nextW_some hx
          refine ⟨v, rfl, ?_⟩
          have := e6 v m1
          by_cases hlt : m + ((n + 1 : Nat) : Int) < v
          · exfalso
            have k := chain_keep (v := m + (n + 1 : Nat)) (by omega) (starts_chain w h1) fun e he => by have := m2 e he; omega
            exact h (starts_unique k).symm
          · omega
      obtain ⟨v, hv, rfl⟩ := hx
      have hv2 := exts_le hn (starts_lt h1) _ (nextW_some hv).1
      cases f with
      | zero => omega
      | succ f =>
        refine ⟨P ++ [(w, starts ns w)], _, f, rfl, ?_, by omega, by omega, by omega, fun e he => ?_⟩
        · rw [← e2]
          have e : bookF ns (f + 1) w = (w, starts ns w) :: bookF ns f (m + (n + 1 : Nat)) := by
            show (w, starts ns w) :: (match nextW ns (starts ns w) with | none => [] | some v => bookF ns f v) = _
            rw [hv]
          rw [e]
          simp
        · have := chain_gt (starts_chain _ h1) e he
          omega
theorem book_all {ns : List Int} {m B : Int} (h1 : 0 < ns.length) (hn : ∀ x ∈ ns, 0 ≤ x) (hb : ns.sum + ns.length - 1 ≤ B) (hm : m ≤ B) {F : Nat} (hF : B < m + F) {n : Nat} (h : B < m + n) (hp : 1 ≤ n) : scanA (starts ns) m n = bookF ns F m := by
  obtain ⟨P, w, f, e1, e2, e3, e4, e5, e6⟩ := book_scan h1 hn hb hm hF n hp
  have hx : exts ns (starts ns w) = [] := by
    cases he : exts ns (starts ns w) with
    | nil => rfl
    | cons e r =>
      rw [he] at e6
      have a := e6 e (.head _)
      have b := exts_le hn (starts_lt (w := w) h1) e (by rw [he]; exact .head _)
      omega
  rw [e1, ← e2]
  cases f with
  | zero => omega
  | succ f =>
    show _ = P ++ ((w, starts ns w) :: (match nextW ns (starts ns w) with | none => [] | some v => bookF ns f v))
    unfold nextW
    rw [hx]
theorem longest_0 {ns : List Int} {m : Int} (h : bi1 .max (.tuple (ns.map PyData.int)) = ret (.int m)) : w_longest_0 [.tuple (ns.map PyData.int)] = ret (.int m) := by
  unfold w_longest_0
  refine (f_fn (by rfl)).trans ?_
  simp only [x_var, x_con, x_bin, x_neg, x_cmp, x_chain, x_tTru, x_tNot, x_tAnd, x_tOr, x_tBool, x_tYes, x_not, x_and, x_or, x_if, x_b1, x_b2, x_is, x_idx, x_oNone, x_oSome, x_cut, x_aNil, x_aCons, x_tup, x_lst, x_call, x_callS,
    x_iSeq, x_iRng1, x_iRng2, x_bor, x_tBor, x_put1, List.map_cons, List.map_nil, List.cons_append, List.nil_append, List.length_cons, List.length_nil, Nat.zero_add, Nat.reduceAdd, Nat.reduceSub, List.reduceReplicate, start,
    List.getElem?_cons_zero, List.getElem?_cons_succ, List.set_cons_zero, List.set_cons_succ, bnd_ret, bnd_assoc, bnd_grd, b1_if, bnd_ite, small, Nat.reduceLeDiff, grd_true, o_add, o_sub, o_neg, o_eq, o_ne, o_lt, o_le, o_gt, o_ge, o_eqS, o_neS,
    decide_eq_true_eq, reduceIte, decide_true, decide_false, Bool.not_true, Bool.not_false, Bool.false_eq_true, itemsOf, asInt, endOf, isTy,
    grd_tt, nx_int, nx_bool, nx_str, nx_none, nx_tup, nx_lst, x_isC, x_fld, x_in, x_count, x_lstR, x_tupR, x_raise, x_star, bnd_thr, noX_ret, fld_x, exn_d, eSetO, Out.clear, List.zip_cons_cons, List.zip_nil_left, List.zip_nil_right, s_asg, s_par, s_own, s_parO, s_put, s_expr, s_ret, s_skip, s_seq, s_rel, x_asg, x_par, x_own, x_parO, x_put, x_expr, x_ret, x_retN, x_skip, x_rel, x_app, x_setI, x_sIf, x_for, x_brk, x_cnt, b_lenT, b_lenL, b_tupL, b_tupT, b_max2, b_min2, o_addL, o_addT, cut_ints, sum_ints, s_chk, s_for, s_brk, s_cnt, s_retN, t_bool, g_rng, g_le, List.length_map, h]
/-- the book of a row whose longest word is m -/
def bookN (ns : List Int) (m : Int) : List (Int × List Nat) := scanA (starts ns) m (ns.sum + ns.length + 2 - m).toNat
theorem book_of_0 {ns : List Int} {m : Int} (h : bi1 .max (.tuple (ns.map PyData.int)) = ret (.int m)) (h1 : 0 < ns.length) (h2 : ns.length ≤ 900) (hn : ∀ x ∈ ns, 0 ≤ x) (hs : ns.sum ≤ 90000) (hm : 0 ≤ m) (hm2 : m ≤ ns.sum) :
    w_book_of_0 [.tuple (ns.map PyData.int)] = ret (.tuple ((bookN ns m).map entD)) := by
  unfold w_book_of_0
  refine (f_fn (by rfl)).trans ?_
  simp only [x_var, x_con, x_bin, x_neg, x_cmp, x_chain, x_tTru, x_tNot, x_tAnd, x_tOr, x_tBool, x_tYes, x_not, x_and, x_or, x_if, x_b1, x_b2, x_is, x_idx, x_oNone, x_oSome, x_cut, x_aNil, x_aCons, x_tup, x_lst, x_call, x_callS,
    x_iSeq, x_iRng1, x_iRng2, x_bor, x_tBor, x_put1, List.map_cons, List.map_nil, List.cons_append, List.nil_append, List.length_cons, List.length_nil, Nat.zero_add, Nat.reduceAdd, Nat.reduceSub, List.reduceReplicate, start,
    List.getElem?_cons_zero, List.getElem?_cons_succ, List.set_cons_zero, List.set_cons_succ, bnd_ret, bnd_assoc, bnd_grd, b1_if, bnd_ite, small, Nat.reduceLeDiff, grd_true, o_add, o_sub, o_neg, o_eq, o_ne, o_lt, o_le, o_gt, o_ge, o_eqS, o_neS,
    decide_eq_true_eq, reduceIte, decide_true, decide_false, Bool.not_true, Bool.not_false, Bool.false_eq_true, itemsOf, asInt, endOf, isTy,
    grd_tt, nx_int, nx_bool, nx_str, nx_none, nx_tup, nx_lst, x_isC, x_fld, x_in, x_count, x_lstR, x_tupR, x_raise, x_star, bnd_thr, noX_ret, fld_x, exn_d, eSetO, Out.clear, List.zip_cons_cons, List.zip_nil_left, List.zip_nil_right, s_asg, s_par, s_own, s_parO, s_put, s_expr, s_ret, s_skip, s_seq, s_rel, x_asg, x_par, x_own, x_parO, x_put, x_expr, x_ret, x_retN, x_skip, x_rel, x_app, x_setI, x_sIf, x_for, x_brk, x_cnt, b_lenT, b_lenL, b_tupL, b_tupT, b_max2, b_min2, o_addL, o_addT, cut_ints, sum_ints, s_chk, s_for, s_brk, s_cnt, s_retN, t_bool, g_rng, g_le, List.length_map, longest_0 h]
  obtain ⟨k, e3, r⟩ := book_runs (B := ns.sum + ns.length - 1) (by omega) h1 h2 hn (Int.le_refl _) (ns.sum + ns.length - m).toNat m [] .unk (by omega) (by omega) (by simp; omega)
  have e := r.eq
  simp only [List.map_nil, List.nil_append] at e
  rw [x_seq, e]
  simp only [x_var, x_con, x_bin, x_neg, x_cmp, x_chain, x_tTru, x_tNot, x_tAnd, x_tOr, x_tBool, x_tYes, x_not, x_and, x_or, x_if, x_b1, x_b2, x_is, x_idx, x_oNone, x_oSome, x_cut, x_aNil, x_aCons, x_tup, x_lst, x_call, x_callS,
    x_iSeq, x_iRng1, x_iRng2, x_bor, x_tBor, x_put1, List.map_cons, List.map_nil, List.cons_append, List.nil_append, List.length_cons, List.length_nil, Nat.zero_add, Nat.reduceAdd, Nat.reduceSub, List.reduceReplicate, start,
    List.getElem?_cons_zero, List.getElem?_cons_succ, List.set_cons_zero, List.set_cons_succ, bnd_ret, bnd_assoc, bnd_grd, b1_if, bnd_ite, small, Nat.reduceLeDiff, grd_true, o_add, o_sub, o_neg, o_eq, o_ne, o_lt, o_le, o_gt, o_ge, o_eqS, o_neS,
    decide_eq_true_eq, reduceIte, decide_true, decide_false, Bool.not_true, Bool.not_false, Bool.false_eq_true, itemsOf, asInt, endOf, isTy,
    grd_tt, nx_int, nx_bool, nx_str, nx_none, nx_tup, nx_lst, x_isC, x_fld, x_in, x_count, x_lstR, x_tupR, x_raise, x_star, bnd_thr, noX_ret, fld_x, exn_d, eSetO, Out.clear, List.zip_cons_cons, List.zip_nil_left, List.zip_nil_right, s_asg, s_par, s_own, s_parO, s_put, s_expr, s_ret, s_skip, s_seq, s_rel, x_asg, x_par, x_own, x_parO, x_put, x_expr, x_ret, x_retN, x_skip, x_rel, x_app, x_setI, x_sIf, x_for, x_brk, x_cnt, b_lenT, b_lenL, b_tupL, b_tupT, b_max2, b_min2, o_addL, o_addT, cut_ints, sum_ints, s_chk, s_for, s_brk, s_cnt, s_retN, t_bool, g_rng, g_le, List.length_map]
  rw [← book_all (n := (ns.sum + ns.length + 2 - m).toNat) h1 hn (Int.le_refl _) (by omega) (by omega) (by omega) (by omega)]
  rfl
theorem mem_sum : ∀ {ns : List Int} {x : Int}, (∀ y ∈ ns, 0 ≤ y) → x ∈ ns → x ≤ ns.sum
  | [], x, _, h => by cases h
  | a :: ns, x, hn, h => by
    have pos : ∀ l : List Int, (∀ x ∈ l, 0 ≤ x) → 0 ≤ l.sum := fun l hl => by
      induction l with
      | nil => simp
      | cons a l ih =>
        have := hl a (.head _)
        have := ih fun x hx => hl x (.tail _ hx)
        rw [List.sum_cons]; omega
    have p := pos ns fun y hy => hn y (.tail _ hy)
    have q := hn a (.head _)
    rw [List.sum_cons]
    cases h with
    | head => omega
    | tail _ h =>
      have := mem_sum (fun y hy => hn y (.tail _ hy)) h
      omega
end DL
end
section
namespace DL
open PySem
/-- keep what is new -/
def keep {β : Type} [DecidableEq β] (l : List (Int × β)) : List (Int × β) := l.foldl push []
end DL
end
section
namespace DL
open PySem
theorem ex_first {P : Nat → Prop} [DecidablePred P] : ∀ n, P n → ∃ k, k ≤ n ∧ P k ∧ ∀ j, j < k → ¬ P j
  | 0, h => ⟨0, Nat.le_refl _, h, fun j hj => by omega⟩
  | n + 1, h => by
    by_cases e : ∃ j, j < n + 1 ∧ P j
    · obtain ⟨j, hj, hp⟩ := e
      obtain ⟨k, k1, k2, k3⟩ := ex_first j hp
      exact ⟨k, by omega, k2, k3⟩
    · exact ⟨n + 1, Nat.le_refl _, h, fun j hj hp => e ⟨j, hj, hp⟩⟩
termination_by n => n
decreasing_by omega
theorem starts_one {ns : List Int} {w : Int} (h1 : 0 < ns.length) (hn : ∀ x ∈ ns, 0 ≤ x) (hw : ns.sum + ns.length - 1 ≤ w) : starts ns w = [0] := by
  have c := starts_chain w h1
  cases hr : restF ns w ns.length (nx ns w 0) with
  | nil => unfold starts; rw [hr]
  | cons b r =>
    have e : starts ns w = 0 :: b :: r := by unfold starts; rw [hr]
    have g := chain_gt c (ext ns 0 b) (by rw [e]; exact .head _)
    have l := exts_le hn (starts_lt (w := w) h1) (ext ns 0 b) (by rw [e]; exact .head _)
    omega
/-- the least width, from m on, for at most c lines -/
structure Least (ns : List Int) (m : Int) (c : Nat) (k : Nat) : Prop where
  fits : (starts ns (m + k)).length ≤ c
  first : ∀ j : Nat, j < k → c < (starts ns (m + j)).length
  most : m + k ≤ ns.sum + ns.length
theorem Least.ex {ns : List Int} {m : Int} {c : Nat} (h1 : 0 < ns.length) (hn : ∀ x ∈ ns, 0 ≤ x) (hm : m ≤ ns.sum) (hc : 1 ≤ c) : ∃ k, Least ns m c k := by
  obtain ⟨k, k1, k2, k3⟩ := ex_first (P := fun k => (starts ns (m + k)).length ≤ c) (ns.sum + ns.length - m).toNat (by
    rw [starts_one h1 hn (by omega)]
    exact hc)
  exact ⟨k, k2, fun j hj => by have := k3 j hj; omega, by omega⟩
theorem cut_upto {ds : List D} {k : Nat} : DL.cut ds none (some (k : Int)) = ds.take k := by
  unfold DL.cut
  rw [HT.sIx_nat, show HT.sIx ds.length 0 none = 0 from rfl, List.drop_zero, Nat.sub_zero]
  by_cases h : k ≤ ds.length
  · rw [Nat.min_eq_left h]
  · rw [Nat.min_eq_right (by omega), List.take_of_length_le (Nat.le_refl _), List.take_of_length_le (by omega)]
end DL
end
section
namespace DL
open PySem
/-- a value of any kind, short enough to be shown -/
def Odd (d : D) : Prop := Tame 8 2 d
theorem Odd.nx {d : D} (h : Odd d) : noXn d = true := nx_plain h.pln
/-- an int, no truth value, of a range -/
def intIn (lo hi : Int) : D → Bool
  | .int i => decide (lo ≤ i ∧ i ≤ hi)
  | _ => false
theorem is_integer_d {lo hi : Int} {d : D} (h : noXn d = true) : w_is_integer_0 [d, .int lo, .int hi] = ret (.bool (intIn lo hi d)) := by
  unfold w_is_integer_0
  refine (f_fn (by rfl)).trans ?_
  cases d with
  | int i =>
    simp only [x_var, x_con, x_bin, x_neg, x_cmp, x_chain, x_tTru, x_tNot, x_tAnd, x_tOr, x_tBool, x_tYes, x_not, x_and, x_or, x_if, x_b1, x_b2, x_is, x_idx, x_oNone, x_oSome, x_cut, x_aNil, x_aCons, x_tup, x_lst, x_call, x_callS,
    x_iSeq, x_iRng1, x_iRng2, x_bor, x_tBor, x_put1, List.map_cons, List.map_nil, List.cons_append, List.nil_append, List.length_cons, List.length_nil, Nat.zero_add, Nat.reduceAdd, Nat.reduceSub, List.reduceReplicate, start,
    List.getElem?_cons_zero, List.getElem?_cons_succ, List.set_cons_zero, List.set_cons_succ, bnd_ret, bnd_assoc, bnd_grd, b1_if, bnd_ite, small, Nat.reduceLeDiff, grd_true, o_add, o_sub, o_neg, o_eq, o_ne, o_lt, o_le, o_gt, o_ge, o_eqS, o_neS,
    decide_eq_true_eq, reduceIte, decide_true, decide_false, Bool.not_true, Bool.not_false, Bool.false_eq_true, itemsOf, asInt, endOf, isTy,
    grd_tt, nx_int, nx_bool, nx_str, nx_none, nx_tup, nx_lst, x_isC, x_fld, x_in, x_count, x_lstR, x_tupR, x_raise, x_star, bnd_thr, noX_ret, fld_x, exn_d, eSetO, Out.clear, List.zip_cons_cons, List.zip_nil_left, List.zip_nil_right, s_asg, s_par, s_own, s_parO, s_put, s_expr, s_ret, s_skip, s_seq, s_rel, x_asg, x_par, x_own, x_parO, x_put, x_expr, x_ret, x_retN, x_skip, x_rel, x_app, x_setI, x_sIf, x_for, x_brk, x_cnt, b_lenT, b_lenL, b_tupL, b_tupT, b_max2, b_min2, o_addL, o_addT, cut_ints, sum_ints, s_chk, s_for, s_brk, s_cnt, s_retN, t_bool, g_rng, g_le, List.length_map]
    unfold intIn
    by_cases h : lo ≤ i
    · simp [h]
    · simp [h]
  | _ =>
    simp only [x_var, x_con, x_bin, x_neg, x_cmp, x_chain, x_tTru, x_tNot, x_tAnd, x_tOr, x_tBool, x_tYes, x_not, x_and, x_or, x_if, x_b1, x_b2, x_is, x_idx, x_oNone, x_oSome, x_cut, x_aNil, x_aCons, x_tup, x_lst, x_call, x_callS,
    x_iSeq, x_iRng1, x_iRng2, x_bor, x_tBor, x_put1, List.map_cons, List.map_nil, List.cons_append, List.nil_append, List.length_cons, List.length_nil, Nat.zero_add, Nat.reduceAdd, Nat.reduceSub, List.reduceReplicate, start,
    List.getElem?_cons_zero, List.getElem?_cons_succ, List.set_cons_zero, List.set_cons_succ, bnd_ret, bnd_assoc, bnd_grd, b1_if, bnd_ite, small, Nat.reduceLeDiff, grd_true, o_add, o_sub, o_neg, o_eq, o_ne, o_lt, o_le, o_gt, o_ge, o_eqS, o_neS,
    decide_eq_true_eq, reduceIte, decide_true, decide_false, Bool.not_true, Bool.not_false, Bool.false_eq_true, itemsOf, asInt, endOf, isTy,
    grd_tt, nx_int, nx_bool, nx_str, nx_none, nx_tup, nx_lst, x_isC, x_fld, x_in, x_count, x_lstR, x_tupR, x_raise, x_star, bnd_thr, noX_ret, fld_x, exn_d, eSetO, Out.clear, List.zip_cons_cons, List.zip_nil_left, List.zip_nil_right, s_asg, s_par, s_own, s_parO, s_put, s_expr, s_ret, s_skip, s_seq, s_rel, x_asg, x_par, x_own, x_parO, x_put, x_expr, x_ret, x_retN, x_skip, x_rel, x_app, x_setI, x_sIf, x_for, x_brk, x_cnt, b_lenT, b_lenL, b_tupL, b_tupT, b_max2, b_min2, o_addL, o_addT, cut_ints, sum_ints, s_chk, s_for, s_brk, s_cnt, s_retN, t_bool, g_rng, g_le, List.length_map, h]
    try rfl
end DL
end
section
namespace DL
open PySem
theorem cut_uptoI {ns : List Int} {k : Int} (hk : 0 ≤ k) : opCut (.tuple (ns.map PyData.int)) none (some k) = ret (.tuple ((ns.take k.toNat).map PyData.int)) := by
  obtain ⟨a, rfl⟩ := Int.eq_ofNat_of_zero_le hk
  show ret (PyData.tuple (DL.cut (ns.map PyData.int) none (some (a : Int)))) = _
  rw [cut_upto, ← List.map_take]
  rfl
theorem cut_fromI {ns : List Int} {k : Int} (hk : 0 ≤ k) (h : k ≤ ns.length) : opCut (.tuple (ns.map PyData.int)) (some k) none = ret (.tuple ((ns.drop k.toNat).map PyData.int)) := by
  obtain ⟨a, rfl⟩ := Int.eq_ofNat_of_zero_le hk
  exact cut_from (by omega)
end DL
end
section
namespace DL
open PySem
end DL
end
section
namespace DL
open PySem
end DL
end
section
namespace DL
open PySem
end DL
end
section
namespace DL
open PySem
end DL
end
section
namespace DL
open PySem
theorem scan_last {β : Type} [DecidableEq β] (S : Int → β) (m : Int) : ∀ k : Nat, 1 ≤ k → ∃ P lo, scanA S m k = P ++ [(lo, S lo)] ∧ m ≤ lo ∧ lo ≤ m + k - 1 ∧ (∀ v, lo ≤ v → v ≤ m + k - 1 → S v = S lo) ∧ (lo = m ∨ S (lo - 1) ≠ S lo)
  | 0, h => by omega
  | 1, _ => by
    refine ⟨[], m, ?_, Int.le_refl _, by omega, fun v a b => by rw [show v = m by omega], .inl rfl⟩
    show push [] (m + (0 : Nat), S (m + (0 : Nat))) = _
    rw [show m + ((0 : Nat) : Int) = m by omega]
    rfl
  | k + 2, _ => by
    obtain ⟨P, lo, e1, e2, e3, e4, e5⟩ := scan_last S m (k + 1) (by omega)
    have step : scanA S m (k + 2) = push (P ++ [(lo, S lo)]) (m + (k + 1 : Nat), S (m + (k + 1 : Nat))) := by rw [← e1]; rfl
    rw [step, push_snoc]
    by_cases h : S lo = S (m + (k + 1 : Nat))
    · rw [if_pos h]
      refine ⟨P, lo, rfl, e2, by omega, fun v a b => ?_, e5⟩
      by_cases hv : v ≤ m + (k + 1 : Nat) - 1
      · exact e4 v a hv
      · rw [show v = m + (k + 1 : Nat) by omega, h]
    · rw [if_neg h]
      refine ⟨P ++ [(lo, S lo)], m + (k + 1 : Nat), rfl, by omega, by omega, fun v a b => by rw [show v = m + (k + 1 : Nat) by omega], .inr fun z => h ?_⟩
      rw [← z, e4 (m + (k + 1 : Nat) - 1) (by omega) (by omega)]
/-- what a scan finds after the width a -/
inductive More {β : Type} (S : Int → β) (a : Int) (i : Nat) : List (Int × β) → Prop
  | nil : (∀ v, a ≤ v → v ≤ a + i → S v = S a) → More S a i []
  | cons {q : Int × β} {r : List (Int × β)} : a < q.1 → S q.1 ≠ S a → (∀ v, a ≤ v → v < q.1 → S v = S a) → (∀ p ∈ r, a < p.1) → More S a i (q :: r)
theorem scan_more {β : Type} [DecidableEq β] (S : Int → β) (m : Int) {k : Nat} (hk : 1 ≤ k) : ∀ i : Nat, ∃ R, scanA S m (k + i) = scanA S m k ++ R ∧ More S (m + k - 1) i R
  | 0 => ⟨[], by simp, .nil fun v a b => by rw [show v = m + k - 1 by omega]⟩
  | i + 1 => by
    obtain ⟨R, e, h⟩ := scan_more S m hk i
    obtain ⟨P, lo, e1, e2, e3, e4, e5⟩ := scan_last S m (k + i) (by omega)
    have step : scanA S m (k + (i + 1)) = push (scanA S m (k + i)) (m + (k + i : Nat), S (m + (k + i : Nat))) := rfl
    have hlast : S (m + k - 1 + i) = S lo := e4 _ (by omega) (by omega)
    have hp : push (scanA S m (k + i)) (m + (k + i : Nat), S (m + (k + i : Nat))) = if S lo = S (m + (k + i : Nat)) then scanA S m (k + i) else scanA S m (k + i) ++ [(m + (k + i : Nat), S (m + (k + i : Nat)))] := by
      rw [e1, push_snoc]
    rw [step, hp, e]
    by_cases c : S lo = S (m + (k + i : Nat))
    · rw [if_pos c]
      refine ⟨R, rfl, ?_⟩
      cases h with
      | nil g =>
        refine .nil fun v a b => ?_
        by_cases hv : v ≤ m + k - 1 + i
        · exact g v a hv
        · rw [show v = m + (k + i : Nat) by omega, ← c, ← hlast]
          exact g _ (by omega) (by omega)
      | cons g1 g2 g3 g4 => exact .cons g1 g2 g3 g4
    · rw [if_neg c]
      refine ⟨R ++ [(m + (k + i : Nat), S (m + (k + i : Nat)))], by rw [List.append_assoc], ?_⟩
      cases h with
      | nil g =>
        refine .cons (by show m + (k : Int) - 1 < m + (k + i : Nat); omega) (fun z => c ?_) (fun v a b => g v a (by have : v < m + (k + i : Nat) := b; omega)) fun p hp => by cases hp
        rw [← hlast, g _ (by omega) (by omega)]
        exact z.symm
      | cons g1 g2 g3 g4 =>
        refine .cons g1 g2 g3 fun p hp => ?_
        rcases List.mem_append.mp hp with hp | hp
        · exact g4 p hp
        · rw [List.mem_singleton] at hp
          rw [hp]
          show m + (k : Int) - 1 < m + (k + i : Nat)
          omega
theorem bookN_any {ns : List Int} {m : Int} (h1 : 0 < ns.length) (hn : ∀ x ∈ ns, 0 ≤ x) (hm : m ≤ ns.sum) {n : Nat} (h : (ns.sum + ns.length + 2 - m).toNat ≤ n) : bookN ns m = scanA (starts ns) m n := by
  have a := book_all (ns := ns) (m := m) (B := ns.sum + ns.length - 1) (F := (ns.sum + ns.length - m).toNat) (n := (ns.sum + ns.length + 2 - m).toNat) h1 hn (Int.le_refl _) (by omega) (by omega) (by omega) (by omega)
  have b := book_all (ns := ns) (m := m) (B := ns.sum + ns.length - 1) (F := (ns.sum + ns.length - m).toNat) (n := n) h1 hn (Int.le_refl _) (by omega) (by omega) (by omega) (by omega)
  unfold bookN
  rw [a, b]
theorem one_stays {ns : List Int} {w v : Int} (h1 : 0 < ns.length) (h : (starts ns w).length ≤ 1) (hv : w ≤ v) : starts ns v = starts ns w := by
  have c := starts_chain w h1
  unfold starts at c h ⊢
  have hr : restF ns w ns.length (nx ns w 0) = [] := by
    cases e : restF ns w ns.length (nx ns w 0) with
    | nil => rfl
    | cons _ _ => rw [e] at h; simp at h
  rw [hr] at c ⊢
  exact starts_unique (chain_keep hv c fun e he => by cases he)
/-- the span of the width w: its book's entry, the next one -/
structure Span (ns : List Int) (m w : Int) (P : List (Int × List Nat)) (lo : Int) (R : List (Int × List Nat)) : Prop where
  book : bookN ns m = P ++ (lo, starts ns lo) :: R
  low : m ≤ lo
  le : lo ≤ w
  same : ∀ v, lo ≤ v → v ≤ w → starts ns v = starts ns lo
  least : lo = m ∨ starts ns (lo - 1) ≠ starts ns lo
  before : ∀ p ∈ P, p.1 ≤ w
  after : match R with
    | [] => (starts ns w).length = 1
    | q :: r => w < q.1 ∧ 1 < (starts ns w).length ∧ starts ns q.1 ≠ starts ns w ∧ (∀ v, w ≤ v → v < q.1 → starts ns v = starts ns w) ∧ ∀ p ∈ r, w < p.1
theorem Span.ex {ns : List Int} {m w : Int} (h1 : 0 < ns.length) (hn : ∀ x ∈ ns, 0 ≤ x) (hm : m ≤ ns.sum) (hw : m ≤ w) : ∃ P lo R, Span ns m w P lo R := by
  have hk : 1 ≤ (w - m + 1).toNat := by omega
  have ek : m + ((w - m + 1).toNat : Int) - 1 = w := by omega
  obtain ⟨P, lo, e1, e2, e3, e4, e5⟩ := scan_last (starts ns) m (w - m + 1).toNat hk
  obtain ⟨R, e6, hR⟩ := scan_more (starts ns) m hk (ns.sum + ns.length + 2 - m).toNat
  rw [ek] at e3 e4 hR
  have bk := bookN_any h1 hn hm (n := (w - m + 1).toNat + (ns.sum + ns.length + 2 - m).toNat) (by omega)
  refine ⟨P, lo, R, by rw [bk, e6, e1]; simp, e2, e3, e4, e5, fun p hp => ?_, ?_⟩
  · have hp2 : p ∈ scanA (starts ns) m (w - m + 1).toNat := by rw [e1]; exact List.mem_append_left _ hp
    have := (scanA_mem hp2).2.2
    omega
  · have pos : 1 ≤ (starts ns w).length := by unfold starts; simp
    cases hR with
    | nil g =>
      have z := g (w + (ns.sum + ns.length + 2 - m).toNat) (by omega) (Int.le_refl _)
      rw [starts_one h1 hn (by omega)] at z
      show (starts ns w).length = 1
      rw [← z]
      rfl
    | @cons q r g1 g2 g3 g4 =>
      refine ⟨g1, ?_, g2, g3, g4⟩
      by_cases h : (starts ns w).length ≤ 1
      · exact absurd (one_stays h1 h (Int.le_of_lt g1)) g2
      · omega
def spanD (lo : Int) (R : List (Int × List Nat)) : D := .tuple [.int lo, match R with | [] => .none | q :: _ => .int (q.1 - 1)]
theorem x_par3 (i j l : Nat) (a b c : XE) (r : XS) (E : Env) : sSeq (sPar3 i j l a b c) r E = bnd (a E) fun x => bnd (b E) fun y => bnd (c E) fun z => r (((E.set i (.val x)).set j (.val y)).set l (.val z)) := id rfl
end DL
end
section
namespace DL
open PySem
end DL
end
section
namespace DL
open PySem
/-- a row of one word at least, of 24 at most -/
structure RowN (ms : List Int) : Prop where
  one : 1 ≤ ms.length
  most : ms.length ≤ 24
  words : ∀ x ∈ ms, 1 ≤ x ∧ x ≤ 60
end DL
end
section
namespace DL
open PySem
end DL
end
section
namespace DL
open PySem
def asc (x : Str) : Bool := x.cps.toList.all fun c => decide (c < 128)
mutual
/-- leaves: short ints, plain texts; dicts of one entry at most -/
def lf (u : Nat) : D → Bool
  | .none => true
  | .bool _ => true
  | .int i => decide (i.natAbs ≤ 10 ^ 39 + u)
  | .str x => asc x
  | .tuple xs => lfAll u xs
  | .list xs => lfAll u xs
  | .dict [] => true
  | .dict [(.str a, d)] => asc a && lf u d
  | .dict _ => false
def lfAll (u : Nat) : List D → Bool
  | [] => true
  | x :: xs => lf u x && lfAll u xs
end
mutual
theorem lf_plain {u : Nat} : ∀ {d : D}, lf u d = true → plain d = true
  | .none, _ => rfl
  | .bool _, _ => rfl
  | .int _, _ => rfl
  | .str _, _ => rfl
  | .tuple xs, h => by unfold lf at h; unfold plain; exact lf_plainA h
  | .list xs, h => by unfold lf at h; unfold plain; exact lf_plainA h
  | .dict [], _ => rfl
  | .dict [(.str a, d)], h => by
    unfold lf at h
    rw [Bool.and_eq_true] at h
    unfold plain
    exact lf_plain h.2
  | .dict ((.none, _) :: _), h => by simp [lf] at h
  | .dict ((.bool _, _) :: _), h => by simp [lf] at h
  | .dict ((.int _, _) :: _), h => by simp [lf] at h
  | .dict ((.list _, _) :: _), h => by simp [lf] at h
  | .dict ((.tuple _, _) :: _), h => by simp [lf] at h
  | .dict ((.dict _, _) :: _), h => by simp [lf] at h
  | .dict ((.str _, _) :: _ :: _), h => by simp [lf] at h
theorem lf_plainA {u : Nat} : ∀ {ds : List D}, lfAll u ds = true → plainAll ds = true
  | [], _ => rfl
  | x :: xs, h => by
    unfold lfAll at h
    rw [Bool.and_eq_true] at h
    unfold plainAll
    rw [lf_plain h.1, lf_plainA h.2]
    rfl
end
mutual
theorem lf_mono {u v : Nat} (h : u ≤ v) : ∀ {d : D}, lf u d = true → lf v d = true
  | .none, _ => rfl
  | .bool _, _ => rfl
  | .int i, q => by
    unfold lf at q ⊢
    exact decide_eq_true (Nat.le_trans (of_decide_eq_true q) (by omega))
  | .str x, q => by unfold lf at q ⊢; exact q
  | .tuple xs, q => by unfold lf at q ⊢; exact lf_monoA h q
  | .list xs, q => by unfold lf at q ⊢; exact lf_monoA h q
  | .dict [], _ => rfl
  | .dict [(.str a, d)], q => by
    unfold lf at q ⊢
    rw [Bool.and_eq_true] at q ⊢
    exact ⟨q.1, lf_mono h q.2⟩
  | .dict ((.none, _) :: _), h => by simp [lf] at h
  | .dict ((.bool _, _) :: _), h => by simp [lf] at h
  | .dict ((.int _, _) :: _), h => by simp [lf] at h
  | .dict ((.list _, _) :: _), h => by simp [lf] at h
  | .dict ((.tuple _, _) :: _), h => by simp [lf] at h
  | .dict ((.dict _, _) :: _), h => by simp [lf] at h
  | .dict ((.str _, _) :: _ :: _), h => by simp [lf] at h
theorem lf_monoA {u v : Nat} (h : u ≤ v) : ∀ {ds : List D}, lfAll u ds = true → lfAll v ds = true
  | [], _ => rfl
  | x :: xs, q => by
    unfold lfAll at q ⊢
    rw [Bool.and_eq_true] at q ⊢
    exact ⟨lf_mono h q.1, lf_monoA h q.2⟩
end
/-- small data -/
structure Bd (u n k : Nat) (d : D) : Prop where
  lf : DL.lf u d = true
  bulk : PyData.bulk d ≤ n
  deep : PyData.depth d ≤ k
structure BdA (u n k : Nat) (ds : List D) : Prop where
  lf : lfAll u ds = true
  bulk : PyData.bulkAll ds ≤ n
  deep : PyData.depthAll ds ≤ k
section
variable {u n k u' n' k' m j : Nat} {d : D} {ds es : List D}
theorem Bd.mono (h : Bd u n k d) (a : u ≤ u') (b : n ≤ n') (c : k ≤ k') : Bd u' n' k' d := ⟨lf_mono a h.lf, Nat.le_trans h.bulk b, Nat.le_trans h.deep c⟩
theorem BdA.mono (h : BdA u n k ds) (a : u ≤ u') (b : n ≤ n') (c : k ≤ k') : BdA u' n' k' ds := ⟨lf_monoA a h.lf, Nat.le_trans h.bulk b, Nat.le_trans h.deep c⟩
theorem Bd.nx (h : Bd u n k d) : noXn d = true := nx_plain (lf_plain h.lf)
theorem bd_int {i : Int} (h : i.natAbs ≤ 10 ^ 39 + u) : Bd u 0 0 (.int i) := ⟨by unfold DL.lf; exact decide_eq_true h, Nat.zero_le _, Nat.zero_le _⟩
theorem bda_nil : BdA u 0 0 [] := ⟨rfl, Nat.zero_le _, Nat.zero_le _⟩
theorem bda_cons (h : Bd u n k d) (t : BdA u m j ds) : BdA u (n + 1 + m) (max k j) (d :: ds) := by
  refine ⟨?_, ?_, ?_⟩
  · unfold lfAll; rw [h.lf, t.lf]; rfl
  · simp only [PyData.bulkAll]; have := h.bulk; have := t.bulk; omega
  · simp only [PyData.depthAll]; have := h.deep; have := t.deep; omega
theorem bd_tup (h : BdA u n k ds) : Bd u n (k + 1) (.tuple ds) := by
  refine ⟨by unfold DL.lf; exact h.lf, by unfold PyData.bulk; exact h.bulk, ?_⟩
  simp only [PyData.depth]; have := h.deep; omega
theorem lfA_app : ∀ (ds es : List D), lfAll u (ds ++ es) = (lfAll u ds && lfAll u es)
  | [], es => by simp [lfAll]
  | d :: ds, es => by simp only [List.cons_append, lfAll, lfA_app ds es, Bool.and_assoc]
theorem bulkA_app : ∀ (ds es : List D), PyData.bulkAll (ds ++ es) = PyData.bulkAll ds + PyData.bulkAll es
  | [], es => by simp [PyData.bulkAll]
  | d :: ds, es => by simp only [List.cons_append, PyData.bulkAll, bulkA_app ds es]; omega
theorem depthA_app : ∀ (ds es : List D), PyData.depthAll (ds ++ es) = max (PyData.depthAll ds) (PyData.depthAll es)
  | [], es => by simp [PyData.depthAll]
  | d :: ds, es => by simp only [List.cons_append, PyData.depthAll, depthA_app ds es]; omega
theorem BdA.parts (h : BdA u n k (ds ++ es)) : BdA u n k ds ∧ BdA u n k es := by
  have h1 := h.lf
  have h2 := h.bulk
  have h3 := h.deep
  rw [lfA_app, Bool.and_eq_true] at h1
  rw [bulkA_app] at h2
  rw [depthA_app] at h3
  exact ⟨⟨h1.1, by omega, by omega⟩, ⟨h1.2, by omega, by omega⟩⟩
theorem BdA.take (h : BdA u n k ds) (i : Nat) : BdA u n k (ds.take i) := by
  rw [← List.take_append_drop i ds] at h
  exact h.parts.1
theorem BdA.drop (h : BdA u n k ds) (i : Nat) : BdA u n k (ds.drop i) := by
  rw [← List.take_append_drop i ds] at h
  exact h.parts.2
theorem BdA.cut (h : BdA u n k ds) (lo hi : Option Int) : BdA u n k (DL.cut ds lo hi) := (h.drop _).take _
theorem BdA.mem (h : BdA u n k ds) {x : D} (hx : x ∈ ds) : Bd u n k x := by
  obtain ⟨a, b, rfl⟩ := List.append_of_mem hx
  have h1 := h.parts.2
  have h2 := h1.lf
  have h3 := h1.bulk
  have h4 := h1.deep
  simp only [lfAll, Bool.and_eq_true] at h2
  simp only [PyData.bulkAll] at h3
  simp only [PyData.depthAll] at h4
  exact ⟨h2.1, by omega, by omega⟩
theorem len_bulk : ∀ ds : List D, ds.length ≤ PyData.bulkAll ds
  | [] => Nat.le_refl _
  | d :: ds => by
    have := len_bulk ds
    simp only [List.length_cons, PyData.bulkAll]
    omega
theorem BdA.len (h : BdA u n k ds) : ds.length ≤ n := Nat.le_trans (len_bulk ds) h.bulk
theorem bda_all (h : ∀ d ∈ ds, Bd u n k d) : BdA u (ds.length * (n + 1)) k ds := by
  induction ds with
  | nil => exact bda_nil.mono (Nat.le_refl _) (Nat.zero_le _) (Nat.zero_le _)
  | cons d ds ih =>
    have := bda_cons (h d (.head _)) (ih fun x hx => h x (.tail _ hx))
    refine this.mono (Nat.le_refl _) ?_ (by omega)
    rw [List.length_cons, Nat.succ_mul]
    omega
theorem bda_ints {ns : List Int} (h : ∀ x ∈ ns, x.natAbs ≤ 10 ^ 39 + u) : BdA u ns.length 0 (ns.map PyData.int) := by
  have := bda_all (u := u) (n := 0) (k := 0) (ds := ns.map PyData.int) fun d hd => by
    obtain ⟨x, hx, rfl⟩ := List.mem_map.mp hd
    exact bd_int (h x hx)
  rw [List.length_map, Nat.zero_add, Nat.mul_one] at this
  exact this
end
end DL
end
section
namespace DL
open PySem
theorem o_neNilT0 (ds : List D) : opCmp .ne (.tuple ds) (.tuple []) = ret (!ds.isEmpty) := by
  show bnd (grd True (ret (PyData.eqv (.tuple ds) (.tuple [])))) _ = _
  rw [grd_true]
  cases ds <;> rfl
end DL
end
section
namespace DL
open PySem
theorem o_notN (d : D) : opCmp .notN d .none = ret (!isNone d) := notN_none d
theorem lfA_nx {u : Nat} {ds : List D} (h : lfAll u ds = true) : ∀ d ∈ ds, noXn d = true := by
  intro d hd
  have : BdA u (PyData.bulkAll ds) (PyData.depthAll ds) ds := ⟨h, Nat.le_refl _, Nat.le_refl _⟩
  exact (this.mem hd).nx
end DL
end
section
namespace DL
open PySem
theorem max_long {ns : List Int} {m w : Int} (h : bi1 .max (.tuple (ns.map PyData.int)) = ret (.int m)) (hm : m ≤ w) : Long ns w none := .no fun j x hj => by
  have hx := List.mem_of_getElem? hj
  match ns, hx, h with
  | a :: r, hx, h =>
    have e : bi1 .max (.tuple ((a :: r).map PyData.int)) = ret (.int (greatest a r)) := by
      show bnd (intsOf (.tuple ((a :: r).map PyData.int))) _ = _
      simp only [intsOf, itemsOf, bnd_ret, ints?_map]
    rw [e] at h
    have e2 : PyData.int (greatest a r) = .int m := by
      have := congrFun (congrFun (congrFun h (.z 0)) fun d _ => d = .int m) fun _ _ => False
      exact this.mpr rfl
    have e3 : greatest a r = m := PyData.int.inj e2
    have go : ∀ (r : List Int) (a : Int), a ≤ r.foldl max a ∧ ∀ y ∈ r, y ≤ r.foldl max a := by
      intro r
      induction r with
      | nil => intro a; exact ⟨Int.le_refl _, fun y hy => by cases hy⟩
      | cons b r ih =>
        intro a
        obtain ⟨g1, g2⟩ := ih (max a b)
        refine ⟨Int.le_trans (Int.le_max_left a b) g1, fun y hy => ?_⟩
        cases hy with
        | head => exact Int.le_trans (Int.le_max_right a b) g1
        | tail _ hy => exact g2 y hy
    obtain ⟨g1, g2⟩ := go r a
    unfold greatest at e3
    rw [e3] at g1 g2
    cases hx with
    | head => omega
    | tail _ hx => have := g2 x hx; omega
/-- neighbours -/
def adjN : List Nat → List (Nat × Nat)
  | a :: b :: r => (a, b) :: adjN (b :: r)
  | _ => []
/-- each with what comes next, at last e -/
def endN (e : Nat) : List Nat → List (Nat × Nat)
  | [] => []
  | [a] => [(a, e)]
  | a :: b :: r => (a, b) :: endN e (b :: r)
theorem adj_mem : ∀ {l : List Nat} {q : Nat × Nat}, q ∈ adjN l → q.1 ∈ l ∧ q.2 ∈ l
  | a :: b :: r, q, h => by
    cases h with
    | head => exact ⟨.head _, .tail _ (.head _)⟩
    | tail _ h => exact ⟨.tail _ (adj_mem h).1, .tail _ (adj_mem h).2⟩
  | [_], q, h => by cases h
  | [], q, h => by cases h
theorem end_mem {e : Nat} : ∀ {l : List Nat} {q : Nat × Nat}, q ∈ endN e l → q.1 ∈ l ∧ (q.2 ∈ l ∨ q.2 = e)
  | a :: b :: r, q, h => by
    cases h with
    | head => exact ⟨.head _, .inl (.tail _ (.head _))⟩
    | tail _ h => exact ⟨.tail _ (end_mem h).1, (end_mem h).2.imp (fun z => .tail _ z) id⟩
  | [a], q, h => by
    cases h with
    | head => exact ⟨.head _, .inr rfl⟩
    | tail _ h => cases h
  | [], q, h => by cases h
/-- ascending -/
def ascN (l : List Nat) : Bool := (adjN l).all fun q => decide (q.1 < q.2)
theorem asc_adj {l : List Nat} (h : ascN l = true) {q : Nat × Nat} (hq : q ∈ adjN l) : q.1 < q.2 := by
  unfold ascN at h
  simpa using List.all_eq_true.mp h q hq
theorem asc_end {e : Nat} {l : List Nat} (h : ascN l = true) (he : ∀ a ∈ l, a < e) {q : Nat × Nat} (hq : q ∈ endN e l) : q.1 < q.2 := by
  match l, h, he, hq with
  | a :: b :: r, h, he, hq =>
    cases hq with
    | head => exact asc_adj h (.head _)
    | tail _ hq =>
      refine asc_end (l := b :: r) ?_ (fun x hx => he x (.tail _ hx)) hq
      unfold ascN at h ⊢
      simp only [adjN, List.all_cons, Bool.and_eq_true] at h
      exact h.2
  | [a], h, he, hq =>
    cases hq with
    | head => exact he a (.head _)
    | tail _ h => cases h
  | [], _, _, hq => cases hq
theorem all_bools {α : Type} (p : α → Bool) (l : List α) : bi1 .all (.list (l.map fun x => PyData.bool (p x))) = ret (.bool (l.all p)) := by
  have e : (l.map fun x => PyData.bool (p x)) = (l.map p).map PyData.bool := by rw [List.map_map]; rfl
  rw [e]
  show (match bools? ((l.map p).map PyData.bool) with | some bs => ret (PyData.bool (bs.all id)) | none => stuck) = _
  rw [bools?_map]
  simp [List.all_map]
def fitN (ns : List Int) (w : Int) (l : List Nat) : Bool := (endN ns.length l).all fun q => decide (ext ns q.1 (q.2 - 1) ≤ w)
def barN (ns : List Int) (w : Int) (l : List Nat) : Bool := (adjN l).all fun q => decide (w < ext ns q.1 q.2)
theorem ext_sum {ns : List Int} {a b : Nat} (h : a < b) : ((ns.drop a).take (b - a)).sum + (b : Int) - (a : Int) - 1 = ext ns a (b - 1) := by
  unfold ext
  rw [show b - 1 + 1 - a = b - a by omega]
  omega
end DL
end
section
namespace DL
open PySem
/-- a tuple of few small ints -/
def FewI (d : D) : Prop := ∃ is : List Int, d = .tuple (is.map PyData.int) ∧ is.length ≤ 60 ∧ ∀ x ∈ is, 0 ≤ x ∧ x < 60
theorem FewI.bd {d : D} (h : FewI d) : Bd 0 60 1 d := by
  obtain ⟨is, rfl, h1, h2⟩ := h
  exact (bd_tup (bda_ints fun x hx => by have := h2 x hx; omega)).mono (Nat.le_refl _) h1 (by omega)
end DL
end
section
namespace DL
open PySem
end DL
end
section
namespace DL
open PySem
theorem ext_left {ns : List Int} {i j : Nat} (h : i < j) (hj : j < ns.length) : ext ns i j = ns[i] + 1 + ext ns (i + 1) j := by
  unfold ext
  rw [List.drop_eq_getElem_cons (by omega : i < ns.length), show j + 1 - i = (j - i) + 1 by omega, List.take_succ_cons, List.sum_cons, show j + 1 - (i + 1) = j - i by omega]
  omega
theorem ext_right {ns : List Int} {i j : Nat} (h : i ≤ j) (hj : j + 1 < ns.length) : ext ns i (j + 1) = ext ns i j + 1 + ns[j + 1] := ext_next h (List.getElem?_eq_getElem hj)
section
variable {ns : List Int} {w : Int}
theorem ext_mono_r (hp : ∀ x ∈ ns, 1 ≤ x) {i j : Nat} (h : i ≤ j) : ∀ k : Nat, j ≤ k → k < ns.length → ext ns i j ≤ ext ns i k
  | 0, hk, _ => by rw [show j = 0 by omega]; exact Int.le_refl _
  | k + 1, hk, hl => by
    by_cases e : j = k + 1
    · rw [e]; exact Int.le_refl _
    · have h1 := ext_mono_r hp h k (by omega) (by omega)
      have h2 := ext_right (ns := ns) (i := i) (j := k) (by omega) hl
      have := hp _ (List.getElem_mem hl)
      omega
theorem ext_mono_l (hp : ∀ x ∈ ns, 1 ≤ x) {j : Nat} (hj : j < ns.length) : ∀ (k i : Nat), i + k ≤ j → ext ns (i + k) j ≤ ext ns i j
  | 0, i, _ => Int.le_refl _
  | k + 1, i, h => by
    have h1 := ext_mono_l hp hj k (i + 1) (by omega)
    have h2 := ext_left (ns := ns) (i := i) (j := j) (by omega) hj
    have := hp _ (List.getElem_mem (show i < ns.length by omega))
    rw [show i + (k + 1) = i + 1 + k by omega]
    omega
theorem ext_one {i : Nat} (h : i < ns.length) : ext ns i i = ns[i] := ext_self (List.getElem?_eq_getElem h)
theorem nx_mono (hp : ∀ x ∈ ns, 1 ≤ x) {a b : Nat} (h : a ≤ b) (hb : b < ns.length) : nx ns w a ≤ nx ns w b := by
  obtain ⟨a1, a2, a3, a4⟩ := nx_spec (w := w) (show a < ns.length by omega)
  obtain ⟨b1, b2, b3, b4⟩ := nx_spec (w := w) hb
  by_cases e : nx ns w b = ns.length
  · omega
  · have h1 := b4 (by omega)
    have h2 := ext_mono_l hp (show nx ns w b < ns.length by omega) (b - a) a (by omega)
    rw [show a + (b - a) = b by omega] at h2
    by_cases h3 : nx ns w b < nx ns w a
    · have := a3 (nx ns w b) (by omega) h3
      omega
    · omega
/-- the greedy starts, one after another; behind the last one the row's end -/
def gr (ns : List Int) (w : Int) : Nat → Nat
  | 0 => 0
  | k + 1 => if gr ns w k < ns.length then nx ns w (gr ns w k) else ns.length
theorem gr_step {k : Nat} (h : gr ns w k < ns.length) : gr ns w (k + 1) = nx ns w (gr ns w k) := if_pos h
theorem gr_le : ∀ k, gr ns w k ≤ ns.length
  | 0 => Nat.zero_le _
  | k + 1 => by
    unfold gr
    split
    · exact nx_le _ _ _ ‹_›
    · exact Nat.le_refl _
theorem gr_lt {k : Nat} (h : gr ns w k < ns.length) : gr ns w k < gr ns w (k + 1) := by
  rw [gr_step h]
  exact nx_gt _ _ _
theorem gr_mono : ∀ {k j : Nat}, k ≤ j → gr ns w k ≤ gr ns w j
  | k, 0, h => by rw [show k = 0 by omega]; exact Nat.le_refl _
  | k, j + 1, h => by
    by_cases e : k = j + 1
    · rw [e]; exact Nat.le_refl _
    · refine Nat.le_trans (gr_mono (show k ≤ j by omega)) ?_
      by_cases hl : gr ns w j < ns.length
      · exact Nat.le_of_lt (gr_lt hl)
      · have := gr_le (ns := ns) (w := w) j
        have e2 : gr ns w (j + 1) = ns.length := if_neg hl
        omega
theorem chain_gr : ∀ (l : List Nat) (a k : Nat), Chain ns w (a :: l) → a = gr ns w k → (∀ i b, (a :: l)[i]? = some b → b = gr ns w (k + i) ∧ b < ns.length) ∧ gr ns w (k + l.length + 1) = ns.length
  | [], a, k, h, e => by
    obtain ⟨h1, h2⟩ := h
    refine ⟨fun i b hb => ?_, ?_⟩
    · cases i with
      | zero => cases hb; exact ⟨e, h1⟩
      | succ i => cases hb
    · show gr ns w (k + 1) = _
      rw [gr_step (by rw [← e]; exact h1), ← e, h2]
  | b :: r, a, k, h, e => by
    obtain ⟨h1, h2, h3⟩ := h
    have e2 : b = gr ns w (k + 1) := by rw [gr_step (by rw [← e]; exact h1), ← e, h2]
    obtain ⟨i1, i2⟩ := chain_gr r b (k + 1) h3 e2
    refine ⟨fun i c hc => ?_, ?_⟩
    · cases i with
      | zero => cases hc; exact ⟨e, h1⟩
      | succ i =>
        have := i1 i c hc
        rw [show k + (i + 1) = k + 1 + i by omega]
        exact this
    · rw [List.length_cons, show k + (r.length + 1) + 1 = k + 1 + r.length + 1 by omega]
      exact i2
/-- the number of greedy lines -/
def many (ns : List Int) (w : Int) : Nat := (starts ns w).length
theorem many_pos : 1 ≤ many ns w := by unfold many starts; simp
theorem starts_at {i b : Nat} (h1 : 0 < ns.length) (h : (starts ns w)[i]? = some b) : b = gr ns w i ∧ b < ns.length := by
  have := (chain_gr (restF ns w ns.length (nx ns w 0)) 0 0 (starts_chain w h1) rfl).1 i b h
  rwa [Nat.zero_add] at this
theorem gr_end (h1 : 0 < ns.length) : gr ns w (many ns w) = ns.length := by
  have := (chain_gr (restF ns w ns.length (nx ns w 0)) 0 0 (starts_chain w h1) rfl).2
  rw [Nat.zero_add] at this
  exact this
theorem gr_in (h1 : 0 < ns.length) {k : Nat} (hk : k < many ns w) : gr ns w k < ns.length := by
  have := (starts_at h1 (List.getElem?_eq_getElem (l := starts ns w) hk)).1
  have h2 := (starts_at h1 (List.getElem?_eq_getElem (l := starts ns w) hk)).2
  omega
theorem gr_in_iff (h1 : 0 < ns.length) {k : Nat} : gr ns w k < ns.length ↔ k < many ns w := by
  refine ⟨fun h => ?_, gr_in h1⟩
  by_cases e : k < many ns w
  · exact e
  · have := gr_mono (ns := ns) (w := w) (show many ns w ≤ k by omega)
    rw [gr_end h1] at this
    omega
theorem adj_at : ∀ {l : List Nat} {k a b : Nat}, l[k]? = some a → l[k + 1]? = some b → (a, b) ∈ adjN l
  | x :: y :: r, 0, a, b, h1, h2 => by cases h1; cases h2; exact .head _
  | x :: y :: r, k + 1, a, b, h1, h2 => .tail _ (adj_at (l := y :: r) (k := k) h1 h2)
  | [x], k, a, b, h1, h2 => by simp at h2
  | [], k, a, b, h1, h2 => by simp at h1
theorem end_at {e : Nat} : ∀ {l : List Nat} {k a b : Nat}, l[k]? = some a → l[k + 1]? = some b → (a, b) ∈ endN e l
  | x :: y :: r, 0, a, b, h1, h2 => by cases h1; cases h2; exact .head _
  | x :: y :: r, k + 1, a, b, h1, h2 => .tail _ (end_at (l := y :: r) (k := k) h1 h2)
  | [x], k, a, b, h1, h2 => by simp at h2
  | [], k, a, b, h1, h2 => by simp at h1
theorem end_last {e : Nat} : ∀ {l : List Nat} {k a : Nat}, l[k]? = some a → k + 1 = l.length → (a, e) ∈ endN e l
  | [x], k, a, h1, h2 => by
    have : k = 0 := by simpa using h2
    subst this
    cases h1
    exact .head _
  | x :: y :: r, 0, a, h1, h2 => by simp at h2
  | x :: y :: r, k + 1, a, h1, h2 => .tail _ (end_last (l := y :: r) (k := k) h1 (by simpa using h2))
  | [], k, a, h1, h2 => by simp at h1
theorem adj_ix : ∀ {l : List Nat} {q : Nat × Nat}, q ∈ adjN l → ∃ k, l[k]? = some q.1 ∧ l[k + 1]? = some q.2
  | a :: b :: r, q, h => by
    cases h with
    | head => exact ⟨0, rfl, rfl⟩
    | tail _ h => obtain ⟨k, h1, h2⟩ := adj_ix h; exact ⟨k + 1, h1, h2⟩
  | [_], q, h => by cases h
  | [], q, h => by cases h
theorem end_ix {e : Nat} : ∀ {l : List Nat} {q : Nat × Nat}, q ∈ endN e l → ∃ k, l[k]? = some q.1 ∧ (l[k + 1]? = some q.2 ∨ (k + 1 = l.length ∧ q.2 = e))
  | a :: b :: r, q, h => by
    cases h with
    | head => exact ⟨0, rfl, .inl rfl⟩
    | tail _ h =>
      obtain ⟨k, h1, h2⟩ := end_ix h
      exact ⟨k + 1, h1, h2.imp id fun z => ⟨by simpa using z.1, z.2⟩⟩
  | [a], q, h => by
    cases h with
    | head => exact ⟨0, rfl, .inr ⟨rfl, rfl⟩⟩
    | tail _ h => cases h
  | [], q, h => by cases h
/-- a breaking: starts from 0 on, ascending, lines that fit -/
structure Brk (ns : List Int) (w : Int) (l : List Nat) : Prop where
  ne : l ≠ []
  zero : l[0]? = some 0
  asc : ascN l = true
  lt : ∀ a ∈ l, a < ns.length
  fit : fitN ns w l = true
theorem Brk.fits {l : List Nat} (h : Brk ns w l) {q : Nat × Nat} (hq : q ∈ endN ns.length l) : q.1 < q.2 ∧ q.2 ≤ ns.length ∧ ext ns q.1 (q.2 - 1) ≤ w := by
  have h1 := asc_end h.asc h.lt hq
  refine ⟨h1, ?_, ?_⟩
  · rcases (end_mem hq).2 with z | z
    · exact Nat.le_of_lt (h.lt _ z)
    · omega
  · have := h.fit
    unfold fitN at this
    simpa using List.all_eq_true.mp this q hq
theorem Brk.len {l : List Nat} (h : Brk ns w l) : 1 ≤ l.length := List.length_pos_iff.mpr h.ne
/-- no start is later than the greedy one -/
theorem Brk.le (hp : ∀ x ∈ ns, 1 ≤ x) {l : List Nat} (h : Brk ns w l) : ∀ (k a : Nat), l[k]? = some a → a ≤ gr ns w k
  | 0, a, ha => by
    rw [h.zero] at ha
    cases ha
    exact Nat.zero_le _
  | k + 1, a, ha => by
    have hk : k < l.length := by have := (List.getElem?_eq_some_iff.mp ha).1; omega
    have hb := List.getElem?_eq_getElem hk
    have ih := Brk.le hp h k _ hb
    obtain ⟨f1, f2, f3⟩ := h.fits (end_at hb ha)
    have lt := h.lt _ (List.mem_of_getElem? ha)
    have ltb := h.lt _ (List.getElem_mem hk)
    obtain ⟨n1, n2, n3, n4⟩ := nx_spec (w := w) ltb
    have step : a ≤ nx ns w l[k] := by
      by_cases e : a ≤ nx ns w l[k]
      · exact e
      · have h4 := n4 (by omega)
        have h5 := ext_mono_r hp (i := l[k]) (j := nx ns w l[k]) (by omega) (a - 1) (by omega) (by omega)
        simp only at f3
        omega
    by_cases hg : gr ns w k < ns.length
    · rw [gr_step hg]
      exact Nat.le_trans step (nx_mono hp ih hg)
    · have e2 : gr ns w (k + 1) = ns.length := if_neg hg
      omega
/-- no breaking has fewer lines -/
theorem Brk.many (hp : ∀ x ∈ ns, 1 ≤ x) (h1 : 0 < ns.length) {l : List Nat} (h : Brk ns w l) : DL.many ns w ≤ l.length := by
  have hl := h.len
  have hk : l.length - 1 < l.length := by omega
  have hb := List.getElem?_eq_getElem hk
  have le := h.le hp _ _ hb
  obtain ⟨f1, f2, f3⟩ := h.fits (end_last hb (by omega))
  have ltb := h.lt _ (List.getElem_mem hk)
  by_cases e : DL.many ns w ≤ l.length
  · exact e
  · have hg := gr_in (w := w) h1 (k := l.length) (by omega)
    have hg0 : gr ns w (l.length - 1) < ns.length := gr_in h1 (show l.length - 1 < DL.many ns w by omega)
    have st := gr_step hg0
    rw [show l.length - 1 + 1 = l.length by omega] at st
    have mono := nx_mono (w := w) hp le hg0
    obtain ⟨n1, n2, n3, n4⟩ := nx_spec (w := w) ltb
    have h4 := n4 (by omega)
    have h5 := ext_mono_r hp (i := l[l.length - 1]) (j := nx ns w l[l.length - 1]) (by omega) (ns.length - 1) (by omega) (by omega)
    simp only at f3
    omega
/-- the greedy starts are a breaking of a row that fits -/
theorem brk_starts (h1 : 0 < ns.length) (hw : ∀ x ∈ ns, x ≤ w) : Brk ns w (starts ns w) := by
  have at_ : ∀ {i b}, (starts ns w)[i]? = some b → b = gr ns w i ∧ b < ns.length := fun h => DL.starts_at h1 h
  refine ⟨by unfold starts; simp, rfl, ?_, fun a ha => starts_lt h1 a ha, ?_⟩
  · unfold ascN
    refine List.all_eq_true.mpr fun q hq => ?_
    obtain ⟨k, h2, h3⟩ := adj_ix hq
    obtain ⟨e1, l1⟩ := at_ h2
    obtain ⟨e2, l2⟩ := at_ h3
    have := gr_lt (ns := ns) (w := w) (k := k) (by omega)
    simp
    omega
  · unfold fitN
    refine List.all_eq_true.mpr fun q hq => ?_
    obtain ⟨k, h2, h3⟩ := end_ix hq
    obtain ⟨e1, l1⟩ := at_ h2
    have nxe : q.2 = nx ns w q.1 := by
      rw [e1, ← gr_step (by omega)]
      rcases h3 with h3 | ⟨h3, h4⟩
      · exact (at_ h3).1
      · rw [h4, h3]
        exact (gr_end h1).symm
    obtain ⟨n1, n2, n3, n4⟩ := nx_spec (w := w) l1
    simp only [decide_eq_true_eq]
    rw [nxe]
    by_cases e : nx ns w q.1 - 1 = q.1
    · rw [e, ext_one l1]
      exact hw _ (List.getElem_mem l1)
    · exact n3 _ (by omega) (by omega)
/-- bars: ascending places, two neighbours of which do not fit one line -/
structure Bar (ns : List Int) (w : Int) (l : List Nat) : Prop where
  ne : l ≠ []
  asc : ascN l = true
  lt : ∀ a ∈ l, a < ns.length
  far : barN ns w l = true
theorem Bar.fars {l : List Nat} (h : Bar ns w l) {q : Nat × Nat} (hq : q ∈ adjN l) : q.1 < q.2 ∧ q.2 < ns.length ∧ w < ext ns q.1 q.2 := by
  refine ⟨asc_adj h.asc hq, h.lt _ (adj_mem hq).2, ?_⟩
  have := h.far
  unfold barN at this
  simpa using List.all_eq_true.mp this q hq
theorem Bar.ge (hp : ∀ x ∈ ns, 1 ≤ x) {l : List Nat} (h : Bar ns w l) : ∀ (k a : Nat), l[k]? = some a → gr ns w k ≤ a
  | 0, a, ha => Nat.zero_le _
  | k + 1, a, ha => by
    have hk : k < l.length := by have := (List.getElem?_eq_some_iff.mp ha).1; omega
    have hb := List.getElem?_eq_getElem hk
    have ih := Bar.ge hp h k _ hb
    obtain ⟨f1, f2, f3⟩ := h.fars (adj_at hb ha)
    simp only at f1 f2 f3
    have ltb := h.lt _ (List.getElem_mem hk)
    have hg : gr ns w k < ns.length := by omega
    rw [gr_step hg]
    refine Nat.le_trans (nx_mono hp ih ltb) ?_
    obtain ⟨n1, n2, n3, n4⟩ := nx_spec (w := w) ltb
    by_cases e : nx ns w l[k] ≤ a
    · exact e
    · have := n3 a f1 (by omega)
      omega
/-- no bars have more items than there are greedy lines -/
theorem Bar.many (hp : ∀ x ∈ ns, 1 ≤ x) (h1 : 0 < ns.length) {l : List Nat} (h : Bar ns w l) : l.length ≤ DL.many ns w := by
  have hl : 1 ≤ l.length := List.length_pos_iff.mpr h.ne
  have hk : l.length - 1 < l.length := by omega
  have := h.ge hp _ _ (List.getElem?_eq_getElem hk)
  have lt := h.lt _ (List.getElem_mem hk)
  have := (gr_in_iff (w := w) h1 (k := l.length - 1)).mp (by omega)
  omega
theorem bar_starts (h1 : 0 < ns.length) : Bar ns w (starts ns w) := by
  have at_ : ∀ {i b}, (starts ns w)[i]? = some b → b = gr ns w i ∧ b < ns.length := fun h => DL.starts_at h1 h
  refine ⟨by unfold starts; simp, ?_, fun a ha => starts_lt h1 a ha, ?_⟩
  · unfold ascN
    refine List.all_eq_true.mpr fun q hq => ?_
    obtain ⟨k, h2, h3⟩ := adj_ix hq
    obtain ⟨e1, l1⟩ := at_ h2
    obtain ⟨e2, l2⟩ := at_ h3
    have := gr_lt (ns := ns) (w := w) (k := k) (by omega)
    simp
    omega
  · unfold barN
    refine List.all_eq_true.mpr fun q hq => ?_
    obtain ⟨k, h2, h3⟩ := adj_ix hq
    obtain ⟨e1, l1⟩ := at_ h2
    obtain ⟨e2, l2⟩ := at_ h3
    obtain ⟨n1, n2, n3, n4⟩ := nx_spec (w := w) l1
    have e3 : q.2 = nx ns w q.1 := by rw [e1, ← gr_step (by omega)]; exact e2
    simp only [decide_eq_true_eq]
    rw [e3]
    exact n4 (by omega)
end
end DL
end
section
namespace DL
open PySem
theorem ne_bools (a : Bool) : opCmp .ne (.bool a) (.bool a) = ret false := by
  show bnd (opEq _ _) _ = _
  unfold opEq
  rw [grd_pos (eqOk_of rfl rfl)]
  cases a <;> rfl
section
variable {ns : List Int} {w : Int}
theorem asc_of {l : List Nat} (h : ∀ (k a b : Nat), l[k]? = some a → l[k + 1]? = some b → a < b) : ascN l = true := by
  unfold ascN
  refine List.all_eq_true.mpr fun q hq => ?_
  obtain ⟨k, h2, h3⟩ := adj_ix hq
  exact decide_eq_true (h k _ _ h2 h3)
theorem Brk.of {l : List Nat} (h0 : l[0]? = some 0) (hl : ∀ a ∈ l, a < ns.length) (h : ∀ (k a b : Nat), l[k]? = some a → (l[k + 1]? = some b ∨ (k + 1 = l.length ∧ b = ns.length)) → a < b ∧ ext ns a (b - 1) ≤ w) : Brk ns w l := by
  refine ⟨(fun z => by rw [z] at h0; cases h0), h0, asc_of fun k a b h1 h2 => (h k a b h1 (.inl h2)).1, hl, ?_⟩
  unfold fitN
  refine List.all_eq_true.mpr fun q hq => ?_
  obtain ⟨k, h2, h3⟩ := end_ix hq
  exact decide_eq_true (h k _ _ h2 h3).2
theorem Bar.of {l : List Nat} (h0 : l ≠ []) (hl : ∀ a ∈ l, a < ns.length) (h : ∀ (k a b : Nat), l[k]? = some a → l[k + 1]? = some b → a < b ∧ w < ext ns a b) : Bar ns w l := by
  refine ⟨h0, asc_of fun k a b h1 h2 => (h k a b h1 h2).1, hl, ?_⟩
  unfold barN
  refine List.all_eq_true.mpr fun q hq => ?_
  obtain ⟨k, h2, h3⟩ := adj_ix hq
  exact decide_eq_true (h k _ _ h2 h3).2
theorem Bar.step {l : List Nat} (h : Bar ns w l) {k a b : Nat} (h1 : l[k]? = some a) (h2 : l[k + 1]? = some b) : a < b ∧ b < ns.length ∧ w < ext ns a b := h.fars (adj_at h1 h2)
/-- bars with one place left out are bars -/
theorem Bar.less (hp : ∀ x ∈ ns, 1 ≤ x) {l : List Nat} (h : Bar ns w l) (h2 : 1 < l.length) (r : Nat) (hr : r < l.length) : Bar ns w (l.take r ++ l.drop (r + 1)) := by
  have len : (l.take r ++ l.drop (r + 1)).length = l.length - 1 := by
    rw [List.length_append, List.length_take, List.length_drop]; omega
  have at_ : ∀ k, (l.take r ++ l.drop (r + 1))[k]? = if k < r then l[k]? else l[k + 1]? := fun k => by
    by_cases hk : k < r
    · rw [if_pos hk, List.getElem?_append_left (by rw [List.length_take]; omega), List.getElem?_take, if_pos hk]
    · rw [if_neg hk, List.getElem?_append_right (by rw [List.length_take]; omega), List.getElem?_drop, List.length_take]
      congr 1
      omega
  refine .of (fun z => by rw [z] at len; simp at len; omega) (fun a ha => ?_) fun k a b h3 h4 => ?_
  · rcases List.mem_append.mp ha with z | z
    · exact h.lt a (List.mem_of_mem_take z)
    · exact h.lt a (List.mem_of_mem_drop z)
  · rw [at_] at h3 h4
    by_cases c1 : k + 1 < r
    · rw [if_pos (by omega)] at h3
      rw [if_pos c1] at h4
      have := h.step h3 h4
      exact ⟨this.1, this.2.2⟩
    · rw [if_neg c1] at h4
      by_cases c2 : k < r
      · rw [if_pos c2] at h3
        have hm : k + 1 < l.length := by omega
        have s1 := h.step h3 (List.getElem?_eq_getElem hm)
        have s2 := h.step (List.getElem?_eq_getElem hm) h4
        have := ext_mono_r hp (i := a) (j := l[k + 1]) (by omega) b (by omega) s2.2.1
        exact ⟨by omega, by omega⟩
      · rw [if_neg c2] at h3
        have := h.step h3 h4
        exact ⟨this.1, this.2.2⟩
end
theorem comp_filtE {it : XA} {tg : Tg} {t : XT} {e : XE} {vs : List Nat} {E : Env} {ds : List D} {p : D → Bool} {f : D → D} (hit : it E = ret ds) (hl : ds.length ≤ 1000000)
    (hs : ∀ d ∈ ds, ∃ E1, tg.put d (wipeE E vs) = some E1 ∧ t E1 = ret (p d) ∧ (p d = true → e E1 = ret (f d))) : eComp it tg t e vs E = ret (.list ((ds.filter p).map f)) := by
  rw [x_comp, hit, bnd_ret, comp_filt p f ds [] (by simp only [List.length_nil]; omega) hs, noX_ret, bnd_ret, List.nil_append]
theorem long_all {ns : List Int} {w : Int} (h : Long ns w none) : ∀ x ∈ ns, x ≤ w := fun x hx => by
  cases h with
  | no h =>
    obtain ⟨j, hj, e⟩ := List.getElem_of_mem hx
    exact h j x (by rw [List.getElem?_eq_getElem hj, e])
end DL
end
section
namespace DL
open PySem
section
variable {as bs : List Int} {w : Int}
theorem Brk.last {ns : List Int} {l : List Nat} (h : Brk ns w l) {k a : Nat} (h1 : l[k]? = some a) (h2 : k + 1 = l.length) : a < ns.length ∧ ext ns a (ns.length - 1) ≤ w := by
  have := h.fits (end_last h1 h2)
  exact ⟨this.1, this.2.2⟩
theorem Brk.mid {ns : List Int} {l : List Nat} (h : Brk ns w l) {k a b : Nat} (h1 : l[k]? = some a) (h2 : l[k + 1]? = some b) : a < b ∧ b < ns.length ∧ ext ns a (b - 1) ≤ w := by
  have := h.fits (end_at h1 h2)
  exact ⟨this.1, h.lt b (List.mem_of_getElem? h2), this.2.2⟩
theorem nx_uniq {ns : List Int} (hp : ∀ x ∈ ns, 1 ≤ x) {a b : Nat} (h : a < b) (hb : b ≤ ns.length) (h1 : b = a + 1 ∨ ext ns a (b - 1) ≤ w) (h2 : b < ns.length → w < ext ns a b) : nx ns w a = b := by
  obtain ⟨n1, n2, n3, n4⟩ := nx_spec (w := w) (show a < ns.length by omega)
  by_cases c : nx ns w a < b
  · have e1 := n4 (by omega)
    have e2 := ext_mono_r hp (i := a) (j := nx ns w a) (by omega) (b - 1) (by omega) (by omega)
    rcases h1 with h1 | h1
    · omega
    · omega
  · by_cases c2 : b < nx ns w a
    · have := n3 b h c2
      have := h2 (by omega)
      omega
    · omega
end
end DL
end
section
namespace DL
open PySem
end DL
end
section
namespace DL
open PySem
section
variable {w : Int}
variable {ns : List Int}
theorem alone_line (hp : ∀ x ∈ ns, 1 ≤ x) (hw : ∀ x ∈ ns, x ≤ w) (h1 : 0 < ns.length) : many ns w = 1 ↔ ext ns 0 (ns.length - 1) ≤ w := by
  have e1 : gr ns w 1 = nx ns w 0 := gr_step (k := 0) h1
  have m1 := many_pos (ns := ns) (w := w)
  obtain ⟨n1, n2, n3, n4⟩ := nx_spec (w := w) h1
  constructor
  · intro h
    have := gr_end (w := w) h1
    rw [h, e1] at this
    by_cases c : ns.length = 1
    · have := ext_one h1
      rw [show ns.length - 1 = 0 by omega, this]
      exact hw _ (List.getElem_mem h1)
    · exact n3 _ (by omega) (by omega)
  · intro h
    have := nx_uniq (w := w) hp h1 (Nat.le_refl _) (.inr h) (fun z => absurd z (Nat.lt_irrefl _))
    have g := gr_in_iff (w := w) h1 (k := 1)
    omega
end
end DL
end
section
namespace DL
open PySem
/-- the first starts of a breaking -/
structure Pre (ns : List Int) (w : Int) (l : List Nat) : Prop where
  ne : l ≠ []
  zero : l[0]? = some 0
  lt : ∀ a ∈ l, a < ns.length
  len : ∀ (k a : Nat), l[k]? = some a → k ≤ a
  fit : ∀ (k a b : Nat), l[k]? = some a → l[k + 1]? = some b → a < b ∧ ext ns a (b - 1) ≤ w
section
variable {ns : List Int} {w : Int}
theorem Pre.push {l : List Nat} {a e : Nat} (h : Pre ns w (l ++ [a])) (h1 : a < e) (h2 : e < ns.length) (h3 : ext ns a (e - 1) ≤ w) : Pre ns w (l ++ [a] ++ [e]) := by
  have ha : (l ++ [a])[l.length]? = some a := by simp
  have hl := h.len _ _ ha
  refine ⟨by simp, ?_, ?_, ?_, ?_⟩
  · rw [List.getElem?_append_left (by simp)]; exact h.zero
  · intro x hx
    rcases List.mem_append.mp hx with z | z
    · exact h.lt x z
    · rw [List.mem_singleton] at z; omega
  · intro k x hx
    by_cases c : k < (l ++ [a]).length
    · rw [List.getElem?_append_left c] at hx; exact h.len _ _ hx
    · have hk := (List.getElem?_eq_some_iff.mp hx).1
      rw [List.length_append, List.length_singleton] at hk
      have : k = (l ++ [a]).length := by omega
      subst this
      simp at hx
      simp
      omega
  · intro k x y hx hy
    by_cases c : k + 1 < (l ++ [a]).length
    · rw [List.getElem?_append_left (by omega)] at hx
      rw [List.getElem?_append_left c] at hy
      exact h.fit _ _ _ hx hy
    · have hk := (List.getElem?_eq_some_iff.mp hy).1
      rw [List.length_append, List.length_singleton] at hk
      have e1 : k + 1 = (l ++ [a]).length := by omega
      rw [List.getElem?_append_left (by omega)] at hx
      have e2 : k = l.length := by rw [List.length_append, List.length_singleton] at e1; omega
      subst e2
      rw [ha] at hx
      rw [e1] at hy
      simp at hy
      cases hx
      subst hy
      exact ⟨h1, h3⟩
theorem Pre.brk {l : List Nat} {a : Nat} (h : Pre ns w (l ++ [a])) (h3 : ext ns a (ns.length - 1) ≤ w) : Brk ns w (l ++ [a]) := by
  have ha : (l ++ [a])[l.length]? = some a := by simp
  refine .of h.zero h.lt fun k x y hx hy => ?_
  rcases hy with hy | ⟨hy, rfl⟩
  · exact h.fit _ _ _ hx hy
  · rw [List.length_append, List.length_singleton] at hy
    have : k = l.length := by omega
    subst this
    rw [ha] at hx
    cases hx
    exact ⟨h.lt a (by simp), h3⟩
end
end DL
end
section
namespace DL
open PySem
section
variable {ns : List Int} {w : Int}
theorem Brk.wide {v : Int} {l : List Nat} (h : Brk ns w l) (hv : w ≤ v) : Brk ns v l := by
  refine .of h.zero h.lt fun k a b h1 h2 => ?_
  rcases h2 with h2 | ⟨h2, rfl⟩
  · have := h.mid h1 h2
    exact ⟨this.1, by omega⟩
  · have := h.last h1 h2
    exact ⟨this.1, by omega⟩
theorem Brk.ixs {l : List Nat} (h : Brk ns w l) : ∀ (k a : Nat), l[k]? = some a → k ≤ a
  | 0, _, _ => Nat.zero_le _
  | k + 1, b, hb => by
    have hk := (List.getElem?_eq_some_iff.mp hb).1
    have ha := List.getElem?_eq_getElem (l := l) (show k < l.length by omega)
    have := h.ixs k _ ha
    have := h.mid ha hb
    omega
theorem Brk.few {l : List Nat} (h : Brk ns w l) : l.length ≤ ns.length := by
  have l0 := h.len
  have ha := List.getElem?_eq_getElem (l := l) (show l.length - 1 < l.length by omega)
  have := h.ixs _ _ ha
  have := h.lt _ (List.mem_of_getElem? ha)
  omega
end
end DL
end
section
namespace DL
open PySem
theorem book_ix {ns : List Int} : ∀ (f : Nat) (w : Int) (k : Nat) (p q : Int × List Nat), (bookF ns f w)[k]? = some p → (bookF ns f w)[k + 1]? = some q → p.2 = starts ns p.1 ∧ nextW ns p.2 = some q.1 ∧ q.2 = starts ns q.1
  | 0, _, _, _, _, h, _ => by simp [bookF] at h
  | f + 1, w, k, p, q, h1, h2 => by
    unfold bookF at h1 h2
    rw [List.getElem?_cons_succ] at h2
    cases hw : nextW ns (starts ns w) with
    | none => rw [hw] at h2; simp at h2
    | some v =>
      rw [hw] at h1 h2
      cases k with
      | zero =>
        cases h1
        cases f with
        | zero => simp [bookF] at h2
        | succ f =>
          have : (bookF ns (f + 1) v)[0]? = some (v, starts ns v) := rfl
          rw [this] at h2
          cases h2
          exact ⟨rfl, hw, rfl⟩
      | succ k =>
        rw [List.getElem?_cons_succ] at h1
        exact book_ix f v k p q h1 h2
theorem book_low {ns : List Int} : ∀ (f : Nat) (w : Int), 0 < ns.length → ∀ p ∈ bookF ns f w, w ≤ p.1
  | 0, _, _, p, h => by cases h
  | f + 1, w, h1, p, h => by
    unfold bookF at h
    cases hw : nextW ns (starts ns w) with
    | none =>
      rw [hw] at h
      rw [List.mem_singleton] at h
      subst h
      exact Int.le_refl _
    | some v =>
      rw [hw] at h
      rcases List.mem_cons.mp h with rfl | h
      · exact Int.le_refl _
      · have := book_low f v h1 p h
        have := chain_gt (starts_chain w h1) v (nextW_some hw).1
        omega
theorem scan_ix {β : Type} [DecidableEq β] {S : Int → β} {m : Int} : ∀ (n k : Nat) (p q : Int × β), (scanA S m n)[k]? = some p → (scanA S m n)[k + 1]? = some q → p.1 < q.1 ∧ p.2 ≠ q.2
  | 0, _, _, _, h, _ => by simp [scanA] at h
  | n + 1, k, p, q, h1, h2 => by
    have e : scanA S m (n + 1) = push (scanA S m n) (m + n, S (m + n)) := rfl
    rw [e] at h1 h2
    unfold push at h1 h2
    cases hl : (scanA S m n).getLast? with
    | none =>
      rw [hl] at h2
      have : scanA S m n = [] := List.getLast?_eq_none_iff.mp hl
      rw [this] at h2
      simp at h2
    | some z =>
      rw [hl] at h1 h2
      simp only at h1 h2
      by_cases c : z.2 = S (m + n)
      · rw [if_pos c] at h1 h2
        exact scan_ix n k p q h1 h2
      · rw [if_neg c] at h1 h2
        by_cases c2 : k + 1 < (scanA S m n).length
        · rw [List.getElem?_append_left (by omega)] at h1
          rw [List.getElem?_append_left c2] at h2
          exact scan_ix n k p q h1 h2
        · have hk := (List.getElem?_eq_some_iff.mp h2).1
          rw [List.length_append, List.length_singleton] at hk
          have e2 : k + 1 = (scanA S m n).length := by omega
          rw [List.getElem?_append_left (by omega)] at h1
          rw [e2] at h2
          simp at h2
          have e3 : (scanA S m n).getLast? = some p := by
            rw [List.getLast?_eq_getElem?, ← e2, Nat.add_sub_cancel]
            exact h1
          rw [hl] at e3
          cases e3
          have := scanA_mem (List.mem_of_getElem? h1)
          subst h2
          exact ⟨this.2.2, c⟩
theorem many_mono {ns : List Int} {v w : Int} (hp : ∀ x ∈ ns, 1 ≤ x) (h1 : 0 < ns.length) (hv : ∀ x ∈ ns, x ≤ v) (h : v ≤ w) : many ns w ≤ many ns v := ((brk_starts h1 hv).wide h).many hp h1
section
variable {ns : List Int} {m : Int}
/-- two items of a book, one behind the other -/
theorem book_two (hp : ∀ x ∈ ns, 1 ≤ x) (h1 : 0 < ns.length) (hm : ∀ x ∈ ns, x ≤ m) (hs : m ≤ ns.sum) {k : Nat} {p q : Int × List Nat} (hk : (bookN ns m)[k]? = some p) (hk2 : (bookN ns m)[k + 1]? = some q) :
    p.2 = starts ns p.1 ∧ q.2 = starts ns q.1 ∧ nextW ns p.2 = some q.1 ∧ q.2.length ≤ p.2.length ∧ ∀ i a b : Nat, q.2[i]? = some a → p.2[i]? = some b → b ≤ a := by
  have n0 : ∀ x ∈ ns, 0 ≤ x := fun x hx => by have := hp x hx; omega
  have e : bookN ns m = bookF ns (ns.sum + ns.length + 2 - m).toNat m := book_all (B := ns.sum + ns.length - 1) h1 n0 (Int.le_refl _) (by omega) (by omega) (by omega) (by omega)
  have lo := book_low (ns := ns) (ns.sum + ns.length + 2 - m).toNat m h1 p (by rw [← e]; exact List.mem_of_getElem? hk)
  rw [e] at hk hk2
  obtain ⟨e1, e2, e3⟩ := book_ix _ _ k p q hk hk2
  have lt : p.1 < q.1 := by
    rw [e1] at e2
    exact chain_gt (starts_chain p.1 h1) q.1 (nextW_some e2).1
  have hv : ∀ x ∈ ns, x ≤ p.1 := fun x hx => Int.le_trans (hm x hx) lo
  refine ⟨e1, e3, e2, ?_, fun i a b ha hb => ?_⟩
  · rw [e1, e3]
    exact many_mono hp h1 hv (by omega)
  · rw [e3] at ha
    rw [e1] at hb
    rw [(DL.starts_at h1 ha).1]
    exact ((brk_starts h1 hv).wide (by omega)).le hp i b hb
end
end DL
end
section
namespace DL
open PySem
def isI (i : Int) : D → Bool
  | .int v => decide (v = i)
  | _ => false
end DL
end
section
namespace DL
open PySem
theorem scan_asc {β : Type} [DecidableEq β] {S : Int → β} {m : Int} : ∀ n : Nat, ((scanA S m n).map (fun p => p.1)).Pairwise (· < ·)
  | 0 => .nil
  | n + 1 => by
    have ih := scan_asc (S := S) (m := m) n
    have e : scanA S m (n + 1) = push (scanA S m n) (m + n, S (m + n)) := rfl
    have app : ((scanA S m n ++ [(m + (n : Int), S (m + n))]).map (fun p => p.1)).Pairwise (· < ·) := by
      rw [List.map_append, List.pairwise_append]
      refine ⟨ih, by simp, fun x hx y hy => ?_⟩
      obtain ⟨p, hp, rfl⟩ := List.mem_map.mp hx
      simp at hy
      subst hy
      exact (scanA_mem hp).2.2
    rw [e]
    unfold push
    split
    · exact app
    · split
      · exact ih
      · exact app
section
variable {ns : List Int} {m : Int} {c k : Nat}
theorem Least.iff (h : Least ns m c k) (hp : ∀ x ∈ ns, 1 ≤ x) (h1 : 0 < ns.length) (hm : ∀ x ∈ ns, x ≤ m) {v : Int} (hv : m ≤ v) : many ns v ≤ c ↔ m + k ≤ v := by
  constructor
  · intro hc
    by_cases g : m + (k : Int) ≤ v
    · exact g
    · have := h.first (v - m).toNat (by omega)
      rw [show m + ((v - m).toNat : Int) = v by omega] at this
      unfold many at hc
      omega
  · intro g
    have a := many_mono (v := m + k) hp h1 (fun x hx => by have := hm x hx; omega) g
    have b := h.fits
    unfold many at *
    omega
theorem Least.zero (h : Least ns m c k) (hp : ∀ x ∈ ns, 1 ≤ x) (h1 : 0 < ns.length) (hm : ∀ x ∈ ns, x ≤ m) (hc : ns.length ≤ c) : k = 0 := by
  have := (brk_starts (w := m) h1 hm).few
  have := (h.iff hp h1 hm (v := m) (Int.le_refl _)).mp (by unfold many; omega)
  omega
theorem Least.one (h : Least ns m 1 k) (hp : ∀ x ∈ ns, 1 ≤ x) (h1 : 0 < ns.length) (hm : ∀ x ∈ ns, x ≤ m) (hin : m ∈ ns) : m + k = ext ns 0 (ns.length - 1) := by
  have al : ∀ v, m ≤ v → (many ns v ≤ 1 ↔ ext ns 0 (ns.length - 1) ≤ v) := fun v hv => by
    rw [← alone_line hp (fun x hx => Int.le_trans (hm x hx) hv) h1]
    have := many_pos (ns := ns) (w := v)
    omega
  have a := (al (m + k) (by omega)).mp ((h.iff hp h1 hm (by omega)).mpr (Int.le_refl _))
  obtain ⟨i, hi, e⟩ := List.getElem_of_mem hin
  have e1 := ext_one hi
  have e2 := ext_mono_r hp (i := i) (j := i) (Nat.le_refl _) (ns.length - 1) (by omega) (by omega)
  have e3 := ext_mono_l hp (j := ns.length - 1) (by omega) i 0 (by omega)
  rw [Nat.zero_add] at e3
  have b := (h.iff hp h1 hm (v := ext ns 0 (ns.length - 1)) (by omega)).mp ((al _ (by omega)).mpr (Int.le_refl _))
  omega
theorem Bar.take {w : Int} {l : List Nat} (h : Bar ns w l) {j : Nat} (hj : 1 ≤ j) : Bar ns w (l.take j) := by
  refine .of (fun z => ?_) (fun a ha => h.lt a (List.mem_of_mem_take ha)) fun i a b ha hb => ?_
  · have := congrArg List.length z
    rw [List.length_take, List.length_nil] at this
    have := List.length_pos_iff.mpr h.ne
    omega
  · rw [List.getElem?_take] at ha hb
    split at ha
    · split at hb
      · have := h.step ha hb
        exact ⟨this.1, this.2.2⟩
      · cases hb
    · cases ha
end
end DL
end
section
namespace DL
open PySem
def highD (B : List (Int × List Nat)) (k : Nat) : D := match B[k + 1]? with
  | none => .none
  | some q => .int (q.1 - 1)
theorem ix_lt {l : List Int} (h : l.Pairwise (· < ·)) {i j : Nat} {a b : Int} (hij : i < j) (ha : l[i]? = some a) (hb : l[j]? = some b) : a < b := by
  obtain ⟨h1, e1⟩ := List.getElem?_eq_some_iff.mp ha
  obtain ⟨h2, e2⟩ := List.getElem?_eq_some_iff.mp hb
  have := List.pairwise_iff_getElem.mp h i j h1 h2 hij
  omega
section
variable {ns : List Int} {m : Int}
theorem book_lt {i j : Nat} {p q : Int × List Nat} (hij : i < j) (hp : (bookN ns m)[i]? = some p) (hq : (bookN ns m)[j]? = some q) : p.1 < q.1 := by
  refine ix_lt (scan_asc (S := starts ns) (m := m) (ns.sum + ns.length + 2 - m).toNat) hij ?_ ?_
  · show ((bookN ns m).map fun p => p.1)[i]? = _
    rw [List.getElem?_map, hp]; rfl
  · show ((bookN ns m).map fun p => p.1)[j]? = _
    rw [List.getElem?_map, hq]; rfl
/-- the item of the book that a width belongs to -/
theorem book_span (h1 : 0 < ns.length) (hn : ∀ x ∈ ns, 0 ≤ x) (hm : m ≤ ns.sum) {k : Nat} {p : Int × List Nat} (hk : (bookN ns m)[k]? = some p) {w : Int} (hw : p.1 ≤ w) (hw2 : ∀ q, (bookN ns m)[k + 1]? = some q → w < q.1) :
    p.2 = starts ns w ∧ ∃ P R, Span ns m w P p.1 R ∧ spanD p.1 R = .tuple [.int p.1, highD (bookN ns m) k] := by
  have mem := scanA_mem (List.mem_of_getElem? hk)
  obtain ⟨P, lo, R, sp⟩ := Span.ex (w := w) h1 hn hm (by have := mem.2.1; omega)
  have e := sp.book
  have at_ : (bookN ns m)[P.length]? = some (lo, starts ns lo) := by rw [e]; simp
  have aft : ∀ i q, (bookN ns m)[P.length + 1 + i]? = some q → w < q.1 := fun i q hq => by
    rw [e, List.getElem?_append_right (by omega), show P.length + 1 + i - P.length = i + 1 by omega, List.getElem?_cons_succ] at hq
    have ha := sp.after
    cases R with
    | nil => simp at hq
    | cons q0 r =>
      obtain ⟨a1, _, _, _, a5⟩ := ha
      cases i with
      | zero => cases hq; exact a1
      | succ i => exact a5 q (List.mem_of_getElem? hq)
  have ek : k = P.length := by
    by_cases c1 : k < P.length
    · have hlt := (List.getElem?_eq_some_iff.mp at_).1
      obtain ⟨q, g⟩ : ∃ q, (bookN ns m)[k + 1]? = some q := ⟨_, List.getElem?_eq_getElem (by omega)⟩
      have g1 := hw2 _ g
      have le := sp.le
      by_cases c2 : k + 1 = P.length
      · rw [c2, at_] at g
        cases g
        simp at g1
        omega
      · have := book_lt (show k + 1 < P.length by omega) g at_
        simp at this
        omega
    · by_cases c2 : P.length < k
      · have := aft (k - P.length - 1) p (by rw [show P.length + 1 + (k - P.length - 1) = k by omega]; exact hk)
        omega
      · omega
  subst ek
  rw [at_] at hk
  cases hk
  refine ⟨(sp.same w sp.le (Int.le_refl _)).symm, P, R, sp, ?_⟩
  unfold spanD highD
  have e2 : (bookN ns m)[P.length + 1]? = R[0]? := by
    rw [e, List.getElem?_append_right (by omega), show P.length + 1 - P.length = 0 + 1 by omega, List.getElem?_cons_succ]
  rw [e2]
  cases R with
  | nil => rfl
  | cons q r => rfl
theorem starts_zero {w : Int} (h : many ns w = 1) : starts ns w = [0] := by
  unfold many starts at h
  unfold starts
  cases hr : restF ns w ns.length (nx ns w 0) with
  | nil => rfl
  | cons a b => rw [hr] at h; simp at h
theorem book_last (hp : ∀ x ∈ ns, 1 ≤ x) (h1 : 0 < ns.length) (hm : ∀ x ∈ ns, x ≤ m) (hin : m ∈ ns) (hs : m ≤ ns.sum) : ∃ P, bookN ns m = P ++ [(ext ns 0 (ns.length - 1), [0])] := by
  have n0 : ∀ x ∈ ns, 0 ≤ x := fun x hx => by have := hp x hx; omega
  obtain ⟨P, lo, e, e1, e2, e3, e4⟩ := scan_last (starts ns) m (ns.sum + ns.length + 2 - m).toNat (by omega)
  obtain ⟨k, L⟩ := Least.ex (c := 1) h1 n0 hs (Nat.le_refl _)
  have hx := L.one hp h1 hm hin
  have hS : starts ns lo = [0] := by
    rw [← e3 (ns.sum + ns.length + 1) (by omega) (by omega)]
    exact starts_one h1 n0 (by omega)
  have ml : many ns lo = 1 := by unfold many; rw [hS]; rfl
  have a := (L.iff hp h1 hm e1).mp (by omega)
  have elo : lo = m + k := by
    by_cases c : lo = m + k
    · exact c
    · have b := (L.iff hp h1 hm (v := lo - 1) (by omega)).mpr (by omega)
      have := many_pos (ns := ns) (w := lo - 1)
      have z := starts_zero (show many ns (lo - 1) = 1 by omega)
      rcases e4 with e4 | e4
      · omega
      · exact absurd (z.trans hS.symm) e4
  refine ⟨P, ?_⟩
  unfold bookN
  rw [e, hS, elo, hx]
end
theorem idx_lastT (xs : List D) (x : D) : opIdx (.tuple (xs ++ [x])) (.int (-1)) = ret x := by
  show (match L2.atI (xs ++ [x]) (-1) with | some d => ret d | none => stuck) = _
  rw [atI_last]
theorem book_first {ns : List Int} {m : Int} (h1 : 0 < ns.length) (hs : m ≤ ns.sum) : (bookN ns m)[0]? = some (m, starts ns m) := by
  obtain ⟨n, hn⟩ : ∃ n, (ns.sum + ns.length + 2 - m).toNat = 1 + n := ⟨(ns.sum + ns.length + 2 - m).toNat - 1, by omega⟩
  unfold bookN
  rw [hn]
  obtain ⟨R, e, _⟩ := scan_more (starts ns) m (k := 1) (Nat.le_refl _) n
  rw [e]
  have e2 : scanA (starts ns) m 1 = [(m, starts ns m)] := by
    show push [] (m + (0 : Nat), starts ns (m + (0 : Nat))) = _
    rw [show m + ((0 : Nat) : Int) = m by omega]
    rfl
  rw [e2]
  rfl
end DL
end
section
namespace DL
open PySem
structure RowM (ns : List Int) (m : Int) : Prop where
  pos : 0 < ns.length
  few : ns.length ≤ 24
  rng : ∀ x ∈ ns, 1 ≤ x ∧ x ≤ 60
  mx : ∀ x ∈ ns, x ≤ m
  mem : m ∈ ns
theorem RowM.p {ns : List Int} {m : Int} (h : RowM ns m) : ∀ x ∈ ns, 1 ≤ x := fun x hx => (h.rng x hx).1
theorem RowM.n0 {ns : List Int} {m : Int} (h : RowM ns m) : ∀ x ∈ ns, 0 ≤ x := fun x hx => by have := h.p x hx; omega
theorem RowM.ms {ns : List Int} {m : Int} (h : RowM ns m) : m ≤ ns.sum := mem_sum h.n0 h.mem
theorem RowM.m1 {ns : List Int} {m : Int} (h : RowM ns m) : 1 ≤ m ∧ m ≤ 60 := h.rng m h.mem
theorem RowM.sum {ns : List Int} {m : Int} (h : RowM ns m) : 0 ≤ ns.sum ∧ ns.sum ≤ 1440 := by
  have sb := sum_part (i := 0) (k := 24) h.rng h.few
  rwa [List.drop_zero, List.take_of_length_le h.few] at sb
/-- the look at a width -/
def lookO (ns : List Int) (w : Int) : Option (List Nat) := if ∀ x ∈ ns, x ≤ w then some (starts ns w) else none
section
variable {ns bs : List Int} {m l : Int}
theorem look_lt (R : RowM ns m) {w : Int} (h : w < m) : lookO ns w = none := if_neg fun q => by have := q m R.mem; omega
theorem look_ge (R : RowM ns m) {w : Int} (h : m ≤ w) : lookO ns w = some (starts ns w) := if_pos fun x hx => Int.le_trans (R.mx x hx) h
theorem ent_mem {k : Nat} {p : Int × List Nat} (h : (bookN ns m)[k]? = some p) : p.2 = starts ns p.1 ∧ m ≤ p.1 :=
  let q := scanA_mem (List.mem_of_getElem? h)
  ⟨q.1, q.2.1⟩
theorem book_cover (R : RowM ns m) {w : Int} (hw : m ≤ w) : ∃ k p, (bookN ns m)[k]? = some p ∧ p.1 ≤ w ∧ ∀ q, (bookN ns m)[k + 1]? = some q → w < q.1 := by
  obtain ⟨P, lo, S, sp⟩ := Span.ex (w := w) R.pos R.n0 R.ms hw
  have e := sp.book
  refine ⟨P.length, (lo, starts ns lo), by rw [e]; simp, sp.le, fun q hq => ?_⟩
  rw [e, List.getElem?_append_right (by omega), show P.length + 1 - P.length = 0 + 1 by omega, List.getElem?_cons_succ] at hq
  have ha := sp.after
  cases S with
  | nil => simp at hq
  | cons q0 r =>
    cases hq
    exact ha.1
theorem book_nopre (Ra : RowM ns m) (Rb : RowM bs l) {k : Nat} (h : ∀ j, j < k → (bookN ns m)[j]? = (bookN bs l)[j]?) (ha : (bookN ns m).length = k) : ¬ k < (bookN bs l).length := by
  intro hk
  obtain ⟨P, eP⟩ := book_last Ra.p Ra.pos Ra.mx Ra.mem Ra.ms
  have kp : k = P.length + 1 := by rw [← ha, eP]; simp
  have hl := h P.length (by omega)
  have h0 : (bookN ns m)[P.length]? = some (ext ns 0 (ns.length - 1), [0]) := by rw [eP]; simp
  rw [h0] at hl
  obtain ⟨q, hq⟩ : ∃ q, (bookN bs l)[P.length + 1]? = some q := ⟨_, List.getElem?_eq_getElem (by omega)⟩
  obtain ⟨_, e2, _, e4, _⟩ := book_two Rb.p Rb.pos Rb.mx Rb.ms hl.symm hq
  have t := scan_ix _ P.length _ q hl.symm hq
  have : many bs q.1 = 1 := by
    have a := many_pos (ns := bs) (w := q.1)
    have b : many bs q.1 = q.2.length := by unfold many; rw [e2]
    simp at e4
    omega
  exact t.2 (by rw [e2, starts_zero this])
/-- the first items that are unlike -/
def unlikeL : List (Int × List Nat) → List (Int × List Nat) → Option Int
  | p :: A, q :: B => if p = q then unlikeL A B else some (min p.1 q.1)
  | _, _ => none
theorem unlikeL_none : ∀ {A B : List (Int × List Nat)}, unlikeL A B = none → ∃ k, (∀ j, j < k → A[j]? = B[j]?) ∧ ((A.length = k ∧ k ≤ B.length) ∨ (B.length = k ∧ k ≤ A.length))
  | [], B, _ => ⟨0, fun j hj => by omega, .inl ⟨rfl, Nat.zero_le _⟩⟩
  | _ :: _, [], _ => ⟨0, fun j hj => by omega, .inr ⟨rfl, Nat.zero_le _⟩⟩
  | p :: A, q :: B, h => by
    unfold unlikeL at h
    by_cases e : p = q
    · rw [if_pos e] at h
      obtain ⟨k, h1, h2⟩ := unlikeL_none h
      refine ⟨k + 1, fun j hj => ?_, by simp only [List.length_cons]; omega⟩
      cases j with
      | zero => rw [e]; rfl
      | succ j => exact h1 j (by omega)
    · rw [if_neg e] at h
      cases h
theorem unlikeL_self : ∀ A : List (Int × List Nat), unlikeL A A = none
  | [] => rfl
  | p :: A => by
    unfold unlikeL
    rw [if_pos rfl, unlikeL_self A]
def unlikeN (ns : List Int) (m : Int) (bs : List Int) (l : Int) : Option Int := unlikeL (bookN ns m) (bookN bs l)
theorem unlike_none (Ra : RowM ns m) (Rb : RowM bs l) (h : unlikeN ns m bs l = none) : bookN ns m = bookN bs l ∧ ∀ w, lookO ns w = lookO bs w := by
  obtain ⟨k, h1, h2⟩ := unlikeL_none h
  have e : bookN ns m = bookN bs l := by
    rcases h2 with ⟨a, b⟩ | ⟨a, b⟩
    · have := book_nopre Ra Rb h1 a
      refine List.ext_getElem? fun j => ?_
      by_cases c : j < k
      · exact h1 j c
      · rw [List.getElem?_eq_none (by omega), List.getElem?_eq_none (by omega)]
    · have := book_nopre Rb Ra (fun j hj => (h1 j hj).symm) a
      refine List.ext_getElem? fun j => ?_
      by_cases c : j < k
      · exact h1 j c
      · rw [List.getElem?_eq_none (by omega), List.getElem?_eq_none (by omega)]
  refine ⟨e, fun w => ?_⟩
  have a0 := book_first (ns := ns) (m := m) Ra.pos Ra.ms
  have b0 := book_first (ns := bs) (m := l) Rb.pos Rb.ms
  rw [e, b0] at a0
  have em : l = m := congrArg Prod.fst (Option.some.inj a0)
  subst em
  by_cases hm : w < l
  · rw [look_lt Ra hm, look_lt Rb hm]
  · obtain ⟨j, r, hj, hr, hn⟩ := book_cover Ra (w := w) (by omega)
    obtain ⟨s1, _⟩ := book_span Ra.pos Ra.n0 Ra.ms hj hr hn
    rw [e] at hj hn
    obtain ⟨s2, _⟩ := book_span Rb.pos Rb.n0 Rb.ms hj hr hn
    rw [look_ge Ra (by omega), look_ge Rb (by omega), ← s1, ← s2]
end
end DL
end
section
namespace DL
open PySem
theorem gi_if {t : XT} {a b : GXS} {E : Env} {out : Outc} {K : GKo} {v : Bool} (h : t E = ret v) : gIf t a b E out K = (if v = true then a E out K else b E out K) := by
  unfold gIf
  rw [h]
  rfl
theorem gi_yield {m : XE} {E : Env} {d : D} {xs : List D} {K : GKo} (h : m E = ret d) (hf : flat d = true) (he : flatE E = true) (k : K E (.inl xs)) : gYield m E (.inl (d :: xs)) K := by
  unfold gYield
  rw [h]
  exact ⟨xs, rfl, hf, he, k⟩
theorem gi_for {m : XA} {t : Tg} {b : GXS} {E : Env} {out : Outc} {K : GKo} {ds : List D} (h : m E = ret ds) : gFor m t b E out K = gLoop t b ds E out K := by
  unfold gFor
  rw [h]
  rfl
theorem gi_forG {sp : GSp} {m : XA} {t : Tg} {b : GXS} {E : Env} {out : Outc} {K : GKo} {ds ys : List D} (h : m E = ret ds) (hs : sp ds (.inl ys)) (k : gLoop t b ys E out K) : gForG sp m t b E out K := by
  unfold gForG
  rw [h]
  exact ⟨ys, hs, k⟩
theorem gi_plain {m : XS} {E E' : Env} {out : Outc} {K : GKo} (h : m E = ret (.nx E')) (k : K E' out) : gPlain m E out K := by
  unfold gPlain
  rw [h]
  exact ⟨E', rfl, k⟩
/-- a loop whose turns hand out what f says -/
theorem gLoop_flat {t : Tg} {b : GXS} (I : Env → Prop) (f : D → List D) : ∀ (ds : List D), (∀ d ∈ ds, ∀ E, I E → ∃ E1, t.put d E = some E1 ∧ ∀ (rest : List D) (K : GKo), (∀ E', I E' → K E' (.inl rest)) → b E1 (.inl (f d ++ rest)) K) →
    ∀ (E : Env), I E → ∀ (rest : List D) (K : GKo), (∀ E', I E' → K E' (.inl rest)) → gLoop t b ds E (.inl (ds.flatMap f ++ rest)) K
  | [], h, E, hI, rest, K, k => k E hI
  | d :: ds, h, E, hI, rest, K, k => by
    obtain ⟨E1, h1, h2⟩ := h d List.mem_cons_self E hI
    refine ⟨E1, h1, ?_⟩
    rw [List.flatMap_cons, List.append_assoc]
    exact h2 _ _ fun E' hI' => gLoop_flat I f ds (fun d hd => h d (List.mem_cons_of_mem _ hd)) E' hI' rest K k
abbrev tI (l : List Int) : D := .tuple (l.map PyData.int)
/-- the rows of so many words with so many letters -/
def rowsN : Nat → Int → Int → List (List Int)
  | 0, _, _ => []
  | 1, most, s => if 1 ≤ s ∧ s ≤ most then [[s]] else []
  | n + 2, most, s => (List.range (min most (s - ((n : Int) + 2) + 1)).toNat).flatMap fun (i : Nat) => (rowsN (n + 1) most (s - (1 + (i : Int)))).map ((1 + (i : Int)) :: ·)
theorem flat_tI (l : List Int) : flat (tI l) = true := by
  show flatAll (l.map PyData.int) = true
  induction l with
  | nil => rfl
  | cons a l ih => exact ih
theorem rng_one (b : Int) : rng 1 (b + 1) = (List.range b.toNat).map fun (i : Nat) => PyData.int (1 + (i : Int)) := by
  unfold rng
  rw [show (b + 1 - 1).toNat = b.toNat by rw [Int.add_sub_cancel]]
theorem flatMap_map' {α β γ : Type} (f : α → β) (g : β → List γ) (l : List α) : (l.map f).flatMap g = l.flatMap fun a => g (f a) := by
  induction l with
  | nil => rfl
  | cons a l ih => simp [List.flatMap_cons, ih]
theorem map_flatMap' {α β γ : Type} (f : β → γ) (g : α → List β) (l : List α) : (l.flatMap g).map f = l.flatMap fun a => (g a).map f := by
  induction l with
  | nil => rfl
  | cons a l ih => simp [List.flatMap_cons, ih]
theorem flatMap_single' {α β : Type} (f : α → β) (l : List α) : (l.flatMap fun a => [f a]) = l.map f := by
  induction l with
  | nil => rfl
  | cons a l ih => simp [List.flatMap_cons, ih]
theorem rowsN_len : ∀ (n : Nat) (most s : Int) (r : List Int), r ∈ rowsN n most s → r.length = n
  | 0, _, _, r, h => by simp [rowsN] at h
  | 1, most, s, r, h => by
    unfold rowsN at h
    split at h
    · rw [List.mem_singleton.mp h]; rfl
    · simp at h
  | n + 2, most, s, r, h => by
    rw [rowsN] at h
    obtain ⟨i, _, h⟩ := List.mem_flatMap.mp h
    obtain ⟨q, hq, rfl⟩ := List.mem_map.mp h
    rw [List.length_cons, rowsN_len (n + 1) _ _ q hq]
theorem rows_of_N : ∀ (d n : Nat) (most s : Int), 1 ≤ n → n ≤ d → d ≤ 50 → 0 ≤ most → most ≤ 10000 → -10000 - 10000 * (d : Int) ≤ s + 10000 * ((n : Int) - (d : Int)) → s ≤ 100000 → recG w_rows_of_0F d [.int n, .int most, .int s] (.inl ((rowsN n most s).map tI))
  | 0, n, most, s, h1, h2, _, _, _, _, _ => by omega
  | d + 1, n, most, s, h1, h2, h3, h4, h5, h6, h7 => by
    refine ⟨rfl, ?_⟩
    show gIf _ _ _ [.val (.int n), .val (.int most), .val (.int s), .unk, .unk] _ _
    obtain rfl | hn : n = 1 ∨ 2 ≤ n := by omega
    · rw [gi_if (v := true) (by simp (disch := omega) only [x_var, x_con, x_bin, x_neg, x_cmp, x_chain, x_tTru, x_tNot, x_tAnd, x_tOr, x_tBool, x_tYes, x_not, x_and, x_or, x_if, x_b1, x_b2, x_is, x_idx, x_oNone, x_oSome, x_cut, x_aNil, x_aCons, x_tup, x_lst, x_call, x_callS,
    x_iSeq, x_iRng1, x_iRng2, x_bor, x_tBor, x_put1, List.map_cons, List.map_nil, List.cons_append, List.nil_append, List.length_cons, List.length_nil, Nat.zero_add, Nat.reduceAdd, Nat.reduceSub, List.reduceReplicate, start,
    List.getElem?_cons_zero, List.getElem?_cons_succ, List.set_cons_zero, List.set_cons_succ, bnd_ret, bnd_assoc, bnd_grd, b1_if, bnd_ite, small, Nat.reduceLeDiff, grd_true, o_add, o_sub, o_neg, o_eq, o_ne, o_lt, o_le, o_gt, o_ge, o_eqS, o_neS,
    decide_eq_true_eq, reduceIte, decide_true, decide_false, Bool.not_true, Bool.not_false, Bool.false_eq_true, itemsOf, asInt, bi2, endOf, isTy,
    grd_tt, nx_int, nx_bool, nx_str, nx_none, nx_tup, nx_lst, x_isC, x_fld, x_in, x_count, x_lstR, x_tupR, x_raise, x_star, bnd_thr, noX_ret, fld_x, exn_d, eSetO, Out.clear, List.zip_cons_cons, List.zip_nil_left, List.zip_nil_right]; rfl), if_pos rfl]
      have e : (tBool (eChain .le .le (eCon (.int 1)) (eVar 2) (eVar 1))) [.val (.int ((1 : Nat) : Int)), .val (.int most), .val (.int s), .unk, .unk] = ret (decide (1 ≤ s ∧ s ≤ most)) := by
        by_cases a1 : 1 ≤ s
        · by_cases a2 : s ≤ most
          · simp (disch := omega) only [x_var, x_con, x_bin, x_neg, x_cmp, x_chain, x_tTru, x_tNot, x_tAnd, x_tOr, x_tBool, x_tYes, x_not, x_and, x_or, x_if, x_b1, x_b2, x_is, x_idx, x_oNone, x_oSome, x_cut, x_aNil, x_aCons, x_tup, x_lst, x_call, x_callS,
    x_iSeq, x_iRng1, x_iRng2, x_bor, x_tBor, x_put1, List.map_cons, List.map_nil, List.cons_append, List.nil_append, List.length_cons, List.length_nil, Nat.zero_add, Nat.reduceAdd, Nat.reduceSub, List.reduceReplicate, start,
    List.getElem?_cons_zero, List.getElem?_cons_succ, List.set_cons_zero, List.set_cons_succ, bnd_ret, bnd_assoc, bnd_grd, b1_if, bnd_ite, small, Nat.reduceLeDiff, grd_true, o_add, o_sub, o_neg, o_eq, o_ne, o_lt, o_le, o_gt, o_ge, o_eqS, o_neS,
    decide_eq_true_eq, reduceIte, decide_true, decide_false, Bool.not_true, Bool.not_false, Bool.false_eq_true, itemsOf, asInt, bi2, endOf, isTy,
    grd_tt, nx_int, nx_bool, nx_str, nx_none, nx_tup, nx_lst, x_isC, x_fld, x_in, x_count, x_lstR, x_tupR, x_raise, x_star, bnd_thr, noX_ret, fld_x, exn_d, eSetO, Out.clear, List.zip_cons_cons, List.zip_nil_left, List.zip_nil_right, a1, a2, true_and, and_true, and_self]
          · simp (disch := omega) only [x_var, x_con, x_bin, x_neg, x_cmp, x_chain, x_tTru, x_tNot, x_tAnd, x_tOr, x_tBool, x_tYes, x_not, x_and, x_or, x_if, x_b1, x_b2, x_is, x_idx, x_oNone, x_oSome, x_cut, x_aNil, x_aCons, x_tup, x_lst, x_call, x_callS,
    x_iSeq, x_iRng1, x_iRng2, x_bor, x_tBor, x_put1, List.map_cons, List.map_nil, List.cons_append, List.nil_append, List.length_cons, List.length_nil, Nat.zero_add, Nat.reduceAdd, Nat.reduceSub, List.reduceReplicate, start,
    List.getElem?_cons_zero, List.getElem?_cons_succ, List.set_cons_zero, List.set_cons_succ, bnd_ret, bnd_assoc, bnd_grd, b1_if, bnd_ite, small, Nat.reduceLeDiff, grd_true, o_add, o_sub, o_neg, o_eq, o_ne, o_lt, o_le, o_gt, o_ge, o_eqS, o_neS,
    decide_eq_true_eq, reduceIte, decide_true, decide_false, Bool.not_true, Bool.not_false, Bool.false_eq_true, itemsOf, asInt, bi2, endOf, isTy,
    grd_tt, nx_int, nx_bool, nx_str, nx_none, nx_tup, nx_lst, x_isC, x_fld, x_in, x_count, x_lstR, x_tupR, x_raise, x_star, bnd_thr, noX_ret, fld_x, exn_d, eSetO, Out.clear, List.zip_cons_cons, List.zip_nil_left, List.zip_nil_right, a1, a2, true_and, and_true, and_self]
        · simp (disch := omega) only [x_var, x_con, x_bin, x_neg, x_cmp, x_chain, x_tTru, x_tNot, x_tAnd, x_tOr, x_tBool, x_tYes, x_not, x_and, x_or, x_if, x_b1, x_b2, x_is, x_idx, x_oNone, x_oSome, x_cut, x_aNil, x_aCons, x_tup, x_lst, x_call, x_callS,
    x_iSeq, x_iRng1, x_iRng2, x_bor, x_tBor, x_put1, List.map_cons, List.map_nil, List.cons_append, List.nil_append, List.length_cons, List.length_nil, Nat.zero_add, Nat.reduceAdd, Nat.reduceSub, List.reduceReplicate, start,
    List.getElem?_cons_zero, List.getElem?_cons_succ, List.set_cons_zero, List.set_cons_succ, bnd_ret, bnd_assoc, bnd_grd, b1_if, bnd_ite, small, Nat.reduceLeDiff, grd_true, o_add, o_sub, o_neg, o_eq, o_ne, o_lt, o_le, o_gt, o_ge, o_eqS, o_neS,
    decide_eq_true_eq, reduceIte, decide_true, decide_false, Bool.not_true, Bool.not_false, Bool.false_eq_true, itemsOf, asInt, bi2, endOf, isTy,
    grd_tt, nx_int, nx_bool, nx_str, nx_none, nx_tup, nx_lst, x_isC, x_fld, x_in, x_count, x_lstR, x_tupR, x_raise, x_star, bnd_thr, noX_ret, fld_x, exn_d, eSetO, Out.clear, List.zip_cons_cons, List.zip_nil_left, List.zip_nil_right, a1, false_and]
      rw [gi_if e]
      show (if decide (1 ≤ s ∧ s ≤ most) = true then gYield _ _ _ _ else gSkip _ _ _)
      by_cases a : 1 ≤ s ∧ s ≤ most
      · have er : rowsN 1 most s = [[s]] := by unfold rowsN; rw [if_pos a]
        rw [if_pos (decide_eq_true a), er]
        exact gi_yield (d := tI [s]) (by simp (disch := omega) only [x_var, x_con, x_bin, x_neg, x_cmp, x_chain, x_tTru, x_tNot, x_tAnd, x_tOr, x_tBool, x_tYes, x_not, x_and, x_or, x_if, x_b1, x_b2, x_is, x_idx, x_oNone, x_oSome, x_cut, x_aNil, x_aCons, x_tup, x_lst, x_call, x_callS,
    x_iSeq, x_iRng1, x_iRng2, x_bor, x_tBor, x_put1, List.map_cons, List.map_nil, List.cons_append, List.nil_append, List.length_cons, List.length_nil, Nat.zero_add, Nat.reduceAdd, Nat.reduceSub, List.reduceReplicate, start,
    List.getElem?_cons_zero, List.getElem?_cons_succ, List.set_cons_zero, List.set_cons_succ, bnd_ret, bnd_assoc, bnd_grd, b1_if, bnd_ite, small, Nat.reduceLeDiff, grd_true, o_add, o_sub, o_neg, o_eq, o_ne, o_lt, o_le, o_gt, o_ge, o_eqS, o_neS,
    decide_eq_true_eq, reduceIte, decide_true, decide_false, Bool.not_true, Bool.not_false, Bool.false_eq_true, itemsOf, asInt, bi2, endOf, isTy,
    grd_tt, nx_int, nx_bool, nx_str, nx_none, nx_tup, nx_lst, x_isC, x_fld, x_in, x_count, x_lstR, x_tupR, x_raise, x_star, bnd_thr, noX_ret, fld_x, exn_d, eSetO, Out.clear, List.zip_cons_cons, List.zip_nil_left, List.zip_nil_right]; rfl) rfl rfl rfl
      · have er : rowsN 1 most s = [] := by unfold rowsN; rw [if_neg a]
        rw [if_neg (by simpa using a), er]
        rfl
    · obtain ⟨m, rfl⟩ : ∃ m, n = m + 2 := ⟨n - 2, by omega⟩
      have hne : ¬ (((m + 2 : Nat) : Int) = 1) := by omega
      rw [gi_if (v := false) (by simp (disch := omega) only [x_var, x_con, x_bin, x_neg, x_cmp, x_chain, x_tTru, x_tNot, x_tAnd, x_tOr, x_tBool, x_tYes, x_not, x_and, x_or, x_if, x_b1, x_b2, x_is, x_idx, x_oNone, x_oSome, x_cut, x_aNil, x_aCons, x_tup, x_lst, x_call, x_callS,
    x_iSeq, x_iRng1, x_iRng2, x_bor, x_tBor, x_put1, List.map_cons, List.map_nil, List.cons_append, List.nil_append, List.length_cons, List.length_nil, Nat.zero_add, Nat.reduceAdd, Nat.reduceSub, List.reduceReplicate, start,
    List.getElem?_cons_zero, List.getElem?_cons_succ, List.set_cons_zero, List.set_cons_succ, bnd_ret, bnd_assoc, bnd_grd, b1_if, bnd_ite, small, Nat.reduceLeDiff, grd_true, o_add, o_sub, o_neg, o_eq, o_ne, o_lt, o_le, o_gt, o_ge, o_eqS, o_neS,
    decide_eq_true_eq, reduceIte, decide_true, decide_false, Bool.not_true, Bool.not_false, Bool.false_eq_true, itemsOf, asInt, bi2, endOf, isTy,
    grd_tt, nx_int, nx_bool, nx_str, nx_none, nx_tup, nx_lst, x_isC, x_fld, x_in, x_count, x_lstR, x_tupR, x_raise, x_star, bnd_thr, noX_ret, fld_x, exn_d, eSetO, Out.clear, List.zip_cons_cons, List.zip_nil_left, List.zip_nil_right, hne]), if_neg Bool.false_ne_true]
      have e2 : (iRng2 (eCon (.int 1)) (eBin .add (eB2 .min (eVar 1) (eBin .add (eBin .sub (eVar 2) (eVar 0)) (eCon (.int 1)))) (eCon (.int 1)))) [.val (.int ((m + 2 : Nat) : Int)), .val (.int most), .val (.int s), .unk, .unk] = ret (rng 1 (min most (s - ((m + 2 : Nat) : Int) + 1) + 1)) := by
        try simp (disch := omega) only [x_var, x_con, x_bin, x_neg, x_cmp, x_chain, x_tTru, x_tNot, x_tAnd, x_tOr, x_tBool, x_tYes, x_not, x_and, x_or, x_if, x_b1, x_b2, x_is, x_idx, x_oNone, x_oSome, x_cut, x_aNil, x_aCons, x_tup, x_lst, x_call, x_callS,
    x_iSeq, x_iRng1, x_iRng2, x_bor, x_tBor, x_put1, List.map_cons, List.map_nil, List.cons_append, List.nil_append, List.length_cons, List.length_nil, Nat.zero_add, Nat.reduceAdd, Nat.reduceSub, List.reduceReplicate, start,
    List.getElem?_cons_zero, List.getElem?_cons_succ, List.set_cons_zero, List.set_cons_succ, bnd_ret, bnd_assoc, bnd_grd, b1_if, bnd_ite, small, Nat.reduceLeDiff, grd_true, o_add, o_sub, o_neg, o_eq, o_ne, o_lt, o_le, o_gt, o_ge, o_eqS, o_neS,
    decide_eq_true_eq, reduceIte, decide_true, decide_false, Bool.not_true, Bool.not_false, Bool.false_eq_true, itemsOf, asInt, endOf, isTy,
    grd_tt, nx_int, nx_bool, nx_str, nx_none, nx_tup, nx_lst, x_isC, x_fld, x_in, x_count, x_lstR, x_tupR, x_raise, x_star, bnd_thr, noX_ret, fld_x, exn_d, eSetO, Out.clear, List.zip_cons_cons, List.zip_nil_left, List.zip_nil_right, s_asg, s_par, s_own, s_parO, s_put, s_expr, s_ret, s_skip, s_seq, s_rel, x_asg, x_par, x_own, x_parO, x_put, x_expr, x_ret, x_retN, x_skip, x_rel, x_app, x_setI, x_sIf, x_for, x_brk, x_cnt, b_lenT, b_lenL, b_tupL, b_tupT, b_max2, b_min2, o_addL, o_addT, cut_ints, sum_ints, s_chk, s_for, s_brk, s_cnt, s_retN, t_bool, g_rng, g_le, List.length_map, x_b2]
        have em : (if s - ((m + 2 : Nat) : Int) + 1 < most then s - ((m + 2 : Nat) : Int) + 1 else most) = min most (s - ((m + 2 : Nat) : Int) + 1) := by
          split <;> omega
        rw [em]
        all_goals exact g_rng (by omega) (by omega) (by omega) (by omega)
      rw [gi_for e2, rng_one]
      let I : Env → Prop := fun E => ∃ e3 e4 : Ent, E = [.val (.int ((m + 2 : Nat) : Int)), .val (.int most), .val (.int s), e3, e4] ∧ flatE [e3, e4] = true
      let fo : D → List D := fun d => match d with
        | .int l => ((rowsN (m + 1) most (s - l)).map (l :: ·)).map tI
        | _ => []
      have key := gLoop_flat (t := .nm 3) (b := gForG (recG w_rows_of_0F d) (aCons (eBin .sub (eVar 0) (eCon (.int 1))) (aCons (eVar 1) (aCons (eBin .sub (eVar 2) (eVar 3)) (aNil)))) (.nm 4) (gYield (eTup (aCons (eVar 3) (aStar (eVar 4) (aNil)))))) I fo
        ((List.range (min most (s - ((m + 2 : Nat) : Int) + 1)).toNat).map fun (i : Nat) => PyData.int (1 + (i : Int))) (fun dd hd E hE => ?_) [.val (.int ((m + 2 : Nat) : Int)), .val (.int most), .val (.int s), .unk, .unk] ⟨.unk, .unk, rfl, rfl⟩ [] (fun _ o => o = .inl []) (fun _ _ => rfl)
      · rw [List.append_nil] at key
        have e : (((List.range (min most (s - ((m + 2 : Nat) : Int) + 1)).toNat).map fun (i : Nat) => PyData.int (1 + (i : Int))).flatMap fo) = (rowsN (m + 2) most s).map tI := by
          rw [flatMap_map', rowsN, map_flatMap']
          rfl
        rw [e] at key
        exact key
      · obtain ⟨i, hi, rfl⟩ := List.mem_map.mp hd
        have hi := List.mem_range.mp hi
        obtain ⟨e3, e4, rfl, he⟩ := hE
        refine ⟨_, rfl, fun rest K k => ?_⟩
        have hb : (i : Int) < most ∧ (i : Int) < s - ((m + 2 : Nat) : Int) + 1 := by omega
        refine gi_forG (ds := [.int ((m + 1 : Nat) : Int), .int most, .int (s - (1 + (i : Int)))]) (ys := (rowsN (m + 1) most (s - (1 + (i : Int)))).map tI) ?_ (rows_of_N d (m + 1) most _ (by omega) (by omega) (by omega) h4 h5 (by omega) (by omega)) ?_
        · try simp (disch := omega) only [x_var, x_con, x_bin, x_neg, x_cmp, x_chain, x_tTru, x_tNot, x_tAnd, x_tOr, x_tBool, x_tYes, x_not, x_and, x_or, x_if, x_b1, x_b2, x_is, x_idx, x_oNone, x_oSome, x_cut, x_aNil, x_aCons, x_tup, x_lst, x_call, x_callS,
    x_iSeq, x_iRng1, x_iRng2, x_bor, x_tBor, x_put1, List.map_cons, List.map_nil, List.cons_append, List.nil_append, List.length_cons, List.length_nil, Nat.zero_add, Nat.reduceAdd, Nat.reduceSub, List.reduceReplicate, start,
    List.getElem?_cons_zero, List.getElem?_cons_succ, List.set_cons_zero, List.set_cons_succ, bnd_ret, bnd_assoc, bnd_grd, b1_if, bnd_ite, small, Nat.reduceLeDiff, grd_true, o_add, o_sub, o_neg, o_eq, o_ne, o_lt, o_le, o_gt, o_ge, o_eqS, o_neS,
    decide_eq_true_eq, reduceIte, decide_true, decide_false, Bool.not_true, Bool.not_false, Bool.false_eq_true, itemsOf, asInt, endOf, isTy,
    grd_tt, nx_int, nx_bool, nx_str, nx_none, nx_tup, nx_lst, x_isC, x_fld, x_in, x_count, x_lstR, x_tupR, x_raise, x_star, bnd_thr, noX_ret, fld_x, exn_d, eSetO, Out.clear, List.zip_cons_cons, List.zip_nil_left, List.zip_nil_right, s_asg, s_par, s_own, s_parO, s_put, s_expr, s_ret, s_skip, s_seq, s_rel, x_asg, x_par, x_own, x_parO, x_put, x_expr, x_ret, x_retN, x_skip, x_rel, x_app, x_setI, x_sIf, x_for, x_brk, x_cnt, b_lenT, b_lenL, b_tupL, b_tupT, b_max2, b_min2, o_addL, o_addT, cut_ints, sum_ints, s_chk, s_for, s_brk, s_cnt, s_retN, t_bool, g_rng, g_le, List.length_map]
          rw [show ((m + 2 : Nat) : Int) - 1 = ((m + 1 : Nat) : Int) by omega]
        · let I2 : Env → Prop := fun E => ∃ e4 : Ent, E = [.val (.int ((m + 2 : Nat) : Int)), .val (.int most), .val (.int s), .val (.int (1 + (i : Int))), e4] ∧ flatE [e4] = true
          let f2 : D → List D := fun d => match d with
            | .tuple l => [.tuple (.int (1 + (i : Int)) :: l)]
            | _ => []
          have key2 := gLoop_flat (t := .nm 4) (b := gYield (eTup (aCons (eVar 3) (aStar (eVar 4) (aNil))))) I2 f2 ((rowsN (m + 1) most (s - (1 + (i : Int)))).map tI) (fun dd hd E hE => ?_) [.val (.int ((m + 2 : Nat) : Int)), .val (.int most), .val (.int s), .val (.int (1 + (i : Int))), e4] ⟨e4, rfl, ?_⟩ rest K (fun E' ⟨e5, h5, h6⟩ => k E' ⟨_, e5, h5, ?_⟩)
          · have e : ((rowsN (m + 1) most (s - (1 + (i : Int)))).map tI).flatMap f2 = fo (.int (1 + (i : Int))) := by
              rw [flatMap_map']
              show _ = ((rowsN (m + 1) most (s - (1 + (i : Int)))).map ((1 + (i : Int)) :: ·)).map tI
              rw [List.map_map, ← flatMap_single']
              rfl
            rw [e] at key2
            exact key2
          · obtain ⟨r, hr, rfl⟩ := List.mem_map.mp hd
            obtain ⟨e5, rfl, h5⟩ := hE
            refine ⟨_, rfl, fun rest K k => ?_⟩
            refine gi_yield (d := .tuple (.int (1 + (i : Int)) :: r.map PyData.int)) ?_ (flat_tI ((1 + (i : Int)) :: r)) ?_ (k _ ⟨_, rfl, ?_⟩)
            · try simp (disch := omega) only [x_var, x_con, x_bin, x_neg, x_cmp, x_chain, x_tTru, x_tNot, x_tAnd, x_tOr, x_tBool, x_tYes, x_not, x_and, x_or, x_if, x_b1, x_b2, x_is, x_idx, x_oNone, x_oSome, x_cut, x_aNil, x_aCons, x_tup, x_lst, x_call, x_callS,
    x_iSeq, x_iRng1, x_iRng2, x_bor, x_tBor, x_put1, List.map_cons, List.map_nil, List.cons_append, List.nil_append, List.length_cons, List.length_nil, Nat.zero_add, Nat.reduceAdd, Nat.reduceSub, List.reduceReplicate, start,
    List.getElem?_cons_zero, List.getElem?_cons_succ, List.set_cons_zero, List.set_cons_succ, bnd_ret, bnd_assoc, bnd_grd, b1_if, bnd_ite, small, Nat.reduceLeDiff, grd_true, o_add, o_sub, o_neg, o_eq, o_ne, o_lt, o_le, o_gt, o_ge, o_eqS, o_neS,
    decide_eq_true_eq, reduceIte, decide_true, decide_false, Bool.not_true, Bool.not_false, Bool.false_eq_true, itemsOf, asInt, endOf, isTy,
    grd_tt, nx_int, nx_bool, nx_str, nx_none, nx_tup, nx_lst, x_isC, x_fld, x_in, x_count, x_lstR, x_tupR, x_raise, x_star, bnd_thr, noX_ret, fld_x, exn_d, eSetO, Out.clear, List.zip_cons_cons, List.zip_nil_left, List.zip_nil_right, s_asg, s_par, s_own, s_parO, s_put, s_expr, s_ret, s_skip, s_seq, s_rel, x_asg, x_par, x_own, x_parO, x_put, x_expr, x_ret, x_retN, x_skip, x_rel, x_app, x_setI, x_sIf, x_for, x_brk, x_cnt, b_lenT, b_lenL, b_tupL, b_tupT, b_max2, b_min2, o_addL, o_addT, cut_ints, sum_ints, s_chk, s_for, s_brk, s_cnt, s_retN, t_bool, g_rng, g_le, List.length_map]
              rw [List.append_nil, grd_pos (by rw [List.length_map, rowsN_len _ _ _ r hr]; omega)]
            · have := flat_tI r
              show (true && (true && (true && (true && (flat (tI r) && true))))) = true
              rw [this]
              rfl
            · show (flat (tI r) && true) = true
              rw [flat_tI r]
              rfl
          · have h : (flatE [e3] && flatE [e4]) = true := by
              simpa [flatE] using he
            simp only [Bool.and_eq_true] at h
            exact h.2
          · show (true && flatE [e5]) = true
            rw [h6]
            rfl
end DL
end
section
namespace DL
open PySem
theorem o_neEnt (p q : Int × List Nat) : opCmp .ne (entD p) (entD q) = ret (!decide (p = q)) := by
  have sh : ∀ p : Int × List Nat, Shp 2 (entD p) := fun p => shp_tup fun d hd => by
    simp only [List.mem_cons, List.not_mem_nil, or_false] at hd
    rcases hd with rfl | rfl
    · exact (shp_int _).mono (by decide)
    · exact shp_nats _
  show bnd (opEq _ _) _ = _
  unfold opEq
  rw [grd_pos (eqOk_of ((sh p).ok (by decide)) ((sh q).ok (by decide)))]
  show ret (!(PyData.eqv (.int p.1) (.int q.1) && (PyData.eqv (.tuple (natsD p.2)) (.tuple (natsD q.2)) && true))) = _
  have e1 : PyData.eqv (.int p.1) (.int q.1) = decide (p.1 = q.1) := rfl
  have e2 : PyData.eqv (.tuple (natsD p.2)) (.tuple (natsD q.2)) = decide (p.2 = q.2) := by
    have h := o_eqN p.2 q.2
    have h2 : (grd (eqOk (.tuple (natsD p.2)) (.tuple (natsD q.2))) (ret (PyData.eqv (.tuple (natsD p.2)) (.tuple (natsD q.2)))) : W Bool) = ret (decide (p.2 = q.2)) := h
    rw [grd_pos (eqOk_of ((shp_nats _).ok (by decide)) ((shp_nats _).ok (by decide)))] at h2
    have h3 := congrFun (congrFun (congrFun h2 (.z 0)) fun d _ => d = decide (p.2 = q.2)) fun _ _ => False
    exact h3.mpr rfl
  rw [e1, e2, Bool.and_true]
  congr 2
  rw [Bool.eq_iff_iff]
  simp only [Bool.and_eq_true, decide_eq_true_eq]
  exact ⟨fun h => Prod.ext h.1 h.2, fun h => by rw [h]; exact ⟨rfl, rfl⟩⟩
def intD : Option Int → D
  | none => .none
  | some v => .int v
section
variable {ns bs : List Int} {m l : Int}
theorem unlike_loop {e0 e1 : Ent} {u : XS} : ∀ (A B : List (Int × List Nat)) (e2 e3 : Ent), ∃ e2' e3', forLE (.tp [2, 3]) (sIf (tBool (eCmp .ne (eVar 2) (eVar 3))) (sRet (eB2 .min (eIdx (eVar 2) (eCon (.int 0))) (eIdx (eVar 3) (eCon (.int 0))))) (sSkip)) u (twos (A.map entD) (B.map entD)) [e0, e1, e2, e3] =
    match unlikeL A B with
    | some v => ret (.rt (.int v))
    | none => u [e0, e1, e2', e3']
  | [], B, e2, e3 => ⟨e2, e3, by cases B <;> rfl⟩
  | _ :: _, [], e2, e3 => ⟨e2, e3, rfl⟩
  | p :: A, q :: B, e2, e3 => by
    obtain ⟨e2', e3', h⟩ := unlike_loop (e0 := e0) (e1 := e1) (u := u) A B (.val (entD p)) (.val (entD q))
    refine ⟨e2', e3', ?_⟩
    have pt : (Tg.tp [2, 3]).put (.tuple [entD p, entD q]) [e0, e1, e2, e3] = some [e0, e1, .val (entD p), .val (entD q)] := rfl
    have st : sIf (tBool (eCmp .ne (eVar 2) (eVar 3))) (sRet (eB2 .min (eIdx (eVar 2) (eCon (.int 0))) (eIdx (eVar 3) (eCon (.int 0))))) (sSkip) [e0, e1, .val (entD p), .val (entD q)] = if p = q then ret (.nx [e0, e1, .val (entD p), .val (entD q)]) else ret (.rt (.int (min p.1 q.1))) := by
      have i0 : ∀ p, opIdx (entD p) (.int 0) = ret (.int p.1) := fun _ => rfl
      simp only [x_var, x_con, x_bin, x_neg, x_cmp, x_chain, x_tTru, x_tNot, x_tAnd, x_tOr, x_tBool, x_tYes, x_not, x_and, x_or, x_if, x_b1, x_b2, x_is, x_idx, x_oNone, x_oSome, x_cut, x_aNil, x_aCons, x_tup, x_lst, x_call, x_callS,
    x_iSeq, x_iRng1, x_iRng2, x_bor, x_tBor, x_put1, List.map_cons, List.map_nil, List.cons_append, List.nil_append, List.length_cons, List.length_nil, Nat.zero_add, Nat.reduceAdd, Nat.reduceSub, List.reduceReplicate, start,
    List.getElem?_cons_zero, List.getElem?_cons_succ, List.set_cons_zero, List.set_cons_succ, bnd_ret, bnd_assoc, bnd_grd, b1_if, bnd_ite, small, Nat.reduceLeDiff, grd_true, o_add, o_sub, o_neg, o_eq, o_ne, o_lt, o_le, o_gt, o_ge, o_eqS, o_neS,
    decide_eq_true_eq, reduceIte, decide_true, decide_false, Bool.not_true, Bool.not_false, Bool.false_eq_true, itemsOf, asInt, bi2, endOf, isTy,
    grd_tt, nx_int, nx_bool, nx_str, nx_none, nx_tup, nx_lst, x_isC, x_fld, x_in, x_count, x_lstR, x_tupR, x_raise, x_star, bnd_thr, noX_ret, fld_x, exn_d, eSetO, Out.clear, List.zip_cons_cons, List.zip_nil_left, List.zip_nil_right, s_asg, s_par, s_own, s_parO, s_put, s_expr, s_ret, s_skip, s_seq, s_rel, x_asg, x_par, x_own, x_parO, x_put, x_expr, x_ret, x_retN, x_skip, x_rel, x_app, x_setI, x_sIf, x_for, x_brk, x_cnt, o_neEnt, i0]
      by_cases e : p = q
      · rw [if_pos e, e]
        simp only [decide_true, Bool.not_true, Bool.false_eq_true, if_false]
      · rw [if_neg e, decide_eq_false e]
        simp only [Bool.not_false, if_true]
        congr 2
        congr 1
        omega
    show (match (Tg.tp [2, 3]).put (.tuple [entD p, entD q]) [e0, e1, e2, e3] with
      | none => stuck
      | some E1 => bnd (sIf (tBool (eCmp .ne (eVar 2) (eVar 3))) (sRet (eB2 .min (eIdx (eVar 2) (eCon (.int 0))) (eIdx (eVar 3) (eCon (.int 0))))) (sSkip) E1) fun o => match o with
      | .nx E' => forLE _ _ u (twos (A.map entD) (B.map entD)) E'
      | .ct E' => forLE _ _ u (twos (A.map entD) (B.map entD)) E'
      | .bk E' => ret (.nx E')
      | .rt d => ret (.rt d)) = _
    rw [pt]
    show bnd (sIf (tBool (eCmp .ne (eVar 2) (eVar 3))) (sRet (eB2 .min (eIdx (eVar 2) (eCon (.int 0))) (eIdx (eVar 3) (eCon (.int 0))))) (sSkip) [e0, e1, .val (entD p), .val (entD q)]) _ = _
    rw [st]
    unfold unlikeL
    by_cases e : p = q
    · rw [if_pos e, if_pos e, bnd_ret]
      exact h
    · rw [if_neg e, if_neg e, bnd_ret]
theorem RowM.max (R : RowM ns m) : bi1 .max (.tuple (ns.map PyData.int)) = ret (.int m) := by
  obtain ⟨k, e, hk⟩ := max_ints R.pos
  have h1 := R.mx k hk
  have h2 := long_all (max_long e (Int.le_refl k)) m R.mem
  rw [e, show k = m by omega]
theorem RowM.book (R : RowM ns m) : w_book_of_0 [.tuple (ns.map PyData.int)] = ret (.tuple ((bookN ns m).map entD)) := by
  have := R.few
  have := R.sum
  have := R.m1
  exact book_of_0 R.max R.pos (by omega) R.n0 (by omega) (by omega) R.ms
theorem first_unlike_0 (Ra : RowM ns m) (Rb : RowM bs l) : w_first_unlike_0 [.tuple (ns.map PyData.int), .tuple (bs.map PyData.int)] = ret (intD (unlikeN ns m bs l)) := by
  unfold w_first_unlike_0
  refine (f_fn (by rfl)).trans ?_
  obtain ⟨e2', e3', h⟩ := unlike_loop (e0 := .val (.tuple (ns.map PyData.int))) (e1 := .val (.tuple (bs.map PyData.int))) (u := sRet (eCon .none)) (bookN ns m) (bookN bs l) .unk .unk
  show bnd (bnd (iTwos _ _ _) fun ds => forLE _ _ _ ds _) endOf = _
  rw [x_iTwos]
  simp only [x_var, x_con, x_bin, x_neg, x_cmp, x_chain, x_tTru, x_tNot, x_tAnd, x_tOr, x_tBool, x_tYes, x_not, x_and, x_or, x_if, x_b1, x_b2, x_is, x_idx, x_oNone, x_oSome, x_cut, x_aNil, x_aCons, x_tup, x_lst, x_call, x_callS,
    x_iSeq, x_iRng1, x_iRng2, x_bor, x_tBor, x_put1, List.map_cons, List.map_nil, List.cons_append, List.nil_append, List.length_cons, List.length_nil, Nat.zero_add, Nat.reduceAdd, Nat.reduceSub, List.reduceReplicate, start,
    List.getElem?_cons_zero, List.getElem?_cons_succ, List.set_cons_zero, List.set_cons_succ, bnd_ret, bnd_assoc, bnd_grd, b1_if, bnd_ite, small, Nat.reduceLeDiff, grd_true, o_add, o_sub, o_neg, o_eq, o_ne, o_lt, o_le, o_gt, o_ge, o_eqS, o_neS,
    decide_eq_true_eq, reduceIte, decide_true, decide_false, Bool.not_true, Bool.not_false, Bool.false_eq_true, itemsOf, asInt, bi2, endOf, isTy,
    grd_tt, nx_int, nx_bool, nx_str, nx_none, nx_tup, nx_lst, x_isC, x_fld, x_in, x_count, x_lstR, x_tupR, x_raise, x_star, bnd_thr, noX_ret, fld_x, exn_d, eSetO, Out.clear, List.zip_cons_cons, List.zip_nil_left, List.zip_nil_right, s_asg, s_par, s_own, s_parO, s_put, s_expr, s_ret, s_skip, s_seq, s_rel, x_asg, x_par, x_own, x_parO, x_put, x_expr, x_ret, x_retN, x_skip, x_rel, x_app, x_setI, x_sIf, x_for, x_brk, x_cnt, Ra.book, Rb.book]
  rw [h]
  unfold unlikeN
  cases unlikeL (bookN ns m) (bookN bs l) with
  | none => rfl
  | some v => rfl
end
theorem RowN.ex {ns : List Int} (h : RowN ns) : ∃ m, RowM ns m := by
  obtain ⟨m, e, hm⟩ := max_ints (ns := ns) (by have := h.one; omega)
  exact ⟨m, by have := h.one; omega, h.most, h.words, long_all (max_long e (Int.le_refl m)), hm⟩
theorem Ok.chk {t : XT} {a : XE} {b : XS} {P : Prop} {E : Env} {n : Nat} {Q : Out → Prop} (ht : ∃ c : Bool, t E = DL.ret c ∧ (c = true → P)) (ha : P → Ok (a E) n fun d => Q (.rt d)) (hb : Ok (b E) n Q) : Ok (sSeq (sIf t (sRet a) sSkip) b E) n Q := by
  obtain ⟨c, e, h⟩ := ht
  rw [s_chk, e, bnd_ret]
  cases c with
  | true =>
    rw [if_pos rfl]
    exact Ok.bnd' n (ha (h rfl)) (Nat.le_refl _) fun d hd => Ok.ret hd
  | false =>
    rw [if_neg (by decide)]
    exact hb
/-- a row near another one -/
theorem partner_0 {ns : List Int} (h : RowN ns) : Ok (w__law_partner_0 [.tuple (ns.map PyData.int)]) 3 fun d => ∃ ms : List Int, d = .tuple (ms.map PyData.int) ∧ RowN ms := by
  unfold w__law_partner_0
  rw [x_fnS]
  refine Ok.grd rfl (Ok.fn ?_)
  have h1 := h.one
  have h2 := h.most
  rw [x_par3]
  have s5 : start 5 (Ent.stm :: List.map Ent.val [PyData.tuple (List.map PyData.int ns)]) = [.stm, .val (.tuple (ns.map PyData.int)), .unk, .unk, .unk] := rfl
  rw [s5]
  have d1 : eCallS fDraw 0 (aCons (eCon (.int 6)) aNil) [.stm, .val (.tuple (ns.map PyData.int)), .unk, .unk, .unk] = fDraw [.int 6] := by simp only [x_var, x_con, x_bin, x_neg, x_cmp, x_chain, x_tTru, x_tNot, x_tAnd, x_tOr, x_tBool, x_tYes, x_not, x_and, x_or, x_if, x_b1, x_b2, x_is, x_idx, x_oNone, x_oSome, x_cut, x_aNil, x_aCons, x_tup, x_lst, x_call, x_callS,
    x_iSeq, x_iRng1, x_iRng2, x_bor, x_tBor, x_put1, List.map_cons, List.map_nil, List.cons_append, List.nil_append, List.length_cons, List.length_nil, Nat.zero_add, Nat.reduceAdd, Nat.reduceSub, List.reduceReplicate, start,
    List.getElem?_cons_zero, List.getElem?_cons_succ, List.set_cons_zero, List.set_cons_succ, bnd_ret, bnd_assoc, bnd_grd, b1_if, bnd_ite, small, Nat.reduceLeDiff, grd_true, o_add, o_sub, o_neg, o_eq, o_ne, o_lt, o_le, o_gt, o_ge, o_eqS, o_neS,
    decide_eq_true_eq, reduceIte, decide_true, decide_false, Bool.not_true, Bool.not_false, Bool.false_eq_true, itemsOf, asInt, bi2, endOf, isTy,
    grd_tt, nx_int, nx_bool, nx_str, nx_none, nx_tup, nx_lst, x_isC, x_fld, x_in, x_count, x_lstR, x_tupR, x_raise, x_star, bnd_thr, noX_ret, fld_x, exn_d, eSetO, Out.clear, List.zip_cons_cons, List.zip_nil_left, List.zip_nil_right]
  have d2 : eCallS fDraw 0 (aCons (eB1 .len (eVar 1)) aNil) [.stm, .val (.tuple (ns.map PyData.int)), .unk, .unk, .unk] = fDraw [.int (ns.length : Int)] := by simp only [x_var, x_con, x_bin, x_neg, x_cmp, x_chain, x_tTru, x_tNot, x_tAnd, x_tOr, x_tBool, x_tYes, x_not, x_and, x_or, x_if, x_b1, x_b2, x_is, x_idx, x_oNone, x_oSome, x_cut, x_aNil, x_aCons, x_tup, x_lst, x_call, x_callS,
    x_iSeq, x_iRng1, x_iRng2, x_bor, x_tBor, x_put1, List.map_cons, List.map_nil, List.cons_append, List.nil_append, List.length_cons, List.length_nil, Nat.zero_add, Nat.reduceAdd, Nat.reduceSub, List.reduceReplicate, start,
    List.getElem?_cons_zero, List.getElem?_cons_succ, List.set_cons_zero, List.set_cons_succ, bnd_ret, bnd_assoc, bnd_grd, b1_if, bnd_ite, small, Nat.reduceLeDiff, grd_true, o_add, o_sub, o_neg, o_eq, o_ne, o_lt, o_le, o_gt, o_ge, o_eqS, o_neS,
    decide_eq_true_eq, reduceIte, decide_true, decide_false, Bool.not_true, Bool.not_false, Bool.false_eq_true, itemsOf, asInt, bi2, endOf, isTy,
    grd_tt, nx_int, nx_bool, nx_str, nx_none, nx_tup, nx_lst, x_isC, x_fld, x_in, x_count, x_lstR, x_tupR, x_raise, x_star, bnd_thr, noX_ret, fld_x, exn_d, eSetO, Out.clear, List.zip_cons_cons, List.zip_nil_left, List.zip_nil_right, b_lenT, List.length_map]
  have d3 : eB1 .len (eVar 1) [.stm, .val (.tuple (ns.map PyData.int)), .unk, .unk, .unk] = ret (.int (ns.length : Int)) := by simp only [x_var, x_con, x_bin, x_neg, x_cmp, x_chain, x_tTru, x_tNot, x_tAnd, x_tOr, x_tBool, x_tYes, x_not, x_and, x_or, x_if, x_b1, x_b2, x_is, x_idx, x_oNone, x_oSome, x_cut, x_aNil, x_aCons, x_tup, x_lst, x_call, x_callS,
    x_iSeq, x_iRng1, x_iRng2, x_bor, x_tBor, x_put1, List.map_cons, List.map_nil, List.cons_append, List.nil_append, List.length_cons, List.length_nil, Nat.zero_add, Nat.reduceAdd, Nat.reduceSub, List.reduceReplicate, start,
    List.getElem?_cons_zero, List.getElem?_cons_succ, List.set_cons_zero, List.set_cons_succ, bnd_ret, bnd_assoc, bnd_grd, b1_if, bnd_ite, small, Nat.reduceLeDiff, grd_true, o_add, o_sub, o_neg, o_eq, o_ne, o_lt, o_le, o_gt, o_ge, o_eqS, o_neS,
    decide_eq_true_eq, reduceIte, decide_true, decide_false, Bool.not_true, Bool.not_false, Bool.false_eq_true, itemsOf, asInt, bi2, endOf, isTy,
    grd_tt, nx_int, nx_bool, nx_str, nx_none, nx_tup, nx_lst, x_isC, x_fld, x_in, x_count, x_lstR, x_tupR, x_raise, x_star, bnd_thr, noX_ret, fld_x, exn_d, eSetO, Out.clear, List.zip_cons_cons, List.zip_nil_left, List.zip_nil_right, b_lenT, List.length_map]
  rw [d1, d2, d3]
  refine Ok.drawB (many := 6) (n := 2) (by decide) (by decide) fun r hr0 hr1 => ?_
  refine Ok.drawB (many := (ns.length : Int)) (n := 1) (by omega) (by omega) fun q hq0 hq1 => ?_
  rw [bnd_ret]
  have s6 : ((([.stm, .val (.tuple (ns.map PyData.int)), .unk, .unk, .unk] : Env).set 2 (.val (.int r))).set 3 (.val (.int q))).set 4 (.val (.int (ns.length : Int))) = [.stm, .val (.tuple (ns.map PyData.int)), .val (.int r), .val (.int q), .val (.int (ns.length : Int))] := rfl
  rw [s6]
  have in_l : ∀ x ∈ ns.take q.toNat, 1 ≤ x ∧ x ≤ 60 := fun x hx => h.words x (List.mem_of_mem_take hx)
  have in_r : ∀ k, ∀ x ∈ ns.drop k, 1 ≤ x ∧ x ≤ 60 := fun k x hx => h.words x (List.mem_of_mem_drop hx)
  have iq := idx_ints (ns := ns) hq0 hq1
  have mk : ∀ (as bs : List Int), as.length ≤ 1000 → bs.length ≤ 1000 → opBin .add (.tuple (as.map PyData.int)) (.tuple (bs.map PyData.int)) = ret (.tuple ((as ++ bs).map PyData.int)) := fun as bs g1 g2 => by
    rw [o_addT, List.map_append, List.length_map, List.length_map, grd_pos (by unfold small; omega)]
  have tk : (ns.take q.toNat).length ≤ 1000 := by rw [List.length_take]; omega
  have dr : ∀ k, (ns.drop k).length ≤ 1000 := fun k => by rw [List.length_drop]; omega
  have one : ∀ x : Int, PyData.tuple [.int x] = .tuple (([x] : List Int).map PyData.int) := fun _ => rfl
  have two : ∀ x y : Int, PyData.tuple [.int x, .int y] = .tuple (([x, y] : List Int).map PyData.int) := fun _ _ => rfl
  -- a letter moved
  refine Ok.chk (P := q + 1 < ns.length ∧ ∃ x y : Int, ns[q.toNat]? = some x ∧ ns[(q + 1).toNat]? = some y ∧ 1 < x ∧ y < 60) ?_ ?_ ?_
  · by_cases c1 : r < 2
    · by_cases c2 : q + 1 < (ns.length : Int)
      · have iq2 := idx_ints (ns := ns) (i := q + 1) (by omega) c2
        refine ⟨decide (1 < ns[q.toNat]) && decide (ns[(q + 1).toNat] < 60), ?_, fun z => ?_⟩
        · simp only [x_var, x_con, x_bin, x_neg, x_cmp, x_chain, x_tTru, x_tNot, x_tAnd, x_tOr, x_tBool, x_tYes, x_not, x_and, x_or, x_if, x_b1, x_b2, x_is, x_idx, x_oNone, x_oSome, x_cut, x_aNil, x_aCons, x_tup, x_lst, x_call, x_callS,
    x_iSeq, x_iRng1, x_iRng2, x_bor, x_tBor, x_put1, List.map_cons, List.map_nil, List.cons_append, List.nil_append, List.length_cons, List.length_nil, Nat.zero_add, Nat.reduceAdd, Nat.reduceSub, List.reduceReplicate, start,
    List.getElem?_cons_zero, List.getElem?_cons_succ, List.set_cons_zero, List.set_cons_succ, bnd_ret, bnd_assoc, bnd_grd, b1_if, bnd_ite, small, Nat.reduceLeDiff, grd_true, o_add, o_sub, o_neg, o_eq, o_ne, o_lt, o_le, o_gt, o_ge, o_eqS, o_neS,
    decide_eq_true_eq, reduceIte, decide_true, decide_false, Bool.not_true, Bool.not_false, Bool.false_eq_true, itemsOf, asInt, bi2, endOf, isTy,
    grd_tt, nx_int, nx_bool, nx_str, nx_none, nx_tup, nx_lst, x_isC, x_fld, x_in, x_count, x_lstR, x_tupR, x_raise, x_star, bnd_thr, noX_ret, fld_x, exn_d, eSetO, Out.clear, List.zip_cons_cons, List.zip_nil_left, List.zip_nil_right, c1, c2, iq, iq2]
          by_cases c3 : 1 < ns[q.toNat]
          · simp only [c3, decide_true, if_true, Bool.true_and]
          · simp only [c3, decide_false, Bool.false_eq_true, if_false, Bool.false_and]
        · simp only [Bool.and_eq_true, decide_eq_true_eq] at z
          exact ⟨c2, _, _, List.getElem?_eq_getElem _, List.getElem?_eq_getElem _, z.1, z.2⟩
      · refine ⟨false, ?_, fun z => nomatch z⟩
        simp only [x_var, x_con, x_bin, x_neg, x_cmp, x_chain, x_tTru, x_tNot, x_tAnd, x_tOr, x_tBool, x_tYes, x_not, x_and, x_or, x_if, x_b1, x_b2, x_is, x_idx, x_oNone, x_oSome, x_cut, x_aNil, x_aCons, x_tup, x_lst, x_call, x_callS,
    x_iSeq, x_iRng1, x_iRng2, x_bor, x_tBor, x_put1, List.map_cons, List.map_nil, List.cons_append, List.nil_append, List.length_cons, List.length_nil, Nat.zero_add, Nat.reduceAdd, Nat.reduceSub, List.reduceReplicate, start,
    List.getElem?_cons_zero, List.getElem?_cons_succ, List.set_cons_zero, List.set_cons_succ, bnd_ret, bnd_assoc, bnd_grd, b1_if, bnd_ite, small, Nat.reduceLeDiff, grd_true, o_add, o_sub, o_neg, o_eq, o_ne, o_lt, o_le, o_gt, o_ge, o_eqS, o_neS,
    decide_eq_true_eq, reduceIte, decide_true, decide_false, Bool.not_true, Bool.not_false, Bool.false_eq_true, itemsOf, asInt, bi2, endOf, isTy,
    grd_tt, nx_int, nx_bool, nx_str, nx_none, nx_tup, nx_lst, x_isC, x_fld, x_in, x_count, x_lstR, x_tupR, x_raise, x_star, bnd_thr, noX_ret, fld_x, exn_d, eSetO, Out.clear, List.zip_cons_cons, List.zip_nil_left, List.zip_nil_right, c1, c2]
    · refine ⟨false, ?_, fun z => nomatch z⟩
      simp only [x_var, x_con, x_bin, x_neg, x_cmp, x_chain, x_tTru, x_tNot, x_tAnd, x_tOr, x_tBool, x_tYes, x_not, x_and, x_or, x_if, x_b1, x_b2, x_is, x_idx, x_oNone, x_oSome, x_cut, x_aNil, x_aCons, x_tup, x_lst, x_call, x_callS,
    x_iSeq, x_iRng1, x_iRng2, x_bor, x_tBor, x_put1, List.map_cons, List.map_nil, List.cons_append, List.nil_append, List.length_cons, List.length_nil, Nat.zero_add, Nat.reduceAdd, Nat.reduceSub, List.reduceReplicate, start,
    List.getElem?_cons_zero, List.getElem?_cons_succ, List.set_cons_zero, List.set_cons_succ, bnd_ret, bnd_assoc, bnd_grd, b1_if, bnd_ite, small, Nat.reduceLeDiff, grd_true, o_add, o_sub, o_neg, o_eq, o_ne, o_lt, o_le, o_gt, o_ge, o_eqS, o_neS,
    decide_eq_true_eq, reduceIte, decide_true, decide_false, Bool.not_true, Bool.not_false, Bool.false_eq_true, itemsOf, asInt, bi2, endOf, isTy,
    grd_tt, nx_int, nx_bool, nx_str, nx_none, nx_tup, nx_lst, x_isC, x_fld, x_in, x_count, x_lstR, x_tupR, x_raise, x_star, bnd_thr, noX_ret, fld_x, exn_d, eSetO, Out.clear, List.zip_cons_cons, List.zip_nil_left, List.zip_nil_right, c1]
  · rintro ⟨c2, x, y, hx, hy, x1, y1⟩
    have iq2 := idx_ints (ns := ns) (i := q + 1) (by omega) c2
    have ex := (List.getElem?_eq_some_iff.mp hx).2
    have ey := (List.getElem?_eq_some_iff.mp hy).2
    rw [ex] at iq
    rw [ey] at iq2
    have g1 := h.words x (List.mem_of_getElem? hx)
    have g2 := h.words y (List.mem_of_getElem? hy)
    simp (disch := omega) only [x_var, x_con, x_bin, x_neg, x_cmp, x_chain, x_tTru, x_tNot, x_tAnd, x_tOr, x_tBool, x_tYes, x_not, x_and, x_or, x_if, x_b1, x_b2, x_is, x_idx, x_oNone, x_oSome, x_cut, x_aNil, x_aCons, x_tup, x_lst, x_call, x_callS,
    x_iSeq, x_iRng1, x_iRng2, x_bor, x_tBor, x_put1, List.map_cons, List.map_nil, List.cons_append, List.nil_append, List.length_cons, List.length_nil, Nat.zero_add, Nat.reduceAdd, Nat.reduceSub, List.reduceReplicate, start,
    List.getElem?_cons_zero, List.getElem?_cons_succ, List.set_cons_zero, List.set_cons_succ, bnd_ret, bnd_assoc, bnd_grd, b1_if, bnd_ite, small, Nat.reduceLeDiff, grd_true, o_add, o_sub, o_neg, o_eq, o_ne, o_lt, o_le, o_gt, o_ge, o_eqS, o_neS,
    decide_eq_true_eq, reduceIte, decide_true, decide_false, Bool.not_true, Bool.not_false, Bool.false_eq_true, itemsOf, asInt, bi2, endOf, isTy,
    grd_tt, nx_int, nx_bool, nx_str, nx_none, nx_tup, nx_lst, x_isC, x_fld, x_in, x_count, x_lstR, x_tupR, x_raise, x_star, bnd_thr, noX_ret, fld_x, exn_d, eSetO, Out.clear, List.zip_cons_cons, List.zip_nil_left, List.zip_nil_right, iq, iq2, cut_uptoI, cut_fromI, two, mk]
    rw [mk _ _ tk (by simp), bnd_ret, mk _ _ (by simp; omega) (dr _)]
    refine Ok.ret ⟨_, rfl, by simp; omega, by simp; omega, fun z hz => ?_⟩
    rcases List.mem_append.mp hz with hz | hz
    · rcases List.mem_append.mp hz with hz | hz
      · exact in_l z hz
      · simp only [List.mem_cons, List.not_mem_nil, or_false] at hz
        omega
    · exact in_r _ z hz
  -- a word changed
  refine Ok.chk (P := True) ⟨decide (r = 2), by simp only [x_var, x_con, x_bin, x_neg, x_cmp, x_chain, x_tTru, x_tNot, x_tAnd, x_tOr, x_tBool, x_tYes, x_not, x_and, x_or, x_if, x_b1, x_b2, x_is, x_idx, x_oNone, x_oSome, x_cut, x_aNil, x_aCons, x_tup, x_lst, x_call, x_callS,
    x_iSeq, x_iRng1, x_iRng2, x_bor, x_tBor, x_put1, List.map_cons, List.map_nil, List.cons_append, List.nil_append, List.length_cons, List.length_nil, Nat.zero_add, Nat.reduceAdd, Nat.reduceSub, List.reduceReplicate, start,
    List.getElem?_cons_zero, List.getElem?_cons_succ, List.set_cons_zero, List.set_cons_succ, bnd_ret, bnd_assoc, bnd_grd, b1_if, bnd_ite, small, Nat.reduceLeDiff, grd_true, o_add, o_sub, o_neg, o_eq, o_ne, o_lt, o_le, o_gt, o_ge, o_eqS, o_neS,
    decide_eq_true_eq, reduceIte, decide_true, decide_false, Bool.not_true, Bool.not_false, Bool.false_eq_true, itemsOf, asInt, bi2, endOf, isTy,
    grd_tt, nx_int, nx_bool, nx_str, nx_none, nx_tup, nx_lst, x_isC, x_fld, x_in, x_count, x_lstR, x_tupR, x_raise, x_star, bnd_thr, noX_ret, fld_x, exn_d, eSetO, Out.clear, List.zip_cons_cons, List.zip_nil_left, List.zip_nil_right], fun _ => True.intro⟩ (fun _ => ?_) ?_
  · have d4 : eCallS fDraw 0 (aCons (eCon (.int 60)) aNil) [.stm, .val (.tuple (ns.map PyData.int)), .val (.int r), .val (.int q), .val (.int (ns.length : Int))] = fDraw [.int 60] := by simp only [x_var, x_con, x_bin, x_neg, x_cmp, x_chain, x_tTru, x_tNot, x_tAnd, x_tOr, x_tBool, x_tYes, x_not, x_and, x_or, x_if, x_b1, x_b2, x_is, x_idx, x_oNone, x_oSome, x_cut, x_aNil, x_aCons, x_tup, x_lst, x_call, x_callS,
    x_iSeq, x_iRng1, x_iRng2, x_bor, x_tBor, x_put1, List.map_cons, List.map_nil, List.cons_append, List.nil_append, List.length_cons, List.length_nil, Nat.zero_add, Nat.reduceAdd, Nat.reduceSub, List.reduceReplicate, start,
    List.getElem?_cons_zero, List.getElem?_cons_succ, List.set_cons_zero, List.set_cons_succ, bnd_ret, bnd_assoc, bnd_grd, b1_if, bnd_ite, small, Nat.reduceLeDiff, grd_true, o_add, o_sub, o_neg, o_eq, o_ne, o_lt, o_le, o_gt, o_ge, o_eqS, o_neS,
    decide_eq_true_eq, reduceIte, decide_true, decide_false, Bool.not_true, Bool.not_false, Bool.false_eq_true, itemsOf, asInt, bi2, endOf, isTy,
    grd_tt, nx_int, nx_bool, nx_str, nx_none, nx_tup, nx_lst, x_isC, x_fld, x_in, x_count, x_lstR, x_tupR, x_raise, x_star, bnd_thr, noX_ret, fld_x, exn_d, eSetO, Out.clear, List.zip_cons_cons, List.zip_nil_left, List.zip_nil_right]
    simp (disch := omega) only [x_var, x_con, x_bin, x_neg, x_cmp, x_chain, x_tTru, x_tNot, x_tAnd, x_tOr, x_tBool, x_tYes, x_not, x_and, x_or, x_if, x_b1, x_b2, x_is, x_idx, x_oNone, x_oSome, x_cut, x_aNil, x_aCons, x_tup, x_lst, x_call, x_callS,
    x_iSeq, x_iRng1, x_iRng2, x_bor, x_tBor, x_put1, List.map_cons, List.map_nil, List.cons_append, List.nil_append, List.length_cons, List.length_nil, Nat.zero_add, Nat.reduceAdd, Nat.reduceSub, List.reduceReplicate, start,
    List.getElem?_cons_zero, List.getElem?_cons_succ, List.set_cons_zero, List.set_cons_succ, bnd_ret, bnd_assoc, bnd_grd, b1_if, bnd_ite, small, Nat.reduceLeDiff, grd_true, o_add, o_sub, o_neg, o_eq, o_ne, o_lt, o_le, o_gt, o_ge, o_eqS, o_neS,
    decide_eq_true_eq, reduceIte, decide_true, decide_false, Bool.not_true, Bool.not_false, Bool.false_eq_true, itemsOf, asInt, bi2, endOf, isTy,
    grd_tt, nx_int, nx_bool, nx_str, nx_none, nx_tup, nx_lst, x_isC, x_fld, x_in, x_count, x_lstR, x_tupR, x_raise, x_star, bnd_thr, noX_ret, fld_x, exn_d, eSetO, Out.clear, List.zip_cons_cons, List.zip_nil_left, List.zip_nil_right, -x_callS, d4, cut_uptoI, cut_fromI, one]
    refine Ok.drawB (many := 60) (n := 0) (by decide) (by decide) fun l l0 l1 => ?_
    simp (disch := omega) only [x_var, x_con, x_bin, x_neg, x_cmp, x_chain, x_tTru, x_tNot, x_tAnd, x_tOr, x_tBool, x_tYes, x_not, x_and, x_or, x_if, x_b1, x_b2, x_is, x_idx, x_oNone, x_oSome, x_cut, x_aNil, x_aCons, x_tup, x_lst, x_call, x_callS,
    x_iSeq, x_iRng1, x_iRng2, x_bor, x_tBor, x_put1, List.map_cons, List.map_nil, List.cons_append, List.nil_append, List.length_cons, List.length_nil, Nat.zero_add, Nat.reduceAdd, Nat.reduceSub, List.reduceReplicate, start,
    List.getElem?_cons_zero, List.getElem?_cons_succ, List.set_cons_zero, List.set_cons_succ, bnd_ret, bnd_assoc, bnd_grd, b1_if, bnd_ite, small, Nat.reduceLeDiff, grd_true, o_add, o_sub, o_neg, o_eq, o_ne, o_lt, o_le, o_gt, o_ge, o_eqS, o_neS,
    decide_eq_true_eq, reduceIte, decide_true, decide_false, Bool.not_true, Bool.not_false, Bool.false_eq_true, itemsOf, asInt, bi2, endOf, isTy,
    grd_tt, nx_int, nx_bool, nx_str, nx_none, nx_tup, nx_lst, x_isC, x_fld, x_in, x_count, x_lstR, x_tupR, x_raise, x_star, bnd_thr, noX_ret, fld_x, exn_d, eSetO, Out.clear, List.zip_cons_cons, List.zip_nil_left, List.zip_nil_right, cut_uptoI, cut_fromI, one]
    rw [mk _ _ tk (by simp), bnd_ret, mk _ _ (by simp; omega) (dr _)]
    refine Ok.ret ⟨_, rfl, by simp; omega, by simp; omega, fun z hz => ?_⟩
    rcases List.mem_append.mp hz with hz | hz
    · rcases List.mem_append.mp hz with hz | hz
      · exact in_l z hz
      · simp only [List.mem_cons, List.not_mem_nil, or_false] at hz
        omega
    · exact in_r _ z hz
  -- a word left out
  refine Ok.chk (P := 1 < (ns.length : Int)) ?_ (fun c => ?_) ?_
  · by_cases c1 : r = 3
    · exact ⟨decide (1 < (ns.length : Int)), by simp only [x_var, x_con, x_bin, x_neg, x_cmp, x_chain, x_tTru, x_tNot, x_tAnd, x_tOr, x_tBool, x_tYes, x_not, x_and, x_or, x_if, x_b1, x_b2, x_is, x_idx, x_oNone, x_oSome, x_cut, x_aNil, x_aCons, x_tup, x_lst, x_call, x_callS,
    x_iSeq, x_iRng1, x_iRng2, x_bor, x_tBor, x_put1, List.map_cons, List.map_nil, List.cons_append, List.nil_append, List.length_cons, List.length_nil, Nat.zero_add, Nat.reduceAdd, Nat.reduceSub, List.reduceReplicate, start,
    List.getElem?_cons_zero, List.getElem?_cons_succ, List.set_cons_zero, List.set_cons_succ, bnd_ret, bnd_assoc, bnd_grd, b1_if, bnd_ite, small, Nat.reduceLeDiff, grd_true, o_add, o_sub, o_neg, o_eq, o_ne, o_lt, o_le, o_gt, o_ge, o_eqS, o_neS,
    decide_eq_true_eq, reduceIte, decide_true, decide_false, Bool.not_true, Bool.not_false, Bool.false_eq_true, itemsOf, asInt, bi2, endOf, isTy,
    grd_tt, nx_int, nx_bool, nx_str, nx_none, nx_tup, nx_lst, x_isC, x_fld, x_in, x_count, x_lstR, x_tupR, x_raise, x_star, bnd_thr, noX_ret, fld_x, exn_d, eSetO, Out.clear, List.zip_cons_cons, List.zip_nil_left, List.zip_nil_right, c1], fun z => by simpa using z⟩
    · exact ⟨false, by simp only [x_var, x_con, x_bin, x_neg, x_cmp, x_chain, x_tTru, x_tNot, x_tAnd, x_tOr, x_tBool, x_tYes, x_not, x_and, x_or, x_if, x_b1, x_b2, x_is, x_idx, x_oNone, x_oSome, x_cut, x_aNil, x_aCons, x_tup, x_lst, x_call, x_callS,
    x_iSeq, x_iRng1, x_iRng2, x_bor, x_tBor, x_put1, List.map_cons, List.map_nil, List.cons_append, List.nil_append, List.length_cons, List.length_nil, Nat.zero_add, Nat.reduceAdd, Nat.reduceSub, List.reduceReplicate, start,
    List.getElem?_cons_zero, List.getElem?_cons_succ, List.set_cons_zero, List.set_cons_succ, bnd_ret, bnd_assoc, bnd_grd, b1_if, bnd_ite, small, Nat.reduceLeDiff, grd_true, o_add, o_sub, o_neg, o_eq, o_ne, o_lt, o_le, o_gt, o_ge, o_eqS, o_neS,
    decide_eq_true_eq, reduceIte, decide_true, decide_false, Bool.not_true, Bool.not_false, Bool.false_eq_true, itemsOf, asInt, bi2, endOf, isTy,
    grd_tt, nx_int, nx_bool, nx_str, nx_none, nx_tup, nx_lst, x_isC, x_fld, x_in, x_count, x_lstR, x_tupR, x_raise, x_star, bnd_thr, noX_ret, fld_x, exn_d, eSetO, Out.clear, List.zip_cons_cons, List.zip_nil_left, List.zip_nil_right, c1], fun z => nomatch z⟩
  · simp (disch := omega) only [x_var, x_con, x_bin, x_neg, x_cmp, x_chain, x_tTru, x_tNot, x_tAnd, x_tOr, x_tBool, x_tYes, x_not, x_and, x_or, x_if, x_b1, x_b2, x_is, x_idx, x_oNone, x_oSome, x_cut, x_aNil, x_aCons, x_tup, x_lst, x_call, x_callS,
    x_iSeq, x_iRng1, x_iRng2, x_bor, x_tBor, x_put1, List.map_cons, List.map_nil, List.cons_append, List.nil_append, List.length_cons, List.length_nil, Nat.zero_add, Nat.reduceAdd, Nat.reduceSub, List.reduceReplicate, start,
    List.getElem?_cons_zero, List.getElem?_cons_succ, List.set_cons_zero, List.set_cons_succ, bnd_ret, bnd_assoc, bnd_grd, b1_if, bnd_ite, small, Nat.reduceLeDiff, grd_true, o_add, o_sub, o_neg, o_eq, o_ne, o_lt, o_le, o_gt, o_ge, o_eqS, o_neS,
    decide_eq_true_eq, reduceIte, decide_true, decide_false, Bool.not_true, Bool.not_false, Bool.false_eq_true, itemsOf, asInt, bi2, endOf, isTy,
    grd_tt, nx_int, nx_bool, nx_str, nx_none, nx_tup, nx_lst, x_isC, x_fld, x_in, x_count, x_lstR, x_tupR, x_raise, x_star, bnd_thr, noX_ret, fld_x, exn_d, eSetO, Out.clear, List.zip_cons_cons, List.zip_nil_left, List.zip_nil_right, cut_uptoI, cut_fromI]
    rw [mk _ _ tk (dr _)]
    refine Ok.ret ⟨_, rfl, by simp; omega, by simp; omega, fun z hz => ?_⟩
    rcases List.mem_append.mp hz with hz | hz
    · exact in_l z hz
    · exact in_r _ z hz
  -- a word added
  refine Ok.chk (P := (ns.length : Int) < 24) ?_ (fun c => ?_) ?_
  · by_cases c1 : r = 4
    · exact ⟨decide ((ns.length : Int) < 24), by simp only [x_var, x_con, x_bin, x_neg, x_cmp, x_chain, x_tTru, x_tNot, x_tAnd, x_tOr, x_tBool, x_tYes, x_not, x_and, x_or, x_if, x_b1, x_b2, x_is, x_idx, x_oNone, x_oSome, x_cut, x_aNil, x_aCons, x_tup, x_lst, x_call, x_callS,
    x_iSeq, x_iRng1, x_iRng2, x_bor, x_tBor, x_put1, List.map_cons, List.map_nil, List.cons_append, List.nil_append, List.length_cons, List.length_nil, Nat.zero_add, Nat.reduceAdd, Nat.reduceSub, List.reduceReplicate, start,
    List.getElem?_cons_zero, List.getElem?_cons_succ, List.set_cons_zero, List.set_cons_succ, bnd_ret, bnd_assoc, bnd_grd, b1_if, bnd_ite, small, Nat.reduceLeDiff, grd_true, o_add, o_sub, o_neg, o_eq, o_ne, o_lt, o_le, o_gt, o_ge, o_eqS, o_neS,
    decide_eq_true_eq, reduceIte, decide_true, decide_false, Bool.not_true, Bool.not_false, Bool.false_eq_true, itemsOf, asInt, bi2, endOf, isTy,
    grd_tt, nx_int, nx_bool, nx_str, nx_none, nx_tup, nx_lst, x_isC, x_fld, x_in, x_count, x_lstR, x_tupR, x_raise, x_star, bnd_thr, noX_ret, fld_x, exn_d, eSetO, Out.clear, List.zip_cons_cons, List.zip_nil_left, List.zip_nil_right, c1], fun z => by simpa using z⟩
    · exact ⟨false, by simp only [x_var, x_con, x_bin, x_neg, x_cmp, x_chain, x_tTru, x_tNot, x_tAnd, x_tOr, x_tBool, x_tYes, x_not, x_and, x_or, x_if, x_b1, x_b2, x_is, x_idx, x_oNone, x_oSome, x_cut, x_aNil, x_aCons, x_tup, x_lst, x_call, x_callS,
    x_iSeq, x_iRng1, x_iRng2, x_bor, x_tBor, x_put1, List.map_cons, List.map_nil, List.cons_append, List.nil_append, List.length_cons, List.length_nil, Nat.zero_add, Nat.reduceAdd, Nat.reduceSub, List.reduceReplicate, start,
    List.getElem?_cons_zero, List.getElem?_cons_succ, List.set_cons_zero, List.set_cons_succ, bnd_ret, bnd_assoc, bnd_grd, b1_if, bnd_ite, small, Nat.reduceLeDiff, grd_true, o_add, o_sub, o_neg, o_eq, o_ne, o_lt, o_le, o_gt, o_ge, o_eqS, o_neS,
    decide_eq_true_eq, reduceIte, decide_true, decide_false, Bool.not_true, Bool.not_false, Bool.false_eq_true, itemsOf, asInt, bi2, endOf, isTy,
    grd_tt, nx_int, nx_bool, nx_str, nx_none, nx_tup, nx_lst, x_isC, x_fld, x_in, x_count, x_lstR, x_tupR, x_raise, x_star, bnd_thr, noX_ret, fld_x, exn_d, eSetO, Out.clear, List.zip_cons_cons, List.zip_nil_left, List.zip_nil_right, c1], fun z => nomatch z⟩
  · have d4 : eCallS fDraw 0 (aCons (eCon (.int 9)) aNil) [.stm, .val (.tuple (ns.map PyData.int)), .val (.int r), .val (.int q), .val (.int (ns.length : Int))] = fDraw [.int 9] := by simp only [x_var, x_con, x_bin, x_neg, x_cmp, x_chain, x_tTru, x_tNot, x_tAnd, x_tOr, x_tBool, x_tYes, x_not, x_and, x_or, x_if, x_b1, x_b2, x_is, x_idx, x_oNone, x_oSome, x_cut, x_aNil, x_aCons, x_tup, x_lst, x_call, x_callS,
    x_iSeq, x_iRng1, x_iRng2, x_bor, x_tBor, x_put1, List.map_cons, List.map_nil, List.cons_append, List.nil_append, List.length_cons, List.length_nil, Nat.zero_add, Nat.reduceAdd, Nat.reduceSub, List.reduceReplicate, start,
    List.getElem?_cons_zero, List.getElem?_cons_succ, List.set_cons_zero, List.set_cons_succ, bnd_ret, bnd_assoc, bnd_grd, b1_if, bnd_ite, small, Nat.reduceLeDiff, grd_true, o_add, o_sub, o_neg, o_eq, o_ne, o_lt, o_le, o_gt, o_ge, o_eqS, o_neS,
    decide_eq_true_eq, reduceIte, decide_true, decide_false, Bool.not_true, Bool.not_false, Bool.false_eq_true, itemsOf, asInt, bi2, endOf, isTy,
    grd_tt, nx_int, nx_bool, nx_str, nx_none, nx_tup, nx_lst, x_isC, x_fld, x_in, x_count, x_lstR, x_tupR, x_raise, x_star, bnd_thr, noX_ret, fld_x, exn_d, eSetO, Out.clear, List.zip_cons_cons, List.zip_nil_left, List.zip_nil_right]
    simp (disch := omega) only [x_var, x_con, x_bin, x_neg, x_cmp, x_chain, x_tTru, x_tNot, x_tAnd, x_tOr, x_tBool, x_tYes, x_not, x_and, x_or, x_if, x_b1, x_b2, x_is, x_idx, x_oNone, x_oSome, x_cut, x_aNil, x_aCons, x_tup, x_lst, x_call, x_callS,
    x_iSeq, x_iRng1, x_iRng2, x_bor, x_tBor, x_put1, List.map_cons, List.map_nil, List.cons_append, List.nil_append, List.length_cons, List.length_nil, Nat.zero_add, Nat.reduceAdd, Nat.reduceSub, List.reduceReplicate, start,
    List.getElem?_cons_zero, List.getElem?_cons_succ, List.set_cons_zero, List.set_cons_succ, bnd_ret, bnd_assoc, bnd_grd, b1_if, bnd_ite, small, Nat.reduceLeDiff, grd_true, o_add, o_sub, o_neg, o_eq, o_ne, o_lt, o_le, o_gt, o_ge, o_eqS, o_neS,
    decide_eq_true_eq, reduceIte, decide_true, decide_false, Bool.not_true, Bool.not_false, Bool.false_eq_true, itemsOf, asInt, bi2, endOf, isTy,
    grd_tt, nx_int, nx_bool, nx_str, nx_none, nx_tup, nx_lst, x_isC, x_fld, x_in, x_count, x_lstR, x_tupR, x_raise, x_star, bnd_thr, noX_ret, fld_x, exn_d, eSetO, Out.clear, List.zip_cons_cons, List.zip_nil_left, List.zip_nil_right, -x_callS, d4, cut_uptoI, cut_fromI, one]
    refine Ok.drawB (many := 9) (n := 0) (by decide) (by decide) fun l l0 l1 => ?_
    simp (disch := omega) only [x_var, x_con, x_bin, x_neg, x_cmp, x_chain, x_tTru, x_tNot, x_tAnd, x_tOr, x_tBool, x_tYes, x_not, x_and, x_or, x_if, x_b1, x_b2, x_is, x_idx, x_oNone, x_oSome, x_cut, x_aNil, x_aCons, x_tup, x_lst, x_call, x_callS,
    x_iSeq, x_iRng1, x_iRng2, x_bor, x_tBor, x_put1, List.map_cons, List.map_nil, List.cons_append, List.nil_append, List.length_cons, List.length_nil, Nat.zero_add, Nat.reduceAdd, Nat.reduceSub, List.reduceReplicate, start,
    List.getElem?_cons_zero, List.getElem?_cons_succ, List.set_cons_zero, List.set_cons_succ, bnd_ret, bnd_assoc, bnd_grd, b1_if, bnd_ite, small, Nat.reduceLeDiff, grd_true, o_add, o_sub, o_neg, o_eq, o_ne, o_lt, o_le, o_gt, o_ge, o_eqS, o_neS,
    decide_eq_true_eq, reduceIte, decide_true, decide_false, Bool.not_true, Bool.not_false, Bool.false_eq_true, itemsOf, asInt, bi2, endOf, isTy,
    grd_tt, nx_int, nx_bool, nx_str, nx_none, nx_tup, nx_lst, x_isC, x_fld, x_in, x_count, x_lstR, x_tupR, x_raise, x_star, bnd_thr, noX_ret, fld_x, exn_d, eSetO, Out.clear, List.zip_cons_cons, List.zip_nil_left, List.zip_nil_right, cut_uptoI, cut_fromI, one]
    rw [mk _ _ tk (by simp), bnd_ret, mk _ _ (by simp; omega) (dr _)]
    refine Ok.ret ⟨_, rfl, by simp; omega, by simp; omega, fun z hz => ?_⟩
    rcases List.mem_append.mp hz with hz | hz
    · rcases List.mem_append.mp hz with hz | hz
      · exact in_l z hz
      · simp only [List.mem_cons, List.not_mem_nil, or_false] at hz
        omega
    · exact in_r _ z hz
  · rw [x_ret]
    have rv : ∀ as : List Int, opRev (.tuple (as.map PyData.int)) = ret (.tuple (as.reverse.map PyData.int)) := fun as => by
      show ret (PyData.tuple (as.map PyData.int).reverse) = _
      rw [List.map_reverse]
    simp (disch := omega) only [x_var, x_con, x_bin, x_neg, x_cmp, x_chain, x_tTru, x_tNot, x_tAnd, x_tOr, x_tBool, x_tYes, x_not, x_and, x_or, x_if, x_b1, x_b2, x_is, x_idx, x_oNone, x_oSome, x_cut, x_aNil, x_aCons, x_tup, x_lst, x_call, x_callS,
    x_iSeq, x_iRng1, x_iRng2, x_bor, x_tBor, x_put1, List.map_cons, List.map_nil, List.cons_append, List.nil_append, List.length_cons, List.length_nil, Nat.zero_add, Nat.reduceAdd, Nat.reduceSub, List.reduceReplicate, start,
    List.getElem?_cons_zero, List.getElem?_cons_succ, List.set_cons_zero, List.set_cons_succ, bnd_ret, bnd_assoc, bnd_grd, b1_if, bnd_ite, small, Nat.reduceLeDiff, grd_true, o_add, o_sub, o_neg, o_eq, o_ne, o_lt, o_le, o_gt, o_ge, o_eqS, o_neS,
    decide_eq_true_eq, reduceIte, decide_true, decide_false, Bool.not_true, Bool.not_false, Bool.false_eq_true, itemsOf, asInt, bi2, endOf, isTy,
    grd_tt, nx_int, nx_bool, nx_str, nx_none, nx_tup, nx_lst, x_isC, x_fld, x_in, x_count, x_lstR, x_tupR, x_raise, x_star, bnd_thr, noX_ret, fld_x, exn_d, eSetO, Out.clear, List.zip_cons_cons, List.zip_nil_left, List.zip_nil_right, x_rev, cut_uptoI, cut_fromI, rv]
    refine Ok.ite (fun _ => Ok.ret ⟨ns, rfl, h⟩) fun _ => ?_
    rw [mk _ _ (by rw [List.length_take]; omega) (by rw [List.length_reverse]; exact dr _), bnd_ret]
    refine Ok.ret ⟨_, rfl, by simp; omega, by simp; omega, fun z hz => ?_⟩
    rcases List.mem_append.mp hz with hz | hz
    · exact h.words z (List.mem_of_mem_take hz)
    · exact in_r _ z (List.mem_reverse.mp hz)
end DL
end
section
namespace DL
open PySem
mutual
def sharp : D → Bool
  | .none => true
  | .int _ => true
  | .str _ => true
  | .list xs => sharpAll xs
  | .tuple xs => sharpAll xs
  | _ => false
def sharpAll : List D → Bool
  | [] => true
  | x :: xs => sharp x && sharpAll xs
end
mutual
theorem eqv_sharp : ∀ {a b : D}, sharp a = true → sharp b = true → PyData.eqv a b = true → a = b
  | .none, .none, _, _, _ => rfl
  | .int i, .int j, _, _, h => by
    simp only [PyData.eqv, beq_iff_eq] at h
    rw [h]
  | .str i, .str j, _, _, h => by
    simp only [PyData.eqv, beq_iff_eq] at h
    rw [h]
  | .list xs, .list ys, h1, h2, h => by
    simp only [PyData.eqv] at h
    rw [eqv_sharpAll (by simpa [sharp] using h1) (by simpa [sharp] using h2) h]
  | .tuple xs, .tuple ys, h1, h2, h => by
    simp only [PyData.eqv] at h
    rw [eqv_sharpAll (by simpa [sharp] using h1) (by simpa [sharp] using h2) h]
  | .bool _, _, h1, _, _ => by simp [sharp] at h1
  | .dict _, _, h1, _, _ => by simp [sharp] at h1
  | _, .bool _, _, h2, _ => by simp [sharp] at h2
  | _, .dict _, _, h2, _ => by simp [sharp] at h2
  | .none, .int _, _, _, h => by simp [PyData.eqv] at h
  | .none, .str _, _, _, h => by simp [PyData.eqv] at h
  | .none, .list _, _, _, h => by simp [PyData.eqv] at h
  | .none, .tuple _, _, _, h => by simp [PyData.eqv] at h
  | .int _, .none, _, _, h => by simp [PyData.eqv] at h
  | .int _, .str _, _, _, h => by simp [PyData.eqv] at h
  | .int _, .list _, _, _, h => by simp [PyData.eqv] at h
  | .int _, .tuple _, _, _, h => by simp [PyData.eqv] at h
  | .str _, .none, _, _, h => by simp [PyData.eqv] at h
  | .str _, .int _, _, _, h => by simp [PyData.eqv] at h
  | .str _, .list _, _, _, h => by simp [PyData.eqv] at h
  | .str _, .tuple _, _, _, h => by simp [PyData.eqv] at h
  | .list _, .none, _, _, h => by simp [PyData.eqv] at h
  | .list _, .int _, _, _, h => by simp [PyData.eqv] at h
  | .list _, .str _, _, _, h => by simp [PyData.eqv] at h
  | .list _, .tuple _, _, _, h => by simp [PyData.eqv] at h
  | .tuple _, .none, _, _, h => by simp [PyData.eqv] at h
  | .tuple _, .int _, _, _, h => by simp [PyData.eqv] at h
  | .tuple _, .str _, _, _, h => by simp [PyData.eqv] at h
  | .tuple _, .list _, _, _, h => by simp [PyData.eqv] at h
theorem eqv_sharpAll : ∀ {a b : List D}, sharpAll a = true → sharpAll b = true → PyData.eqvAll a b = true → a = b
  | [], [], _, _, _ => rfl
  | x :: xs, y :: ys, h1, h2, h => by
    simp only [sharpAll, Bool.and_eq_true] at h1 h2
    simp only [PyData.eqvAll, Bool.and_eq_true] at h
    rw [eqv_sharp h1.1 h2.1 h.1, eqv_sharpAll h1.2 h2.2 h.2]
  | [], _ :: _, _, _, h => by simp [PyData.eqvAll] at h
  | _ :: _, [], _, _, h => by simp [PyData.eqvAll] at h
end
/-- what is compared as it is written; how deep -/
structure Shx (k : Nat) (d : D) : Prop extends Shp k d where
  sh : sharp d = true
theorem shx_int (i : Int) : Shx 0 (.int i) := ⟨shp_int i, rfl⟩
theorem Shx.mono {k k' : Nat} {d : D} (h : Shx k d) (hk : k ≤ k') : Shx k' d := ⟨h.toShp.mono hk, h.sh⟩
theorem sharp_all : ∀ {ds : List D}, (∀ d ∈ ds, sharp d = true) → sharpAll ds = true
  | [], _ => rfl
  | d :: ds, h => by
    show (sharp d && sharpAll ds) = true
    rw [h d (.head _), sharp_all fun x hx => h x (.tail _ hx)]
    rfl
theorem shx_tup {k : Nat} {ds : List D} (h : ∀ d ∈ ds, Shx k d) : Shx (k + 1) (.tuple ds) := ⟨shp_tup fun d hd => (h d hd).toShp, sharp_all fun d hd => (h d hd).sh⟩
theorem shx_lst {k : Nat} {ds : List D} (h : ∀ d ∈ ds, Shx k d) : Shx (k + 1) (.list ds) := ⟨shp_lst fun d hd => (h d hd).toShp, sharp_all fun d hd => (h d hd).sh⟩
theorem shx_nil {k : Nat} : ∀ d ∈ ([] : List D), Shx k d := fun d hd => by cases hd
theorem shx_cons {k : Nat} {d : D} {ds : List D} (h : Shx k d) (h2 : ∀ d ∈ ds, Shx k d) : ∀ x ∈ d :: ds, Shx k x := fun x hx => by
  rcases List.mem_cons.mp hx with rfl | hx
  · exact h
  · exact h2 x hx
theorem shx_ints (ns : List Int) : Shx 1 (.tuple (ns.map PyData.int)) := shx_tup fun d hd => by
  obtain ⟨x, _, rfl⟩ := List.mem_map.mp hd
  exact shx_int x
section
variable {α : Type} [DecidableEq α] {f : α → D} {k : Nat}
theorem o_eqInj (hf : ∀ x y, f x = f y → x = y) (hs : ∀ x, Shx k (f x)) (hk : k ≤ 64) (a b : α) : opCmp .eq (f a) (f b) = ret (decide (a = b)) := by
  show opEq _ _ = _
  unfold opEq
  rw [grd_pos (eqOk_of ((hs a).toShp.ok hk) ((hs b).toShp.ok hk))]
  congr 1
  rw [Bool.eq_iff_iff, decide_eq_true_eq]
  constructor
  · intro h
    exact hf a b (eqv_sharp (hs a).sh (hs b).sh h)
  · rintro rfl
    exact SeqAt.eqv_refl _ (hs a).lay
theorem o_neInj (hf : ∀ x y, f x = f y → x = y) (hs : ∀ x, Shx k (f x)) (hk : k ≤ 64) (a b : α) : opCmp .ne (f a) (f b) = ret (!decide (a = b)) := by
  show bnd (opEq _ _) _ = _
  rw [show opEq (f a) (f b) = ret (decide (a = b)) from o_eqInj hf hs hk a b]
  rfl
end
theorem map_inj {α β : Type} {f : α → β} (hf : ∀ x y, f x = f y → x = y) : ∀ {a b : List α}, a.map f = b.map f → a = b
  | [], [], _ => rfl
  | x :: xs, y :: ys, h => by
    rw [List.map_cons, List.map_cons] at h
    injection h with h1 h2
    rw [hf x y h1, map_inj hf h2]
  | [], _ :: _, h => by cases h
  | _ :: _, [], h => by cases h
end DL
end
section
namespace DL
open PySem
def entI (p : Int × List Int) : D := .tuple [.int p.1, tI p.2]
def entOk (p : Int × List Int) : Prop := 1 ≤ p.1 ∧ p.1 ≤ 1464 ∧ p.2 ≠ [] ∧ ∀ x ∈ p.2, 0 ≤ x ∧ x ≤ 24
def entB : D → Bool
  | .tuple [a, .tuple b] => intIn 1 1464 a && (!b.isEmpty && b.all (intIn 0 24))
  | _ => false
theorem is_entry_d {u : Nat} {d : D} (h : lf u d = true) (hb : PyData.bulk d ≤ 1000000) : w_is_entry_0 [d] = ret (.bool (entB d)) := by
  unfold w_is_entry_0
  refine (f_fn (by rfl)).trans ?_
  have nx := nx_plain (lf_plain h)
  cases d with
  | tuple ds =>
    have hA : lfAll u ds = true := by unfold lf at h; exact h
    match ds, hA with
    | [], _ => simp only [x_var, x_con, x_bin, x_neg, x_cmp, x_chain, x_tTru, x_tNot, x_tAnd, x_tOr, x_tBool, x_tYes, x_not, x_and, x_or, x_if, x_b1, x_b2, x_is, x_idx, x_oNone, x_oSome, x_cut, x_aNil, x_aCons, x_tup, x_lst, x_call, x_callS,
    x_iSeq, x_iRng1, x_iRng2, x_bor, x_tBor, x_put1, List.map_cons, List.map_nil, List.cons_append, List.nil_append, List.length_cons, List.length_nil, Nat.zero_add, Nat.reduceAdd, Nat.reduceSub, List.reduceReplicate, start,
    List.getElem?_cons_zero, List.getElem?_cons_succ, List.set_cons_zero, List.set_cons_succ, bnd_ret, bnd_assoc, bnd_grd, b1_if, bnd_ite, small, Nat.reduceLeDiff, grd_true, o_add, o_sub, o_neg, o_eq, o_ne, o_lt, o_le, o_gt, o_ge, o_eqS, o_neS,
    decide_eq_true_eq, reduceIte, decide_true, decide_false, Bool.not_true, Bool.not_false, Bool.false_eq_true, itemsOf, asInt, endOf, isTy,
    grd_tt, nx_int, nx_bool, nx_str, nx_none, nx_tup, nx_lst, x_isC, x_fld, x_in, x_count, x_lstR, x_tupR, x_raise, x_star, bnd_thr, noX_ret, fld_x, exn_d, eSetO, Out.clear, List.zip_cons_cons, List.zip_nil_left, List.zip_nil_right, s_asg, s_par, s_own, s_parO, s_put, s_expr, s_ret, s_skip, s_seq, s_rel, x_asg, x_par, x_own, x_parO, x_put, x_expr, x_ret, x_retN, x_skip, x_rel, x_app, x_setI, x_sIf, x_for, x_brk, x_cnt, b_lenT, b_lenL, b_tupL, b_tupT, b_max2, b_min2, o_addL, o_addT, cut_ints, sum_ints, s_chk, s_for, s_brk, s_cnt, s_retN, t_bool, g_rng, g_le, List.length_map]; rfl
    | [a], _ => simp only [x_var, x_con, x_bin, x_neg, x_cmp, x_chain, x_tTru, x_tNot, x_tAnd, x_tOr, x_tBool, x_tYes, x_not, x_and, x_or, x_if, x_b1, x_b2, x_is, x_idx, x_oNone, x_oSome, x_cut, x_aNil, x_aCons, x_tup, x_lst, x_call, x_callS,
    x_iSeq, x_iRng1, x_iRng2, x_bor, x_tBor, x_put1, List.map_cons, List.map_nil, List.cons_append, List.nil_append, List.length_cons, List.length_nil, Nat.zero_add, Nat.reduceAdd, Nat.reduceSub, List.reduceReplicate, start,
    List.getElem?_cons_zero, List.getElem?_cons_succ, List.set_cons_zero, List.set_cons_succ, bnd_ret, bnd_assoc, bnd_grd, b1_if, bnd_ite, small, Nat.reduceLeDiff, grd_true, o_add, o_sub, o_neg, o_eq, o_ne, o_lt, o_le, o_gt, o_ge, o_eqS, o_neS,
    decide_eq_true_eq, reduceIte, decide_true, decide_false, Bool.not_true, Bool.not_false, Bool.false_eq_true, itemsOf, asInt, endOf, isTy,
    grd_tt, nx_int, nx_bool, nx_str, nx_none, nx_tup, nx_lst, x_isC, x_fld, x_in, x_count, x_lstR, x_tupR, x_raise, x_star, bnd_thr, noX_ret, fld_x, exn_d, eSetO, Out.clear, List.zip_cons_cons, List.zip_nil_left, List.zip_nil_right, s_asg, s_par, s_own, s_parO, s_put, s_expr, s_ret, s_skip, s_seq, s_rel, x_asg, x_par, x_own, x_parO, x_put, x_expr, x_ret, x_retN, x_skip, x_rel, x_app, x_setI, x_sIf, x_for, x_brk, x_cnt, b_lenT, b_lenL, b_tupL, b_tupT, b_max2, b_min2, o_addL, o_addT, cut_ints, sum_ints, s_chk, s_for, s_brk, s_cnt, s_retN, t_bool, g_rng, g_le, List.length_map]; rfl
    | a :: b :: c :: r, _ =>
      try simp (disch := omega) only [x_var, x_con, x_bin, x_neg, x_cmp, x_chain, x_tTru, x_tNot, x_tAnd, x_tOr, x_tBool, x_tYes, x_not, x_and, x_or, x_if, x_b1, x_b2, x_is, x_idx, x_oNone, x_oSome, x_cut, x_aNil, x_aCons, x_tup, x_lst, x_call, x_callS,
    x_iSeq, x_iRng1, x_iRng2, x_bor, x_tBor, x_put1, List.map_cons, List.map_nil, List.cons_append, List.nil_append, List.length_cons, List.length_nil, Nat.zero_add, Nat.reduceAdd, Nat.reduceSub, List.reduceReplicate, start,
    List.getElem?_cons_zero, List.getElem?_cons_succ, List.set_cons_zero, List.set_cons_succ, bnd_ret, bnd_assoc, bnd_grd, b1_if, bnd_ite, small, Nat.reduceLeDiff, grd_true, o_add, o_sub, o_neg, o_eq, o_ne, o_lt, o_le, o_gt, o_ge, o_eqS, o_neS,
    decide_eq_true_eq, reduceIte, decide_true, decide_false, Bool.not_true, Bool.not_false, Bool.false_eq_true, itemsOf, asInt, endOf, isTy,
    grd_tt, nx_int, nx_bool, nx_str, nx_none, nx_tup, nx_lst, x_isC, x_fld, x_in, x_count, x_lstR, x_tupR, x_raise, x_star, bnd_thr, noX_ret, fld_x, exn_d, eSetO, Out.clear, List.zip_cons_cons, List.zip_nil_left, List.zip_nil_right, s_asg, s_par, s_own, s_parO, s_put, s_expr, s_ret, s_skip, s_seq, s_rel, x_asg, x_par, x_own, x_parO, x_put, x_expr, x_ret, x_retN, x_skip, x_rel, x_app, x_setI, x_sIf, x_for, x_brk, x_cnt, b_lenT, b_lenL, b_tupL, b_tupT, b_max2, b_min2, o_addL, o_addT, cut_ints, sum_ints, s_chk, s_for, s_brk, s_cnt, s_retN, t_bool, g_rng, g_le, List.length_map]
      rw [if_pos (by rw [decide_eq_false (by omega)]; rfl)]
      cases b <;> rfl
    | [a, b], hA =>
      have na := lfA_nx hA a (by simp)
      have nb := lfA_nx hA b (by simp)
      have i0 : opIdx (.tuple [a, b]) (.int 0) = ret a := rfl
      have i1 : opIdx (.tuple [a, b]) (.int 1) = ret b := rfl
      cases ha : intIn 1 1464 a with
      | false =>
        try simp only [x_var, x_con, x_bin, x_neg, x_cmp, x_chain, x_tTru, x_tNot, x_tAnd, x_tOr, x_tBool, x_tYes, x_not, x_and, x_or, x_if, x_b1, x_b2, x_is, x_idx, x_oNone, x_oSome, x_cut, x_aNil, x_aCons, x_tup, x_lst, x_call, x_callS,
    x_iSeq, x_iRng1, x_iRng2, x_bor, x_tBor, x_put1, List.map_cons, List.map_nil, List.cons_append, List.nil_append, List.length_cons, List.length_nil, Nat.zero_add, Nat.reduceAdd, Nat.reduceSub, List.reduceReplicate, start,
    List.getElem?_cons_zero, List.getElem?_cons_succ, List.set_cons_zero, List.set_cons_succ, bnd_ret, bnd_assoc, bnd_grd, b1_if, bnd_ite, small, Nat.reduceLeDiff, grd_true, o_add, o_sub, o_neg, o_eq, o_ne, o_lt, o_le, o_gt, o_ge, o_eqS, o_neS,
    decide_eq_true_eq, reduceIte, decide_true, decide_false, Bool.not_true, Bool.not_false, Bool.false_eq_true, itemsOf, asInt, endOf, isTy,
    grd_tt, nx_int, nx_bool, nx_str, nx_none, nx_tup, nx_lst, x_isC, x_fld, x_in, x_count, x_lstR, x_tupR, x_raise, x_star, bnd_thr, noX_ret, fld_x, exn_d, eSetO, Out.clear, List.zip_cons_cons, List.zip_nil_left, List.zip_nil_right, s_asg, s_par, s_own, s_parO, s_put, s_expr, s_ret, s_skip, s_seq, s_rel, x_asg, x_par, x_own, x_parO, x_put, x_expr, x_ret, x_retN, x_skip, x_rel, x_app, x_setI, x_sIf, x_for, x_brk, x_cnt, b_lenT, b_lenL, b_tupL, b_tupT, b_max2, b_min2, o_addL, o_addT, cut_ints, sum_ints, s_chk, s_for, s_brk, s_cnt, s_retN, t_bool, g_rng, g_le, List.length_map, i0, is_integer_d na, ha]
        cases b <;> simp [entB, ha]
      | true =>
        cases b with
        | tuple bs =>
          have hB : lfAll u bs = true := by
            unfold lfAll at hA
            simp only [Bool.and_eq_true] at hA
            have h2 := hA.2
            unfold lfAll at h2
            simp only [Bool.and_eq_true] at h2
            have h3 := h2.1
            unfold lf at h3
            exact h3
          have hl : bs.length ≤ 1000000 := by
            have := len_bulk bs
            unfold PyData.bulk PyData.bulkAll PyData.bulkAll PyData.bulk at hb
            omega
          cases bs with
          | nil =>
            try simp only [x_var, x_con, x_bin, x_neg, x_cmp, x_chain, x_tTru, x_tNot, x_tAnd, x_tOr, x_tBool, x_tYes, x_not, x_and, x_or, x_if, x_b1, x_b2, x_is, x_idx, x_oNone, x_oSome, x_cut, x_aNil, x_aCons, x_tup, x_lst, x_call, x_callS,
    x_iSeq, x_iRng1, x_iRng2, x_bor, x_tBor, x_put1, List.map_cons, List.map_nil, List.cons_append, List.nil_append, List.length_cons, List.length_nil, Nat.zero_add, Nat.reduceAdd, Nat.reduceSub, List.reduceReplicate, start,
    List.getElem?_cons_zero, List.getElem?_cons_succ, List.set_cons_zero, List.set_cons_succ, bnd_ret, bnd_assoc, bnd_grd, b1_if, bnd_ite, small, Nat.reduceLeDiff, grd_true, o_add, o_sub, o_neg, o_eq, o_ne, o_lt, o_le, o_gt, o_ge, o_eqS, o_neS,
    decide_eq_true_eq, reduceIte, decide_true, decide_false, Bool.not_true, Bool.not_false, Bool.false_eq_true, itemsOf, asInt, endOf, isTy,
    grd_tt, nx_int, nx_bool, nx_str, nx_none, nx_tup, nx_lst, x_isC, x_fld, x_in, x_count, x_lstR, x_tupR, x_raise, x_star, bnd_thr, noX_ret, fld_x, exn_d, eSetO, Out.clear, List.zip_cons_cons, List.zip_nil_left, List.zip_nil_right, s_asg, s_par, s_own, s_parO, s_put, s_expr, s_ret, s_skip, s_seq, s_rel, x_asg, x_par, x_own, x_parO, x_put, x_expr, x_ret, x_retN, x_skip, x_rel, x_app, x_setI, x_sIf, x_for, x_brk, x_cnt, b_lenT, b_lenL, b_tupL, b_tupT, b_max2, b_min2, o_addL, o_addT, cut_ints, sum_ints, s_chk, s_for, s_brk, s_cnt, s_retN, t_bool, g_rng, g_le, List.length_map, i0, i1, is_integer_d na, ha, o_neNilT0]
            simp [entB, ha]
          | cons b0 bs0 =>
            try simp only [x_var, x_con, x_bin, x_neg, x_cmp, x_chain, x_tTru, x_tNot, x_tAnd, x_tOr, x_tBool, x_tYes, x_not, x_and, x_or, x_if, x_b1, x_b2, x_is, x_idx, x_oNone, x_oSome, x_cut, x_aNil, x_aCons, x_tup, x_lst, x_call, x_callS,
    x_iSeq, x_iRng1, x_iRng2, x_bor, x_tBor, x_put1, List.map_cons, List.map_nil, List.cons_append, List.nil_append, List.length_cons, List.length_nil, Nat.zero_add, Nat.reduceAdd, Nat.reduceSub, List.reduceReplicate, start,
    List.getElem?_cons_zero, List.getElem?_cons_succ, List.set_cons_zero, List.set_cons_succ, bnd_ret, bnd_assoc, bnd_grd, b1_if, bnd_ite, small, Nat.reduceLeDiff, grd_true, o_add, o_sub, o_neg, o_eq, o_ne, o_lt, o_le, o_gt, o_ge, o_eqS, o_neS,
    decide_eq_true_eq, reduceIte, decide_true, decide_false, Bool.not_true, Bool.not_false, Bool.false_eq_true, itemsOf, asInt, endOf, isTy,
    grd_tt, nx_int, nx_bool, nx_str, nx_none, nx_tup, nx_lst, x_isC, x_fld, x_in, x_count, x_lstR, x_tupR, x_raise, x_star, bnd_thr, noX_ret, fld_x, exn_d, eSetO, Out.clear, List.zip_cons_cons, List.zip_nil_left, List.zip_nil_right, s_asg, s_par, s_own, s_parO, s_put, s_expr, s_ret, s_skip, s_seq, s_rel, x_asg, x_par, x_own, x_parO, x_put, x_expr, x_ret, x_retN, x_skip, x_rel, x_app, x_setI, x_sIf, x_for, x_brk, x_cnt, b_lenT, b_lenL, b_tupL, b_tupT, b_max2, b_min2, o_addL, o_addT, cut_ints, sum_ints, s_chk, s_for, s_brk, s_cnt, s_retN, t_bool, g_rng, g_le, List.length_map, i0, i1, is_integer_d na, ha, o_neNilT0, List.isEmpty_cons, x_comp, wipeE]
            rw [comp_map (fun d => .bool (intIn 0 24 d)) (b0 :: bs0) [] (by simpa using hl) (fun d hd => ⟨_, rfl, rfl, by
              simp only [x_var, x_con, x_bin, x_neg, x_cmp, x_chain, x_tTru, x_tNot, x_tAnd, x_tOr, x_tBool, x_tYes, x_not, x_and, x_or, x_if, x_b1, x_b2, x_is, x_idx, x_oNone, x_oSome, x_cut, x_aNil, x_aCons, x_tup, x_lst, x_call, x_callS,
    x_iSeq, x_iRng1, x_iRng2, x_bor, x_tBor, x_put1, List.map_cons, List.map_nil, List.cons_append, List.nil_append, List.length_cons, List.length_nil, Nat.zero_add, Nat.reduceAdd, Nat.reduceSub, List.reduceReplicate, start,
    List.getElem?_cons_zero, List.getElem?_cons_succ, List.set_cons_zero, List.set_cons_succ, bnd_ret, bnd_assoc, bnd_grd, b1_if, bnd_ite, small, Nat.reduceLeDiff, grd_true, o_add, o_sub, o_neg, o_eq, o_ne, o_lt, o_le, o_gt, o_ge, o_eqS, o_neS,
    decide_eq_true_eq, reduceIte, decide_true, decide_false, Bool.not_true, Bool.not_false, Bool.false_eq_true, itemsOf, asInt, endOf, isTy,
    grd_tt, nx_int, nx_bool, nx_str, nx_none, nx_tup, nx_lst, x_isC, x_fld, x_in, x_count, x_lstR, x_tupR, x_raise, x_star, bnd_thr, noX_ret, fld_x, exn_d, eSetO, Out.clear, List.zip_cons_cons, List.zip_nil_left, List.zip_nil_right, s_asg, s_par, s_own, s_parO, s_put, s_expr, s_ret, s_skip, s_seq, s_rel, x_asg, x_par, x_own, x_parO, x_put, x_expr, x_ret, x_retN, x_skip, x_rel, x_app, x_setI, x_sIf, x_for, x_brk, x_cnt, b_lenT, b_lenL, b_tupL, b_tupT, b_max2, b_min2, o_addL, o_addT, cut_ints, sum_ints, s_chk, s_for, s_brk, s_cnt, s_retN, t_bool, g_rng, g_le, List.length_map, is_integer_d (lfA_nx hB d hd)]⟩)]
            try simp only [x_var, x_con, x_bin, x_neg, x_cmp, x_chain, x_tTru, x_tNot, x_tAnd, x_tOr, x_tBool, x_tYes, x_not, x_and, x_or, x_if, x_b1, x_b2, x_is, x_idx, x_oNone, x_oSome, x_cut, x_aNil, x_aCons, x_tup, x_lst, x_call, x_callS,
    x_iSeq, x_iRng1, x_iRng2, x_bor, x_tBor, x_put1, List.map_cons, List.map_nil, List.cons_append, List.nil_append, List.length_cons, List.length_nil, Nat.zero_add, Nat.reduceAdd, Nat.reduceSub, List.reduceReplicate, start,
    List.getElem?_cons_zero, List.getElem?_cons_succ, List.set_cons_zero, List.set_cons_succ, bnd_ret, bnd_assoc, bnd_grd, b1_if, bnd_ite, small, Nat.reduceLeDiff, grd_true, o_add, o_sub, o_neg, o_eq, o_ne, o_lt, o_le, o_gt, o_ge, o_eqS, o_neS,
    decide_eq_true_eq, reduceIte, decide_true, decide_false, Bool.not_true, Bool.not_false, Bool.false_eq_true, itemsOf, asInt, endOf, isTy,
    grd_tt, nx_int, nx_bool, nx_str, nx_none, nx_tup, nx_lst, x_isC, x_fld, x_in, x_count, x_lstR, x_tupR, x_raise, x_star, bnd_thr, noX_ret, fld_x, exn_d, eSetO, Out.clear, List.zip_cons_cons, List.zip_nil_left, List.zip_nil_right, s_asg, s_par, s_own, s_parO, s_put, s_expr, s_ret, s_skip, s_seq, s_rel, x_asg, x_par, x_own, x_parO, x_put, x_expr, x_ret, x_retN, x_skip, x_rel, x_app, x_setI, x_sIf, x_for, x_brk, x_cnt, b_lenT, b_lenL, b_tupL, b_tupT, b_max2, b_min2, o_addL, o_addT, cut_ints, sum_ints, s_chk, s_for, s_brk, s_cnt, s_retN, t_bool, g_rng, g_le, List.length_map, List.nil_append]
            rw [← List.map_cons (f := fun d => PyData.bool (intIn 0 24 d)), all_bools]
            simp [entB, ha]
        | _ =>
          try simp only [x_var, x_con, x_bin, x_neg, x_cmp, x_chain, x_tTru, x_tNot, x_tAnd, x_tOr, x_tBool, x_tYes, x_not, x_and, x_or, x_if, x_b1, x_b2, x_is, x_idx, x_oNone, x_oSome, x_cut, x_aNil, x_aCons, x_tup, x_lst, x_call, x_callS,
    x_iSeq, x_iRng1, x_iRng2, x_bor, x_tBor, x_put1, List.map_cons, List.map_nil, List.cons_append, List.nil_append, List.length_cons, List.length_nil, Nat.zero_add, Nat.reduceAdd, Nat.reduceSub, List.reduceReplicate, start,
    List.getElem?_cons_zero, List.getElem?_cons_succ, List.set_cons_zero, List.set_cons_succ, bnd_ret, bnd_assoc, bnd_grd, b1_if, bnd_ite, small, Nat.reduceLeDiff, grd_true, o_add, o_sub, o_neg, o_eq, o_ne, o_lt, o_le, o_gt, o_ge, o_eqS, o_neS,
    decide_eq_true_eq, reduceIte, decide_true, decide_false, Bool.not_true, Bool.not_false, Bool.false_eq_true, itemsOf, asInt, endOf, isTy,
    grd_tt, nx_int, nx_bool, nx_str, nx_none, nx_tup, nx_lst, x_isC, x_fld, x_in, x_count, x_lstR, x_tupR, x_raise, x_star, bnd_thr, noX_ret, fld_x, exn_d, eSetO, Out.clear, List.zip_cons_cons, List.zip_nil_left, List.zip_nil_right, s_asg, s_par, s_own, s_parO, s_put, s_expr, s_ret, s_skip, s_seq, s_rel, x_asg, x_par, x_own, x_parO, x_put, x_expr, x_ret, x_retN, x_skip, x_rel, x_app, x_setI, x_sIf, x_for, x_brk, x_cnt, b_lenT, b_lenL, b_tupL, b_tupT, b_max2, b_min2, o_addL, o_addT, cut_ints, sum_ints, s_chk, s_for, s_brk, s_cnt, s_retN, t_bool, g_rng, g_le, List.length_map, i0, i1, is_integer_d na, ha, nb]
          simp [entB, ha]
  | _ =>
    try simp only [x_var, x_con, x_bin, x_neg, x_cmp, x_chain, x_tTru, x_tNot, x_tAnd, x_tOr, x_tBool, x_tYes, x_not, x_and, x_or, x_if, x_b1, x_b2, x_is, x_idx, x_oNone, x_oSome, x_cut, x_aNil, x_aCons, x_tup, x_lst, x_call, x_callS,
    x_iSeq, x_iRng1, x_iRng2, x_bor, x_tBor, x_put1, List.map_cons, List.map_nil, List.cons_append, List.nil_append, List.length_cons, List.length_nil, Nat.zero_add, Nat.reduceAdd, Nat.reduceSub, List.reduceReplicate, start,
    List.getElem?_cons_zero, List.getElem?_cons_succ, List.set_cons_zero, List.set_cons_succ, bnd_ret, bnd_assoc, bnd_grd, b1_if, bnd_ite, small, Nat.reduceLeDiff, grd_true, o_add, o_sub, o_neg, o_eq, o_ne, o_lt, o_le, o_gt, o_ge, o_eqS, o_neS,
    decide_eq_true_eq, reduceIte, decide_true, decide_false, Bool.not_true, Bool.not_false, Bool.false_eq_true, itemsOf, asInt, endOf, isTy,
    grd_tt, nx_int, nx_bool, nx_str, nx_none, nx_tup, nx_lst, x_isC, x_fld, x_in, x_count, x_lstR, x_tupR, x_raise, x_star, bnd_thr, noX_ret, fld_x, exn_d, eSetO, Out.clear, List.zip_cons_cons, List.zip_nil_left, List.zip_nil_right, s_asg, s_par, s_own, s_parO, s_put, s_expr, s_ret, s_skip, s_seq, s_rel, x_asg, x_par, x_own, x_parO, x_put, x_expr, x_ret, x_retN, x_skip, x_rel, x_app, x_setI, x_sIf, x_for, x_brk, x_cnt, b_lenT, b_lenL, b_tupL, b_tupT, b_max2, b_min2, o_addL, o_addT, cut_ints, sum_ints, s_chk, s_for, s_brk, s_cnt, s_retN, t_bool, g_rng, g_le, List.length_map, nx]
    rfl
theorem entB_entI {p : Int × List Int} (h : entOk p) : entB (entI p) = true := by
  obtain ⟨h1, h2, h3, h4⟩ := h
  unfold entB entI tI
  have e1 : intIn 1 1464 (.int p.1) = true := decide_eq_true ⟨h1, h2⟩
  have e2 : (p.2.map PyData.int).all (intIn 0 24) = true := by
    rw [List.all_map, List.all_eq_true]
    intro x hx
    exact decide_eq_true (h4 x hx)
  have e3 : (p.2.map PyData.int).isEmpty = false := by
    cases hh : p.2 with
    | nil => exact absurd hh h3
    | cons a b => rfl
  show (intIn 1 1464 (.int p.1) && (!(p.2.map PyData.int).isEmpty && (p.2.map PyData.int).all (intIn 0 24))) = true
  rw [e1, e2, e3]
  rfl
/-- the row's words lie between 1 and the greatest -/
theorem rowsN_rng : ∀ (n : Nat) (most s : Int) (r : List Int), r ∈ rowsN n most s → ∀ x ∈ r, 1 ≤ x ∧ x ≤ most
  | 0, _, _, r, h => by simp [rowsN] at h
  | 1, most, s, r, h => by
    unfold rowsN at h
    split at h
    · rename_i c
      rw [List.mem_singleton.mp h]
      intro x hx
      rw [List.mem_singleton.mp hx]
      exact c
    · simp at h
  | n + 2, most, s, r, h => by
    rw [rowsN] at h
    obtain ⟨i, hi, h⟩ := List.mem_flatMap.mp h
    obtain ⟨q, hq, rfl⟩ := List.mem_map.mp h
    have hi := List.mem_range.mp hi
    intro x hx
    rcases List.mem_cons.mp hx with rfl | hx
    · omega
    · exact rowsN_rng (n + 1) most _ q hq x hx
theorem rowsN_sum : ∀ (n : Nat) (most s : Int) (r : List Int), r ∈ rowsN n most s → r.sum = s
  | 0, _, _, r, h => by simp [rowsN] at h
  | 1, most, s, r, h => by
    unfold rowsN at h
    split at h
    · rw [List.mem_singleton.mp h]; simp
    · simp at h
  | n + 2, most, s, r, h => by
    rw [rowsN] at h
    obtain ⟨i, _, h⟩ := List.mem_flatMap.mp h
    obtain ⟨q, hq, rfl⟩ := List.mem_map.mp h
    rw [List.sum_cons, rowsN_sum (n + 1) most _ q hq]
    omega
theorem mem_rowsN : ∀ (n : Nat) (most s : Int) (r : List Int), r.length = n → 1 ≤ n → (∀ x ∈ r, 1 ≤ x ∧ x ≤ most) → r.sum = s → r ∈ rowsN n most s
  | 0, _, _, r, _, h, _, _ => by omega
  | 1, most, s, [a], _, _, h, e => by
    have := h a (by simp)
    have e : a = s := by simpa using e
    subst e
    unfold rowsN
    rw [if_pos this]
    simp
  | n + 2, most, s, a :: r, hl, _, h, e => by
    have hr : r.length = n + 1 := by simpa using hl
    have ha := h a (by simp)
    have hw : ∀ x ∈ r, 1 ≤ x ∧ x ≤ most := fun x hx => h x (List.mem_cons_of_mem _ hx)
    have hs : (r.length : Int) ≤ r.sum := by
      clear hr hl e
      induction r with
      | nil => simp
      | cons b r ih =>
        have h1 := hw b (by simp)
        have h2 := ih (fun x hx => h x (by
          rcases List.mem_cons.mp hx with rfl | hx
          · simp
          · simp [hx])) fun x hx => hw x (List.mem_cons_of_mem _ hx)
        simp only [List.length_cons, List.sum_cons]
        omega
    rw [List.sum_cons] at e
    rw [rowsN]
    refine List.mem_flatMap.mpr ⟨(a - 1).toNat, List.mem_range.mpr (by omega), List.mem_map.mpr ⟨r, ?_, ?_⟩⟩
    · exact mem_rowsN (n + 1) most _ r hr (by omega) hw (by omega)
    · show (1 + (((a - 1).toNat : Nat) : Int)) :: r = a :: r
      rw [show (1 + (((a - 1).toNat : Nat) : Int)) = a by omega]
/-- a row's book, as data -/
def mxI (ns : List Int) : Int := match ns with
  | [] => 0
  | a :: r => greatest a r
theorem mxI_spec {ns : List Int} (h : 0 < ns.length) : bi1 .max (.tuple (ns.map PyData.int)) = ret (.int (mxI ns)) ∧ mxI ns ∈ ns := by
  match ns, h with
  | a :: r, _ =>
    obtain ⟨m, e, hm⟩ := max_ints (ns := a :: r) (by simp)
    have e2 : bi1 .max (.tuple ((a :: r).map PyData.int)) = ret (.int (greatest a r)) := by
      show bnd (intsOf (.tuple ((a :: r).map PyData.int))) _ = _
      simp only [intsOf, itemsOf, bnd_ret, ints?_map]
    have e3 : m = greatest a r := by
      rw [e] at e2
      have z : (ret (PyData.int (greatest a r)) : W D) sx0 (fun d _ => d = .int m) (fun _ _ => False) := by rw [← e2]; exact rfl
      have z : PyData.int (greatest a r) = .int m := z
      injection z with z
      exact z.symm
    subst e3
    exact ⟨e, hm⟩
def bkD (ns : List Int) : D := .tuple ((bookN ns (mxI ns)).map entD)
theorem row_of {n : Nat} {most s : Int} {r : List Int} (h : r ∈ rowsN n most s) (h1 : 1 ≤ n) (h2 : n ≤ 24) (hm : most ≤ 60) : RowM r (mxI r) := by
  have hl := rowsN_len _ _ _ _ h
  have hr := rowsN_rng _ _ _ _ h
  obtain ⟨e, hx⟩ := mxI_spec (ns := r) (by omega)
  exact ⟨by omega, by omega, fun x hx => by have := hr x hx; omega, long_all (max_long e (Int.le_refl _)), hx⟩
theorem book_of_R {r : List Int} (R : RowM r (mxI r)) : w_book_of_0 [tI r] = ret (bkD r) := by
  have h := mxI_spec R.pos
  have := R.sum
  have := R.few
  have := R.m1
  exact book_of_0 h.1 R.pos (by omega) R.n0 (by omega) (by omega) R.ms
theorem lfA_at {u : Nat} : ∀ {ds : List D}, lfAll u ds = true → ∀ d ∈ ds, lf u d = true
  | [], _, d, hd => by cases hd
  | x :: xs, h, d, hd => by
    unfold lfAll at h
    simp only [Bool.and_eq_true] at h
    rcases List.mem_cons.mp hd with rfl | hd
    · exact h.1
    · exact lfA_at h.2 d hd
theorem bulkA_at : ∀ {ds : List D} {d : D}, d ∈ ds → PyData.bulk d ≤ PyData.bulkAll ds
  | [], d, hd => by cases hd
  | x :: xs, d, hd => by
    simp only [PyData.bulkAll]
    rcases List.mem_cons.mp hd with rfl | hd
    · omega
    · have := bulkA_at hd
      omega
theorem bulk_at {ds : List D} {d : D} (h : d ∈ ds) : PyData.bulk d ≤ PyData.bulk (.tuple ds) := by
  have := bulkA_at h
  simp only [PyData.bulk]
  omega
theorem idx_last2 (xs : List D) (x y : D) : opIdx (.tuple (xs ++ [x, y])) (.int (-2)) = ret x := by
  show (match L2.atI (xs ++ [x, y]) (-2) with | some d => ret d | none => stuck) = _
  have e : L2.atI (xs ++ [x, y]) (-2) = some x := by
    unfold L2.atI L2.ixN
    rw [if_neg (by decide), List.length_append, show ([x, y] : List D).length = 2 from rfl, if_pos (by omega)]
    show (xs ++ [x, y])[(-2 + ((xs.length + 2 : Nat) : Int)).toNat]? = _
    rw [show (-2 + ((xs.length + 2 : Nat) : Int)).toNat = xs.length by omega]
    simp
  rw [e]
def bkOk : D → Bool
  | .tuple ds => !ds.isEmpty && ds.all entB
  | _ => false
theorem test_0 {v : D} {u : Nat} {e1 e2 e3 e4 : Ent} (h : lf u v = true) (hb : PyData.bulk v ≤ 1000000) : (DL.tAnd (tTru (eIs .tuple (eVar 0))) (DL.tAnd (tBool (eCmp .ne (eVar 0) (eTup (aNil)))) (tTru (eB1 .all (eComp (iSeq (eVar 0)) (.nm 4) (tYes) (eCall w_is_entry_0 (aCons (eVar 4) (aNil))) [4]))))) [.val v, e1, e2, e3, e4] = ret (bkOk v) := by
  have nx := nx_plain (lf_plain h)
  cases v with
  | tuple ds =>
    have hA : lfAll u ds = true := by unfold lf at h; exact h
    have hl : ds.length ≤ 1000000 := Nat.le_trans (len_bulk ds) (by unfold PyData.bulk at hb; exact hb)
    cases ds with
    | nil =>
      try simp only [x_var, x_con, x_bin, x_neg, x_cmp, x_chain, x_tTru, x_tNot, x_tAnd, x_tOr, x_tBool, x_tYes, x_not, x_and, x_or, x_if, x_b1, x_b2, x_is, x_idx, x_oNone, x_oSome, x_cut, x_aNil, x_aCons, x_tup, x_lst, x_call, x_callS,
    x_iSeq, x_iRng1, x_iRng2, x_bor, x_tBor, x_put1, List.map_cons, List.map_nil, List.cons_append, List.nil_append, List.length_cons, List.length_nil, Nat.zero_add, Nat.reduceAdd, Nat.reduceSub, List.reduceReplicate, start,
    List.getElem?_cons_zero, List.getElem?_cons_succ, List.set_cons_zero, List.set_cons_succ, bnd_ret, bnd_assoc, bnd_grd, b1_if, bnd_ite, small, Nat.reduceLeDiff, grd_true, o_add, o_sub, o_neg, o_eq, o_ne, o_lt, o_le, o_gt, o_ge, o_eqS, o_neS,
    decide_eq_true_eq, reduceIte, decide_true, decide_false, Bool.not_true, Bool.not_false, Bool.false_eq_true, itemsOf, asInt, endOf, isTy,
    grd_tt, nx_int, nx_bool, nx_str, nx_none, nx_tup, nx_lst, x_isC, x_fld, x_in, x_count, x_lstR, x_tupR, x_raise, x_star, bnd_thr, noX_ret, fld_x, exn_d, eSetO, Out.clear, List.zip_cons_cons, List.zip_nil_left, List.zip_nil_right, s_asg, s_par, s_own, s_parO, s_put, s_expr, s_ret, s_skip, s_seq, s_rel, x_asg, x_par, x_own, x_parO, x_put, x_expr, x_ret, x_retN, x_skip, x_rel, x_app, x_setI, x_sIf, x_for, x_brk, x_cnt, b_lenT, b_lenL, b_tupL, b_tupT, b_max2, b_min2, o_addL, o_addT, cut_ints, sum_ints, s_chk, s_for, s_brk, s_cnt, s_retN, t_bool, g_rng, g_le, List.length_map, o_neNilT0]
      rfl
    | cons d0 ds0 =>
      try simp only [x_var, x_con, x_bin, x_neg, x_cmp, x_chain, x_tTru, x_tNot, x_tAnd, x_tOr, x_tBool, x_tYes, x_not, x_and, x_or, x_if, x_b1, x_b2, x_is, x_idx, x_oNone, x_oSome, x_cut, x_aNil, x_aCons, x_tup, x_lst, x_call, x_callS,
    x_iSeq, x_iRng1, x_iRng2, x_bor, x_tBor, x_put1, List.map_cons, List.map_nil, List.cons_append, List.nil_append, List.length_cons, List.length_nil, Nat.zero_add, Nat.reduceAdd, Nat.reduceSub, List.reduceReplicate, start,
    List.getElem?_cons_zero, List.getElem?_cons_succ, List.set_cons_zero, List.set_cons_succ, bnd_ret, bnd_assoc, bnd_grd, b1_if, bnd_ite, small, Nat.reduceLeDiff, grd_true, o_add, o_sub, o_neg, o_eq, o_ne, o_lt, o_le, o_gt, o_ge, o_eqS, o_neS,
    decide_eq_true_eq, reduceIte, decide_true, decide_false, Bool.not_true, Bool.not_false, Bool.false_eq_true, itemsOf, asInt, endOf, isTy,
    grd_tt, nx_int, nx_bool, nx_str, nx_none, nx_tup, nx_lst, x_isC, x_fld, x_in, x_count, x_lstR, x_tupR, x_raise, x_star, bnd_thr, noX_ret, fld_x, exn_d, eSetO, Out.clear, List.zip_cons_cons, List.zip_nil_left, List.zip_nil_right, s_asg, s_par, s_own, s_parO, s_put, s_expr, s_ret, s_skip, s_seq, s_rel, x_asg, x_par, x_own, x_parO, x_put, x_expr, x_ret, x_retN, x_skip, x_rel, x_app, x_setI, x_sIf, x_for, x_brk, x_cnt, b_lenT, b_lenL, b_tupL, b_tupT, b_max2, b_min2, o_addL, o_addT, cut_ints, sum_ints, s_chk, s_for, s_brk, s_cnt, s_retN, t_bool, g_rng, g_le, List.length_map, o_neNilT0, List.isEmpty_cons, x_comp, wipeE]
      rw [comp_map (fun d => .bool (entB d)) (d0 :: ds0) [] (by simpa using hl) (fun d hd => ⟨_, rfl, rfl, by
        try simp only [x_var, x_con, x_bin, x_neg, x_cmp, x_chain, x_tTru, x_tNot, x_tAnd, x_tOr, x_tBool, x_tYes, x_not, x_and, x_or, x_if, x_b1, x_b2, x_is, x_idx, x_oNone, x_oSome, x_cut, x_aNil, x_aCons, x_tup, x_lst, x_call, x_callS,
    x_iSeq, x_iRng1, x_iRng2, x_bor, x_tBor, x_put1, List.map_cons, List.map_nil, List.cons_append, List.nil_append, List.length_cons, List.length_nil, Nat.zero_add, Nat.reduceAdd, Nat.reduceSub, List.reduceReplicate, start,
    List.getElem?_cons_zero, List.getElem?_cons_succ, List.set_cons_zero, List.set_cons_succ, bnd_ret, bnd_assoc, bnd_grd, b1_if, bnd_ite, small, Nat.reduceLeDiff, grd_true, o_add, o_sub, o_neg, o_eq, o_ne, o_lt, o_le, o_gt, o_ge, o_eqS, o_neS,
    decide_eq_true_eq, reduceIte, decide_true, decide_false, Bool.not_true, Bool.not_false, Bool.false_eq_true, itemsOf, asInt, endOf, isTy,
    grd_tt, nx_int, nx_bool, nx_str, nx_none, nx_tup, nx_lst, x_isC, x_fld, x_in, x_count, x_lstR, x_tupR, x_raise, x_star, bnd_thr, noX_ret, fld_x, exn_d, eSetO, Out.clear, List.zip_cons_cons, List.zip_nil_left, List.zip_nil_right, s_asg, s_par, s_own, s_parO, s_put, s_expr, s_ret, s_skip, s_seq, s_rel, x_asg, x_par, x_own, x_parO, x_put, x_expr, x_ret, x_retN, x_skip, x_rel, x_app, x_setI, x_sIf, x_for, x_brk, x_cnt, b_lenT, b_lenL, b_tupL, b_tupT, b_max2, b_min2, o_addL, o_addT, cut_ints, sum_ints, s_chk, s_for, s_brk, s_cnt, s_retN, t_bool, g_rng, g_le, List.length_map]
        exact is_entry_d (lfA_at hA d hd) (Nat.le_trans (bulk_at hd) hb)⟩)]
      try simp only [x_var, x_con, x_bin, x_neg, x_cmp, x_chain, x_tTru, x_tNot, x_tAnd, x_tOr, x_tBool, x_tYes, x_not, x_and, x_or, x_if, x_b1, x_b2, x_is, x_idx, x_oNone, x_oSome, x_cut, x_aNil, x_aCons, x_tup, x_lst, x_call, x_callS,
    x_iSeq, x_iRng1, x_iRng2, x_bor, x_tBor, x_put1, List.map_cons, List.map_nil, List.cons_append, List.nil_append, List.length_cons, List.length_nil, Nat.zero_add, Nat.reduceAdd, Nat.reduceSub, List.reduceReplicate, start,
    List.getElem?_cons_zero, List.getElem?_cons_succ, List.set_cons_zero, List.set_cons_succ, bnd_ret, bnd_assoc, bnd_grd, b1_if, bnd_ite, small, Nat.reduceLeDiff, grd_true, o_add, o_sub, o_neg, o_eq, o_ne, o_lt, o_le, o_gt, o_ge, o_eqS, o_neS,
    decide_eq_true_eq, reduceIte, decide_true, decide_false, Bool.not_true, Bool.not_false, Bool.false_eq_true, itemsOf, asInt, endOf, isTy,
    grd_tt, nx_int, nx_bool, nx_str, nx_none, nx_tup, nx_lst, x_isC, x_fld, x_in, x_count, x_lstR, x_tupR, x_raise, x_star, bnd_thr, noX_ret, fld_x, exn_d, eSetO, Out.clear, List.zip_cons_cons, List.zip_nil_left, List.zip_nil_right, s_asg, s_par, s_own, s_parO, s_put, s_expr, s_ret, s_skip, s_seq, s_rel, x_asg, x_par, x_own, x_parO, x_put, x_expr, x_ret, x_retN, x_skip, x_rel, x_app, x_setI, x_sIf, x_for, x_brk, x_cnt, b_lenT, b_lenL, b_tupL, b_tupT, b_max2, b_min2, o_addL, o_addT, cut_ints, sum_ints, s_chk, s_for, s_brk, s_cnt, s_retN, t_bool, g_rng, g_le, List.length_map, List.nil_append]
      rw [← List.map_cons (f := fun d => PyData.bool (entB d)), all_bools]
      simp [bkOk, t_bool]
  | _ =>
    try simp only [x_var, x_con, x_bin, x_neg, x_cmp, x_chain, x_tTru, x_tNot, x_tAnd, x_tOr, x_tBool, x_tYes, x_not, x_and, x_or, x_if, x_b1, x_b2, x_is, x_idx, x_oNone, x_oSome, x_cut, x_aNil, x_aCons, x_tup, x_lst, x_call, x_callS,
    x_iSeq, x_iRng1, x_iRng2, x_bor, x_tBor, x_put1, List.map_cons, List.map_nil, List.cons_append, List.nil_append, List.length_cons, List.length_nil, Nat.zero_add, Nat.reduceAdd, Nat.reduceSub, List.reduceReplicate, start,
    List.getElem?_cons_zero, List.getElem?_cons_succ, List.set_cons_zero, List.set_cons_succ, bnd_ret, bnd_assoc, bnd_grd, b1_if, bnd_ite, small, Nat.reduceLeDiff, grd_true, o_add, o_sub, o_neg, o_eq, o_ne, o_lt, o_le, o_gt, o_ge, o_eqS, o_neS,
    decide_eq_true_eq, reduceIte, decide_true, decide_false, Bool.not_true, Bool.not_false, Bool.false_eq_true, itemsOf, asInt, endOf, isTy,
    grd_tt, nx_int, nx_bool, nx_str, nx_none, nx_tup, nx_lst, x_isC, x_fld, x_in, x_count, x_lstR, x_tupR, x_raise, x_star, bnd_thr, noX_ret, fld_x, exn_d, eSetO, Out.clear, List.zip_cons_cons, List.zip_nil_left, List.zip_nil_right, s_asg, s_par, s_own, s_parO, s_put, s_expr, s_ret, s_skip, s_seq, s_rel, x_asg, x_par, x_own, x_parO, x_put, x_expr, x_ret, x_retN, x_skip, x_rel, x_app, x_setI, x_sIf, x_for, x_brk, x_cnt, b_lenT, b_lenL, b_tupL, b_tupT, b_max2, b_min2, o_addL, o_addT, cut_ints, sum_ints, s_chk, s_for, s_brk, s_cnt, s_retN, t_bool, g_rng, g_le, List.length_map, nx]
    rfl
/-- how many words the row of a book has -/
def manyE (es : List (Int × List Int)) : Int := match es.reverse with
  | _ :: q :: _ => q.2.getLastD 0 + 1
  | _ => 1
theorem manyE_two (P : List (Int × List Int)) (q z : Int × List Int) : manyE (P ++ [q, z]) = q.2.getLastD 0 + 1 := by
  unfold manyE
  rw [List.reverse_append]
  rfl
theorem last_int {l : List Int} (h : l ≠ []) : opIdx (tI l) (.int (-1)) = ret (.int (l.getLastD 0)) := by
  obtain ⟨P, x, rfl⟩ : ∃ P x, l = P ++ [x] := ⟨l.dropLast, l.getLast h, (List.dropLast_concat_getLast h).symm⟩
  show opIdx (.tuple ((P ++ [x]).map PyData.int)) _ = _
  rw [List.map_append]
  refine (idx_lastT _ _).trans ?_
  rw [List.getLastD_concat]
def lastE (es : List (Int × List Int)) : Int := (es.getLastD (0, [])).1
def firstE (es : List (Int × List Int)) : Int := (es.headD (0, [])).1
theorem shx_entI (p : Int × List Int) : Shx 2 (entI p) := shx_tup (shx_cons ((shx_int _).mono (by decide)) (shx_cons (shx_ints _) shx_nil))
def bkE (r : List Int) : List (Int × List Int) := (bookN r (mxI r)).map fun p => (p.1, p.2.map fun (n : Nat) => (n : Int))
theorem bkD_E (r : List Int) : bkD r = .tuple ((bkE r).map entI) := by
  unfold bkD bkE
  rw [List.map_map]
  congr 1
  refine List.map_congr_left fun p _ => ?_
  show entD p = entI (p.1, p.2.map fun (n : Nat) => (n : Int))
  unfold entD entI tI natsD
  rw [List.map_map]
  rfl
theorem tI_inj {a b : List Int} (h : tI a = tI b) : a = b := map_inj (fun x y e => by injection e) (PyData.tuple.inj h)
theorem entI_inj {p q : Int × List Int} (h : entI p = entI q) : p = q := by
  obtain ⟨a, b⟩ := p
  obtain ⟨c, d⟩ := q
  have h := PyData.tuple.inj h
  injection h with h1 h2
  injection h2 with h2 _
  injection h1 with h1
  exact Prod.ext h1 (tI_inj h2)
theorem es_inj {a b : List (Int × List Int)} (h : PyData.tuple (a.map entI) = .tuple (b.map entI)) : a = b := map_inj (fun _ _ e => entI_inj e) (PyData.tuple.inj h)
theorem shx_es (es : List (Int × List Int)) : Shx 3 (.tuple (es.map entI)) := shx_tup fun d hd => by
  obtain ⟨p, _, rfl⟩ := List.mem_map.mp hd
  exact shx_entI p
theorem eq_bk (a b : List (Int × List Int)) : opCmp .eq (.tuple (a.map entI)) (.tuple (b.map entI)) = ret (decide (a = b)) :=
  o_eqInj (f := fun es : List (Int × List Int) => PyData.tuple (es.map entI)) (fun _ _ h => es_inj h) shx_es (by decide) a b
theorem ne_bk (a b : List (Int × List Int)) : opCmp .ne (.tuple (a.map entI)) (.tuple (b.map entI)) = ret (!decide (a = b)) :=
  o_neInj (f := fun es : List (Int × List Int) => PyData.tuple (es.map entI)) (fun _ _ h => es_inj h) shx_es (by decide) a b
theorem flat_es (es : List (Int × List Int)) : flat (.tuple (es.map entI)) = true := by
  show flatAll (es.map entI) = true
  induction es with
  | nil => rfl
  | cons p es ih =>
    show (flat (entI p) && flatAll (es.map entI)) = true
    rw [ih]
    show ((flatAll [.int p.1, tI p.2]) && true) = true
    show ((true && (flat (tI p.2) && true)) && true) = true
    rw [flat_tI]
    rfl
/-- what rows_with hands out for what looks like a book -/
def withE (es : List (Int × List Int)) (most : Int) : List (List Int) :=
  if manyE es ≤ most ∧ firstE es ≤ 60 then (rowsN (manyE es).toNat (firstE es) (lastE es - manyE es + 1)).filter fun r => decide (bkE r = es) else []
theorem rows_with_yes {es : List (Int × List Int)} {most : Int} {u : Nat} (h : lf u (.tuple (es.map entI)) = true) (hb : PyData.bulk (.tuple (es.map entI)) ≤ 1000000) (ne : es ≠ []) (ok : ∀ p ∈ es, entOk p) (h1 : most ≤ 3) :
    w_rows_with_0 [.tuple (es.map entI), .int most] (.inl ((withE es most).map tI)) := by
  have hv : bkOk (.tuple (es.map entI)) = true := by
    unfold bkOk
    have e1 : (es.map entI).isEmpty = false := by
      cases es with
      | nil => exact absurd rfl ne
      | cons a b => rfl
    have e2 : (es.map entI).all entB = true := by
      rw [List.all_map, List.all_eq_true]
      exact fun p hp => entB_entI (ok p hp)
    show (!(es.map entI).isEmpty && (es.map entI).all entB) = true
    rw [e1, e2]
    rfl
  have hl : es.length ≤ 1000000 := by
    have := len_bulk (es.map entI)
    rw [List.length_map] at this
    unfold PyData.bulk at hb
    omega
  refine ⟨rfl, ?_⟩
  show gIf _ _ _ [.val (.tuple (es.map entI)), .val (.int most), .unk, .unk, .unk] _ _
  rw [gi_if (test_0 h hb), hv, if_pos rfl]
  have em : (sAsg 2 (eIf (tBool (eCmp .gt (eB1 .len (eVar 0)) (eCon (.int 1)))) (eBin .add (eIdx (eIdx (eIdx (eVar 0) (eNeg (eCon (.int 2)))) (eCon (.int 1))) (eNeg (eCon (.int 1)))) (eCon (.int 1))) (eCon (.int 1)))) [.val (.tuple (es.map entI)), .val (.int most), .unk, .unk, .unk] = ret (.nx [.val (.tuple (es.map entI)), .val (.int most), .val (.int (manyE es)), .unk, .unk]) ∧ 1 ≤ manyE es ∧ manyE es ≤ 25 := by
    by_cases c : es.length = 1
    · obtain ⟨x, rfl⟩ : ∃ x, es = [x] := by
        match es, c with
        | [x], _ => exact ⟨x, rfl⟩
      refine ⟨?_, by show (1 : Int) ≤ 1; decide, by show (1 : Int) ≤ 25; decide⟩
      try simp only [x_var, x_con, x_bin, x_neg, x_cmp, x_chain, x_tTru, x_tNot, x_tAnd, x_tOr, x_tBool, x_tYes, x_not, x_and, x_or, x_if, x_b1, x_b2, x_is, x_idx, x_oNone, x_oSome, x_cut, x_aNil, x_aCons, x_tup, x_lst, x_call, x_callS,
    x_iSeq, x_iRng1, x_iRng2, x_bor, x_tBor, x_put1, List.map_cons, List.map_nil, List.cons_append, List.nil_append, List.length_cons, List.length_nil, Nat.zero_add, Nat.reduceAdd, Nat.reduceSub, List.reduceReplicate, start,
    List.getElem?_cons_zero, List.getElem?_cons_succ, List.set_cons_zero, List.set_cons_succ, bnd_ret, bnd_assoc, bnd_grd, b1_if, bnd_ite, small, Nat.reduceLeDiff, grd_true, o_add, o_sub, o_neg, o_eq, o_ne, o_lt, o_le, o_gt, o_ge, o_eqS, o_neS,
    decide_eq_true_eq, reduceIte, decide_true, decide_false, Bool.not_true, Bool.not_false, Bool.false_eq_true, itemsOf, asInt, endOf, isTy,
    grd_tt, nx_int, nx_bool, nx_str, nx_none, nx_tup, nx_lst, x_isC, x_fld, x_in, x_count, x_lstR, x_tupR, x_raise, x_star, bnd_thr, noX_ret, fld_x, exn_d, eSetO, Out.clear, List.zip_cons_cons, List.zip_nil_left, List.zip_nil_right, s_asg, s_par, s_own, s_parO, s_put, s_expr, s_ret, s_skip, s_seq, s_rel, x_asg, x_par, x_own, x_parO, x_put, x_expr, x_ret, x_retN, x_skip, x_rel, x_app, x_setI, x_sIf, x_for, x_brk, x_cnt, b_lenT, b_lenL, b_tupL, b_tupT, b_max2, b_min2, o_addL, o_addT, cut_ints, sum_ints, s_chk, s_for, s_brk, s_cnt, s_retN, t_bool, g_rng, g_le, List.length_map]
      rfl
    · obtain ⟨P, q, z, rfl⟩ : ∃ P q z, es = P ++ [q, z] := by
        refine ⟨es.dropLast.dropLast, es.dropLast.getLast (by intro e; have := congrArg List.length e; rw [List.length_dropLast] at this; simp at this; cases es with
          | nil => exact ne rfl
          | cons a b => cases b with
            | nil => exact c rfl
            | cons b1 b2 => simp at this), es.getLast ne, ?_⟩
        rw [show ∀ (A : List (Int × List Int)) (x y : Int × List Int), A ++ [x, y] = (A ++ [x]) ++ [y] from fun A x y => by simp, List.dropLast_concat_getLast, List.dropLast_concat_getLast]
      obtain ⟨_, _, q2, q3⟩ := ok q (by simp)
      have hq : q.2.getLastD 0 ∈ q.2 := by
        obtain ⟨A, x, hA⟩ : ∃ A x, q.2 = A ++ [x] := ⟨q.2.dropLast, q.2.getLast q2, (List.dropLast_concat_getLast q2).symm⟩
        rw [hA, List.getLastD_concat]
        simp
      have hq := q3 _ hq
      rw [manyE_two]
      refine ⟨?_, by omega, by omega⟩
      have e1 : opIdx (.tuple ((P ++ [q, z]).map entI)) (.int (-2)) = ret (entI q) := by
        rw [List.map_append]
        exact idx_last2 _ _ _
      have e2 : opIdx (entI q) (.int 1) = ret (tI q.2) := rfl
      have hlen : (1 : Int) < (((P ++ [q, z]).map entI).length : Int) := by
        rw [List.length_map, List.length_append]
        show (1 : Int) < ((P.length + 2 : Nat) : Int)
        omega
      have hl2 : ((P ++ [q, z]).map entI).length ≤ 1000000 := by rw [List.length_map]; exact hl
      try simp (disch := omega) only [x_var, x_con, x_bin, x_neg, x_cmp, x_chain, x_tTru, x_tNot, x_tAnd, x_tOr, x_tBool, x_tYes, x_not, x_and, x_or, x_if, x_b1, x_b2, x_is, x_idx, x_oNone, x_oSome, x_cut, x_aNil, x_aCons, x_tup, x_lst, x_call, x_callS,
    x_iSeq, x_iRng1, x_iRng2, x_bor, x_tBor, x_put1, List.map_cons, List.map_nil, List.cons_append, List.nil_append, List.length_cons, List.length_nil, Nat.zero_add, Nat.reduceAdd, Nat.reduceSub, List.reduceReplicate, start,
    List.getElem?_cons_zero, List.getElem?_cons_succ, List.set_cons_zero, List.set_cons_succ, bnd_ret, bnd_assoc, bnd_grd, b1_if, bnd_ite, small, Nat.reduceLeDiff, grd_true, o_add, o_sub, o_neg, o_eq, o_ne, o_lt, o_le, o_gt, o_ge, o_eqS, o_neS,
    decide_eq_true_eq, reduceIte, decide_true, decide_false, Bool.not_true, Bool.not_false, Bool.false_eq_true, itemsOf, asInt, endOf, isTy,
    grd_tt, nx_int, nx_bool, nx_str, nx_none, nx_tup, nx_lst, x_isC, x_fld, x_in, x_count, x_lstR, x_tupR, x_raise, x_star, bnd_thr, noX_ret, fld_x, exn_d, eSetO, Out.clear, List.zip_cons_cons, List.zip_nil_left, List.zip_nil_right, s_asg, s_par, s_own, s_parO, s_put, s_expr, s_ret, s_skip, s_seq, s_rel, x_asg, x_par, x_own, x_parO, x_put, x_expr, x_ret, x_retN, x_skip, x_rel, x_app, x_setI, x_sIf, x_for, x_brk, x_cnt, b_lenT, b_lenL, b_tupL, b_tupT, b_max2, b_min2, o_addL, o_addT, cut_ints, sum_ints, s_chk, s_for, s_brk, s_cnt, s_retN, t_bool, g_rng, g_le, List.length_map]
      simp only [List.length_map] at hlen hl2
      try simp (disch := omega) only [x_var, x_con, x_bin, x_neg, x_cmp, x_chain, x_tTru, x_tNot, x_tAnd, x_tOr, x_tBool, x_tYes, x_not, x_and, x_or, x_if, x_b1, x_b2, x_is, x_idx, x_oNone, x_oSome, x_cut, x_aNil, x_aCons, x_tup, x_lst, x_call, x_callS,
    x_iSeq, x_iRng1, x_iRng2, x_bor, x_tBor, x_put1, List.map_cons, List.map_nil, List.cons_append, List.nil_append, List.length_cons, List.length_nil, Nat.zero_add, Nat.reduceAdd, Nat.reduceSub, List.reduceReplicate, start,
    List.getElem?_cons_zero, List.getElem?_cons_succ, List.set_cons_zero, List.set_cons_succ, bnd_ret, bnd_assoc, bnd_grd, b1_if, bnd_ite, small, Nat.reduceLeDiff, grd_true, o_add, o_sub, o_neg, o_eq, o_ne, o_lt, o_le, o_gt, o_ge, o_eqS, o_neS,
    decide_eq_true_eq, reduceIte, decide_true, decide_false, Bool.not_true, Bool.not_false, Bool.false_eq_true, itemsOf, asInt, endOf, isTy,
    grd_tt, nx_int, nx_bool, nx_str, nx_none, nx_tup, nx_lst, x_isC, x_fld, x_in, x_count, x_lstR, x_tupR, x_raise, x_star, bnd_thr, noX_ret, fld_x, exn_d, eSetO, Out.clear, List.zip_cons_cons, List.zip_nil_left, List.zip_nil_right, s_asg, s_par, s_own, s_parO, s_put, s_expr, s_ret, s_skip, s_seq, s_rel, x_asg, x_par, x_own, x_parO, x_put, x_expr, x_ret, x_retN, x_skip, x_rel, x_app, x_setI, x_sIf, x_for, x_brk, x_cnt, b_lenT, b_lenL, b_tupL, b_tupT, b_max2, b_min2, o_addL, o_addT, cut_ints, sum_ints, s_chk, s_for, s_brk, s_cnt, s_retN, t_bool, g_rng, g_le, List.length_map, hlen, e1, e2, last_int q2]
  obtain ⟨em, m1, m2⟩ := em
  refine gi_plain em ?_
  have e0 : opIdx (.tuple (es.map entI)) (.int 0) = ret (entI (es.headD (0, []))) := by
    cases es with
    | nil => exact absurd rfl ne
    | cons a b =>
      show (match L2.atI (entI a :: b.map entI) 0 with | some d => ret d | none => stuck) = _
      have e : L2.atI (entI a :: b.map entI) 0 = some (entI a) := by
        unfold L2.atI L2.ixN
        rw [if_pos (by decide), if_pos (by simp)]
        rfl
      rw [e]
      rfl
  have eL : opIdx (.tuple (es.map entI)) (.int (-1)) = ret (entI (es.getLastD (0, []))) := by
    obtain ⟨P, x, rfl⟩ : ∃ P x, es = P ++ [x] := ⟨es.dropLast, es.getLast ne, (List.dropLast_concat_getLast ne).symm⟩
    rw [List.map_append]
    refine (idx_lastT _ _).trans ?_
    rw [List.getLastD_concat]
  have i0 : ∀ p, opIdx (entI p) (.int 0) = ret (.int p.1) := fun _ => rfl
  have et : (DL.tAnd (tBool (eCmp .le (eVar 2) (eVar 1))) (tBool (eCmp .le (eIdx (eIdx (eVar 0) (eCon (.int 0))) (eCon (.int 0))) (eCon (.int (60)))))) [.val (.tuple (es.map entI)), .val (.int most), .val (.int (manyE es)), .unk, .unk] = ret (decide (manyE es ≤ most ∧ firstE es ≤ 60)) := by
    by_cases c1 : manyE es ≤ most
    · try simp (disch := omega) only [x_var, x_con, x_bin, x_neg, x_cmp, x_chain, x_tTru, x_tNot, x_tAnd, x_tOr, x_tBool, x_tYes, x_not, x_and, x_or, x_if, x_b1, x_b2, x_is, x_idx, x_oNone, x_oSome, x_cut, x_aNil, x_aCons, x_tup, x_lst, x_call, x_callS,
    x_iSeq, x_iRng1, x_iRng2, x_bor, x_tBor, x_put1, List.map_cons, List.map_nil, List.cons_append, List.nil_append, List.length_cons, List.length_nil, Nat.zero_add, Nat.reduceAdd, Nat.reduceSub, List.reduceReplicate, start,
    List.getElem?_cons_zero, List.getElem?_cons_succ, List.set_cons_zero, List.set_cons_succ, bnd_ret, bnd_assoc, bnd_grd, b1_if, bnd_ite, small, Nat.reduceLeDiff, grd_true, o_add, o_sub, o_neg, o_eq, o_ne, o_lt, o_le, o_gt, o_ge, o_eqS, o_neS,
    decide_eq_true_eq, reduceIte, decide_true, decide_false, Bool.not_true, Bool.not_false, Bool.false_eq_true, itemsOf, asInt, endOf, isTy,
    grd_tt, nx_int, nx_bool, nx_str, nx_none, nx_tup, nx_lst, x_isC, x_fld, x_in, x_count, x_lstR, x_tupR, x_raise, x_star, bnd_thr, noX_ret, fld_x, exn_d, eSetO, Out.clear, List.zip_cons_cons, List.zip_nil_left, List.zip_nil_right, s_asg, s_par, s_own, s_parO, s_put, s_expr, s_ret, s_skip, s_seq, s_rel, x_asg, x_par, x_own, x_parO, x_put, x_expr, x_ret, x_retN, x_skip, x_rel, x_app, x_setI, x_sIf, x_for, x_brk, x_cnt, b_lenT, b_lenL, b_tupL, b_tupT, b_max2, b_min2, o_addL, o_addT, cut_ints, sum_ints, s_chk, s_for, s_brk, s_cnt, s_retN, t_bool, g_rng, g_le, List.length_map, e0, i0, c1, true_and]
      rfl
    · try simp (disch := omega) only [x_var, x_con, x_bin, x_neg, x_cmp, x_chain, x_tTru, x_tNot, x_tAnd, x_tOr, x_tBool, x_tYes, x_not, x_and, x_or, x_if, x_b1, x_b2, x_is, x_idx, x_oNone, x_oSome, x_cut, x_aNil, x_aCons, x_tup, x_lst, x_call, x_callS,
    x_iSeq, x_iRng1, x_iRng2, x_bor, x_tBor, x_put1, List.map_cons, List.map_nil, List.cons_append, List.nil_append, List.length_cons, List.length_nil, Nat.zero_add, Nat.reduceAdd, Nat.reduceSub, List.reduceReplicate, start,
    List.getElem?_cons_zero, List.getElem?_cons_succ, List.set_cons_zero, List.set_cons_succ, bnd_ret, bnd_assoc, bnd_grd, b1_if, bnd_ite, small, Nat.reduceLeDiff, grd_true, o_add, o_sub, o_neg, o_eq, o_ne, o_lt, o_le, o_gt, o_ge, o_eqS, o_neS,
    decide_eq_true_eq, reduceIte, decide_true, decide_false, Bool.not_true, Bool.not_false, Bool.false_eq_true, itemsOf, asInt, endOf, isTy,
    grd_tt, nx_int, nx_bool, nx_str, nx_none, nx_tup, nx_lst, x_isC, x_fld, x_in, x_count, x_lstR, x_tupR, x_raise, x_star, bnd_thr, noX_ret, fld_x, exn_d, eSetO, Out.clear, List.zip_cons_cons, List.zip_nil_left, List.zip_nil_right, s_asg, s_par, s_own, s_parO, s_put, s_expr, s_ret, s_skip, s_seq, s_rel, x_asg, x_par, x_own, x_parO, x_put, x_expr, x_ret, x_retN, x_skip, x_rel, x_app, x_setI, x_sIf, x_for, x_brk, x_cnt, b_lenT, b_lenL, b_tupL, b_tupT, b_max2, b_min2, o_addL, o_addT, cut_ints, sum_ints, s_chk, s_for, s_brk, s_cnt, s_retN, t_bool, g_rng, g_le, List.length_map, c1, false_and]
  rw [gi_if et]
  unfold withE
  by_cases c : manyE es ≤ most ∧ firstE es ≤ 60
  · rw [if_pos (decide_eq_true c), if_pos c]
    have hb0 : ∃ p ∈ es, p = es.headD (0, []) := by
      cases es with
      | nil => exact absurd rfl ne
      | cons a b => exact ⟨a, by simp, rfl⟩
    have hbL : ∃ p ∈ es, p = es.getLastD (0, []) := by
      obtain ⟨P, x, rfl⟩ : ∃ P x, es = P ++ [x] := ⟨es.dropLast, es.getLast ne, (List.dropLast_concat_getLast ne).symm⟩
      exact ⟨x, by simp, by rw [List.getLastD_concat]⟩
    obtain ⟨p0, hp0, e00⟩ := hb0
    obtain ⟨pL, hpL, eLL⟩ := hbL
    have f1 : 1 ≤ firstE es ∧ firstE es ≤ 60 := ⟨by unfold firstE; rw [← e00]; exact (ok p0 hp0).1, c.2⟩
    have f2 : 1 ≤ lastE es ∧ lastE es ≤ 1464 := by unfold lastE; rw [← eLL]; exact ⟨(ok pL hpL).1, (ok pL hpL).2.1⟩
    have ea : (aCons (eVar 2) (aCons (eIdx (eIdx (eVar 0) (eCon (.int 0))) (eCon (.int 0))) (aCons (eBin .add (eBin .sub (eIdx (eIdx (eVar 0) (eNeg (eCon (.int 1)))) (eCon (.int 0))) (eVar 2)) (eCon (.int 1))) (aNil)))) [.val (.tuple (es.map entI)), .val (.int most), .val (.int (manyE es)), .unk, .unk] = ret [.int (((manyE es).toNat : Nat) : Int), .int (firstE es), .int (lastE es - manyE es + 1)] := by
      have i1 : ∀ p, opIdx (entI p) (.int 0) = ret (.int p.1) := fun _ => rfl
      rw [show (((manyE es).toNat : Nat) : Int) = manyE es by omega]
      unfold lastE at f2 ⊢
      try simp (disch := omega) only [x_var, x_con, x_bin, x_neg, x_cmp, x_chain, x_tTru, x_tNot, x_tAnd, x_tOr, x_tBool, x_tYes, x_not, x_and, x_or, x_if, x_b1, x_b2, x_is, x_idx, x_oNone, x_oSome, x_cut, x_aNil, x_aCons, x_tup, x_lst, x_call, x_callS,
    x_iSeq, x_iRng1, x_iRng2, x_bor, x_tBor, x_put1, List.map_cons, List.map_nil, List.cons_append, List.nil_append, List.length_cons, List.length_nil, Nat.zero_add, Nat.reduceAdd, Nat.reduceSub, List.reduceReplicate, start,
    List.getElem?_cons_zero, List.getElem?_cons_succ, List.set_cons_zero, List.set_cons_succ, bnd_ret, bnd_assoc, bnd_grd, b1_if, bnd_ite, small, Nat.reduceLeDiff, grd_true, o_add, o_sub, o_neg, o_eq, o_ne, o_lt, o_le, o_gt, o_ge, o_eqS, o_neS,
    decide_eq_true_eq, reduceIte, decide_true, decide_false, Bool.not_true, Bool.not_false, Bool.false_eq_true, itemsOf, asInt, endOf, isTy,
    grd_tt, nx_int, nx_bool, nx_str, nx_none, nx_tup, nx_lst, x_isC, x_fld, x_in, x_count, x_lstR, x_tupR, x_raise, x_star, bnd_thr, noX_ret, fld_x, exn_d, eSetO, Out.clear, List.zip_cons_cons, List.zip_nil_left, List.zip_nil_right, s_asg, s_par, s_own, s_parO, s_put, s_expr, s_ret, s_skip, s_seq, s_rel, x_asg, x_par, x_own, x_parO, x_put, x_expr, x_ret, x_retN, x_skip, x_rel, x_app, x_setI, x_sIf, x_for, x_brk, x_cnt, b_lenT, b_lenL, b_tupL, b_tupT, b_max2, b_min2, o_addL, o_addT, cut_ints, sum_ints, s_chk, s_for, s_brk, s_cnt, s_retN, t_bool, g_rng, g_le, List.length_map, e0, i0, eL]
      rfl
    refine gi_forG ea (rows_of_N 4 (manyE es).toNat (firstE es) (lastE es - manyE es + 1) (by omega) (by omega) (by omega) (by omega) (by omega) (by omega) (by omega)) ?_
    let I : Env → Prop := fun E => ∃ e3 : Ent, E = [.val (.tuple (es.map entI)), .val (.int most), .val (.int (manyE es)), e3, .unk] ∧ flatE [e3] = true
    let g : List Int → List D := fun r => if bkE r = es then [tI r] else []
    have hx : ∀ (rs : List (List Int)), (∀ r ∈ rs, r ∈ rowsN (manyE es).toNat (firstE es) (lastE es - manyE es + 1)) → ∀ (E : Env), I E → gLoop (.nm 3) (gIf (tBool (eCmp .eq (eCall w_book_of_0 (aCons (eVar 3) (aNil))) (eVar 0))) (gYield (eVar 3)) (gSkip)) (rs.map tI) E (.inl ((rs.filter fun r => decide (bkE r = es)).map tI)) (fun _ o => o = .inl []) := by
      intro rs
      induction rs with
      | nil => intro _ E _; exact rfl
      | cons r rs ih =>
        intro hr E hE
        obtain ⟨e3, rfl, h3⟩ := hE
        refine ⟨_, rfl, ?_⟩
        have R := row_of (hr r (by simp)) (by omega) (by omega) f1.2
        have et2 : (tBool (eCmp .eq (eCall w_book_of_0 (aCons (eVar 3) (aNil))) (eVar 0))) [.val (.tuple (es.map entI)), .val (.int most), .val (.int (manyE es)), .val (tI r), .unk] = ret (decide (bkE r = es)) := by
          try simp only [x_var, x_con, x_bin, x_neg, x_cmp, x_chain, x_tTru, x_tNot, x_tAnd, x_tOr, x_tBool, x_tYes, x_not, x_and, x_or, x_if, x_b1, x_b2, x_is, x_idx, x_oNone, x_oSome, x_cut, x_aNil, x_aCons, x_tup, x_lst, x_call, x_callS,
    x_iSeq, x_iRng1, x_iRng2, x_bor, x_tBor, x_put1, List.map_cons, List.map_nil, List.cons_append, List.nil_append, List.length_cons, List.length_nil, Nat.zero_add, Nat.reduceAdd, Nat.reduceSub, List.reduceReplicate, start,
    List.getElem?_cons_zero, List.getElem?_cons_succ, List.set_cons_zero, List.set_cons_succ, bnd_ret, bnd_assoc, bnd_grd, b1_if, bnd_ite, small, Nat.reduceLeDiff, grd_true, o_add, o_sub, o_neg, o_eq, o_ne, o_lt, o_le, o_gt, o_ge, o_eqS, o_neS,
    decide_eq_true_eq, reduceIte, decide_true, decide_false, Bool.not_true, Bool.not_false, Bool.false_eq_true, itemsOf, asInt, endOf, isTy,
    grd_tt, nx_int, nx_bool, nx_str, nx_none, nx_tup, nx_lst, x_isC, x_fld, x_in, x_count, x_lstR, x_tupR, x_raise, x_star, bnd_thr, noX_ret, fld_x, exn_d, eSetO, Out.clear, List.zip_cons_cons, List.zip_nil_left, List.zip_nil_right, s_asg, s_par, s_own, s_parO, s_put, s_expr, s_ret, s_skip, s_seq, s_rel, x_asg, x_par, x_own, x_parO, x_put, x_expr, x_ret, x_retN, x_skip, x_rel, x_app, x_setI, x_sIf, x_for, x_brk, x_cnt, b_lenT, b_lenL, b_tupL, b_tupT, b_max2, b_min2, o_addL, o_addT, cut_ints, sum_ints, s_chk, s_for, s_brk, s_cnt, s_retN, t_bool, g_rng, g_le, List.length_map, book_of_R R, bkD_E, eq_bk]
        show gIf _ _ _ [.val (.tuple (es.map entI)), .val (.int most), .val (.int (manyE es)), .val (tI r), .unk] _ _
        rw [gi_if et2]
        by_cases cc : bkE r = es
        · rw [if_pos (decide_eq_true cc), List.filter_cons, if_pos (decide_eq_true cc), List.map_cons]
          refine gi_yield (d := tI r) ?_ (flat_tI r) ?_ (ih (fun q hq => hr q (List.mem_cons_of_mem _ hq)) _ ⟨_, rfl, ?_⟩)
          · try simp only [x_var, x_con, x_bin, x_neg, x_cmp, x_chain, x_tTru, x_tNot, x_tAnd, x_tOr, x_tBool, x_tYes, x_not, x_and, x_or, x_if, x_b1, x_b2, x_is, x_idx, x_oNone, x_oSome, x_cut, x_aNil, x_aCons, x_tup, x_lst, x_call, x_callS,
    x_iSeq, x_iRng1, x_iRng2, x_bor, x_tBor, x_put1, List.map_cons, List.map_nil, List.cons_append, List.nil_append, List.length_cons, List.length_nil, Nat.zero_add, Nat.reduceAdd, Nat.reduceSub, List.reduceReplicate, start,
    List.getElem?_cons_zero, List.getElem?_cons_succ, List.set_cons_zero, List.set_cons_succ, bnd_ret, bnd_assoc, bnd_grd, b1_if, bnd_ite, small, Nat.reduceLeDiff, grd_true, o_add, o_sub, o_neg, o_eq, o_ne, o_lt, o_le, o_gt, o_ge, o_eqS, o_neS,
    decide_eq_true_eq, reduceIte, decide_true, decide_false, Bool.not_true, Bool.not_false, Bool.false_eq_true, itemsOf, asInt, endOf, isTy,
    grd_tt, nx_int, nx_bool, nx_str, nx_none, nx_tup, nx_lst, x_isC, x_fld, x_in, x_count, x_lstR, x_tupR, x_raise, x_star, bnd_thr, noX_ret, fld_x, exn_d, eSetO, Out.clear, List.zip_cons_cons, List.zip_nil_left, List.zip_nil_right, s_asg, s_par, s_own, s_parO, s_put, s_expr, s_ret, s_skip, s_seq, s_rel, x_asg, x_par, x_own, x_parO, x_put, x_expr, x_ret, x_retN, x_skip, x_rel, x_app, x_setI, x_sIf, x_for, x_brk, x_cnt, b_lenT, b_lenL, b_tupL, b_tupT, b_max2, b_min2, o_addL, o_addT, cut_ints, sum_ints, s_chk, s_for, s_brk, s_cnt, s_retN, t_bool, g_rng, g_le, List.length_map]
          · show (flat (.tuple (es.map entI)) && (true && (true && (flat (tI r) && true)))) = true
            rw [flat_es, flat_tI]
            rfl
          · show (flat (tI r) && true) = true
            rw [flat_tI]
            rfl
        · rw [if_neg (by simpa using cc), List.filter_cons, if_neg (by simpa using cc)]
          exact ih (fun q hq => hr q (List.mem_cons_of_mem _ hq)) _ ⟨_, rfl, by show (flat (tI r) && true) = true; rw [flat_tI]; rfl⟩
    exact hx _ (fun _ h => h) _ ⟨.unk, rfl, rfl⟩
  · rw [if_neg (by rw [decide_eq_false c]; exact Bool.false_ne_true), if_neg c]
    rfl
end DL
end
section
namespace DL
open PySem
/-- (u, v, m): column v is at most m greater than column u -/
abbrev Bnd := Nat × Nat × Int
abbrev Cols := Nat → Int
def Sol (bs : List Bnd) (y : Cols) : Prop := ∀ b ∈ bs, y b.2.1 ≤ y b.1 + b.2.2
/-- nodes below n; the bounds are between them -/
def In (n : Nat) (bs : List Bnd) : Prop := ∀ b ∈ bs, b.1 < n ∧ b.2.1 < n
end DL
end
section
namespace DL
open PySem
end DL
end
section
namespace DL
open PySem
end DL
end
section
namespace DL
open PySem
end DL
end
section
namespace DL
open PySem
def fb1 (p : Nat) : List Bnd := [(p, p + 1, 61), (p + 1, p, -2)]
def fb2 (w : Int) (p : Nat) : Bnd := (p, p + 1, w + 1)
def fb3 (L : Nat) (w : Int) (e : Nat × Nat) : List Bnd := (e.1, e.2, w + 1) :: if e.2 < L then [(e.2 + 1, e.1, -2 - w)] else []
def fbQ (L : Nat) (q : Int × List Nat) : List Bnd := (List.range L).map (fb2 q.1) ++ (endN L q.2).flatMap (fb3 L q.1)
def bndsOf (L : Nat) (qs : List (Int × List Nat)) : List Bnd := (List.range L).flatMap fb1 ++ qs.flatMap (fbQ L)
end DL
end
section
namespace DL
open PySem
/-- how far the first k words reach, with a space behind each -/
def pre (ns : List Int) (k : Nat) : Int := (ns.take k).sum + k
theorem pre_ext {ns : List Int} {a b : Nat} (h : a < b) : ext ns a (b - 1) = pre ns b - pre ns a - 1 := by
  rw [← ext_sum h]
  unfold pre
  have e : (ns.take b).sum = (ns.take a).sum + ((ns.drop a).take (b - a)).sum := by
    have : ns.take b = ns.take a ++ (ns.drop a).take (b - a) := by
      rw [← List.take_add, Nat.add_sub_cancel' (Nat.le_of_lt h)]
    rw [this, List.sum_append]
  omega
theorem pre_succ {ns : List Int} {k : Nat} (h : k < ns.length) : pre ns (k + 1) = pre ns k + ns[k] + 1 := by
  unfold pre
  rw [List.take_succ_eq_append_getElem h, List.sum_append]
  simp
  omega
/-- looks of a row, as sightings -/
def looks (ns : List Int) (ws : List Int) : List (Int × List Nat) := ws.map fun w => (w, starts ns w)
theorem end_adj {L : Nat} : ∀ {l : List Nat} {e : Nat × Nat}, e ∈ endN L l → e.2 ∈ l ∨ e.2 = L → e.2 < L → e ∈ adjN l
  | [a], e, h, _, lt => by
    have : e = (a, L) := by simpa [endN] using h
    rw [this] at lt
    exact absurd lt (Nat.lt_irrefl _)
  | a :: b :: r, e, h, m, lt => by
    have h' : e ∈ (a, b) :: endN L (b :: r) := h
    rcases List.mem_cons.mp h' with rfl | h'
    · exact .head _
    · exact .tail _ (end_adj h' (end_mem h').2 lt)
/-- a row that was seen keeps the bounds -/
theorem sol_row {ns : List Int} {ws : List Int} (h1 : 0 < ns.length) (hn : ∀ x ∈ ns, 1 ≤ x ∧ x ≤ 60) (hw : ∀ w ∈ ws, ∀ x ∈ ns, x ≤ w) : Sol (bndsOf ns.length (looks ns ws)) fun k => pre ns k - pre ns ns.length := fun b hb => by
  have stp : ∀ p (h : p < ns.length), pre ns (p + 1) = pre ns p + ns[p] + 1 := fun p h => pre_succ h
  show pre ns b.2.1 - pre ns ns.length ≤ pre ns b.1 - pre ns ns.length + b.2.2
  unfold bndsOf at hb
  rcases List.mem_append.mp hb with hb | hb
  · obtain ⟨p, hp, hb⟩ := List.mem_flatMap.mp hb
    have hp := List.mem_range.mp hp
    have s := stp p hp
    have r := hn _ (List.getElem_mem hp)
    simp only [fb1, List.mem_cons, List.not_mem_nil, or_false] at hb
    rcases hb with rfl | rfl
    · show pre ns (p + 1) - _ ≤ pre ns p - _ + 61
      omega
    · show pre ns p - _ ≤ pre ns (p + 1) - _ + -2
      omega
  · obtain ⟨q, hq, hb⟩ := List.mem_flatMap.mp hb
    obtain ⟨w, hww, rfl⟩ := List.mem_map.mp hq
    unfold fbQ at hb
    rcases List.mem_append.mp hb with hb | hb
    · obtain ⟨p, hp, rfl⟩ := List.mem_map.mp hb
      have hp := List.mem_range.mp hp
      have s := stp p hp
      have r := hw w hww _ (List.getElem_mem hp)
      show pre ns (p + 1) - _ ≤ pre ns p - _ + (w + 1)
      omega
    · obtain ⟨e, he, hb⟩ := List.mem_flatMap.mp hb
      have bf := (brk_starts (w := w) h1 (hw w hww)).fits he
      have pe := pre_ext (ns := ns) bf.1
      unfold fb3 at hb
      rcases List.mem_cons.mp hb with rfl | hb
      · show pre ns e.2 - _ ≤ pre ns e.1 - _ + (w + 1)
        omega
      · split at hb
        · rename_i lt
          rw [List.mem_singleton.mp hb]
          have fa := (bar_starts (w := w) h1).fars (end_adj he (end_mem he).2 lt)
          have pe2 := pre_ext (ns := ns) (a := e.1) (b := e.2 + 1) (by omega)
          rw [Nat.add_sub_cancel] at pe2
          show pre ns e.1 - _ ≤ pre ns (e.2 + 1) - _ + (-2 - w)
          omega
        · cases hb
end DL
end
section
namespace DL
open PySem
end DL
end
section
namespace DL
open PySem
end DL
end
section
namespace DL
open PySem
/-- the least and the greatest extent of a stretch in all columns that keep the bounds -/
structure Rng (L : Nat) (qs : List (Int × List Nat)) (a b : Nat) (lo hi : Int) : Prop where
  all : ∀ u : Cols, Sol (bndsOf L qs) u → lo ≤ u (b + 1) - u a - 1 ∧ u (b + 1) - u a - 1 ≤ hi
  low : ∃ u : Cols, Sol (bndsOf L qs) u ∧ u (b + 1) - u a - 1 = lo
  high : ∃ u : Cols, Sol (bndsOf L qs) u ∧ u (b + 1) - u a - 1 = hi
end DL
end
section
namespace DL
open PySem
section
variable {ns ws : List Int} {a b c : Nat} {lo hi : Int}
theorem Rng.row (R : Rng ns.length (looks ns ws) a b lo hi) (h1 : 0 < ns.length) (hn : ∀ x ∈ ns, 1 ≤ x ∧ x ≤ 60) (hw : ∀ w ∈ ws, ∀ x ∈ ns, x ≤ w) (hab : a ≤ b) : lo ≤ ext ns a b ∧ ext ns a b ≤ hi := by
  have h := R.all _ (sol_row h1 hn hw)
  have pe := pre_ext (ns := ns) (a := a) (b := b + 1) (by omega)
  rw [Nat.add_sub_cancel] at pe
  omega
theorem Rng.one (R : Rng ns.length (looks ns ws) a a lo hi) (ha : a < ns.length) : 1 ≤ lo ∧ hi ≤ 60 := by
  have f1 : ∀ u, Sol (bndsOf ns.length (looks ns ws)) u → u (a + 1) ≤ u a + 61 ∧ u a ≤ u (a + 1) - 2 := fun u so => by
    have m : ∀ x ∈ fb1 a, x ∈ bndsOf ns.length (looks ns ws) := fun x hx => List.mem_append.mpr (.inl (List.mem_flatMap.mpr ⟨a, List.mem_range.mpr ha, hx⟩))
    have p : u (a + 1) ≤ u a + 61 := so _ (m (a, a + 1, 61) (.head _))
    have q : u a ≤ u (a + 1) + -2 := so _ (m (a + 1, a, -2) (.tail _ (.head _)))
    omega
  obtain ⟨u, u1, u2⟩ := R.low
  obtain ⟨v, v1, v2⟩ := R.high
  have p := f1 u u1
  have q := f1 v v1
  omega
theorem Rng.parts {lo1 hi1 lo2 hi2 : Int} (R : Rng ns.length (looks ns ws) a b lo hi) (A : Rng ns.length (looks ns ws) a c lo1 hi1) (B : Rng ns.length (looks ns ws) (c + 1) b lo2 hi2) : lo1 + lo2 + 1 ≤ lo ∧ hi ≤ hi1 + hi2 + 1 := by
  obtain ⟨u, u1, u2⟩ := R.low
  obtain ⟨v, v1, v2⟩ := R.high
  have p1 := A.all u u1
  have p2 := B.all u u1
  have q1 := A.all v v1
  have q2 := B.all v v1
  omega
end
end DL
end
section
namespace DL
open PySem
end DL
end
section
namespace DL
open PySem
/-- word i of the row without an end -/
def aw (ns : List Int) (i : Nat) : Int := ns.getD (i % ns.length) 0
/-- how wide the m words from p on are -/
def us (ns : List Int) (p : Nat) : Nat → Int
  | 0 => -1
  | m + 1 => us ns p m + 1 + aw ns (p + m)
def wfF (ns : List Int) (w : Int) (p : Nat) : Nat → Nat → Nat
  | 0, m => m
  | f + 1, m => if us ns p (m + 1) ≤ w then wfF ns w p f (m + 1) else m
/-- how many words the line from p on takes -/
def wf (ns : List Int) (w : Int) (p : Nat) : Nat := wfF ns w p 1001 0
/-- where line k starts -/
def fs (ns : List Int) (w : Int) : Nat → Nat
  | 0 => 0
  | k + 1 => fs ns w k + wf ns w (fs ns w k)
/-- a row at a width that it fits -/
structure RowW (ns : List Int) (w : Int) : Prop where
  row : RowN ns
  fit : ∀ x ∈ ns, x ≤ w
  top : w ≤ 2000
section
variable {ns : List Int} {w : Int}
theorem RowW.pos (R : RowW ns w) : 0 < ns.length := by have := R.row.one; omega
theorem aw_mem (h : 0 < ns.length) (i : Nat) : aw ns i ∈ ns := by
  have hl := Nat.mod_lt i h
  unfold aw
  rw [List.getD_eq_getElem?_getD, List.getElem?_eq_getElem hl]
  exact List.getElem_mem hl
theorem RowW.aw (R : RowW ns w) (i : Nat) : 1 ≤ aw ns i ∧ DL.aw ns i ≤ 60 ∧ DL.aw ns i ≤ w :=
  have h := aw_mem R.pos i
  ⟨(R.row.words _ h).1, (R.row.words _ h).2, R.fit _ h⟩
theorem aw_mod (i j : Nat) (h : i % ns.length = j % ns.length) : aw ns i = aw ns j := by
  unfold aw
  rw [h]
theorem us_mod {p q : Nat} (h : p % ns.length = q % ns.length) : ∀ m, us ns p m = us ns q m
  | 0 => rfl
  | m + 1 => by
    unfold us
    rw [us_mod h m, aw_mod (p + m) (q + m) (by rw [Nat.add_mod, h, ← Nat.add_mod])]
theorem wfF_mod {p q : Nat} (h : p % ns.length = q % ns.length) : ∀ f m, wfF ns w p f m = wfF ns w q f m
  | 0, m => rfl
  | f + 1, m => by
    unfold wfF
    rw [us_mod h, wfF_mod h f (m + 1)]
theorem wf_mod {p q : Nat} (h : p % ns.length = q % ns.length) : wf ns w p = wf ns w q := wfF_mod h _ _
theorem us_low (R : RowW ns w) (p : Nat) : ∀ m : Nat, 2 * (m : Int) - 1 ≤ us ns p m
  | 0 => Int.le_refl _
  | m + 1 => by
    have h := us_low R p m
    have := (R.aw (p + m)).1
    unfold us
    omega
theorem wfF_spec (R : RowW ns w) (p : Nat) : ∀ f m, 1001 ≤ m + f → us ns p m ≤ w → us ns p (wfF ns w p f m) ≤ w ∧ w < us ns p (wfF ns w p f m + 1)
  | 0, m, hf, h => by
    have := us_low R p m
    have := R.top
    omega
  | f + 1, m, hf, h => by
    unfold wfF
    by_cases c : us ns p (m + 1) ≤ w
    · rw [if_pos c]
      exact wfF_spec R p f (m + 1) (by omega) c
    · rw [if_neg c]
      exact ⟨h, by omega⟩
theorem wf_spec (R : RowW ns w) (p : Nat) : us ns p (wf ns w p) ≤ w ∧ w < us ns p (wf ns w p + 1) := by
  refine wfF_spec R p 1001 0 (by omega) ?_
  have := R.aw 0
  show (-1 : Int) ≤ w
  omega
theorem wf_pos (R : RowW ns w) (p : Nat) : 1 ≤ wf ns w p := by
  by_cases c : wf ns w p = 0
  · have h := (wf_spec R p).2
    rw [c] at h
    have := R.aw (p + 0)
    unfold us us at h
    omega
  · omega
theorem fs_lt (R : RowW ns w) (k : Nat) : fs ns w k < fs ns w (k + 1) := by
  have := wf_pos R (fs ns w k)
  show fs ns w k < fs ns w k + _
  omega
theorem fs_mono (R : RowW ns w) {j : Nat} : ∀ {k : Nat}, j ≤ k → fs ns w j + (k - j) ≤ fs ns w k
  | 0, h => by
    have : j = 0 := by omega
    subst this
    exact Nat.le_refl _
  | k + 1, h => by
    by_cases c : j = k + 1
    · subst c
      omega
    · have := fs_mono R (k := k) (j := j) (by omega)
      have := fs_lt R k
      omega
theorem fs_lt' (R : RowW ns w) {j k : Nat} (h : j < k) : fs ns w j < fs ns w k := by have := fs_mono R (Nat.le_of_lt h); omega
theorem fs_ge (R : RowW ns w) (k : Nat) : k ≤ fs ns w k := by
  have := fs_mono R (Nat.zero_le k)
  omega
/-- from equal places on the lines go alike -/
theorem fs_round {i j : Nat} (hij : i ≤ j) (h : fs ns w i % ns.length = fs ns w j % ns.length) (hm : fs ns w i ≤ fs ns w j) : ∀ k, fs ns w (j + k) = fs ns w (i + k) + (fs ns w j - fs ns w i)
  | 0 => by simp only [Nat.add_zero]; omega
  | k + 1 => by
    have ih := fs_round hij h hm k
    have e : wf ns w (fs ns w (j + k)) = wf ns w (fs ns w (i + k)) := wf_mod (by
      rw [ih]
      have d : (fs ns w j - fs ns w i) % ns.length = 0 := Nat.sub_mod_eq_zero_of_mod_eq h.symm
      rw [Nat.add_mod, d, Nat.add_zero, Nat.mod_mod])
    show fs ns w (j + k) + wf ns w (fs ns w (j + k)) = fs ns w (i + k) + wf ns w (fs ns w (i + k)) + _
    rw [e, ih]
    omega
/-- the round: the first start that comes again within the row is b, first at line K -/
structure Rnd (ns : List Int) (w : Int) (b K : Nat) : Prop where
  lt : b < K
  same : fs ns w b % ns.length = fs ns w K % ns.length
  ne : ∀ i j, i < j → j < K → fs ns w i % ns.length ≠ fs ns w j % ns.length
theorem pigeon : ∀ (n : Nat) (f : Nat → Nat), (∀ i, i ≤ n → f i < n) → ∃ i j, i < j ∧ j ≤ n ∧ f i = f j
  | 0, f, h => absurd (h 0 (Nat.le_refl _)) (by omega)
  | n + 1, f, h => by
    by_cases c : ∃ i, i ≤ n ∧ f i = f (n + 1)
    · obtain ⟨i, h1, h2⟩ := c
      exact ⟨i, n + 1, by omega, Nat.le_refl _, h2⟩
    · have c : ∀ i, i ≤ n → f i ≠ f (n + 1) := fun i hi e => c ⟨i, hi, e⟩
      have hv := h (n + 1) (Nat.le_refl _)
      obtain ⟨i, j, h1, h2, h3⟩ := pigeon n (fun i => if f i > f (n + 1) then f i - 1 else f i) fun i hi => by
        have a := h i (by omega)
        have b := c i hi
        show (if f i > f (n + 1) then f i - 1 else f i) < n
        split <;> omega
      refine ⟨i, j, h1, by omega, ?_⟩
      have a := c i (by omega)
      have b := c j h2
      have h3 : (if f i > f (n + 1) then f i - 1 else f i) = (if f j > f (n + 1) then f j - 1 else f j) := h3
      split at h3 <;> split at h3 <;> omega
theorem Rnd.ex (R : RowW ns w) : ∃ b K, Rnd ns w b K ∧ K ≤ ns.length := by
  have step : ∀ k : Nat, (∃ b K, Rnd ns w b K ∧ K < k) ∨ ∀ i j, i < j → j < k → fs ns w i % ns.length ≠ fs ns w j % ns.length := by
    intro k
    induction k with
    | zero => exact .inr fun i j _ h => by omega
    | succ k ih =>
      rcases ih with ⟨b, K, h1, h2⟩ | ih
      · exact .inl ⟨b, K, h1, by omega⟩
      · by_cases c : ∃ i, i < k ∧ fs ns w i % ns.length = fs ns w k % ns.length
        · obtain ⟨i, h1, h2⟩ := c
          exact .inl ⟨i, k, ⟨h1, h2, ih⟩, by omega⟩
        · refine .inr fun i j hij hj => ?_
          by_cases c2 : j = k
          · rw [c2]
            exact fun e => c ⟨i, by omega, e⟩
          · exact ih i j hij (by omega)
  rcases step (ns.length + 1) with ⟨b, K, h1, h2⟩ | h
  · exact ⟨b, K, h1, by omega⟩
  · obtain ⟨i, j, h1, h2, h3⟩ := pigeon ns.length (fun i => fs ns w i % ns.length) fun i _ => Nat.mod_lt _ R.pos
    exact absurd h3 (h i j h1 (by omega))
variable {b K : Nat}
/-- so many words a round has -/
def rw' (ns : List Int) (w : Int) (b K : Nat) : Nat := fs ns w K - fs ns w b
theorem Rnd.next (R : RowW ns w) (r : Rnd ns w b K) {k : Nat} (h : b ≤ k) : fs ns w (k + (K - b)) = fs ns w k + rw' ns w b K := by
  have lt := fs_lt' R r.lt
  have := r.lt
  have e := fs_round (Nat.le_of_lt r.lt) r.same (Nat.le_of_lt lt) (k - b)
  rw [show K + (k - b) = k + (K - b) by omega, show b + (k - b) = k by omega] at e
  exact e
/-- n lines start before q -/
structure Bel (ns : List Int) (w : Int) (q n : Nat) : Prop where
  lo : ∀ k, k < n → fs ns w k < q
  hi : q ≤ fs ns w n
theorem Bel.ex (R : RowW ns w) (q : Nat) : ∃ n, Bel ns w q n ∧ n ≤ q := by
  have step : ∀ k : Nat, (∃ n, Bel ns w q n ∧ n ≤ k) ∨ ∀ i, i ≤ k → fs ns w i < q := by
    intro k
    induction k with
    | zero =>
      by_cases c : fs ns w 0 < q
      · exact .inr fun i hi => by rw [show i = 0 by omega]; exact c
      · exact .inl ⟨0, ⟨fun k h => by omega, by omega⟩, Nat.le_refl _⟩
    | succ k ih =>
      rcases ih with ⟨n, h1, h2⟩ | ih
      · exact .inl ⟨n, h1, by omega⟩
      · by_cases c : fs ns w (k + 1) < q
        · refine .inr fun i hi => ?_
          by_cases c2 : i = k + 1
          · rw [c2]; exact c
          · exact ih i (by omega)
        · exact .inl ⟨k + 1, ⟨fun i hi => ih i (by omega), by omega⟩, Nat.le_refl _⟩
  rcases step q with h | h
  · exact h
  · have := h q (Nat.le_refl _)
    have := fs_ge R q
    omega
theorem Bel.iff (R : RowW ns w) {q n : Nat} (h : Bel ns w q n) {k : Nat} : fs ns w k < q ↔ k < n := by
  constructor
  · intro a
    by_cases c : k < n
    · exact c
    · have := fs_mono R (j := n) (k := k) (by omega)
      have := h.hi
      omega
  · exact h.lo k
theorem Bel.mono (R : RowW ns w) {q p n m : Nat} (h : Bel ns w q n) (g : Bel ns w p m) (hq : q ≤ p) : n ≤ m := by
  by_cases c : n ≤ m
  · exact c
  · have := h.lo m (by omega)
    have := g.hi
    omega
theorem Bel.pos (R : RowW ns w) {q n : Nat} (h : Bel ns w q n) (hq : 0 < q) : 1 ≤ n := by
  have := (h.iff R (k := 0)).mp (by show 0 < q; exact hq)
  omega
end
end DL
end
section
namespace DL
open PySem
/-- a while that draws nothing and returns from within -/
inductive RunsR (t : XT) (s : XS) : Nat → Env → D → Prop
  | last {E : Env} {d : D} : t E = ret true → s E = ret (.rt d) → RunsR t s 0 E d
  | turn {k : Nat} {E E' : Env} {d : D} : t E = ret true → s E = ret (.nx E') → RunsR t s k E' d → RunsR t s (k + 1) E d
theorem RunsR.at_ {t : XT} {s : XS} : ∀ {k : Nat} {E : Env} {d : D}, RunsR t s k E d → ∀ n, whileL t s n E = if k < n then ret (.rt d) else stuck
  | _, _, _, _, 0 => by simp [whileL]
  | _, E, _, .last h h2, n + 1 => by
    show bnd (t E) _ = _
    rw [h, bnd_ret, if_pos rfl, h2, bnd_ret, if_pos (Nat.succ_pos n)]
  | _, E, _, .turn (k := k) (E' := E') h1 h2 r, n + 1 => by
    show bnd (t E) _ = _
    rw [h1, bnd_ret, if_pos rfl, h2, bnd_ret]
    show whileL t s n E' = _
    rw [RunsR.at_ r n]
    by_cases h : k < n
    · rw [if_pos h, if_pos (by omega)]
    · rw [if_neg h, if_neg (by omega)]
theorem RunsR.eq {t : XT} {s : XS} {k : Nat} {E : Env} {d : D} (r : RunsR t s k E d) : sWhile t s E = ret (.rt d) := by
  funext c P X
  show (∃ n, whileL t s n E c P X) = _
  refine propext ⟨fun ⟨n, h⟩ => ?_, fun h => ⟨k + 1, ?_⟩⟩
  · rw [r.at_ n] at h
    split at h
    · exact h
    · exact h.elim
  · rw [r.at_ (k + 1), if_pos (Nat.lt_succ_self k)]
    exact h
end DL
end
section
namespace DL
open PySem
end DL
end
section
namespace DL
open PySem
section
variable {ns : List Int} {w : Int}
theorem RowW.of (r : RowN ns) (h : Long ns w none) (hw : w ≤ 2000) : RowW ns w := ⟨r, long_all h, hw⟩
/-- where the line k lines behind p starts -/
def fp (ns : List Int) (w : Int) (p : Nat) : Nat → Nat
  | 0 => p
  | k + 1 => fp ns w p k + wf ns w (fp ns w p k)
def ad (ns : List Int) (w : Int) (p k : Nat) : Nat := fp ns w p k - p
end
end DL
end
section
namespace DL
open PySem
end DL
end
section
namespace DL
open PySem
end DL
end
section
namespace DL
open PySem
end DL
end
section
namespace DL
open PySem
section
variable {ns : List Int} {m : Int}
theorem book_len (R : RowM ns m) : (bookN ns m).length ≤ 1500 := by
  have := scanA_len (S := starts ns) (m := m) (ns.sum + ns.length + 2 - m).toNat
  have := R.sum
  have := R.few
  have := R.m1
  show (scanA (starts ns) m _).length ≤ 1500
  omega
theorem Bar.low {v w : Int} {l : List Nat} (h : Bar ns w l) (hv : v ≤ w) : Bar ns v l := by
  refine .of h.ne h.lt fun k a b h1 h2 => ?_
  have := h.fars (adj_at h1 h2)
  exact ⟨this.1, by have := this.2.2; simp at this; omega⟩
end
end DL
end
section
namespace DL
open PySem
section
variable {ns bs : List Int} {m l : Int}
theorem RowM.fit2 (R : RowM ns m) (h2 : 2 ≤ ns.length) : m ≤ ext ns 0 (ns.length - 1) - 1 := by
  obtain ⟨k, hk, e⟩ := List.getElem_of_mem R.mem
  have s := ext_one hk
  have a := ext_mono_l R.p (j := k) hk k 0 (by omega)
  have b := ext_mono_r R.p (i := 0) (j := k) (by omega) (ns.length - 1) (by omega) (by omega)
  rw [Nat.zero_add] at a
  by_cases c : k = ns.length - 1
  · have g := ext_left (ns := ns) (i := 0) (j := k) (by omega) hk
    have g2 := ext_mono_l R.p (j := k) hk (k - 1) 1 (by omega)
    rw [show 1 + (k - 1) = k by omega] at g2
    have := R.p _ (List.getElem_mem (show 0 < ns.length by omega))
    rw [show ns.length - 1 = k by omega]
    rw [Nat.zero_add] at g
    omega
  · have g := ext_right (ns := ns) (i := 0) (j := k) (by omega) (by omega)
    have g2 := ext_mono_r R.p (i := 0) (j := k + 1) (by omega) (ns.length - 1) (by omega) (by omega)
    have := R.p _ (List.getElem_mem (show k + 1 < ns.length by omega))
    omega
theorem RowM.two (R : RowM ns m) (h2 : 2 ≤ ns.length) : starts ns (ext ns 0 (ns.length - 1) - 1) = [0, ns.length - 1] := by
  obtain ⟨k, hk⟩ : ∃ k, ns.length - 1 = k + 1 := ⟨ns.length - 2, by omega⟩
  rw [hk]
  have g := ext_right (ns := ns) (i := 0) (j := k) (by omega) (by omega)
  have g1 := R.p _ (List.getElem_mem (show k + 1 < ns.length by omega))
  have e1 : nx ns (ext ns 0 (k + 1) - 1) 0 = k + 1 := by
    refine nx_eq (by omega) (by omega) (fun j hj hj2 => ?_) fun _ => by omega
    have := ext_mono_r R.p (i := 0) (j := j) (by omega) k (by omega) (by omega)
    omega
  have e2 : nx ns (ext ns 0 (k + 1) - 1) (k + 1) = ns.length := nx_eq (by omega) (by omega) (fun k hk hk2 => by omega) fun h => by omega
  exact starts_unique (l := [k + 1]) ⟨by omega, e1, by omega, e2⟩
theorem bkE_mx (R : RowM ns m) : mxI ns = m := by
  obtain ⟨e, hm⟩ := mxI_spec R.pos
  have a := R.mx _ hm
  have b := long_all (max_long e (Int.le_refl _)) m R.mem
  omega
theorem bk_inj {a b : List (Int × List Nat)} (h : a.map (fun p => (p.1, p.2.map fun (n : Nat) => (n : Int))) = b.map fun p => (p.1, p.2.map fun (n : Nat) => (n : Int))) : a = b := by
  refine map_inj (fun x y e => ?_) h
  obtain ⟨x1, x2⟩ := x
  obtain ⟨y1, y2⟩ := y
  injection e with e1 e2
  have := map_inj (fun (p q : Nat) (z : (p : Int) = q) => by omega) e2
  exact Prod.ext e1 this
theorem bkE_eq (Ra : RowM ns m) (Rb : RowM bs l) : (bkE ns = bkE bs) ↔ bookN ns m = bookN bs l := by
  unfold bkE
  rw [bkE_mx Ra, bkE_mx Rb]
  exact ⟨bk_inj, fun h => by rw [h]⟩
theorem starts_lt24 (R : RowM ns m) {k : Nat} {p : Int × List Nat} (hk : (bookN ns m)[k]? = some p) : ∀ a ∈ p.2, a < ns.length := by
  rw [(ent_mem hk).1]
  exact fun a ha => starts_lt R.pos (w := p.1) a ha
theorem ext_all (R : RowM ns m) : ext ns 0 (ns.length - 1) = ns.sum + ns.length - 1 := by
  have := R.pos
  unfold ext
  rw [List.drop_zero, List.take_of_length_le (by omega)]
  omega
theorem bk_up (R : RowM ns m) {k : Nat} {p : Int × List Nat} (hp : (bookN ns m)[k]? = some p) : p.1 ≤ ext ns 0 (ns.length - 1) := by
  obtain ⟨P, eP⟩ := book_last R.p R.pos R.mx R.mem R.ms
  have h0 : (bookN ns m)[P.length]? = some (ext ns 0 (ns.length - 1), [0]) := by rw [eP]; simp
  have hl : (bookN ns m).length = P.length + 1 := by rw [eP]; simp
  have hk := (List.getElem?_eq_some_iff.mp hp).1
  by_cases c : k = P.length
  · rw [c, h0] at hp
    cases hp
    exact Int.le_refl _
  · have := book_lt (show k < P.length by omega) hp h0
    exact Int.le_of_lt this
theorem bk_ok (R : RowM ns m) : ∀ p ∈ bkE ns, entOk p := by
  intro p hp
  unfold bkE at hp
  rw [bkE_mx R] at hp
  obtain ⟨q, hq, rfl⟩ := List.mem_map.mp hp
  obtain ⟨k, hk⟩ := List.getElem?_of_mem hq
  have up := bk_up R hk
  have eq := ent_mem hk
  have lt := starts_lt24 R hk
  have e := ext_all R
  have := R.sum
  have := R.few
  have := R.m1
  refine ⟨by show 1 ≤ q.1; omega, by show q.1 ≤ 1464; omega, fun z => ?_, fun x hx => ?_⟩
  · have z : q.2.map (fun (n : Nat) => (n : Int)) = [] := z
    rw [List.map_eq_nil_iff, eq.1] at z
    cases z
  · obtain ⟨a, ha, rfl⟩ := List.mem_map.mp (show x ∈ q.2.map fun (n : Nat) => (n : Int) from hx)
    have := lt a ha
    omega
theorem bk_ne (R : RowM ns m) : bkE ns ≠ [] := by
  unfold bkE
  rw [bkE_mx R]
  have := book_first (ns := ns) (m := m) R.pos R.ms
  intro z
  rw [List.map_eq_nil_iff] at z
  rw [z] at this
  cases this
theorem bk_first (R : RowM ns m) : firstE (bkE ns) = m := by
  unfold firstE bkE
  rw [bkE_mx R]
  have h := book_first (ns := ns) (m := m) R.pos R.ms
  cases hb : bookN ns m with
  | nil => rw [hb] at h; cases h
  | cons p b =>
    rw [hb] at h
    cases h
    rfl
theorem bk_last (R : RowM ns m) : lastE (bkE ns) = ns.sum + ns.length - 1 := by
  unfold lastE bkE
  rw [bkE_mx R]
  obtain ⟨P, e⟩ := book_last R.p R.pos R.mx R.mem R.ms
  rw [e, List.map_append, List.map_singleton, List.getLastD_concat]
  exact ext_all R
theorem bk_many (R : RowM ns m) : manyE (bkE ns) = ns.length := by
  obtain ⟨P, e⟩ := book_last R.p R.pos R.mx R.mem R.ms
  have hpos := R.pos
  by_cases c : 2 ≤ ns.length
  · have f := R.fit2 c
    have t := R.two c
    obtain ⟨k, p, hk, h1, h2⟩ := book_cover R f
    have hl : (bookN ns m).length = P.length + 1 := by rw [e]; simp
    have h0 : (bookN ns m)[P.length]? = some (ext ns 0 (ns.length - 1), [0]) := by rw [e]; simp
    have hkl := (List.getElem?_eq_some_iff.mp hk).1
    have k1 : k ≠ P.length := fun z => by
      subst z
      rw [h0] at hk
      cases hk
      simp at h1
      omega
    have k2 : k + 1 = P.length := by
      by_cases c2 : k + 1 < P.length
      · obtain ⟨q, hq⟩ : ∃ q, (bookN ns m)[k + 1]? = some q := ⟨_, List.getElem?_eq_getElem (by omega)⟩
        have a := h2 q hq
        have b := book_lt c2 hq h0
        simp at b
        omega
      · omega
    obtain ⟨s1, _⟩ := book_span R.pos R.n0 R.ms hk h1 h2
    rw [t] at s1
    obtain ⟨Q, hQ⟩ : ∃ Q, P = Q ++ [p] := by
      have hP : P ≠ [] := by
        intro z
        rw [z] at k2
        simp at k2
      refine ⟨P.dropLast, ?_⟩
      have hp : P.getLast hP = p := by
        rw [List.getLast_eq_getElem]
        rw [e, List.getElem?_append_left (by omega), List.getElem?_eq_getElem (by omega)] at hk
        have := Option.some.inj hk
        rw [← this]
        congr 1
        omega
      rw [← hp, List.dropLast_concat_getLast]
    unfold bkE
    rw [bkE_mx R, e, hQ, List.append_assoc, List.map_append]
    refine (manyE_two (Q.map _) _ _).trans ?_
    show (p.2.map fun (n : Nat) => (n : Int)).getLastD 0 + 1 = _
    rw [s1]
    show ((ns.length - 1 : Nat) : Int) + 1 = _
    omega
  · obtain ⟨a, rfl⟩ : ∃ a, ns = [a] := by
      match ns, c, hpos with
      | [a], _, _ => exact ⟨a, rfl⟩
      | a :: b :: r, c, _ => simp at c
    have hP : P = [] := by
      by_cases z : P = []
      · exact z
      · have h0 : (bookN [a] m)[P.length]? = some (ext [a] 0 ([a].length - 1), [0]) := by rw [e]; simp
        have hf := book_first (ns := [a]) (m := m) R.pos R.ms
        have := book_lt (show 0 < P.length from List.length_pos_iff.mpr z) hf h0
        have hm := R.mem
        have hx : ext [a] 0 ([a].length - 1) = a := by
          have := ext_all R
          simpa using this
        rw [hx] at this
        have hm : m = a := by simpa using hm
        simp [hm] at this
    unfold bkE
    rw [bkE_mx R, e, hP]
    rfl
/-- what rows_with hands out for a row's book -/
theorem withE_bk (R : RowM ns m) (most : Int) : withE (bkE ns) most = if (ns.length : Int) ≤ most then (rowsN ns.length m ns.sum).filter fun r => decide (bkE r = bkE ns) else [] := by
  unfold withE
  rw [bk_many R, bk_first R, bk_last R]
  have := R.m1
  rw [show ns.sum + (ns.length : Int) - 1 - (ns.length : Int) + 1 = ns.sum by omega, show ((ns.length : Int)).toNat = ns.length by omega]
  by_cases c : (ns.length : Int) ≤ most
  · rw [if_pos c, if_pos ⟨c, this.2⟩]
  · rw [if_neg c, if_neg fun z => c z.1]
theorem mem_with (R : RowM ns m) (Rb : RowM bs l) : (bs ∈ (rowsN ns.length m ns.sum).filter fun r => decide (bkE r = bkE ns)) ↔ bkE bs = bkE ns := by
  rw [List.mem_filter]
  constructor
  · intro h
    exact of_decide_eq_true h.2
  · intro h
    have e1 := bk_many R
    have e2 := bk_first R
    have e3 := bk_last R
    rw [← h] at e1 e2 e3
    rw [bk_many Rb] at e1
    rw [bk_first Rb] at e2
    rw [bk_last Rb] at e3
    have hl : bs.length = ns.length := by omega
    refine ⟨mem_rowsN _ _ _ _ hl R.pos (fun x hx => ⟨Rb.p x hx, by rw [← e2]; exact Rb.mx x hx⟩) (by omega), decide_eq_true h⟩
end
abbrev cd : List Int → Int := TS.code 64
theorem cd_rng : ∀ {r : List Int}, (∀ x ∈ r, 1 ≤ x ∧ x ≤ 60) → 0 ≤ cd r ∧ cd r < 64 ^ r.length
  | [], _ => by decide
  | a :: r, h => by
    have h1 := h a (by simp)
    obtain ⟨c0, c1⟩ := cd_rng fun x hx => h x (List.mem_cons_of_mem a hx)
    have := TS.num1 (P := 64 ^ r.length) (d := a) (B := 64) (c := cd r) c0 c1 (by omega) (by omega)
    show 0 ≤ a * 64 ^ r.length + cd r ∧ a * 64 ^ r.length + cd r < 64 ^ (r.length + 1)
    rw [Int.pow_succ]
    exact this
theorem rowsN_asc : ∀ (n : Nat) (most s : Int), most ≤ 60 → (rowsN n most s).Pairwise fun a b => cd a < cd b
  | 0, _, _, _ => by simp [rowsN]
  | 1, most, s, _ => by
    unfold rowsN
    split <;> simp
  | n + 2, most, s, hm => by
    rw [rowsN, List.pairwise_flatMap]
    have ln : ∀ {t : Int} {q : List Int}, q ∈ rowsN (n + 1) most t → 0 ≤ cd q ∧ cd q < 64 ^ (n + 1) ∧ q.length = n + 1 := fun {t q} hq => by
      have a := rowsN_len _ _ _ _ hq
      have b := cd_rng fun x hx => ⟨(rowsN_rng _ _ _ _ hq x hx).1, by have := (rowsN_rng _ _ _ _ hq x hx).2; omega⟩
      rw [a] at b
      exact ⟨b.1, b.2, a⟩
    refine ⟨fun i hi => ?_, ?_⟩
    · rw [List.pairwise_map]
      refine (rowsN_asc (n + 1) most _ hm).imp_of_mem fun {a b} ha hb h => ?_
      obtain ⟨_, _, la⟩ := ln ha
      obtain ⟨_, _, lb⟩ := ln hb
      show (1 + (i : Int)) * 64 ^ a.length + cd a < (1 + (i : Int)) * 64 ^ b.length + cd b
      rw [la, lb]
      omega
    · refine List.pairwise_lt_range.imp fun {i j} hij a ha b hb => ?_
      obtain ⟨p, hp, rfl⟩ := List.mem_map.mp ha
      obtain ⟨q, hq, rfl⟩ := List.mem_map.mp hb
      obtain ⟨_, a2, la⟩ := ln hp
      obtain ⟨b1, _, lb⟩ := ln hq
      show (1 + (i : Int)) * 64 ^ p.length + cd p < (1 + (j : Int)) * 64 ^ q.length + cd q
      rw [la, lb]
      have h64 : (0 : Int) < 64 ^ (n + 1) := Int.pow_pos (by decide)
      have : (1 + (i : Int) + 1) * 64 ^ (n + 1) ≤ (1 + (j : Int)) * 64 ^ (n + 1) := Int.mul_le_mul_of_nonneg_right (by omega) (by omega)
      rw [Int.add_mul] at this
      omega
theorem asc_unique {α : Type} (f : α → Int) : ∀ {l m : List α}, (l.Pairwise fun a b => f a < f b) → (m.Pairwise fun a b => f a < f b) → (∀ x, x ∈ l ↔ x ∈ m) → l = m
  | [], [], _, _, _ => rfl
  | [], b :: m, _, _, h => by have := (h b).mpr (by simp); cases this
  | a :: l, [], _, _, h => by have := (h a).mp (by simp); cases this
  | a :: l, b :: m, hl, hm, h => by
    rw [List.pairwise_cons] at hl hm
    have e : a = b := by
      rcases List.mem_cons.mp ((h a).mp (by simp)) with e | e
      · exact e
      · rcases List.mem_cons.mp ((h b).mpr (by simp)) with e2 | e2
        · exact e2.symm
        · have := hm.1 a e
          have := hl.1 b e2
          omega
    subst e
    have : l = m := asc_unique f hl.2 hm.2 fun x => by
      constructor
      · intro hx
        rcases List.mem_cons.mp ((h x).mp (List.mem_cons_of_mem _ hx)) with e | e
        · have := hl.1 x hx
          rw [e] at this
          omega
        · exact e
      · intro hx
        rcases List.mem_cons.mp ((h x).mpr (List.mem_cons_of_mem _ hx)) with e | e
        · have := hm.1 x hx
          rw [e] at this
          omega
        · exact e
    rw [this]
theorem tups_map : ∀ ls : List (List Int), tups? (ls.map tI) = some ls
  | [] => rfl
  | l :: ls => by
    show (match tup? (tI l), tups? (ls.map tI) with | some l, some ls => some (l :: ls) | _, _ => none) = _
    rw [tups_map ls, show tup? (tI l) = some l from ints?_map l]
theorem srtT {ls : List (List Int)} (ok : tupOk ls) (hp : ls.Pairwise fun a b => cd a < cd b) : opSrtSetT (.list (ls.map tI)) = ret (.list (ls.map tI)) := by
  unfold opSrtSetT
  simp only [tups_map]
  rw [grd_pos ok]
  funext n P X
  refine propext ⟨fun h => ?_, fun h ms nd pm mem => ?_⟩
  · refine h ls ?_ (hp.imp fun h => Int.le_of_lt h) fun l => Iff.rfl
    exact hp.imp fun {a b} h e => by rw [e] at h; exact Int.lt_irrefl _ h
  · have inj : ∀ a ∈ ls, ∀ b ∈ ls, cd a = cd b → a = b := by
      clear ok pm nd mem h
      induction ls with
      | nil => intro a ha; cases ha
      | cons c ls ih =>
        rw [List.pairwise_cons] at hp
        intro a ha b hb e
        rcases List.mem_cons.mp ha with z1 | h1
        · rcases List.mem_cons.mp hb with z2 | h2
          · rw [z1, z2]
          · have := hp.1 b h2; rw [z1] at e; omega
        · rcases List.mem_cons.mp hb with z2 | h2
          · have := hp.1 a h1; rw [z2] at e; omega
          · exact ih hp.2 a h1 b h2 e
    have e : ms = ls := by
      refine asc_unique cd ?_ hp mem
      have both := nd.and pm
      refine List.Pairwise.imp_of_mem (fun {a b} ha hb h => ?_) both
      have h2 := h.2
      by_cases c : cd a = cd b
      · exact absurd (inj a ((mem a).mp ha) b ((mem b).mp hb) c) h.1
      · have h2 : cd a ≤ cd b := h2
        omega
    rw [e]
    exact h
theorem in_ls (neg : Bool) (r : List Int) (ls : List (List Int)) : opIn neg (tI r) (.list (ls.map tI)) = ret (.bool (neg != decide (r ∈ ls))) := by
  have s1 : ∀ x : List Int, Shx 1 (tI x) := fun x => shx_ints x
  have s2 : Shx 2 (.list (ls.map tI)) := shx_lst fun d hd => by
    obtain ⟨x, _, rfl⟩ := List.mem_map.mp hd
    exact s1 x
  refine (grd_pos ⟨(s1 r).toShp.ok (by decide), s2.toShp.ok (by decide)⟩ _).trans ?_
  unfold isIn
  congr 3
  rw [Bool.eq_iff_iff, decide_eq_true_eq, List.any_eq_true]
  constructor
  · rintro ⟨d, hd, e⟩
    obtain ⟨x, hx, rfl⟩ := List.mem_map.mp hd
    rw [← tI_inj (eqv_sharp (s1 x).sh (s1 r).sh e)]
    exact hx
  · intro h
    exact ⟨tI r, List.mem_map_of_mem h, SeqAt.eqv_refl _ (s1 r).lay⟩
theorem shx_ls (ls : List (List Int)) : Shx 2 (.list (ls.map tI)) := shx_lst fun d hd => by
  obtain ⟨x, _, rfl⟩ := List.mem_map.mp hd
  exact shx_ints x
theorem ls_inj {a b : List (List Int)} (h : PyData.list (a.map tI) = .list (b.map tI)) : a = b := map_inj (fun _ _ e => tI_inj e) (PyData.list.inj h)
theorem ne_ls (a b : List (List Int)) : opCmp .ne (.list (a.map tI)) (.list (b.map tI)) = ret (!decide (a = b)) :=
  o_neInj (f := fun ls : List (List Int) => PyData.list (ls.map tI)) (fun _ _ h => ls_inj h) shx_ls (by decide) a b
theorem flat_ls (ls : List (List Int)) : flatAll (ls.map tI) = true := by
  induction ls with
  | nil => rfl
  | cons l ls ih =>
    show (flat (tI l) && flatAll (ls.map tI)) = true
    rw [ih, flat_tI]
    rfl
/-- list(g(..)) as a step -/
def lG (es : List Str) (sp : GSp) (ds : List D) : W D := fun c P Xp => ∃ out, sp ds out ∧ match out with
  | .inl xs => xs.length ≤ sizeLine ∧ flatAll xs = true ∧ P (.list xs) c
  | .inr y => y.cls ∈ es ∧ Xp y c
theorem x_listG (es : List Str) (sp : GSp) (ma : XA) (E : Env) : eListG es sp ma E = bnd (ma E) (lG es sp) := id rfl
theorem x_srtSetT (a : XE) (E : Env) : eSrtSetT a E = bnd (a E) opSrtSetT := id rfl
theorem Ok.lG {es : List Str} {sp : GSp} {ds xs : List D} {f : D → W β} {n : Nat} {S : β → Prop} (h : sp ds (.inl xs)) (hl : xs.length ≤ sizeLine) (hf : flatAll xs = true) (k : Ok (f (.list xs)) n S) : Ok (DL.bnd (DL.lG es sp ds) f) n S :=
  fun c P X hc kk => ⟨.inl xs, h, hl, hf, k c P X hc kk⟩
end DL
end
section
namespace DL
open PySem
theorem comp_none {it : XA} {tg : Tg} {t : XT} {e : XE} {vs : List Nat} {E : Env} {ds : List D} (hit : it E = ret ds) (hl : ds.length ≤ 1000000)
    (hs : ∀ d ∈ ds, ∃ E1, tg.put d (wipeE E vs) = some E1 ∧ t E1 = ret false) : eComp it tg t e vs E = ret (.list []) := by
  have := comp_filtE (e := e) (p := fun _ => false) (f := fun d => d) hit hl fun d hd => by
    obtain ⟨E1, h1, h2⟩ := hs d hd
    exact ⟨E1, h1, h2, fun z => nomatch z⟩
  rw [this]
  congr 2
  induction ds with
  | nil => rfl
  | cons d ds ih => simp
structure Few (ns : List Int) : Prop where
  R : RowM ns (mxI ns)
  len : ns.length ≤ 3
  few : (rowsN ns.length (mxI ns) ns.sum).length < 64
def LS (ns : List Int) : List (List Int) := (rowsN ns.length (mxI ns) ns.sum).filter fun r => decide (bkE r = bkE ns)
theorem LS_mem {ns r : List Int} (h : r ∈ LS ns) : r ∈ rowsN ns.length (mxI ns) ns.sum ∧ bkE r = bkE ns := by
  unfold LS at h
  rw [List.mem_filter] at h
  exact ⟨h.1, of_decide_eq_true h.2⟩
theorem RowN.R {ns : List Int} (h : RowN ns) : RowM ns (mxI ns) := by
  obtain ⟨m, R⟩ := h.ex
  rw [bkE_mx R]
  exact R
theorem rows3 : ∀ m < 9, ∀ s < 25, (rowsN 3 (m : Nat) (s : Nat)).length < 64 := by decide +kernel
theorem rows2 (m s : Int) (hm : m ≤ 60) : (rowsN 2 m s).length < 64 := by
  rw [rowsN, List.length_flatMap]
  have : ∀ (l : List Nat) (f : Nat → Nat), (∀ x ∈ l, f x ≤ 1) → (l.map f).sum ≤ l.length := by
    intro l f
    induction l with
    | nil => intro _; simp
    | cons a l ih =>
      intro h
      have h1 := h a (by simp)
      have h2 := ih fun x hx => h x (List.mem_cons_of_mem _ hx)
      simp only [List.map_cons, List.sum_cons, List.length_cons]
      omega
  have h2 := this (List.range (min m (s - ((0 : Nat) + 2) + 1)).toNat) (fun i => ((rowsN (0 + 1) m (s - (1 + (i : Int)))).map ((1 + (i : Int)) :: ·)).length) fun i _ => by
    show ((rowsN 1 m _).map _).length ≤ 1
    rw [List.length_map]
    unfold rowsN
    split <;> simp
  rw [List.length_range] at h2
  refine Nat.lt_of_le_of_lt h2 ?_
  omega
theorem few_of {ns : List Int} (h : RowN ns) (hl : ns.length ≤ 3) (h3 : ns.length = 3 → ∀ x ∈ ns, x ≤ 8) : Few ns := by
  have R := h.R
  refine ⟨R, hl, ?_⟩
  have hp := R.pos
  have m1 := R.m1
  obtain c | c | c : ns.length = 1 ∨ ns.length = 2 ∨ ns.length = 3 := by omega
  · rw [c]
    unfold rowsN
    split <;> simp
  · rw [c]
    exact rows2 _ _ m1.2
  · rw [c]
    have h8 := h3 c
    have m8 := h8 _ R.mem
    have s24 : ns.sum ≤ 24 ∧ 0 ≤ ns.sum := by
      match ns, c with
      | [x, y, z], _ =>
        have a := h8 x (by simp)
        have b := h8 y (by simp)
        have d := h8 z (by simp)
        have := R.sum
        simp only [List.sum_cons, List.sum_nil] at this ⊢
        omega
    have := rows3 (mxI ns).toNat (by omega) ns.sum.toNat (by omega)
    rw [show (((mxI ns).toNat : Nat) : Int) = mxI ns by omega, show ((ns.sum.toNat : Nat) : Int) = ns.sum by omega] at this
    exact this
theorem Few.mem {ns r : List Int} (F : Few ns) (h : r ∈ LS ns) : RowM r (mxI r) ∧ bkE r = bkE ns := by
  have h := LS_mem h
  have hp := F.R.pos
  have hf := F.R.few
  have m1 := F.R.m1
  exact ⟨row_of h.1 (by omega) hf m1.2, h.2⟩
theorem Few.less {ns : List Int} (F : Few ns) : (LS ns).length < 64 := Nat.lt_of_le_of_lt (List.length_filter_le _ _) F.few
theorem Few.asc {ns : List Int} (F : Few ns) : (LS ns).Pairwise fun a b => cd a < cd b := (rowsN_asc _ _ _ F.R.m1.2).filter _
theorem Few.ok {ns : List Int} (F : Few ns) : tupOk (LS ns) := ⟨F.less, ns.length, F.R.pos, fun l hl => by
  have h := (LS_mem hl).1
  have m1 := F.R.m1
  exact ⟨rowsN_len _ _ _ _ h, fun x hx => by have := rowsN_rng _ _ _ _ h x hx; omega⟩⟩
theorem Few.srt {ns : List Int} (F : Few ns) : opSrtSetT (.list ((LS ns).map tI)) = ret (.list ((LS ns).map tI)) := srtT F.ok F.asc
theorem Few.self {ns : List Int} (F : Few ns) : ns ∈ LS ns := (mem_with F.R F.R).mpr rfl
theorem one_eq {a b : List Int} (ha : a.length = 1) (hb : b.length = 1) (h : a.sum = b.sum) : a = b := by
  match a, b, ha, hb with
  | [x], [y], _, _ =>
    have : x = y := by simpa using h
    rw [this]
theorem Few.one {ns : List Int} (F : Few ns) (c : ns.length = 1) : LS ns = [ns] := by
  have hs := F.self
  have as := F.asc
  have all : ∀ r ∈ LS ns, r = ns := fun r hr => by
    have h1 := (LS_mem hr).1
    exact one_eq (by rw [rowsN_len _ _ _ _ h1, c]) c (rowsN_sum _ _ _ _ h1)
  revert hs as all
  generalize LS ns = L
  intro hs as all
  cases L with
  | nil => cases hs
  | cons x l =>
    have hx := all x (by simp)
    cases l with
    | nil => rw [hx]
    | cons y l =>
      have hy := all y (by simp)
      rw [List.pairwise_cons] at as
      have := as.1 y (by simp)
      rw [hy, hx] at this
      exact absurd this (Int.lt_irrefl _)
theorem rows_with_bk {ns : List Int} {m : Int} (R : RowM ns m) {most : Int} (h : most ≤ 3) : w_rows_with_0 [bkD ns, .int most] (.inl ((withE (bkE ns) most).map tI)) := by
  rw [bkD_E]
  have bd : Bd 0 (((bkE ns).map entI).length * (30 + 1)) 3 (.tuple ((bkE ns).map entI)) := bd_tup (bda_all fun d hd => by
    obtain ⟨p, hp, rfl⟩ := List.mem_map.mp hd
    obtain ⟨p1, p2, _, p3⟩ := bk_ok R p hp
    have hlen : p.2.length ≤ 25 := by
      unfold bkE at hp
      rw [bkE_mx R] at hp
      obtain ⟨q, hq, rfl⟩ := List.mem_map.mp hp
      obtain ⟨k, hk⟩ := List.getElem?_of_mem hq
      show (q.2.map fun (n : Nat) => (n : Int)).length ≤ 25
      rw [List.length_map, (ent_mem hk).1]
      have := starts_len ns q.1
      have := R.few
      omega
    have b1 : Bd 0 0 0 (.int p.1) := bd_int (by omega)
    have b2 : Bd 0 p.2.length 1 (tI p.2) := bd_tup (bda_ints fun x hx => by have := p3 x hx; omega)
    exact (bd_tup (bda_cons b1 (bda_cons b2 bda_nil))).mono (Nat.le_refl _) (by omega) (by decide))
  have hl : (bkE ns).length ≤ 1500 := by
    unfold bkE
    rw [bkE_mx R, List.length_map]
    exact book_len R
  refine rows_with_yes bd.lf ?_ (bk_ne R) (bk_ok R) h
  have := bd.bulk
  rw [List.length_map] at this
  omega
theorem ext_whole {ns : List Int} {m : Int} (R : RowM ns m) : w_extent_0 [.tuple (ns.map PyData.int), .int 0, .int ((ns.length : Int) - 1)] = ret (.int (ext ns 0 (ns.length - 1))) := by
  have := R.pos
  rw [show (ns.length : Int) - 1 = ((ns.length - 1 : Nat) : Int) by omega]
  exact extent_0 (i := 0) (by omega) (by omega)
end DL
end
section
namespace DL
open PySem
theorem short_34 : Ok (w__law_short_1 []) 7 fun d => ∃ ns : List Int, d = .tuple (ns.map PyData.int) ∧ Few ns := by
  unfold w__law_short_1
  rw [x_fnS]
  refine Ok.grd rfl (Ok.fn ?_)
  simp only [x_var, x_con, x_bin, x_neg, x_cmp, x_chain, x_tTru, x_tNot, x_tAnd, x_tOr, x_tBool, x_tYes, x_not, x_and, x_or, x_if, x_b1, x_b2, x_is, x_idx, x_oNone, x_oSome, x_cut, x_aNil, x_aCons, x_tup, x_lst, x_call, x_callS,
    x_iSeq, x_iRng1, x_iRng2, x_bor, x_tBor, x_put1, List.map_cons, List.map_nil, List.cons_append, List.nil_append, List.length_cons, List.length_nil, Nat.zero_add, Nat.reduceAdd, Nat.reduceSub, List.reduceReplicate, start,
    List.getElem?_cons_zero, List.getElem?_cons_succ, List.set_cons_zero, List.set_cons_succ, bnd_ret, bnd_assoc, bnd_grd, b1_if, bnd_ite, small, Nat.reduceLeDiff, grd_true, o_add, o_sub, o_neg, o_eq, o_ne, o_lt, o_le, o_gt, o_ge, o_eqS, o_neS,
    decide_eq_true_eq, reduceIte, decide_true, decide_false, Bool.not_true, Bool.not_false, Bool.false_eq_true, itemsOf, asInt, bi2, endOf, isTy,
    grd_tt, nx_int, nx_bool, nx_str, nx_none, nx_tup, nx_lst, x_isC, x_fld, x_in, x_count, x_lstR, x_tupR, x_raise, x_star, bnd_thr, noX_ret, fld_x, exn_d, eSetO, Out.clear, List.zip_cons_cons, List.zip_nil_left, List.zip_nil_right, s_asg, s_par, s_own, s_parO, s_put, s_expr, s_ret, s_skip, s_seq, s_rel, x_asg, x_par, x_own, x_parO, x_put, x_expr, x_ret, x_retN, x_skip, x_rel, x_app, x_setI, x_sIf, x_for, x_brk, x_cnt]
  refine Ok.drawB (n := 6) (by omega) (by omega) fun r h0 h1 => ?_
  simp only [x_var, x_con, x_bin, x_neg, x_cmp, x_chain, x_tTru, x_tNot, x_tAnd, x_tOr, x_tBool, x_tYes, x_not, x_and, x_or, x_if, x_b1, x_b2, x_is, x_idx, x_oNone, x_oSome, x_cut, x_aNil, x_aCons, x_tup, x_lst, x_call, x_callS,
    x_iSeq, x_iRng1, x_iRng2, x_bor, x_tBor, x_put1, List.map_cons, List.map_nil, List.cons_append, List.nil_append, List.length_cons, List.length_nil, Nat.zero_add, Nat.reduceAdd, Nat.reduceSub, List.reduceReplicate, start,
    List.getElem?_cons_zero, List.getElem?_cons_succ, List.set_cons_zero, List.set_cons_succ, bnd_ret, bnd_assoc, bnd_grd, b1_if, bnd_ite, small, Nat.reduceLeDiff, grd_true, o_add, o_sub, o_neg, o_eq, o_ne, o_lt, o_le, o_gt, o_ge, o_eqS, o_neS,
    decide_eq_true_eq, reduceIte, decide_true, decide_false, Bool.not_true, Bool.not_false, Bool.false_eq_true, itemsOf, asInt, bi2, endOf, isTy,
    grd_tt, nx_int, nx_bool, nx_str, nx_none, nx_tup, nx_lst, x_isC, x_fld, x_in, x_count, x_lstR, x_tupR, x_raise, x_star, bnd_thr, noX_ret, fld_x, exn_d, eSetO, Out.clear, List.zip_cons_cons, List.zip_nil_left, List.zip_nil_right, s_asg, s_par, s_own, s_parO, s_put, s_expr, s_ret, s_skip, s_seq, s_rel, x_asg, x_par, x_own, x_parO, x_put, x_expr, x_ret, x_retN, x_skip, x_rel, x_app, x_setI, x_sIf, x_for, x_brk, x_cnt]
  refine ok_comp (ds := rng 0 (1 + r)) (b := 2) (G := fun d => ∃ x : Int, d = .int x ∧ 1 ≤ x ∧ x ≤ 8) ?_ (by rw [rng_len]; omega) ?_ (by rw [rng_len]; omega) ?_
  · simp only [x_var, x_con, x_bin, x_neg, x_cmp, x_chain, x_tTru, x_tNot, x_tAnd, x_tOr, x_tBool, x_tYes, x_not, x_and, x_or, x_if, x_b1, x_b2, x_is, x_idx, x_oNone, x_oSome, x_cut, x_aNil, x_aCons, x_tup, x_lst, x_call, x_callS,
    x_iSeq, x_iRng1, x_iRng2, x_bor, x_tBor, x_put1, List.map_cons, List.map_nil, List.cons_append, List.nil_append, List.length_cons, List.length_nil, Nat.zero_add, Nat.reduceAdd, Nat.reduceSub, List.reduceReplicate, start,
    List.getElem?_cons_zero, List.getElem?_cons_succ, List.set_cons_zero, List.set_cons_succ, bnd_ret, bnd_assoc, bnd_grd, b1_if, bnd_ite, small, Nat.reduceLeDiff, grd_true, o_add, o_sub, o_neg, o_eq, o_ne, o_lt, o_le, o_gt, o_ge, o_eqS, o_neS,
    decide_eq_true_eq, reduceIte, decide_true, decide_false, Bool.not_true, Bool.not_false, Bool.false_eq_true, itemsOf, asInt, bi2, endOf, isTy,
    grd_tt, nx_int, nx_bool, nx_str, nx_none, nx_tup, nx_lst, x_isC, x_fld, x_in, x_count, x_lstR, x_tupR, x_raise, x_star, bnd_thr, noX_ret, fld_x, exn_d, eSetO, Out.clear, List.zip_cons_cons, List.zip_nil_left, List.zip_nil_right]
    exact grd_pos (by unfold rngOk; omega) _
  · intro d hd
    obtain ⟨i, rfl, hi0, hi1⟩ := rng_mem hd
    refine ⟨_, rfl, rfl, ?_⟩
    simp only [x_var, x_con, x_bin, x_neg, x_cmp, x_chain, x_tTru, x_tNot, x_tAnd, x_tOr, x_tBool, x_tYes, x_not, x_and, x_or, x_if, x_b1, x_b2, x_is, x_idx, x_oNone, x_oSome, x_cut, x_aNil, x_aCons, x_tup, x_lst, x_call, x_callS,
    x_iSeq, x_iRng1, x_iRng2, x_bor, x_tBor, x_put1, List.map_cons, List.map_nil, List.cons_append, List.nil_append, List.length_cons, List.length_nil, Nat.zero_add, Nat.reduceAdd, Nat.reduceSub, List.reduceReplicate, start,
    List.getElem?_cons_zero, List.getElem?_cons_succ, List.set_cons_zero, List.set_cons_succ, bnd_ret, bnd_assoc, bnd_grd, b1_if, bnd_ite, small, Nat.reduceLeDiff, grd_true, o_add, o_sub, o_neg, o_eq, o_ne, o_lt, o_le, o_gt, o_ge, o_eqS, o_neS,
    decide_eq_true_eq, reduceIte, decide_true, decide_false, Bool.not_true, Bool.not_false, Bool.false_eq_true, itemsOf, asInt, bi2, endOf, isTy,
    grd_tt, nx_int, nx_bool, nx_str, nx_none, nx_tup, nx_lst, x_isC, x_fld, x_in, x_count, x_lstR, x_tupR, x_raise, x_star, bnd_thr, noX_ret, fld_x, exn_d, eSetO, Out.clear, List.zip_cons_cons, List.zip_nil_left, List.zip_nil_right, wipeE]
    refine Ok.drawB (n := 1) (by omega) (by omega) fun u u0 u1 => ?_
    have top : ∃ z : Int, opIdx (PyData.list [PyData.int 3, PyData.int 8, PyData.int 8]) (.int u) = ret (.int z) ∧ 1 ≤ z ∧ z ≤ 8 := by
      obtain rfl | rfl | rfl : u = 0 ∨ u = 1 ∨ u = 2 := by omega
      · exact ⟨3, rfl, by decide⟩
      · exact ⟨8, rfl, by decide⟩
      · exact ⟨8, rfl, by decide⟩
    obtain ⟨z, ez, z1, z2⟩ := top
    simp only [x_var, x_con, x_bin, x_neg, x_cmp, x_chain, x_tTru, x_tNot, x_tAnd, x_tOr, x_tBool, x_tYes, x_not, x_and, x_or, x_if, x_b1, x_b2, x_is, x_idx, x_oNone, x_oSome, x_cut, x_aNil, x_aCons, x_tup, x_lst, x_call, x_callS,
    x_iSeq, x_iRng1, x_iRng2, x_bor, x_tBor, x_put1, List.map_cons, List.map_nil, List.cons_append, List.nil_append, List.length_cons, List.length_nil, Nat.zero_add, Nat.reduceAdd, Nat.reduceSub, List.reduceReplicate, start,
    List.getElem?_cons_zero, List.getElem?_cons_succ, List.set_cons_zero, List.set_cons_succ, bnd_ret, bnd_assoc, bnd_grd, b1_if, bnd_ite, small, Nat.reduceLeDiff, grd_true, o_add, o_sub, o_neg, o_eq, o_ne, o_lt, o_le, o_gt, o_ge, o_eqS, o_neS,
    decide_eq_true_eq, reduceIte, decide_true, decide_false, Bool.not_true, Bool.not_false, Bool.false_eq_true, itemsOf, asInt, bi2, endOf, isTy,
    grd_tt, nx_int, nx_bool, nx_str, nx_none, nx_tup, nx_lst, x_isC, x_fld, x_in, x_count, x_lstR, x_tupR, x_raise, x_star, bnd_thr, noX_ret, fld_x, exn_d, eSetO, Out.clear, List.zip_cons_cons, List.zip_nil_left, List.zip_nil_right, ez]
    refine Ok.drawB (n := 0) (by omega) (by omega) fun v v0 v1 => ?_
    simp only [x_var, x_con, x_bin, x_neg, x_cmp, x_chain, x_tTru, x_tNot, x_tAnd, x_tOr, x_tBool, x_tYes, x_not, x_and, x_or, x_if, x_b1, x_b2, x_is, x_idx, x_oNone, x_oSome, x_cut, x_aNil, x_aCons, x_tup, x_lst, x_call, x_callS,
    x_iSeq, x_iRng1, x_iRng2, x_bor, x_tBor, x_put1, List.map_cons, List.map_nil, List.cons_append, List.nil_append, List.length_cons, List.length_nil, Nat.zero_add, Nat.reduceAdd, Nat.reduceSub, List.reduceReplicate, start,
    List.getElem?_cons_zero, List.getElem?_cons_succ, List.set_cons_zero, List.set_cons_succ, bnd_ret, bnd_assoc, bnd_grd, b1_if, bnd_ite, small, Nat.reduceLeDiff, grd_true, o_add, o_sub, o_neg, o_eq, o_ne, o_lt, o_le, o_gt, o_ge, o_eqS, o_neS,
    decide_eq_true_eq, reduceIte, decide_true, decide_false, Bool.not_true, Bool.not_false, Bool.false_eq_true, itemsOf, asInt, bi2, endOf, isTy,
    grd_tt, nx_int, nx_bool, nx_str, nx_none, nx_tup, nx_lst, x_isC, x_fld, x_in, x_count, x_lstR, x_tupR, x_raise, x_star, bnd_thr, noX_ret, fld_x, exn_d, eSetO, Out.clear, List.zip_cons_cons, List.zip_nil_left, List.zip_nil_right]
    exact Ok.ret ⟨_, rfl, by omega, by omega⟩
  · intro ys hy hG
    have hG2 : ∀ d ∈ ys, ∃ x : Int, d = .int x ∧ 1 ≤ x ∧ x ≤ 60 := fun d hd => by
      obtain ⟨x, e, a, b⟩ := hG d hd
      exact ⟨x, e, a, by omega⟩
    obtain ⟨ns, rfl, hn⟩ := ints_of hG2
    rw [List.length_map, rng_len] at hy
    have h8 : ∀ x ∈ ns, x ≤ 8 := fun x hx => by
      obtain ⟨y, e, _, b⟩ := hG (.int x) (List.mem_map_of_mem hx)
      injection e with e
      omega
    try simp only [x_var, x_con, x_bin, x_neg, x_cmp, x_chain, x_tTru, x_tNot, x_tAnd, x_tOr, x_tBool, x_tYes, x_not, x_and, x_or, x_if, x_b1, x_b2, x_is, x_idx, x_oNone, x_oSome, x_cut, x_aNil, x_aCons, x_tup, x_lst, x_call, x_callS,
    x_iSeq, x_iRng1, x_iRng2, x_bor, x_tBor, x_put1, List.map_cons, List.map_nil, List.cons_append, List.nil_append, List.length_cons, List.length_nil, Nat.zero_add, Nat.reduceAdd, Nat.reduceSub, List.reduceReplicate, start,
    List.getElem?_cons_zero, List.getElem?_cons_succ, List.set_cons_zero, List.set_cons_succ, bnd_ret, bnd_assoc, bnd_grd, b1_if, bnd_ite, small, Nat.reduceLeDiff, grd_true, o_add, o_sub, o_neg, o_eq, o_ne, o_lt, o_le, o_gt, o_ge, o_eqS, o_neS,
    decide_eq_true_eq, reduceIte, decide_true, decide_false, Bool.not_true, Bool.not_false, Bool.false_eq_true, itemsOf, asInt, endOf, isTy,
    grd_tt, nx_int, nx_bool, nx_str, nx_none, nx_tup, nx_lst, x_isC, x_fld, x_in, x_count, x_lstR, x_tupR, x_raise, x_star, bnd_thr, noX_ret, fld_x, exn_d, eSetO, Out.clear, List.zip_cons_cons, List.zip_nil_left, List.zip_nil_right, s_asg, s_par, s_own, s_parO, s_put, s_expr, s_ret, s_skip, s_seq, s_rel, x_asg, x_par, x_own, x_parO, x_put, x_expr, x_ret, x_retN, x_skip, x_rel, x_app, x_setI, x_sIf, x_for, x_brk, x_cnt, b_lenT, b_lenL, b_tupL, b_tupT, b_max2, b_min2, o_addL, o_addT, cut_ints, sum_ints, s_chk, s_for, s_brk, s_cnt, s_retN, t_bool, g_rng, g_le, List.length_map]
    exact Ok.ret ⟨ns, rfl, few_of ⟨by omega, by omega, hn⟩ (by omega) fun _ => h8⟩
theorem isN_of (o : Option Int) : isNone (intD o) = o.isNone := by cases o <;> rfl
theorem notin {ns bs : List Int} (F : Few ns) (Rb : RowM bs (mxI bs)) : decide (bs ∈ LS ns) = (unlikeN bs (mxI bs) ns (mxI ns)).isNone := by
  rw [Bool.eq_iff_iff, decide_eq_true_eq, LS, mem_with F.R Rb, bkE_eq Rb F.R]
  constructor
  · intro h
    unfold unlikeN
    rw [h, unlikeL_self]
    rfl
  · intro h
    exact (unlike_none Rb F.R (Option.isNone_iff_eq_none.mp h)).1
def rest34 : XS := (sSeq (sPar 4 5 (eListG [] w_rows_with_0 (aCons (eCall w_book_of_0 (aCons (eVar 3) (aNil))) (aCons (eCon (.int 3)) (aNil)))) (eCall w_extent_0 (aCons (eVar 3) (aCons (eCon (.int 0)) (aCons (eBin .sub (eB1 .len (eVar 3)) (eCon (.int 1))) (aNil))))))
    (sSeq (sIf (DL.tOr (tBool (eIn true (eVar 3) (eVar 4))) (DL.tOr (tBool (eCmp .ne (eVar 4) (eSrtSetT (eVar 4)))) (tBool (eCmp .ne (eComp (iSeq (eVar 4)) (.nm 6) (tBool (eCmp .ne (eCall w_book_of_0 (aCons (eVar 6) (aNil))) (eCall w_book_of_0 (aCons (eVar 3) (aNil))))) (eVar 6) [6]) (eLst (aNil)))))) (sRet (eCon (.bool false))) (sSkip))
    (sSeq (sFor (iSeq (eVar 4)) (.nm 6) (sIf (DL.tOr (tBool (eCmp .notN (eCall w_first_unlike_0 (aCons (eVar 6) (aCons (eVar 3) (aNil)))) (eCon .none))) (DL.tOr (tBool (eCmp .ne (eB1 .len (eVar 6)) (eB1 .len (eVar 3)))) (tBool (eCmp .ne (eCall w_extent_0 (aCons (eVar 6) (aCons (eCon (.int 0)) (aCons (eBin .sub (eB1 .len (eVar 6)) (eCon (.int 1))) (aNil))))) (eVar 5))))) (sRet (eCon (.bool false))) (sSkip)))
    (sSeq (sAsg 7 (eCallS w__law_partner_0 1 (aCons (eVar 3) (aNil))))
    (sSeq (sIf (DL.tAnd (tBool (eCmp .ne (eIn false (eVar 7) (eVar 4)) (eCmp .isN (eCall w_first_unlike_0 (aCons (eVar 7) (aCons (eVar 3) (aNil)))) (eCon .none)))) (tBool (eCmp .lt (eB1 .len (eVar 7)) (eCon (.int 4))))) (sRet (eCon (.bool false))) (sSkip))
    (sSeq (sIf (DL.tOr (DL.tAnd (tBool (eCmp .eq (eB1 .len (eVar 3)) (eCon (.int 1)))) (tBool (eCmp .ne (eVar 4) (eLst (aCons (eVar 3) (aNil)))))) (tBool (eCmp .ne (eComp (iSeq (eVar 4)) (.nm 6) (tBool (eCmp .ne (eCall w_longest_0 (aCons (eVar 6) (aNil))) (eCall w_longest_0 (aCons (eVar 3) (aNil))))) (eVar 6) [6]) (eLst (aNil))))) (sRet (eCon (.bool false))) (sSkip))
    (sIf (DL.tOr (tBool (eCmp .ne (eListG [] w_rows_with_0 (aCons (eCall w_book_of_0 (aCons (eVar 3) (aNil))) (aCons (eB1 .len (eVar 3)) (aNil)))) (eVar 4))) (DL.tAnd (tBool (eCmp .gt (eB1 .len (eVar 3)) (eCon (.int 1)))) (tBool (eCmp .ne (eListG [] w_rows_with_0 (aCons (eCall w_book_of_0 (aCons (eVar 3) (aNil))) (aCons (eCon (.int 1)) (aNil)))) (eLst (aNil)))))) (sRet (eCon (.bool false))) (sSkip))))))))
theorem chk_no {t : XT} {a : XE} {b : XS} {E : Env} (h : t E = ret false) : sSeq (sIf t (sRet a) sSkip) b E = b E := by
  rw [s_chk, h, bnd_ret, if_neg Bool.false_ne_true]
theorem ls_small {ls : List (List Int)} (h : ls.length < 64) : (ls.map tI).length ≤ sizeLine := by
  rw [List.length_map]
  have : (64 : Nat) ≤ sizeLine := by decide
  omega
theorem ne_nilL : opCmp .ne (.list []) (.list []) = ret false := ne_ls [] []
theorem turn_34 {ns : List Int} {t : D} {e4 e5 e6 e7 : Ent} (F : Few ns) : Ok (rest34 [.unk, .stm, .val t, .val (tI ns), e4, e5, e6, e7]) 3 fun o => match o with
    | .nx E => ∃ e2 e3 e4 e5 e6 e7, E = [.unk, .stm, e2, e3, e4, e5, e6, e7]
    | _ => False := by
  have R := F.R
  have hw3 : withE (bkE ns) 3 = LS ns := by
    rw [withE_bk R, if_pos (by have := F.len; omega)]
    rfl
  have g3 := rows_with_bk R (most := 3) (by decide)
  rw [hw3] at g3
  have hl := F.len
  have hp := R.pos
  have l64 := F.less
  have hx := ext_whole R
  have hmx := fun (r : List Int) (Rr : RowM r (mxI r)) => longest_0 Rr.max
  unfold rest34
  rw [s_par, show eListG [] w_rows_with_0 (aCons (eCall w_book_of_0 (aCons (eVar 3) (aNil))) (aCons (eCon (.int 3)) (aNil))) [.unk, .stm, .val t, .val (tI ns), e4, e5, e6, e7] = lG [] w_rows_with_0 [bkD ns, .int 3] by
    rw [x_listG]
    simp only [x_var, x_con, x_bin, x_neg, x_cmp, x_chain, x_tTru, x_tNot, x_tAnd, x_tOr, x_tBool, x_tYes, x_not, x_and, x_or, x_if, x_b1, x_b2, x_is, x_idx, x_oNone, x_oSome, x_cut, x_aNil, x_aCons, x_tup, x_lst, x_call, x_callS,
    x_iSeq, x_iRng1, x_iRng2, x_bor, x_tBor, x_put1, List.map_cons, List.map_nil, List.cons_append, List.nil_append, List.length_cons, List.length_nil, Nat.zero_add, Nat.reduceAdd, Nat.reduceSub, List.reduceReplicate, start,
    List.getElem?_cons_zero, List.getElem?_cons_succ, List.set_cons_zero, List.set_cons_succ, bnd_ret, bnd_assoc, bnd_grd, b1_if, bnd_ite, small, Nat.reduceLeDiff, grd_true, o_add, o_sub, o_neg, o_eq, o_ne, o_lt, o_le, o_gt, o_ge, o_eqS, o_neS,
    decide_eq_true_eq, reduceIte, decide_true, decide_false, Bool.not_true, Bool.not_false, Bool.false_eq_true, itemsOf, asInt, endOf, isTy,
    grd_tt, nx_int, nx_bool, nx_str, nx_none, nx_tup, nx_lst, x_isC, x_fld, x_in, x_count, x_lstR, x_tupR, x_raise, x_star, bnd_thr, noX_ret, fld_x, exn_d, eSetO, Out.clear, List.zip_cons_cons, List.zip_nil_left, List.zip_nil_right, s_asg, s_par, s_own, s_parO, s_put, s_expr, s_ret, s_skip, s_seq, s_rel, x_asg, x_par, x_own, x_parO, x_put, x_expr, x_ret, x_retN, x_skip, x_rel, x_app, x_setI, x_sIf, x_for, x_brk, x_cnt, b_lenT, b_lenL, b_tupL, b_tupT, b_max2, b_min2, o_addL, o_addT, cut_ints, sum_ints, s_chk, s_for, s_brk, s_cnt, s_retN, t_bool, g_rng, g_le, List.length_map, book_of_R R]]
  refine Ok.lG g3 (ls_small l64) (flat_ls _) ?_
  rw [show eCall w_extent_0 (aCons (eVar 3) (aCons (eCon (.int 0)) (aCons (eBin .sub (eB1 .len (eVar 3)) (eCon (.int 1))) (aNil)))) [.unk, .stm, .val t, .val (tI ns), e4, e5, e6, e7] = ret (.int (ext ns 0 (ns.length - 1))) by
    simp (disch := omega) only [x_var, x_con, x_bin, x_neg, x_cmp, x_chain, x_tTru, x_tNot, x_tAnd, x_tOr, x_tBool, x_tYes, x_not, x_and, x_or, x_if, x_b1, x_b2, x_is, x_idx, x_oNone, x_oSome, x_cut, x_aNil, x_aCons, x_tup, x_lst, x_call, x_callS,
    x_iSeq, x_iRng1, x_iRng2, x_bor, x_tBor, x_put1, List.map_cons, List.map_nil, List.cons_append, List.nil_append, List.length_cons, List.length_nil, Nat.zero_add, Nat.reduceAdd, Nat.reduceSub, List.reduceReplicate, start,
    List.getElem?_cons_zero, List.getElem?_cons_succ, List.set_cons_zero, List.set_cons_succ, bnd_ret, bnd_assoc, bnd_grd, b1_if, bnd_ite, small, Nat.reduceLeDiff, grd_true, o_add, o_sub, o_neg, o_eq, o_ne, o_lt, o_le, o_gt, o_ge, o_eqS, o_neS,
    decide_eq_true_eq, reduceIte, decide_true, decide_false, Bool.not_true, Bool.not_false, Bool.false_eq_true, itemsOf, asInt, endOf, isTy,
    grd_tt, nx_int, nx_bool, nx_str, nx_none, nx_tup, nx_lst, x_isC, x_fld, x_in, x_count, x_lstR, x_tupR, x_raise, x_star, bnd_thr, noX_ret, fld_x, exn_d, eSetO, Out.clear, List.zip_cons_cons, List.zip_nil_left, List.zip_nil_right, s_asg, s_par, s_own, s_parO, s_put, s_expr, s_ret, s_skip, s_seq, s_rel, x_asg, x_par, x_own, x_parO, x_put, x_expr, x_ret, x_retN, x_skip, x_rel, x_app, x_setI, x_sIf, x_for, x_brk, x_cnt, b_lenT, b_lenL, b_tupL, b_tupT, b_max2, b_min2, o_addL, o_addT, cut_ints, sum_ints, s_chk, s_for, s_brk, s_cnt, s_retN, t_bool, g_rng, g_le, List.length_map, hx], bnd_ret]
  show Ok (sSeq _ _ [.unk, .stm, .val t, .val (tI ns), .val (.list ((LS ns).map tI)), .val (.int (ext ns 0 (ns.length - 1))), e6, e7]) 3 _
  have cA : eComp (iSeq (eVar 4)) (.nm 6) (tBool (eCmp .ne (eCall w_book_of_0 (aCons (eVar 6) (aNil))) (eCall w_book_of_0 (aCons (eVar 3) (aNil))))) (eVar 6) [6] [.unk, .stm, .val t, .val (tI ns), .val (.list ((LS ns).map tI)), .val (.int (ext ns 0 (ns.length - 1))), e6, e7] = ret (.list []) := by
    refine comp_none (ds := (LS ns).map tI) ?_ (by rw [List.length_map]; omega) fun d hd => ?_
    · simp only [x_var, x_con, x_bin, x_neg, x_cmp, x_chain, x_tTru, x_tNot, x_tAnd, x_tOr, x_tBool, x_tYes, x_not, x_and, x_or, x_if, x_b1, x_b2, x_is, x_idx, x_oNone, x_oSome, x_cut, x_aNil, x_aCons, x_tup, x_lst, x_call, x_callS,
    x_iSeq, x_iRng1, x_iRng2, x_bor, x_tBor, x_put1, List.map_cons, List.map_nil, List.cons_append, List.nil_append, List.length_cons, List.length_nil, Nat.zero_add, Nat.reduceAdd, Nat.reduceSub, List.reduceReplicate, start,
    List.getElem?_cons_zero, List.getElem?_cons_succ, List.set_cons_zero, List.set_cons_succ, bnd_ret, bnd_assoc, bnd_grd, b1_if, bnd_ite, small, Nat.reduceLeDiff, grd_true, o_add, o_sub, o_neg, o_eq, o_ne, o_lt, o_le, o_gt, o_ge, o_eqS, o_neS,
    decide_eq_true_eq, reduceIte, decide_true, decide_false, Bool.not_true, Bool.not_false, Bool.false_eq_true, itemsOf, asInt, bi2, endOf, isTy,
    grd_tt, nx_int, nx_bool, nx_str, nx_none, nx_tup, nx_lst, x_isC, x_fld, x_in, x_count, x_lstR, x_tupR, x_raise, x_star, bnd_thr, noX_ret, fld_x, exn_d, eSetO, Out.clear, List.zip_cons_cons, List.zip_nil_left, List.zip_nil_right]
    · obtain ⟨r, hr, rfl⟩ := List.mem_map.mp hd
      obtain ⟨Rr, er⟩ := F.mem hr
      refine ⟨_, rfl, ?_⟩
      try simp only [x_var, x_con, x_bin, x_neg, x_cmp, x_chain, x_tTru, x_tNot, x_tAnd, x_tOr, x_tBool, x_tYes, x_not, x_and, x_or, x_if, x_b1, x_b2, x_is, x_idx, x_oNone, x_oSome, x_cut, x_aNil, x_aCons, x_tup, x_lst, x_call, x_callS,
    x_iSeq, x_iRng1, x_iRng2, x_bor, x_tBor, x_put1, List.map_cons, List.map_nil, List.cons_append, List.nil_append, List.length_cons, List.length_nil, Nat.zero_add, Nat.reduceAdd, Nat.reduceSub, List.reduceReplicate, start,
    List.getElem?_cons_zero, List.getElem?_cons_succ, List.set_cons_zero, List.set_cons_succ, bnd_ret, bnd_assoc, bnd_grd, b1_if, bnd_ite, small, Nat.reduceLeDiff, grd_true, o_add, o_sub, o_neg, o_eq, o_ne, o_lt, o_le, o_gt, o_ge, o_eqS, o_neS,
    decide_eq_true_eq, reduceIte, decide_true, decide_false, Bool.not_true, Bool.not_false, Bool.false_eq_true, itemsOf, asInt, endOf, isTy,
    grd_tt, nx_int, nx_bool, nx_str, nx_none, nx_tup, nx_lst, x_isC, x_fld, x_in, x_count, x_lstR, x_tupR, x_raise, x_star, bnd_thr, noX_ret, fld_x, exn_d, eSetO, Out.clear, List.zip_cons_cons, List.zip_nil_left, List.zip_nil_right, s_asg, s_par, s_own, s_parO, s_put, s_expr, s_ret, s_skip, s_seq, s_rel, x_asg, x_par, x_own, x_parO, x_put, x_expr, x_ret, x_retN, x_skip, x_rel, x_app, x_setI, x_sIf, x_for, x_brk, x_cnt, b_lenT, b_lenL, b_tupL, b_tupT, b_max2, b_min2, o_addL, o_addT, cut_ints, sum_ints, s_chk, s_for, s_brk, s_cnt, s_retN, t_bool, g_rng, g_le, List.length_map, wipeE, book_of_R R, book_of_R Rr, bkD_E, ne_bk, er]
  rw [chk_no (by simp (disch := omega) only [x_var, x_con, x_bin, x_neg, x_cmp, x_chain, x_tTru, x_tNot, x_tAnd, x_tOr, x_tBool, x_tYes, x_not, x_and, x_or, x_if, x_b1, x_b2, x_is, x_idx, x_oNone, x_oSome, x_cut, x_aNil, x_aCons, x_tup, x_lst, x_call, x_callS,
    x_iSeq, x_iRng1, x_iRng2, x_bor, x_tBor, x_put1, List.map_cons, List.map_nil, List.cons_append, List.nil_append, List.length_cons, List.length_nil, Nat.zero_add, Nat.reduceAdd, Nat.reduceSub, List.reduceReplicate, start,
    List.getElem?_cons_zero, List.getElem?_cons_succ, List.set_cons_zero, List.set_cons_succ, bnd_ret, bnd_assoc, bnd_grd, b1_if, bnd_ite, small, Nat.reduceLeDiff, grd_true, o_add, o_sub, o_neg, o_eq, o_ne, o_lt, o_le, o_gt, o_ge, o_eqS, o_neS,
    decide_eq_true_eq, reduceIte, decide_true, decide_false, Bool.not_true, Bool.not_false, Bool.false_eq_true, itemsOf, asInt, endOf, isTy,
    grd_tt, nx_int, nx_bool, nx_str, nx_none, nx_tup, nx_lst, x_isC, x_fld, x_in, x_count, x_lstR, x_tupR, x_raise, x_star, bnd_thr, noX_ret, fld_x, exn_d, eSetO, Out.clear, List.zip_cons_cons, List.zip_nil_left, List.zip_nil_right, s_asg, s_par, s_own, s_parO, s_put, s_expr, s_ret, s_skip, s_seq, s_rel, x_asg, x_par, x_own, x_parO, x_put, x_expr, x_ret, x_retN, x_skip, x_rel, x_app, x_setI, x_sIf, x_for, x_brk, x_cnt, b_lenT, b_lenL, b_tupL, b_tupT, b_max2, b_min2, o_addL, o_addT, cut_ints, sum_ints, s_chk, s_for, s_brk, s_cnt, s_retN, t_bool, g_rng, g_le, List.length_map, in_ls, F.self, x_srtSetT, F.srt, ne_ls, cA, ne_nilL, bne_self_eq_false])]
  refine Ok.seq 3 (fun E => ∃ e6, E = [.unk, .stm, .val t, .val (tI ns), .val (.list ((LS ns).map tI)), .val (.int (ext ns 0 (ns.length - 1))), e6, e7]) (n := 0) ?_ (by decide) ?_
  · rw [x_for, show iSeq (eVar 4) [.unk, .stm, .val t, .val (tI ns), .val (.list ((LS ns).map tI)), .val (.int (ext ns 0 (ns.length - 1))), e6, e7] = ret ((LS ns).map tI) by simp only [x_var, x_con, x_bin, x_neg, x_cmp, x_chain, x_tTru, x_tNot, x_tAnd, x_tOr, x_tBool, x_tYes, x_not, x_and, x_or, x_if, x_b1, x_b2, x_is, x_idx, x_oNone, x_oSome, x_cut, x_aNil, x_aCons, x_tup, x_lst, x_call, x_callS,
    x_iSeq, x_iRng1, x_iRng2, x_bor, x_tBor, x_put1, List.map_cons, List.map_nil, List.cons_append, List.nil_append, List.length_cons, List.length_nil, Nat.zero_add, Nat.reduceAdd, Nat.reduceSub, List.reduceReplicate, start,
    List.getElem?_cons_zero, List.getElem?_cons_succ, List.set_cons_zero, List.set_cons_succ, bnd_ret, bnd_assoc, bnd_grd, b1_if, bnd_ite, small, Nat.reduceLeDiff, grd_true, o_add, o_sub, o_neg, o_eq, o_ne, o_lt, o_le, o_gt, o_ge, o_eqS, o_neS,
    decide_eq_true_eq, reduceIte, decide_true, decide_false, Bool.not_true, Bool.not_false, Bool.false_eq_true, itemsOf, asInt, bi2, endOf, isTy,
    grd_tt, nx_int, nx_bool, nx_str, nx_none, nx_tup, nx_lst, x_isC, x_fld, x_in, x_count, x_lstR, x_tupR, x_raise, x_star, bnd_thr, noX_ret, fld_x, exn_d, eSetO, Out.clear, List.zip_cons_cons, List.zip_nil_left, List.zip_nil_right], bnd_ret]
    refine for_ok (b := 0) (fun _ E => ∃ e6, E = [.unk, .stm, .val t, .val (tI ns), .val (.list ((LS ns).map tI)), .val (.int (ext ns 0 (ns.length - 1))), e6, e7]) ⟨_, rfl⟩ (by simp) ?_ fun E h => h
    rintro j d E hj ⟨e6', rfl⟩
    obtain ⟨r, hr, rfl⟩ := List.mem_map.mp (List.mem_of_getElem? hj)
    obtain ⟨Rr, er⟩ := F.mem hr
    have hb := (bkE_eq Rr R).mp er
    have hu : unlikeN r (mxI r) ns (mxI ns) = none := by
      unfold unlikeN
      rw [hb, unlikeL_self]
    have fu := first_unlike_0 Rr R
    rw [hu] at fu
    have hlen : r.length = ns.length := rowsN_len _ _ _ _ (LS_mem hr).1
    have hsum : ext r 0 (r.length - 1) = ext ns 0 (ns.length - 1) := by
      rw [ext_all Rr, ext_all R, rowsN_sum _ _ _ _ (LS_mem hr).1, hlen]
    have hx2 := ext_whole Rr
    rw [hsum] at hx2
    refine ⟨_, rfl, ?_⟩
    rw [hlen] at hx2
    try simp (disch := omega) only [x_var, x_con, x_bin, x_neg, x_cmp, x_chain, x_tTru, x_tNot, x_tAnd, x_tOr, x_tBool, x_tYes, x_not, x_and, x_or, x_if, x_b1, x_b2, x_is, x_idx, x_oNone, x_oSome, x_cut, x_aNil, x_aCons, x_tup, x_lst, x_call, x_callS,
    x_iSeq, x_iRng1, x_iRng2, x_bor, x_tBor, x_put1, List.map_cons, List.map_nil, List.cons_append, List.nil_append, List.length_cons, List.length_nil, Nat.zero_add, Nat.reduceAdd, Nat.reduceSub, List.reduceReplicate, start,
    List.getElem?_cons_zero, List.getElem?_cons_succ, List.set_cons_zero, List.set_cons_succ, bnd_ret, bnd_assoc, bnd_grd, b1_if, bnd_ite, small, Nat.reduceLeDiff, grd_true, o_add, o_sub, o_neg, o_eq, o_ne, o_lt, o_le, o_gt, o_ge, o_eqS, o_neS,
    decide_eq_true_eq, reduceIte, decide_true, decide_false, Bool.not_true, Bool.not_false, Bool.false_eq_true, itemsOf, asInt, endOf, isTy,
    grd_tt, nx_int, nx_bool, nx_str, nx_none, nx_tup, nx_lst, x_isC, x_fld, x_in, x_count, x_lstR, x_tupR, x_raise, x_star, bnd_thr, noX_ret, fld_x, exn_d, eSetO, Out.clear, List.zip_cons_cons, List.zip_nil_left, List.zip_nil_right, s_asg, s_par, s_own, s_parO, s_put, s_expr, s_ret, s_skip, s_seq, s_rel, x_asg, x_par, x_own, x_parO, x_put, x_expr, x_ret, x_retN, x_skip, x_rel, x_app, x_setI, x_sIf, x_for, x_brk, x_cnt, b_lenT, b_lenL, b_tupL, b_tupT, b_max2, b_min2, o_addL, o_addT, cut_ints, sum_ints, s_chk, s_for, s_brk, s_cnt, s_retN, t_bool, g_rng, g_le, List.length_map, fu, hlen, hx2, o_notN, isNone]
    exact Ok.ret ⟨_, rfl⟩
  · rintro E ⟨e6', rfl⟩
    rw [s_asg, show eCallS w__law_partner_0 1 (aCons (eVar 3) (aNil)) [.unk, .stm, .val t, .val (tI ns), .val (.list ((LS ns).map tI)), .val (.int (ext ns 0 (ns.length - 1))), e6', e7] = w__law_partner_0 [tI ns] by simp only [x_var, x_con, x_bin, x_neg, x_cmp, x_chain, x_tTru, x_tNot, x_tAnd, x_tOr, x_tBool, x_tYes, x_not, x_and, x_or, x_if, x_b1, x_b2, x_is, x_idx, x_oNone, x_oSome, x_cut, x_aNil, x_aCons, x_tup, x_lst, x_call, x_callS,
    x_iSeq, x_iRng1, x_iRng2, x_bor, x_tBor, x_put1, List.map_cons, List.map_nil, List.cons_append, List.nil_append, List.length_cons, List.length_nil, Nat.zero_add, Nat.reduceAdd, Nat.reduceSub, List.reduceReplicate, start,
    List.getElem?_cons_zero, List.getElem?_cons_succ, List.set_cons_zero, List.set_cons_succ, bnd_ret, bnd_assoc, bnd_grd, b1_if, bnd_ite, small, Nat.reduceLeDiff, grd_true, o_add, o_sub, o_neg, o_eq, o_ne, o_lt, o_le, o_gt, o_ge, o_eqS, o_neS,
    decide_eq_true_eq, reduceIte, decide_true, decide_false, Bool.not_true, Bool.not_false, Bool.false_eq_true, itemsOf, asInt, bi2, endOf, isTy,
    grd_tt, nx_int, nx_bool, nx_str, nx_none, nx_tup, nx_lst, x_isC, x_fld, x_in, x_count, x_lstR, x_tupR, x_raise, x_star, bnd_thr, noX_ret, fld_x, exn_d, eSetO, Out.clear, List.zip_cons_cons, List.zip_nil_left, List.zip_nil_right]]
    refine Ok.bnd' 3 (partner_0 ⟨by omega, by omega, R.rng⟩) (by decide) ?_
    rintro r2 ⟨bs, rfl, rb⟩
    have Rb := rb.R
    have hb24 := Rb.few
    show Ok (sSeq _ _ [.unk, .stm, .val t, .val (tI ns), .val (.list ((LS ns).map tI)), .val (.int (ext ns 0 (ns.length - 1))), e6', .val (tI bs)]) 0 _
    have fu := first_unlike_0 Rb R
    have tD : (tBool (eCmp .ne (eIn false (eVar 7) (eVar 4)) (eCmp .isN (eCall w_first_unlike_0 (aCons (eVar 7) (aCons (eVar 3) (aNil)))) (eCon .none)))) [.unk, .stm, .val t, .val (tI ns), .val (.list ((LS ns).map tI)), .val (.int (ext ns 0 (ns.length - 1))), e6', .val (tI bs)] = ret false := by
      try simp (disch := omega) only [x_var, x_con, x_bin, x_neg, x_cmp, x_chain, x_tTru, x_tNot, x_tAnd, x_tOr, x_tBool, x_tYes, x_not, x_and, x_or, x_if, x_b1, x_b2, x_is, x_idx, x_oNone, x_oSome, x_cut, x_aNil, x_aCons, x_tup, x_lst, x_call, x_callS,
    x_iSeq, x_iRng1, x_iRng2, x_bor, x_tBor, x_put1, List.map_cons, List.map_nil, List.cons_append, List.nil_append, List.length_cons, List.length_nil, Nat.zero_add, Nat.reduceAdd, Nat.reduceSub, List.reduceReplicate, start,
    List.getElem?_cons_zero, List.getElem?_cons_succ, List.set_cons_zero, List.set_cons_succ, bnd_ret, bnd_assoc, bnd_grd, b1_if, bnd_ite, small, Nat.reduceLeDiff, grd_true, o_add, o_sub, o_neg, o_eq, o_ne, o_lt, o_le, o_gt, o_ge, o_eqS, o_neS,
    decide_eq_true_eq, reduceIte, decide_true, decide_false, Bool.not_true, Bool.not_false, Bool.false_eq_true, itemsOf, asInt, endOf, isTy,
    grd_tt, nx_int, nx_bool, nx_str, nx_none, nx_tup, nx_lst, x_isC, x_fld, x_in, x_count, x_lstR, x_tupR, x_raise, x_star, bnd_thr, noX_ret, fld_x, exn_d, eSetO, Out.clear, List.zip_cons_cons, List.zip_nil_left, List.zip_nil_right, s_asg, s_par, s_own, s_parO, s_put, s_expr, s_ret, s_skip, s_seq, s_rel, x_asg, x_par, x_own, x_parO, x_put, x_expr, x_ret, x_retN, x_skip, x_rel, x_app, x_setI, x_sIf, x_for, x_brk, x_cnt, b_lenT, b_lenL, b_tupL, b_tupT, b_max2, b_min2, o_addL, o_addT, cut_ints, sum_ints, s_chk, s_for, s_brk, s_cnt, s_retN, t_bool, g_rng, g_le, List.length_map, in_ls, fu, isN_none, notin F Rb, isN_of, Bool.false_bne, ne_bools]
    rw [chk_no (by rw [x_tAnd, tD]; rfl)]
    have cB : eComp (iSeq (eVar 4)) (.nm 6) (tBool (eCmp .ne (eCall w_longest_0 (aCons (eVar 6) (aNil))) (eCall w_longest_0 (aCons (eVar 3) (aNil))))) (eVar 6) [6] [.unk, .stm, .val t, .val (tI ns), .val (.list ((LS ns).map tI)), .val (.int (ext ns 0 (ns.length - 1))), e6', .val (tI bs)] = ret (.list []) := by
      refine comp_none (ds := (LS ns).map tI) ?_ (by rw [List.length_map]; omega) fun d hd => ?_
      · simp only [x_var, x_con, x_bin, x_neg, x_cmp, x_chain, x_tTru, x_tNot, x_tAnd, x_tOr, x_tBool, x_tYes, x_not, x_and, x_or, x_if, x_b1, x_b2, x_is, x_idx, x_oNone, x_oSome, x_cut, x_aNil, x_aCons, x_tup, x_lst, x_call, x_callS,
    x_iSeq, x_iRng1, x_iRng2, x_bor, x_tBor, x_put1, List.map_cons, List.map_nil, List.cons_append, List.nil_append, List.length_cons, List.length_nil, Nat.zero_add, Nat.reduceAdd, Nat.reduceSub, List.reduceReplicate, start,
    List.getElem?_cons_zero, List.getElem?_cons_succ, List.set_cons_zero, List.set_cons_succ, bnd_ret, bnd_assoc, bnd_grd, b1_if, bnd_ite, small, Nat.reduceLeDiff, grd_true, o_add, o_sub, o_neg, o_eq, o_ne, o_lt, o_le, o_gt, o_ge, o_eqS, o_neS,
    decide_eq_true_eq, reduceIte, decide_true, decide_false, Bool.not_true, Bool.not_false, Bool.false_eq_true, itemsOf, asInt, bi2, endOf, isTy,
    grd_tt, nx_int, nx_bool, nx_str, nx_none, nx_tup, nx_lst, x_isC, x_fld, x_in, x_count, x_lstR, x_tupR, x_raise, x_star, bnd_thr, noX_ret, fld_x, exn_d, eSetO, Out.clear, List.zip_cons_cons, List.zip_nil_left, List.zip_nil_right]
      · obtain ⟨r, hr, rfl⟩ := List.mem_map.mp hd
        obtain ⟨Rr, er⟩ := F.mem hr
        have em : mxI r = mxI ns := by
          have a := bk_first Rr
          rw [er, bk_first R] at a
          exact a.symm
        refine ⟨_, rfl, ?_⟩
        try simp (disch := omega) only [x_var, x_con, x_bin, x_neg, x_cmp, x_chain, x_tTru, x_tNot, x_tAnd, x_tOr, x_tBool, x_tYes, x_not, x_and, x_or, x_if, x_b1, x_b2, x_is, x_idx, x_oNone, x_oSome, x_cut, x_aNil, x_aCons, x_tup, x_lst, x_call, x_callS,
    x_iSeq, x_iRng1, x_iRng2, x_bor, x_tBor, x_put1, List.map_cons, List.map_nil, List.cons_append, List.nil_append, List.length_cons, List.length_nil, Nat.zero_add, Nat.reduceAdd, Nat.reduceSub, List.reduceReplicate, start,
    List.getElem?_cons_zero, List.getElem?_cons_succ, List.set_cons_zero, List.set_cons_succ, bnd_ret, bnd_assoc, bnd_grd, b1_if, bnd_ite, small, Nat.reduceLeDiff, grd_true, o_add, o_sub, o_neg, o_eq, o_ne, o_lt, o_le, o_gt, o_ge, o_eqS, o_neS,
    decide_eq_true_eq, reduceIte, decide_true, decide_false, Bool.not_true, Bool.not_false, Bool.false_eq_true, itemsOf, asInt, endOf, isTy,
    grd_tt, nx_int, nx_bool, nx_str, nx_none, nx_tup, nx_lst, x_isC, x_fld, x_in, x_count, x_lstR, x_tupR, x_raise, x_star, bnd_thr, noX_ret, fld_x, exn_d, eSetO, Out.clear, List.zip_cons_cons, List.zip_nil_left, List.zip_nil_right, s_asg, s_par, s_own, s_parO, s_put, s_expr, s_ret, s_skip, s_seq, s_rel, x_asg, x_par, x_own, x_parO, x_put, x_expr, x_ret, x_retN, x_skip, x_rel, x_app, x_setI, x_sIf, x_for, x_brk, x_cnt, b_lenT, b_lenL, b_tupL, b_tupT, b_max2, b_min2, o_addL, o_addT, cut_ints, sum_ints, s_chk, s_for, s_brk, s_cnt, s_retN, t_bool, g_rng, g_le, List.length_map, wipeE, hmx r Rr, hmx ns R, em, bne_self_eq_false, Bool.not_true, decide_true]
    have tE : (DL.tOr (DL.tAnd (tBool (eCmp .eq (eB1 .len (eVar 3)) (eCon (.int 1)))) (tBool (eCmp .ne (eVar 4) (eLst (aCons (eVar 3) (aNil)))))) (tBool (eCmp .ne (eComp (iSeq (eVar 4)) (.nm 6) (tBool (eCmp .ne (eCall w_longest_0 (aCons (eVar 6) (aNil))) (eCall w_longest_0 (aCons (eVar 3) (aNil))))) (eVar 6) [6]) (eLst (aNil))))) [.unk, .stm, .val t, .val (tI ns), .val (.list ((LS ns).map tI)), .val (.int (ext ns 0 (ns.length - 1))), e6', .val (tI bs)] = ret false := by
      by_cases c : ns.length = 1
      · have e1 := F.one c
        have ne1 : opCmp .ne (.list ((LS ns).map tI)) (.list [tI ns]) = ret false := by
          have := ne_ls (LS ns) [ns]
          rw [decide_eq_true e1] at this
          exact this
        have c2 : (ns.length : Int) = 1 := by omega
        try simp (disch := omega) only [x_var, x_con, x_bin, x_neg, x_cmp, x_chain, x_tTru, x_tNot, x_tAnd, x_tOr, x_tBool, x_tYes, x_not, x_and, x_or, x_if, x_b1, x_b2, x_is, x_idx, x_oNone, x_oSome, x_cut, x_aNil, x_aCons, x_tup, x_lst, x_call, x_callS,
    x_iSeq, x_iRng1, x_iRng2, x_bor, x_tBor, x_put1, List.map_cons, List.map_nil, List.cons_append, List.nil_append, List.length_cons, List.length_nil, Nat.zero_add, Nat.reduceAdd, Nat.reduceSub, List.reduceReplicate, start,
    List.getElem?_cons_zero, List.getElem?_cons_succ, List.set_cons_zero, List.set_cons_succ, bnd_ret, bnd_assoc, bnd_grd, b1_if, bnd_ite, small, Nat.reduceLeDiff, grd_true, o_add, o_sub, o_neg, o_eq, o_ne, o_lt, o_le, o_gt, o_ge, o_eqS, o_neS,
    decide_eq_true_eq, reduceIte, decide_true, decide_false, Bool.not_true, Bool.not_false, Bool.false_eq_true, itemsOf, asInt, endOf, isTy,
    grd_tt, nx_int, nx_bool, nx_str, nx_none, nx_tup, nx_lst, x_isC, x_fld, x_in, x_count, x_lstR, x_tupR, x_raise, x_star, bnd_thr, noX_ret, fld_x, exn_d, eSetO, Out.clear, List.zip_cons_cons, List.zip_nil_left, List.zip_nil_right, s_asg, s_par, s_own, s_parO, s_put, s_expr, s_ret, s_skip, s_seq, s_rel, x_asg, x_par, x_own, x_parO, x_put, x_expr, x_ret, x_retN, x_skip, x_rel, x_app, x_setI, x_sIf, x_for, x_brk, x_cnt, b_lenT, b_lenL, b_tupL, b_tupT, b_max2, b_min2, o_addL, o_addT, cut_ints, sum_ints, s_chk, s_for, s_brk, s_cnt, s_retN, t_bool, g_rng, g_le, List.length_map, c2, ne1, cB, ne_nilL]
      · have c2 : ¬ (ns.length : Int) = 1 := by omega
        try simp (disch := omega) only [x_var, x_con, x_bin, x_neg, x_cmp, x_chain, x_tTru, x_tNot, x_tAnd, x_tOr, x_tBool, x_tYes, x_not, x_and, x_or, x_if, x_b1, x_b2, x_is, x_idx, x_oNone, x_oSome, x_cut, x_aNil, x_aCons, x_tup, x_lst, x_call, x_callS,
    x_iSeq, x_iRng1, x_iRng2, x_bor, x_tBor, x_put1, List.map_cons, List.map_nil, List.cons_append, List.nil_append, List.length_cons, List.length_nil, Nat.zero_add, Nat.reduceAdd, Nat.reduceSub, List.reduceReplicate, start,
    List.getElem?_cons_zero, List.getElem?_cons_succ, List.set_cons_zero, List.set_cons_succ, bnd_ret, bnd_assoc, bnd_grd, b1_if, bnd_ite, small, Nat.reduceLeDiff, grd_true, o_add, o_sub, o_neg, o_eq, o_ne, o_lt, o_le, o_gt, o_ge, o_eqS, o_neS,
    decide_eq_true_eq, reduceIte, decide_true, decide_false, Bool.not_true, Bool.not_false, Bool.false_eq_true, itemsOf, asInt, endOf, isTy,
    grd_tt, nx_int, nx_bool, nx_str, nx_none, nx_tup, nx_lst, x_isC, x_fld, x_in, x_count, x_lstR, x_tupR, x_raise, x_star, bnd_thr, noX_ret, fld_x, exn_d, eSetO, Out.clear, List.zip_cons_cons, List.zip_nil_left, List.zip_nil_right, s_asg, s_par, s_own, s_parO, s_put, s_expr, s_ret, s_skip, s_seq, s_rel, x_asg, x_par, x_own, x_parO, x_put, x_expr, x_ret, x_retN, x_skip, x_rel, x_app, x_setI, x_sIf, x_for, x_brk, x_cnt, b_lenT, b_lenL, b_tupL, b_tupT, b_max2, b_min2, o_addL, o_addT, cut_ints, sum_ints, s_chk, s_for, s_brk, s_cnt, s_retN, t_bool, g_rng, g_le, List.length_map, c2, cB, ne_nilL]
    rw [chk_no tE]
    have gn := rows_with_bk R (most := (ns.length : Int)) (by omega)
    rw [withE_bk R, if_pos (Int.le_refl _)] at gn
    have gn : w_rows_with_0 [bkD ns, .int (ns.length : Int)] (.inl ((LS ns).map tI)) := gn
    simp (maxSteps := 2000000) (disch := omega) only [x_var, x_con, x_bin, x_neg, x_cmp, x_chain, x_tTru, x_tNot, x_tAnd, x_tOr, x_tBool, x_tYes, x_not, x_and, x_or, x_if, x_b1, x_b2, x_is, x_idx, x_oNone, x_oSome, x_cut, x_aNil, x_aCons, x_tup, x_lst, x_call, x_callS,
    x_iSeq, x_iRng1, x_iRng2, x_bor, x_tBor, x_put1, List.map_cons, List.map_nil, List.cons_append, List.nil_append, List.length_cons, List.length_nil, Nat.zero_add, Nat.reduceAdd, Nat.reduceSub, List.reduceReplicate, start,
    List.getElem?_cons_zero, List.getElem?_cons_succ, List.set_cons_zero, List.set_cons_succ, bnd_ret, bnd_assoc, bnd_grd, b1_if, bnd_ite, small, Nat.reduceLeDiff, grd_true, o_add, o_sub, o_neg, o_eq, o_ne, o_lt, o_le, o_gt, o_ge, o_eqS, o_neS,
    decide_eq_true_eq, reduceIte, decide_true, decide_false, Bool.not_true, Bool.not_false, Bool.false_eq_true, itemsOf, asInt, endOf, isTy,
    grd_tt, nx_int, nx_bool, nx_str, nx_none, nx_tup, nx_lst, x_isC, x_fld, x_in, x_count, x_lstR, x_tupR, x_raise, x_star, bnd_thr, noX_ret, fld_x, exn_d, eSetO, Out.clear, List.zip_cons_cons, List.zip_nil_left, List.zip_nil_right, s_asg, s_par, s_own, s_parO, s_put, s_expr, s_ret, s_skip, s_seq, s_rel, x_asg, x_par, x_own, x_parO, x_put, x_expr, x_ret, x_retN, x_skip, x_rel, x_app, x_setI, x_sIf, x_for, x_brk, x_cnt, b_lenT, b_lenL, b_tupL, b_tupT, b_max2, b_min2, o_addL, o_addT, cut_ints, sum_ints, s_chk, s_for, s_brk, s_cnt, s_retN, t_bool, g_rng, g_le, List.length_map, x_listG, book_of_R R]
    refine Ok.lG gn (ls_small l64) (flat_ls _) ?_
    have e0 : decide (LS ns = LS ns) = true := decide_eq_true rfl
    by_cases c : (1 : Int) < (ns.length : Int)
    · have g1 := rows_with_bk R (most := 1) (by decide)
      rw [withE_bk R, if_neg (by omega)] at g1
      simp (maxSteps := 2000000) (disch := omega) only [x_var, x_con, x_bin, x_neg, x_cmp, x_chain, x_tTru, x_tNot, x_tAnd, x_tOr, x_tBool, x_tYes, x_not, x_and, x_or, x_if, x_b1, x_b2, x_is, x_idx, x_oNone, x_oSome, x_cut, x_aNil, x_aCons, x_tup, x_lst, x_call, x_callS,
    x_iSeq, x_iRng1, x_iRng2, x_bor, x_tBor, x_put1, List.map_cons, List.map_nil, List.cons_append, List.nil_append, List.length_cons, List.length_nil, Nat.zero_add, Nat.reduceAdd, Nat.reduceSub, List.reduceReplicate, start,
    List.getElem?_cons_zero, List.getElem?_cons_succ, List.set_cons_zero, List.set_cons_succ, bnd_ret, bnd_assoc, bnd_grd, b1_if, bnd_ite, small, Nat.reduceLeDiff, grd_true, o_add, o_sub, o_neg, o_eq, o_ne, o_lt, o_le, o_gt, o_ge, o_eqS, o_neS,
    decide_eq_true_eq, reduceIte, decide_true, decide_false, Bool.not_true, Bool.not_false, Bool.false_eq_true, itemsOf, asInt, endOf, isTy,
    grd_tt, nx_int, nx_bool, nx_str, nx_none, nx_tup, nx_lst, x_isC, x_fld, x_in, x_count, x_lstR, x_tupR, x_raise, x_star, bnd_thr, noX_ret, fld_x, exn_d, eSetO, Out.clear, List.zip_cons_cons, List.zip_nil_left, List.zip_nil_right, s_asg, s_par, s_own, s_parO, s_put, s_expr, s_ret, s_skip, s_seq, s_rel, x_asg, x_par, x_own, x_parO, x_put, x_expr, x_ret, x_retN, x_skip, x_rel, x_app, x_setI, x_sIf, x_for, x_brk, x_cnt, b_lenT, b_lenL, b_tupL, b_tupT, b_max2, b_min2, o_addL, o_addT, cut_ints, sum_ints, s_chk, s_for, s_brk, s_cnt, s_retN, t_bool, g_rng, g_le, List.length_map, ne_ls, e0, c, x_listG, book_of_R R]
      refine Ok.lG g1 (by decide) rfl ?_
      simp (maxSteps := 2000000) (disch := omega) only [x_var, x_con, x_bin, x_neg, x_cmp, x_chain, x_tTru, x_tNot, x_tAnd, x_tOr, x_tBool, x_tYes, x_not, x_and, x_or, x_if, x_b1, x_b2, x_is, x_idx, x_oNone, x_oSome, x_cut, x_aNil, x_aCons, x_tup, x_lst, x_call, x_callS,
    x_iSeq, x_iRng1, x_iRng2, x_bor, x_tBor, x_put1, List.map_cons, List.map_nil, List.cons_append, List.nil_append, List.length_cons, List.length_nil, Nat.zero_add, Nat.reduceAdd, Nat.reduceSub, List.reduceReplicate, start,
    List.getElem?_cons_zero, List.getElem?_cons_succ, List.set_cons_zero, List.set_cons_succ, bnd_ret, bnd_assoc, bnd_grd, b1_if, bnd_ite, small, Nat.reduceLeDiff, grd_true, o_add, o_sub, o_neg, o_eq, o_ne, o_lt, o_le, o_gt, o_ge, o_eqS, o_neS,
    decide_eq_true_eq, reduceIte, decide_true, decide_false, Bool.not_true, Bool.not_false, Bool.false_eq_true, itemsOf, asInt, endOf, isTy,
    grd_tt, nx_int, nx_bool, nx_str, nx_none, nx_tup, nx_lst, x_isC, x_fld, x_in, x_count, x_lstR, x_tupR, x_raise, x_star, bnd_thr, noX_ret, fld_x, exn_d, eSetO, Out.clear, List.zip_cons_cons, List.zip_nil_left, List.zip_nil_right, s_asg, s_par, s_own, s_parO, s_put, s_expr, s_ret, s_skip, s_seq, s_rel, x_asg, x_par, x_own, x_parO, x_put, x_expr, x_ret, x_retN, x_skip, x_rel, x_app, x_setI, x_sIf, x_for, x_brk, x_cnt, b_lenT, b_lenL, b_tupL, b_tupT, b_max2, b_min2, o_addL, o_addT, cut_ints, sum_ints, s_chk, s_for, s_brk, s_cnt, s_retN, t_bool, g_rng, g_le, List.length_map, ne_nilL]
      exact Ok.ret ⟨_, _, _, _, _, _, rfl⟩
    · simp (maxSteps := 2000000) (disch := omega) only [x_var, x_con, x_bin, x_neg, x_cmp, x_chain, x_tTru, x_tNot, x_tAnd, x_tOr, x_tBool, x_tYes, x_not, x_and, x_or, x_if, x_b1, x_b2, x_is, x_idx, x_oNone, x_oSome, x_cut, x_aNil, x_aCons, x_tup, x_lst, x_call, x_callS,
    x_iSeq, x_iRng1, x_iRng2, x_bor, x_tBor, x_put1, List.map_cons, List.map_nil, List.cons_append, List.nil_append, List.length_cons, List.length_nil, Nat.zero_add, Nat.reduceAdd, Nat.reduceSub, List.reduceReplicate, start,
    List.getElem?_cons_zero, List.getElem?_cons_succ, List.set_cons_zero, List.set_cons_succ, bnd_ret, bnd_assoc, bnd_grd, b1_if, bnd_ite, small, Nat.reduceLeDiff, grd_true, o_add, o_sub, o_neg, o_eq, o_ne, o_lt, o_le, o_gt, o_ge, o_eqS, o_neS,
    decide_eq_true_eq, reduceIte, decide_true, decide_false, Bool.not_true, Bool.not_false, Bool.false_eq_true, itemsOf, asInt, endOf, isTy,
    grd_tt, nx_int, nx_bool, nx_str, nx_none, nx_tup, nx_lst, x_isC, x_fld, x_in, x_count, x_lstR, x_tupR, x_raise, x_star, bnd_thr, noX_ret, fld_x, exn_d, eSetO, Out.clear, List.zip_cons_cons, List.zip_nil_left, List.zip_nil_right, s_asg, s_par, s_own, s_parO, s_put, s_expr, s_ret, s_skip, s_seq, s_rel, x_asg, x_par, x_own, x_parO, x_put, x_expr, x_ret, x_retN, x_skip, x_rel, x_app, x_setI, x_sIf, x_for, x_brk, x_cnt, b_lenT, b_lenL, b_tupL, b_tupT, b_max2, b_min2, o_addL, o_addT, cut_ints, sum_ints, s_chk, s_for, s_brk, s_cnt, s_retN, t_bool, g_rng, g_le, List.length_map, ne_ls, e0, c, x_listG, book_of_R R]
      exact Ok.ret ⟨_, _, _, _, _, _, rfl⟩
open Wk34 in
theorem math_k34 : m_law (lawE 8 1) (.z 0) (fun o _ => o = .rt (.bool true)) fun _ _ => False := by
  suffices h : Ok (m_law (lawE 8 1)) 2000 (fun o => o = .rt (.bool true)) from h.run (by decide) fun _ h => h
  have e : lawE 8 1 = [.unk, .stm, .unk, .unk, .unk, .unk, .unk, .unk] := rfl
  rw [e]
  unfold m_law
  refine Ok.seq 2000 (fun E => True) (n := 2000) ?_ (Nat.le_refl _) fun E _ => ?_
  · rw [x_for, show iRng1 (eCon (.int 3)) [.unk, .stm, .unk, .unk, .unk, .unk, .unk, .unk] = ret (rng 0 3) by simp (disch := omega) only [x_var, x_con, x_bin, x_neg, x_cmp, x_chain, x_tTru, x_tNot, x_tAnd, x_tOr, x_tBool, x_tYes, x_not, x_and, x_or, x_if, x_b1, x_b2, x_is, x_idx, x_oNone, x_oSome, x_cut, x_aNil, x_aCons, x_tup, x_lst, x_call, x_callS,
    x_iSeq, x_iRng1, x_iRng2, x_bor, x_tBor, x_put1, List.map_cons, List.map_nil, List.cons_append, List.nil_append, List.length_cons, List.length_nil, Nat.zero_add, Nat.reduceAdd, Nat.reduceSub, List.reduceReplicate, start,
    List.getElem?_cons_zero, List.getElem?_cons_succ, List.set_cons_zero, List.set_cons_succ, bnd_ret, bnd_assoc, bnd_grd, b1_if, bnd_ite, small, Nat.reduceLeDiff, grd_true, o_add, o_sub, o_neg, o_eq, o_ne, o_lt, o_le, o_gt, o_ge, o_eqS, o_neS,
    decide_eq_true_eq, reduceIte, decide_true, decide_false, Bool.not_true, Bool.not_false, Bool.false_eq_true, itemsOf, asInt, endOf, isTy,
    grd_tt, nx_int, nx_bool, nx_str, nx_none, nx_tup, nx_lst, x_isC, x_fld, x_in, x_count, x_lstR, x_tupR, x_raise, x_star, bnd_thr, noX_ret, fld_x, exn_d, eSetO, Out.clear, List.zip_cons_cons, List.zip_nil_left, List.zip_nil_right, s_asg, s_par, s_own, s_parO, s_put, s_expr, s_ret, s_skip, s_seq, s_rel, x_asg, x_par, x_own, x_parO, x_put, x_expr, x_ret, x_retN, x_skip, x_rel, x_app, x_setI, x_sIf, x_for, x_brk, x_cnt, b_lenT, b_lenL, b_tupL, b_tupT, b_max2, b_min2, o_addL, o_addT, cut_ints, sum_ints, s_chk, s_for, s_brk, s_cnt, s_retN, t_bool, g_rng, g_le, List.length_map], bnd_ret]
    refine for_ok (b := 20) (fun _ E => ∃ e2 e3 e4 e5 e6 e7, E = [.unk, .stm, e2, e3, e4, e5, e6, e7]) ⟨_, _, _, _, _, _, rfl⟩ (by rw [rng_len]; decide) ?_ fun E _ => True.intro
    rintro j d E hj ⟨e2, e3, e4, e5, e6, e7, rfl⟩
    obtain ⟨rfl, hj2⟩ := rng_at hj
    refine ⟨_, rfl, ?_⟩
    show Ok (sSeq _ _ [.unk, .stm, .val (.int (0 + (j : Int))), e3, e4, e5, e6, e7]) 20 _
    rw [s_asg, show eCallS w__law_short_1 1 (aNil) [.unk, .stm, .val (.int (0 + (j : Int))), e3, e4, e5, e6, e7] = w__law_short_1 [] by simp only [x_var, x_con, x_bin, x_neg, x_cmp, x_chain, x_tTru, x_tNot, x_tAnd, x_tOr, x_tBool, x_tYes, x_not, x_and, x_or, x_if, x_b1, x_b2, x_is, x_idx, x_oNone, x_oSome, x_cut, x_aNil, x_aCons, x_tup, x_lst, x_call, x_callS,
    x_iSeq, x_iRng1, x_iRng2, x_bor, x_tBor, x_put1, List.map_cons, List.map_nil, List.cons_append, List.nil_append, List.length_cons, List.length_nil, Nat.zero_add, Nat.reduceAdd, Nat.reduceSub, List.reduceReplicate, start,
    List.getElem?_cons_zero, List.getElem?_cons_succ, List.set_cons_zero, List.set_cons_succ, bnd_ret, bnd_assoc, bnd_grd, b1_if, bnd_ite, small, Nat.reduceLeDiff, grd_true, o_add, o_sub, o_neg, o_eq, o_ne, o_lt, o_le, o_gt, o_ge, o_eqS, o_neS,
    decide_eq_true_eq, reduceIte, decide_true, decide_false, Bool.not_true, Bool.not_false, Bool.false_eq_true, itemsOf, asInt, bi2, endOf, isTy,
    grd_tt, nx_int, nx_bool, nx_str, nx_none, nx_tup, nx_lst, x_isC, x_fld, x_in, x_count, x_lstR, x_tupR, x_raise, x_star, bnd_thr, noX_ret, fld_x, exn_d, eSetO, Out.clear, List.zip_cons_cons, List.zip_nil_left, List.zip_nil_right]]
    refine Ok.bnd' 20 short_34 (by decide) ?_
    rintro r1 ⟨ns, rfl, F⟩
    show Ok (sSeq _ _ [.unk, .stm, .val (.int (0 + (j : Int))), .val (tI ns), e4, e5, e6, e7]) 13 _
    refine Ok.seq 13 (fun E => ∃ ns, Few ns ∧ E = [.unk, .stm, .val (.int (0 + (j : Int))), .val (tI ns), e4, e5, e6, e7]) (n := 2) ?_ (by decide) ?_
    · try simp (disch := omega) only [x_var, x_con, x_bin, x_neg, x_cmp, x_chain, x_tTru, x_tNot, x_tAnd, x_tOr, x_tBool, x_tYes, x_not, x_and, x_or, x_if, x_b1, x_b2, x_is, x_idx, x_oNone, x_oSome, x_cut, x_aNil, x_aCons, x_tup, x_lst, x_call, x_callS,
    x_iSeq, x_iRng1, x_iRng2, x_bor, x_tBor, x_put1, List.map_cons, List.map_nil, List.cons_append, List.nil_append, List.length_cons, List.length_nil, Nat.zero_add, Nat.reduceAdd, Nat.reduceSub, List.reduceReplicate, start,
    List.getElem?_cons_zero, List.getElem?_cons_succ, List.set_cons_zero, List.set_cons_succ, bnd_ret, bnd_assoc, bnd_grd, b1_if, bnd_ite, small, Nat.reduceLeDiff, grd_true, o_add, o_sub, o_neg, o_eq, o_ne, o_lt, o_le, o_gt, o_ge, o_eqS, o_neS,
    decide_eq_true_eq, reduceIte, decide_true, decide_false, Bool.not_true, Bool.not_false, Bool.false_eq_true, itemsOf, asInt, endOf, isTy,
    grd_tt, nx_int, nx_bool, nx_str, nx_none, nx_tup, nx_lst, x_isC, x_fld, x_in, x_count, x_lstR, x_tupR, x_raise, x_star, bnd_thr, noX_ret, fld_x, exn_d, eSetO, Out.clear, List.zip_cons_cons, List.zip_nil_left, List.zip_nil_right, s_asg, s_par, s_own, s_parO, s_put, s_expr, s_ret, s_skip, s_seq, s_rel, x_asg, x_par, x_own, x_parO, x_put, x_expr, x_ret, x_retN, x_skip, x_rel, x_app, x_setI, x_sIf, x_for, x_brk, x_cnt, b_lenT, b_lenL, b_tupL, b_tupT, b_max2, b_min2, o_addL, o_addT, cut_ints, sum_ints, s_chk, s_for, s_brk, s_cnt, s_retN, t_bool, g_rng, g_le, List.length_map, o_mod]
      refine Ok.grd (by decide) ?_
      by_cases c : (0 + (j : Int)) % 3 = 2
      · try simp (disch := omega) only [x_var, x_con, x_bin, x_neg, x_cmp, x_chain, x_tTru, x_tNot, x_tAnd, x_tOr, x_tBool, x_tYes, x_not, x_and, x_or, x_if, x_b1, x_b2, x_is, x_idx, x_oNone, x_oSome, x_cut, x_aNil, x_aCons, x_tup, x_lst, x_call, x_callS,
    x_iSeq, x_iRng1, x_iRng2, x_bor, x_tBor, x_put1, List.map_cons, List.map_nil, List.cons_append, List.nil_append, List.length_cons, List.length_nil, Nat.zero_add, Nat.reduceAdd, Nat.reduceSub, List.reduceReplicate, start,
    List.getElem?_cons_zero, List.getElem?_cons_succ, List.set_cons_zero, List.set_cons_succ, bnd_ret, bnd_assoc, bnd_grd, b1_if, bnd_ite, small, Nat.reduceLeDiff, grd_true, o_add, o_sub, o_neg, o_eq, o_ne, o_lt, o_le, o_gt, o_ge, o_eqS, o_neS,
    decide_eq_true_eq, reduceIte, decide_true, decide_false, Bool.not_true, Bool.not_false, Bool.false_eq_true, itemsOf, asInt, endOf, isTy,
    grd_tt, nx_int, nx_bool, nx_str, nx_none, nx_tup, nx_lst, x_isC, x_fld, x_in, x_count, x_lstR, x_tupR, x_raise, x_star, bnd_thr, noX_ret, fld_x, exn_d, eSetO, Out.clear, List.zip_cons_cons, List.zip_nil_left, List.zip_nil_right, s_asg, s_par, s_own, s_parO, s_put, s_expr, s_ret, s_skip, s_seq, s_rel, x_asg, x_par, x_own, x_parO, x_put, x_expr, x_ret, x_retN, x_skip, x_rel, x_app, x_setI, x_sIf, x_for, x_brk, x_cnt, b_lenT, b_lenL, b_tupL, b_tupT, b_max2, b_min2, o_addL, o_addT, cut_ints, sum_ints, s_chk, s_for, s_brk, s_cnt, s_retN, t_bool, g_rng, g_le, List.length_map, c]
        refine Ok.drawB (n := 1) (by omega) (by omega) fun x x0 x1 => ?_
        try simp (disch := omega) only [x_var, x_con, x_bin, x_neg, x_cmp, x_chain, x_tTru, x_tNot, x_tAnd, x_tOr, x_tBool, x_tYes, x_not, x_and, x_or, x_if, x_b1, x_b2, x_is, x_idx, x_oNone, x_oSome, x_cut, x_aNil, x_aCons, x_tup, x_lst, x_call, x_callS,
    x_iSeq, x_iRng1, x_iRng2, x_bor, x_tBor, x_put1, List.map_cons, List.map_nil, List.cons_append, List.nil_append, List.length_cons, List.length_nil, Nat.zero_add, Nat.reduceAdd, Nat.reduceSub, List.reduceReplicate, start,
    List.getElem?_cons_zero, List.getElem?_cons_succ, List.set_cons_zero, List.set_cons_succ, bnd_ret, bnd_assoc, bnd_grd, b1_if, bnd_ite, small, Nat.reduceLeDiff, grd_true, o_add, o_sub, o_neg, o_eq, o_ne, o_lt, o_le, o_gt, o_ge, o_eqS, o_neS,
    decide_eq_true_eq, reduceIte, decide_true, decide_false, Bool.not_true, Bool.not_false, Bool.false_eq_true, itemsOf, asInt, endOf, isTy,
    grd_tt, nx_int, nx_bool, nx_str, nx_none, nx_tup, nx_lst, x_isC, x_fld, x_in, x_count, x_lstR, x_tupR, x_raise, x_star, bnd_thr, noX_ret, fld_x, exn_d, eSetO, Out.clear, List.zip_cons_cons, List.zip_nil_left, List.zip_nil_right, s_asg, s_par, s_own, s_parO, s_put, s_expr, s_ret, s_skip, s_seq, s_rel, x_asg, x_par, x_own, x_parO, x_put, x_expr, x_ret, x_retN, x_skip, x_rel, x_app, x_setI, x_sIf, x_for, x_brk, x_cnt, b_lenT, b_lenL, b_tupL, b_tupT, b_max2, b_min2, o_addL, o_addT, cut_ints, sum_ints, s_chk, s_for, s_brk, s_cnt, s_retN, t_bool, g_rng, g_le, List.length_map]
        refine Ok.drawB (n := 0) (by omega) (by omega) fun y y0 y1 => ?_
        try simp (disch := omega) only [x_var, x_con, x_bin, x_neg, x_cmp, x_chain, x_tTru, x_tNot, x_tAnd, x_tOr, x_tBool, x_tYes, x_not, x_and, x_or, x_if, x_b1, x_b2, x_is, x_idx, x_oNone, x_oSome, x_cut, x_aNil, x_aCons, x_tup, x_lst, x_call, x_callS,
    x_iSeq, x_iRng1, x_iRng2, x_bor, x_tBor, x_put1, List.map_cons, List.map_nil, List.cons_append, List.nil_append, List.length_cons, List.length_nil, Nat.zero_add, Nat.reduceAdd, Nat.reduceSub, List.reduceReplicate, start,
    List.getElem?_cons_zero, List.getElem?_cons_succ, List.set_cons_zero, List.set_cons_succ, bnd_ret, bnd_assoc, bnd_grd, b1_if, bnd_ite, small, Nat.reduceLeDiff, grd_true, o_add, o_sub, o_neg, o_eq, o_ne, o_lt, o_le, o_gt, o_ge, o_eqS, o_neS,
    decide_eq_true_eq, reduceIte, decide_true, decide_false, Bool.not_true, Bool.not_false, Bool.false_eq_true, itemsOf, asInt, endOf, isTy,
    grd_tt, nx_int, nx_bool, nx_str, nx_none, nx_tup, nx_lst, x_isC, x_fld, x_in, x_count, x_lstR, x_tupR, x_raise, x_star, bnd_thr, noX_ret, fld_x, exn_d, eSetO, Out.clear, List.zip_cons_cons, List.zip_nil_left, List.zip_nil_right, s_asg, s_par, s_own, s_parO, s_put, s_expr, s_ret, s_skip, s_seq, s_rel, x_asg, x_par, x_own, x_parO, x_put, x_expr, x_ret, x_retN, x_skip, x_rel, x_app, x_setI, x_sIf, x_for, x_brk, x_cnt, b_lenT, b_lenL, b_tupL, b_tupT, b_max2, b_min2, o_addL, o_addT, cut_ints, sum_ints, s_chk, s_for, s_brk, s_cnt, s_retN, t_bool, g_rng, g_le, List.length_map]
        refine Ok.ret ⟨[1 + x, 1 + y], few_of ⟨by simp, by simp, ?_⟩ (by simp) (by simp), rfl⟩
        intro z hz
        simp only [List.mem_cons, List.not_mem_nil, or_false] at hz
        omega
      · try simp (disch := omega) only [x_var, x_con, x_bin, x_neg, x_cmp, x_chain, x_tTru, x_tNot, x_tAnd, x_tOr, x_tBool, x_tYes, x_not, x_and, x_or, x_if, x_b1, x_b2, x_is, x_idx, x_oNone, x_oSome, x_cut, x_aNil, x_aCons, x_tup, x_lst, x_call, x_callS,
    x_iSeq, x_iRng1, x_iRng2, x_bor, x_tBor, x_put1, List.map_cons, List.map_nil, List.cons_append, List.nil_append, List.length_cons, List.length_nil, Nat.zero_add, Nat.reduceAdd, Nat.reduceSub, List.reduceReplicate, start,
    List.getElem?_cons_zero, List.getElem?_cons_succ, List.set_cons_zero, List.set_cons_succ, bnd_ret, bnd_assoc, bnd_grd, b1_if, bnd_ite, small, Nat.reduceLeDiff, grd_true, o_add, o_sub, o_neg, o_eq, o_ne, o_lt, o_le, o_gt, o_ge, o_eqS, o_neS,
    decide_eq_true_eq, reduceIte, decide_true, decide_false, Bool.not_true, Bool.not_false, Bool.false_eq_true, itemsOf, asInt, endOf, isTy,
    grd_tt, nx_int, nx_bool, nx_str, nx_none, nx_tup, nx_lst, x_isC, x_fld, x_in, x_count, x_lstR, x_tupR, x_raise, x_star, bnd_thr, noX_ret, fld_x, exn_d, eSetO, Out.clear, List.zip_cons_cons, List.zip_nil_left, List.zip_nil_right, s_asg, s_par, s_own, s_parO, s_put, s_expr, s_ret, s_skip, s_seq, s_rel, x_asg, x_par, x_own, x_parO, x_put, x_expr, x_ret, x_retN, x_skip, x_rel, x_app, x_setI, x_sIf, x_for, x_brk, x_cnt, b_lenT, b_lenL, b_tupL, b_tupT, b_max2, b_min2, o_addL, o_addT, cut_ints, sum_ints, s_chk, s_for, s_brk, s_cnt, s_retN, t_bool, g_rng, g_le, List.length_map, c]
        exact Ok.ret ⟨ns, F, rfl⟩
    · rintro E ⟨ns, F, rfl⟩
      exact (turn_34 (t := .int (0 + (j : Int))) F).mono (by decide) fun o ho => by
        cases o with
        | nx E => exact ho
        | _ => exact ho.elim
  · try simp only [x_var, x_con, x_bin, x_neg, x_cmp, x_chain, x_tTru, x_tNot, x_tAnd, x_tOr, x_tBool, x_tYes, x_not, x_and, x_or, x_if, x_b1, x_b2, x_is, x_idx, x_oNone, x_oSome, x_cut, x_aNil, x_aCons, x_tup, x_lst, x_call, x_callS,
    x_iSeq, x_iRng1, x_iRng2, x_bor, x_tBor, x_put1, List.map_cons, List.map_nil, List.cons_append, List.nil_append, List.length_cons, List.length_nil, Nat.zero_add, Nat.reduceAdd, Nat.reduceSub, List.reduceReplicate, start,
    List.getElem?_cons_zero, List.getElem?_cons_succ, List.set_cons_zero, List.set_cons_succ, bnd_ret, bnd_assoc, bnd_grd, b1_if, bnd_ite, small, Nat.reduceLeDiff, grd_true, o_add, o_sub, o_neg, o_eq, o_ne, o_lt, o_le, o_gt, o_ge, o_eqS, o_neS,
    decide_eq_true_eq, reduceIte, decide_true, decide_false, Bool.not_true, Bool.not_false, Bool.false_eq_true, itemsOf, asInt, endOf, isTy,
    grd_tt, nx_int, nx_bool, nx_str, nx_none, nx_tup, nx_lst, x_isC, x_fld, x_in, x_count, x_lstR, x_tupR, x_raise, x_star, bnd_thr, noX_ret, fld_x, exn_d, eSetO, Out.clear, List.zip_cons_cons, List.zip_nil_left, List.zip_nil_right, s_asg, s_par, s_own, s_parO, s_put, s_expr, s_ret, s_skip, s_seq, s_rel, x_asg, x_par, x_own, x_parO, x_put, x_expr, x_ret, x_retN, x_skip, x_rel, x_app, x_setI, x_sIf, x_for, x_brk, x_cnt, b_lenT, b_lenL, b_tupL, b_tupT, b_max2, b_min2, o_addL, o_addT, cut_ints, sum_ints, s_chk, s_for, s_brk, s_cnt, s_retN, t_bool, g_rng, g_le, List.length_map]
    exact Ok.ret rfl
end DL
end
theorem PySem.Challenge.cw_wrapwidths_k34_whole_rows_behind_a_book_holds : PySem.Challenge.rw_wrapwidths_k34_whole_rows_behind_a_book.Holds :=
  Wk34.end_ DL.math_k34
