import PyProof.Rows.All
import Wide.All
import OpenK.AllK
import Wide.FinOn
import HandS.ForMost
import HandS.HeadHook1
import HandS.HeadHook2
import KE.KExcInit
import KE.KExcIs
import HandS.ExcIs
import HandS.IsInst
import HandS.ExcCtx
import HandS.SuiteRaise
import HandS.WordsExc
import HandS.ForExc
import HandS.Walk
import HandS.Conv
import HandS.Flow
import HandS.TupAny
import HandS.TupMul
import HandS.Style
import HandS.Wide
import KE.KTupSum
import KE.DataMinMax
import HandS.NoneIn
import HandS.Defaults
import HandS.CallSlots
import HandS.Lambda
import HandS.EndBits
import KE.GoesEnum
import KE.GoesMore
import HandS.Star
import HandS.RaiseMore
import HandS.RaiseFrom
import KE.KExcHand
import KE.KTryMore
import HandS.HeadEnd
import HandS.Head0
import HandS.Head1
import HandS.Head2
import HandS.More
import PyProof.MaxThree
import HandS.Zip
import HandS.Strs
import HandS.Iter
import HandS.Text
import HandS.SortInts
import HandS.FStr
import KE.KUnpack
import PyProof.CollectIter
import HandS.Property
import OpenK.KOps
import OpenK.KMeth
import KE.KOpsOwn
import KE.KCallOwn
import HandS.ClsMeth
import HandS.HeadNt
import KE.KUnpackStar
import HandS.HotCalls
import HandS.Finally
import PyProof.Rows.TupIter
import PyProof.RulesMatch
import HandS.Comp
import KE.KSuper
import HandS.EndTab
import PySem.Challenge.RW_wrapwidths_k63_word_rows_constructed
import PyProof.Rows.StrCase
import PyProof.Rows.ReprOcc
import PyProof.P3Eq
import PyProof.StrLaws
set_option Elab.async false
set_option linter.all false
set_option maxRecDepth 100000
set_option maxHeartbeats 0
section
namespace DL
open PySem
abbrev D := PyData
/-- an error: its class by name, its fields by name -/
structure Exn where
  cls : Str
  fs : List (Str × D)
/-- what stands in a cell: a list that is changed, an object with fields -/
inductive Cell where
  | lst (ds : List D)
  | ins (cls : Str) (fs : List (Str × D))
  | tab (x : Str)
/-- the fields that objects with cells have -/
def fldN : List Str := ["now", "states", "done", "wanted", "is_busy", "rows", "page", "pairs"]
/-- where a run stands: how many draws were made so far; the cells -/
structure Sx where
  n : Nat
  mu : Nat → Option Cell
/-- one draw more -/
def Sx.up (c : Sx) : Sx := ⟨c.n + 1, c.mu⟩
/-- no cell -/
def Sx.z (n : Nat) : Sx := ⟨n, fun _ => none⟩
abbrev W (α : Type) := Sx → (α → Sx → Prop) → (Exn → Sx → Prop) → Prop
def ret {α : Type} (a : α) : W α := fun n P _ => P a n
def bnd {α β : Type} (m : W α) (f : α → W β) : W β := fun n P X => m n (fun a n' => f a n' P X) X
def stuck {α : Type} : W α := fun _ _ _ => False
def grd {α : Type} (c : Prop) (m : W α) : W α := fun n P X => c ∧ m n P X
def thr {α : Type} (e : Exn) : W α := fun n _ X => X e n
@[simp] theorem bnd_ret {α β : Type} (a : α) (f : α → W β) : bnd (ret a) f = f a := id rfl
@[simp] theorem bnd_stuck {α β : Type} (f : α → W β) : bnd stuck f = stuck := rfl
@[simp] theorem bnd_thr {α β : Type} (e : Exn) (f : α → W β) : bnd (thr e) f = thr e := id rfl
theorem grd_pos {α : Type} {c : Prop} (h : c) (m : W α) : grd c m = m := by
  funext n P X
  exact propext ⟨fun q => q.2, fun q => ⟨h, q⟩⟩
@[simp] theorem grd_true {α : Type} (m : W α) : grd True m = m := grd_pos True.intro m
theorem bnd_grd {α β : Type} {c : Prop} (m : W α) (f : α → W β) : bnd (grd c m) f = grd c (bnd m f) := rfl
/-- what a slot is known to hold: nothing, a value, a list of its own, the stream -/
inductive Ent where
  | unk
  | val (d : D)
  | own (ds : List D)
  | stm
  | scr (ns : List Int)
abbrev Env := List Ent
mutual
/-- no list, no dict within -/
def flat : D → Bool
  | .none => true
  | .bool _ => true
  | .int _ => true
  | .str _ => true
  | .tuple xs => flatAll xs
  | .list _ => false
  | .dict [(.none, .bool true), (.none, .int _)] => true
  | .dict _ => false
def flatAll : List D → Bool
  | [] => true
  | x :: xs => flat x && flatAll xs
end
mutual
/-- what may be shown: no exception within; dicts of at most one entry -/
def plain : D → Bool
  | .none => true
  | .bool _ => true
  | .int _ => true
  | .str _ => true
  | .tuple xs => plainAll xs
  | .list xs => plainAll xs
  | .dict [] => true
  | .dict [(.str _, d)] => plain d
  | .dict _ => false
def plainAll : List D → Bool
  | [] => true
  | x :: xs => plain x && plainAll xs
end
/-- an exception as data: its class by name, its fields -/
def xD (n : Str) (fs : List (Str × D)) : D := .dict ((.none, .str n) :: fs.map fun q => (.str q.1, q.2))
/-- an instance of WordRow as data: what it holds -/
def wD (d : D) : D := .dict [(.none, .int 0), (.str "held", d)]
/-- a cell's place, as data -/
def rD (a : Nat) : D := .dict [(.none, .bool true), (.none, .int (a : Int))]
/-- not an exception, no instance -/
def noXn : D → Bool
  | .dict ((.none, _) :: _) => false
  | _ => true
/-- sizes that the machine lets pass -/
def small (n : Nat) : Prop := n ≤ 1000000
def mulOk (i j : Int) : Prop := (-(2 ^ 64) < i ∧ i < 2 ^ 64) ∨ (-(2 ^ 64) < j ∧ j < 2 ^ 64)
def rep (k : Int) (xs : List D) : List D := (List.replicate k.toNat xs).flatten
def b2i (b : Bool) : Int := if b = true then 1 else 0
def opAdd : D → D → W D
  | .int a, .int b => ret (.int (a + b))
  | .bool a, .int b => ret (.int (b2i a + b))
  | .tuple xs, .tuple ys => grd (small (xs.length + ys.length)) (ret (.tuple (xs ++ ys)))
  | .list xs, .list ys => grd (small (xs.length + ys.length)) (ret (.list (xs ++ ys)))
  | .str x, .str y => grd (x.length + y.length ≤ 1000000) (ret (.str (x ++ y)))
  | _, _ => stuck
def opSub : D → D → W D
  | .int a, .int b => ret (.int (a - b))
  | .bool a, .int b => ret (.int (b2i a - b))
  | _, _ => stuck
def opMul : D → D → W D
  | .int a, .int b => grd (mulOk a b) (ret (.int (a * b)))
  | .tuple xs, .int k => grd (xs ≠ [] ∧ 0 ≤ k ∧ k ≤ 1000 ∧ xs.length ≤ 1000) (ret (.tuple (rep k xs)))
  | .list xs, .int k => grd (0 ≤ k ∧ k ≤ 1000 ∧ xs.length ≤ 1000) (ret (.list (rep k xs)))
  | _, _ => stuck
def opFdiv : D → D → W D
  | .int a, .int b => grd (0 < b ∧ b < 9223372036854775808) (ret (.int (a / b)))
  | _, _ => stuck
def opMod : D → D → W D
  | .int a, .int b => grd (0 < b) (ret (.int (a % b)))
  | _, _ => stuck
def opPow : D → D → W D
  | .int a, .int b => grd (0 ≤ b ∧ b ≤ 1000 ∧ a.natAbs < 2 ^ 64) (ret (.int (a ^ b.toNat)))
  | _, _ => stuck
def opShl : D → D → W D
  | .int a, .int b => grd (0 ≤ b ∧ b ≤ 1000 ∧ a.natAbs < 2 ^ 64) (ret (.int (a * 2 ^ b.toNat)))
  | _, _ => stuck
def opNeg : D → W D
  | .int a => ret (.int (-a))
  | _ => stuck
/-- truth -/
def tru : D → W Bool
  | .none => ret false
  | .bool b => ret b
  | .int i => ret (i != 0)
  | .str x => grd (x.length ≤ 1000000) (ret ((x.length : Int) != 0))
  | .tuple xs => ret (!xs.isEmpty)
  | .list xs => ret (!xs.isEmpty)
  | .dict _ => stuck
/-- a list or a small dict against the empty tuple -/
def vsNil : D → D → Bool
  | .list _, .tuple [] => true
  | .dict [], .tuple [] => true
  | .dict [(.str _, _)], .tuple [] => true
  | _, _ => false
def eqOk : D → D → Prop
  | .str _, .str _ => True
  | .list _, .list [] => True
  | .tuple _, .tuple [] => True
  | a, b => vsNil a b = true ∨ (SeqAt.shaped a = true ∧ SeqAt.shaped b = true)
def opEq (a b : D) : W Bool := grd (eqOk a b) (ret (PyData.eqv a b))
theorem eqOk_of {a b : D} (h : SeqAt.shaped a = true) (h2 : SeqAt.shaped b = true) : eqOk a b := by
  unfold eqOk
  split
  · exact True.intro
  · exact True.intro
  · exact True.intro
  · exact .inr ⟨h, h2⟩
def opLt : D → D → W Bool
  | .int a, .int b => ret (decide (a < b))
  | _, _ => stuck
def opLe : D → D → W Bool
  | .int a, .int b => ret (decide (a ≤ b))
  | _, _ => stuck
def isNone : D → Bool
  | .none => true
  | _ => false
/-- is: against None, or two bools -/
def isOpOk : D → D → Prop
  | .bool _, .bool _ => True
  | _, b => b = .none
def isOpV : D → D → Bool
  | .bool a, .bool b => decide (a = b)
  | a, _ => isNone a
theorem isOpOk_none (a : D) : isOpOk a .none := by
  cases a <;> rfl
theorem isOpV_none (a : D) : isOpV a .none = isNone a := by
  cases a <;> rfl
inductive Cmp where
  | eq | ne | lt | le | gt | ge | isN | notN
def opCmp : Cmp → D → D → W Bool
  | .eq, a, b => opEq a b
  | .ne, a, b => bnd (opEq a b) fun c => ret (!c)
  | .lt, a, b => opLt a b
  | .le, a, b => opLe a b
  | .gt, a, b => opLt b a
  | .ge, a, b => opLe b a
  | .isN, a, b => grd (isOpOk a b) (ret (isOpV a b))
  | .notN, a, b => grd (isOpOk a b) (ret (!isOpV a b))
inductive Op where
  | add | sub | mul | fdiv | mod | pow | shl
/-- what is asked of is -/
theorem isN_none (a : D) : opCmp .isN a .none = ret (isNone a) := by
  show grd (isOpOk a .none) (ret (isOpV a .none)) = _
  rw [grd_pos (isOpOk_none a), isOpV_none]
theorem notN_none (a : D) : opCmp .notN a .none = ret (!isNone a) := by
  show grd (isOpOk a .none) (ret (!isOpV a .none)) = _
  rw [grd_pos (isOpOk_none a), isOpV_none]
def opBin : Op → D → D → W D
  | .add => opAdd
  | .sub => opSub
  | .mul => opMul
  | .fdiv => opFdiv
  | .mod => opMod
  | .pow => opPow
  | .shl => opShl
/-- the items of a sequence -/
def itemsOf : D → W (List D)
  | .tuple xs => ret xs
  | .list xs => ret xs
  | _ => stuck
def opIdx : D → D → W D
  | .tuple xs, .int i => match L2.atI xs i with | some d => ret d | none => stuck
  | .list xs, .int i => match L2.atI xs i with | some d => ret d | none => stuck
  | _, _ => stuck
/-- a part's bound: an int, or none written -/
def sIx (n d : Nat) : Option Int → Nat := HT.sIx n d
def cut (xs : List D) (lo hi : Option Int) : List D := (xs.drop (HT.sIx xs.length 0 lo)).take (HT.sIx xs.length xs.length hi - HT.sIx xs.length 0 lo)
def opCut : D → Option Int → Option Int → W D
  | .tuple xs, lo, hi => ret (.tuple (cut xs lo hi))
  | .list xs, lo, hi => ret (.list (cut xs lo hi))
  | .str x, lo, hi => grd (x.length ≤ 1000000) (ret (.str (L2.cutS x lo hi)))
  | _, _, _ => stuck
def asInt : D → W Int
  | .int i => ret i
  | _ => stuck
/-- the ints of a list of ints -/
def ints? : List D → Option (List Int)
  | [] => some []
  | .int i :: r => (ints? r).map (i :: ·)
  | _ :: _ => none
def bools? : List D → Option (List Bool)
  | [] => some []
  | .bool i :: r => (bools? r).map (i :: ·)
  | _ :: _ => none
theorem ints?_map (ns : List Int) : ints? (ns.map PyData.int) = some ns := by
  induction ns with
  | nil => rfl
  | cons a r ih => simp [ints?, ih]
theorem ints?_eq : ∀ {ds : List D} {ns : List Int}, ints? ds = some ns → ds = ns.map PyData.int
  | [], ns, h => by simp [ints?] at h; subst h; rfl
  | .int i :: r, ns, h => by
    simp only [ints?, Option.map_eq_some_iff] at h
    obtain ⟨l, h1, rfl⟩ := h
    rw [ints?_eq h1]; rfl
  | .none :: r, ns, h => by simp [ints?] at h
  | .bool _ :: r, ns, h => by simp [ints?] at h
  | .str _ :: r, ns, h => by simp [ints?] at h
  | .list _ :: r, ns, h => by simp [ints?] at h
  | .tuple _ :: r, ns, h => by simp [ints?] at h
  | .dict _ :: r, ns, h => by simp [ints?] at h
theorem bools?_map (ns : List Bool) : bools? (ns.map PyData.bool) = some ns := by
  induction ns with
  | nil => rfl
  | cons a r ih => simp [bools?, ih]
theorem bools?_eq : ∀ {ds : List D} {ns : List Bool}, bools? ds = some ns → ds = ns.map PyData.bool
  | [], ns, h => by simp [bools?] at h; subst h; rfl
  | .bool i :: r, ns, h => by
    simp only [bools?, Option.map_eq_some_iff] at h
    obtain ⟨l, h1, rfl⟩ := h
    rw [bools?_eq h1]; rfl
  | .none :: r, ns, h => by simp [bools?] at h
  | .int _ :: r, ns, h => by simp [bools?] at h
  | .str _ :: r, ns, h => by simp [bools?] at h
  | .list _ :: r, ns, h => by simp [bools?] at h
  | .tuple _ :: r, ns, h => by simp [bools?] at h
  | .dict _ :: r, ns, h => by simp [bools?] at h
def greatest (a : Int) (l : List Int) : Int := l.foldl max a
def least (a : Int) (l : List Int) : Int := l.foldl min a
inductive B1 where
  | len | sum | max | min | abs | repr | str | tuple | list | all | any | sorted | bool | int
def showOk (d : D) : Prop := PyData.showable d = true ∧ PyData.depth d ≤ 40 ∧ (PyData.shown d).length ≤ 1000000 ∧ plain d = true
def intsOf (d : D) : W (List Int) := bnd (itemsOf d) fun xs => match ints? xs with | some ns => ret ns | none => stuck
def bi1 : B1 → D → W D
  | .len, .tuple xs => ret (.int xs.length)
  | .len, .list xs => ret (.int xs.length)
  | .len, .str x => grd (x.length ≤ 1000000) (ret (.int x.length))
  | .len, _ => stuck
  | .sum, d => bnd (intsOf d) fun ns => ret (.int ns.sum)
  | .max, d => bnd (intsOf d) fun ns => match ns with | [] => stuck | a :: r => ret (.int (greatest a r))
  | .min, d => bnd (intsOf d) fun ns => match ns with | [] => stuck | a :: r => ret (.int (least a r))
  | .abs, .int i => ret (.int (if i < 0 then -i else i))
  | .abs, _ => stuck
  | .repr, d => grd (showOk d) (ret (.str (PyData.shown d)))
  | .str, .int i => grd (i.natAbs.log2 < 1920) (ret (.str (toString i)))
  | .str, .str x => ret (.str x)
  | .str, .bool b => ret (.str (if b = true then "True" else "False" : String))
  | .str, _ => stuck
  | .tuple, d => bnd (itemsOf d) fun xs => ret (.tuple xs)
  | .list, d => bnd (itemsOf d) fun xs => ret (.list xs)
  | .all, .list xs => match bools? xs with | some bs => ret (.bool (bs.all id)) | none => stuck
  | .all, _ => stuck
  | .any, .list xs => match bools? xs with | some bs => ret (.bool (bs.any id)) | none => stuck
  | .any, _ => stuck
  | .sorted, _ => stuck
  | .bool, _ => stuck
  | .int, .int i => ret (.int i)
  | .int, .bool b => ret (.int (if b then 1 else 0))
  | .int, _ => stuck
inductive B2 where
  | max | min
def bi2 : B2 → D → D → W D
  | .max, .int i, .int j => ret (.int (if j > i then j else i))
  | .min, .int i, .int j => ret (.int (if j < i then j else i))
  | _, _, _ => stuck
/-- isinstance by a built-in type's name -/
def tyName : D → String
  | .none => "NoneType"
  | .bool _ => "bool"
  | .int _ => "int"
  | .str _ => "str"
  | .tuple _ => "tuple"
  | .list _ => "list"
  | .dict _ => "dict"
inductive Ty where
  | int | bool | tuple | str | list | dict
def isTy : Ty → D → Bool
  | .int, .int _ => true
  | .int, .bool _ => true
  | .bool, .bool _ => true
  | .tuple, .tuple _ => true
  | .str, .str _ => true
  | .list, .list _ => true
  | .dict, .dict _ => true
  | _, _ => false
abbrev XE := Env → W D
abbrev XT := Env → W Bool
abbrev XA := Env → W (List D)
def eVar (i : Nat) : XE := fun E => match E[i]? with | some (.val d) => ret d | _ => stuck
def eCon (d : D) : XE := fun _ => ret d
def eBin (o : Op) (a b : XE) : XE := fun E => bnd (a E) fun x => bnd (b E) fun y => opBin o x y
def eNeg (a : XE) : XE := fun E => bnd (a E) opNeg
def eCmp (o : Cmp) (a b : XE) : XE := fun E => bnd (a E) fun x => bnd (b E) fun y => bnd (opCmp o x y) fun c => ret (.bool c)
/-- a o b o' c, o(a, b) first -/
def eChain (o o' : Cmp) (a b c : XE) : XE := fun E => bnd (a E) fun x => bnd (b E) fun y => bnd (opCmp o x y) fun k => if k = true then bnd (c E) fun z => bnd (opCmp o' y z) fun k' => ret (.bool k') else ret (.bool false)
/-- a test: the truth of a value -/
def tTru (a : XE) : XT := fun E => bnd (a E) tru
def tNot (t : XT) : XT := fun E => bnd (t E) fun c => ret (!c)
def tAnd (t u : XT) : XT := fun E => bnd (t E) fun c => if c = true then u E else ret false
def tOr (t u : XT) : XT := fun E => bnd (t E) fun c => if c = true then ret true else u E
/-- .. as values -/
def eNot (a : XE) : XE := fun E => bnd (a E) fun x => bnd (tru x) fun c => ret (.bool (!c))
def eAnd (a b : XE) : XE := fun E => bnd (a E) fun x => bnd (tru x) fun c => if c = true then b E else ret x
def eOr (a b : XE) : XE := fun E => bnd (a E) fun x => bnd (tru x) fun c => if c = true then ret x else b E
def eIf (t : XT) (a b : XE) : XE := fun E => bnd (t E) fun c => if c = true then a E else b E
def eB1 (f : B1) (a : XE) : XE := fun E => bnd (a E) (bi1 f)
def eB2 (f : B2) (a b : XE) : XE := fun E => bnd (a E) fun x => bnd (b E) fun y => bi2 f x y
def eIs (t : Ty) (a : XE) : XE := fun E => bnd (a E) fun x => grd (noXn x = true) (ret (.bool (isTy t x)))
def eIdx (a b : XE) : XE := fun E => bnd (a E) fun x => bnd (b E) fun y => opIdx x y
abbrev XO := Env → W (Option Int)
def oNone : XO := fun _ => ret none
def oSome (a : XE) : XO := fun E => bnd (a E) fun x => bnd (asInt x) fun i => ret (some i)
def eCut (a : XE) (lo hi : XO) : XE := fun E => bnd (a E) fun x => bnd (lo E) fun l => bnd (hi E) fun h => opCut x l h
def opRev : D → W D
  | .tuple xs => ret (.tuple xs.reverse)
  | .list xs => ret (.list xs.reverse)
  | _ => stuck
def eRev (a : XE) : XE := fun E => bnd (a E) opRev
def aNil : XA := fun _ => ret []
def aCons (a : XE) (r : XA) : XA := fun E => bnd (a E) fun x => bnd (r E) fun xs => ret (x :: xs)
/-- *a, .. -/
def aStar (a : XE) (r : XA) : XA := fun E => bnd (a E) fun x => bnd (itemsOf x) fun ys => bnd (r E) fun xs => ret (ys ++ xs)
def eTup (a : XA) : XE := fun E => bnd (a E) fun xs => grd (small xs.length) (ret (.tuple xs))
def eLst (a : XA) : XE := fun E => bnd (a E) fun xs => grd (small xs.length) (ret (.list xs))
/-- a call of a def: what it does of its arguments -/
abbrev Fn := List D → W D
def eCall (f : Fn) (a : XA) : XE := fun E => bnd (a E) f
/-- a call whose first argument is the stream -/
def eCallS (f : Fn) (s : Nat) (a : XA) : XE := fun E => match E[s]? with | some .stm => bnd (a E) f | _ => stuck
/-- a draw -/
def draw (many : Int) : W D := fun n P _ => (0 < many ∧ many < 9223372036854775808 ∧ n.n < 2 ^ 40) ∧ ∀ r : Int, 0 ≤ r → r < many → P (.int r) n.up
def fDraw : Fn := fun ds => match ds with
  | [.int many] => draw many
  | _ => stuck
/-- what a loop walks -/
def iScr (i : Nat) : XA := fun E => match E[i]? with | some (.scr ns) => ret (ns.map PyData.int) | _ => stuck
def iSeq (a : XE) : XA := fun E => bnd (a E) itemsOf
def rng (a b : Int) : List D := (List.range (b - a).toNat).map fun (i : Nat) => PyData.int (a + (i : Int))
def rngOk (a b : Int) : Prop := -(2 ^ 60) < a ∧ a < 2 ^ 60 ∧ -(2 ^ 60) < b ∧ b < 2 ^ 60
def iRng1 (a : XE) : XA := fun E => bnd (a E) fun x => bnd (asInt x) fun n => grd (rngOk 0 n) (ret (rng 0 n))
def iRng2 (a b : XE) : XA := fun E => bnd (a E) fun x => bnd (b E) fun y => bnd (asInt x) fun n => bnd (asInt y) fun m => grd (rngOk n m) (ret (rng n m))
/-- list(range(..)), tuple(range(..)) -/
def eLstR (a : XA) : XE := fun E => bnd (a E) fun xs => grd (small xs.length) (ret (.list xs))
def eTupR (a : XA) : XE := fun E => bnd (a E) fun xs => grd (small xs.length) (ret (.tuple xs))
/-- a target: a name, names -/
inductive Tg where
  | nm (i : Nat)
  | tp (is : List Nat)
  | pr (a b : Tg)
def setAll : List Nat → List D → Env → Option Env
  | [], [], E => some E
  | i :: is, d :: ds, E => setAll is ds (E.set i (.val d))
  | _, _, _ => none
def Tg.put : Tg → D → Env → Option Env
  | .nm i, d, E => some (E.set i (.val d))
  | .tp is, .tuple ds, E => setAll is ds E
  | .tp is, .list ds, E => setAll is ds E
  | .tp _, _, _ => none
  | .pr a b, .tuple [d, e], E => match a.put d E with
    | some E1 => b.put e E1
    | none => none
  | .pr _ _, _, _ => none
/-- a list comprehension: its own names at vs; no error may leave it -/
def wipeE (E : Env) : List Nat → Env
  | [] => E
  | v :: vs => (wipeE E vs).set v .unk
def noX {α : Type} (m : W α) : W α := fun n P _ => m n P fun _ _ => False
@[simp] theorem noX_ret {α : Type} (a : α) : noX (ret a) = ret a := rfl
def compL (tg : Tg) (t : XT) (e : XE) : List D → List D → Env → W (List D)
  | [], acc, _ => ret acc
  | d :: ds, acc, E => match tg.put d E with
    | none => stuck
    | some E1 => bnd (t E1) fun c => if c = true then bnd (e E1) fun y => grd (small acc.length) (compL tg t e ds (acc ++ [y]) E) else compL tg t e ds acc E
def eComp (it : XA) (tg : Tg) (t : XT) (e : XE) (vs : List Nat) : XE := fun E => bnd (it E) fun ds => bnd (noX (compL tg t e ds [] (wipeE E vs))) fun ys => ret (.list ys)
def tYes : XT := fun _ => ret true
/-- an expression that reads the own list at i: what comes has no list within -/
def eBor (i : Nat) (e : XE) : XE := fun E => match E[i]? with
  | some (.own ds) => bnd (e (E.set i (.val (.list ds)))) fun d => grd (flat d = true) (ret d)
  | _ => e E
def tBor (i : Nat) (t : XT) : XT := fun E => match E[i]? with
  | some (.own ds) => t (E.set i (.val (.list ds)))
  | _ => t E
inductive Out where
  | nx (E : Env)
  | rt (d : D)
  | bk (E : Env)
  | ct (E : Env)
abbrev XS := Env → W Out
def sSeq (a b : XS) : XS := fun E => bnd (a E) fun o => match o with
  | .nx E' => b E'
  | o => ret o
def sSkip : XS := fun E => ret (.nx E)
def sAsg (i : Nat) (e : XE) : XS := fun E => bnd (e E) fun d => ret (.nx (E.set i (.val d)))
def sPut (tg : Tg) (e : XE) : XS := fun E => bnd (e E) fun d => match tg.put d E with
  | some E' => ret (.nx E')
  | none => stuck
/-- a, b = x, y -/
def sPar (i j : Nat) (a b : XE) : XS := fun E => bnd (a E) fun x => bnd (b E) fun y => ret (.nx ((E.set i (.val x)).set j (.val y)))
/-- name = a new list -/
def sOwn (i : Nat) (e : XE) : XS := fun E => bnd (e E) fun d => match d with
  | .list ds => ret (.nx (E.set i (.own ds)))
  | _ => stuck
/-- the own list at i is from here on a value -/
def sRel (i : Nat) (s : XS) : XS := fun E => match E[i]? with
  | some (.own ds) => s (E.set i (.val (.list ds)))
  | _ => s E
def sApp (i : Nat) (e : XE) : XS := fun E => match E[i]? with
  | some (.own ds) => bnd (e E) fun d => grd (small ds.length) (ret (.nx (E.set i (.own (ds ++ [d])))))
  | _ => stuck
/-- xs[k] = e at the own list at i -/
def sSet (i : Nat) (k e : XE) : XS := fun E => match E[i]? with
  | some (.own ds) => bnd (e E) fun d => bnd (k E) fun n => match n with
    | .int z => match L2.ixN ds.length z with
      | some j => ret (.nx (E.set i (.own (ds.set j d))))
      | none => stuck
    | _ => stuck
  | _ => stuck
def sIf (t : XT) (a b : XS) : XS := fun E => bnd (t E) fun c => if c = true then a E else b E
def forL (tg : Tg) (s : XS) : List D → XS
  | [], E => ret (.nx E)
  | d :: ds, E => match tg.put d E with
    | none => stuck
    | some E1 => bnd (s E1) fun o => match o with
      | .nx E' => forL tg s ds E'
      | .ct E' => forL tg s ds E'
      | .bk E' => ret (.nx E')
      | .rt d => ret (.rt d)
def sFor (it : XA) (tg : Tg) (s : XS) : XS := fun E => bnd (it E) fun ds => forL tg s ds E
def whileL (t : XT) (s : XS) : Nat → XS
  | 0, _ => stuck
  | n + 1, E => bnd (t E) fun c => if c = true then bnd (s E) fun o => match o with
      | .nx E' => whileL t s n E'
      | .ct E' => whileL t s n E'
      | .bk E' => ret (.nx E')
      | .rt d => ret (.rt d)
    else ret (.nx E)
def sWhile (t : XT) (s : XS) : XS := fun E c P X => ∃ n, whileL t s n E c P X
def sRet (e : XE) : XS := fun E => bnd (e E) fun d => ret (.rt d)
def sRetN : XS := fun _ => ret (.rt .none)
def sExpr (e : XE) : XS := fun E => bnd (e E) fun _ => ret (.nx E)
def sBreak : XS := fun E => ret (.bk E)
def sCont : XS := fun E => ret (.ct E)
/-- raise C(f = e) -/
def sRaise (cls : Str) (fs : List Str) (a : XA) : XS := fun E => bnd (a E) fun xs => thr ⟨cls, fs.zip xs⟩
/-- a def: so many parameters, so many slots, its body -/
def endOf : Out → W D
  | .rt d => ret d
  | .nx _ => ret .none
  | _ => stuck
def start (n : Nat) (E : Env) : Env := E ++ List.replicate (n - E.length) .unk
def fn (k n : Nat) (s : XS) : Fn := fun ds => grd (ds.length = k) (bnd (s (start n (ds.map .val))) endOf)
/-- .. whose first parameter is the stream -/
def fnS (k n : Nat) (s : XS) : Fn := fun ds => grd (ds.length + 1 = k) (bnd (s (start n (.stm :: ds.map .val))) endOf)
end DL
end
section
namespace DL
open PySem PySem.Spec PyProof.Rows L2
/-- the fields' names -/
inductive Fl where
  | limit | place | value | error | index
def Fl.s : Fl → Str
  | .limit => "limit"
  | .place => "place"
  | .value => "value"
  | .error => "error"
  | .index => "index"
def Fl.all : List Fl := [.limit, .place, .value, .error, .index]
theorem Fl.mem : ∀ f : Fl, f ∈ Fl.all := fun f => by cases f <;> simp [Fl.all]
def wrapN : List Str := ["NoStretch", "NoRows", "TooMany", "TooNarrow", "NoBreaking", "NoCount", "Contradictory", "BadLength", "LastWord", "BadRow", "BadTimes", "TooLong", "TooManyEdits", "NothingToUndo", "BadEdits", "BadEdit", "Rejected", "Busy", "BadText"]
def lookN : List Str := ["NoPlace", "NoLine", "NoWidth", "NoVersion"]
def isBlt (m : Str) : Bool := m == "ValueError" || m == "LookupError"
/-- is an error of the class n one of the class m -/
def subC (n m : Str) : Bool := n == m || ((m == "WrapError" || m == "ValueError") && wrapN.contains n) || (m == "LookupError" && lookN.contains n)
def allN : List Str := "WrapError" :: "ValueError" :: "LookupError" :: (wrapN ++ lookN)
/-- a class's name as a value -/
def clsV (K : PySem.W.Frag) (m : Str) : Value := if m == "ValueError" then .type "ValueError" else if m == "LookupError" then .type "LookupError" else .ref (He.ga K m)
/-- the module has it -/
def here (K : PySem.W.Frag) (m : Str) : Bool := isBlt m || (He.Fa.glo m).ok K
def knB (K : PySem.W.Frag) (n m : Str) : Bool := !here K m || (decide (PySem.W.exmOne K (.ref (He.ga K n)) (clsV K m) = some (subC n m)) && decide (PySem.W.kitOne K (.ref (He.ga K n)) (clsV K m) = some (subC n m)))
/-- what the written part says of a class of errors -/
structure ErrC (K : PySem.W.Frag) (n : Str) : Prop where
  cl : (PySem.W.clsIn K (He.ga K n)).isSome = true
  ga : PySem.W.findIn K (.ref (He.ga K n)) "__getattribute__" = some (some (.builtin "BaseException.__getattribute__"))
  gg : PySem.W.findIn K (.ref (He.ga K n)) "__getattr__" = some none
  kC : PySem.W.keepIn K (.ref (He.ga K n)) = true
  exC : PySem.W.subIn K (.ref (He.ga K n)) (.type "BaseException") = some true
  tyC : PySem.W.typeIn K (.ref (He.ga K n)) = some (.type "type")
  hdC : PySem.W.hasDictIn K (He.ga K n) = true
  ha : PySem.W.findIn K (.ref (He.ga K n)) "__class__" = some (some (.builtin "object.__class__"))
  hn : PySem.W.specialIn K (.builtin "object.__class__") "__get__" = some (some (.builtin "getset_descriptor.__get__"))
  ht : PySem.W.takesIn K (.builtin "object.__class__") = some true
  hm : PySem.W.mroIn K (He.ga K n) (.type "object") = some true
  nof : ∀ f : Fl, PySem.W.findIn K (.ref (He.ga K n)) f.s = some none
  kn : ∀ m ∈ allN, here K m = true → PySem.W.exmOne K (.ref (He.ga K n)) (clsV K m) = some (subC n m) ∧ PySem.W.kitOne K (.ref (He.ga K n)) (clsV K m) = some (subC n m)
def errB (K : PySem.W.Frag) (n : Str) : Bool :=
  (PySem.W.clsIn K (He.ga K n)).isSome && (decide (PySem.W.findIn K (.ref (He.ga K n)) "__getattribute__" = some (some (.builtin "BaseException.__getattribute__"))) && (decide (PySem.W.findIn K (.ref (He.ga K n)) "__getattr__" = some none) &&
    (PySem.W.keepIn K (.ref (He.ga K n)) && (decide (PySem.W.subIn K (.ref (He.ga K n)) (.type "BaseException") = some true) && (decide (PySem.W.typeIn K (.ref (He.ga K n)) = some (.type "type")) && (PySem.W.hasDictIn K (He.ga K n) &&
    (decide (PySem.W.findIn K (.ref (He.ga K n)) "__class__" = some (some (.builtin "object.__class__"))) && (decide (PySem.W.specialIn K (.builtin "object.__class__") "__get__" = some (some (.builtin "getset_descriptor.__get__"))) &&
    (decide (PySem.W.takesIn K (.builtin "object.__class__") = some true) && (decide (PySem.W.mroIn K (He.ga K n) (.type "object") = some true) && ((Fl.all.all fun f => decide (PySem.W.findIn K (.ref (He.ga K n)) f.s = some none)) && allN.all fun m => knB K n m)))))))))))
theorem errB_ok {K : PySem.W.Frag} {n : Str} (h : errB K n = true) : ErrC K n := by
  unfold errB at h
  simp only [Bool.and_eq_true, decide_eq_true_eq, List.all_eq_true] at h
  obtain ⟨h1, h2, h3, h4, h5, h6, h7, h8, h9, h10, h11, h12, h13⟩ := h
  refine ⟨h1, h2, h3, h4, h5, h6, h7, h8, h9, h10, h11, fun f => h12 f (Fl.mem f), fun m hm hh => ?_⟩
  have := h13 m hm
  unfold knB at this
  rw [hh] at this
  simpa using this
/-- the built-in class below -/
inductive Bs where
  | ve | le
def Bs.nm : Bs → String
  | .ve => "ValueError"
  | .le => "LookupError"
def Bs.tl : Bs → List Value
  | .ve => [.type "ValueError", .type "Exception", .type "BaseException", .type "object"]
  | .le => [.type "LookupError", .type "Exception", .type "BaseException", .type "object"]
def Bs.new : Bs → String
  | .ve => "ValueError.__new__"
  | .le => "LookupError.__new__"
def Bs.ini : Bs → String
  | .ve => "ValueError.__init__"
  | .le => "LookupError.__init__"
theorem Bs.fb : ∀ b : Bs, ExcBaseFacts b.nm b.new b.ini b.tl
  | .ve => PySem.F.excBase_ValueError
  | .le => PySem.F.excBase_LookupError
theorem Bs.sf : ∀ b : Bs, StoreFacts b.nm b.tl "object.__setattr__" "object"
  | .ve => PySem.F.store_ValueError
  | .le => PySem.F.store_LookupError
/-- of a class without fields -/
structure ErrZ (K : PySem.W.Frag) (n : Str) (b : Bs) : Prop where
  c : ErrC K n
  ex : PySem.W.excIn K (He.ga K n) b.tl b.new = true
def errZB (K : PySem.W.Frag) (n : Str) (b : Bs) : Bool := errB K n && PySem.W.excIn K (He.ga K n) b.tl b.new
theorem errZ_ok {K : PySem.W.Frag} {n : Str} {b : Bs} (h : errZB K n b = true) : ErrZ K n b := by
  unfold errZB at h
  rw [Bool.and_eq_true] at h
  exact ⟨errB_ok h.1, h.2⟩
/-- the text of __init__ -/
def iniA (f : Str) (p1 p2 : Pos) : Arguments := { posonlyargs := [], args := [{ arg := "self", annotation := none, pos := p1 }, { arg := f, annotation := none, pos := p2 }], vararg := none, kwonlyargs := [], kw_defaults := [], kwarg := none, defaults := [] }
def iniB (f : Str) (q1 q2 q3 q4 : Pos) : List Stmt := [.Assign [.Attribute (.Name "self" q1) f q2] (.Name f q3) q4]
def iniS (f : Str) : Scope := { kind := .function, names := [("self", .local), (f, .local)], isGenerator := false, isCoroutine := false, more := [] }
/-- of a class with one field -/
structure ErrT (K : PySem.W.Frag) (n : Str) (f : Fl) (b : Bs) : Prop where
  c : ErrC K n
  ini : PySem.W.excInitIn K (He.ga K n) b.tl b.new = true
  ov : PySem.W.excOver K (He.ga K n) b.tl = true
  sa : PySem.W.findIn K (.ref (He.ga K n)) "__setattr__" = some (some (.builtin "object.__setattr__"))
  iC : PySem.W.findIn K (.ref (He.ga K n)) "__init__" = some (some (.ref (He.ma K (He.ga K n) "__init__")))
  tC : PySem.W.typeIn K (.ref (He.ma K (He.ga K n) "__init__")) = some (.type "function")
  fn : ∃ (q : Str) (p1 p2 q1 q2 q3 q4 : Pos) (fd : FuncData), FunD K "__init__" q (iniA f.s p1 p2) (iniB f.s q1 q2 q3 q4) (iniS f.s) [] [] (He.ma K (He.ga K n) "__init__") fd
def errTB (K : PySem.W.Frag) (n : Str) (b : Bs) : Bool := errB K n && (PySem.W.excInitIn K (He.ga K n) b.tl b.new && (PySem.W.excOver K (He.ga K n) b.tl && (decide (PySem.W.findIn K (.ref (He.ga K n)) "__setattr__" = some (some (.builtin "object.__setattr__"))) &&
  (decide (PySem.W.findIn K (.ref (He.ga K n)) "__init__" = some (some (.ref (He.ma K (He.ga K n) "__init__")))) && decide (PySem.W.typeIn K (.ref (He.ma K (He.ga K n) "__init__")) = some (.type "function"))))))
theorem errT_ok {K : PySem.W.Frag} {n : Str} {f : Fl} {b : Bs} (h : errTB K n b = true) (fn : ∃ (q : Str) (p1 p2 q1 q2 q3 q4 : Pos) (fd : FuncData), FunD K "__init__" q (iniA f.s p1 p2) (iniB f.s q1 q2 q3 q4) (iniS f.s) [] [] (He.ma K (He.ga K n) "__init__") fd) : ErrT K n f b := by
  unfold errTB at h
  simp only [Bool.and_eq_true, decide_eq_true_eq] at h
  obtain ⟨h1, h2, h3, h4, h5, h6⟩ := h
  exact ⟨errB_ok h1, h2, h3, h4, h5, h6, fn⟩
end DL
end
section
namespace DL
open PySem PySem.Spec PyProof.Rows L2
/-- the class whose exceptions may have a context -/
def RJ (K : PySem.W.Frag) (c : Value) : Prop := here K "Rejected" = true ∧ PySem.W.exmOne K c (.ref (He.ga K "Rejected")) = some true
theorem ErrC.noRJ {K : PySem.W.Frag} {n : Str} (h : ErrC K n) (hn : n ≠ "Rejected") : ¬ RJ K (.ref (He.ga K n)) := fun ⟨h1, h2⟩ => by
  have q := (h.kn "Rejected" (by decide) h1).1
  have e : clsV K "Rejected" = .ref (He.ga K "Rejected") := rfl
  rw [e, h2] at q
  have q' : true = subC n "Rejected" := Option.some.inj q
  have e2 : subC n "Rejected" = (n == "Rejected") := by
    have a1 : (("Rejected" : Str) == "WrapError" || ("Rejected" : Str) == "ValueError") = false := by decide
    have a2 : (("Rejected" : Str) == "LookupError") = false := by decide
    unfold subC
    rw [a1, a2]
    simp
  rw [e2] at q'
  exact hn (eq_of_beq q'.symm)
/-- what is kept of its object -/
def Zq (K : PySem.W.Frag) (cls : Value) (d : Option Addr) : Obj → Prop := fun o => o.cls = cls ∧ o.dict = d ∧ (¬ RJ K cls → PXN.CtxN o)
theorem Zq.ofN {K : PySem.W.Frag} {cls : Value} {d : Option Addr} {o : Obj} (h : L2N.Zn cls d o) : Zq K cls d o := ⟨h.1, h.2.1, fun _ => h.2.2⟩
/-- an exception whose context is y -/
def CtxR (y : Addr) (o : Obj) : Prop := ∀ vs : Array Value, o.data = .fields vs → vs[2]? = some (.ref y)
theorem steady_ctxR {y : Addr} : PXN.Steady1 (CtxR y) := fun o v h => by
  obtain ⟨c, d, dt, sl⟩ := o
  cases dt with
  | fields vs0 =>
    intro vs e
    have e2 : vs0.setIfInBounds 1 v = vs := Data.fields.inj e
    have e3 : (vs0.setIfInBounds 1 v)[2]? = vs0[2]? := by
      first
      | exact Array.getElem?_setIfInBounds_ne (by decide)
      | simp [Array.getElem?_setIfInBounds]
    rw [← e2, e3]
    exact h vs0 rfl
  | _ =>
    intro vs e
    first
    | exact Data.noConfusion e
    | cases e
/-- what an exception in the air keeps: its context is None, or (Rejected) what stands at y -/
def Zy (K : PySem.W.Frag) (yo : Option Addr) (cls : Value) (d : Option Addr) : Obj → Prop := fun o => o.cls = cls ∧ o.dict = d ∧ match yo with
  | none => PXN.CtxN o
  | some y => RJ K cls ∧ CtxR y o
theorem Zy.steady {K : PySem.W.Frag} {yo : Option Addr} {cls : Value} {d : Option Addr} : PXN.Steady1 (Zy K yo cls d) := fun o v h => ⟨PXN.steady_cls o v h.1, PXN.steady_dict o v h.2.1, by
  cases yo with
  | none => exact PXN.steady_ctx o v h.2.2
  | some y => exact ⟨h.2.2.1, steady_ctxR o v h.2.2.2⟩⟩
theorem Zy.q {K : PySem.W.Frag} {yo : Option Addr} {cls : Value} {d : Option Addr} {o : Obj} (h : Zy K yo cls d o) : Zq K cls d o := ⟨h.1, h.2.1, fun n => by
  cases yo with
  | none => exact h.2.2
  | some y => exact absurd h.2.2.1 n⟩
theorem Zy.ofN {K : PySem.W.Frag} {cls : Value} {d : Option Addr} {o : Obj} (h : L2N.Zn cls d o) : Zy K none cls d o := ⟨h.1, h.2.1, h.2.2⟩
/-- a record whose own context is None -/
def EndC (oy : Obj) : Prop := ∃ vs : Array Value, oy.data = .fields vs ∧ vs[2]? = some .none
/-- where the context stands -/
def Gd (yo : Option Addr) (h : Heap) (H : Hp) : Prop := ∀ y, yo = some y → ∃ oy, h.get? y = some oy ∧ EndC oy ∧ H y = none
theorem Gd.none {h : Heap} {H : Hp} : Gd none h H := fun _ e => nomatch e
theorem heldZ_imp {B h : Heap} {l : List PySem.Env} {a L : Addr} {Z Z' : Obj → Prop} (z : ∀ o, Z o → Z' o) (x : PySem.HandSPX.HeldZ B l a Z L h) : PySem.HandSPX.HeldZ B l a Z' L h := ⟨x.1, x.2.1, x.2.2.1, L2H.tracedZ_imp z x.2.2.2⟩
theorem sky_imp {B h : Heap} {l : List PySem.Env} {a L : Addr} {Z Z' : Obj → Prop} (z : ∀ o, Z o → Z' o) (x : Sky B l a Z L h) : Sky B l a Z' L h := by
  rcases x with ⟨h1, h2, h3, oe, vs, h4, h5, h6⟩ | x | x
  · exact .inl ⟨h1, h2, h3, oe, vs, h4, z _ h5, h6⟩
  · exact .inr (.inl (L2H.flyingZ_imp z x))
  · exact .inr (.inr (heldZ_imp z x))
/-- behind a call that let an exception out -/
def CXd (K : PySem.W.Frag) (P : Program) (w : World) : CXT := fun outer H s E u s' =>
  ∃ (a : Addr) (B : Heap) (H' : Hp) (cls : Value) (d : Option Addr) (yo : Option Addr), u = .ref a ∧ PySem.HandSPX.FlyingZ B outer a (Zy K yo cls d) s'.heap ∧ HOk P w H' B ∧ UB (frs outer) H H' s.heap B s'.heap ∧ H' a = none ∧ s'.os = s.os ∧ AllBare s'.gens ∧ Gd yo B H' ∧ E cls d H'
/-- an exception with its object's facts, in the air of X -/
def XEq (X : Cx) (W : WX) (u : Value) (s' : Shared) : Prop :=
  ∃ (a : Addr) (B : Heap) (sI : Shared) (pins : List (Addr × Obj)) (σ : L2.St) (H : Hp) (cls : Value) (d : Option Addr) (yo : Option Addr),
    u = .ref a ∧ Inv X pins σ H sI ∧ (∀ b o, sI.heap.get? b = some o → b ∉ frs X.stack → B.get? b = some o) ∧ sI.heap.UpToSlots s'.heap ∧ Sky B X.stack a (Zy X.K yo cls d) X.env.locals s'.heap ∧ H a = none ∧ s'.os = sI.os ∧ AllBare s'.gens ∧ Gd yo B H ∧ W cls d σ H
/-- it is taken -/
structure TakesD (X : Cx) (W : WX) : Prop where
  go_ : ∀ u s', XEq X W u s' → X.xe u s'
theorem TakesD.go {X : Cx} {W : WX} (t : TakesD X W) {u : Value} {s' : Shared} (x : XEq X W u s') : X.xe u s' := t.go_ u s' x
theorem TakesD.of {X : Cx} {W : WX} (h : ∀ u s', XEq X W u s' → X.xe u s') : TakesD X W := ⟨h⟩
theorem XEq.ofN {X : Cx} {W : WX} {u : Value} {s' : Shared} (x : L2N.XE X W u s') : XEq X W u s' := by
  obtain ⟨a, B, sI, pins, σ, H, cls, d, e, I, nb, up, sky, na, os, ag, w⟩ := x
  exact ⟨a, B, sI, pins, σ, H, cls, d, none, e, I, nb, up, sky_imp (fun _ => Zy.ofN) sky, na, os, ag, .none, w⟩
theorem TakesD.n {X : Cx} {W : WX} (t : TakesD X W) : L2N.Takes X W := fun u s' x => t.go (.ofN x)
theorem XEq.imp {X : Cx} {W W' : WX} {u : Value} {s' : Shared} (h : ∀ c d σ H, W' c d σ H → W c d σ H) (x : XEq X W' u s') : XEq X W u s' := by
  obtain ⟨a, B, sI, pins, σ, H, cls, d, yo, e, I, nb, up, sky, na, os, ag, g, w⟩ := x
  exact ⟨a, B, sI, pins, σ, H, cls, d, yo, e, I, nb, up, sky, na, os, ag, g, h _ _ _ _ w⟩
theorem TakesD.imp {X : Cx} {W W' : WX} (t : TakesD X W) (h : ∀ c d σ H, W' c d σ H → W c d σ H) : TakesD X W' := .of fun _ _ x => t.go (x.imp h)
theorem takes0D {X : Cx} : TakesD X (fun _ _ _ _ => False) := .of fun _ _ ⟨_, _, _, _, _, _, _, _, _, _, _, _, _, _, _, _, _, _, z⟩ => z.elim
section
variable {X : Cx} {pins : List (Addr × Obj)} {σ : L2.St} {H : Hp} {sI s s' : Shared} {W : WX} {E : XK}
/-- a call's exception is in our air -/
theorem XEq.of_call (I : Inv X pins σ H s) (hW : ∀ cls d H', E cls d H' → W cls d σ H') {u : Value} (x : CXd X.K X.prog X.w X.stack H s E u s') : XEq X W u s' := by
  obtain ⟨a, B, H', cls, d, yo, eu, fl, hok, ub, na, os, ag, gd, hE⟩ := x
  obtain ⟨G, yes, no⟩ := restrict s'.heap fun b => (B.get? b).isSome || decide (b ∈ frs X.stack)
  have inG : ∀ b o, B.get? b = some o → G.get? b = some o := fun b o e => by
    rw [yes b (by simp [e])]
    exact fl.1 b o e
  have frG : ∀ b, b ∈ frs X.stack → G.get? b = s'.heap.get? b := fun b m => yes b (by simp [m])
  have outG : ∀ b o, G.get? b = some o → s'.heap.get? b = some o ∧ ((B.get? b).isSome = true ∨ b ∈ frs X.stack) := fun b o e => by
    cases q : ((B.get? b).isSome || decide (b ∈ frs X.stack)) with
    | false =>
      rw [no b q] at e
      exact (nomatch e)
    | true =>
      rw [yes b q] at e
      exact ⟨e, by simpa [Bool.or_eq_true] using q⟩
  have J : Inv X pins σ H' { s with heap := G, gens := s'.gens, drawn := s'.drawn, toks := s'.toks } := by
    refine I.call (ch := []) ⟨fun b o e n m _ => inG b o (ub.keep b o e n m), fun b o e n m _ => ?_, fun b o e n _ => ub.free b o e n, fun b o e _ => ?_, ub.tups, ub.frzs, ub.tbls⟩ (hok.kept inG) ag (fun _ z => nomatch z)
    · obtain ⟨sl, q⟩ := ub.slot b o e m
      exact ⟨sl, by rw [frG b m]; exact q⟩
    · by_cases m : b ∈ frs X.stack
      · obtain ⟨sl, q⟩ := ub.slot b o e m
        exact ⟨_, by rw [frG b m]; exact q⟩
      · obtain ⟨o', q⟩ := ub.there b o e m
        exact ⟨o', inG b o' q⟩
  refine ⟨a, B, _, pins, σ, H', cls, d, yo, eu, J, fun b o e m => ?_, Heap.UpToSlots.of_keeps fun b o e => (outG b o e).1, .inr (.inl fl), na, os, ag, gd, hW _ _ _ hE⟩
  obtain ⟨e1, z | z⟩ := outG b o e
  · obtain ⟨o', q⟩ := Option.isSome_iff_exists.mp z
    have e2 := fl.1 b o' q
    rw [e1] at e2
    rw [q, ← e2]
  · exact absurd z m
/-- a new exception is in our air -/
theorem XEq.new {a : Addr} {oe : Obj} {vs : Array Value} {cls : Value} {d yo : Option Addr} (I : Inv X pins σ H sI) (k : ∀ b o, sI.heap.get? b = some o → s'.heap.get? b = some o) (hne : sI.heap.get? a = none) (he : s'.heap.get? a = some oe)
    (hz : Zy X.K yo cls d oe) (hd : oe.data = .fields vs) (h1 : vs[1]? = some .none) (na : H a = none) (os : s'.os = sI.os) (ag : AllBare s'.gens) (gd : Gd yo sI.heap H) (w : W cls d σ H) : XEq X W (.ref a) s' := by
  have nB : (PySem.W.hideAll sI.heap (frs X.stack)).get? a = none := by
    cases q : (PySem.W.hideAll sI.heap (frs X.stack)).get? a with
    | none => rfl
    | some o =>
      have z := PySem.W.of_hideAll _ q
      rw [hne] at z
      exact (nomatch z)
  refine ⟨a, PySem.W.hideAll sI.heap (frs X.stack), sI, pins, σ, H, cls, d, yo, rfl, I, fun b o e m => PySem.W.hideAll_get _ e m, Heap.UpToSlots.of_keeps k,
    .inl ⟨fun b o e => k b o (PySem.W.of_hideAll _ e), nB, Heap.FunFrames.of_keeps (fun b o e _ => ⟨o, k b o e, rfl⟩) (funFrames_none I.stack fun b m => PySem.W.hideAll_none _ m), oe, vs, he, hz, hd, h1⟩, na, os, ag, fun y ey => ?_, w⟩
  obtain ⟨oy, g1, ⟨vy, g2, g3⟩, g4⟩ := gd y ey
  refine ⟨oy, PySem.W.hideAll_get _ g1 fun m => ?_, ⟨vy, g2, g3⟩, g4⟩
  obtain ⟨_, o', e', hnf⟩ := I.stack.mem m
  have eo : oy = o' := Option.some.inj (g1.symm.trans e')
  exact hnf vy (eo ▸ g2)
/-- it leaves the def -/
theorem XEq.leave (hs : X.stack = X.env :: X.outer) (hf : X.env.frame = some X.env.locals) (hex : X.ex = []) {E₁ : Value → Shared → Prop} (hW : ∀ cls d σ H, W cls d σ H → E cls d H) {u : Value} (x : XEq X W u s') :
    wpAny (model X.prog X.w) X.A (leaving X.env u) (fun _ s'' => CXd X.K X.prog X.w X.outer X.H_0 X.s_0 E u s'') E₁ s' := by
  obtain ⟨a, B, sI, pins, σ, H, cls, d, yo, rfl, I, nb, up, sky, na, os, ag, gd, w⟩ := x
  have fr : X.A.frames = some (X.env :: X.outer) := I.ok.frames.trans (by rw [hs])
  have old : ∀ b o, X.s_0.heap.get? b = some o → b ∉ X.fs → b ∉ frs X.stack := fun b o e n m => by
    rcases List.mem_cons.mp (I.stkSub b m) with z | z
    · have l1 := Heap.lt_size e
      have l2 := I.ok.above
      rw [z] at l1
      exact absurd (Nat.lt_of_lt_of_le l1 l2) (Nat.lt_irrefl _)
    · exact n z
  have nex : ∀ b, b ∉ X.ex := fun b m => by
    rw [hex] at m
    exact (nomatch m)
  have done : ∀ h', PySem.HandSPX.FlyingZ B X.outer a (Zy X.K yo cls d) h' → s'.heap.UpToSlots h' → CXd X.K X.prog X.w X.outer X.H_0 X.s_0 E (.ref a) { s' with heap := h' } := fun h' fl up' => by
    refine ⟨a, B, H, cls, d, yo, rfl, fl, I.inGround nb, ⟨fun b o e n m => nb b o (I.base.keep b o e n m (nex b)) (old b o e m), fun b o e m => ?_, fun b o e n => I.base.free b o e n (nex b), fun b o e m => ?_, I.base.tups, I.base.frzs, I.base.tbls⟩,
      na, os.trans I.os, ag, gd, hW _ _ _ _ w⟩
    · obtain ⟨_, o0, e0, nf⟩ := I.ok.funs.mem m
      have eo : o = o0 := Option.some.inj (e.symm.trans e0)
      subst eo
      obtain ⟨s1, e1⟩ := I.base.slot b o e (I.ok.frf b m) m (nex b)
      obtain ⟨s2, e2⟩ := up b _ e1 nf
      obtain ⟨s3, e3⟩ := up' b _ e2 nf
      exact ⟨s3, e3⟩
    · obtain ⟨o', e1⟩ := I.base.there b o e (nex b)
      exact ⟨o', nb b o' e1 (old b o e m)⟩
  rw [hs] at sky
  rcases sky with ⟨k1, k2, k3, oe, vs, k4, k5, k6, k7⟩ | fl | hd
  · exact PXN.leaving_firstZ Zy.steady fr k3 hf k4 k1 k2 k6 k7 k5 done
  · exact PXN.leaves_onZ Zy.steady fr hf fl done
  · exact PySem.HandSPX.leaves_heldZ hf hd done
end
theorem passAtD {X : Cx} {W : WX} (t : TakesD X W) (σ : L2.St) : PassesAt (CXd X.K X.prog X.w) X σ (WE W σ) := fun pins H s e s' I c => t.go (XEq.of_call I (fun _ _ _ h => h) c)
theorem passes_callD {X : Cx} {W : WX} {E : XK} (t : TakesD X W) (hW : ∀ cls d σ H, E cls d H → W cls d σ H) (σ : L2.St) : PassesAt (CXd X.K X.prog X.w) X σ E := fun pins H s e s' I c => t.go (XEq.of_call I (fun cls d H' h => hW cls d σ H' h) c)
/-- a def's wish about exceptions -/
theorem takes_ofD {X : Cx} {E : XK} (hs : X.stack = X.env :: X.outer) (hf : X.env.frame = some X.env.locals) (hex : X.ex = []) {E₁ : Value → Shared → Prop}
    (hx : X.xe = fun e s' => wpAny (model X.prog X.w) X.A (leaving X.env e) (fun _ s'' => CXd X.K X.prog X.w X.outer X.H_0 X.s_0 E e s'') E₁ s') : TakesD X (fun cls d _ H => E cls d H) := .of fun u s' x => by
  rw [hx]
  exact XEq.leave (W := fun cls d _ H => E cls d H) (E := E) hs hf hex (fun _ _ _ _ h => h) x
/-- other heaps, other wishes -/
theorem CXd.imp {K : PySem.W.Frag} {P : Program} {w : World} {o : List PySem.Env} {H : Hp} {s s' : Shared} {E E' : XK} {u : Value} (h : ∀ c d H, E c d H → E' c d H) (x : CXd K P w o H s E u s') : CXd K P w o H s E' u s' := by
  obtain ⟨a, B, H', cls, d, yo, h1, h2, h3, h4, h5, h6, h7, h8, h9⟩ := x
  exact ⟨a, B, H', cls, d, yo, h1, h2, h3, h4, h5, h6, h7, h8, h _ _ _ h9⟩
theorem ub_up {fs : List Addr} {H H2 H' : Hp} {h h2 B h' : Heap} (a : Un fs [] H H2 h h2) (k : ∀ b o, h.get? b = some o → h2.get? b = some o) (z : UB fs H2 H' h2 B h') : UB fs H H' h B h' where
  keep b o e n m := z.keep b o (k b o e) (a.free b o e n List.not_mem_nil) m
  slot b o e m := z.slot b o (k b o e) m
  free b o e n := z.free b o (k b o e) (a.free b o e n List.not_mem_nil)
  there b o e m := z.there b o (k b o e) m
  tups b xs e := z.tups b xs (a.tups b xs e)
  frzs b o xs e := z.frzs b o xs (a.frzs b o xs e)
  tbls b ps e := by
    obtain ⟨m1, e1⟩ := a.tbls b ps e
    obtain ⟨m2, e2⟩ := z.tbls b _ e1
    exact ⟨m1 ++ m2, by rw [← Array.append_assoc]; exact e2⟩
theorem CXd.up {K : PySem.W.Frag} {P : Program} {w : World} {o : List PySem.Env} {H H2 : Hp} {s s2 s' : Shared} {E : XK} {u : Value} (a : Un (frs o) [] H H2 s.heap s2.heap) (k : ∀ b o, s.heap.get? b = some o → s2.heap.get? b = some o) (q : s2.os = s.os) (x : CXd K P w o H2 s2 E u s') : CXd K P w o H s E u s' := by
  obtain ⟨b, B, H', cls, d, yo, h1, h2, h3, h4, h5, h6, h7⟩ := x
  exact ⟨b, B, H', cls, d, yo, h1, h2, h3, ub_up a k h4, h5, h6.trans q, h7⟩
theorem no_cxD {K : PySem.W.Frag} {P : Program} {w : World} {o : List PySem.Env} {H : Hp} {s s' : Shared} {u : Value} {E : XK} (hE : ∀ c d H, ¬ E c d H) (h : CXd K P w o H s E u s') : False := by
  obtain ⟨_, _, _, _, _, _, _, _, _, _, _, _, _, _, z⟩ := h
  exact hE _ _ _ z
end DL
end
section
namespace DL
open PySem PySem.Spec PyProof.Rows L2
/-- the exception's object at a -/
def xob (a : Addr) (o : Obj) : HO := .ext fun h => h.get? a = some o
/-- what is known of it -/
structure XOb (K : PySem.W.Frag) (o : Obj) (n : Str) (d : Option Addr) : Prop where
  cls : o.cls = .ref (He.ga K n)
  dict : o.dict = d
  data : ∃ vs, o.data = .fields vs
  er : ErrC K n
  ctx : n ≠ "Rejected" → PXN.CtxN o
mutual
/-- the value is that data; B: places that may change, no list of the data stands there -/
inductive Rep (K : PySem.W.Frag) (B : Addr → Prop) (H : Hp) : V → PyData → Prop
  | non : Rep K B H .non .none
  | bl (b : Bool) : Rep K B H (.bl b) (.bool b)
  | int (i : Int) : Rep K B H (.int i) (.int i)
  | str (x : Str) : Rep K B H (.str x) (.str x)
  | lst {a : Addr} {xs : List V} {ds : List PyData} : H a = some (.lst xs) → ¬ B a → Reps K B H xs ds → Rep K B H (.ref a) (.list ds)
  | tup {a : Addr} {xs : List V} {ds : List PyData} : SqT K H a xs → Reps K B H xs ds → Rep K B H (.ref a) (.tuple ds)
  | dct0 {a : Addr} : H a = some (.dK []) → ¬ B a → Rep K B H (.ref a) (.dict [])
  | dct1 {a : Addr} {x : Str} {v : V} {d : PyData} : H a = some (.dK [(.inr x, v)]) → ¬ B a → Rep K B H v d → Rep K B H (.ref a) (.dict [(.str x, d)])
  | exn0 {a : Addr} {o : Obj} {n : Str} : H a = some (xob a o) → ¬ B a → XOb K o n none → Rep K B H (.ref a) (xD n [])
  | exn1 {a dd : Addr} {o : Obj} {n f : Str} {v : V} {d : PyData} : H a = some (xob a o) → ¬ B a → XOb K o n (some dd) → H dd = some (.xd [(f, v)]) → ¬ B dd → Rep K B H v d → Rep K B H (.ref a) (xD n [(f, d)])
  | rf (a : Addr) : Rep K B H (.ref a) (rD a)
  | wr {a dx : Addr} {v : V} {d : PyData} : H a = some (.ins (He.ga K "WordRow") dx [("held", v)]) → ¬ B a → Rep K B H v d → Rep K B H (.ref a) (wD d)
inductive Reps (K : PySem.W.Frag) (B : Addr → Prop) (H : Hp) : List V → List PyData → Prop
  | nil : Reps K B H [] []
  | cons {v : V} {vs : List V} {d : PyData} {ds : List PyData} : Rep K B H v d → Reps K B H vs ds → Reps K B H (v :: vs) (d :: ds)
end
/-- what is kept for good: tuples, locked things -/
def Imm : HO → Prop
  | .tup _ => True
  | .frz _ _ => True
  | .ext _ => True
  | _ => False
/-- all is kept but what stands at places of B -/
structure Ext (B : Addr → Prop) (H H' : Hp) : Prop where
  keep : ∀ a o, H a = some o → ¬ B a → H' a = some o
  imm : ∀ a o, H a = some o → Imm o → H' a = some o
  dom : ∀ a, H a ≠ none → H' a ≠ none
abbrev All (H H' : Hp) : Prop := ∀ a o, H a = some o → H' a = some o
section
variable {K : PySem.W.Frag} {B B' B'' : Addr → Prop} {H H' H'' : Hp}
theorem All.ext (h : All H H') : Ext B H H' := ⟨fun a o e _ => h a o e, fun a o e _ => h a o e, fun a n => by
  cases e : H a with
  | none => exact absurd e n
  | some o => rw [h a o e]; exact fun z => nomatch z⟩
theorem All.refl : All H H := fun _ _ e => e
theorem All.trans (h : All H H') (h' : All H' H'') : All H H'' := fun a o e => h' a o (h a o e)
theorem All.new {p : Addr} {o : HO} (h : H p = none) : All H (upd H p o) := fun a u e => by
  rw [upd_ne (ne_of_none e h)]; exact e
theorem Ext.refl : Ext B H H := All.refl.ext
theorem Ext.trans (h : Ext B H H') (h' : Ext B H' H'') : Ext B H H'' :=
  ⟨fun a o e n => h'.keep a o (h.keep a o e n) n, fun a o e i => h'.imm a o (h.imm a o e i) i, fun a n => h'.dom a (h.dom a n)⟩
theorem Ext.more (h : Ext B H H') (s : ∀ a, B a → B' a) : Ext B' H H' :=
  ⟨fun a o e n => h.keep a o e fun z => n (s a z), h.imm, h.dom⟩
theorem some_ne {a : Addr} {o : HO} (e : H a = some o) : H a ≠ none := by rw [e]; exact fun z => nomatch z
theorem Ext.sqT (h : Ext B H H') {a : Addr} {xs : List V} (q : SqT K H a xs) : SqT K H' a xs := by
  rcases q with (q | ⟨o, q⟩) | q
  · exact .inl (.inl (h.imm a _ q True.intro))
  · exact .inl (.inr ⟨o, h.imm a _ q True.intro⟩)
  · exact .inr q
mutual
theorem Rep.mono (h : Ext B H H') : ∀ {v : V} {d : PyData}, Rep K B H v d → Rep K B H' v d
  | _, _, .non => .non
  | _, _, .bl b => .bl b
  | _, _, .int i => .int i
  | _, _, .str x => .str x
  | _, _, .lst e n r => .lst (h.keep _ _ e n) n (Reps.mono h r)
  | _, _, .tup e r => .tup (h.sqT e) (Reps.mono h r)
  | _, _, .dct0 e n => .dct0 (h.keep _ _ e n) n
  | _, _, .dct1 e n r => .dct1 (h.keep _ _ e n) n (Rep.mono h r)
  | _, _, .exn0 e n x => .exn0 (h.keep _ _ e n) n x
  | _, _, .exn1 e n x e2 n2 r => .exn1 (h.keep _ _ e n) n x (h.keep _ _ e2 n2) n2 (Rep.mono h r)
  | _, _, .rf a => .rf a
  | _, _, .wr e n r => .wr (h.keep _ _ e n) n (Rep.mono h r)
theorem Reps.mono (h : Ext B H H') : ∀ {vs : List V} {ds : List PyData}, Reps K B H vs ds → Reps K B H' vs ds
  | _, _, .nil => .nil
  | _, _, .cons r t => .cons (Rep.mono h r) (Reps.mono h t)
end
mutual
/-- other places: none of the data's lists stands at one -/
theorem Rep.grow (h : ∀ a, B' a → H a ≠ none → B a) : ∀ {v : V} {d : PyData}, Rep K B H v d → Rep K B' H v d
  | _, _, .non => .non
  | _, _, .bl b => .bl b
  | _, _, .int i => .int i
  | _, _, .str x => .str x
  | _, _, .lst e n r => .lst e (fun z => n (h _ z (some_ne e))) (Reps.grow h r)
  | _, _, .tup e r => .tup e (Reps.grow h r)
  | _, _, .dct0 e n => .dct0 e (fun z => n (h _ z (some_ne e)))
  | _, _, .dct1 e n r => .dct1 e (fun z => n (h _ z (some_ne e))) (Rep.grow h r)
  | _, _, .exn0 e n x => .exn0 e (fun z => n (h _ z (some_ne e))) x
  | _, _, .exn1 e n x e2 n2 r => .exn1 e (fun z => n (h _ z (some_ne e))) x e2 (fun z => n2 (h _ z (some_ne e2))) (Rep.grow h r)
  | _, _, .rf a => .rf a
  | _, _, .wr e n r => .wr e (fun z => n (h _ z (some_ne e))) (Rep.grow h r)
theorem Reps.grow (h : ∀ a, B' a → H a ≠ none → B a) : ∀ {vs : List V} {ds : List PyData}, Reps K B H vs ds → Reps K B' H vs ds
  | _, _, .nil => .nil
  | _, _, .cons r t => .cons (Rep.grow h r) (Reps.grow h t)
end
theorem Rep.less (h : ∀ a, B' a → B a) {v : V} {d : PyData} (r : Rep K B H v d) : Rep K B' H v d := r.grow fun a z _ => h a z
theorem Reps.less (h : ∀ a, B' a → B a) {vs : List V} {ds : List PyData} (r : Reps K B H vs ds) : Reps K B' H vs ds := r.grow fun a z _ => h a z
mutual
theorem Rep.dp : ∀ {v : V} {d : PyData}, PyData.canLay0 d = true → Rep K B H v d → Dp K H v d
  | _, _, _, .non => .non
  | _, _, _, .bl b => .bl b
  | _, _, _, .int i => .int i
  | _, _, _, .str x => .str x
  | _, _, h, .lst e _ r => .lst (SqL.of e) (Reps.dp (by simpa [PyData.canLay0] using h) r)
  | _, _, h, .tup e r => .tup e (Reps.dp (by simpa [PyData.canLay0] using h) r)
  | _, _, h, .dct0 _ _ => by simp [PyData.canLay0] at h
  | _, _, h, .dct1 _ _ _ => by simp [PyData.canLay0] at h
  | _, _, h, .exn0 _ _ _ => by simp [PyData.canLay0, xD] at h
  | _, _, h, .exn1 _ _ _ _ _ _ => by simp [PyData.canLay0, xD] at h
  | _, _, h, .rf _ => by simp [PyData.canLay0, rD] at h
  | _, _, h, .wr _ _ _ => by simp [PyData.canLay0, wD] at h
theorem Reps.dp : ∀ {vs : List V} {ds : List PyData}, PyData.canLayAll0 ds = true → Reps K B H vs ds → DpAll K H vs ds
  | _, _, _, .nil => .nil
  | _, _, h, .cons r t => by
    simp only [PyData.canLayAll0, Bool.and_eq_true] at h
    exact .cons (Rep.dp h.1 r) (Reps.dp h.2 t)
end
theorem Reps.length : ∀ {vs : List V} {ds : List PyData}, Reps K B H vs ds → vs.length = ds.length
  | _, _, .nil => rfl
  | _, _, .cons _ t => by simp [Reps.length t]
theorem Reps.get : ∀ {vs : List V} {ds : List PyData}, Reps K B H vs ds → ∀ {i : Nat} {d : PyData}, ds[i]? = some d → ∃ v, vs[i]? = some v ∧ Rep K B H v d
  | _, _, .nil, i, d, e => by simp at e
  | _, _, .cons r t, 0, d, e => by
    have e' : _ = d := Option.some.inj e
    subst e'
    exact ⟨_, rfl, r⟩
  | _, _, .cons r t, i + 1, d, e => Reps.get t (i := i) e
theorem Reps.append : ∀ {vs ws : List V} {ds es : List PyData}, Reps K B H vs ds → Reps K B H ws es → Reps K B H (vs ++ ws) (ds ++ es)
  | _, _, _, _, .nil, s => s
  | _, _, _, _, .cons r t, s => .cons r (Reps.append t s)
theorem Reps.drop : ∀ (n : Nat) {vs : List V} {ds : List PyData}, Reps K B H vs ds → Reps K B H (vs.drop n) (ds.drop n)
  | 0, _, _, r => r
  | _ + 1, _, _, .nil => .nil
  | n + 1, _, _, .cons _ t => Reps.drop n t
theorem Reps.take : ∀ (n : Nat) {vs : List V} {ds : List PyData}, Reps K B H vs ds → Reps K B H (vs.take n) (ds.take n)
  | 0, _, _, _ => .nil
  | _ + 1, _, _, .nil => .nil
  | n + 1, _, _, .cons r t => .cons r (Reps.take n t)
theorem Reps.set {v : V} {d : PyData} (r : Rep K B H v d) : ∀ (n : Nat) {vs : List V} {ds : List PyData}, Reps K B H vs ds → Reps K B H (vs.set n v) (ds.set n d)
  | _, _, _, .nil => .nil
  | 0, _, _, .cons _ t => .cons r t
  | n + 1, _, _, .cons q t => .cons q (Reps.set r n t)
theorem Reps.reverse {vs : List V} {ds : List PyData} (r : Reps K B H vs ds) : Reps K B H vs.reverse ds.reverse := by
  induction r using Reps.rec (motive_1 := fun _ _ _ => True) <;> try trivial
  case nil => exact .nil
  case cons r _ _ ih =>
    rw [List.reverse_cons, List.reverse_cons]
    exact ih.append (.cons r .nil)
theorem Reps.rep {vs : List V} {ds : List PyData} (r : Reps K B H vs ds) : ∀ n : Nat, Reps K B H (List.replicate n vs).flatten (List.replicate n ds).flatten
  | 0 => .nil
  | n + 1 => by
    rw [List.replicate_succ, List.replicate_succ, List.flatten_cons, List.flatten_cons]
    exact r.append (Reps.rep r n)
theorem Reps.ints : ∀ {vs : List V} {ds : List PyData} {ns : List Int}, Reps K B H vs ds → ints? ds = some ns → vs = ns.map V.int
  | _, _, ns, .nil, h => by simp [ints?] at h; subst h; rfl
  | _, _, ns, .cons r t, h => by
    have e := ints?_eq h
    cases ns with
    | nil => cases e
    | cons a b =>
      injection e with e1 e2
      subst e1
      cases r with
      | int i =>
        subst e2
        rw [Reps.ints t (ints?_map b)]
        rfl
theorem Reps.bools : ∀ {vs : List V} {ds : List PyData} {ns : List Bool}, Reps K B H vs ds → bools? ds = some ns → vs = ns.map V.bl
  | _, _, ns, .nil, h => by simp [bools?] at h; subst h; rfl
  | _, _, ns, .cons r t, h => by
    have e := bools?_eq h
    cases ns with
    | nil => cases e
    | cons a b =>
      injection e with e1 e2
      subst e1
      cases r with
      | bl i =>
        subst e2
        rw [Reps.bools t (bools?_map b)]
        rfl
theorem Reps.of_ints : ∀ (ns : List Int), Reps K B H (ns.map V.int) (ns.map PyData.int)
  | [] => .nil
  | a :: r => .cons (.int a) (Reps.of_ints r)
end
/-- from a state to another: B may change, what is new is new -/
structure Tr (B : Addr → Prop) (H : Hp) (B' : Addr → Prop) (H' : Hp) : Prop where
  ext : Ext B H H'
  old : ∀ a, B' a → H a ≠ none → B a
/-- the body's own: what may change besides (the stream, the cells), its state, the entry's heap and state, the caller's places, what is wanted of errors -/
structure Par where
  B0 : Sx → Addr → Prop
  SI : Sx → Hp → Prop
  S : Addr
  H0 : Hp
  c0 : Sx
  Bc : Addr → Prop
  XP : Exn → Sx → Prop
  EK : L2.St → XK
  /-- within a try's body: where it began; slots that may change -/
  fx : Option (L2.St × Sx × Hp × (Addr → Prop) × (Nat → Prop)) := none
  /-- lists that were handed in: where the name at a place stands -/
  pin : Nat → Option Addr := fun _ => none
/-- the places of the frame and those of the state -/
def bm (p : Par) (B : Addr → Prop) (c : Sx) : Addr → Prop := fun a => B a ∨ p.B0 c a
/-- an error behind a call: its class, its fields -/
def ExRep (K : PySem.W.Frag) (mg : Str → Option Value) (B : Addr → Prop) (H : Hp) (x : Exn) (c : Value) (d : Option Addr) : Prop :=
  c = .ref (He.ga K x.cls) ∧ ErrC K x.cls ∧ match x.fs with
    | [] => d = none
    | [(f, y)] => ∃ (dd : Addr) (v : V), d = some dd ∧ H dd = some (.xd [(f, v)]) ∧ ¬ B dd ∧ Rep K B H v y
    | _ => False
/-- what may change: places of the state; new places are new -/
structure EvB (Z : Sx → Addr → Prop) (c : Sx) (H : Hp) (c' : Sx) (H' : Hp) : Prop where
  ext : Ext (Z c) H H'
  up : ∀ a, Z c a → Z c' a
  old : ∀ a, Z c' a → H a ≠ none → Z c a
  dom : (∀ a, Z c a → H a ≠ none) → ∀ a, Z c' a → H' a ≠ none
abbrev Ev (p : Par) (c : Sx) (H : Hp) (c' : Sx) (H' : Hp) : Prop := EvB p.B0 c H c' H'
structure St0 (p : Par) (n : Sx) (B : Addr → Prop) (H : Hp) : Prop where
  subc : ∀ a, p.Bc a → bm p B n a
  trk : ∀ a, bm p B n a → H a ≠ none
  si : p.SI n H
  ext : Ev p p.c0 p.H0 n H
  old : ∀ a, B a → p.H0 a ≠ none → bm p p.Bc n a
/-- the slots and places are those of the try's start -/
def Fix (p : Par) (n : Sx) (B : Addr → Prop) (H : Hp) (σ : L2.St) : Prop := ∀ f, p.fx = some f → (σ.length = f.1.length ∧ ∀ i, ¬ f.2.2.2.2 i → σ[i]? = f.1[i]?) ∧ Ev p f.2.1 f.2.2.1 n H ∧ B = f.2.2.2.1
theorem EvB.refl {Z : Sx → Addr → Prop} {c : Sx} {H : Hp} : EvB Z c H c H := ⟨Ext.refl, fun _ h => h, fun _ h _ => h, fun h => h⟩
theorem All.ev {Z : Sx → Addr → Prop} {c : Sx} {H H' : Hp} (h : All H H') : EvB Z c H c H' := ⟨h.ext, fun _ h => h, fun _ h _ => h, fun q a z => (h.ext (B := fun _ => False)).dom a (q a z)⟩
theorem EvB.trans {Z : Sx → Addr → Prop} {c c' c'' : Sx} {H H' H'' : Hp} (a : EvB Z c H c' H') (b : EvB Z c' H' c'' H'') : EvB Z c H c'' H'' where
  ext := ⟨fun x o e n => b.ext.keep x o (a.ext.keep x o e n) fun z => n (a.old x z (some_ne e)), fun x o e i => b.ext.imm x o (a.ext.imm x o e i) i, fun x n => b.ext.dom x (a.ext.dom x n)⟩
  up := fun x h => b.up x (a.up x h)
  old := fun x z n => a.old x (b.old x z (a.ext.dom x n)) n
  dom := fun q => b.dom (a.dom q)
theorem Ev.refl {p : Par} {c : Sx} {H : Hp} : Ev p c H c H := EvB.refl
theorem Ev.trans {p : Par} {c c' c'' : Sx} {H H' H'' : Hp} (a : Ev p c H c' H') (b : Ev p c' H' c'' H'') : Ev p c H c'' H'' := EvB.trans a b
theorem fix_same {σ σ' : L2.St} (h : σ.length = σ'.length ∧ ∀ i : Nat, ¬ False → σ[i]? = σ'[i]?) : σ = σ' := List.ext_getElem? fun i => h.2 i fun z => z
theorem Fix.no {p : Par} {n : Sx} {B : Addr → Prop} {H : Hp} {σ : L2.St} (h : p.fx = none) : Fix p n B H σ := fun f e => by rw [h] at e; cases e
theorem Fix.go {p : Par} {n n' : Sx} {B : Addr → Prop} {H H' : Hp} {σ : L2.St} (h : Fix p n B H σ) (e : Ev p n H n' H') : Fix p n' B H' σ := fun f q => let ⟨a, b, c⟩ := h f q; ⟨a, b.trans e, c⟩
structure Par.Ok (K : PySem.W.Frag) (mg : Str → Option Value) (p : Par) : Prop where
  stab : ∀ n H H', p.SI n H → (∀ a o, p.B0 n a → H a = some o → H' a = some o) → (∀ a o, H a = some o → Imm o → H' a = some o) → p.SI n H'
  exc : ∀ n n' x c d B H H' σ, St0 p n B H → Fix p n B H σ → p.XP x n' → p.SI n' H' → Ev p n H n' H' → ExRep K mg (bm p B n') H' x c d → p.EK σ c d H'
inductive Slot (K : PySem.W.Frag) (p : Par) (n : Sx) (B : Addr → Prop) (H : Hp) : Option V → Ent → Prop
  | unk (s : Option V) : Slot K p n B H s .unk
  | val {v : V} {d : D} : Rep K (bm p B n) H v d → Slot K p n B H (some v) (.val d)
  | own {a : Addr} {xs : List V} {ds : List D} : B a → ¬ p.B0 n a → ¬ p.Bc a → p.H0 a = none → H a = some (.lst xs) → Reps K (bm p B n) H xs ds → Slot K p n B H (some (.ref a)) (.own ds)
  | stm : Slot K p n B H (some (.ref p.S)) .stm
  | scr {a : Addr} {ns : List Int} : (∀ H' : Hp, (∀ o, H a = some o → Imm o → H' a = some o) → SqL K H' a (ns.map V.int)) → Slot K p n B H (some (.ref a)) (.scr ns)
structure EnvR (K : PySem.W.Frag) (p : Par) (n : Sx) (B : Addr → Prop) (H : Hp) (σ : L2.St) (E : Env) : Prop where
  len : σ.length = E.length
  at_ : ∀ (i : Nat) (e : Ent), E[i]? = some e → ∃ s, σ[i]? = some s ∧ Slot K p n B H s e
  nd : ∀ (i j : Nat) (a : Addr) (xs ys : List D), E[i]? = some (.own xs) → E[j]? = some (.own ys) → σ[i]? = some (some (.ref a)) → σ[j]? = some (some (.ref a)) → i = j
  fx : Fix p n B H σ
  pn : ∀ (i : Nat) (a : Addr) (xs : List D), p.pin i = some a → E[i]? = some (.own xs) → σ[i]? = some (some (.ref a))
theorem Tr.refl {B : Addr → Prop} {H : Hp} : Tr B H B H := ⟨Ext.refl, fun _ b _ => b⟩
theorem Tr.trans {B B' B'' : Addr → Prop} {H H' H'' : Hp} (a : Tr B H B' H') (b : Tr B' H' B'' H'') : Tr B H B'' H'' where
  ext := ⟨fun x o e n => b.ext.keep x o (a.ext.keep x o e n) fun z => n (a.old x z (some_ne e)), fun x o e i => b.ext.imm x o (a.ext.imm x o e i) i, fun x n => b.ext.dom x (a.ext.dom x n)⟩
  old := fun x z n => a.old x (b.old x z (a.ext.dom x n)) n
theorem Tr.of {B : Addr → Prop} {H H' : Hp} (e : Ext B H H') : Tr B H B H' := ⟨e, fun _ b _ => b⟩
section
variable {K : PySem.W.Frag} {mg : Str → Option Value} {p : Par} {B B' B'' : Addr → Prop} {H H' H'' : Hp} {σ : L2.St} {E : Env} {n n' : Sx}
mutual
/-- data that was known stays known -/
theorem Rep.tr (t : Tr B H B' H') : ∀ {v : V} {d : PyData}, Rep K B H v d → Rep K B' H' v d
  | _, _, .non => .non
  | _, _, .bl b => .bl b
  | _, _, .int i => .int i
  | _, _, .str x => .str x
  | _, _, .lst e n r => .lst (t.ext.keep _ _ e n) (fun z => n (t.old _ z (some_ne e))) (Reps.tr t r)
  | _, _, .tup e r => .tup (t.ext.sqT e) (Reps.tr t r)
  | _, _, .dct0 e n => .dct0 (t.ext.keep _ _ e n) (fun z => n (t.old _ z (some_ne e)))
  | _, _, .dct1 e n r => .dct1 (t.ext.keep _ _ e n) (fun z => n (t.old _ z (some_ne e))) (Rep.tr t r)
  | _, _, .exn0 e n x => .exn0 (t.ext.keep _ _ e n) (fun z => n (t.old _ z (some_ne e))) x
  | _, _, .exn1 e n x e2 n2 r => .exn1 (t.ext.keep _ _ e n) (fun z => n (t.old _ z (some_ne e))) x (t.ext.keep _ _ e2 n2) (fun z => n2 (t.old _ z (some_ne e2))) (Rep.tr t r)
  | _, _, .rf a => .rf a
  | _, _, .wr e n r => .wr (t.ext.keep _ _ e n) (fun z => n (t.old _ z (some_ne e))) (Rep.tr t r)
theorem Reps.tr (t : Tr B H B' H') : ∀ {vs : List V} {ds : List PyData}, Reps K B H vs ds → Reps K B' H' vs ds
  | _, _, .nil => .nil
  | _, _, .cons r u => .cons (Rep.tr t r) (Reps.tr t u)
end
section
variable {K : PySem.W.Frag} {mg : Str → Option Value} {p : Par} {B B' B'' : Addr → Prop} {H H' H'' : Hp} {σ : L2.St} {E : Env} {n n' : Sx}
theorem bm_more (h : ∀ a, p.B0 n a → p.B0 n' a) : ∀ a, bm p B n a → bm p B n' a := fun a z => z.imp id (h a)
/-- an expression, as a step -/
theorem EvB.tr (e : EvB p.B0 n H n' H') : Tr (bm p B n) H (bm p B n') H' :=
  ⟨e.ext.more fun _ z => .inr z, fun a z h => z.elim .inl fun z => .inr (e.old a z h)⟩
theorem St0.up (_ : St0 p n B H) (e : Ev p n H n' H') : Tr (bm p B n) H (bm p B n') H' := e.tr
theorem St0.go (s : St0 p n B H) (e : Ev p n H n' H') (si : p.SI n' H') : St0 p n' B H' :=
  ⟨fun a z => bm_more e.up a (s.subc a z), fun a b => b.elim (fun z => e.ext.dom a (s.trk a (.inl z))) fun z => e.dom (fun x y => s.trk x (.inr y)) a z, si, s.ext.trans e, fun a b h => bm_more e.up a (s.old a b h)⟩
theorem St0.all (ok : p.Ok K mg) (s : St0 p n B H) (e : All H H') : p.SI n H' := ok.stab n H H' s.si (fun a o _ q => e a o q) fun a o q _ => e a o q
/-- the caller's places and the state's are known -/
theorem St0.bc (s : St0 p n B H) : ∀ a, bm p p.Bc n a → bm p B n a := fun a z => z.elim (s.subc a) .inr
theorem Slot.go (e : Ev p n H n' H') {x : Option V} {y : Ent} (h : Slot K p n B H x y) : Slot K p n' B H' x y := by
  cases h with
  | unk _ => exact .unk _
  | val r => exact .val (r.tr e.tr)
  | own b nb nc h0 hl r => exact .own b (fun z => nb (e.old _ z (some_ne hl))) nc h0 (e.ext.keep _ _ hl nb) (r.tr e.tr)
  | stm => exact .stm
  | scr q => exact .scr fun H2 hk => q H2 fun o ho hi => hk o (e.ext.imm _ o ho hi) hi
theorem EnvR.go (r : EnvR K p n B H σ E) (_ : St0 p n B H) (e : Ev p n H n' H') : EnvR K p n' B H' σ E :=
  ⟨r.len, fun i x q => let ⟨s', h1, h2⟩ := r.at_ i x q; ⟨s', h1, h2.go e⟩, r.nd, r.fx.go e, r.pn⟩
end
end
end DL
end
section
namespace DL
open PySem PySem.Spec PyProof.Rows L2
theorem dict_declines (l b : Addr) (o : Obj) (items2 : Array Value) (n2 : Nat) (dd2 : Option Addr) (sl2 : Array (Option Value)) :
    Meets (Builtin.«dict.__eq__» ⟨[.ref l, .ref b], []⟩) (fun _ R s => s.heap.get? l = some o ∧ o.cls = .type "dict" ∧ s.heap.get? b = some { cls := .type "tuple", dict := dd2, data := .seq items2 n2, slots := sl2 } ∧ R (.ok (.ret .notImplemented)) s) :=
  .of_wp fun prog w A R s h => by
    obtain ⟨hl, hc, hb, h⟩ := h
    have t1 : s.TypeIs (.ref l) "dict" := ⟨_, hl, hc⟩
    have t2 : s.TypeIs (.ref b) "tuple" := ⟨_, hb, rfl⟩
    show wpAny _ _ (Builtin.Dict.dictSlotArgs "__eq__" ⟨[.ref l, .ref b], []⟩ >>= _) _ _ s
    refine wpAny_bind ?_
    unfold Builtin.Dict.dictSlotArgs
    refine wpAny_bind (PySem.wpAny_notOrdered_dict t1 ?_)
    show wpAny _ _ (pure (Value.ref l, Value.ref b)) _ _ s
    refine wpAny_pure ?_
    refine wpAny_bind (wpAny_isInstance (T := "tuple") (U := "dict") (b := false) t2 PySem.F.sub_tuple_dict ?_)
    simp only [Bool.not_false, if_true]
    exact wpAny_bind (wpAny_rule (wpAny_pure ⟨_, rfl, h⟩))
theorem tuple_declines (l b : Addr) (o : Obj) (items : Array Value) (n : Nat) (dd : Option Addr) (sl : Array (Option Value)) :
    Meets (Builtin.«tuple.__eq__» ⟨[.ref l, .ref b], []⟩) (fun _ R s => s.heap.get? l = some { cls := .type "tuple", dict := dd, data := .seq items n, slots := sl } ∧ s.heap.get? b = some o ∧ o.cls = .type "dict" ∧ R (.ok (.ret .notImplemented)) s) :=
  .of_wp fun prog w A R s h => by
    obtain ⟨hp, g, d, tk, os⟩ := s
    obtain ⟨hl, hb, hc, h⟩ := h
    obtain ⟨oc, od, oda, os2⟩ := o
    simp only at hc
    subst hc
    have f1 := PySem.F.sub_dict_tuple
    wp_walk using wpAny_loadPart' hl, wpAny_loadPart' hb
    exact ⟨_, rfl, h⟩
section
variable {A : Around} {s : Shared}
theorem rc_dict_tuple {l b : Addr} {o : Obj} {items2 : Array Value} (hl : s.heap.get? l = some o) (hc : o.cls = .type "dict") (hb : s.heap.IsTuple b items2) (hu : A.units < cLine) : SeqAt.RcAt A s (.ref l) (.ref b) false := fun prog w E Q h => by
  obtain ⟨⟨cls2, dd2, data2, sl2⟩, ho2, hc2, n2, hd2⟩ := id hb
  simp only at hc2 hd2
  subst hc2 hd2
  have hne : l ≠ b := fun z => by
    subst z
    rw [hl] at ho2
    cases ho2
    exact absurd hc (by simp)
  exact (PySem.SeqAt.rc_eq_decline_or (k := false) ⟨_, hl, hc⟩ ⟨_, ho2, rfl⟩ (by decide) PySem.F.sub_tuple_dict PySem.F.slot_dict_eq PySem.F.slot_tuple_eq_refl
    (fun _ hq => call_meets PySem.F.slot_dict_eq ⟨_, hl, hc⟩ PySem.F.entry_dict_eq (PySem.F.args_dict_eq_2 _ _) (dict_declines l b o items2 n2 dd2 sl2) ⟨hl, hc, ho2, hq⟩)
    (fun _ hq => call_meets PySem.F.slot_tuple_eq_refl ⟨_, ho2, rfl⟩ PySem.F.entry_tuple_eq (PySem.F.args_tuple_eq_2 _ _) (tuple_declines b l o items2 n2 dd2 sl2) ⟨ho2, hl, hc, hq⟩)
    (fun _ hq => wpAny_isSame_ref_other hne hl ho2 (by rw [hc]; simp) hq) (.inr hu) h)
end
theorem dict_declines_ne (l b : Addr) (o : Obj) (items2 : Array Value) (n2 : Nat) (dd2 : Option Addr) (sl2 : Array (Option Value)) :
    Meets (Builtin.«dict.__ne__» ⟨[.ref l, .ref b], []⟩) (fun _ R s => s.heap.get? l = some o ∧ o.cls = .type "dict" ∧ s.heap.get? b = some { cls := .type "tuple", dict := dd2, data := .seq items2 n2, slots := sl2 } ∧ R (.ok (.ret .notImplemented)) s) :=
  .of_wp fun prog w A R s h => by
    obtain ⟨hl, hc, hb, h⟩ := h
    have t1 : s.TypeIs (.ref l) "dict" := ⟨_, hl, hc⟩
    have t2 : s.TypeIs (.ref b) "tuple" := ⟨_, hb, rfl⟩
    show wpAny _ _ (Builtin.Dict.dictSlotArgs "__ne__" ⟨[.ref l, .ref b], []⟩ >>= _) _ _ s
    refine wpAny_bind ?_
    unfold Builtin.Dict.dictSlotArgs
    refine wpAny_bind (PySem.wpAny_notOrdered_dict t1 ?_)
    show wpAny _ _ (pure (Value.ref l, Value.ref b)) _ _ s
    refine wpAny_pure ?_
    refine wpAny_bind (wpAny_isInstance (T := "tuple") (U := "dict") (b := false) t2 PySem.F.sub_tuple_dict ?_)
    simp only [Bool.not_false, if_true]
    exact wpAny_bind (wpAny_rule (wpAny_pure ⟨_, rfl, h⟩))
theorem tuple_declines_ne (l b : Addr) (o : Obj) (items : Array Value) (n : Nat) (dd : Option Addr) (sl : Array (Option Value)) :
    Meets (Builtin.«tuple.__ne__» ⟨[.ref l, .ref b], []⟩) (fun _ R s => s.heap.get? l = some { cls := .type "tuple", dict := dd, data := .seq items n, slots := sl } ∧ s.heap.get? b = some o ∧ o.cls = .type "dict" ∧ R (.ok (.ret .notImplemented)) s) :=
  .of_wp fun prog w A R s h => by
    obtain ⟨hp, g, d, tk, os⟩ := s
    obtain ⟨hl, hb, hc, h⟩ := h
    obtain ⟨oc, od, oda, os2⟩ := o
    simp only at hc
    subst hc
    have f1 := PySem.F.sub_dict_tuple
    wp_walk using wpAny_loadPart' hl, wpAny_loadPart' hb
    exact ⟨_, rfl, h⟩
section
variable {A : Around} {s : Shared}
theorem rc_dict_tuple_ne {l b : Addr} {o : Obj} {items2 : Array Value} (hl : s.heap.get? l = some o) (hc : o.cls = .type "dict") (hb : s.heap.IsTuple b items2) (hu : A.units < cLine) : SeqAt.RcNeAt A s (.ref l) (.ref b) true := fun prog w E Q h => by
  obtain ⟨⟨cls2, dd2, data2, sl2⟩, ho2, hc2, n2, hd2⟩ := id hb
  simp only at hc2 hd2
  subst hc2 hd2
  have hne : l ≠ b := fun z => by
    subst z
    rw [hl] at ho2
    cases ho2
    exact absurd hc (by simp)
  exact (PySem.SeqAt.rc_ne_decline_or (k := false) ⟨_, hl, hc⟩ ⟨_, ho2, rfl⟩ (by decide) PySem.F.sub_tuple_dict PySem.F.slot_dict_ne PySem.F.slot_tuple_ne_refl
    (fun _ hq => call_meets PySem.F.slot_dict_ne ⟨_, hl, hc⟩ PySem.F.entry_dict_ne (PySem.F.args_dict_ne_2 _ _) (dict_declines_ne l b o items2 n2 dd2 sl2) ⟨hl, hc, ho2, hq⟩)
    (fun _ hq => call_meets PySem.F.slot_tuple_ne_refl ⟨_, ho2, rfl⟩ PySem.F.entry_tuple_ne (PySem.F.args_tuple_ne_2 _ _) (tuple_declines_ne b l o items2 n2 dd2 sl2) ⟨ho2, hl, hc, hq⟩)
    (fun _ hq => wpAny_isSame_ref_other hne hl ho2 (by rw [hc]; simp) hq) (.inr hu) h)
end
end DL
end
section
namespace DL
open PySem PySem.Spec PyProof.Rows L2
theorem tuple_once (l : Addr) (items : Array Value) (n : Nat) (dd : Option Addr) (sl : Array (Option Value)) (u : Tok) :
    Meets (Builtin.«tuple.__mul__» ⟨[.ref l, .int 1 u], []⟩) (fun _ R s => s.heap.get? l = some { cls := .type "tuple", dict := dd, data := .seq items n, slots := sl } ∧
      R (.ok (.ret (Value.ref l))) s) :=
  .of_wp fun prog w A R s h => by
    obtain ⟨hp, g, d, tk, os⟩ := s
    obtain ⟨hl, h⟩ := h
    have f1 := AutoSeq1.idx_int
    have c1 : (items.isEmpty || (1 : Int) == 1) = true := by simp
    wp_walk using wpAny_loadPart' hl
    repeat (first
      | (refine wpAny_ite_true (decide_eq_true c1) ?_; wp_walk using wpAny_loadPart' hl)
      | (refine wpAny_ite_true c1 ?_; wp_walk using wpAny_loadPart' hl))
    exact ⟨_, rfl, h⟩
section
variable {X : Cx}
theorem op_once {pins : List (Addr × Obj)} {s : Shared} {σ : L2.St} {H : Hp} {v u : Value} {Q : VK} {l : Addr} {xs : List V} (I : Inv X pins σ H s) (rx : RelV (.ref l) v) (ry : RelV (.int 1) u) (hT : SqT X.K H l xs) (q : Q (.ref l) H) : wpAny (model X.prog X.w) X.A (binaryOp .Mult v u) (EP X pins σ Q) X.xe s := by
  cases rx
  obtain ⟨t, rfl⟩ := ry
  obtain ⟨its, r, ⟨⟨cls, dd, data, sl⟩, ho, hc, n, hd⟩, hs⟩ := I.tuple hT
  simp only at hc hd
  subst hc hd
  refine wpAny_binaryOp_repeat_ref (T := "tuple") (U := "int") (by decide) ⟨_, ho, rfl⟩ (fun s' => typeIs_int s' 1 t) noFill_tuple_mul PySem.F.fills_int_mul PySem.F.slot_int_rmul repeat_tuple PySem.F.slot_int_index.lookup
    (call_meets PySem.F.slot_int_rmul (typeIs_int s 1 t) PySem.F.entry_int_rmul (PySem.F.args_int_rmul_2 _ _) (int_rmul_tuple 1 t l its.toArray n dd sl)
      ⟨ho, rfl, ⟨_, ho, rfl⟩, call_meets PySem.F.slot_tuple_mul ⟨_, ho, rfl⟩ PySem.F.entry_tuple_mul (PySem.F.args_tuple_mul_2 _ _) (tuple_once l its.toArray n dd sl t) ⟨ho, ?_⟩⟩)
  exact ⟨.ref l, H, I, rfl, q⟩
end
theorem rep_once (ds : List PyData) : rep 1 ds = ds := by
  simp [rep]
end DL
end
section
namespace DL
open PySem PySem.Spec PyProof.Rows L2
theorem tuple_never (l : Addr) (items : Array Value) (n : Nat) (dd : Option Addr) (sl : Array (Option Value)) (u : Tok) (c1 : items.isEmpty = false) :
    Meets (Builtin.«tuple.__mul__» ⟨[.ref l, .int 0 u], []⟩) (fun _ R s => s.heap.get? l = some { cls := .type "tuple", dict := dd, data := .seq items n, slots := sl } ∧
      R (.ok (.ret (Value.ref s.heap.objs.size))) { s with heap := s.heap.push { cls := Value.type "tuple", data := Data.seq #[] }, toks := s.toks }) :=
  .of_wp fun prog w A R s h => by
    obtain ⟨hp, g, d, tk, os⟩ := s
    obtain ⟨hl, h⟩ := h
    have f1 := AutoSeq1.idx_int
    have c2 : (items.isEmpty || (0 : Int) == 1) = false := by rw [c1]; rfl
    wp_walk using wpAny_loadPart' hl
    repeat (first
      | (refine wpAny_ite_false (decide_eq_false (by rw [c2]; exact Bool.false_ne_true)) ?_; wp_walk using wpAny_loadPart' hl)
      | (refine wpAny_ite_false (by rw [c2]; exact Bool.false_ne_true) ?_; wp_walk using wpAny_loadPart' hl))
    exact ⟨_, rfl, h⟩
section
variable {X : Cx}
theorem op_never {pins : List (Addr × Obj)} {s : Shared} {σ : L2.St} {H : Hp} {v u : Value} {Q : VK} {l : Addr} {xs : List V} (I : Inv X pins σ H s) (rx : RelV (.ref l) v) (ry : RelV (.int 0) u) (hT : SqT X.K H l xs) (hne : xs ≠ []) (q : ∀ p, H p = none → Q (.ref p) (upd H p (.tup []))) : wpAny (model X.prog X.w) X.A (binaryOp .Mult v u) (EP X pins σ Q) X.xe s := by
  cases rx
  obtain ⟨t, rfl⟩ := ry
  obtain ⟨its, r, ⟨⟨cls, dd, data, sl⟩, ho, hc, n, hd⟩, hs⟩ := I.tuple hT
  simp only at hc hd
  subst hc hd
  have hi : its.toArray.isEmpty = false := by
    cases its with
    | nil => exact absurd (List.eq_nil_of_length_eq_zero r.length) hne
    | cons a b => rfl
  refine wpAny_binaryOp_repeat_ref (T := "tuple") (U := "int") (by decide) ⟨_, ho, rfl⟩ (fun s' => typeIs_int s' 0 t) noFill_tuple_mul PySem.F.fills_int_mul PySem.F.slot_int_rmul repeat_tuple PySem.F.slot_int_index.lookup
    (call_meets PySem.F.slot_int_rmul (typeIs_int s 0 t) PySem.F.entry_int_rmul (PySem.F.args_int_rmul_2 _ _) (int_rmul_tuple 0 t l its.toArray n dd sl)
      ⟨ho, rfl, ⟨_, ho, rfl⟩, call_meets PySem.F.slot_tuple_mul ⟨_, ho, rfl⟩ PySem.F.entry_tuple_mul (PySem.F.args_tuple_mul_2 _ _) (tuple_never l its.toArray n dd sl t hi) ⟨ho, ?_⟩⟩)
  refine ⟨.ref s.heap.objs.size, _, I.laid (t' := s.toks) (o := .tup []) (fun b ob q => Heap.get?_push_of_some _ q) (Nat.le_refl _) ?_, rfl, q _ (I.hok.fresh (Nat.le_refl _))⟩
  exact ⟨by rw [sizeLine_eq]; decide, _, .nil, IsTup.new _ _⟩
end
end DL
end
section
namespace DL
open PySem PySem.Spec PyProof.Rows L2
/-- the place of sys.modules is of the base -/
def HasSm (base : Heap) : Prop := ∃ o, base.get? sysModules = some o
/-- room for calls; cb: nothing is handled -/
structure RoomB (cb : Bool) (k : Nat) (A : Around) : Prop where
  hd_ : cb = true → A.handled = none
  dp : A.depth + 3 * k + 5 < recursionLimit
  un : A.units + 16 * k + 200 < cLine
theorem RoomB.of {k : Nat} {A : Around} (r : Room k A) : RoomB true k A := ⟨fun _ => r.hd, r.dp, r.un⟩
theorem RoomB.mono {cb : Bool} {j k : Nat} {A : Around} (r : RoomB cb k A) (h : j ≤ k) : RoomB cb j A := ⟨r.hd_, by have := r.dp; omega, by have := r.un; omega⟩
theorem RoomB.deeper {cb : Bool} {k : Nat} {A : Around} (r : RoomB cb (k + 1) A) (env : PySem.Env) : RoomB cb k (A.deeper env) :=
  ⟨r.hd_, by have := r.dp; show A.depth + 1 + 3 * k + 5 < _; omega, by have := r.un; show A.units + 3 + 16 * k + 200 < _; omega⟩
theorem RoomB.depth {cb : Bool} {k : Nat} {A : Around} (r : RoomB cb k A) : A.depth < recursionLimit := by have := r.dp; omega
theorem RoomB.units {cb : Bool} {k : Nat} {A : Around} (r : RoomB cb k A) : A.units + 64 < cLine := by have := r.un; omega
/-- what is known of the body that runs; cb: not within an except suite; vb: not within a try's body -/
structure SitB (cb vb : Bool) (X : Cx) (p : Par) (k : Nat) : Prop where
  calm_ : cb = true → X.calm = true
  gd : X.A.guards = some []
  rm : RoomB cb k X.A
  nd : X.N.Nodup
  ok : p.Ok X.K X.mg
  po : PassesOwn (model X.prog X.w) X.A X.env X.xe
  tk : TakesD X (fun c d σ H => p.EK σ c d H)
  nf_ : vb = true → p.fx = none
  sm : HasSm X.base
abbrev Sit (X : Cx) (p : Par) (k : Nat) : Prop := SitB true true X p k
theorem SitB.ps {cb vb : Bool} {X : Cx} {p : Par} {k : Nat} (S : SitB cb vb X p k) (σ : L2.St) : PassesAt (CXd X.K X.prog X.w) X σ (p.EK σ) := passAtD S.tk σ
theorem SitB.calm {vb : Bool} {X : Cx} {p : Par} {k : Nat} (S : SitB true vb X p k) : X.calm = true := S.calm_ rfl
theorem SitB.nf {cb : Bool} {X : Cx} {p : Par} {k : Nat} (S : SitB cb true X p k) : p.fx = none := S.nf_ rfl
def EvR (K : PySem.W.Frag) (p : Par) (te : TE) (m : XE) : Prop :=
  ∀ (B : Addr → Prop) (H : Hp) (σ : L2.St) (E : Env) (c : Sx) (P : D → Sx → Prop) (Q : VK), St0 p c B H → EnvR K p c B H σ E → m E c P p.XP →
    (∀ d c' v H', P d c' → Ev p c H c' H' → p.SI c' H' → Rep K (bm p B c') H' v d → Q v H') → te σ H Q
def EvT (K : PySem.W.Frag) (p : Par) (tt : TT) (m : XT) : Prop :=
  ∀ (B : Addr → Prop) (H : Hp) (σ : L2.St) (E : Env) (c : Sx) (P : Bool → Sx → Prop) (Q : Bool → Hp → Prop), St0 p c B H → EnvR K p c B H σ E → m E c P p.XP →
    (∀ b c' H', P b c' → Ev p c H c' H' → p.SI c' H' → Q b H') → tt σ H Q
def EvA (K : PySem.W.Frag) (p : Par) (ta : TA) (m : XA) : Prop :=
  ∀ (B : Addr → Prop) (H : Hp) (σ : L2.St) (E : Env) (c : Sx) (P : List D → Sx → Prop) (Q : List V → Hp → Prop), St0 p c B H → EnvR K p c B H σ E → m E c P p.XP →
    (∀ ds c' vs H', P ds c' → Ev p c H c' H' → p.SI c' H' → Reps K (bm p B c') H' vs ds → Q vs H') → ta σ H Q
structure PD (X : Cx) (p : Par) (e : Expr) (m : XE) : Prop where
  ex : ∃ te, PE X e te ∧ EvR X.K p te m
structure PDT (X : Cx) (p : Par) (e : Expr) (m : XT) : Prop where
  ex : ∃ tt, PT X e tt ∧ EvT X.K p tt m
structure PDW (X : Cx) (p : Par) (e : Expr) (m : XT) : Prop where
  ex : ∃ tt, PW X e tt ∧ EvT X.K p tt m
structure PDA (X : Cx) (p : Par) (es : List Expr) (m : XA) : Prop where
  ex : ∃ ta, PA X es ta ∧ EvA X.K p ta m
section
variable {X : Cx} {p : Par} {k : Nat} {K : PySem.W.Frag}
theorem pd_var (i : Nat) {x : Str} {pos : Pos} (hN : X.N[i]? = some x := by rfl) (hv : Vis X.env.scope x := by first | exact Or.inl rfl | exact Or.inr (Or.inl rfl) | exact Or.inr (Or.inr rfl))
    (hd : (x == ("__debug__" : Str)) = false := by decide) (hcd : (x == ("__classdict__" : Str)) = false := by decide) : PD X p (.Name x pos) (eVar i) := by
  refine ⟨tVar i, pe_var hN hv hd hcd, fun B H σ E c P Q s r m k => ?_⟩
  unfold eVar at m
  cases e : E[i]? with
  | none => rw [e] at m; exact m.elim
  | some y =>
    rw [e] at m
    obtain ⟨z, h1, h2⟩ := r.at_ i y e
    cases h2 with
    | unk _ => exact m.elim
    | val q => exact ⟨_, h1, k _ _ _ H m Ev.refl s.si q⟩
    | own _ _ _ _ _ _ => exact m.elim
    | stm => exact m.elim
    | scr _ => exact m.elim
theorem ev_con {v : V} {d : D} (h : ∀ B H, Rep K B H v d) : EvR K p (tC v) (eCon d) := fun B H σ E c P Q s r m k => k d _ v H m Ev.refl s.si (h _ H)
theorem pd_int {i j pos} : PD X p (.Constant (.int i) j pos) (eCon (.int i)) := ⟨_, pe_int, ev_con fun _ _ => .int i⟩
theorem pd_bl {b j pos} : PD X p (.Constant (.bool b) j pos) (eCon (.bool b)) := ⟨_, pe_bl, ev_con fun _ _ => .bl b⟩
theorem pd_non {j pos} : PD X p (.Constant .none j pos) (eCon .none) := ⟨_, pe_non, ev_con fun _ _ => .non⟩
theorem pd_str {x j pos} : PD X p (.Constant (.str x) j pos) (eCon (.str x)) := ⟨_, pe_str, ev_con fun _ _ => .str x⟩
/-- a constant of the module -/
theorem pd_glob {x : Str} {i : Int} {pos : Pos} (hm : ∃ t, X.mg x = some (.int i t)) (hg : Gl X x := by rfl) (hd : (x == ("__debug__" : Str)) = false := by decide) : PD X p (.Name x pos) (eCon (.int i)) := by
  obtain ⟨t, hm⟩ := hm
  exact ⟨_, pe_glob (v := .int i) hg hm ⟨t, rfl⟩ hd, ev_con fun _ _ => .int i⟩
/-- a two-place operation on values that are data -/
def rD2 (K : PySem.W.Frag) (f : D → D → W D) : R2 := fun x y H Q => ∃ (B : Addr → Prop) (d e : D) (c : Sx) (P : D → Sx → Prop) (Xp : Exn → Sx → Prop),
  (∀ a, B a → H a ≠ none) ∧ Rep K B H x d ∧ Rep K B H y e ∧ f d e c P Xp ∧ ∀ z v H', P z c → All H H' → Rep K B H' v z → Q v H'
def rD1 (K : PySem.W.Frag) (f : D → W D) : V → Hp → VK → Prop := fun x H Q => ∃ (B : Addr → Prop) (d : D) (c : Sx) (P : D → Sx → Prop) (Xp : Exn → Sx → Prop),
  (∀ a, B a → H a ≠ none) ∧ Rep K B H x d ∧ f d c P Xp ∧ ∀ z v H', P z c → All H H' → Rep K B H' v z → Q v H'
def rC1 (K : PySem.W.Frag) (f : D → W D) : List V → Hp → VK → Prop := fun xs H Q => ∃ x, xs = [x] ∧ rD1 K f x H Q
def rC2 (K : PySem.W.Frag) (f : D → D → W D) : List V → Hp → VK → Prop := fun xs H Q => ∃ x y, xs = [x, y] ∧ rD2 K f x y H Q
theorem ev_bnd {ta tb : TE} {ma mb : XE} {r : R2} {f : D → D → W D} (ok : p.Ok K X.mg) (hr : ∀ x y H Q, rD2 K f x y H Q → r x y H Q) (ha : EvR K p ta ma) (hb : EvR K p tb mb) :
    EvR K p (tOp r ta tb) (fun E => bnd (ma E) fun x => bnd (mb E) fun y => f x y) := by
  intro B H σ E c P Q s re m k
  refine ha B H σ E _ _ _ s re m fun d c1 v H1 m1 e1 s1 r1 => ?_
  have st1 := s.go e1 s1
  refine hb B H1 σ E _ _ _ st1 (re.go s e1) m1 fun d2 c2' v2 H2 m2 e2 s2 r2 => ?_
  have st2 := st1.go e2 s2
  refine hr _ _ _ _ ⟨_, d, d2, _, P, p.XP, st2.trk, r1.tr (st1.up e2), r2, m2, fun z v3 H3 pz a3 r3 => ?_⟩
  exact k z _ v3 H3 pz (e1.trans (e2.trans a3.ev)) (st2.all ok a3) r3
theorem ev_bnd1 {ta : TE} {ma : XE} {r : V → Hp → VK → Prop} {f : D → W D} (ok : p.Ok K X.mg) (hr : ∀ x H Q, rD1 K f x H Q → r x H Q) (ha : EvR K p ta ma) :
    EvR K p (tUn r ta) (fun E => bnd (ma E) f) := by
  intro B H σ E c P Q s re m k
  refine ha B H σ E _ _ _ s re m fun d c1 v H1 m1 e1 s1 r1 => ?_
  have st1 := s.go e1 s1
  exact hr _ _ _ ⟨_, d, _, P, p.XP, st1.trk, r1, m1, fun z v3 H3 pz a3 r3 => k z _ v3 H3 pz (e1.trans a3.ev) (st1.all ok a3) r3⟩
theorem lay_of {d : D} (h : SeqAt.shaped d = true) : PyData.canLay0 d = true := by
  unfold SeqAt.shaped at h
  exact (Bool.and_eq_true_iff.mp h).1
/-- fresh tuples, fresh lists -/
theorem rep_tup {B : Addr → Prop} {H : Hp} {q : Addr} {xs : List V} {ds : List D} (hq : H q = none) (r : Reps K B H xs ds) : Rep K B (upd H q (.tup xs)) (.ref q) (.tuple ds) :=
  .tup (SqT.of upd_same) (r.mono (All.new hq).ext)
theorem rep_lst {B : Addr → Prop} {H : Hp} {q : Addr} {xs : List V} {ds : List D} (hb : ∀ a, B a → H a ≠ none) (hq : H q = none) (r : Reps K B H xs ds) : Rep K B (upd H q (.lst xs)) (.ref q) (.list ds) :=
  .lst upd_same (fun z => hb q z hq) (r.mono (All.new hq).ext)
theorem small_line {n : Nat} (h : small n) : n ≤ sizeLine := Nat.le_trans h (by rw [sizeLine_eq]; decide)
theorem small_lt {n : Nat} (h : small n) : n < sizeLine := Nat.lt_of_le_of_lt h (by rw [sizeLine_eq]; decide)
theorem op_addD : OpR X (binaryOp .Add) (rD2 X.K opAdd) := by
  intro pins s σ H x y v u Q I rx ry h
  obtain ⟨_, d, e, c, P, Xp, hb, r1, r2, m, k⟩ := h
  cases r1 with
  | int i =>
    cases r2 with
    | int j => exact op_add pins s σ H _ _ v u Q I rx ry ⟨i, j, rfl, rfl, k _ _ H m All.refl (.int _)⟩
    | _ => exact m.elim
  | bl i =>
    cases r2 with
    | int j =>
      obtain ⟨tk, rfl⟩ := ry
      cases rx
      exact PySem.IntBool.add_bool_int ⟨.int (DL.b2i i + j), H, I.tok _, ⟨_, rfl⟩, k _ _ H m All.refl (.int _)⟩
    | _ => exact m.elim
  | str i =>
    cases r2 with
    | str j =>
      obtain ⟨hz, m⟩ := m
      exact op_add_str pins s σ H _ _ v u Q I rx ry ⟨i, j, rfl, rfl, small_line hz, k _ _ H m All.refl (.str _)⟩
    | _ => exact m.elim
  | tup q1 s1 =>
    cases r2 with
    | tup q2 s2 =>
      obtain ⟨hz, m⟩ := m
      have l1 := s1.length
      have l2 := s2.length
      refine op_catA pins s σ H _ _ v u Q I rx ry ⟨_, _, _, _, rfl, rfl, q1, q2, by rw [l1, l2]; exact small_line hz, fun z => ?_, fun n z => ?_, fun n n2 q hq => ?_⟩
      · subst z
        cases s1
        exact k _ _ H m All.refl (.tup q2 s2)
      · subst z
        cases s2
        rw [List.append_nil] at m
        exact k _ _ H m All.refl (.tup q1 s1)
      · exact k _ _ _ m (All.new hq) (rep_tup hq (s1.append s2))
    | _ => exact m.elim
  | lst q1 b1 s1 =>
    cases r2 with
    | lst q2 b2 s2 =>
      obtain ⟨hz, m⟩ := m
      have l1 := s1.length
      have l2 := s2.length
      exact op_cat pins s σ H _ _ v u Q I rx ry ⟨_, _, _, _, rfl, rfl, q1, q2, by rw [l1, l2]; exact small_line hz, fun q hq => k _ _ _ m (All.new hq) (rep_lst hb hq (s1.append s2))⟩
    | _ => exact m.elim
  | _ => exact m.elim
theorem op_subD : OpR X (binaryOp .Sub) (rD2 X.K opSub) := by
  intro pins s σ H x y v u Q I rx ry h
  obtain ⟨_, d, e, c, P, Xp, hb, r1, r2, m, k⟩ := h
  cases r1 with
  | int i =>
    cases r2 with
    | int j => exact op_sub pins s σ H _ _ v u Q I rx ry ⟨i, j, rfl, rfl, k _ _ H m All.refl (.int _)⟩
    | _ => exact m.elim
  | bl i =>
    cases r2 with
    | int j =>
      obtain ⟨tk, rfl⟩ := ry
      cases rx
      exact PySem.IntBool.sub_bool_int ⟨.int (DL.b2i i - j), H, I.tok _, ⟨_, rfl⟩, k _ _ H m All.refl (.int _)⟩
    | _ => exact m.elim
  | _ => exact m.elim
theorem op_mulD : OpR X (binaryOp .Mult) (rD2 X.K opMul) := by
  intro pins s σ H x y v u Q I rx ry h
  obtain ⟨_, d, e, c, P, Xp, hb, r1, r2, m, k⟩ := h
  cases r1 with
  | int i =>
    cases r2 with
    | int j => exact op_mul pins s σ H _ _ v u Q I rx ry ⟨i, j, rfl, rfl, m.1, k _ _ H m.2 All.refl (.int _)⟩
    | _ => exact m.elim
  | tup q1 s1 =>
    cases r2 with
    | int j =>
      obtain ⟨⟨h0, h1, h2, h3⟩, m⟩ := m
      have l1 := s1.length
      by_cases hj : j = 1
      · subst hj
        rw [rep_once] at m
        exact op_once I rx ry q1 (k _ _ H m All.refl (.tup q1 s1))
      by_cases hj0 : j = 0
      · subst hj0
        exact op_never I rx ry q1 (fun z => by subst z; cases s1; exact h0 rfl) (fun q hq => k _ _ _ m (All.new hq) (rep_tup hq .nil))
      refine op_repT pins s σ H _ _ v u Q I rx ry ⟨_, j, _, rfl, rfl, q1, fun z => ?_, by omega, h2, by rw [l1]; exact h3, fun q hq => k _ _ _ m (All.new hq) (rep_tup hq (s1.rep _))⟩
      subst z
      cases s1
      exact h0 rfl
    | _ => exact m.elim
  | lst q1 b1 s1 =>
    cases r2 with
    | int j =>
      obtain ⟨⟨h0, h1, h2⟩, m⟩ := m
      have l1 := s1.length
      have hj : j.toNat ≤ 1000 := by omega
      have hm : (_ : List V).length * j.toNat ≤ 1000 * 1000 := Nat.mul_le_mul (by rw [l1]; exact h2) hj
      exact op_rep pins s σ H _ _ v u Q I rx ry ⟨_, j, _, rfl, rfl, q1, by omega, by omega, Nat.le_trans hm (by rw [sizeLine_eq]; decide), fun q hq => k _ _ _ m (All.new hq) (rep_lst hb hq (s1.rep _))⟩
    | _ => exact m.elim
  | _ => exact m.elim
theorem op_fdivD : OpR X (binaryOp .FloorDiv) (rD2 X.K opFdiv) := by
  intro pins s σ H x y v u Q I rx ry h
  obtain ⟨_, d, e, c, P, Xp, hb, r1, r2, m, k⟩ := h
  cases r1 with
  | int i =>
    cases r2 with
    | int j => exact op_fdivW pins s σ H _ _ v u Q I rx ry ⟨i, j, rfl, rfl, ⟨m.1.1, (Nat.log2_lt (by have := m.1.1; omega)).mpr (Nat.lt_of_lt_of_le (show j.natAbs < 2 ^ 63 by have := m.1.2; have := m.1.1; omega) (Nat.pow_le_pow_right (by decide) (by decide)))⟩, k _ _ H m.2 All.refl (.int _)⟩
    | _ => exact m.elim
  | _ => exact m.elim
theorem op_modD : OpR X (binaryOp .Mod) (rD2 X.K opMod) := by
  intro pins s σ H x y v u Q I rx ry h
  obtain ⟨_, d, e, c, P, Xp, hb, r1, r2, m, k⟩ := h
  cases r1 with
  | int i =>
    cases r2 with
    | int j => exact op_mod pins s σ H _ _ v u Q I rx ry ⟨i, j, rfl, rfl, m.1, k _ _ H m.2 All.refl (.int _)⟩
    | _ => exact m.elim
  | _ => exact m.elim
theorem op_powD : OpR X (binaryOp .Pow) (rD2 X.K opPow) := by
  intro pins s σ H x y v u Q I rx ry h
  obtain ⟨_, d, e, c, P, Xp, hb, r1, r2, m, k⟩ := h
  cases r1 with
  | int i =>
    cases r2 with
    | int j => exact op_pow pins s σ H _ _ v u Q I rx ry ⟨i, j, rfl, rfl, ⟨m.1.1, Int.le_trans m.1.2.1 (by decide), m.1.2.2⟩, k _ _ H m.2 All.refl (.int _)⟩
    | _ => exact m.elim
  | _ => exact m.elim
theorem op_shlD : OpR X (binaryOp .LShift) (rD2 X.K opShl) := by
  intro pins s σ H x y v u Q I rx ry h
  obtain ⟨_, d, e, c, P, Xp, hb, r1, r2, m, k⟩ := h
  cases r1 with
  | int i =>
    cases r2 with
    | int j => exact op_shl pins s σ H _ _ v u Q I rx ry ⟨i, j, rfl, rfl, ⟨m.1.1, Int.le_trans m.1.2.1 (by decide), m.1.2.2⟩, k _ _ H m.2 All.refl (.int _)⟩
    | _ => exact m.elim
  | _ => exact m.elim
def opS : Op → Operator
  | .add => .Add
  | .sub => .Sub
  | .mul => .Mult
  | .fdiv => .FloorDiv
  | .mod => .Mod
  | .pow => .Pow
  | .shl => .LShift
theorem op_binD : ∀ o : Op, OpR X (binaryOp (opS o)) (rD2 X.K (opBin o))
  | .add => op_addD
  | .sub => op_subD
  | .mul => op_mulD
  | .fdiv => op_fdivD
  | .mod => op_modD
  | .pow => op_powD
  | .shl => op_shlD
theorem pd_bin {cb vb : Bool} (S : SitB cb vb X p k) (o : Op) {a b : Expr} {ma mb : XE} {pos : Pos} (ha : PD X p a ma) (hb : PD X p b mb) : PD X p (.BinOp a (opS o) b pos) (eBin o ma mb) := by
  obtain ⟨ta, a1, a2⟩ := ha.ex
  obtain ⟨tb, b1, b2⟩ := hb.ex
  exact ⟨_, pe_op (op_binD o) a1 b1, ev_bnd S.ok (fun _ _ _ _ h => h) a2 b2⟩
theorem un_negD : UnR X (unaryOp .USub) (rD1 X.K opNeg) := by
  intro pins s σ H x v Q I rx h
  obtain ⟨_, d, c, P, Xp, hb, r1, m, k⟩ := h
  cases r1 with
  | int i => exact un_neg pins s σ H _ v Q I rx ⟨i, rfl, k _ _ H m All.refl (.int _)⟩
  | _ => exact m.elim
theorem pd_neg {cb vb : Bool} (S : SitB cb vb X p k) {a : Expr} {ma : XE} {pos : Pos} (ha : PD X p a ma) : PD X p (.UnaryOp .USub a pos) (eNeg ma) := by
  obtain ⟨ta, a1, a2⟩ := ha.ex
  exact ⟨_, pe_un un_negD a1, ev_bnd1 S.ok (fun _ _ _ h => h) a2⟩
def cmpD (o : Cmp) (x y : D) : W D := bnd (opCmp o x y) fun c => ret (.bool c)
def cmpS : Cmp → CmpOp
  | .eq => .Eq
  | .ne => .NotEq
  | .lt => .Lt
  | .le => .LtE
  | .gt => .Gt
  | .ge => .GtE
  | .isN => .Is
  | .notN => .IsNot
theorem rep_non {B : Addr → Prop} {H : Hp} {v : V} {d : D} (r : Rep K B H v d) : decide (v = .non) = isNone d := by
  cases r <;> rfl
theorem nil_sizes {B : Addr → Prop} {pins : List (Addr × Obj)} {σ : L2.St} {H : Hp} {s : Shared} {x y : V} {v u : Value} {ds : List D} (I : Inv X pins σ H s) (rx : RelV x v) (ry : RelV y u) (r1 : Rep X.K B H x (.list ds)) (r2 : Rep X.K B H y (.list [])) :
    ∃ a b its its2, v = .ref a ∧ u = .ref b ∧ s.heap.IsList a its ∧ s.heap.IsList b its2 ∧ its.size = ds.length ∧ its2.size = 0 := by
  cases r1 with
  | lst e1 n1 q1 =>
    cases r2 with
    | lst e2 n2 q2 =>
      obtain ⟨its, v1, p1, _⟩ := I.list (.inl (.inl e1))
      obtain ⟨its2, v2, p2, _⟩ := I.list (.inl (.inl e2))
      refine ⟨_, _, its.toArray, its2.toArray, rx, ry, p1.isList, p2.isList, ?_, ?_⟩
      · rw [List.size_toArray, ← v1.length, q1.length]
      · rw [List.size_toArray, ← v2.length, q2.length]
        rfl
theorem eq_nilA {B : Addr → Prop} {pins : List (Addr × Obj)} {σ : L2.St} {H : Hp} {s : Shared} {x y : V} {v u : Value} {ds : List D} {Q : VK} (I : Inv X pins σ H s) (rx : RelV x v) (ry : RelV y u) (r1 : Rep X.K B H x (.list ds)) (r2 : Rep X.K B H y (.list [])) (hu : X.A.units < cLine)
    (q : Q (.bl (PyData.eqv (.list ds) (.list []))) H) : wpAny (model X.prog X.w) X.A (compareOp .Eq v u) (EP X pins σ Q) X.xe s := by
  obtain ⟨a, b, its, its2, rfl, rfl, i1, i2, z1, z2⟩ := nil_sizes I rx ry r1 r2
  cases ds with
  | nil => exact SeqAt.RcAt.lists (e := fun _ => true) i1 i2 (by rw [z1, z2]; rfl) hu (fun j h1 _ => absurd h1 (by rw [z1]; exact Nat.not_lt_zero j)) _ _ _ _ ⟨.bl true, H, I, by rw [z1]; rfl, q⟩
  | cons d ds => exact SeqAt.RcAt.lists_lengths i1 i2 (by rw [z1, z2]; rfl) hu _ _ _ _ ⟨.bl false, H, I, rfl, q⟩
theorem ne_nilA {B : Addr → Prop} {pins : List (Addr × Obj)} {σ : L2.St} {H : Hp} {s : Shared} {x y : V} {v u : Value} {ds : List D} {Q : VK} (I : Inv X pins σ H s) (rx : RelV x v) (ry : RelV y u) (r1 : Rep X.K B H x (.list ds)) (r2 : Rep X.K B H y (.list [])) (hu : X.A.units < cLine)
    (q : Q (.bl (!PyData.eqv (.list ds) (.list []))) H) : wpAny (model X.prog X.w) X.A (compareOp .NotEq v u) (EP X pins σ Q) X.xe s := by
  obtain ⟨a, b, its, its2, rfl, rfl, i1, i2, z1, z2⟩ := nil_sizes I rx ry r1 r2
  cases ds with
  | nil => exact SeqAt.RcNeAt.lists (e := fun _ => true) i1 i2 (by rw [z1, z2]; rfl) hu (fun j h1 _ => absurd h1 (by rw [z1]; exact Nat.not_lt_zero j)) _ _ _ _ ⟨.bl false, H, I, by rw [z1]; rfl, q⟩
  | cons d ds => exact SeqAt.RcNeAt.lists_lengths i1 i2 (by rw [z1, z2]; rfl) hu _ _ _ _ ⟨.bl true, H, I, rfl, q⟩
theorem nilT_sizes {B : Addr → Prop} {pins : List (Addr × Obj)} {σ : L2.St} {H : Hp} {s : Shared} {x y : V} {v u : Value} {ds : List D} (I : Inv X pins σ H s) (rx : RelV x v) (ry : RelV y u) (r1 : Rep X.K B H x (.tuple ds)) (r2 : Rep X.K B H y (.tuple [])) :
    ∃ a b its its2, v = .ref a ∧ u = .ref b ∧ IsTup s.heap a its ∧ IsTup s.heap b its2 ∧ its.size = ds.length ∧ its2.size = 0 := by
  cases r1 with
  | tup e1 q1 =>
    cases r2 with
    | tup e2 q2 =>
      obtain ⟨its, v1, p1, _⟩ := I.tuple e1
      obtain ⟨its2, v2, p2, _⟩ := I.tuple e2
      refine ⟨_, _, its.toArray, its2.toArray, rx, ry, p1, p2, ?_, ?_⟩
      · rw [List.size_toArray, ← v1.length, q1.length]
      · rw [List.size_toArray, ← v2.length, q2.length]
        rfl
theorem eqv_nilT (ds : List D) : PyData.eqv (.tuple ds) (.tuple []) = (ds.length == 0) := by
  cases ds <;> rfl
theorem eq_nilTA {B : Addr → Prop} {pins : List (Addr × Obj)} {σ : L2.St} {H : Hp} {s : Shared} {x y : V} {v u : Value} {ds : List D} {Q : VK} (I : Inv X pins σ H s) (rx : RelV x v) (ry : RelV y u) (r1 : Rep X.K B H x (.tuple ds)) (r2 : Rep X.K B H y (.tuple [])) (hu : X.A.units < cLine)
    (q : Q (.bl (PyData.eqv (.tuple ds) (.tuple []))) H) : wpAny (model X.prog X.w) X.A (compareOp .Eq v u) (EP X pins σ Q) X.xe s := by
  obtain ⟨a, b, its, its2, rfl, rfl, i1, i2, z1, z2⟩ := nilT_sizes I rx ry r1 r2
  refine SeqAt.RcAt.tuples (e := fun _ => true) i1 i2 hu (fun j _ h2 => absurd h2 (by rw [z2]; exact Nat.not_lt_zero j)) _ _ _ _ ⟨_, H, I, ?_, q⟩
  rw [eqv_nilT, z1, z2]
  simp
  rfl
theorem ne_nilTA {B : Addr → Prop} {pins : List (Addr × Obj)} {σ : L2.St} {H : Hp} {s : Shared} {x y : V} {v u : Value} {ds : List D} {Q : VK} (I : Inv X pins σ H s) (rx : RelV x v) (ry : RelV y u) (r1 : Rep X.K B H x (.tuple ds)) (r2 : Rep X.K B H y (.tuple [])) (hu : X.A.units < cLine)
    (q : Q (.bl (!PyData.eqv (.tuple ds) (.tuple []))) H) : wpAny (model X.prog X.w) X.A (compareOp .NotEq v u) (EP X pins σ Q) X.xe s := by
  obtain ⟨a, b, its, its2, rfl, rfl, i1, i2, z1, z2⟩ := nilT_sizes I rx ry r1 r2
  refine SeqAt.RcNeAt.tuples (e := fun _ => true) i1 i2 hu (fun j _ h2 => absurd h2 (by rw [z2]; exact Nat.not_lt_zero j)) _ _ _ _ ⟨_, H, I, ?_, q⟩
  rw [eqv_nilT, z1, z2]
  simp
  rfl
theorem eq_vsNil {B : Addr → Prop} {pins : List (Addr × Obj)} {σ : L2.St} {H : Hp} {s : Shared} {x y : V} {v u : Value} {d e : D} {Q : VK} (I : Inv X pins σ H s) (rx : RelV x v) (ry : RelV y u) (r1 : Rep X.K B H x d) (r2 : Rep X.K B H y e) (hu : X.A.units < cLine) (hv : vsNil d e = true)
    (q : Q (.bl (PyData.eqv d e)) H) : wpAny (model X.prog X.w) X.A (compareOp .Eq v u) (EP X pins σ Q) X.xe s := by
  unfold vsNil at hv
  split at hv
  · cases r1 with
    | lst e1 n1 q1 =>
      cases r2 with
      | tup e2 q2 =>
        obtain ⟨its, v1, p1, _⟩ := I.list (.inl (.inl e1))
        obtain ⟨its2, v2, p2, _⟩ := I.tuple e2
        cases (show v = _ from rx)
        cases (show u = _ from ry)
        exact SeqAt.RcAt.list_tuple p1.isList p2 hu _ _ _ _ ⟨.bl false, H, I, rfl, q⟩
  · cases r1 with
    | dct0 e1 n1 =>
      cases r2 with
      | tup e2 q2 =>
        obtain ⟨_, sm, vs, kv, o, es, ep, ho, ex, hd, _, pr, _⟩ := dk_of I.hok e1
        obtain ⟨its2, v2, p2, _⟩ := I.tuple e2
        cases (show v = _ from rx)
        cases (show u = _ from ry)
        exact rc_dict_tuple ho ex.1 p2 hu _ _ _ _ ⟨.bl false, H, I, rfl, q⟩
  · cases r1 with
    | dct1 e1 n1 q1 =>
      cases r2 with
      | tup e2 q2 =>
        obtain ⟨_, sm, vs, kv, o, es, ep, ho, ex, hd, _, pr, _⟩ := dk_of I.hok e1
        obtain ⟨its2, v2, p2, _⟩ := I.tuple e2
        cases (show v = _ from rx)
        cases (show u = _ from ry)
        exact rc_dict_tuple ho ex.1 p2 hu _ _ _ _ ⟨.bl false, H, I, rfl, q⟩
  · cases hv
theorem ne_vsNil {B : Addr → Prop} {pins : List (Addr × Obj)} {σ : L2.St} {H : Hp} {s : Shared} {x y : V} {v u : Value} {d e : D} {Q : VK} (I : Inv X pins σ H s) (rx : RelV x v) (ry : RelV y u) (r1 : Rep X.K B H x d) (r2 : Rep X.K B H y e) (hu : X.A.units < cLine) (hv : vsNil d e = true)
    (q : Q (.bl (!PyData.eqv d e)) H) : wpAny (model X.prog X.w) X.A (compareOp .NotEq v u) (EP X pins σ Q) X.xe s := by
  unfold vsNil at hv
  split at hv
  · cases r1 with
    | lst e1 n1 q1 =>
      cases r2 with
      | tup e2 q2 =>
        obtain ⟨its, v1, p1, _⟩ := I.list (.inl (.inl e1))
        obtain ⟨its2, v2, p2, _⟩ := I.tuple e2
        cases (show v = _ from rx)
        cases (show u = _ from ry)
        exact SeqAt.RcNeAt.list_tuple p1.isList p2 hu _ _ _ _ ⟨.bl true, H, I, rfl, q⟩
  · cases r1 with
    | dct0 e1 n1 =>
      cases r2 with
      | tup e2 q2 =>
        obtain ⟨_, sm, vs, kv, o, es, ep, ho, ex, hd, _, pr, _⟩ := dk_of I.hok e1
        obtain ⟨its2, v2, p2, _⟩ := I.tuple e2
        cases (show v = _ from rx)
        cases (show u = _ from ry)
        exact rc_dict_tuple_ne ho ex.1 p2 hu _ _ _ _ ⟨.bl true, H, I, rfl, q⟩
  · cases r1 with
    | dct1 e1 n1 q1 =>
      cases r2 with
      | tup e2 q2 =>
        obtain ⟨_, sm, vs, kv, o, es, ep, ho, ex, hd, _, pr, _⟩ := dk_of I.hok e1
        obtain ⟨its2, v2, p2, _⟩ := I.tuple e2
        cases (show v = _ from rx)
        cases (show u = _ from ry)
        exact rc_dict_tuple_ne ho ex.1 p2 hu _ _ _ _ ⟨.bl true, H, I, rfl, q⟩
  · cases hv
theorem op_cmpD (hu : X.A.units + 64 < cLine) : ∀ o : Cmp, OpR X (compareOp (cmpS o)) (rD2 X.K (cmpD o))
  | .eq => by
    intro pins s σ H x y v u Q I rx ry h
    obtain ⟨_, d, e, c, P, Xp, hb, r1, r2, ⟨hok, m⟩, k⟩ := h
    by_cases hs : ∃ a b, d = .str a ∧ e = .str b
    · obtain ⟨a, b, rfl, rfl⟩ := hs
      cases r1
      cases r2
      have es : decide (V.str a = V.str b) = (a == b) := by
        rw [Bool.eq_iff_iff]
        simp
      refine op_eq pins s σ H _ _ v u Q I rx ry ⟨rfl, ?_⟩
      rw [es]
      exact k _ _ H m All.refl (.bl _)
    · by_cases hz : ∃ ds, d = .list ds ∧ e = .list []
      · obtain ⟨ds, rfl, rfl⟩ := hz
        exact eq_nilA I rx ry r1 r2 (by omega) (k _ _ H m All.refl (.bl _))
      by_cases hy : ∃ ds, d = .tuple ds ∧ e = .tuple []
      · obtain ⟨ds, rfl, rfl⟩ := hy
        exact eq_nilTA I rx ry r1 r2 (by omega) (k _ _ H m All.refl (.bl _))
      have hh : vsNil d e = true ∨ (SeqAt.shaped d = true ∧ SeqAt.shaped e = true) := by
        unfold eqOk at hok
        split at hok
        · exact absurd ⟨_, _, rfl, rfl⟩ hs
        · exact absurd ⟨_, rfl, rfl⟩ hz
        · exact absurd ⟨_, rfl, rfl⟩ hy
        · exact hok
      rcases hh with hh | hh
      · exact eq_vsNil I rx ry r1 r2 (by omega) hh (k _ _ H m All.refl (.bl _))
      exact op_eqD hu pins s σ H _ _ v u Q I rx ry ⟨d, e, r1.dp (lay_of hh.1), r2.dp (lay_of hh.2), hh.1, hh.2, k _ _ H m All.refl (.bl _)⟩
  | .ne => by
    intro pins s σ H x y v u Q I rx ry h
    obtain ⟨_, d, e, c, P, Xp, hb, r1, r2, ⟨hok, m⟩, k⟩ := h
    by_cases hs : ∃ a b, d = .str a ∧ e = .str b
    · obtain ⟨a, b, rfl, rfl⟩ := hs
      cases r1
      cases r2
      have es : decide (V.str a = V.str b) = (a == b) := by
        rw [Bool.eq_iff_iff]
        simp
      refine op_ne pins s σ H _ _ v u Q I rx ry ⟨rfl, ?_⟩
      rw [es]
      exact k _ _ H m All.refl (.bl _)
    · by_cases hz : ∃ ds, d = .list ds ∧ e = .list []
      · obtain ⟨ds, rfl, rfl⟩ := hz
        exact ne_nilA I rx ry r1 r2 (by omega) (k _ _ H m All.refl (.bl _))
      by_cases hy : ∃ ds, d = .tuple ds ∧ e = .tuple []
      · obtain ⟨ds, rfl, rfl⟩ := hy
        exact ne_nilTA I rx ry r1 r2 (by omega) (k _ _ H m All.refl (.bl _))
      have hh : vsNil d e = true ∨ (SeqAt.shaped d = true ∧ SeqAt.shaped e = true) := by
        unfold eqOk at hok
        split at hok
        · exact absurd ⟨_, _, rfl, rfl⟩ hs
        · exact absurd ⟨_, rfl, rfl⟩ hz
        · exact absurd ⟨_, rfl, rfl⟩ hy
        · exact hok
      rcases hh with hh | hh
      · exact ne_vsNil I rx ry r1 r2 (by omega) hh (k _ _ H m All.refl (.bl _))
      exact op_neD hu pins s σ H _ _ v u Q I rx ry ⟨d, e, r1.dp (lay_of hh.1), r2.dp (lay_of hh.2), hh.1, hh.2, k _ _ H m All.refl (.bl _)⟩
  | .lt => by
    intro pins s σ H x y v u Q I rx ry h
    obtain ⟨_, d, e, c, P, Xp, hb, r1, r2, m, k⟩ := h
    cases r1 with
    | int i =>
      cases r2 with
      | int j => exact op_lt pins s σ H _ _ v u Q I rx ry ⟨i, j, rfl, rfl, k _ _ H m All.refl (.bl _)⟩
      | _ => exact m.elim
    | _ => exact m.elim
  | .le => by
    intro pins s σ H x y v u Q I rx ry h
    obtain ⟨_, d, e, c, P, Xp, hb, r1, r2, m, k⟩ := h
    cases r1 with
    | int i =>
      cases r2 with
      | int j => exact op_le pins s σ H _ _ v u Q I rx ry ⟨i, j, rfl, rfl, k _ _ H m All.refl (.bl _)⟩
      | _ => exact m.elim
    | _ => exact m.elim
  | .gt => by
    intro pins s σ H x y v u Q I rx ry h
    obtain ⟨_, d, e, c, P, Xp, hb, r1, r2, m, k⟩ := h
    cases r1 with
    | int i =>
      cases r2 with
      | int j => exact op_gt pins s σ H _ _ v u Q I rx ry ⟨i, j, rfl, rfl, k _ _ H m All.refl (.bl _)⟩
      | _ => exact m.elim
    | _ => cases r2 <;> exact m.elim
  | .ge => by
    intro pins s σ H x y v u Q I rx ry h
    obtain ⟨_, d, e, c, P, Xp, hb, r1, r2, m, k⟩ := h
    cases r1 with
    | int i =>
      cases r2 with
      | int j => exact op_ge pins s σ H _ _ v u Q I rx ry ⟨i, j, rfl, rfl, k _ _ H m All.refl (.bl _)⟩
      | _ => exact m.elim
    | _ => cases r2 <;> exact m.elim
  | .isN => by
    intro pins s σ H x y v u Q I rx ry h
    obtain ⟨_, d, e, c, P, Xp, hb, r1, r2, ⟨h1, m⟩, k⟩ := h
    by_cases hb2 : ∃ a b, d = .bool a ∧ e = .bool b
    · obtain ⟨a, b, rfl, rfl⟩ := hb2
      cases r1
      cases r2
      exact op_isBl pins s σ H _ _ v u Q I rx ry ⟨_, _, rfl, rfl, k _ _ H m All.refl (.bl _)⟩
    have h1 : e = .none := by
      unfold isOpOk at h1
      split at h1
      · exact absurd ⟨_, _, rfl, rfl⟩ hb2
      · exact h1
    subst h1
    cases r2
    refine op_isN pins s σ H _ _ v u Q I rx ry ⟨rfl, ?_⟩
    rw [rep_non r1, ← isOpV_none d]
    exact k _ _ H m All.refl (.bl _)
  | .notN => by
    intro pins s σ H x y v u Q I rx ry h
    obtain ⟨_, d, e, c, P, Xp, hb, r1, r2, ⟨h1, m⟩, k⟩ := h
    by_cases hb2 : ∃ a b, d = .bool a ∧ e = .bool b
    · obtain ⟨a, b, rfl, rfl⟩ := hb2
      cases r1
      cases r2
      exact op_notBl pins s σ H _ _ v u Q I rx ry ⟨_, _, rfl, rfl, k _ _ H m All.refl (.bl _)⟩
    have h1 : e = .none := by
      unfold isOpOk at h1
      split at h1
      · exact absurd ⟨_, _, rfl, rfl⟩ hb2
      · exact h1
    subst h1
    cases r2
    refine op_notN pins s σ H _ _ v u Q I rx ry ⟨rfl, ?_⟩
    rw [rep_non r1, ← isOpV_none d]
    exact k _ _ H m All.refl (.bl _)
theorem SitB.un {cb vb : Bool} (S : SitB cb vb X p k) : X.A.units + 64 < cLine := S.rm.units
theorem cmpS_mark (o : Cmp) (b : Expr) : behindInMarks (cmpS o) b = false := by cases o <;> exact nomark b
theorem pd_cmp {cb vb : Bool} (S : SitB cb vb X p k) (o : Cmp) {a b : Expr} {ma mb : XE} {pos : Pos} (ha : PD X p a ma) (hb : PD X p b mb) : PD X p (.Compare a [cmpS o] [b] pos) (eCmp o ma mb) := by
  obtain ⟨ta, a1, a2⟩ := ha.ex
  obtain ⟨tb, b1, b2⟩ := hb.ex
  exact ⟨_, pe_cmpR (op_cmpD S.un o) a1 b1 (cmpS_mark o b), ev_bnd S.ok (f := cmpD o) (fun _ _ _ _ h => h) a2 b2⟩
/-- a test from a value that is a bool -/
theorem et_bool {te : TE} {m : XE} (h : EvR K p te m) : EvT K p (tTest te) (fun E => bnd (m E) fun d => match d with | .bool b => ret b | _ => stuck) := by
  intro B H σ E c P Q s re mm k
  refine h B H σ E _ _ _ s re mm fun d c1 v H1 m1 e1 s1 r1 => ?_
  cases r1 with
  | bl b => exact ⟨b, rfl, k b _ H1 m1 e1 s1⟩
  | _ => exact m1.elim
def tBool (a : XE) : XT := fun E => bnd (a E) fun d => match d with | .bool b => ret b | _ => stuck
theorem pt_cmpD {cb vb : Bool} (S : SitB cb vb X p k) (o : Cmp) {a b : Expr} {ma mb : XE} {pos : Pos} (ha : PD X p a ma) (hb : PD X p b mb) : PDT X p (.Compare a [cmpS o] [b] pos) (tBool (eCmp o ma mb)) := by
  obtain ⟨ta, a1, a2⟩ := ha.ex
  obtain ⟨tb, b1, b2⟩ := hb.ex
  exact ⟨_, pt_cmpR (op_cmpD S.un o) a1 b1 (cmpS_mark o b), et_bool (m := eCmp o ma mb) (ev_bnd S.ok (f := cmpD o) (fun _ _ _ _ h => h) a2 b2)⟩
theorem ev_chain {ta tb tc : TE} {ma mb mc : XE} {r r' : R2} {o o' : Cmp} (ok : p.Ok K X.mg) (hr : ∀ x y H Q, rD2 K (cmpD o) x y H Q → r x y H Q) (hr' : ∀ x y H Q, rD2 K (cmpD o') x y H Q → r' x y H Q)
    (ha : EvR K p ta ma) (hb : EvR K p tb mb) (hc : EvR K p tc mc) : EvR K p (tChain r r' ta tb tc) (eChain o o' ma mb mc) := by
  intro B H σ E c P Q s re m k
  refine ha B H σ E _ _ _ s re m fun d c1 v H1 m1 e1 s1 r1 => ?_
  have st1 := s.go e1 s1
  have re1 := re.go s e1
  refine hb B H1 σ E _ _ _ st1 re1 m1 fun d2 c2' v2 H2 m2 e2 s2 r2 => ?_
  have st2 := st1.go e2 s2
  have re2 := re1.go st1 e2
  refine hr _ _ _ _ ⟨_, d, d2, c2', (fun z n => ∃ c : Bool, z = .bool c ∧ (if c = true then bnd (mc E) fun z => bnd (opCmp o' d2 z) fun k' => ret (.bool k') else ret (.bool false)) n P p.XP), p.XP, st2.trk, r1.tr (st1.up e2), r2, ?_, fun z v3 H3 pz a3 r3 => ?_⟩
  · have e : (cmpD o d d2) = bnd (opCmp o d d2) fun c => ret (.bool c) := rfl
    rw [e]
    have q : ∀ (n : Sx) (P1 P2 : Bool → Sx → Prop) (Xp : Exn → Sx → Prop), (∀ b, P1 b n → P2 b n) → opCmp o d d2 n P1 Xp → opCmp o d d2 n P2 Xp := by
      intro n P1 P2 Xp hh h
      cases o with
      | eq => exact ⟨h.1, hh _ h.2⟩
      | ne => exact ⟨h.1, hh _ h.2⟩
      | lt => cases d <;> first | exact h.elim | (cases d2 <;> first | exact h.elim | exact hh _ h)
      | le => cases d <;> first | exact h.elim | (cases d2 <;> first | exact h.elim | exact hh _ h)
      | gt => cases d2 <;> first | exact h.elim | (cases d <;> first | exact h.elim | exact hh _ h)
      | ge => cases d2 <;> first | exact h.elim | (cases d <;> first | exact h.elim | exact hh _ h)
      | isN => exact ⟨h.1, hh _ h.2⟩
      | notN => exact ⟨h.1, hh _ h.2⟩
    exact q _ _ _ _ (fun b hb => ⟨b, rfl, hb⟩) m2
  · obtain ⟨c, rfl, mc'⟩ := pz
    have st3 := st2.go a3.ev (st2.all ok a3)
    have re3 := re2.go st2 a3.ev
    have e3 : Ev p _ H c2' H3 := e1.trans (e2.trans a3.ev)
    cases r3
    refine ⟨c, rfl, ?_⟩
    cases c with
    | true =>
      refine hc B H3 σ E _ _ _ st3 re3 mc' fun d4 c4' v4 H4 m4 e4 s4 r4 => ?_
      have st4 := st3.go e4 s4
      refine hr' _ _ _ _ ⟨_, d2, d4, _, P, p.XP, st4.trk, (r2.tr (st2.up a3.ev)).tr (st3.up e4), r4, m4, fun z v5 H5 pz a5 r5 => ?_⟩
      exact k z _ v5 H5 pz (e3.trans (e4.trans a5.ev)) (st4.all ok a5) r5
    | false => exact k _ _ _ H3 mc' e3 st3.si (.bl false)
theorem pd_chain {cb vb : Bool} (S : SitB cb vb X p k) (o o' : Cmp) {a b c : Expr} {ma mb mc : XE} {pos : Pos} (ha : PD X p a ma) (hb : PD X p b mb) (hc : PD X p c mc) : PD X p (.Compare a [cmpS o, cmpS o'] [b, c] pos) (eChain o o' ma mb mc) := by
  obtain ⟨ta, a1, a2⟩ := ha.ex
  obtain ⟨tb, b1, b2⟩ := hb.ex
  obtain ⟨tc, c1, c2⟩ := hc.ex
  exact ⟨_, pe_chain (op_cmpD S.un o) (op_cmpD S.un o') a1 b1 c1 (cmpS_mark o' c), ev_chain S.ok (fun _ _ _ _ h => h) (fun _ _ _ _ h => h) a2 b2 c2⟩
theorem pt_chainD {cb vb : Bool} (S : SitB cb vb X p k) (o o' : Cmp) {a b c : Expr} {ma mb mc : XE} {pos : Pos} (ha : PD X p a ma) (hb : PD X p b mb) (hc : PD X p c mc) : PDT X p (.Compare a [cmpS o, cmpS o'] [b, c] pos) (tBool (eChain o o' ma mb mc)) := by
  obtain ⟨ta, a1, a2⟩ := ha.ex
  obtain ⟨tb, b1, b2⟩ := hb.ex
  obtain ⟨tc, c1, c2⟩ := hc.ex
  exact ⟨_, pt_chain (op_cmpD S.un o) (op_cmpD S.un o') a1 b1 c1 (cmpS_mark o' c), et_bool (ev_chain S.ok (fun _ _ _ _ h => h) (fun _ _ _ _ h => h) a2 b2 c2)⟩
end
end DL
end
section
namespace DL
open PySem PySem.Spec PyProof.Rows L2
section
variable {X : Cx} {p : Par} {k : Nat} {K : PySem.W.Frag}
theorem isEmpty_reps {B : Addr → Prop} {H : Hp} {vs : List V} {ds : List D} (r : Reps K B H vs ds) : (!vs.isEmpty) = !ds.isEmpty := by
  cases r <;> rfl
theorem tru_of {B : Addr → Prop} {H : Hp} {v : V} {d : D} {n : Sx} {P : Bool → Sx → Prop} {Xp : Exn → Sx → Prop} (r : Rep K B H v d) (m : tru d n P Xp) : ∃ c, TruV K v H c ∧ P c n := by
  cases r with
  | non => exact ⟨false, rfl, m⟩
  | bl b => exact ⟨b, rfl, m⟩
  | int i => exact ⟨_, rfl, m⟩
  | str x => exact ⟨_, ⟨small_line m.1, rfl⟩, m.2⟩
  | lst e n s => exact ⟨_, Or.inl ⟨_, SqL.of e, rfl⟩, by rw [isEmpty_reps s]; exact m⟩
  | tup e s => exact ⟨_, Or.inr (Or.inl ⟨_, e, rfl⟩), by rw [isEmpty_reps s]; exact m⟩
  | _ => exact (show False from m).elim
theorem pt_tru {a : Expr} {ma : XE} (ha : PD X p a ma) (he : ∀ whole, isTrue a X.env whole = (do let v ← whole; standAt a.pos; holding [v] (truthy v)) := by intro _; rfl) : PDT X p a (tTru ma) := by
  obtain ⟨ta, a1, a2⟩ := ha.ex
  refine ⟨_, pt_truth a1 he, fun B H σ E c P Q s re m k => ?_⟩
  refine a2 B H σ E _ _ _ s re m fun d c1 v H1 m1 e1 s1 r1 => ?_
  obtain ⟨c, h1, h2⟩ := tru_of r1 m1
  exact ⟨c, h1, k c _ H1 h2 e1 s1⟩
theorem pt_notD {a : Expr} {t : XT} {pos : Pos} (ha : PDT X p a t) : PDT X p (.UnaryOp .Not a pos) (tNot t) := by
  obtain ⟨ta, a1, a2⟩ := ha.ex
  exact ⟨_, pt_not a1, fun B H σ E c P Q s re m k => a2 B H σ E _ _ _ s re m fun b c1 H1 m1 e1 s1 => k _ _ H1 m1 e1 s1⟩
theorem pd_not {a : Expr} {m : XE} {pos : Pos} (ha : PD X p a m) : PD X p (.UnaryOp .Not a pos) (eNot m) := by
  obtain ⟨ta, a1, a2⟩ := ha.ex
  refine ⟨_, pe_notT a1, fun B H σ E c P Q s re m k => ?_⟩
  refine a2 B H σ E _ _ _ s re m fun d c1 v H1 m1 e1 s1 r1 => ?_
  obtain ⟨c, h1, h2⟩ := tru_of r1 m1
  exact ⟨c, h1, k _ _ _ H1 h2 e1 s1 (.bl _)⟩
theorem et_and {t u : TT} {mt mu : XT} (h1 : EvT K p t mt) (h2 : EvT K p u mu) : EvT K p (L2.tAnd t u) (tAnd mt mu) := by
  intro B H σ E c P Q s re m k
  refine h1 B H σ E _ _ _ s re m fun b c1 H1 m1 e1 s1 => ?_
  cases b with
  | true => exact h2 B H1 σ E _ _ _ (s.go e1 s1) (re.go s e1) m1 fun b2 c2' H2 m2 e2 s2 => k b2 _ H2 m2 (e1.trans e2) s2
  | false => exact k false _ H1 m1 e1 s1
theorem et_or {t u : TT} {mt mu : XT} (h1 : EvT K p t mt) (h2 : EvT K p u mu) : EvT K p (L2.tOr t u) (tOr mt mu) := by
  intro B H σ E c P Q s re m k
  refine h1 B H σ E _ _ _ s re m fun b c1 H1 m1 e1 s1 => ?_
  cases b with
  | false => exact h2 B H1 σ E _ _ _ (s.go e1 s1) (re.go s e1) m1 fun b2 c2' H2 m2 e2 s2 => k b2 _ H2 m2 (e1.trans e2) s2
  | true => exact k true _ H1 m1 e1 s1
theorem pw_and1D {a : Expr} {t : XT} {pos : Pos} (ha : PDT X p a t) : PDW X p (.BoolOp .And [a] pos) t := by
  obtain ⟨ta, a1, a2⟩ := ha.ex
  exact ⟨_, pw_and1 a1, a2⟩
theorem pw_or1D {a : Expr} {t : XT} {pos : Pos} (ha : PDT X p a t) : PDW X p (.BoolOp .Or [a] pos) t := by
  obtain ⟨ta, a1, a2⟩ := ha.ex
  exact ⟨_, pw_or1 a1, a2⟩
theorem pw_andD {a b : Expr} {rest : List Expr} {t u : XT} {pos : Pos} (ha : PDT X p a t) (hb : PDW X p (.BoolOp .And (b :: rest) pos) u) : PDW X p (.BoolOp .And (a :: b :: rest) pos) (tAnd t u) := by
  obtain ⟨ta, a1, a2⟩ := ha.ex
  obtain ⟨tb, b1, b2⟩ := hb.ex
  exact ⟨_, pw_and a1 b1, et_and a2 b2⟩
theorem pw_orD {a b : Expr} {rest : List Expr} {t u : XT} {pos : Pos} (ha : PDT X p a t) (hb : PDW X p (.BoolOp .Or (b :: rest) pos) u) : PDW X p (.BoolOp .Or (a :: b :: rest) pos) (tOr t u) := by
  obtain ⟨ta, a1, a2⟩ := ha.ex
  obtain ⟨tb, b1, b2⟩ := hb.ex
  exact ⟨_, pw_or a1 b1, et_or a2 b2⟩
theorem PDW.pt {e : Expr} {t : XT} (h : PDW X p e t) : PDT X p e t := by
  obtain ⟨ta, a1, a2⟩ := h.ex
  exact ⟨_, a1.pt, a2⟩
theorem pd_one {op} {a : Expr} {m : XE} {pos : Pos} (ha : PD X p a m) : PD X p (.BoolOp op [a] pos) m := by
  obtain ⟨ta, a1, a2⟩ := ha.ex
  exact ⟨_, pe_one a1, a2⟩
theorem pd_and {a b : Expr} {rest : List Expr} {ma mb : XE} {pos : Pos} (ha : PD X p a ma) (hb : PD X p (.BoolOp .And (b :: rest) pos) mb) : PD X p (.BoolOp .And (a :: b :: rest) pos) (eAnd ma mb) := by
  obtain ⟨ta, a1, a2⟩ := ha.ex
  obtain ⟨tb, b1, b2⟩ := hb.ex
  refine ⟨_, pe_andT a1 b1, fun B H σ E c P Q s re m k => ?_⟩
  refine a2 B H σ E _ _ _ s re m fun d c1 v H1 m1 e1 s1 r1 => ?_
  obtain ⟨c, h1, h2⟩ := tru_of r1 m1
  refine ⟨c, h1, ?_⟩
  cases c with
  | true => exact b2 B H1 σ E _ _ _ (s.go e1 s1) (re.go s e1) h2 fun d2 c2' v2 H2 m2 e2 s2 r2 => k d2 _ v2 H2 m2 (e1.trans e2) s2 r2
  | false => exact k d _ v H1 h2 e1 s1 r1
theorem pd_if {c a b : Expr} {t : XT} {ma mb : XE} {pos : Pos} (hc : PDT X p c t) (ha : PD X p a ma) (hb : PD X p b mb) : PD X p (.IfExp c a b pos) (eIf t ma mb) := by
  obtain ⟨tc, c1, c2⟩ := hc.ex
  obtain ⟨ta, a1, a2⟩ := ha.ex
  obtain ⟨tb, b1, b2⟩ := hb.ex
  refine ⟨_, pe_ifExp c1 a1 b1, fun B H σ E c P Q s re m k => ?_⟩
  refine c2 B H σ E _ _ _ s re m fun b c1 H1 m1 e1 s1 => ?_
  cases b with
  | true => exact a2 B H1 σ E _ _ _ (s.go e1 s1) (re.go s e1) m1 fun d2 c2' v2 H2 m2 e2 s2 r2 => k d2 _ v2 H2 m2 (e1.trans e2) s2 r2
  | false => exact b2 B H1 σ E _ _ _ (s.go e1 s1) (re.go s e1) m1 fun d2 c2' v2 H2 m2 e2 s2 r2 => k d2 _ v2 H2 m2 (e1.trans e2) s2 r2
theorem pda_nil : PDA X p [] aNil := ⟨_, pa_nil, fun B H σ E c P Q s re m k => k [] _ [] H m Ev.refl s.si .nil⟩
theorem pda_cons {e : Expr} {es : List Expr} {m : XE} {r : XA} (he : PD X p e m) (hr : PDA X p es r) (hs : starEach (e :: es) X.env = (false, eval e X.env) :: starEach es X.env := by rfl) : PDA X p (e :: es) (aCons m r) := by
  obtain ⟨ta, a1, a2⟩ := he.ex
  obtain ⟨tb, b1, b2⟩ := hr.ex
  refine ⟨_, pa_cons a1 b1 hs, fun B H σ E c P Q s re m k => ?_⟩
  refine a2 B H σ E _ _ _ s re m fun d c1 v H1 m1 e1 s1 r1 => ?_
  refine b2 B H1 σ E _ _ _ (s.go e1 s1) (re.go s e1) m1 fun ds c2' vs H2 m2 e2 s2 r2 => ?_
  exact k _ _ _ H2 m2 (e1.trans e2) s2 (.cons (r1.tr ((s.go e1 s1).up e2)) r2)
theorem pd_tup {cb : Bool} {vb : Bool} (S : SitB cb vb X p k) {es : List Expr} {x1} {pos : Pos} {m : XA} (h : PDA X p es m) : PD X p (.Tuple es x1 pos) (eTup m) := by
  obtain ⟨ta, a1, a2⟩ := h.ex
  refine ⟨_, pe_tup a1, fun B H σ E c P Q s re m k => ?_⟩
  refine a2 B H σ E _ _ _ s re m fun ds c1 vs H1 m1 e1 s1 r1 => ?_
  have st1 := s.go e1 s1
  refine ⟨by rw [r1.length]; exact small_line m1.1, fun q hq => ?_⟩
  exact k _ _ _ _ m1.2 (e1.trans (All.new hq).ev) (st1.all S.ok (All.new hq)) (rep_tup hq r1)
theorem pd_lst {cb : Bool} {vb : Bool} (S : SitB cb vb X p k) {es : List Expr} {pos : Pos} {m : XA} (h : PDA X p es m) : PD X p (.List es pos) (eLst m) := by
  obtain ⟨ta, a1, a2⟩ := h.ex
  refine ⟨_, pe_lst a1, fun B H σ E c P Q s re m k => ?_⟩
  refine a2 B H σ E _ _ _ s re m fun ds c1 vs H1 m1 e1 s1 r1 => ?_
  have st1 := s.go e1 s1
  refine ⟨by rw [r1.length]; exact small_line m1.1, fun q hq => ?_⟩
  exact k _ _ _ _ m1.2 (e1.trans (All.new hq).ev) (st1.all S.ok (All.new hq)) (rep_lst st1.trk hq r1)
theorem pd_call1 {cb : Bool} {vb : Bool} (S : SitB cb vb X p k) {x : Str} {id : String} {f : D → W D} {a : Expr} {m : XE} {pn pos : Pos} (hc : CallR X (.builtin id) (rC1 X.K f)) (hm : X.mg x = none) (ha : PD X p a m) (hg : Gl X x := by rfl) (hv : bootBuiltins x = some (.builtin id) := by decide +kernel)
    (hn : x ≠ "__name__" := by decide) (hdb : (x == ("__debug__" : Str)) = false := by decide) (hs : starEach [a] X.env = (false, eval a X.env) :: starEach [] X.env := by rfl) : PD X p (.Call (.Name x pn) [a] [] pos) (fun E => bnd (m E) f) := by
  obtain ⟨ta, a1, a2⟩ := ha.ex
  refine ⟨_, pe_callB hc hg hm hv (pa_cons a1 pa_nil hs) hn hdb hs (by rfl), fun B H σ E c P Q s re m k => ?_⟩
  refine a2 B H σ E _ _ _ s re m fun d c1 v H1 m1 e1 s1 r1 => ?_
  have st1 := s.go e1 s1
  exact ⟨v, rfl, _, d, _, P, p.XP, st1.trk, r1, m1, fun z v3 H3 pz a3 r3 => k z _ v3 H3 pz (e1.trans a3.ev) (st1.all S.ok a3) r3⟩
theorem pd_callT1 {cb : Bool} {vb : Bool} (S : SitB cb vb X p k) {x : Str} {id : String} {f : D → W D} {a : Expr} {m : XE} {pn pos : Pos} (hc : CallR X (.type id) (rC1 X.K f)) (hm : X.mg x = none) (ha : PD X p a m) (hg : Gl X x := by rfl) (hv : bootBuiltins x = some (.type id) := by decide +kernel)
    (hn : x ≠ "__name__" := by decide) (hdb : (x == ("__debug__" : Str)) = false := by decide) (hs : starEach [a] X.env = (false, eval a X.env) :: starEach [] X.env := by rfl) : PD X p (.Call (.Name x pn) [a] [] pos) (fun E => bnd (m E) f) := by
  obtain ⟨ta, a1, a2⟩ := ha.ex
  refine ⟨_, pe_callTy hc hg hm hv (pa_cons a1 pa_nil hs) hn hdb hs (by rfl), fun B H σ E c P Q s re m k => ?_⟩
  refine a2 B H σ E _ _ _ s re m fun d c1 v H1 m1 e1 s1 r1 => ?_
  have st1 := s.go e1 s1
  exact ⟨v, rfl, _, d, _, P, p.XP, st1.trk, r1, m1, fun z v3 H3 pz a3 r3 => k z _ v3 H3 pz (e1.trans a3.ev) (st1.all S.ok a3) r3⟩
theorem pd_call2 {cb : Bool} {vb : Bool} (S : SitB cb vb X p k) {x : Str} {id : String} {f : D → D → W D} {a b : Expr} {m n : XE} {pn pos : Pos} (hc : CallR X (.builtin id) (rC2 X.K f)) (hm : X.mg x = none) (ha : PD X p a m) (hb : PD X p b n) (hg : Gl X x := by rfl) (hv : bootBuiltins x = some (.builtin id) := by decide +kernel)
    (hn : x ≠ "__name__" := by decide) (hdb : (x == ("__debug__" : Str)) = false := by decide) (hs : starEach [a, b] X.env = (false, eval a X.env) :: starEach [b] X.env := by rfl) (hs2 : starEach [b] X.env = (false, eval b X.env) :: starEach [] X.env := by rfl) (hpl : (backTo pos (starEach [b] X.env)).any (·.1) = false := by rfl) :
    PD X p (.Call (.Name x pn) [a, b] [] pos) (fun E => bnd (m E) fun x => bnd (n E) fun y => f x y) := by
  obtain ⟨ta, a1, a2⟩ := ha.ex
  obtain ⟨tb, b1, b2⟩ := hb.ex
  refine ⟨_, pe_callB hc hg hm hv (pa_cons a1 (pa_cons b1 pa_nil hs2) hs) hn hdb hs hpl, fun B H σ E c P Q s re m k => ?_⟩
  refine a2 B H σ E _ _ _ s re m fun d c1 v H1 m1 e1 s1 r1 => ?_
  have st1 := s.go e1 s1
  refine b2 B H1 σ E _ _ _ st1 (re.go s e1) m1 fun d2 c2' v2 H2 m2 e2 s2 r2 => ?_
  have st2 := st1.go e2 s2
  exact ⟨v, v2, rfl, _, d, d2, _, P, p.XP, st2.trk, r1.tr (st1.up e2), r2, m2, fun z v3 H3 pz a3 r3 => k z _ v3 H3 pz (e1.trans (e2.trans a3.ev)) (st2.all S.ok a3) r3⟩
theorem c_len : CallR X (.builtin "len") (rC1 X.K (bi1 .len)) := by
  intro pins s σ H xs us Q I r h
  obtain ⟨x, rfl, B, d, c, P, Xp, hb, r1, m, k⟩ := h
  cases r1 with
  | lst e n t =>
    refine call_len_seq pins s σ H _ us Q I r ⟨_, _, rfl, .inl (SqL.of e), ?_⟩
    rw [t.length]
    exact k _ _ H m All.refl (.int _)
  | tup e t =>
    refine call_len_seq pins s σ H _ us Q I r ⟨_, _, rfl, .inr e, ?_⟩
    rw [t.length]
    exact k _ _ H m All.refl (.int _)
  | str x => exact call_len_str pins s σ H _ us Q I r ⟨x, rfl, small_line m.1, k _ _ H m.2 All.refl (.int _)⟩
  | _ => exact m.elim
theorem c_abs : CallR X (.builtin "abs") (rC1 X.K (bi1 .abs)) := by
  intro pins s σ H xs us Q I r h
  obtain ⟨x, rfl, B, d, c, P, Xp, hb, r1, m, k⟩ := h
  cases r1 with
  | int i => exact call_abs pins s σ H _ us Q I r ⟨i, rfl, k _ _ H m All.refl (.int _)⟩
  | _ => exact m.elim
theorem c_min2 (hc : X.calm = true) : CallR X (.builtin "min") (rC2 X.K (bi2 .min)) := by
  intro pins s σ H xs us Q I r h
  obtain ⟨x, y, rfl, B, d, e, c, P, Xp, hb, r1, r2, m, k⟩ := h
  cases r1 with
  | int i =>
    cases r2 with
    | int j => exact call_min2 hc pins s σ H _ us Q I r ⟨i, j, rfl, k _ _ H m All.refl (.int _)⟩
    | _ => exact m.elim
  | _ => cases r2 <;> exact m.elim
theorem depth_ints : ∀ ns : List Int, PyData.depthAll (ns.map PyData.int) = 0
  | [] => by simp [PyData.depthAll]
  | a :: r => by simp [PyData.depthAll, PyData.depth, depth_ints r]
theorem sm_none {pins : List (Addr × Obj)} {σ : L2.St} {H : Hp} {s : Shared} (sm : HasSm X.base) (I : Inv X pins σ H s) : H sysModules = none := by
  obtain ⟨o, e⟩ := sm
  exact (I.bs _ _ e).2
section
variable {pins : List (Addr × Obj)} {σ : L2.St} {H : Hp} {s : Shared}
mutual
theorem rep_reads {B : Addr → Prop} (I : Inv X pins σ H s) (hn : H sysModules = none) : ∀ {v : V} {d : D} {u : Value}, plain d = true → Rep X.K B H v d → RelV v u → ∃ as, Reads s.heap u d as ∧ sysModules ∉ as
  | _, _, _, _, .non, r => by cases r; exact ⟨_, .none, by simp⟩
  | _, _, _, _, .bl b, r => by cases r; exact ⟨_, .bool b, by simp⟩
  | _, _, _, _, .int i, r => by obtain ⟨t, rfl⟩ := r; exact ⟨_, .int i t, by simp⟩
  | _, _, _, _, .str x, r => by obtain ⟨t, rfl⟩ := r; exact ⟨_, .str x t, by simp⟩
  | _, _, _, h, .lst (a := a) e n q, r => by
    cases r
    obtain ⟨its, rv, ⟨o, n, ho, hc, _, hd⟩, _⟩ := I.list (SqL.of e)
    obtain ⟨as, hr, hs⟩ := reps_reads I hn (by simpa [plain] using h) q rv
    refine ⟨_, .list ho hc hd hr, fun z => ?_⟩
    rcases List.mem_cons.mp z with z | z
    · subst z
      rw [hn] at e
      cases e
    · exact hs z
  | _, _, _, h, .tup e q, r => by
    cases r
    obtain ⟨its, rv, ⟨o, ho, hc, n, hd⟩, _⟩ := I.tuple e
    obtain ⟨as, hr, hs⟩ := reps_reads I hn (by simpa [plain] using h) q rv
    exact ⟨_, .tuple ho hc hd hr, hs⟩
  | _, _, _, _, .dct0 (a := a) e _, r => by
    cases r
    obtain ⟨_, sm, vs, kv, o, es, ep, ho, ex, hd, _, pr, _⟩ := dk_of I.hok e
    cases kv
    have h0 : es.toList = [] := by cases pr' : es.toList with | nil => rfl | cons a b => rw [pr'] at pr; cases pr
    refine ⟨_, .dict (as := []) (bs := []) ho ex.1 hd (by rw [h0]; exact .nil) (by rw [h0]; exact .nil), fun z => ?_⟩
    have : sysModules = a := by simpa using z
    rw [← this] at sm
    simp at sm
  | .ref a, .dict [(.str x, _)], _, h, .dct1 e _ q, r => by
    cases r
    obtain ⟨_, sm, vs, kv, o, es, ep, ho, ex, hd, _, pr, _⟩ := dk_of I.hok e
    cases kv with
    | @cons _ kk _ vs' hk hr =>
      cases hr
      obtain ⟨hk1, hk2⟩ := hk
      obtain ⟨as, hr, hs⟩ := rep_reads I hn (by simpa [plain] using h) q hk2
      cases pr' : es.toList with
      | nil => rw [pr'] at pr; cases pr
      | cons en rest =>
        rw [pr'] at pr
        cases pr with
        | cons p1 p2 p3 =>
          cases p3
          have hk : keyIs (.inr x) en.key = true := by
            have e2 : (Sum.inr x : Key) = kk.1 := hk1
            rw [e2]; exact p1
          have hkey : ∃ t, en.key = .str x t := by
            rcases keyIs_shape hk with ⟨i, t, z, _⟩ | ⟨y, t, z, ek⟩
            · cases z
            · cases z; exact ⟨t, ek⟩
          obtain ⟨t, ek⟩ := hkey
          refine ⟨_, .dict (as := [] ++ []) (bs := as ++ []) ho ex.1 hd (by rw [pr']; simp only [List.map_cons, List.map_nil, ek]; exact .cons (.str x t) .nil) (by rw [pr']; simp only [List.map_cons, List.map_nil, p2]; exact .cons hr .nil), fun z => ?_⟩
          simp only [List.append_nil, List.cons_append, List.nil_append, List.mem_cons] at z
          rcases z with z | z
          · rw [← z] at sm
            simp at sm
          · exact hs z
  | _, _, _, h, .exn0 _ _ _, _ => by simp [plain, xD] at h
  | _, _, _, h, .exn1 _ _ _ _ _ _, _ => by simp [plain, xD] at h
theorem reps_reads {B : Addr → Prop} (I : Inv X pins σ H s) (hn : H sysModules = none) : ∀ {vs : List V} {ds : List D} {us : List Value}, plainAll ds = true → Reps X.K B H vs ds → Vals vs us → ∃ as, ReadsAll s.heap us ds as ∧ sysModules ∉ as
  | _, _, _, _, .nil, r => by cases r; exact ⟨_, .nil, by simp⟩
  | _, _, _, h, .cons q t, r => by
    cases r with
    | cons r1 r2 =>
      simp only [plainAll, Bool.and_eq_true] at h
      obtain ⟨as, a1, a2⟩ := rep_reads I hn h.1 q r1
      obtain ⟨bs, b1, b2⟩ := reps_reads I hn h.2 t r2
      exact ⟨_, .cons a1 b1, by simp [a2, b2]⟩
end
end
theorem c_repr {cb vb : Bool} (S : SitB cb vb X p k) : CallR X (.builtin "repr") (rC1 X.K (bi1 .repr)) := by
  intro pins s σ H xs us Q I r h
  obtain ⟨x, rfl, B, d, c, P, Xp, hb, r1, ⟨⟨hs, hd, hz, hpl⟩, m⟩, kk⟩ := h
  obtain ⟨u, rfl, ru⟩ := vals1 r
  obtain ⟨as, rd, hsm⟩ := rep_reads I (sm_none S.sm I) hpl r1 ru
  have hz' : d.shown.length ≤ sizeLine := small_line hz
  have fin : ∀ (h' : Heap) (t tk : Nat), (∀ b o, s.heap.get? b = some o → h'.get? b = some o) → EP X pins σ Q (.str d.shown t) { s with heap := h', toks := tk } := fun h' t tk hk =>
    ⟨.str d.shown, H, I.kept hk, ⟨_, rfl⟩, kk _ _ H m All.refl (.str _)⟩
  cases rd with
  | none => exact PySem.P.repr_of_none (by simpa [PyData.shown] using fin s.heap s.toks (s.toks + 1) fun _ _ e => e)
  | bool b => exact PySem.P.repr_of_bool (by simpa [PyData.shown] using fin s.heap s.toks (s.toks + 1) fun _ _ e => e)
  | int i t => exact PySem.P.repr_of_int (by simpa [PyData.showable] using hs) (by simpa [PyData.shown] using fin s.heap s.toks (s.toks + 1) fun _ _ e => e)
  | str x t => exact PySem.P.repr_of_str (by simpa [PyData.shown] using fin s.heap s.toks (s.toks + 1) fun _ _ e => e) (by simpa [PyData.shown] using hz')
  | list h1 h2 h3 h4 => exact repr_of_reads' (.list h1 h2 h3 h4) hs (fun _ => hsm) S.gd (by have := S.un; omega) (fun _ _ e => e) (fun h' t tk hk => fin h' t tk hk) hz'
  | tuple h1 h2 h3 h4 => exact repr_of_reads' (.tuple h1 h2 h3 h4) hs (fun _ => hsm) S.gd (by have := S.un; omega) (fun _ _ e => e) (fun h' t tk hk => fin h' t tk hk) hz'
  | dict h1 h2 h3 h4 h5 => exact repr_of_reads' (.dict h1 h2 h3 h4 h5) hs (fun _ => hsm) S.gd (by have := S.un; omega) (fun _ _ e => e) (fun h' t tk hk => fin h' t tk hk) hz'
theorem c_str : CallR X (.type "str") (rC1 X.K (bi1 .str)) := by
  intro pins s σ H xs us Q I r h
  obtain ⟨x, rfl, B, d, c, P, Xp, hb, r1, m, k⟩ := h
  cases r1 with
  | int i => exact call_str_int pins s σ H _ us Q I r ⟨i, rfl, m.1, k _ _ H m.2 All.refl (.str _)⟩
  | str x =>
    obtain ⟨u, rfl, t, rfl⟩ := vals1 r
    exact PySem.P.str_of_str ⟨.str x, H, I, ⟨t, rfl⟩, k _ _ H m All.refl (.str _)⟩
  | bl b =>
    obtain ⟨u, rfl, ru⟩ := vals1 r
    cases ru
    exact PySem.P.str_of_bool ⟨.str (if b = true then "True" else "False" : String), H, I.tok _, ⟨_, by cases b <;> rfl⟩, k _ _ H m All.refl (.str _)⟩
  | _ => exact m.elim
theorem c_int : CallR X (.type "int") (rC1 X.K (bi1 .int)) := by
  intro pins s σ H xs us Q I r h
  obtain ⟨x, rfl, B, d, c, P, Xp, hb, r1, m, k⟩ := h
  cases r1 with
  | int i => exact call_int1 pins s σ H _ us Q I r (.inl ⟨i, rfl, k _ _ H m All.refl (.int _)⟩)
  | bl b => exact call_int1 pins s σ H _ us Q I r (.inr ⟨b, rfl, k _ _ H m All.refl (.int _)⟩)
  | _ => exact m.elim
theorem c_tuple : CallR X (.type "tuple") (rC1 X.K (bi1 .tuple)) := by
  intro pins s σ H xs us Q I r h
  obtain ⟨x, rfl, B, d, c, P, Xp, hb, r1, m, k⟩ := h
  cases r1 with
  | lst e n t => exact call_tuple_of pins s σ H _ us Q I r ⟨_, _, rfl, .inl ⟨SqL.of e, fun q hq => k _ _ _ m (All.new hq) (rep_tup hq t)⟩⟩
  | tup e t => exact call_tuple_of pins s σ H _ us Q I r ⟨_, _, rfl, .inr ⟨e, k _ _ H m All.refl (.tup e t)⟩⟩
  | _ => exact m.elim
theorem c_list : CallR X (.type "list") (rC1 X.K (bi1 .list)) := by
  intro pins s σ H xs us Q I r h
  obtain ⟨x, rfl, B, d, c, P, Xp, hb, r1, m, k⟩ := h
  cases r1 with
  | lst e n t => exact call_list_of pins s σ H _ us Q I r ⟨_, _, rfl, .inl (SqL.of e), fun q hq => k _ _ _ m (All.new hq) (rep_lst hb hq t)⟩
  | tup e t => exact call_list_of pins s σ H _ us Q I r ⟨_, _, rfl, .inr e, fun q hq => k _ _ _ m (All.new hq) (rep_lst hb hq t)⟩
  | _ => exact m.elim
def tyS : Ty → String
  | .int => "int"
  | .bool => "bool"
  | .tuple => "tuple"
  | .str => "str"
  | .list => "list"
  | .dict => "dict"
theorem sq_ty {H : Hp} {a : Addr} {xs : List V} (h : SqT K H a xs) : TyX K H (.ref a) (.type "tuple") := by
  rcases h with (h | ⟨o, h⟩) | ⟨o, its, n, h, hc, _⟩
  · exact .base (.tup h)
  · exact .fTuple h
  · exact .kTuple h hc
theorem ty_of {B : Addr → Prop} {H : Hp} {v : V} {d : D} (h : noXn d = true) (r : Rep K B H v d) : TyX K H v (.type (tyName d)) := by
  cases r with
  | non => exact .base .non
  | bl b => exact .base (.bl b)
  | int i => exact .base (.int i)
  | str x => exact .base (.str x)
  | lst e n t => exact .base (.lst e)
  | tup e t => exact sq_ty e
  | dct0 e _ => exact .base (.dK e)
  | dct1 e _ _ => exact .base (.dK e)
  | _ => exact absurd h (by simp [noXn, xD, wD, rD])
theorem kt_none : ∀ t : Ty, kitB "NoneType" (tyS t) = some (isTy t .none) := fun t => by cases t <;> decide +kernel
theorem kt_bool : ∀ t : Ty, kitB "bool" (tyS t) = some (isTy t (.bool true)) := fun t => by cases t <;> decide +kernel
theorem kt_int : ∀ t : Ty, kitB "int" (tyS t) = some (isTy t (.int 0)) := fun t => by cases t <;> decide +kernel
theorem kt_str : ∀ t : Ty, kitB "str" (tyS t) = some (isTy t (.str Str.empty)) := fun t => by cases t <;> decide +kernel
theorem kt_list : ∀ t : Ty, kitB "list" (tyS t) = some (isTy t (.list [])) := fun t => by cases t <;> decide +kernel
theorem kt_tuple : ∀ t : Ty, kitB "tuple" (tyS t) = some (isTy t (.tuple [])) := fun t => by cases t <;> decide +kernel
theorem kt_dict : ∀ t : Ty, kitB "dict" (tyS t) = some (isTy t (.dict [])) := fun t => by cases t <;> decide +kernel
theorem kit_isTy (t : Ty) (d : D) : kitB (tyName d) (tyS t) = some (isTy t d) := by
  cases d with
  | none => exact kt_none t
  | bool b => exact (kt_bool t).trans (by cases t <;> rfl)
  | int b => exact (kt_int t).trans (by cases t <;> rfl)
  | str b => exact (kt_str t).trans (by cases t <;> rfl)
  | list b => exact (kt_list t).trans (by cases t <;> rfl)
  | tuple b => exact (kt_tuple t).trans (by cases t <;> rfl)
  | dict b => exact (kt_dict t).trans (by cases t <;> rfl)
theorem pd_is {cb : Bool} {vb : Bool} (S : SitB cb vb X p k) (t : Ty) {a : Expr} {m : XE} {pn pq pos : Pos} (ha : PD X p a m) (hm : X.mg "isinstance" = none) (hmt : X.mg (tyS t : Str) = none) (hg : Gl X "isinstance" := by rfl) (hgt : Gl X (tyS t : Str) := by rfl)
    (hs : starEach [a, .Name (tyS t : Str) pq] X.env = (false, eval a X.env) :: starEach [.Name (tyS t : Str) pq] X.env := by rfl)
    (hs2 : starEach [.Name (tyS t : Str) pq] X.env = (false, eval (.Name (tyS t : Str) pq) X.env) :: starEach [] X.env := by rfl) (hpl : (backTo pos (starEach [.Name (tyS t : Str) pq] X.env)).any (·.1) = false := by rfl) :
    PD X p (.Call (.Name "isinstance" pn) [a, .Name (tyS t : Str) pq] [] pos) (eIs t m) := by
  obtain ⟨ta, a1, a2⟩ := ha.ex
  have hv : bootBuiltins (tyS t : Str) = some (.type (tyS t)) := by cases t <;> decide +kernel
  have hn : (tyS t : Str) ≠ "__name__" := by cases t <;> decide
  have hdb : ((tyS t : Str) == ("__debug__" : Str)) = false := by cases t <;> decide
  have hT : PE X (.Name (tyS t : Str) pq) (tC (.ty (tyS t))) := pe_bltn hgt hmt hv rfl hn hdb
  refine ⟨_, pe_callB call_isi hg hm (by decide +kernel) (pa_cons a1 (pa_cons hT pa_nil hs2) hs) (by decide) (by decide) hs hpl, fun B H σ E c P Q s re m k => ?_⟩
  refine a2 B H σ E _ _ _ s re m fun d c1 v H1 m1 e1 s1 r1 => ?_
  exact ⟨v, .ty (tyS t), _, _, isTy t d, rfl, .ty _, ty_of m1.1 r1, kit_ty (kit_isTy t d), k _ _ _ H1 m1.2 e1 s1 (.bl _)⟩
theorem atI_rep {B : Addr → Prop} {H : Hp} {xs : List V} {ds : List D} (t : Reps K B H xs ds) {i : Int} {d : D} (h : atI ds i = some d) : ∃ v, atI xs i = some v ∧ Rep K B H v d := by
  unfold atI at h ⊢
  rw [t.length]
  cases e : ixN ds.length i with
  | none => rw [e] at h; cases h
  | some j =>
    rw [e] at h
    exact t.get h
theorem ix_D : IxR X (rD2 X.K opIdx) := by
  intro value slice pins s σ H x y v u Q I rx ry h hs
  obtain ⟨_, d, e, c, P, Xp, hb, r1, r2, m, k⟩ := h
  cases r1 with
  | @tup a xs ds q t =>
    cases r2 with
    | int i =>
      have m' : (match L2.atI ds i with | some d => ret d | none => stuck) c P Xp := m
      cases ea : atI ds i with
      | none => rw [ea] at m'; exact m'.elim
      | some z =>
        rw [ea] at m'
        obtain ⟨w, h1, h2⟩ := atI_rep t ea
        exact ix_tup value slice pins s σ H _ _ v u Q I rx ry ⟨a, xs, i, w, rfl, rfl, q, h1, k _ _ H m' All.refl h2⟩ hs
    | _ => exact m.elim
  | @lst a xs ds q n t =>
    cases r2 with
    | int i =>
      have m' : (match L2.atI ds i with | some d => ret d | none => stuck) c P Xp := m
      cases ea : atI ds i with
      | none => rw [ea] at m'; exact m'.elim
      | some z =>
        rw [ea] at m'
        obtain ⟨w, h1, h2⟩ := atI_rep t ea
        exact ix_list value slice pins s σ H _ _ v u Q I rx ry ⟨a, xs, i, w, rfl, rfl, SqL.of q, h1, k _ _ H m' All.refl h2⟩ hs
    | _ => exact m.elim
  | _ => exact m.elim
theorem pd_ix {cb : Bool} {vb : Bool} (S : SitB cb vb X p k) {a b : Expr} {ma mb : XE} {pos : Pos} (ha : PD X p a ma) (hb : PD X p b mb) (hs : PlainIx b := by exact fun _ _ => rfl) : PD X p (.Subscript a b pos) (eIdx ma mb) := by
  obtain ⟨ta, a1, a2⟩ := ha.ex
  obtain ⟨tb, b1, b2⟩ := hb.ex
  exact ⟨_, pe_ix ix_D a1 b1 hs, ev_bnd S.ok (fun _ _ _ _ h => h) a2 b2⟩
structure PDO (X : Cx) (p : Par) (e : Option Expr) (m : XO) : Prop where
  ex : ∃ t, PO X e t ∧ ∀ (B : Addr → Prop) (H : Hp) (σ : L2.St) (E : Env) (c : Sx) (P : Option Int → Sx → Prop) (Q : Option Int → Hp → Prop), St0 p c B H → EnvR X.K p c B H σ E → m E c P p.XP → (∀ o c' H', P o c' → Ev p c H c' H' → p.SI c' H' → Q o H') → t σ H Q
theorem pdo_none : PDO X p none oNone := ⟨_, po_none, fun B H σ E c P Q s re m k => k none _ H m Ev.refl s.si⟩
theorem pdo_some {a : Expr} {m : XE} (ha : PD X p a m) : PDO X p (some a) (oSome m) := by
  obtain ⟨ta, a1, a2⟩ := ha.ex
  refine ⟨_, po_some a1, fun B H σ E c P Q s re m k => ?_⟩
  refine a2 B H σ E _ _ _ s re m fun d c1 v H1 m1 e1 s1 r1 => ?_
  cases r1 with
  | int i => exact ⟨i, rfl, k _ _ H1 m1 e1 s1⟩
  | _ => exact m1.elim
theorem Reps.cut {B : Addr → Prop} {H : Hp} {xs : List V} {ds : List D} (t : Reps K B H xs ds) (lo hi : Option Int) : Reps K B H (cutV xs lo hi) (DL.cut ds lo hi) := by
  unfold cutV DL.cut
  rw [t.length]
  exact (t.drop _).take _
theorem cut_whole (ds : List D) (lo hi : Option Int) (h1 : HT.sIx ds.length 0 lo = 0) (h2 : HT.sIx ds.length ds.length hi = ds.length) : DL.cut ds lo hi = ds := by
  unfold DL.cut
  rw [h1, h2]
  simp
def rCut (K : PySem.W.Frag) : V → Option Int → Option Int → Hp → VK → Prop := fun x lo hi H Q => rD1 K (fun d => opCut d lo hi) x H Q
theorem sl_D : SlR X (rCut X.K) := by
  intro pins s σ H x v vl vu lo hi sl Q I rx hs pl pu h
  obtain ⟨_, d, c, P, Xp, hb, r1, m, k⟩ := h
  cases r1 with
  | @tup a xs ds q t =>
    refine sl_tupA pins s σ H _ v vl vu lo hi sl Q I rx hs pl pu ⟨a, xs, rfl, q, fun ⟨h1, h2⟩ => ?_, fun _ w hw => k _ _ _ m (All.new hw) (rep_tup hw (t.cut lo hi))⟩
    rw [t.length] at h1 h2
    refine k _ _ H m All.refl ?_
    rw [cut_whole ds lo hi h1 h2]
    exact .tup q t
  | @lst a xs ds q n t =>
    exact sl_list pins s σ H _ v vl vu lo hi sl Q I rx hs pl pu ⟨a, xs, rfl, SqL.of q, fun w hw => k _ _ _ m (All.new hw) (rep_lst hb hw (t.cut lo hi))⟩
  | str x => exact sl_str pins s σ H _ v vl vu lo hi sl Q I rx hs pl pu ⟨x, rfl, small_line m.1, k _ _ H m.2 All.refl (.str _)⟩
  | _ => exact m.elim
theorem pd_cut {cb : Bool} {vb : Bool} (S : SitB cb vb X p k) {e : Expr} {lo hi : Option Expr} {m : XE} {ml mh : XO} {p2 pos : Pos} (he : PD X p e m) (hl : PDO X p lo ml) (hh : PDO X p hi mh) : PD X p (.Subscript e (.Slice lo hi none p2) pos) (eCut m ml mh) := by
  obtain ⟨ta, a1, a2⟩ := he.ex
  obtain ⟨tl, l1, l2⟩ := hl.ex
  obtain ⟨th, h1, h2⟩ := hh.ex
  refine ⟨_, pe_slice sl_D a1 l1 h1, fun B H σ E c P Q s re m k => ?_⟩
  refine a2 B H σ E _ _ _ s re m fun d c1 v H1 m1 e1 s1 r1 => ?_
  have st1 := s.go e1 s1
  refine l2 B H1 σ E _ _ _ st1 (re.go s e1) m1 fun o1 c2' H2 m2 e2 s2 => ?_
  have st2 := st1.go e2 s2
  refine h2 B H2 σ E _ _ _ st2 ((re.go s e1).go st1 e2) m2 fun o2 c3' H3 m3 e3 s3 => ?_
  have st3 := st2.go e3 s3
  exact ⟨_, d, _, P, p.XP, st3.trk, (r1.tr (st1.up e2)).tr (st2.up e3), m3, fun z v3 H4 pz a3 r3 => k z _ v3 H4 pz (e1.trans (e2.trans (e3.trans a3.ev))) (st3.all S.ok a3) r3⟩
end
end DL
end
section
namespace DL
open PySem PySem.Spec PyProof.Rows L2
section
variable {K : PySem.W.Frag} {p : Par} {B B' : Addr → Prop} {H H' : Hp} {σ : L2.St} {E : Env} {n : Sx}
theorem getElem?_set_cases {α : Type} {l : List α} {i j : Nat} {a b : α} (h : (l.set i a)[j]? = some b) : (i = j ∧ j < l.length ∧ a = b) ∨ (i ≠ j ∧ l[j]? = some b) := by
  by_cases e : i = j
  · subst e
    by_cases hl : i < l.length
    · rw [List.getElem?_set_self hl] at h
      exact .inl ⟨rfl, hl, Option.some.inj h⟩
    · rw [List.getElem?_eq_none (by rw [List.length_set]; omega)] at h
      cases h
  · rw [List.getElem?_set_ne e] at h
    exact .inr ⟨e, h⟩
theorem EnvR.put (r : EnvR K p n B H σ E) (hf : p.fx = none) (i : Nat) {s : Option V} {e : Ent} (h : Slot K p n B H s e) (no : ∀ ds, e ≠ .own ds) : EnvR K p n B H (σ.set i s) (E.set i e) := by
  refine ⟨by rw [List.length_set, List.length_set]; exact r.len, fun j e' q => ?_, fun a b x xs ys h1 h2 h3 h4 => ?_, .no hf, fun j a xs hp hj => ?_⟩
  · rcases getElem?_set_cases q with ⟨rfl, hl, rfl⟩ | ⟨ne, q⟩
    · exact ⟨s, List.getElem?_set_self (by rw [r.len]; exact hl), h⟩
    · rw [List.getElem?_set_ne ne]
      exact r.at_ j e' q
  · rcases getElem?_set_cases h1 with ⟨_, _, z⟩ | ⟨n1, h1⟩
    · exact absurd z (no xs)
    · rcases getElem?_set_cases h2 with ⟨_, _, z⟩ | ⟨n2, h2⟩
      · exact absurd z (no ys)
      · rw [List.getElem?_set_ne n1] at h3
        rw [List.getElem?_set_ne n2] at h4
        exact r.nd a b x xs ys h1 h2 h3 h4
  · rcases getElem?_set_cases hj with ⟨_, _, z⟩ | ⟨n1, hj⟩
    · exact absurd z (no xs)
    · rw [List.getElem?_set_ne n1]
      exact r.pn j a xs hp hj
theorem EnvR.unk (r : EnvR K p n B H σ E) (hf : p.fx = none) (i : Nat) (s : Option V) : EnvR K p n B H (σ.set i s) (E.set i .unk) := r.put hf i (.unk s) fun _ z => nomatch z
theorem EnvR.val (r : EnvR K p n B H σ E) (hf : p.fx = none) (i : Nat) {v : V} {d : D} (h : Rep K (bm p B n) H v d) : EnvR K p n B H (σ.set i (some v)) (E.set i (.val d)) := r.put hf i (.val h) fun _ z => nomatch z
theorem EnvR.wipe (r : EnvR K p n B H σ E) (hf : p.fx = none) : ∀ vs : List Nat, EnvR K p n B H (L2.wipe σ vs) (wipeE E vs)
  | [] => r
  | v :: vs => (r.wipe hf vs).unk hf v none
/-- other places -/
theorem Slot.grow (h : ∀ a, B' a → H a ≠ none → B a) (k : ∀ a, B a → B' a) {x : Option V} {y : Ent} (s : Slot K p n B H x y) : Slot K p n B' H x y := by
  cases s with
  | unk _ => exact .unk _
  | val r => exact .val (r.grow fun a z q => z.imp (fun z => h a z q) id)
  | own b n nc h0 hl r => exact .own (k _ b) n nc h0 hl (r.grow fun a z q => z.imp (fun z => h a z q) id)
  | stm => exact .stm
  | scr q => exact .scr q
theorem EnvR.grow (r : EnvR K p n B H σ E) (hf : p.fx = none) (h : ∀ a, B' a → H a ≠ none → B a) (k : ∀ a, B a → B' a) : EnvR K p n B' H σ E :=
  ⟨r.len, fun i e q => let ⟨s, h1, h2⟩ := r.at_ i e q; ⟨s, h1, h2.grow h k⟩, r.nd, .no hf, r.pn⟩
/-- the own list at i is a value from here on: its place is no more of B -/
def less (B : Addr → Prop) (q : Addr) : Addr → Prop := fun a => B a ∧ a ≠ q
theorem EnvR.rel (r : EnvR K p n B H σ E) (hf : p.fx = none) (st : St0 p n B H) {i : Nat} {ds : List D} (h : E[i]? = some (.own ds)) :
    ∃ q, EnvR K p n (less B q) H σ (E.set i (.val (.list ds))) ∧ St0 p n (less B q) H ∧ ¬ p.B0 n q ∧ ¬ p.Bc q ∧ B q := by
  obtain ⟨s, h1, h2⟩ := r.at_ i _ h
  have ls : ∀ q a, bm p (less B q) n a → bm p B n a := fun q a z => z.imp (fun z => z.1) id
  cases h2 with
  | @own q xs _ b nb nc h0 hl rs =>
    refine ⟨q, ⟨by rw [List.length_set]; exact r.len, fun j e he => ?_, fun a b x xs ys g1 g2 g3 g4 => ?_, .no hf, fun j a xs hp hj => ?_⟩, ⟨fun a z => (st.subc a z).imp (fun b => ⟨b, fun e => nc (e ▸ z)⟩) id, fun a z => st.trk a (ls q a z), st.si, st.ext, fun a b h => st.old a b.1 h⟩, nb, nc, b⟩
    · rcases getElem?_set_cases he with ⟨rfl, _, rfl⟩ | ⟨ne, he⟩
      · exact ⟨_, h1, .val (.lst hl (fun z => z.elim (fun z => z.2 rfl) nb) (rs.less (ls q)))⟩
      · obtain ⟨s', g1, g2⟩ := r.at_ j e he
        refine ⟨s', g1, ?_⟩
        cases g2 with
        | unk _ => exact .unk _
        | val z => exact .val (z.less (ls q))
        | own b' n' nc' h0' hl' rs' => exact .own ⟨b', fun z => ne (r.nd i j q _ _ h he h1 (z ▸ g1))⟩ n' nc' h0' hl' (rs'.less (ls q))
        | stm => exact .stm
        | scr q => exact .scr q
    · rcases getElem?_set_cases g1 with ⟨_, _, z⟩ | ⟨n1, g1⟩
      · cases z
      · rcases getElem?_set_cases g2 with ⟨_, _, z⟩ | ⟨n2, g2⟩
        · cases z
        · exact r.nd a b x xs ys g1 g2 g3 g4
    · rcases getElem?_set_cases hj with ⟨_, _, z⟩ | ⟨n1, hj⟩
      · cases z
      · exact r.pn j a xs hp hj
/-- a new list is owned -/
def more (B : Addr → Prop) (q : Addr) : Addr → Prop := fun a => B a ∨ a = q
theorem EnvR.own (r : EnvR K p n B H σ E) (hp : ∀ i, p.pin i = none) (hf : p.fx = none) (st : St0 p n B H) (i : Nat) {q : Addr} {xs : List V} {ds : List D} (hq : H q = some (.lst xs)) (nb : ¬ B q) (nb0 : ¬ p.B0 n q) (h0 : p.H0 q = none) (fr : ∀ a, B a → a ≠ q) (rs : Reps K (bm p (more B q) n) H xs ds)
    (old : ∀ (j : Nat) (v : V) (d : D), E[j]? = some (.val d) → j ≠ i → σ[j]? = some (some v) → Rep K (bm p (more B q) n) H v d)
    (olo : ∀ (j : Nat) (a : Addr) (ys : List V) (es : List D), E[j]? = some (.own es) → σ[j]? = some (some (.ref a)) → H a = some (.lst ys) → Reps K (bm p (more B q) n) H ys es) :
    EnvR K p n (more B q) H (σ.set i (some (.ref q))) (E.set i (.own ds)) ∧ St0 p n (more B q) H := by
  refine ⟨⟨by rw [List.length_set, List.length_set]; exact r.len, fun j e he => ?_, fun a b x xs' ys g1 g2 g3 g4 => ?_, .no hf, fun j a xs h _ => by rw [hp j] at h; cases h⟩, ⟨fun a z => (st.subc a z).imp .inl id, fun a z => ?_, st.si, st.ext, fun a b h => b.elim (fun z => st.old a z h) fun z => absurd (z ▸ h0) h⟩⟩
  · rcases getElem?_set_cases he with ⟨rfl, hl, rfl⟩ | ⟨ne, he⟩
    · exact ⟨_, List.getElem?_set_self (by rw [r.len]; exact hl), .own (.inr rfl) nb0 (fun z => (st.subc _ z).elim nb nb0) h0 hq rs⟩
    · rw [List.getElem?_set_ne ne]
      obtain ⟨s, g1, g2⟩ := r.at_ j e he
      refine ⟨s, g1, ?_⟩
      cases g2 with
      | unk _ => exact .unk _
      | val z => exact .val (old j _ _ he (Ne.symm ne) g1)
      | own b' n' nc' h0' hl' rs' => exact .own (.inl b') n' nc' h0' hl' (olo j _ _ _ he g1 hl')
      | stm => exact .stm
      | scr q => exact .scr q
  · rcases getElem?_set_cases g1 with ⟨e1, l1, z1⟩ | ⟨n1, g1⟩
    · rcases getElem?_set_cases g2 with ⟨e2, l2, z2⟩ | ⟨n2, g2⟩
      · rw [← e1, ← e2]
      · subst e1
        rw [List.getElem?_set_self (by rw [r.len]; exact l1)] at g3
        rw [List.getElem?_set_ne n2] at g4
        have ex : q = x := by
          have := Option.some.inj (Option.some.inj g3)
          cases this
          rfl
        subst ex
        obtain ⟨s, k1, k2⟩ := r.at_ b _ g2
        rw [g4] at k1
        cases k1
        cases k2 with
        | own b' _ _ _ _ _ => exact absurd b' nb
    · rcases getElem?_set_cases g2 with ⟨e2, l2, z2⟩ | ⟨n2, g2⟩
      · subst e2
        rw [List.getElem?_set_self (by rw [r.len]; exact l2)] at g4
        rw [List.getElem?_set_ne n1] at g3
        have ex : q = x := by
          have := Option.some.inj (Option.some.inj g4)
          cases this
          rfl
        subst ex
        obtain ⟨s, k1, k2⟩ := r.at_ a _ g1
        rw [g3] at k1
        cases k1
        cases k2 with
        | own b' _ _ _ _ _ => exact absurd b' nb
      · rw [List.getElem?_set_ne n1] at g3
        rw [List.getElem?_set_ne n2] at g4
        exact r.nd a b x xs' ys g1 g2 g3 g4
  · rcases z with (z | z) | z
    · exact st.trk a (.inl z)
    · rw [z, hq]
      exact fun z => nomatch z
    · exact st.trk a (.inr z)
end
def SR (K : PySem.W.Frag) (p : Par) (ts : TS) (m : XS) : Prop :=
  ∀ (B : Addr → Prop) (H : Hp) (σ : L2.St) (E : Env) (c : Sx) (P : Out → Sx → Prop) (Dn : Ends), St0 p c B H → EnvR K p c B H σ E → m E c P p.XP →
    (∀ E' c' B' σ' H', P (.nx E') c' → St0 p c' B' H' → Tr (bm p B c) H (bm p B' c') H' → EnvR K p c' B' H' σ' E' → Dn.nx σ' H') →
    (∀ d c' v H', P (.rt d) c' → p.SI c' H' → Ev p p.c0 p.H0 c' H' → Rep K (bm p p.Bc c') H' v d → Dn.rt v H') →
    (∀ E' c' B' σ' H', P (.bk E') c' → St0 p c' B' H' → Tr (bm p B c) H (bm p B' c') H' → EnvR K p c' B' H' σ' E' → Dn.bk σ' H') →
    (∀ E' c' B' σ' H', P (.ct E') c' → St0 p c' B' H' → Tr (bm p B c) H (bm p B' c') H' → EnvR K p c' B' H' σ' E' → Dn.ct σ' H') → ts Dn σ H
structure PSD (X : Cx) (p : Par) (st : Stmt) (m : XS) : Prop where
  ex : ∃ ts, PS X st ts ∧ SR X.K p ts m
structure PSSD (X : Cx) (p : Par) (sts : List Stmt) (m : XS) : Prop where
  ex : ∃ ts, PSs X sts ts ∧ SR X.K p ts m
section
variable {X : Cx} {p : Par} {k : Nat} {K : PySem.W.Frag}
theorem ssd_nil : PSSD X p [] sSkip := ⟨_, pss_nil, fun B H σ E c P Dn st r m nx rt bk ct => nx E _ B σ H m st .refl r⟩
theorem sr_seq {t u : TS} {a b : XS} (h1 : SR K p t a) (h2 : SR K p u b) : SR K p (tSeq t u) (sSeq a b) := by
  intro B H σ E c P Dn st r m nx rt bk ct
  refine h1 B H σ E _ _ _ st r m (fun E' c1 B' σ' H' m1 st1 t1 r1 => ?_) (fun d c1 v H' m1 => rt d c1 v H' m1) (fun E' c1 B' σ' H' m1 => bk E' c1 B' σ' H' m1) (fun E' c1 B' σ' H' m1 => ct E' c1 B' σ' H' m1)
  refine h2 B' H' σ' E' _ P Dn st1 r1 m1 (fun E2 c2' B2 σ2 H2 m2 st2 t2 r2 => nx E2 c2' B2 σ2 H2 m2 st2 (t1.trans t2) r2) rt (fun E2 c2' B2 σ2 H2 m2 st2 t2 r2 => bk E2 c2' B2 σ2 H2 m2 st2 (t1.trans t2) r2) (fun E2 c2' B2 σ2 H2 m2 st2 t2 r2 => ct E2 c2' B2 σ2 H2 m2 st2 (t1.trans t2) r2)
theorem ssd_cons {st : Stmt} {rest : List Stmt} {a b : XS} (h1 : PSD X p st a) (h2 : PSSD X p rest b) : PSSD X p (st :: rest) (sSeq a b) := by
  obtain ⟨t1, a1, a2⟩ := h1.ex
  obtain ⟨t2, b1, b2⟩ := h2.ex
  exact ⟨_, pss_cons a1 b1, sr_seq a2 b2⟩
theorem ssd_one {st : Stmt} {a : XS} (h1 : PSD X p st a) : PSSD X p [st] a := by
  obtain ⟨t1, a1, a2⟩ := h1.ex
  exact ⟨_, pss_one a1, a2⟩
theorem sd_ret {e : Expr} {m : XE} {pos : Pos} (he : PD X p e m) : PSD X p (.Return (some e) pos) (sRet m) := by
  obtain ⟨te, a1, a2⟩ := he.ex
  refine ⟨_, ps_ret a1, fun B H σ E c P Dn st r m nx rt bk ct => ?_⟩
  exact a2 B H σ E _ _ _ st r m fun d c1 v H1 m1 e1 s1 r1 => rt d _ v H1 m1 s1 (st.ext.trans e1) (r1.less (st.go e1 s1).bc)
theorem sd_if {c : Expr} {a b : List Stmt} {t : XT} {ma mb : XS} {pos : Pos} (hc : PDT X p c t) (ha : PSSD X p a ma) (hb : PSSD X p b mb) : PSD X p (.If c a b pos) (sIf t ma mb) := by
  obtain ⟨tc, c1, c2⟩ := hc.ex
  obtain ⟨ta, a1, a2⟩ := ha.ex
  obtain ⟨tb, b1, b2⟩ := hb.ex
  refine ⟨_, ps_if c1 a1 b1, fun B H σ E c P Dn st r m nx rt bk ct => ?_⟩
  refine c2 B H σ E _ _ _ st r m fun b c1 H1 m1 e1 s1 => ?_
  have st1 := st.go e1 s1
  have t1 : Tr (bm p B c) H (bm p B c1) H1 := st.up e1
  have r1 := r.go st e1
  cases b with
  | true => exact a2 B H1 σ E _ P Dn st1 r1 m1 (fun E2 c2' B2 σ2 H2 m2 st2 t2 r2 => nx E2 c2' B2 σ2 H2 m2 st2 (t1.trans t2) r2) rt (fun E2 c2' B2 σ2 H2 m2 st2 t2 r2 => bk E2 c2' B2 σ2 H2 m2 st2 (t1.trans t2) r2) (fun E2 c2' B2 σ2 H2 m2 st2 t2 r2 => ct E2 c2' B2 σ2 H2 m2 st2 (t1.trans t2) r2)
  | false => exact b2 B H1 σ E _ P Dn st1 r1 m1 (fun E2 c2' B2 σ2 H2 m2 st2 t2 r2 => nx E2 c2' B2 σ2 H2 m2 st2 (t1.trans t2) r2) rt (fun E2 c2' B2 σ2 H2 m2 st2 t2 r2 => bk E2 c2' B2 σ2 H2 m2 st2 (t1.trans t2) r2) (fun E2 c2' B2 σ2 H2 m2 st2 t2 r2 => ct E2 c2' B2 σ2 H2 m2 st2 (t1.trans t2) r2)
theorem sr_asg {te : TE} {m : XE} {i : Nat} (nf : p.fx = none) (h : EvR K p te m) : SR K p (tAsg te (gName i)) (sAsg i m) := by
  intro B H σ E c P Dn st r m nx rt bk ct
  exact h B H σ E _ _ _ st r m fun d c1 v H1 m1 e1 s1 r1 => nx _ _ B _ H1 m1 (st.go e1 s1) (st.up e1) ((r.go st e1).val nf i r1)
theorem sd_set {cb : Bool} (S : SitB cb true X p k) {i : Nat} {x : Str} {e : Expr} {m : XE} {pos pos' : Pos} (hi : X.N[i]? = some x) (hx : Loc X.env.scope x) (he : PD X p e m) (hs : swapsWith e (some (.Name x pos')) pos.line X.env = pure false := by rfl)
    (hf : X.fn x = true ∨ X.env.scope.names.lookup x = some .local := by first | exact .inl rfl | exact .inr rfl) : PSD X p (.Assign [.Name x pos'] e pos) (sAsg i m) := by
  obtain ⟨te, a1, a2⟩ := he.ex
  exact ⟨_, ps_set S.nd hi hx a1 hs hf, sr_asg S.nf a2⟩
end
end DL
end
section
namespace DL
open PySem PySem.Spec PyProof.Rows L2
def gNs : List Nat → TGs
  | [] => gNil
  | i :: is => gCons (gName i) (gNs is)
/-- (a, b, ..) = a tuple or a list of that length -/
def gTL (K : PySem.W.Frag) (n : Nat) (t : TGs) : TG := fun v σ H Q => gTup K n t v σ H Q ∨ gUnl K n t v σ H Q
theorem pg_tl {X : Cx} {pos : Pos} {es : List Expr} {k : Nat} {t : TGs} {n : Nat} (hc : X.calm = true) (h : PGs X es t)
    (hn : (assignEach es X.env).length = n := by rfl) (hst : (assignEach es X.env).findIdx? (·.1) = none := by rfl) : PG X (.Tuple es k pos) (gTL X.K n t) :=
  ⟨fun pins s σ H v u Q I r hw => hw.elim (fun q => (pg_tup hc h hn hst).run pins s σ H v u Q I r q) fun q => (pg_unl hc h hn hst).run pins s σ H v u Q I r q⟩
def gOf (K : PySem.W.Frag) : Tg → TG
  | .nm i => gName i
  | .tp is => gTL K is.length (gNs is)
  | .pr a b => gTL K 2 (gCons (gOf K a) (gCons (gOf K b) gNil))
def Tg.ix : Tg → List Nat
  | .nm i => [i]
  | .tp is => is
  | .pr a b => a.ix ++ b.ix
section
variable {K : PySem.W.Frag} {p : Par} {B B' : Addr → Prop} {H H' : Hp} {σ : L2.St} {E E' : Env} {n : Sx}
theorem gNs_put (nf : p.fx = none) : ∀ (is : List Nat) (vs : List V) (ds : List D) (σ : L2.St) (E : Env), EnvR K p n B H σ E → Reps K (bm p B n) H vs ds → setAll is ds E = some E' →
    ∀ Q : L2.St → Hp → Prop, (∀ σ', EnvR K p n B H σ' E' → σ'.length = σ.length → (∀ j, j ∉ is → σ'[j]? = σ[j]?) → Q σ' H) → gNs is vs σ H Q
  | [], vs, ds, σ, E, r, rs, h, Q, q => by
    cases rs with
    | nil =>
      have e : E = E' := Option.some.inj h
      subst e
      exact ⟨rfl, q σ r rfl fun _ _ => rfl⟩
    | cons _ _ => cases h
  | i :: is, vs, ds, σ, E, r, rs, h, Q, q => by
    cases rs with
    | nil => cases h
    | cons r1 rs =>
      refine ⟨_, _, rfl, gNs_put nf is _ _ _ _ (r.val nf i r1) rs h Q fun σ' g1 g2 g3 => q σ' g1 (by rw [g2, List.length_set]) fun j hj => ?_⟩
      rw [List.mem_cons, not_or] at hj
      rw [g3 j hj.2, List.getElem?_set_ne (Ne.symm hj.1)]
theorem gOf_put (nf : p.fx = none) {t : Tg} {v : V} {d : D} (r : EnvR K p n B H σ E) (rv : Rep K (bm p B n) H v d) (h : t.put d E = some E') (Q : L2.St → Hp → Prop)
    (q : ∀ σ', EnvR K p n B H σ' E' → σ'.length = σ.length → (∀ j, j ∉ t.ix → σ'[j]? = σ[j]?) → Q σ' H) : gOf K t v σ H Q := by
  induction t generalizing v d σ E E' Q with
  | nm i =>
    have e : E.set i (.val d) = E' := Option.some.inj h
    subst e
    exact q _ (r.val nf i rv) (List.length_set ..) fun j hj => List.getElem?_set_ne fun e => hj (by simp [Tg.ix, e])
  | tp is =>
    have hl : ∀ (is : List Nat) (ds : List D) (E E' : Env), setAll is ds E = some E' → ds.length = is.length := by
      intro is
      induction is with
      | nil => intro ds E E' h; cases ds with
        | nil => rfl
        | cons _ _ => cases h
      | cons i is ih => intro ds E E' h; cases ds with
        | nil => cases h
        | cons d ds => simp [ih ds _ _ h]
    cases rv with
    | @tup a xs ds hs rs =>
      have h' : setAll is ds E = some E' := h
      exact .inl ⟨a, xs, rfl, hs, by rw [rs.length]; exact hl _ _ _ _ h', gNs_put nf is xs ds σ E r rs h' Q q⟩
    | @lst a xs ds hs nb rs =>
      have h' : setAll is ds E = some E' := h
      exact .inr ⟨a, xs, rfl, SqL.of hs, by rw [rs.length]; exact hl _ _ _ _ h', gNs_put nf is xs ds σ E r rs h' Q q⟩
    | _ => exact nomatch (show none = some E' from h)
  | pr a b iha ihb =>
    cases rv with
    | @tup ad xs ds hs rs =>
      cases rs with
      | nil => exact nomatch (show none = some E' from h)
      | @cons v1 xs1 d1 ds1 r1 rs1 =>
        cases rs1 with
        | nil => exact nomatch (show none = some E' from h)
        | @cons v2 xs2 d2 ds2 r2 rs2 =>
          cases rs2 with
          | cons _ _ => exact nomatch (show none = some E' from h)
          | nil =>
            have h' : (match a.put d1 E with
              | some E1 => b.put d2 E1
              | none => none) = some E' := h
            cases h1 : a.put d1 E with
            | none => rw [h1] at h'; cases h'
            | some E1 =>
              rw [h1] at h'
              refine .inl ⟨ad, [v1, v2], rfl, hs, rfl, v1, [v2], rfl, iha r r1 h1 _ fun σ1 g1 g2 g3 => ?_⟩
              refine ⟨v2, [], rfl, ihb g1 r2 h' _ fun σ2 k1 k2 k3 => ?_⟩
              refine ⟨rfl, q σ2 k1 (k2.trans g2) fun j hj => ?_⟩
              have hj2 : j ∉ a.ix ++ b.ix := hj
              rw [List.mem_append, not_or] at hj2
              rw [k3 j hj2.2, g3 j hj2.1]
    | _ => exact nomatch (show none = some E' from h)
theorem wipe_get (σ : L2.St) : ∀ (vs : List Nat) (j : Nat), (L2.wipe σ vs)[j]? = if j ∈ vs then (if j < σ.length then some none else none) else σ[j]?
  | [], j => by simp [L2.wipe]
  | v :: vs, j => by
    unfold L2.wipe
    by_cases e : v = j
    · subst e
      rw [if_pos (List.mem_cons_self)]
      by_cases hl : v < σ.length
      · rw [if_pos hl, List.getElem?_set_self (by rw [L2.wipe_length]; exact hl)]
      · rw [if_neg hl, List.getElem?_eq_none (by rw [List.length_set, L2.wipe_length]; omega)]
    · rw [List.getElem?_set_ne e, wipe_get σ vs j]
      by_cases hm : j ∈ vs
      · rw [if_pos hm, if_pos (List.mem_cons_of_mem _ hm)]
      · rw [if_neg hm, if_neg fun z => by
          rcases List.mem_cons.mp z with z | z
          · exact e z.symm
          · exact hm z]
theorem wipe_same {σ σ' : L2.St} {vs : List Nat} (hl : σ'.length = σ.length) (h : ∀ j, j ∉ vs → σ'[j]? = σ[j]?) : L2.wipe σ' vs = L2.wipe σ vs := by
  apply List.ext_getElem?
  intro j
  rw [wipe_get, wipe_get, hl]
  by_cases hm : j ∈ vs
  · rw [if_pos hm, if_pos hm]
  · rw [if_neg hm, if_neg hm]
    exact h j hm
theorem wipe_wipe (σ : L2.St) (vs : List Nat) : L2.wipe (L2.wipe σ vs) vs = L2.wipe σ vs :=
  wipe_same (L2.wipe_length σ vs) fun j hj => by rw [wipe_get, if_neg hj]
end
structure WalkD (K : PySem.W.Frag) (B : Addr → Prop) (Hs : Hp) (J : It) (ds : List D) : Prop where
  ex : ∃ G : Hp → Prop, G Hs ∧ (∀ B1 H1, Tr B Hs B1 H1 → G H1) ∧
    Walk J ds.length G (fun i H x H' => All H H' ∧ ∀ B1, Tr B Hs B1 H → (∀ a, B1 a → H a ≠ none) → ∃ d, ds[i]? = some d ∧ Rep K B1 H' x d)
structure PDI (X : Cx) (p : Par) (tg e : Expr) (m : XA) : Prop where
  ex : ∃ wi, PI X tg e wi ∧ ∀ (B : Addr → Prop) (H : Hp) (σ : L2.St) (E : Env) (c : Sx) (P : List D → Sx → Prop) (R : It → Hp → Prop), St0 p c B H → EnvR X.K p c B H σ E → m E c P p.XP →
    (∀ ds c' J H', P ds c' → Ev p c H c' H' → p.SI c' H' → WalkD X.K (bm p B c') H' J ds → R J H') → wi σ H R
section
variable {X : Cx} {p : Par} {k : Nat} {K : PySem.W.Frag} {tg : Expr}
theorem Reps.at' {B : Addr → Prop} {H : Hp} : ∀ {vs : List V} {ds : List D}, Reps K B H vs ds → ∀ {i : Nat} {v : V}, vs[i]? = some v → ∃ d, ds[i]? = some d ∧ Rep K B H v d
  | _, _, .nil, i, v, e => by simp at e
  | _, _, .cons r t, 0, v, e => by
    have e' : _ = v := Option.some.inj e
    subst e'
    exact ⟨_, rfl, r⟩
  | _, _, .cons r t, i + 1, v, e => Reps.at' t (i := i) e
theorem walkD_list {B : Addr → Prop} {H : Hp} {a : Addr} {xs : List V} {ds : List D} (hl : H a = some (.lst xs)) (nb : ¬ B a) (rs : Reps K B H xs ds) : WalkD K B H (Itl K a) ds := by
  refine ⟨fun H => SqL K H a xs, SqL.of hl, fun B1 H1 t => SqL.of (t.ext.keep _ _ hl nb), ?_⟩
  rw [← rs.length]
  refine walk_list.mono (fun _ h => h) fun i H1 x H' hi hg y => ⟨fun b o e => by rw [y.1]; exact e, fun B1 t _ => ?_⟩
  obtain ⟨d, h1, h2⟩ := rs.at' y.2
  exact ⟨d, h1, by rw [y.1]; exact h2.tr t⟩
theorem walkD_tup {B : Addr → Prop} {H : Hp} {a : Addr} {xs : List V} {ds : List D} (hl : SqT K H a xs) (rs : Reps K B H xs ds) : WalkD K B H (Itt K a) ds := by
  refine ⟨fun H => SqT K H a xs, hl, fun B1 H1 t => t.ext.sqT hl, ?_⟩
  rw [← rs.length]
  refine walk_tup.mono (fun _ h => h) fun i H1 x H' hi hg y => ⟨fun b o e => by rw [y.1]; exact e, fun B1 t _ => ?_⟩
  obtain ⟨d, h1, h2⟩ := rs.at' y.2
  exact ⟨d, h1, by rw [y.1]; exact h2.tr t⟩
theorem rng_length (a b : Int) : (rng a b).length = (b - a).toNat := by
  unfold rng
  rw [List.length_map, List.length_range]
theorem rng_get (a b : Int) {i : Nat} (h : i < (b - a).toNat) : (rng a b)[i]? = some (.int (a + (i : Int))) := by
  unfold rng
  rw [List.getElem?_map, List.getElem?_range h]
  rfl
theorem walkD_rng {B : Addr → Prop} {H : Hp} {a b : Int} : WalkD K B H (Itr a (b - a).toNat) (rng a b) := by
  refine ⟨fun _ => True, True.intro, fun _ _ _ => True.intro, ?_⟩
  rw [rng_length]
  refine walk_range.mono (fun _ h => h) fun i H1 x H' hi hg y => ⟨fun b o e => by rw [y.1]; exact e, fun B1 t _ => ?_⟩
  refine ⟨_, rng_get a b hi, ?_⟩
  rw [y.2]
  exact .int _
def iLst (a : XE) : XA := fun E => bnd (a E) fun d => match d with | .list xs => ret xs | _ => stuck
theorem pi_lstD {e : Expr} {m : XE} (he : PD X p e m) : PDI X p tg e (iLst m) := by
  obtain ⟨te, a1, a2⟩ := he.ex
  refine ⟨_, pi_list a1, fun B H σ E c P R st r m k => ?_⟩
  refine a2 B H σ E _ _ _ st r m fun d c1 v H1 m1 e1 s1 r1 => ?_
  cases r1 with
  | lst q n t => exact ⟨_, rfl, ⟨_, SqL.of q⟩, k _ _ _ H1 m1 e1 s1 (walkD_list q n t)⟩
  | _ => exact m1.elim
theorem pi_rng1D {a : Expr} {m : XE} {pn pos : Pos} (ha : PD X p a m) (hm : X.mg "range" = none) (hg : Gl X "range" := by rfl) (hs : starEach [a] X.env = [(false, eval a X.env)] := by rfl) : PDI X p tg (.Call (.Name "range" pn) [a] [] pos) (iRng1 m) := by
  obtain ⟨ta, a1, a2⟩ := ha.ex
  refine ⟨_, pi_range1 hg hm (pa_cons a1 pa_nil (by rw [hs] <;> rfl)) hs, fun B H σ E c P R st r m k => ?_⟩
  refine a2 B H σ E _ _ _ st r m fun d c1 v H1 m1 e1 s1 r1 => ?_
  cases r1 with
  | int n =>
    obtain ⟨⟨h1, h2, h3, h4⟩, m1⟩ := m1
    refine ⟨n, rfl, by omega, by omega, k _ _ _ H1 m1 e1 s1 ?_⟩
    have w := walkD_rng (K := X.K) (B := bm p B c1) (H := H1) (a := 0) (b := n)
    rw [Int.sub_zero] at w
    exact w
  | _ => exact m1.elim
theorem forL_drop {t : Tg} {s : XS} {ds : List D} {i : Nat} {d : D} (h : ds[i]? = some d) (E : Env) : forL t s (ds.drop i) E = match t.put d E with
    | none => stuck
    | some E1 => bnd (s E1) fun o => match o with
      | .nx E' => forL t s (ds.drop (i + 1)) E'
      | .ct E' => forL t s (ds.drop (i + 1)) E'
      | .bk E' => ret (.nx E')
      | .rt d => ret (.rt d) := by
  obtain ⟨hl, e⟩ := List.getElem?_eq_some_iff.mp h
  rw [List.drop_eq_getElem_cons hl, e]
  rfl
theorem sd_for (S : SitB true true X p k) {iter : Expr} {body : List Stmt} {mi : XA} {t : Tg} {mb : XS} {pos : Pos} (hi : PDI X p tg iter mi) (hg : PG X tg (gOf X.K t)) (hb : PSSD X p body mb)
    (hs : ∀ x, foldedSetIterable iter X.env x = pure x := by intro _; rfl) : PSD X p (.For tg iter body [] pos) (sFor mi t mb) := by
  obtain ⟨wi, a1, a2⟩ := hi.ex
  obtain ⟨tb, b1, b2⟩ := hb.ex
  refine ⟨_, ps_for S.po S.calm a1 hg b1 hs, fun B H σ E c P Dn st r m nx rt bk ct => ?_⟩
  refine a2 B H σ E _ _ _ st r m fun ds c1 J H1 m1 e1 s1 w => ?_
  obtain ⟨G, g0, g1, wk⟩ := w.ex
  have st1 := st.go e1 s1
  refine for_it wk (fun i σ' H' => ∃ B' E' c', St0 p c' B' H' ∧ Tr (bm p B c1) H1 (bm p B' c') H' ∧ EnvR X.K p c' B' H' σ' E' ∧ forL t mb (ds.drop i) E' c' P p.XP) ⟨B, E, _, st1, .refl, r.go st e1, m1⟩ (fun i σ' H' _ ⟨B', E', _, _, t', _, _⟩ => g1 _ H' t') ?_ ?_
  · rintro i x σ' H' H'' hi' ⟨B', E', c', st', t', r', m'⟩ ⟨al, y⟩
    obtain ⟨d, hd, rd⟩ := y _ t' st'.trk
    rw [forL_drop hd] at m'
    cases hp : t.put d E' with
    | none => rw [hp] at m'; exact m'.elim
    | some E1 =>
      rw [hp] at m'
      have st2 : St0 p c' B' H'' := st'.go al.ev (st'.all S.ok al)
      have r2 := r'.go st' al.ev
      refine gOf_put S.nf r2 rd hp _ fun σ2 r3 _ _ => ?_
      have t2 : Tr (bm p B' c') H' (bm p B' c') H'' := .of al.ext
      refine b2 B' H'' σ2 E1 _ _ _ st2 r3 m' (fun E3 c3' B3 σ3 H3 m3 st3 t3 r3 => ?_) (fun d c3' v H3 m3 => rt d c3' v H3 m3) (fun E3 c3' B3 σ3 H3 m3 st3 t3 r3 => ?_) (fun E3 c3' B3 σ3 H3 m3 st3 t3 r3 => ?_)
      · exact ⟨B3, E3, _, st3, (t'.trans t2).trans t3, r3, m3⟩
      · exact nx E3 _ B3 σ3 H3 m3 st3 ((((st.up e1).trans t').trans t2).trans t3) r3
      · exact ⟨B3, E3, _, st3, (t'.trans t2).trans t3, r3, m3⟩
  · rintro σ' H' ⟨B', E', c', st', t', r', m'⟩
    rw [List.drop_length] at m'
    exact nx E' _ B' σ' H' m' st' ((st.up e1).trans t') r'
end
end DL
end
section
namespace DL
open PySem PySem.Spec PyProof.Rows L2
def teOf (K : PySem.W.Frag) (p : Par) (m : XE) : TE := fun σ H Q => ∃ (B : Addr → Prop) (E : Env) (c : Sx) (P : D → Sx → Prop), St0 p c B H ∧ EnvR K p c B H σ E ∧ m E c P p.XP ∧
  ∀ d c' v H', P d c' → Ev p c H c' H' → p.SI c' H' → Rep K (bm p B c') H' v d → Q v H'
def ttOf (K : PySem.W.Frag) (p : Par) (m : XT) : TT := fun σ H Q => ∃ (B : Addr → Prop) (E : Env) (c : Sx) (P : Bool → Sx → Prop), St0 p c B H ∧ EnvR K p c B H σ E ∧ m E c P p.XP ∧
  ∀ b c' H', P b c' → Ev p c H c' H' → p.SI c' H' → Q b H'
section
variable {X : Cx} {p : Par} {k : Nat} {K : PySem.W.Frag}
theorem PD.pe {e : Expr} {m : XE} (h : PD X p e m) : PE X e (teOf X.K p m) := by
  obtain ⟨te, a1, a2⟩ := h.ex
  exact ⟨fun pins s σ H Q I ⟨B, E, c, P, st, r, mm, kk⟩ => a1.run pins s σ H Q I (a2 B H σ E c P Q st r mm kk)⟩
theorem PDT.pt {e : Expr} {m : XT} (h : PDT X p e m) : PT X e (ttOf X.K p m) := by
  obtain ⟨te, a1, a2⟩ := h.ex
  exact ⟨fun pins s σ H Q I ⟨B, E, c, P, st, r, mm, kk⟩ => a1.run pins s σ H Q I (a2 B H σ E c P Q st r mm kk)⟩
structure PDTs (X : Cx) (p : Par) (ifs : List Expr) (m : XT) : Prop where
  pts : PTs X ifs (ttOf X.K p m)
theorem pdts_nil : PDTs X p [] tYes := ⟨⟨fun pins s σ H Q I ⟨B, E, c, P, st, r, mm, kk⟩ => pts_nil.run pins s σ H Q I (kk true c H mm Ev.refl st.si)⟩⟩
theorem pdts_one {e : Expr} {m : XT} (h : PDT X p e m) : PDTs X p [e] m := ⟨pts_one h.pt⟩
/-- as EvR, of a list that is just made -/
def EvF (K : PySem.W.Frag) (p : Par) (te : TE) (m : XE) : Prop :=
  ∀ (B : Addr → Prop) (H : Hp) (σ : L2.St) (E : Env) (c : Sx) (P : D → Sx → Prop) (Q : VK), St0 p c B H → EnvR K p c B H σ E → m E c P p.XP →
    (∀ ds c' q xs H', P (.list ds) c' → Ev p c H c' H' → p.SI c' H' → (H q = none ∧ ¬ p.B0 c' q) → H' q = some (.lst xs) → Reps K (bm p (more B q) c') H' xs ds → Q (.ref q) H') → te σ H Q
structure PDF (X : Cx) (p : Par) (e : Expr) (m : XE) : Prop where
  ex : ∃ te, PE X e te ∧ EvF X.K p te m
theorem EvF.ev {te : TE} {m : XE} (h : EvF K p te m) : EvR K p te m := fun B H σ E c P Q st r mm kk =>
  h B H σ E c P Q st r mm fun ds c' q xs H' m1 e1 s1 hq h1 rs => kk _ c' _ H' m1 e1 s1 (.lst h1 (fun z => z.elim (fun z => st.trk q (.inl z) hq.1) hq.2) (rs.less fun _ z => z.imp .inl id))
theorem PDF.pd {e : Expr} {m : XE} (h : PDF X p e m) : PD X p e m := by
  obtain ⟨te, a1, a2⟩ := h.ex
  exact ⟨te, a1, a2.ev⟩
theorem q_new {B : Addr → Prop} {c c1 : Sx} {H H1 : Hp} {q : Addr} (st1 : St0 p c1 B H1) (e1 : Ev p c H c1 H1) (hq : H1 q = none) : H q = none ∧ ¬ p.B0 c1 q :=
  ⟨by
    cases x : H q with
    | none => rfl
    | some o => exact absurd hq (e1.ext.dom q (some_ne x)), fun z => st1.trk q (.inr z) hq⟩
theorem ext_none {B : Addr → Prop} {H H' : Hp} (e : Ext B H H') {q : Addr} (h : H' q = none) : H q = none := by
  cases x : H q with
  | none => rfl
  | some o => exact absurd h (e.dom q (some_ne x))
theorem bm_new {B : Addr → Prop} {n : Sx} {H : Hp} {q : Addr} (hq : H q = none) : ∀ a, bm p (more B q) n a → H a ≠ none → bm p B n a := fun a z nn => by
  rcases z with (z | z) | z
  · exact .inl z
  · exact absurd (z ▸ hq) nn
  · exact .inr z
theorem reps_more {B : Addr → Prop} {n : Sx} {H : Hp} {q : Addr} {xs : List V} {ds : List D} (hq : H q = none) (r : Reps K (bm p B n) H xs ds) : Reps K (bm p (more B q) n) H xs ds := r.grow (bm_new hq)
theorem rep_more {B : Addr → Prop} {n : Sx} {H : Hp} {q : Addr} {v : V} {d : D} (hq : H q = none) (r : Rep K (bm p B n) H v d) : Rep K (bm p (more B q) n) H v d := r.grow (bm_new hq)
theorem pf_lst {cb : Bool} {vb : Bool} (S : SitB cb vb X p k) {es : List Expr} {pos : Pos} {m : XA} (h : PDA X p es m) : PDF X p (.List es pos) (eLst m) := by
  obtain ⟨ta, a1, a2⟩ := h.ex
  refine ⟨_, pe_lst a1, fun B H σ E c P Q s re m k => ?_⟩
  refine a2 B H σ E _ _ _ s re m fun ds c1 vs H1 m1 e1 s1 r1 => ?_
  have st1 := s.go e1 s1
  refine ⟨by rw [r1.length]; exact small_line m1.1, fun q hq => ?_⟩
  exact k _ _ q _ _ m1.2 (e1.trans (All.new hq).ev) (st1.all S.ok (All.new hq)) (q_new st1 e1 hq) upd_same ((reps_more hq r1).mono (All.new hq).ext)
/-- name = a new list, owned -/
theorem own_put {B : Addr → Prop} {H H' : Hp} {σ : L2.St} {E : Env} {n n' : Sx} {q : Addr} {xs : List V} {ds : List D} (hp : ∀ i, p.pin i = none) (nf : p.fx = none) (i : Nat) (r : EnvR K p n B H σ E) (st : St0 p n B H) (e : Ev p n H n' H') (si : p.SI n' H') (hq : H q = none ∧ ¬ p.B0 n' q) (h1 : H' q = some (.lst xs)) (rs : Reps K (bm p (more B q) n') H' xs ds) :
    EnvR K p n' (more B q) H' (σ.set i (some (.ref q))) (E.set i (.own ds)) ∧ St0 p n' (more B q) H' ∧ Tr (bm p B n) H (bm p (more B q) n') H' := by
  have st1 := st.go e si
  have r1 := r.go st e
  have nb : ¬ B q := fun z => st.trk q (.inl z) hq.1
  have em : Tr (bm p (more B q) n) H (bm p (more B q) n') H' := e.tr
  obtain ⟨g1, g2⟩ := r1.own hp nf st1 i h1 nb hq.2 (ext_none st.ext.ext hq.1) (fun a z e => nb (e ▸ z)) rs
    (fun j v d hj _ hs => by
      obtain ⟨s, k1, k2⟩ := r.at_ j _ hj
      rw [hs] at k1
      cases k1
      cases k2 with
      | val z => exact (rep_more hq.1 z).tr em)
    (fun j a ys es hj hs hl => by
      obtain ⟨s, k1, k2⟩ := r.at_ j _ hj
      rw [hs] at k1
      cases k1
      cases k2 with
      | own b n' nc h0 hl' z =>
        have := e.ext.keep _ _ hl' n'
        rw [hl] at this
        cases this
        exact (reps_more hq.1 z).tr em)
  refine ⟨g1, g2, (st.up e).ext, fun a z nn => ?_⟩
  rcases z with (z | z) | z
  · exact .inl z
  · exact absurd (z ▸ hq.1) nn
  · exact .inr (e.old a z nn)
theorem sd_own {cb : Bool} (S : SitB cb true X p k) {i : Nat} {x : Str} {e : Expr} {m : XE} {pos pos' : Pos} (hi : X.N[i]? = some x) (hx : Loc X.env.scope x) (he : PDF X p e m) (hs : swapsWith e (some (.Name x pos')) pos.line X.env = pure false := by rfl)
    (hf : X.fn x = true ∨ X.env.scope.names.lookup x = some .local := by first | exact .inl rfl | exact .inr rfl)  (hp : ∀ i, p.pin i = none := by assumption): PSD X p (.Assign [.Name x pos'] e pos) (sOwn i m) := by
  obtain ⟨te, a1, a2⟩ := he.ex
  refine ⟨_, ps_set S.nd hi hx a1 hs hf, fun B H σ E c P Dn st r m nx rt bk ct => ?_⟩
  refine a2 B H σ E _ _ _ st r m fun ds c1 q xs H1 m1 e1 s1 hq h1 rs => ?_
  obtain ⟨g1, g2, g3⟩ := own_put hp S.nf i r st e1 s1 hq h1 rs
  exact nx _ _ _ _ H1 m1 g2 g3 g1
/-- a, b = x, y -/
theorem sd_par (S : SitB true true X p k) {i j : Nat} {x y : Str} {a b : Expr} {ma mb : XE} {px py pt pos : Pos} {kt k2 pt2} (hi : X.N[i]? = some x) (hj : X.N[j]? = some y) (hij : i ≠ j) (hx : X.env.scope.names.lookup x = some .local) (hy : X.env.scope.names.lookup y = some .local)
    (ha : PD X p a ma) (hb : PD X p b mb) (hw : swappedStores [.Tuple [.Name x px, .Name y py] kt pt] (.Tuple [a, b] k2 pt2) X.env = pure (some [x, y])) (hs : swapsWithSole [.Tuple [.Name x px, .Name y py] kt pt] (.Tuple [a, b] k2 pt2) pos.line X.env = pure false := by rfl)
    (h1 : starEach [a, b] X.env = (false, eval a X.env) :: starEach [b] X.env := by rfl) (h2 : starEach [b] X.env = (false, eval b X.env) :: starEach [] X.env := by rfl) :
    PSD X p (.Assign [.Tuple [.Name x px, .Name y py] kt pt] (.Tuple [a, b] k2 pt2) pos) (sPar i j ma mb) := by
  obtain ⟨ta, a1, a2⟩ := ha.ex
  obtain ⟨tb, b1, b2⟩ := hb.ex
  refine ⟨_, ps_par S.calm S.nd hi hj hij hx hy (pa_cons a1 (pa_cons b1 pa_nil h2) h1) hw hs, fun B H σ E c P Dn st r m nx rt bk ct => ?_⟩
  refine a2 B H σ E _ _ _ st r m fun d c1 v H1 m1 e1 s1 r1 => ?_
  have st1 := st.go e1 s1
  refine b2 B H1 σ E _ _ _ st1 (r.go st e1) m1 fun d2 c2' v2 H2 m2 e2 s2 r2 => ?_
  have st2 := st1.go e2 s2
  exact ⟨v, v2, rfl, nx _ _ B _ H2 m2 st2 (st.up (e1.trans e2)) ((((r.go st e1).go st1 e2).val S.nf i (r1.tr (st1.up e2))).val S.nf j r2)⟩
/-- a, b = [..], y: the first one owned -/
def sParO (i j : Nat) (a b : XE) : XS := fun E => bnd (a E) fun x => bnd (b E) fun y => match x with
  | .list ds => ret (.nx ((E.set i (.own ds)).set j (.val y)))
  | _ => stuck
end
section
variable {X : Cx} {p : Par} {k : Nat} {K : PySem.W.Frag}
/-- the own list at q is another one -/
theorem own_upd {B : Addr → Prop} {H : Hp} {σ : L2.St} {E : Env} {n : Sx} {i : Nat} {q : Addr} {xs ys : List V} {ds es : List D} (nf : p.fx = none) (ok : p.Ok K X.mg) (r : EnvR K p n B H σ E) (st : St0 p n B H) (hi : E[i]? = some (.own ds)) (hs : σ[i]? = some (some (.ref q))) (hq : H q = some (.lst xs))
    (rs : Reps K (bm p B n) H ys es) : EnvR K p n B (upd H q (.lst ys)) σ (E.set i (.own es)) ∧ St0 p n B (upd H q (.lst ys)) ∧ Tr (bm p B n) H (bm p B n) (upd H q (.lst ys)) := by
  obtain ⟨s, k1, k2⟩ := r.at_ i _ hi
  rw [hs] at k1
  cases k1
  cases k2 with
  | own b n' nc h0 hl z =>
    have ex : Ext (bm p B n) H (upd H q (.lst ys)) := by
      refine ⟨fun a o e nb => ?_, fun a o e im => ?_, fun a nn => ?_⟩
      · have ne : a ≠ q := fun z => nb (by rw [z]; exact .inl b)
        rw [upd_ne ne]
        exact e
      · have ne : a ≠ q := fun z => by
          subst z
          rw [hq] at e
          cases e
          exact im
        rw [upd_ne ne]
        exact e
      · by_cases z : a = q
        · rw [z, upd_same]
          exact fun z => nomatch z
        · rw [upd_ne z]
          exact nn
    refine ⟨⟨by rw [List.length_set]; exact r.len, fun j e he => ?_, fun a b' x zs ws g1 g2 g3 g4 => ?_, .no nf, fun j a zs hp hj => ?_⟩, ⟨st.subc, fun a z => ex.dom a (st.trk a z), ?_, ?_, st.old⟩, .of ex⟩
    · rcases getElem?_set_cases he with ⟨rfl, hl', rfl⟩ | ⟨ne, he⟩
      · exact ⟨_, hs, .own b n' nc h0 upd_same (rs.mono ex)⟩
      · obtain ⟨s', g1, g2⟩ := r.at_ j e he
        refine ⟨s', g1, ?_⟩
        cases g2 with
        | unk _ => exact .unk _
        | val z => exact .val (z.mono ex)
        | @own a2 _ _ b2 n2 nc2 h02 hl2 z2 =>
          have na : a2 ≠ q := fun z => ne (r.nd i j q _ _ hi he hs (by rw [← z]; exact g1))
          exact .own b2 n2 nc2 h02 (by rw [upd_ne na]; exact hl2) (z2.mono ex)
        | stm => exact .stm
        | scr z => exact .scr fun H2 hk => z H2 fun o ho him => hk o (ex.imm _ o ho him) him
    · rcases getElem?_set_cases g1 with ⟨rfl, _, _⟩ | ⟨n1, g1⟩
      · rcases getElem?_set_cases g2 with ⟨rfl, _, _⟩ | ⟨n2, g2⟩
        · rfl
        · exact r.nd _ _ x _ _ hi g2 g3 g4
      · rcases getElem?_set_cases g2 with ⟨rfl, _, _⟩ | ⟨n2, g2⟩
        · exact r.nd _ _ x _ _ g1 hi g3 g4
        · exact r.nd _ _ x _ _ g1 g2 g3 g4
    · rcases getElem?_set_cases hj with ⟨rfl, _, _⟩ | ⟨n1, hj⟩
      · exact r.pn _ a _ hp hi
      · exact r.pn j a zs hp hj
    · refine ok.stab n H _ st.si (fun a o ha e => ?_) ex.imm
      have na : a ≠ q := fun z => n' (by rw [← z]; exact ha)
      rw [upd_ne na]
      exact e
    · refine ⟨⟨fun a o e nb => ?_, fun a o e im => ex.imm a o (st.ext.ext.imm a o e im) im, fun a nn => ex.dom a (st.ext.ext.dom a nn)⟩, st.ext.up, st.ext.old, fun g a z => ex.dom a (st.ext.dom g a z)⟩
      have na : a ≠ q := fun z => by
        subst z
        rw [h0] at e
        cases e
      rw [upd_ne na]
      exact st.ext.ext.keep a o e nb
theorem own_at {B : Addr → Prop} {n : Sx} {H : Hp} {σ : L2.St} {E : Env} {i : Nat} {ds : List D} (r : EnvR K p n B H σ E) (hi : E[i]? = some (.own ds)) : ∃ q xs, σ[i]? = some (some (.ref q)) ∧ B q ∧ ¬ p.B0 n q ∧ H q = some (.lst xs) ∧ Reps K (bm p B n) H xs ds := by
  obtain ⟨s, k1, k2⟩ := r.at_ i _ hi
  cases k2 with
  | own b n nc h0 hl z => exact ⟨_, _, k1, b, n, hl, z⟩
/-- xs.append(e) -/
theorem sd_app {cb : Bool} (S : SitB cb true X p k) (i : Nat) {x : Str} {e : Expr} {me : XE} {px pa pc pos : Pos} (he : PD X p e me)
    (hpe : ∀ {te : TE}, PE X e te → PE X (.Call (.Attribute (.Name x px) "append" pa) [e] [] pc) (tBM X.K "list" rAppend (tVar i) (tCons te tNil)))
    (hs : swapsWith (.Call (.Attribute (.Name x px) "append" pa) [e] [] pc) none pos.line X.env = pure false := by rfl) :
    PSD X p (.Expr (.Call (.Attribute (.Name x px) "append" pa) [e] [] pc) pos) (sApp i me) := by
  obtain ⟨te, a1, a2⟩ := he.ex
  refine ⟨_, ps_expr (hpe a1) hs, fun B H σ E c P Dn st r m nx rt bk ct => ?_⟩
  have m' : (match E[i]? with | some (.own ds) => bnd (me E) fun d => grd (small ds.length) (ret (Out.nx (E.set i (.own (ds ++ [d]))))) | _ => stuck) c P p.XP := m
  cases h : E[i]? with
  | none => rw [h] at m'; exact m'.elim
  | some y =>
    rw [h] at m'
    cases y with
    | own ds =>
      obtain ⟨q, xs, hsq, hb, hn, hl, rs⟩ := own_at r h
      refine ⟨.ref q, hsq, .inl ⟨rfl, xs, SqL.of hl⟩, ?_⟩
      refine a2 B H σ E _ _ _ st r m' fun d c1 v H1 m1 e1 s1 r1 => ?_
      have st1 := st.go e1 s1
      have rr := r.go st e1
      have hl1 := e1.ext.keep _ _ hl hn
      have rs1 := rs.tr (st.up e1)
      obtain ⟨g1, g2, g3⟩ := own_upd (ys := xs ++ [v]) (es := ds ++ [d]) S.nf S.ok rr st1 h hsq hl1 (rs1.append (.cons r1 .nil))
      exact ⟨q, xs, v, rfl, rfl, hl1, by rw [rs.length]; exact small_lt m1.1, nx _ _ _ _ _ m1.2 g2 ((st.up e1).trans g3) g1⟩
    | _ => exact m'.elim
end
end DL
end
section
namespace DL
open PySem PySem.Spec PyProof.Rows L2
section
variable {X : Cx} {p : Par} {k : Nat} {K : PySem.W.Frag}
theorem sd_setI {cb : Bool} (S : SitB cb true X p k) (i : Nat) {x : Str} {a e : Expr} {ma me : XE} {px pt pos : Pos} (hg : PG X (.Subscript (.Name x px) a pt) (gSub (tVar i) (teOf X.K p ma) rSetL)) (he : PD X p e me)
    (hs : swapsWithSole [.Subscript (.Name x px) a pt] e pos.line X.env = pure false := by rfl) (hw : swappedStores [.Subscript (.Name x px) a pt] e X.env = pure none := by rfl) :
    PSD X p (.Assign [.Subscript (.Name x px) a pt] e pos) (sSet i ma me) := by
  obtain ⟨te, b1, b2⟩ := he.ex
  refine ⟨_, ps_asg b1 hg hs hw, fun B H σ E c P Dn st r m nx rt bk ct => ?_⟩
  have m' : (match E[i]? with | some (.own ds) => bnd (me E) fun d => bnd (ma E) fun n => (match n with | .int z => (match L2.ixN ds.length z with | some j => ret (Out.nx (E.set i (.own (ds.set j d)))) | none => stuck) | _ => stuck) | _ => stuck) c P p.XP := m
  cases h : E[i]? with
  | none => rw [h] at m'; exact m'.elim
  | some y =>
    rw [h] at m'
    cases y with
    | own ds =>
      obtain ⟨q, xs, hsq, hb, hn, hl, rs⟩ := own_at r h
      refine b2 B H σ E _ _ _ st r m' fun d c1 v H1 m1 e1 s1 r1 => ?_
      have st1 := st.go e1 s1
      refine ⟨.ref q, hsq, ?_⟩
      refine ⟨B, E, c1, _, st1, r.go st e1, m1, fun d2 c2' v2 H2 m2 e2 s2 r2 => ?_⟩
      have st2 := st1.go e2 s2
      cases r2 with
      | int z =>
        have m2' : (match L2.ixN ds.length z with | some j => ret (Out.nx (E.set i (.own (ds.set j d)))) | none => stuck) c2' P p.XP := m2
        cases hj : L2.ixN ds.length z with
        | none => rw [hj] at m2'; exact m2'.elim
        | some j =>
          rw [hj] at m2'
          have hl1 := e1.ext.keep _ _ hl hn
          have hl2 := e2.ext.keep _ _ hl1 fun z => hn (e1.old _ z (some_ne hl))
          have rs2 := (rs.tr (st.up e1)).tr (st1.up e2)
          obtain ⟨g1, g2, g3⟩ := own_upd (ys := xs.set j v) (es := ds.set j d) S.nf S.ok ((r.go st e1).go st1 e2) st2 h hsq hl2 (Reps.set (r1.tr (st1.up e2)) j rs2)
          exact ⟨q, xs, z, j, rfl, rfl, hl2, by rw [rs.length]; exact hj, nx _ _ _ _ _ m2' g2 ((st.up (e1.trans e2)).trans g3) g1⟩
      | _ => exact m2.elim
    | _ => exact m'.elim
theorem less_tr {B : Addr → Prop} {n : Sx} {H : Hp} {q : Addr} : Tr (bm p B n) H (bm p (less B q) n) H := ⟨Ext.refl, fun a z _ => z.imp (fun z => z.1) id⟩
theorem sd_rel {cb : Bool} (S : SitB cb true X p k) (i : Nat) {s : Stmt} {m : XS} (h : PSD X p s m) : PSD X p s (sRel i m) := by
  obtain ⟨ts, a1, a2⟩ := h.ex
  refine ⟨ts, a1, fun B H σ E c P Dn st r mm nx rt bk ct => ?_⟩
  have m' : (match E[i]? with | some (.own ds) => m (E.set i (.val (.list ds))) | _ => m E) c P p.XP := mm
  cases q : E[i]? with
  | none => rw [q] at m'; exact a2 B H σ E _ P Dn st r m' nx rt bk ct
  | some y =>
    rw [q] at m'
    cases y with
    | own ds =>
      obtain ⟨w, r1, st1, _, _, _⟩ := r.rel S.nf st q
      exact a2 (less B w) H σ _ _ P Dn st1 r1 m' (fun E2 c2' B2 σ2 H2 m2 st2 t2 r2 => nx E2 c2' B2 σ2 H2 m2 st2 (less_tr.trans t2) r2) rt (fun E2 c2' B2 σ2 H2 m2 st2 t2 r2 => bk E2 c2' B2 σ2 H2 m2 st2 (less_tr.trans t2) r2) (fun E2 c2' B2 σ2 H2 m2 st2 t2 r2 => ct E2 c2' B2 σ2 H2 m2 st2 (less_tr.trans t2) r2)
    | _ => exact a2 B H σ E _ P Dn st r m' nx rt bk ct
/-- within a comprehension: no error may leave -/
def Par.quiet (p : Par) : Par := { p with XP := fun _ _ => False, EK := fun _ _ _ _ => False, fx := none }
theorem EvB.quiet {c c' : Sx} {H H' : Hp} (e : Ev p c H c' H') : Ev p.quiet c H c' H' := ⟨e.ext, e.up, e.old, e.dom⟩
theorem EvB.loud {c c' : Sx} {H H' : Hp} (e : Ev p.quiet c H c' H') : Ev p c H c' H' := ⟨e.ext, e.up, e.old, e.dom⟩
theorem St0.quiet {n : Sx} {B : Addr → Prop} {H : Hp} (s : St0 p n B H) : St0 p.quiet n B H := ⟨s.subc, s.trk, s.si, s.ext.quiet, s.old⟩
theorem St0.loud {n : Sx} {B : Addr → Prop} {H : Hp} (s : St0 p.quiet n B H) : St0 p n B H := ⟨s.subc, s.trk, s.si, s.ext.loud, s.old⟩
theorem Slot.quiet {n : Sx} {B : Addr → Prop} {H : Hp} {x : Option V} {y : Ent} (s : Slot K p n B H x y) : Slot K p.quiet n B H x y := by
  cases s with
  | unk _ => exact .unk _
  | val r => exact .val r
  | own b n nc h0 hl r => exact .own b n nc h0 hl r
  | stm => exact .stm (p := p.quiet)
  | scr q => exact .scr q
theorem EnvR.quiet {n : Sx} {B : Addr → Prop} {H : Hp} {σ : L2.St} {E : Env} (r : EnvR K p n B H σ E) : EnvR K p.quiet n B H σ E :=
  ⟨r.len, fun i e q => let ⟨s, h1, h2⟩ := r.at_ i e q; ⟨s, h1, h2.quiet⟩, r.nd, .no rfl, r.pn⟩
theorem SitB.quiet {cb vb : Bool} (S : SitB cb vb X p k) {s : Shared} {H : Hp} {scope : Scope} {cenv : PySem.Env} {fp : List Addr} : SitB cb true (X.blk s H scope cenv fp) p.quiet k :=
  ⟨S.calm_, S.gd, S.rm, S.nd, ⟨S.ok.stab, fun _ _ _ _ _ _ _ _ _ _ _ h => h.elim⟩, PassesOwn.never, takes0D, fun _ => rfl, S.sm⟩
theorem compL_drop {t : Tg} {mt : XT} {me : XE} {ds acc : List D} {i : Nat} {d : D} (h : ds[i]? = some d) (E : Env) : compL t mt me (ds.drop i) acc E = match t.put d E with
    | none => stuck
    | some E1 => bnd (mt E1) fun c => if c = true then bnd (me E1) fun y => grd (small acc.length) (compL t mt me (ds.drop (i + 1)) (acc ++ [y]) E) else compL t mt me (ds.drop (i + 1)) acc E := by
  obtain ⟨hl, e⟩ := List.getElem?_eq_some_iff.mp h
  rw [List.drop_eq_getElem_cons hl, e]
  rfl
/-- the state's places and one new place -/
def plusQ (p : Par) (n : Sx) (q : Addr) : Addr → Prop := fun a => p.B0 n a ∨ a = q
structure EvQ (p : Par) (q : Addr) (n : Sx) (H : Hp) (n' : Sx) (H' : Hp) : Prop where
  ext : Ext (plusQ p n q) H H'
  up : ∀ a, p.B0 n a → p.B0 n' a
  old : ∀ a, p.B0 n' a → H a ≠ none → p.B0 n a
  dom : (∀ a, p.B0 n a → H a ≠ none) → ∀ a, p.B0 n' a → H' a ≠ none
theorem EvB.q {n n' : Sx} {H H' : Hp} {q : Addr} (e : Ev p n H n' H') : EvQ p q n H n' H' := ⟨e.ext.more fun a z => .inl z, e.up, e.old, e.dom⟩
theorem EvQ.trans {c c' c'' : Sx} {H H' H'' : Hp} {q : Addr} (a : EvQ p q c H c' H') (b : EvQ p q c' H' c'' H'') : EvQ p q c H c'' H'' where
  ext := ⟨fun x o e n => b.ext.keep x o (a.ext.keep x o e n) fun z => n (z.imp (fun z => a.old x z (some_ne e)) id), fun x o e i => b.ext.imm x o (a.ext.imm x o e i) i, fun x n => b.ext.dom x (a.ext.dom x n)⟩
  up := fun x h => b.up x (a.up x h)
  old := fun x z n => a.old x (b.old x z (a.ext.dom x n)) n
  dom := fun q => b.dom (a.dom q)
theorem EvQ.of {n : Sx} {H H' : Hp} {q : Addr} (e : Ext (plusQ p n q) H H') : EvQ p q n H n H' := ⟨e, fun _ z => z, fun _ z _ => z, fun g a z => e.dom a (g a z)⟩
theorem EvQ.ev {n n' : Sx} {H H' : Hp} {q : Addr} (hq : H q = none) (e : EvQ p q n H n' H') : Ev p n H n' H' :=
  ⟨⟨fun a o h n => e.ext.keep a o h (fun z => z.elim n (fun z => absurd (z ▸ h) (by rw [hq]; exact fun z => nomatch z))), e.ext.imm, e.ext.dom⟩, e.up, e.old, e.dom⟩
theorem tr_q {n n' : Sx} {B : Addr → Prop} {H H' : Hp} {q : Addr} (_ : St0 p n B H) (hq : H q = none) (e : EvQ p q n H n' H') : Tr (bm p B n) H (bm p (more B q) n') H' :=
  ⟨(e.ev hq).tr.ext, fun a z nn => by
    rcases z with (z | z) | z
    · exact .inl z
    · exact absurd (z ▸ hq) nn
    · exact .inr (e.old a z nn)⟩
theorem st_q {n n' : Sx} {B : Addr → Prop} {H H' : Hp} {q : Addr} (st : St0 p n B H) (hq : H q = none) (e : EvQ p q n H n' H') (si : p.SI n' H') (hn : H' q ≠ none) : St0 p n' (more B q) H' := by
  have s' := st.go (e.ev hq) si
  refine ⟨fun a z => (s'.subc a z).imp .inl id, fun a z => ?_, si, s'.ext, fun a b h => b.elim (fun z => s'.old a z h) fun z => absurd hq (st.ext.ext.dom q (z ▸ h))⟩
  rcases z with (z | z) | z
  · exact s'.trk a (.inl z)
  · rw [z]
    exact hn
  · exact s'.trk a (.inr z)
theorem env_q0 (nf : p.fx = none) {n n' : Sx} {B : Addr → Prop} {H H' : Hp} {q : Addr} {σ : L2.St} {E : Env} (r : EnvR K p n B H σ E) (st : St0 p n B H) (hq : H q = none) (e : EvQ p q n H n' H') : EnvR K p n' (more B q) H' σ E := by
  have em : Tr (bm p (more B q) n) H (bm p (more B q) n') H' := (e.ev hq).tr
  refine ⟨r.len, fun i x h => ?_, r.nd, .no nf, r.pn⟩
  obtain ⟨s, k1, k2⟩ := r.at_ i x h
  refine ⟨s, k1, ?_⟩
  cases k2 with
  | unk _ => exact .unk _
  | val z => exact .val ((rep_more hq z).tr em)
  | own b n' nc h0 hl z => exact .own (.inl b) (fun z => n' (e.old _ z (some_ne hl))) nc h0 ((e.ev hq).ext.keep _ _ hl n') ((reps_more hq z).tr em)
  | stm => exact .stm
  | scr z => exact .scr fun H2 hk => z H2 fun o ho hi => hk o (e.ext.imm _ o ho hi) hi
theorem env_q {n n' : Sx} {B : Addr → Prop} {H H' : Hp} {q : Addr} {σ : L2.St} {E : Env} (r : EnvR K p n B H σ E) (st : St0 p n B H) (hq : H q = none) (e : EvQ p q n H n' H') : EnvR K p.quiet n' (more B q) H' σ E :=
  env_q0 (p := p.quiet) rfl r.quiet st.quiet hq ⟨e.ext, e.up, e.old, e.dom⟩
theorem upd_q {B : Addr → Prop} {H : Hp} {q : Addr} {xs ys : List V} (b : B q) (hq : H q = some (.lst xs)) : Ext B H (upd H q (.lst ys)) := by
  refine ⟨fun a o e nb => ?_, fun a o e im => ?_, fun a nn => ?_⟩
  · have ne : a ≠ q := fun z => nb (by rw [z]; exact b)
    rw [upd_ne ne]
    exact e
  · have ne : a ≠ q := fun z => by
      subst z
      rw [hq] at e
      cases e
      exact im
    rw [upd_ne ne]
    exact e
  · by_cases z : a = q
    · rw [z, upd_same]
      exact fun z => nomatch z
    · rw [upd_ne z]
      exact nn
theorem ev_comp {cb : Bool} {vb : Bool} (S : SitB cb vb X p k) {wi : TI} {t : Tg} {mi : XA} {mt : XT} {me : XE} {vs : List Nat}
    (hi : ∀ (B : Addr → Prop) (H : Hp) (σ : L2.St) (E : Env) (c : Sx) (P : List D → Sx → Prop) (R : It → Hp → Prop), St0 p c B H → EnvR X.K p c B H σ E → mi E c P p.XP →
      (∀ ds c' J H', P ds c' → Ev p c H c' H' → p.SI c' H' → WalkD X.K (bm p B c') H' J ds → R J H') → wi σ H R) (hx : ∀ j ∈ t.ix, j ∈ vs) :
    EvF X.K p (tLc wi (gOf X.K t) (ttOf X.K p.quiet mt) (teOf X.K p.quiet me) vs) (eComp mi t mt me vs) := by
  intro B H σ E c P Q st r m kk
  refine hi B H σ E _ _ _ st r m fun ds c1 J H1 m1 e1 s1 w => ?_
  have st1 := st.go e1 s1
  intro q hq
  have q0 := q_new st1 e1 hq
  obtain ⟨G, g0, g1, wk⟩ := w.ex
  have r1 := r.go st e1
  have x0 : EvQ p q c1 H1 c1 (upd H1 q (.lst [])) := .of (All.new hq).ext
  refine lc_it wk (fun i H' => ∃ acc accD c', H' q = some (.lst acc) ∧ Reps X.K (bm p (more B q) c') H' acc accD ∧ p.SI c' H' ∧ (¬ p.B0 c' q ∧ EvQ p q c1 H1 c' H') ∧ compL t mt me (ds.drop i) accD (wipeE E vs) c' (fun ys n => P (.list ys) n) (fun _ _ => False))
    ⟨[], [], c1, upd_same, .nil, st1.all S.ok (All.new hq), ⟨q0.2, x0⟩, m1⟩ (fun i H' _ ⟨acc, accD, c', h1, h2, h3, h4, h5⟩ => g1 _ H' (tr_q st1 hq h4.2)) ?_ ?_
  · rintro i x H' H'' hi' ⟨acc, accD, c', h1, h2, h3, ⟨nq, h4⟩, h5⟩ ⟨al, y⟩
    have stq := st_q st1 hq h4 h3 (by rw [h1]; exact fun z => nomatch z)
    obtain ⟨d, hd, rd⟩ := y _ (tr_q st1 hq h4) stq.trk
    rw [compL_drop hd] at h5
    cases hp : t.put d (wipeE E vs) with
    | none => rw [hp] at h5; exact h5.elim
    | some E1 =>
      rw [hp] at h5
      have h4' : EvQ p q c1 H1 c' H'' := h4.trans (All.ev (Z := p.B0) al).q
      have s'' : p.SI c' H'' := stq.all S.ok al
      have hq'' : H'' q = some (.lst acc) := al q _ h1
      have stq2 := st_q st1 hq h4' s'' (by rw [hq'']; exact fun z => nomatch z)
      have rq2 := env_q r1 st1 hq h4'
      refine gOf_put rfl (rq2.wipe rfl vs) rd hp _ fun σ2 g2 gl gx => ?_
      refine ⟨?_, ?_⟩
      · exact (wipe_same gl fun j hj => gx j fun z => hj (hx j z)).trans (wipe_wipe σ vs)
      · refine ⟨more B q, E1, c', _, stq2.quiet, g2, h5, fun b c2 H3 m3 e3 s3 => ?_⟩
        have h43 : EvQ p q c1 H1 c2 H3 := h4'.trans e3.loud.q
        have nq3 : ¬ p.B0 c2 q := fun z => nq (e3.old q z (some_ne hq''))
        have hq3 : H3 q = some (.lst acc) := e3.ext.keep q _ hq'' nq
        have rs3 : Reps X.K (bm p (more B q) c2) H3 acc accD := (h2.mono al.ext).tr (stq2.up e3.loud)
        cases b with
        | false => exact ⟨acc, accD, c2, hq3, rs3, s3, ⟨nq3, h43⟩, m3⟩
        | true =>
          have stq3 := st_q st1 hq h43 s3 (by rw [hq3]; exact fun z => nomatch z)
          refine ⟨more B q, E1, c2, _, stq3.quiet, g2.go stq2.quiet e3, m3, fun y c4 v H4 m4 e4 s4 r4 => ?_⟩
          have h44 : EvQ p q c1 H1 c4 H4 := h43.trans e4.loud.q
          have nq4 : ¬ p.B0 c4 q := fun z => nq3 (e4.old q z (some_ne hq3))
          have hq4 : H4 q = some (.lst acc) := e4.ext.keep q _ hq3 nq3
          have rs4 := rs3.tr (stq3.up e4.loud)
          have x5 : Ext (plusQ p c4 q) H4 (upd H4 q (.lst (acc ++ [v]))) := upd_q (.inr rfl) hq4
          have x5' : Ext (bm p (more B q) c4) H4 (upd H4 q (.lst (acc ++ [v]))) := upd_q (.inl (.inr rfl)) hq4
          refine ⟨acc, hq4, by rw [rs4.length]; exact small_lt m4.1, acc ++ [v], accD ++ [y], c4, upd_same, (rs4.append (.cons r4 .nil)).mono x5', ?_, ⟨nq4, h44.trans (.of x5)⟩, m4.2⟩
          refine S.ok.stab c4 H4 _ s4 (fun a o ha e => ?_) x5.imm
          have na : a ≠ q := fun z => nq4 (by rw [← z]; exact ha)
          rw [upd_ne na]
          exact e
  · rintro H' ⟨acc, accD, c', h1, h2, h3, ⟨nq, h4⟩, h5⟩
    rw [List.drop_length] at h5
    exact kk accD c' q acc H' h5 (e1.trans (h4.ev hq)) h3 ⟨q0.1, nq⟩ h1 h2
theorem pf_comp {vb : Bool} (S : SitB true vb X p k) {elt tg iter : Expr} {ifs : List Expr} {scope : Scope} {pos : Pos} {t : Tg} {mi : XA} {mt : XT} {me : XE} (own : List (Str × Nat)) (hi : PDI X p tg iter mi) (ok : BlkOk X.N X.env.scope scope own) (hx : ∀ j ∈ t.ix, j ∈ own.map (·.2))
    (hg : ∀ (s : Shared) (H : Hp) (C : Addr) (cl : List (Str × Addr)) (fp : List Addr), PG (X.blk s H scope (compEnvC scope cl C X.env) fp) tg (gOf X.K t))
    (ht : ∀ (s : Shared) (H : Hp) (C : Addr) (cl : List (Str × Addr)) (fp : List Addr), Sit (X.blk s H scope (compEnvC scope cl C X.env) fp) p.quiet k → PDTs (X.blk s H scope (compEnvC scope cl C X.env) fp) p.quiet ifs mt)
    (he : ∀ (s : Shared) (H : Hp) (C : Addr) (cl : List (Str × Addr)) (fp : List Addr), Sit (X.blk s H scope (compEnvC scope cl C X.env) fp) p.quiet k → PD (X.blk s H scope (compEnvC scope cl C X.env) fp) p.quiet elt me)
    (hs : ∀ x, foldedSetIterable iter X.env x = pure x := by intro _; rfl) : PDF X p (.ListComp elt [⟨tg, iter, ifs, 0⟩] scope pos) (eComp mi t mt me (own.map (·.2))) := by
  obtain ⟨wi, a1, a2⟩ := hi.ex
  exact ⟨_, pe_lc (tt := ttOf X.K p.quiet mt) (te := teOf X.K p.quiet me) S.calm S.nd a1 ok hg (fun s H C cl fp => (ht s H C cl fp S.quiet).pts) (fun s H C cl fp => (he s H C cl fp S.quiet).pe) hs, ev_comp S a2 hx⟩
/-- name = [..]: the name a local; w: owned -/
theorem sd_comp (S : SitB true true X p k) {i : Nat} {y : Str} {py spos : Pos} {elt tg iter : Expr} {ifs : List Expr} {scope : Scope} {pos : Pos} {t : Tg} {mi : XA} {mt : XT} {me : XE} (own : List (Str × Nat)) (hy : X.N[i]? = some y) (hyl : X.env.scope.names.lookup y = some .local)
    (hsw : swapsWith (.ListComp elt [⟨tg, iter, ifs, 0⟩] scope pos) (some (.Name y py)) spos.line X.env = pure true) (hi : PDI X p tg iter mi) (ok : BlkOk X.N X.env.scope scope own) (hx : ∀ j ∈ t.ix, j ∈ own.map (·.2))
    (hg : ∀ (s : Shared) (H : Hp) (C : Addr) (cl : List (Str × Addr)) (fp : List Addr), PG (X.blk s H scope (compEnvC scope cl C X.env) fp) tg (gOf X.K t))
    (ht : ∀ (s : Shared) (H : Hp) (C : Addr) (cl : List (Str × Addr)) (fp : List Addr), Sit (X.blk s H scope (compEnvC scope cl C X.env) fp) p.quiet k → PDTs (X.blk s H scope (compEnvC scope cl C X.env) fp) p.quiet ifs mt)
    (he : ∀ (s : Shared) (H : Hp) (C : Addr) (cl : List (Str × Addr)) (fp : List Addr), Sit (X.blk s H scope (compEnvC scope cl C X.env) fp) p.quiet k → PD (X.blk s H scope (compEnvC scope cl C X.env) fp) p.quiet elt me)
    (hs : ∀ x, foldedSetIterable iter X.env x = pure x := by intro _; rfl) : PSD X p (.Assign [.Name y py] (.ListComp elt [⟨tg, iter, ifs, 0⟩] scope pos) spos) (sAsg i (eComp mi t mt me (own.map (·.2)))) := by
  obtain ⟨wi, a1, a2⟩ := hi.ex
  exact ⟨_, ps_setLc (tt := ttOf X.K p.quiet mt) (te := teOf X.K p.quiet me) S.calm S.nd hy hyl hsw a1 ok hg (fun s H C cl fp => (ht s H C cl fp S.quiet).pts) (fun s H C cl fp => (he s H C cl fp S.quiet).pe) hs, sr_asg S.nf (ev_comp S a2 hx).ev⟩
end
end DL
end
section
namespace DL
open PySem PySem.Spec PyProof.Rows L2
/-- a def of the module, without defaults; .. with keyword-only ones -/
abbrev FnPk (K : PySem.W.Frag) (x qual : Str) (st : Stmt) (kws : List (Str × V)) (f : Addr) (fd : FuncData) : Prop := FunD K x qual (defArgs st) (defBody st) (defScope st) [] kws f fd
abbrev FnP (K : PySem.W.Frag) (x qual : Str) (st : Stmt) (f : Addr) (fd : FuncData) : Prop := FnPk K x qual st [] f fd
/-- a def keeps its promise wherever no repr is under way -/
structure FnG (cb : Bool) (P : Program) (w : World) (K : PySem.W.Frag) (mg : Str → Option Value) (base : Heap) (k : Nat) (f : Addr) (fd : FuncData) (ps : List Str) (sp : Sp) : Prop where
  len : ∀ vs H Q E, sp vs H Q E → vs.length = ps.length
  go : ∀ (A : Around) (outer : List PySem.Env) (s : Shared) (H : Hp) (args : Args) (us : List Value) (vs : List V) (Q : VK) (E : XK), RoomB cb k A → A.guards = some [] → Env0 P w K mg base A outer s H →
    BindsTo s fd args (ps.zip us) → Vals vs us → sp vs H Q E → codeAny (model P w) A (.call (.ref f) args) (CR (CXd K P w) outer P w H s Q E) s
section
variable {P : Program} {w : World} {K : PySem.W.Frag} {mg : Str → Option Value} {base : Heap} {cb : Bool}
theorem FnG.mono {j k : Nat} {f : Addr} {fd : FuncData} {ps : List Str} {sp : Sp} (F : FnG cb P w K mg base j f fd ps sp) (h : j ≤ k) : FnG cb P w K mg base k f fd ps sp :=
  ⟨F.len, fun A outer s H args us vs Q E hr => F.go A outer s H args us vs Q E (hr.mono h)⟩
/-- a body's context; cb: nothing is handled -/
abbrev bodyX (cb : Bool) (P : Program) (w : World) (K : PySem.W.Frag) (mg : Str → Option Value) (base : Heap) (N : List Str) (qual : Str) (st : Stmt) (f : Addr) (cdv : Value) (A : Around) (outer : List PySem.Env) (s : Shared) (H : Hp) (E : XK) : Cx :=
  { cxOf (CXd K P w) P w K mg base N qual (defScope st) f cdv A outer s H E with calm := cb }
/-- .. at its start, also where something is handled -/
theorem inv_cool {cb : Bool} {A A' : Around} {N : List Str} {qual : Str} {st : Stmt} {f : Addr} {cdv : Value} {outer : List PySem.Env} {s s1 : Shared} {H : Hp} {E : XK} {σ : L2.St} (hc : cb = true → A.handled = none) (hf : A.frames = A'.frames)
    (I : Inv (cxOf (CXd K P w) P w K mg base N qual (defScope st) f cdv A' outer s H E) [] σ H s1) : Inv (bodyX cb P w K mg base N qual st f cdv A outer s H E) [] σ H s1 := by
  have k := I.ok
  have fr : (A.deeper (envOfC qual (defScope st) s.heap.objs.size f cdv)).frames = some (envOfC qual (defScope st) s.heap.objs.size f cdv :: outer) := by
    have e1 : (A'.deeper (envOfC qual (defScope st) s.heap.objs.size f cdv)).frames = some (envOfC qual (defScope st) s.heap.objs.size f cdv :: outer) := k.frames
    have e2 : ∀ B : Around, (B.deeper (envOfC qual (defScope st) s.heap.objs.size f cdv)).frames = B.frames.map (envOfC qual (defScope st) s.heap.objs.size f cdv :: ·) := fun B => rfl
    rw [e2] at e1 ⊢
    rw [hf]
    exact e1
  exact ⟨⟨k.mod, k.kind, k.glob, k.blt, k.above, k.inj, k.has, k.cab, hc, fr, k.stk, k.exf, k.bs, k.bsz, k.noex, k.exfs, k.funs, k.frf⟩, I.os, I.bare, I.base, I.loc, I.cell, I.free, I.freeC, I.pin, I.hok, I.len⟩
/-- a def by its body -/
theorem fnG_body {x qual : Str} {st : Stmt} {f : Addr} {fd : FuncData} {N ps : List Str} {k : Nat} {sp : Sp} {kws : List (Str × V)} (F : FnPk K x qual st kws f fd) (S : FnScope N ps (defScope st)) (len : ∀ vs H Q E, sp vs H Q E → vs.length = ps.length)
    (body : ∀ (cdv : Value) (A : Around) (outer : List PySem.Env) (s : Shared) (H : Hp) (vs : List V) (Q : VK) (E : XK), RoomB cb k (A.deeper (envOfC qual (defScope st) s.heap.objs.size f cdv)) → (A.deeper (envOfC qual (defScope st) s.heap.objs.size f cdv)).guards = some [] → sp vs H Q E →
      ∃ t, PSs (bodyX cb P w K mg base N qual st f cdv A outer s H E) (defBody st) t ∧ t { nx := fun _ H' => Q .non H', rt := Q } (L2.start N vs) H) : FnG cb P w K mg base (k + 1) f fd ps sp := by
  obtain ⟨oc, od, dV, kV, doc, pm, an, cdv, ct, osl, rfl, lk, hcd, _, _⟩ := F.ex
  refine ⟨len, fun A outer s H args us vs Q E hr hgd e0 hb rv hsp => ?_⟩
  have lengths := len vs H Q E hsp
  have inHeap : K.In s.heap := e0.mod.kin.keeps (fun b o q => (e0.bs b o q).1)
  have noLimit : s.heap.NoLimit := e0.mod.nolimit.keeps (fun b o q => (e0.bs b o q).1)
  refine codeAny_call_function hr.depth (inHeap f _ lk) rfl S.co S.gen rfl (PySem.W.codeRec_of inHeap hcd) (hb _ _ _ _ ?_)
  refine wpAny_newFunctionEnv_cells S.kind (fun y hy => ?_) (fun env henv s1 entered => ?_)
  · obtain ⟨n, v⟩ := y
    rcases S.par n (List.of_mem_zip hy).1 with hl | hc
    · exact Or.inl hl
    · exact Or.inr ⟨hc, PySem.W.cellsFrom_some _ _ _ (Or.inl hc)⟩
  · subst henv
    refine ⟨noLimit.keeps entered.toInCall.keep, codeAny_func ?_⟩
    obtain ⟨t, ht, hq⟩ := body cdv A outer s H vs Q E (hr.deeper _) hgd hsp
    have e1 : Env0 P w K mg base ({ A with handled := none }) outer s H := ⟨e0.frames, e0.mod, e0.bs, e0.bsz, e0.funs, e0.frf, e0.hok, e0.bare⟩
    have J0 := inv_cool (A := A) (cb := cb) hr.hd_ rfl (A' := { A with handled := none }) (inv_start (A := { A with handled := none }) (CX := CXd K P w) (P := P) (w := w) (mg := mg) (base := base) (E := E) S rfl e1 lengths rv entered)
    refine wpAny_mono (ht.run [] s1 (L2.start N vs) H _ J0 hq) (fun fl s' done => ?_) (fun _ _ left => left)
    cases fl with
    | brk => obtain ⟨_, _, _, no⟩ := done; exact no.elim
    | cont => obtain ⟨_, _, _, no⟩ := done; exact no.elim
    | next =>
      obtain ⟨σ', H', J, q⟩ := done
      exact ⟨V.non, H', J.os, J.bare, J.base, J.hok, rfl, q⟩
    | ret u =>
      obtain ⟨v, σ', H', J, r, q⟩ := done
      exact ⟨v, H', J.os, J.bare, J.base, J.hok, r, q⟩
end
section
variable {X : Cx} {p : Par} {k : Nat} {cb vb : Bool}
/-- the callee runs; what it may let out is taken -/
theorem run_G {pins : List (Addr × Obj)} {σ : L2.St} {H : Hp} {s : Shared} {Q : VK} {us : List Value} {vs : List V} {f : Addr} {fd : FuncData} {ps : List Str} {sp : Sp} {E : XK} (F : FnG cb X.prog X.w X.K X.mg X.base k f fd ps sp) (hr : RoomB cb k X.A) (hg : X.A.guards = some []) (hb : Binds X.K fd ps [])
    (hx : PassesAt (CXd X.K X.prog X.w) X σ E) (I : Inv X pins σ H s) (r : Vals vs us) (h : sp vs H Q E) : wpAny (model X.prog X.w) X.A (call (.ref f) us) (EP X pins σ Q) X.xe s := by
  have hl : us.length = ps.length := r.length.symm.trans (F.len vs H Q E h)
  have bound := hb s us I.kIn (by rw [List.append_nil]; exact hl)
  rw [List.append_nil] at bound
  refine wpAny_call (codeAny_mono (F.go X.A X.stack s H ⟨us, []⟩ us vs Q E hr hg I.env0 bound r h) (fun res s' hq => ?_))
  match res, hq with
  | .error e, hq => exact hx pins H s e s' I hq
  | .ok (.ret u), hq => exact I.after hq
  | .ok .next, hq => exact hq.elim
  | .ok .brk, hq => exact hq.elim
  | .ok .cont, hq => exact hq.elim
theorem pe_G {f : Addr} {fd : FuncData} {ps : List Str} {sp : Sp} {E : L2.St → XK} {x : Str} {pn pos : Pos} {e : Expr} {es : List Expr} {t : TA} (F : FnG cb X.prog X.w X.K X.mg X.base k f fd ps sp) (hr : RoomB cb k X.A) (hgd : X.A.guards = some []) (hm : X.mg x = some (.ref f)) (hk : PySem.W.keepIn X.K (.ref f) = true)
    (hb : Binds X.K fd ps []) (hx : ∀ σ, PassesAt (CXd X.K X.prog X.w) X σ (E σ)) (ha : PA X (e :: es) t) (hg : Gl X x := by rfl) (hdb : (x == ("__debug__" : Str)) = false := by decide) (he : starEach (e :: es) X.env = (false, eval e X.env) :: starEach es X.env := by rfl)
    (hpl : (backTo pos (starEach es X.env)).any (·.1) = false := by rfl) : PE X (.Call (.Name x pn) (e :: es) [] pos) (tCallSD sp [] E t) := by
  refine ⟨fun pins s σ H Q I h => wpAny_Call_Name_kw (ld_glob I hg hm ?_ hdb)⟩
  refine PySem.W.callWith_K (h₀ := X.base) I.ok.mod.kin hk (thn (ha.run pos pins s σ H _ I h) ?_) he hpl
  rintro us s1 ⟨vs, H1, I1, r1, q1⟩
  rw [List.append_nil] at q1
  exact ⟨I1.kIn, run_G F hr hgd hb (hx σ) I1 r1 q1⟩
end
theorem exrep_go {K : PySem.W.Frag} {mg : Str → Option Value} {B B' : Addr → Prop} {H : Hp} {x : Exn} {c : Value} {d : Option Addr} (h : ∀ a, B' a → B a) (r : ExRep K mg B H x c d) : ExRep K mg B' H x c d := by
  obtain ⟨h1, h2, h3⟩ := r
  refine ⟨h1, h2, ?_⟩
  obtain ⟨xc, xf⟩ := x
  match xf, h3 with
  | [], h3 => exact h3
  | [(f, y)], ⟨dd, v, e1, e2, e4, e3⟩ => exact ⟨dd, v, e1, e2, fun z => e4 (h _ z), e3.less h⟩
  | _ :: _ :: _, h3 => exact h3
/-- a def that draws nothing: it does what m does of its arguments -/
def spF (K : PySem.W.Frag) (mg : Str → Option Value) (m : Fn) : Sp := fun vs H Q EK => ∃ (B : Addr → Prop) (ds : List D) (c : Sx) (P : D → Sx → Prop) (XP : Exn → Sx → Prop),
  (∀ a, B a → H a ≠ none) ∧ Reps K B H vs ds ∧ m ds c P XP ∧ (∀ d v H', P d c → All H H' → Rep K B H' v d → Q v H') ∧ ∀ x cl dd H', XP x c → All H H' → ExRep K mg B H' x cl dd → EK cl dd H'
/-- the stream at S: its large cells at L, its cells at C -/
def strB (S L C : Addr) : Addr → Prop := fun a => a = S ∨ a = L ∨ a = C
structure StrI (S L C : Addr) (c : Nat) (H : Hp) : Prop where
  sl : S ≠ L
  sc : S ≠ C
  lc : L ≠ C
  ex : ∃ (ls cs : List Int) (t : Nat), t ≤ c ∧ H S = some (.lst [.ref L, .ref C, .int t]) ∧ H L = some (.lst (ls.map V.int)) ∧ H C = some (.lst (cs.map V.int)) ∧ cs ≠ [] ∧ (∀ x ∈ ls, 0 ≤ x) ∧ (∀ x ∈ cs, 0 ≤ x) ∧ cs.length ≤ 1000
theorem StrI.at_ {S L C a : Addr} {c : Nat} {H : Hp} (h : StrI S L C c H) (b : strB S L C a) : H a ≠ none := by
  obtain ⟨ls, cs, t, _, h1, h2, h3, _⟩ := h.ex
  rcases b with rfl | rfl | rfl
  · rw [h1]; exact fun z => nomatch z
  · rw [h2]; exact fun z => nomatch z
  · rw [h3]; exact fun z => nomatch z
/-- what the text must say of a class whose objects have cells -/
structure ClsP (K : PySem.W.Frag) (n : Str) : Prop where
  cls : Cls K (He.ga K n)
  nat : ∀ f ∈ fldN, NoAttr K (He.ga K n) f
/-- the table of the code objects of the lambdas that the def x makes -/
def lamQ (x : Str) : Str := (envOfC x default 0 0 .none).qual ++ "<lambda>"
/-- what a cell is in the heap: its data holds no lists but cells -/
inductive CellAt (K : PySem.W.Frag) (H : Hp) (a : Addr) : Cell → Prop
  | lst {xs : List V} {ds : List D} : H a = some (.lst xs) → flatAll ds = true → Reps K (fun _ => False) H xs ds → CellAt K H a (.lst ds)
  | ins {n : Str} {dx : Addr} {xs : List (Str × V)} {fs : List (Str × D)} : ClsP K n → (∀ f ∈ fs.map (·.1), f ∈ fldN) → (fs.map (·.1)).Nodup → H a = some (.ins (He.ga K n) dx xs) → xs.map (·.1) = fs.map (·.1) → flatAll (fs.map (·.2)) = true → Reps K (fun _ => False) H (xs.map (·.2)) (fs.map (·.2)) → CellAt K H a (.ins n fs)
  | tab {x : Str} {c : Addr} : PySem.W.tabIn K x = some (c, a) → LamX.TabS H a (lamQ x) → CellAt K H a (.tab x)
/-- the places of the state: the stream's, the cells -/
def cB (S L C : Addr) (c : Sx) : Addr → Prop := fun a => strB S L C a ∨ c.mu a ≠ none
structure StI (K : PySem.W.Frag) (S L C : Addr) (c : Sx) (H : Hp) : Prop where
  str : StrI S L C c.n H
  at_ : ∀ a x, c.mu a = some x → ¬ strB S L C a ∧ CellAt K H a x
theorem CellAt.there {K : PySem.W.Frag} {H : Hp} {a : Addr} {x : Cell} (h : CellAt K H a x) : H a ≠ none := by
  cases h with
  | lst e _ _ => exact some_ne e
  | ins _ _ _ e _ _ _ => exact some_ne e
  | tab _ t => obtain ⟨_, e, _⟩ := t; exact some_ne e
theorem StI.there {K : PySem.W.Frag} {S L C a : Addr} {c : Sx} {H : Hp} (h : StI K S L C c H) (b : cB S L C c a) : H a ≠ none := by
  rcases b with b | b
  · exact h.str.at_ b
  · cases e : c.mu a with
    | none => exact absurd e b
    | some x => exact (h.at_ a x e).2.there
/-- data that holds no lists: what is locked is kept -/
def Kept (H H' : Hp) : Prop := ∀ a o, H a = some o → Imm o → H' a = some o
theorem Kept.sqT {K : PySem.W.Frag} {H H' : Hp} (h : Kept H H') {a : Addr} {xs : List V} (q : SqT K H a xs) : SqT K H' a xs := by
  rcases q with (q | ⟨o, q⟩) | q
  · exact .inl (.inl (h a _ q True.intro))
  · exact .inl (.inr ⟨o, h a _ q True.intro⟩)
  · exact .inr q
mutual
theorem Rep.kept {K : PySem.W.Frag} {B B' : Addr → Prop} {H H' : Hp} (h : Kept H H') : ∀ {v : V} {d : PyData}, DL.flat d = true → Rep K B H v d → Rep K B' H' v d
  | _, _, _, .non => .non
  | _, _, _, .bl b => .bl b
  | _, _, _, .int i => .int i
  | _, _, _, .str x => .str x
  | _, _, h, .lst _ _ _ => by simp [DL.flat] at h
  | _, _, g, .tup e r => .tup (h.sqT e) (Reps.kept h (by simpa [DL.flat] using g) r)
  | _, _, h, .dct0 _ _ => by simp [DL.flat] at h
  | _, _, h, .dct1 _ _ _ => by simp [DL.flat] at h
  | _, _, h, .exn0 _ _ _ => by simp [DL.flat, xD] at h
  | _, _, h, .exn1 _ _ _ _ _ _ => by simp [DL.flat, xD] at h
  | _, _, _, .rf a => .rf a
  | _, _, h, .wr _ _ _ => by simp [DL.flat, wD] at h
theorem Reps.kept {K : PySem.W.Frag} {B B' : Addr → Prop} {H H' : Hp} (h : Kept H H') : ∀ {vs : List V} {ds : List PyData}, DL.flatAll ds = true → Reps K B H vs ds → Reps K B' H' vs ds
  | _, _, _, .nil => .nil
  | _, _, g, .cons r t => by
    simp only [DL.flatAll, Bool.and_eq_true] at g
    exact .cons (Rep.kept h g.1 r) (Reps.kept h g.2 t)
end
theorem CellAt.go {K : PySem.W.Frag} {H H' : Hp} {a : Addr} {x : Cell} (h : CellAt K H a x) (k : Kept H H') (same : ∀ o, H a = some o → H' a = some o) : CellAt K H' a x := by
  cases h with
  | lst e f r => exact .lst (same _ e) f (r.kept k f)
  | ins h1 h2 h3 e q f r => exact .ins h1 h2 h3 (same _ e) q f (r.kept k f)
  | tab h t =>
    obtain ⟨ps, e, ok, am⟩ := t
    exact .tab h ⟨ps, same _ e, ok, fun pos cv hc => let ⟨c, e1, e2⟩ := am pos cv hc; ⟨c, e1, k _ _ e2 True.intro⟩⟩
theorem StrI.same {S L C : Addr} {c : Nat} {H H' : Hp} (h : StrI S L C c H) (k : ∀ a o, strB S L C a → H a = some o → H' a = some o) : StrI S L C c H' := by
  obtain ⟨ls, cs, t, ht, h1, h2, h3, h4⟩ := h.ex
  exact ⟨h.sl, h.sc, h.lc, ls, cs, t, ht, k _ _ (.inl rfl) h1, k _ _ (.inr (.inl rfl)) h2, k _ _ (.inr (.inr rfl)) h3, h4⟩
theorem StI.same {K : PySem.W.Frag} {S L C : Addr} {c : Sx} {H H' : Hp} (h : StI K S L C c H) (k : ∀ a o, cB S L C c a → H a = some o → H' a = some o) (im : Kept H H') : StI K S L C c H' :=
  ⟨h.str.same fun a o b e => k a o (.inl b) e, fun a x e => ⟨(h.at_ a x e).1, (h.at_ a x e).2.go im fun o q => k a o (.inr (by rw [e]; exact fun z => nomatch z)) q⟩⟩
/-- the places of a caller and those of the state -/
def bc (B : Addr → Prop) (S L C : Addr) (c : Sx) : Addr → Prop := fun a => B a ∨ cB S L C c a
/-- a def that goes on from one state to another; the stream is its first argument (st), or it is not handed over -/
def spG (st : Bool) (K : PySem.W.Frag) (mg : Str → Option Value) (m : Fn) : Sp := fun vs H Q EK => ∃ (S L C : Addr) (ws : List V) (B : Addr → Prop) (ds : List D) (c : Sx) (P : D → Sx → Prop) (XP : Exn → Sx → Prop),
  vs = (if st = true then [.ref S] else []) ++ ws ∧ (∀ a, bc B S L C c a → H a ≠ none) ∧ StI K S L C c H ∧ Reps K (bc B S L C c) H ws ds ∧ m ds c P XP ∧
  (∀ d c' v H', P d c' → EvB (cB S L C) c H c' H' → StI K S L C c' H' → Rep K (bc B S L C c') H' v d → Q v H') ∧
  ∀ x c' cl dd H', XP x c' → EvB (cB S L C) c H c' H' → StI K S L C c' H' → ExRep K mg (bc B S L C c') H' x cl dd → EK cl dd H'
/-- a def whose first argument is the stream -/
abbrev spS := spG true
/-- a def that is not handed the stream -/
abbrev spC := spG false
section
variable {P : Program} {w : World} {K : PySem.W.Frag} {mg : Str → Option Value} {base : Heap} {cb : Bool}
/-- the body's par: a def that draws nothing -/
def parF (H : Hp) (B : Addr → Prop) (c : Sx) (XP : Exn → Sx → Prop) (EK : XK) : Par := ⟨fun _ _ => False, fun c' _ => c' = c, 0, H, c, B, XP, fun _ => EK, none, fun _ => none⟩
def parS (K : PySem.W.Frag) (S L C : Addr) (H : Hp) (c : Sx) (B : Addr → Prop) (XP : Exn → Sx → Prop) (EK : XK) : Par := ⟨cB S L C, StI K S L C, S, H, c, B, XP, fun _ => EK, none, fun _ => none⟩
theorem sit_body {qual : Str} {st : Stmt} {f : Addr} {N ps : List Str} {k : Nat} {p : Par} {cdv : Value} {A : Around} {outer : List PySem.Env} {s : Shared} {H : Hp} {E : XK} (S : FnScope N ps (defScope st))
    (hr : RoomB cb k (A.deeper (envOfC qual (defScope st) s.heap.objs.size f cdv))) (hg : (A.deeper (envOfC qual (defScope st) s.heap.objs.size f cdv)).guards = some []) (ok : p.Ok K mg) (hE : ∀ σ c d H, p.EK σ c d H → E c d H) (nf : p.fx = none) (sm : HasSm base) :
    SitB cb true (bodyX cb P w K mg base N qual st f cdv A outer s H E) p k where
  calm_ := fun h => h
  gd := hg
  rm := hr
  nd := S.nd
  ok := ok
  po := passes_of rfl
  tk := (takes_ofD (E := E) rfl rfl rfl rfl).imp fun c d σ H h => hE σ c d H h
  nf_ := fun _ => nf
  sm := sm
theorem env_start {p : Par} {n : Sx} {B : Addr → Prop} {H : Hp} {vs : List V} {E : Env} {N : List Str} (hl : vs.length ≤ N.length) (hE : vs.length = E.length) (r : ∀ (i : Nat) (e : Ent), E[i]? = some e → ∃ v, vs[i]? = some v ∧ Slot K p n B H (some v) e) (no : ∀ (i : Nat) (ds : List D), E[i]? ≠ some (.own ds)) (nf : p.fx = none) :
    EnvR K p n B H (L2.start N vs) (DL.start N.length E) := by
  have l1 : (L2.start N vs).length = N.length := by
    unfold L2.start
    rw [List.length_append, List.length_map, List.length_replicate]
    omega
  have l2 : (DL.start N.length E).length = N.length := by
    unfold DL.start
    rw [List.length_append, List.length_replicate]
    omega
  have own : ∀ (i : Nat) (ds : List D), (DL.start N.length E)[i]? ≠ some (.own ds) := by
    intro i ds h
    unfold DL.start at h
    by_cases hi : i < E.length
    · rw [List.getElem?_append_left hi] at h
      exact no i ds h
    · rw [List.getElem?_append_right (by omega), List.getElem?_replicate] at h
      split at h <;> cases h
  refine ⟨l1.trans l2.symm, fun i e h => ?_, fun i j a xs ys h => absurd h (own i xs), .no nf, fun i a xs _ h => absurd h (own i xs)⟩
  unfold DL.start at h
  by_cases hi : i < E.length
  · rw [List.getElem?_append_left hi] at h
    obtain ⟨v, h1, h2⟩ := r i e h
    refine ⟨some v, ?_, h2⟩
    unfold L2.start
    rw [List.getElem?_append_left (by rw [List.length_map]; omega), List.getElem?_map, h1]
    rfl
  · rw [List.getElem?_append_right (by omega), List.getElem?_replicate] at h
    split at h
    · cases h
      have : i < (L2.start N vs).length := by rw [l1]; omega
      exact ⟨_, List.getElem?_eq_getElem this, .unk _⟩
    · cases h
theorem vals_at {n : Sx} {B : Addr → Prop} {H : Hp} {p : Par} {vs : List V} {ds : List D} (r : Reps K (bm p B n) H vs ds) (i : Nat) (e : Ent) (h : (ds.map Ent.val)[i]? = some e) : ∃ v, vs[i]? = some v ∧ Slot K p n B H (some v) e := by
  rw [List.getElem?_map] at h
  cases q : ds[i]? with
  | none => rw [q] at h; cases h
  | some d =>
    rw [q] at h
    cases h
    obtain ⟨v, h1, h2⟩ := r.get q
    exact ⟨v, h1, .val h2⟩
theorem all_of {H H' : Hp} (e : Ext (fun _ => False) H H') : All H H' := fun a o h => e.keep a o h fun z => z
theorem bmF {H : Hp} {B B2 : Addr → Prop} {c c' : Sx} {XP : Exn → Sx → Prop} {EK : XK} : ∀ a, bm (parF H B c XP EK) B2 c' a → B2 a := fun a z => z.elim id fun z => z.elim
/-- a def that draws nothing, by its body's words -/
theorem fn_pure (sm : HasSm base) {x qual : Str} {st : Stmt} {f : Addr} {fd : FuncData} {N ps : List Str} {k : Nat} {m : XS} (F : FnP K x qual st f fd) (S : FnScope N ps (defScope st)) (hl : ps.length ≤ N.length)
    (body : ∀ (cdv : Value) (A : Around) (outer : List PySem.Env) (s : Shared) (H : Hp) (E : XK) (p : Par), SitB cb true (bodyX cb P w K mg base N qual st f cdv A outer s H E) p k → (∀ n n' H H', p.SI n H → p.SI n' H' → p.SI n H') → (∀ i, p.pin i = none) → PSSD (bodyX cb P w K mg base N qual st f cdv A outer s H E) p (defBody st) m) :
    FnG cb P w K mg base (k + 1) f fd ps (spF K mg (fn ps.length N.length m)) := by
  refine fnG_body F S (fun vs H Q E ⟨_, _, _, _, _, _, rs, mm, _⟩ => rs.length.trans mm.1) (fun cdv A outer s H vs Q E hr hg hsp => ?_)
  obtain ⟨B, ds, c, Pd, XP, trk, rs, ⟨hn, mm⟩, kq, ke⟩ := hsp
  have ok : (parF H B c XP E).Ok K mg := ⟨fun _ _ _ h _ _ => h, fun n n' x cl d B1 H1 H' σ st _ hx hs he hr => by
    have hc : n' = c := hs
    subst hc
    exact ke x cl d H' hx (all_of (st.ext.trans he).ext) (exrep_go (fun a z => bm_more he.up a (st.subc a z)) hr)⟩
  have S' := sit_body (P := P) (w := w) (base := base) (mg := mg) (f := f) (outer := outer) (H := H) (p := parF H B c XP E) (E := E) S hr hg ok (fun _ _ _ _ h => h) rfl sm
  obtain ⟨ts, a1, a2⟩ := (body cdv A outer s H E _ S' (fun n n' H1 H2 (h1 : n = c) _ => h1) fun _ => rfl).ex
  refine ⟨ts, a1, a2 B H _ (DL.start N.length (ds.map Ent.val)) c (fun o c' => endOf o c' Pd XP) _ ⟨fun _ z => .inl z, fun a z => trk a (bmF a z), rfl, Ev.refl, fun _ z _ => .inl z⟩ ?_ mm ?_ ?_ ?_ ?_⟩
  · refine env_start (by rw [rs.length]; omega) (by rw [List.length_map]; exact rs.length) (fun i e h => vals_at (rs.less bmF) i e h) (fun i es h => ?_) rfl
    rw [List.getElem?_map] at h
    cases q : ds[i]? with
    | none => rw [q] at h; cases h
    | some d => rw [q] at h; cases h
  · intro E' c' B' σ' H' m1 st1 t1 r1
    have hc : c' = c := st1.si
    subst hc
    exact kq .none .non H' m1 (all_of st1.ext.ext) .non
  · intro d c' v H' m1 s1 e1 r1
    have hc : c' = c := s1
    subst hc
    exact kq d v H' m1 (all_of e1.ext) (r1.less fun _ z => .inl z)
  · intro E' c' B' σ' H' m1
    exact m1.elim
  · intro E' c' B' σ' H' m1
    exact m1.elim
/-- a def that goes on from one state to another, by its body's words; b: the stream is its first argument -/
def fnGo (b : Bool) (k n : Nat) (s : XS) : Fn := if b = true then fnS k n s else fn k n s
theorem fn_go {b : Bool} (sm : HasSm base) {x qual : Str} {st : Stmt} {f : Addr} {fd : FuncData} {N ps : List Str} {k : Nat} {m : XS} {kws : List (Str × V)} (F : FnPk K x qual st kws f fd) (S : FnScope N ps (defScope st)) (hl : ps.length ≤ N.length)
    (body : ∀ (cdv : Value) (A : Around) (outer : List PySem.Env) (s : Shared) (H : Hp) (E : XK) (p : Par), SitB cb true (bodyX cb P w K mg base N qual st f cdv A outer s H E) p k → (∃ S L C, p.B0 = cB S L C ∧ p.SI = StI K S L C ∧ p.S = S) → (∀ i, p.pin i = none) → PSSD (bodyX cb P w K mg base N qual st f cdv A outer s H E) p (defBody st) m) :
    FnG cb P w K mg base (k + 1) f fd ps (spG b K mg (fnGo b ps.length N.length m)) := by
  have hlen : ∀ vs H Q E, spG b K mg (fnGo b ps.length N.length m) vs H Q E → vs.length = ps.length := by
    rintro vs H Q E ⟨_, _, _, ws, _, _, _, _, _, e, _, _, rs, mm, _⟩
    cases b with
    | true => rw [e, List.length_append, rs.length, Nat.add_comm]; exact mm.1
    | false => rw [e, List.length_append, rs.length, Nat.add_comm]; exact mm.1
  refine fnG_body F S hlen (fun cdv A outer s H vs Q E hr hg hsp => ?_)
  have hvl := hlen vs H Q E hsp
  obtain ⟨S1, L1, C1, ws, B, ds, c, Pd, XP, rfl, trk, si, rs, mm, kq, ke⟩ := hsp
  have hlw := rs.length
  have ok : (parS K S1 L1 C1 H c B XP E).Ok K mg :=
    ⟨fun n H1 H2 h hk im => StI.same h hk im, fun n n' x cl d B1 H1 H' σ st _ hx hs he hr => ke x n' cl d H' hx (st.ext.trans he) hs (exrep_go (fun a z => z.elim (fun z => bm_more he.up a (st.subc a z)) .inr) hr)⟩
  have S' := sit_body (P := P) (w := w) (base := base) (mg := mg) (f := f) (outer := outer) (H := H) (p := parS K S1 L1 C1 H c B XP E) (E := E) S hr hg ok (fun _ _ _ _ h => h) rfl sm
  obtain ⟨ts, a1, a2⟩ := (body cdv A outer s H E _ S' ⟨S1, L1, C1, rfl, rfl, rfl⟩ fun _ => rfl).ex
  have e0 : ((if b = true then [Ent.stm] else []) ++ ds.map Ent.val).length = ((if b = true then [V.ref S1] else []) ++ ws).length := by
    cases b <;> simp [hlw]
  have mm' : (m (DL.start N.length ((if b = true then [Ent.stm] else []) ++ ds.map Ent.val))) c (fun o c' => endOf o c' Pd XP) XP := by
    cases b with
    | true => exact mm.2
    | false => exact mm.2
  refine ⟨ts, a1, a2 B H _ (DL.start N.length ((if b = true then [Ent.stm] else []) ++ ds.map Ent.val)) c (fun o c' => endOf o c' Pd XP) _ ⟨fun _ z => .inl z, trk, si, Ev.refl, fun _ z _ => .inl z⟩ ?_ mm' ?_ ?_ ?_ ?_⟩
  · refine env_start (by omega) e0.symm (fun i e h => ?_) (fun i es h => ?_) rfl
    · cases b with
      | true =>
        cases i with
        | zero =>
          cases h
          exact ⟨_, rfl, .stm (p := parS K S1 L1 C1 H c B XP E)⟩
        | succ i => exact vals_at rs i e h
      | false => exact vals_at rs i e h
    · have no : ∀ i, (ds.map Ent.val)[i]? ≠ some (Ent.own es) := fun i h' => by
        rw [List.getElem?_map] at h'
        cases q : ds[i]? with
        | none => rw [q] at h'; cases h'
        | some d => rw [q] at h'; cases h'
      cases b with
      | true =>
        cases i with
        | zero => cases h
        | succ i => exact no i h
      | false => exact no i h
  · intro E' c' B' σ' H' m1 st1 t1 r1
    exact kq .none c' .non H' m1 st1.ext st1.si .non
  · intro d c' v H' m1 s1 e1 r1
    exact kq d c' v H' m1 e1 s1 r1
  · intro E' c' B' σ' H' m1
    exact m1.elim
  · intro E' c' B' σ' H' m1
    exact m1.elim
/-- a def whose first argument is the stream -/
theorem fn_str (sm : HasSm base) {x qual : Str} {st : Stmt} {f : Addr} {fd : FuncData} {N ps : List Str} {k : Nat} {m : XS} (F : FnP K x qual st f fd) (S : FnScope N ps (defScope st)) (hl : ps.length ≤ N.length)
    (body : ∀ (cdv : Value) (A : Around) (outer : List PySem.Env) (s : Shared) (H : Hp) (E : XK) (p : Par), SitB cb true (bodyX cb P w K mg base N qual st f cdv A outer s H E) p k → (∃ S L C, p.B0 = cB S L C ∧ p.SI = StI K S L C ∧ p.S = S) → (∀ i, p.pin i = none) → PSSD (bodyX cb P w K mg base N qual st f cdv A outer s H E) p (defBody st) m) :
    FnG cb P w K mg base (k + 1) f fd ps (spS K mg (fnS ps.length N.length m)) := fn_go (b := true) sm F S hl body
end
section
variable {X : Cx} {p : Par} {k : Nat} {cb vb : Bool}
/-- what the caller knows of a def: where it stands, how it is called -/
structure Def (K : PySem.W.Frag) (mg : Str → Option Value) (x : Str) (f : Addr) (fd : FuncData) (ps : List Str) : Prop where
  mg : mg x = some (.ref f)
  kp : PySem.W.keepIn K (.ref f) = true
  bd : Binds K fd ps []
theorem pd_fn (S : SitB cb vb X p k) {j : Nat} {x : Str} {f : Addr} {fd : FuncData} {ps : List Str} {m : Fn} {e : Expr} {es : List Expr} {ma : XA} {pn pos : Pos} (F : FnG cb X.prog X.w X.K X.mg X.base j f fd ps (spF X.K X.mg m)) (hj : j ≤ k) (D : Def X.K X.mg x f fd ps) (ha : PDA X p (e :: es) ma)
    (hg : Gl X x := by rfl) (hdb : (x == ("__debug__" : Str)) = false := by decide) (he : starEach (e :: es) X.env = (false, eval e X.env) :: starEach es X.env := by rfl) (hpl : (backTo pos (starEach es X.env)).any (·.1) = false := by rfl) : PD X p (.Call (.Name x pn) (e :: es) [] pos) (eCall m ma) := by
  obtain ⟨ta, a1, a2⟩ := ha.ex
  refine ⟨_, pe_G F (S.rm.mono hj) S.gd D.mg D.kp D.bd S.ps a1 hg hdb he hpl, fun B H σ E c P Q st r mm kk => ?_⟩
  refine a2 B H σ E _ _ _ st r mm fun ds c1 vs H1 m1 e1 s1 r1 => ?_
  have st1 := st.go e1 s1
  rw [List.append_nil]
  refine ⟨_, ds, c1, P, p.XP, st1.trk, r1, m1, fun d v H2 pd al rd => kk d c1 v H2 pd (e1.trans al.ev) (st1.all S.ok al) rd, fun y cl dd H2 hx al hr => ?_⟩
  exact S.ok.exc c1 c1 y cl dd B H1 H2 σ st1 (r.go st e1).fx hx (st1.all S.ok al) al.ev hr
/-- the stream is what p says -/
def IsStr (K : PySem.W.Frag) (p : Par) : Prop := ∃ S L C, p.B0 = cB S L C ∧ p.SI = StI K S L C ∧ p.S = S
/-- q is a body's own within p's -/
structure SubP (p q : Par) : Prop where
  str : ∀ K, IsStr K p → IsStr K q
  h0 : q.H0 = p.H0
  c0 : q.c0 = p.c0
  bc : q.Bc = p.Bc
  b0 : q.B0 = p.B0
  si : q.SI = p.SI
  ss : q.S = p.S
instance {p q : Par} : CoeFun (SubP p q) (fun _ => ∀ K, IsStr K p → IsStr K q) := ⟨SubP.str⟩
/-- what a callee that goes on from a state wants, of what the caller wants -/
theorem go_of {b : Bool} (S : SitB cb vb X p k) (Z : IsStr X.K p) {m : Fn} {B : Addr → Prop} {H H0 : Hp} {σ : L2.St} {c c0 : Sx} {P : D → Sx → Prop} {vs : List V} {ds : List D} {Q : VK} (st : St0 p c B H) (fx : Fix p c B H σ) (e0 : Ev p c0 H0 c H) (rs : Reps X.K (bm p B c) H vs ds) (mm : m ds c P p.XP)
    (kk : ∀ d c' v H', P d c' → Ev p c0 H0 c' H' → p.SI c' H' → Rep X.K (bm p B c') H' v d → Q v H') : spG b X.K X.mg m ((if b = true then [V.ref p.S] else []) ++ vs) H Q (p.EK σ) := by
  obtain ⟨S1, L1, C1, z1, z2, z3⟩ := Z
  have zb : ∀ c, bm p B c = bc B S1 L1 C1 c := fun c => by unfold bm bc; rw [z1]
  have si := st.si
  rw [z2] at si
  refine ⟨S1, L1, C1, vs, B, ds, c, P, p.XP, by rw [z3], by rw [← zb]; exact st.trk, si, by rw [← zb]; exact rs, mm, fun d c2 v H2 pd al s2 rd => ?_, fun y c2 cl dd H2 hx al s2 hr => ?_⟩
  · rw [← z1] at al
    rw [← z2] at s2
    rw [← zb] at rd
    exact kk d c2 v H2 pd (e0.trans al) s2 rd
  · rw [← z1] at al
    rw [← z2] at s2
    rw [← zb] at hr
    exact S.ok.exc c c2 y cl dd B H H2 σ st fx hx s2 al hr
theorem pd_fnS (S : SitB cb vb X p k) (Z : IsStr X.K p) {j i : Nat} {x y : Str} {f : Addr} {fd : FuncData} {ps : List Str} {m : Fn} {es : List Expr} {ma : XA} {py pn pos : Pos} (F : FnG cb X.prog X.w X.K X.mg X.base j f fd ps (spS X.K X.mg m)) (hj : j ≤ k) (D : Def X.K X.mg x f fd ps) (hy : PE X (.Name y py) (tVar i)) (ha : PDA X p es ma)
    (hg : Gl X x := by rfl) (hdb : (x == ("__debug__" : Str)) = false := by decide) (he : starEach (.Name y py :: es) X.env = (false, eval (.Name y py) X.env) :: starEach es X.env := by rfl) (hpl : (backTo pos (starEach es X.env)).any (·.1) = false := by rfl) : PD X p (.Call (.Name x pn) (.Name y py :: es) [] pos) (eCallS m i ma) := by
  obtain ⟨ta, a1, a2⟩ := ha.ex
  refine ⟨_, pe_G F (S.rm.mono hj) S.gd D.mg D.kp D.bd S.ps (pa_cons hy a1 he) hg hdb he hpl, fun B H σ E c P Q st r mm kk => ?_⟩
  have m' : (match E[i]? with | some .stm => bnd (ma E) m | _ => stuck) c P p.XP := mm
  cases h : E[i]? with
  | none => rw [h] at m'; exact m'.elim
  | some e =>
    rw [h] at m'
    cases e with
    | stm =>
      obtain ⟨s, h1, h2⟩ := r.at_ i _ h
      cases h2
      refine ⟨_, h1, ?_⟩
      refine a2 B H σ E _ _ _ st r m' fun ds c1 vs H1 m1 e1 s1 r1 => ?_
      have st1 := st.go e1 s1
      show spS X.K X.mg m ((V.ref p.S :: vs) ++ []) H1 Q (p.EK σ)
      rw [List.append_nil]
      exact go_of (b := true) S Z st1 (r.go st e1).fx e1 r1 m1 kk
    | _ => exact m'.elim
end
end DL
end
section
namespace DL
open PySem PySem.Spec PyProof.Rows L2
/-- the stream with its lists told -/
structure StrL (S L C : Addr) (ls cs : List Int) (t : Nat) (H : Hp) : Prop where
  sl : S ≠ L
  sc : S ≠ C
  lc : L ≠ C
  hs : H S = some (.lst [.ref L, .ref C, .int t])
  hl : H L = some (.lst (ls.map V.int))
  hc : H C = some (.lst (cs.map V.int))
  nc : cs ≠ []
  pl : ∀ x ∈ ls, 0 ≤ x
  pc : ∀ x ∈ cs, 0 ≤ x
  few : cs.length ≤ 1000
theorem StrL.str {S L C : Addr} {ls cs : List Int} {t c : Nat} {H : Hp} (h : StrL S L C ls cs t H) (ht : t ≤ c) : StrI S L C c H :=
  ⟨h.sl, h.sc, h.lc, ls, cs, t, ht, h.hs, h.hl, h.hc, h.nc, h.pl, h.pc, h.few⟩
theorem StrI.told {S L C : Addr} {c : Nat} {H : Hp} (h : StrI S L C c H) : ∃ (ls cs : List Int) (t : Nat), t ≤ c ∧ StrL S L C ls cs t H := by
  obtain ⟨ls, cs, t, ht, h1, h2, h3, h4, h5, h6, h7⟩ := h.ex
  exact ⟨ls, cs, t, ht, h.sl, h.sc, h.lc, h1, h2, h3, h4, h5, h6, h7⟩
theorem StrL.all {S L C : Addr} {ls cs : List Int} {t : Nat} {H H' : Hp} (h : StrL S L C ls cs t H) (e : All H H') : StrL S L C ls cs t H' :=
  ⟨h.sl, h.sc, h.lc, e _ _ h.hs, e _ _ h.hl, e _ _ h.hc, h.nc, h.pl, h.pc, h.few⟩
theorem upd_strB {S L C : Addr} {H : Hp} {a : Addr} {xs ys : List V} (b : strB S L C a) (hq : H a = some (.lst xs)) : Ext (strB S L C) H (upd H a (.lst ys)) := upd_q b hq
/-- no place may change -/
abbrev nB : Addr → Prop := fun _ => False
section
variable {K : PySem.W.Frag}
def tS (K : PySem.W.Frag) (i : Int) : TE := tOp (rIxL K) (tVar 0) (tC (.int i))
def tOpD (K : PySem.W.Frag) (o : Op) (a b : TE) : TE := tOp (rD2 K (opBin o)) a b
def tDrawTest (K : PySem.W.Frag) : TT := tTest (tOp (rD2 K (cmpD .ne)) (tS K 0) (tLst tNil))
def tDrawTurn (K : PySem.W.Frag) : TS := tSeq (tAsg (tOp (rD2 K opIdx) (tS K 0) (tC (.int 0))) (gName 2)) (tSeq (tIfS (tTest (tOp (rD2 K (cmpD .gt)) (tVar 2) (tC (.int 0))))
  (tSeq (tAsg (tOpD K .fdiv (tVar 2) (tVar 1)) (gSub (tS K 0) (tC (.int 0)) rSetL)) (tRet (tOpD K .mod (tVar 2) (tVar 1)))) tNext)
  (tDrop (tBM K "list" rPopAt (tS K 0) (tCons (tC (.int 0)) tNil))))
theorem s_at {S L C : Addr} {ls cs : List Int} {t : Nat} {H : Hp} {i : Int} {v : V} {Q : VK} {σ : L2.St} (h : StrL S L C ls cs t H) (h0 : σ[0]? = some (some (.ref S))) (hi : atI [V.ref L, V.ref C, V.int t] i = some v) (q : Q v H) : tS K i σ H Q :=
  ⟨_, h0, S, _, i, v, rfl, rfl, SqL.of h.hs, hi, q⟩
theorem rep_ints {B : Addr → Prop} {H : Hp} {a : Addr} {ns : List Int} (h : H a = some (.lst (ns.map V.int))) (hb : ¬ B a) : Rep K B H (.ref a) (.list (ns.map PyData.int)) :=
  .lst h hb (Reps.of_ints ns)
theorem ne_nil_int (x : Int) (ls : List Int) : PyData.eqv (.list (((x :: ls) : List Int).map PyData.int)) (.list []) = false := by rfl
theorem nil_nil_int : PyData.eqv (.list (([] : List Int).map PyData.int)) (.list []) = true := by rfl
theorem lay_ints : ∀ ns : List Int, PyData.canLayAll0 (ns.map PyData.int) = true
  | [] => rfl
  | a :: r => by
    show (PyData.canLay0 (.int a) && PyData.canLayAll0 (r.map PyData.int)) = true
    rw [lay_ints r]
    rfl
theorem shaped_ints (ns : List Int) : SeqAt.shaped (.list (ns.map PyData.int)) = true := by
  have e : PyData.depth (.list (ns.map PyData.int)) ≤ 64 := by
    simp only [PyData.depth, depth_ints]
    decide
  unfold SeqAt.shaped
  rw [decide_eq_true e, Bool.and_true]
  exact lay_ints ns
theorem ixN_zero (n : Nat) : ixN (n + 1) 0 = some 0 := by
  unfold ixN
  rw [if_pos (Int.le_refl 0), if_pos (by omega)]
  rfl
theorem atI_zero {α : Type} (x : α) (xs : List α) : atI (x :: xs) 0 = some x := by
  show (ixN (xs.length + 1) 0).bind _ = _
  rw [ixN_zero]
  rfl
theorem opIdx_zero (x : D) (xs : List D) (c : Sx) (P : D → Sx → Prop) (Xp : Exn → Sx → Prop) (h : P x c) : opIdx (.list (x :: xs)) (.int 0) c P Xp := by
  show (match L2.atI (x :: xs) 0 with | some d => ret d | none => stuck) c P Xp
  rw [atI_zero]
  exact h
theorem draw_while {S L C : Addr} {cs : List Int} {t : Nat} {many : Int} {H0 : Hp} {D : Ends} {x3 x4 x5 : Option V} (hm : 0 < many ∧ many < 9223372036854775808)
    (nx : ∀ x2 H, Ext (strB S L C) H0 H → StrL S L C [] cs t H → D.nx [some (.ref S), some (.int many), x2, x3, x4, x5] H)
    (rt : ∀ (r : Int) ls H, Ext (strB S L C) H0 H → StrL S L C ls cs t H → 0 ≤ r → r < many → D.rt (.int r) H)
    {x2 : Option V} {ls : List Int} (hS : StrL S L C ls cs t H0) : tWhile (tDrawTest K) (tDrawTurn K) D [some (.ref S), some (.int many), x2, x3, x4, x5] H0 := by
  refine ⟨fun n σ H => ∃ (x2 : Option V) (ls : List Int), σ = [some (.ref S), some (.int many), x2, x3, x4, x5] ∧ ls.length = n ∧ Ext (strB S L C) H0 H ∧ StrL S L C ls cs t H, ⟨_, x2, ls, rfl, rfl, Ext.refl, hS⟩, ?_⟩
  rintro n σ H ⟨x2, ls, rfl, hn, e, hL⟩
  refine s_at hL rfl rfl ⟨Nat.zero_le _, fun q hq => ?_⟩
  have h1 := hL.all (All.new (o := .lst []) hq)
  have e1 : Ext (strB S L C) H0 (upd H q (.lst [])) := e.trans (All.new hq).ext
  refine ⟨nB, .list (ls.map PyData.int), .list [], .z 0, fun d _ => d = .bool (!(PyData.eqv (.list (ls.map PyData.int)) (.list []))), fun _ _ => False, fun _ z => z.elim, rep_ints h1.hl id, .lst upd_same id .nil, ⟨eqOk_of (shaped_ints ls) rfl, rfl⟩, ?_⟩
  rintro z v H2 rfl a2 rv
  cases rv
  refine ⟨_, rfl, ?_⟩
  have h2 := h1.all a2
  have e2 := e1.trans (a2.ext (B := strB S L C))
  cases ls with
  | nil =>
    rw [nil_nil_int]
    exact nx x2 H2 e2 h2
  | cons x ls =>
    rw [ne_nil_int]
    refine (if_pos rfl).mpr ?_
    refine ⟨fun σ H => ∃ (x2 : Option V) (ls' : List Int), σ = [some (.ref S), some (.int many), x2, x3, x4, x5] ∧ ls' = ls ∧ Ext (strB S L C) H0 H ∧ StrL S L C ls' cs t H, ?_, ?_⟩
    · rintro σ' H' ⟨x2', ls', rfl, rfl, e', h'⟩
      exact ⟨ls'.length, by rw [← hn]; exact Nat.lt_succ_self _, x2', ls', rfl, rfl, e', h'⟩
    · refine s_at h2 rfl rfl ⟨nB, .list ((x :: ls).map PyData.int), .int 0, .z 0, fun d _ => d = .int x, fun _ _ => False, fun _ z => z.elim, rep_ints h2.hl id, .int 0, opIdx_zero _ _ _ _ _ rfl, ?_⟩
      rintro z v H3 rfl a3 rv
      cases rv
      have h3 := h2.all a3
      have e3 := e2.trans (a3.ext (B := strB S L C))
      refine ⟨_, rfl, nB, .int x, .int 0, .z 0, fun d _ => d = .bool (decide (0 < x)), fun _ _ => False, fun _ z => z.elim, .int _, .int _, rfl, ?_⟩
      rintro z v H4 rfl a4 rv
      cases rv
      have h4 := h3.all a4
      have e4 := e3.trans (a4.ext (B := strB S L C))
      refine ⟨_, rfl, ?_⟩
      by_cases hx : 0 < x
      · rw [decide_eq_true hx]
        refine (if_pos rfl).mpr ?_
        refine ⟨_, rfl, _, rfl, nB, .int x, .int many, .z 0, fun d _ => d = .int (x / many), fun _ _ => False, fun _ z => z.elim, .int _, .int _, ⟨hm, rfl⟩, ?_⟩
        rintro z v H5 rfl a5 rv
        cases rv
        have h5 := h4.all a5
        have e5 := e4.trans (a5.ext (B := strB S L C))
        refine s_at h5 rfl rfl ⟨L, _, 0, 0, rfl, rfl, h5.hl, ixN_zero _, ?_⟩
        have h6 : StrL S L C ((x / many) :: ls) cs t (upd H5 L (.lst (((x / many) :: ls).map V.int))) := by
          refine ⟨h5.sl, h5.sc, h5.lc, ?_, upd_same, ?_, h5.nc, fun y hy => ?_, h5.pc, h5.few⟩
          · rw [upd_ne h5.sl]; exact h5.hs
          · rw [upd_ne h5.lc.symm]; exact h5.hc
          · rcases List.mem_cons.mp hy with rfl | hy
            · exact Int.ediv_nonneg (Int.le_of_lt hx) (Int.le_of_lt hm.1)
            · exact h5.pl y (.tail _ hy)
        have e6 := e5.trans (upd_strB (ys := ((x / many) :: ls).map V.int) (.inr (.inl rfl)) h5.hl)
        refine ⟨_, rfl, _, rfl, nB, .int x, .int many, .z 0, fun d _ => d = .int (x % many), fun _ _ => False, fun _ z => z.elim, .int _, .int _, ⟨hm.1, rfl⟩, ?_⟩
        rintro z v H7 rfl a7 rv
        cases rv
        exact rt _ _ H7 (e6.trans a7.ext) (h6.all a7) (Int.emod_nonneg _ (by omega)) (Int.emod_lt_of_pos _ hm.1)
      · rw [decide_eq_false hx]
        refine (if_neg (by decide)).mpr ?_
        refine s_at h4 rfl rfl ⟨.inl ⟨rfl, _, SqL.of h4.hl⟩, ?_⟩
        refine ⟨L, _, 0, 0, V.int x, rfl, rfl, h4.hl, by decide, by decide, ?_, rfl, ?_⟩
        · simp [PySem.seqIndex?]
        · refine ⟨some (.int x), ls, rfl, rfl, e4.trans (upd_strB (.inr (.inl rfl)) h4.hl), ?_⟩
          refine ⟨h4.sl, h4.sc, h4.lc, ?_, upd_same, ?_, h4.nc, fun y hy => h4.pl y (.tail _ hy), h4.pc, h4.few⟩
          · rw [upd_ne h4.sl]; exact h4.hs
          · rw [upd_ne h4.lc.symm]; exact h4.hc
/-- in every later heap it gives that value, and makes at most new things -/
def Gives (te : TE) (σ : L2.St) (H : Hp) (v : V) : Prop := ∀ H1, All H H1 → ∀ Q : VK, (∀ H', All H1 H' → Q v H') → te σ H1 Q
variable {σ : L2.St} {H : Hp}
theorem gives_var {i : Nat} {v : V} (h : σ[i]? = some (some v)) : Gives (tVar i) σ H v := fun H1 _ Q q => ⟨v, h, q H1 All.refl⟩
theorem gives_c {v : V} : Gives (tC v) σ H v := fun H1 _ Q q => q H1 All.refl
theorem gives_op {ta tb : TE} {a b r : Int} (o : Op) (ha : Gives ta σ H (.int a)) (hb : Gives tb σ H (.int b)) (h : ∀ c (P : D → Sx → Prop) Xp, P (.int r) c → opBin o (.int a) (.int b) c P Xp) : Gives (tOpD K o ta tb) σ H (.int r) := by
  intro H1 e1 Q q
  refine ha H1 e1 _ fun H2 e2 => hb H2 (e1.trans e2) _ fun H3 e3 => ?_
  refine ⟨nB, .int a, .int b, .z 0, fun d _ => d = .int r, fun _ _ => False, fun _ z => z.elim, .int _, .int _, h _ _ _ rfl, ?_⟩
  rintro z v H4 rfl a4 rv
  cases rv
  exact q H4 (e2.trans (e3.trans a4))
theorem gives_s {S L C : Addr} {ls cs : List Int} {t : Nat} {i : Int} {v : V} (h : StrL S L C ls cs t H) (h0 : σ[0]? = some (some (.ref S))) (hi : atI [V.ref L, V.ref C, V.int t] i = some v) : Gives (tS K i) σ H v :=
  fun H1 e1 Q q => s_at (h.all e1) h0 hi (q H1 All.refl)
theorem gives_len {te : TE} {a : Addr} {ns : List Int} (h : Gives te σ H (.ref a)) (ha : H a = some (.lst (ns.map V.int))) : Gives (tCB (rC1 K (bi1 .len)) (tCons te tNil)) σ H (.int ns.length) := by
  intro H1 e1 Q q
  refine h H1 e1 _ fun H2 e2 => ?_
  refine ⟨_, rfl, nB, .list (ns.map PyData.int), .z 0, fun d _ => d = .int ns.length, fun _ _ => False, fun _ z => z.elim, rep_ints (e2 _ _ (e1 _ _ ha)) id, ?_, ?_⟩
  · show (.int ((ns.map PyData.int).length : Int) : D) = .int ns.length
    rw [List.length_map]
  · rintro z v H4 rfl a4 rv
    cases rv
    exact q H4 (e2.trans a4)
theorem gives_ix {ta tb : TE} {a : Addr} {ns : List Int} {i x : Int} (h : Gives ta σ H (.ref a)) (hb : Gives tb σ H (.int i)) (ha : H a = some (.lst (ns.map V.int))) (hx : atI ns i = some x) : Gives (tOp (rD2 K opIdx) ta tb) σ H (.int x) := by
  intro H1 e1 Q q
  refine h H1 e1 _ fun H2 e2 => hb H2 (e1.trans e2) _ fun H3 e3 => ?_
  refine ⟨nB, .list (ns.map PyData.int), .int i, .z 0, fun d _ => d = .int x, fun _ _ => False, fun _ z => z.elim, rep_ints (e3 _ _ (e2 _ _ (e1 _ _ ha))) id, .int _, ?_, ?_⟩
  · show (match L2.atI (ns.map PyData.int) i with | some d => ret d | none => stuck) (.z 0) _ _
    have e : L2.atI (ns.map PyData.int) i = some (.int x) := by
      unfold atI at hx ⊢
      rw [List.length_map]
      cases q : ixN ns.length i with
      | none => rw [q] at hx; cases hx
      | some j =>
        rw [q] at hx
        have hx' : ns[j]? = some x := hx
        show (ns.map PyData.int)[j]? = _
        rw [List.getElem?_map, hx']
        rfl
    rw [e]
    rfl
  · rintro z v H4 rfl a4 rv
    cases rv
    exact q H4 (e2.trans (e3.trans a4))
theorem asg_gives {te : TE} {i : Nat} {v : V} {D : Ends} (h : Gives te σ H v) (q : ∀ H', All H H' → D.nx (σ.set i (some v)) H') : tAsg te (gName i) D σ H := h H All.refl _ fun H' e => q H' e
def tDrawRest (K : PySem.W.Frag) : TS := tSeq (tAsg (tOpD K .add (tS K 2) (tC (.int 1))) (gName 3)) (tSeq (tAsg (tVar 3) (gSub (tVar 0) (tC (.int 2)) rSetL))
  (tSeq (tAsg (tOpD K .mod (tOp (rD2 K opIdx) (tS K 1) (tOpD K .mod (tVar 3) (tCB (rC1 K (bi1 .len)) (tCons (tS K 1) tNil)))) (tC (.int 2147483587))) (gName 4))
  (tSeq (tAsg (tOpD K .mod (tOpD K .add (tOpD K .add (tOpD K .mul (tVar 4) (tOpD K .add (tC (.int 16807)) (tOpD K .mul (tC (.int 69621)) (tVar 3)))) (tOpD K .mul (tOpD K .mul (tC (.int 40692)) (tVar 3)) (tVar 3))) (tC (.int 53))) (tC (.int 2147483647))) (gName 5))
  (tRet (tOpD K .mod (tOpD K .fdiv (tOpD K .mod (tOpD K .mul (tVar 5) (tVar 5)) (tC (.int 2147483629))) (tC (.int 16))) (tVar 1))))))
theorem g_add {ta tb : TE} {a b : Int} (ha : Gives ta σ H (.int a)) (hb : Gives tb σ H (.int b)) : Gives (tOpD K .add ta tb) σ H (.int (a + b)) := gives_op .add ha hb fun _ _ _ h => h
theorem g_mul {ta tb : TE} {a b : Int} (ha : Gives ta σ H (.int a)) (hb : Gives tb σ H (.int b)) (h : mulOk a b) : Gives (tOpD K .mul ta tb) σ H (.int (a * b)) := gives_op .mul ha hb fun _ _ _ q => ⟨h, q⟩
theorem g_mod {ta tb : TE} {a b : Int} (ha : Gives ta σ H (.int a)) (hb : Gives tb σ H (.int b)) (h : 0 < b) : Gives (tOpD K .mod ta tb) σ H (.int (a % b)) := gives_op .mod ha hb fun _ _ _ q => ⟨h, q⟩
theorem g_fdiv {ta tb : TE} {a b : Int} (ha : Gives ta σ H (.int a)) (hb : Gives tb σ H (.int b)) (h : 0 < b ∧ b < 9223372036854775808) : Gives (tOpD K .fdiv ta tb) σ H (.int (a / b)) := gives_op .fdiv ha hb fun _ _ _ q => ⟨h, q⟩
theorem draw_rest {S L C : Addr} {ls cs : List Int} {t : Nat} {many : Int} {H0 : Hp} {D : Ends} {x2 x3 x4 x5 : Option V} (hm : 0 < many ∧ many < 9223372036854775808) (ht : t < 2 ^ 40)
    (rt : ∀ (r : Int) H, Ext (strB S L C) H0 H → StrL S L C ls cs (t + 1) H → 0 ≤ r → r < many → D.rt (.int r) H)
    (hS : StrL S L C ls cs t H0) : tDrawRest K D [some (.ref S), some (.int many), x2, x3, x4, x5] H0 := by
  have ht' : (t : Int) < 2 ^ 40 := by exact_mod_cast ht
  have t0 : (0 : Int) ≤ t := Int.natCast_nonneg t
  refine asg_gives (g_add (gives_s hS rfl rfl) gives_c) fun H1 e1 => ?_
  have h1 := hS.all e1
  refine ⟨_, rfl, _, rfl, S, _, 2, 2, rfl, rfl, h1.hs, rfl, ?_⟩
  have x2' := (e1.ext (B := strB S L C)).trans (upd_strB (S := S) (L := L) (C := C) (ys := [.ref L, .ref C, .int ((t : Int) + 1)]) (.inl rfl) h1.hs)
  have h2 : StrL S L C ls cs (t + 1) (upd H1 S (.lst [.ref L, .ref C, .int ((t : Int) + 1)])) := by
    refine ⟨h1.sl, h1.sc, h1.lc, upd_same, ?_, ?_, h1.nc, h1.pl, h1.pc, h1.few⟩
    · rw [upd_ne h1.sl.symm]; exact h1.hl
    · rw [upd_ne h1.sc.symm]; exact h1.hc
  show tSeq _ _ D _ (upd H1 S (.lst [.ref L, .ref C, .int ((t : Int) + 1)]))
  generalize upd H1 S (.lst [.ref L, .ref C, .int ((t : Int) + 1)]) = H2 at x2' h2
  have hlen : 0 < cs.length := List.length_pos_iff.mpr h2.nc
  have hi0 : 0 ≤ ((t : Int) + 1) % (cs.length : Int) := Int.emod_nonneg _ (by omega)
  have hi1 : ((t : Int) + 1) % (cs.length : Int) < cs.length := Int.emod_lt_of_pos _ (by omega)
  obtain ⟨x, hx⟩ : ∃ x, atI cs (((t : Int) + 1) % (cs.length : Int)) = some x := by
    unfold atI ixN
    rw [if_pos hi0, if_pos hi1]
    exact ⟨_, List.getElem?_eq_getElem (by omega)⟩
  refine asg_gives (g_mod (gives_ix (gives_s h2 rfl rfl) (g_mod (gives_var rfl) (gives_len (gives_s h2 rfl rfl) h2.hc) (by omega)) h2.hc hx) gives_c (by decide)) fun H3 e3 => ?_
  have h3 := h2.all e3
  have c0 : 0 ≤ x % 2147483587 := Int.emod_nonneg _ (by decide)
  have c1 : x % 2147483587 < 2147483587 := Int.emod_lt_of_pos _ (by decide)
  refine asg_gives (g_mod (g_add (g_add (g_mul (gives_var rfl) (g_add gives_c (g_mul gives_c (gives_var rfl) (.inl (by decide)))) (.inl ⟨by omega, by omega⟩)) (g_mul (g_mul gives_c (gives_var rfl) (.inl (by decide))) (gives_var rfl) (.inr ⟨by omega, by omega⟩))) gives_c) gives_c (by decide)) fun H4 e4 => ?_
  have h4 := h3.all e4
  refine g_mod (g_fdiv (g_mod (g_mul (gives_var rfl) (gives_var rfl) (.inl ⟨?_, ?_⟩)) gives_c (by decide)) gives_c (by decide)) (gives_var rfl) hm.1 H4 All.refl _ fun H5 e5 => ?_
  · exact Int.lt_of_lt_of_le (by decide) (Int.emod_nonneg _ (by decide))
  · exact Int.lt_trans (Int.emod_lt_of_pos _ (by decide)) (by decide)
  · exact rt _ H5 (x2'.trans ((e3.trans (e4.trans e5)).ext)) (h4.all e5) (Int.emod_nonneg _ (by omega)) (Int.emod_lt_of_pos _ hm.1)
/-- the draw's body does what the draw says -/
theorem draw_sem {S L C : Addr} {c : Nat} {many : Int} {H0 : Hp} {D : Ends} (hm : 0 < many ∧ many < 9223372036854775808) (hc : c < 2 ^ 40) (hS : StrI S L C c H0)
    (rt : ∀ (r : Int) H, Ext (strB S L C) H0 H → StrI S L C (c + 1) H → 0 ≤ r → r < many → D.rt (.int r) H) :
    tSeq (tWhile (tDrawTest K) (tDrawTurn K)) (tDrawRest K) D [some (.ref S), some (.int many), none, none, none, none] H0 := by
  obtain ⟨ls, cs, t, ht, hL⟩ := hS.told
  show tWhile (tDrawTest K) (tDrawTurn K) { D with nx := tDrawRest K D } _ _
  refine draw_while (D := { D with nx := tDrawRest K D }) hm (fun x2 H e h => ?_) (fun r ls' H e h a b => rt r H e (h.str (by omega)) a b) hL
  exact draw_rest hm (by omega) (fun r H' e' h' a b => rt r H' (e.trans e') (h'.str (by omega)) a b) h
end
section
variable {P : Program} {w : World} {K : PySem.W.Frag} {mg : Str → Option Value} {base : Heap}
theorem fdraw_told {ds : List D} {c : Sx} {P : D → Sx → Prop} {XP : Exn → Sx → Prop} (h : fDraw ds c P XP) : ∃ many : Int, ds = [.int many] ∧ (0 < many ∧ many < 9223372036854775808 ∧ c.n < 2 ^ 40) ∧ ∀ r : Int, 0 ≤ r → r < many → P (.int r) c.up := by
  unfold fDraw at h
  split at h
  · rename_i many
    exact ⟨many, rfl, h.1, h.2⟩
  · exact h.elim
theorem fn_draw (sm : HasSm base) {x qual : Str} {st : Stmt} {f : Addr} {fd : FuncData} {N : List Str} {x0 x1 : Str} {k : Nat} (F : FnP K x qual st f fd) (S : FnScope N [x0, x1] (defScope st)) (hl : N.length = 6)
    (body : ∀ (cdv : Value) (A : Around) (outer : List PySem.Env) (s : Shared) (H : Hp) (E : XK) (p : Par), Sit (bodyX true P w K mg base N qual st f cdv A outer s H E) p k → PSs (bodyX true P w K mg base N qual st f cdv A outer s H E) (defBody st) (tSeq (tWhile (tDrawTest K) (tDrawTurn K)) (tDrawRest K))) :
    FnG true P w K mg base (k + 1) f fd [x0, x1] (spS K mg fDraw) := by
  refine fnG_body F S (fun vs H Q E ⟨_, _, _, ws, _, _, _, _, _, e, _, _, rs, mm, _⟩ => by
    obtain ⟨many, e2, _⟩ := fdraw_told mm
    rw [e, List.length_append, rs.length, e2]
    rfl) (fun cdv A outer s H vs Q E hr hg hsp => ?_)
  obtain ⟨S1, L1, C1, ws, B, ds, c, Pd, XP, rfl, trk, si, rs, mm, kq, ke⟩ := hsp
  obtain ⟨many, rfl, ⟨m1, m2, hc⟩, mr⟩ := fdraw_told mm
  have ok : (parS K S1 L1 C1 H c B XP E).Ok K mg :=
    ⟨fun n H1 H2 h hk im => StI.same h hk im, fun n n' x cl d B1 H1 H' σ st _ hx hs he hr => ke x n' cl d H' hx (st.ext.trans he) hs (exrep_go (fun a z => z.elim (fun z => bm_more he.up a (st.subc a z)) .inr) hr)⟩
  have S' := sit_body (P := P) (w := w) (base := base) (mg := mg) (f := f) (outer := outer) (H := H) (p := parS K S1 L1 C1 H c B XP E) (E := E) S hr hg ok (fun _ _ _ _ h => h) rfl sm
  refine ⟨_, body cdv A outer s H E _ S', ?_⟩
  cases rs with
  | cons r t =>
    cases t
    cases r
    have e : L2.start N ((if true = true then [V.ref S1] else []) ++ [V.int many]) = [some (.ref S1), some (.int many), none, none, none, none] := by
      show L2.start N [V.ref S1, V.int many] = _
      unfold L2.start
      rw [hl]
      rfl
    rw [e]
    refine draw_sem ⟨m1, m2⟩ hc si.str fun r H' e h a b => kq (.int r) c.up _ H' (mr r a b) ⟨e.more fun _ z => .inl z, fun _ z => z, fun _ z _ => z, fun g a z => e.dom a (g a z)⟩ ⟨h, fun a x q => ?_⟩ (.int r)
    have q1 := si.at_ a x q
    exact ⟨q1.1, q1.2.go e.imm fun o ho => e.keep a o ho q1.1⟩
end
section
variable {P : Program} {w : World} {K : PySem.W.Frag} {mg : Str → Option Value} {base : Heap} {X : Cx} {p : Par} {k : Nat}
/-- the script, walked -/
theorem pi_scr (i : Nat) {tg e : Expr} (he : PE X e (tVar i)) : PDI X p tg e (iScr i) := by
  refine ⟨_, pi_list he, fun B H σ E c P R st r m kk => ?_⟩
  have m' : (match E[i]? with | some (.scr ns) => ret (ns.map PyData.int) | _ => stuck) c P p.XP := m
  cases h : E[i]? with
  | none => rw [h] at m'; exact m'.elim
  | some y =>
    rw [h] at m'
    cases y with
    | scr ns =>
      obtain ⟨s, h1, h2⟩ := r.at_ i _ h
      cases h2 with
      | scr q =>
        rename_i a
        refine ⟨_, h1, a, rfl, ⟨_, q H fun o ho _ => ho⟩, kk _ c _ H m' Ev.refl st.si ?_⟩
        refine ⟨fun H' => SqL X.K H' a (ns.map V.int), q H fun o ho _ => ho, fun B1 H1 t => q H1 fun o ho hi => t.ext.imm a o ho hi, ?_⟩
        have wk := walk_list (K := X.K) (a := a) (xs := ns.map V.int)
        rw [List.length_map] at wk ⊢
        refine wk.mono (fun _ h => h) fun i H1 x H' hi hg y => ⟨fun b o e => by rw [y.1]; exact e, fun B1 t _ => ?_⟩
        obtain ⟨n, hn, rfl⟩ : ∃ n, ns[i]? = some n ∧ x = V.int n := by
          have y2 := y.2
          rw [List.getElem?_map] at y2
          cases e : ns[i]? with
          | none => rw [e] at y2; cases y2
          | some n => rw [e] at y2; exact ⟨n, rfl, (Option.some.inj y2).symm⟩
        exact ⟨.int n, by rw [List.getElem?_map, hn]; rfl, .int n⟩
    | _ => exact m'.elim
def spMake (K : PySem.W.Frag) : Sp := fun vs H Q EK => ∃ (a : Addr) (ns : List Int), vs = [.ref a] ∧ ns.length ≤ 63 ∧ (∀ H' : Hp, (∀ o, H a = some o → Imm o → H' a = some o) → SqL K H' a (ns.map V.int)) ∧
  ∀ (S L C : Addr) (H' : Hp), All H H' → StrI S L C 0 H' → Q (.ref S) H'
end
end DL
end
section
namespace DL
open PySem PySem.Spec PyProof.Rows L2
section
variable {P : Program} {w : World} {K : PySem.W.Frag} {mg : Str → Option Value} {base : Heap} {X : Cx} {p : Par} {k : Nat}
/-- the words of the stream's def -/
def mCells : XE := eComp (iScr 0) (.nm 2) tYes (eB1 .abs (eVar 2)) [2]
def mLarge : XE := eComp (iLst (eVar 1)) (.nm 2) (tBool (eCmp .ge (eVar 2) (eBin .pow (eCon (.int 10)) (eCon (.int 18))))) (eVar 2) [2]
def mSmall : XE := eIf (tBool (eCmp .ne (eVar 1) (eLst aNil))) (eVar 1) (eLst (aCons (eCon (.int 41)) aNil))
def absI (i : Int) : Int := if i < 0 then -i else i
theorem comp_abs (E : Env) (h : E.length = 3) : ∀ (ns : List Int) (acc : List D), acc.length + ns.length ≤ 1000 → compL (.nm 2) tYes (eB1 .abs (eVar 2)) (ns.map PyData.int) acc E = ret (acc ++ (ns.map absI).map PyData.int)
  | [], acc, _ => by simp [compL]
  | n :: ns, acc, hl => by
    simp only [List.length_cons] at hl
    have e : (E.set 2 (Ent.val (.int n)))[2]? = some (Ent.val (.int n)) := by rw [List.getElem?_set_self (by omega)]
    have hs : small acc.length := by unfold small; omega
    show bnd (tYes (E.set 2 (Ent.val (.int n)))) _ = _
    simp only [tYes, bnd_ret, if_true, eB1, eVar, e, bi1]
    rw [grd_pos hs, comp_abs E h ns _ (by rw [List.length_append]; simp only [List.length_singleton]; omega)]
    simp [absI]
theorem comp_large (E : Env) (h : E.length = 3) : ∀ (ns : List Int) (acc : List D), acc.length + ns.length ≤ 1000 → compL (.nm 2) (tBool (eCmp .ge (eVar 2) (eBin .pow (eCon (.int 10)) (eCon (.int 18))))) (eVar 2) (ns.map PyData.int) acc E =
      ret (acc ++ (ns.filter fun n => decide (10 ^ 18 ≤ n)).map PyData.int)
  | [], acc, _ => by simp [compL]
  | n :: ns, acc, hl => by
    simp only [List.length_cons] at hl
    have e : (E.set 2 (Ent.val (.int n)))[2]? = some (Ent.val (.int n)) := by rw [List.getElem?_set_self (by omega)]
    have hs : small acc.length := by unfold small; omega
    have hp : opPow (.int 10) (.int 18) = ret (.int (10 ^ 18)) := by
      show grd _ _ = _
      rw [grd_pos (by decide)]
      rfl
    show bnd (tBool _ (E.set 2 (Ent.val (.int n)))) _ = _
    simp only [tBool, eCmp, eBin, eCon, eVar, e, bnd_ret, opBin, hp, opCmp, opLe]
    by_cases hn : (10 : Int) ^ 18 ≤ n
    · rw [decide_eq_true hn, if_pos rfl, grd_pos hs, comp_large E h ns _ (by rw [List.length_append]; simp only [List.length_singleton]; omega), List.filter_cons_of_pos (by simpa using hn)]
      simp
    · rw [decide_eq_false hn, if_neg (by decide), comp_large E h ns _ (by omega), List.filter_cons_of_neg (by simpa using hn)]
/-- the body's par: a def that knows no state -/
def parN (H : Hp) (Q : XK) : Par := ⟨fun _ _ => False, fun _ _ => True, 0, H, .z 0, nB, fun _ _ => False, fun _ => Q, none, fun _ => none⟩
theorem bmN {H : Hp} {Q : XK} {B : Addr → Prop} {c : Sx} : ∀ a, bm (parN H Q) B c a → B a := fun a z => z.elim id fun z => z.elim
theorem st_triv {Q : XK} {H : Hp} : St0 (parN H Q) (.z 0) nB H := ⟨fun _ z => .inl z, fun a z => (bmN a z).elim, True.intro, Ev.refl, fun _ z => z.elim⟩
theorem absI_nonneg (i : Int) : 0 ≤ absI i := by unfold absI; split <;> omega
theorem stream_sem {EK : XK} {H0 : Hp} {ts1 : TS} {te1 te2 : TE} {a : Addr} {ns : List Int} {D : Ends} (hl : ns.length ≤ 63) (hq : ∀ H' : Hp, (∀ o, H0 a = some o → Imm o → H' a = some o) → SqL K H' a (ns.map V.int))
    (a2 : SR K (parN H0 EK) ts1 (sAsg 1 mCells)) (b2 : EvF K (parN H0 EK) te1 mLarge) (c2 : EvR K (parN H0 EK) te2 mSmall)
    (q : ∀ (S L C : Addr) (H' : Hp), All H0 H' → StrI S L C 0 H' → D.rt (.ref S) H') :
    tSeq ts1 (tRet (tLst (tCons te1 (tCons te2 (tCons (tC (.int 0)) tNil))))) D [some (.ref a), none, none] H0 := by
  refine a2 nB H0 _ [.scr ns, .unk, .unk] (.z 0) (fun o _ => o = .nx [.scr ns, .val (.list ((ns.map absI).map PyData.int)), .unk]) _ st_triv ?_ ?_ ?_ ?_ ?_ ?_
  · refine ⟨rfl, fun i e h => ?_, fun i j b xs ys h => ?_, .no rfl, fun j a xs z _ => by cases z⟩
    · match i, h with
      | 0, h => cases h; exact ⟨_, rfl, .scr hq⟩
      | 1, h => cases h; exact ⟨_, rfl, .unk _⟩
      | 2, h => cases h; exact ⟨_, rfl, .unk _⟩
    · match i, h with
      | 0, h => cases h
      | 1, h => cases h
      | 2, h => cases h
  · show bnd (eComp (iScr 0) (.nm 2) tYes (eB1 .abs (eVar 2)) [2] [.scr ns, .unk, .unk]) _ (.z 0) _ _
    show bnd (bnd (ret (ns.map PyData.int)) _) _ (.z 0) _ _
    simp only [bnd_ret]
    rw [comp_abs _ rfl ns [] (by simp only [List.length_nil]; omega)]
    rfl
  · rintro E' c' B' σ' H' hE st' tr' r'
    cases hE
    refine b2 B' H' σ' _ c' (fun d _ => d = .list (((ns.map absI).filter fun n => decide (10 ^ 18 ≤ n)).map PyData.int)) _ st' r' ?_ ?_
    · show bnd (bnd (ret _) _) _ c' _ _
      show bnd (noX (compL (.nm 2) (tBool (eCmp .ge (eVar 2) (eBin .pow (eCon (.int 10)) (eCon (.int 18))))) (eVar 2) ((ns.map absI).map PyData.int) [] _)) _ c' _ _
      rw [comp_large _ rfl (ns.map absI) [] (by simp only [List.length_nil, List.length_map]; omega)]
      rfl
    · rintro ds c1 L xs H1 hds e1 _ hL h1 rs
      cases hds
      have hxs := rs.ints (ints?_map _)
      subst hxs
      have st1 := st_q st' hL.1 e1.q True.intro (some_ne h1) (n' := c1)
      have r1 := env_q0 rfl r' st' hL.1 e1.q
      refine c2 _ H1 σ' _ c1 (fun d _ => d = .list ((if ns = [] then [41] else ns.map absI).map PyData.int)) _ st1 r1 ?_ ?_
      · have he : opEq (.list ((ns.map absI).map PyData.int)) (.list []) = ret (decide (ns = [])) := by
          unfold opEq
          rw [grd_pos (eqOk_of (shaped_ints _) rfl)]
          cases ns with
          | nil => rfl
          | cons n r => rfl
        have g0 : small ([] : List PyData).length := Nat.zero_le _
        have g1 : small [PyData.int 41].length := by show 1 ≤ 1000000; omega
        simp only [mSmall, eIf, tBool, eCmp, eVar, eLst, aNil, aCons, eCon, List.getElem?_cons_succ, List.getElem?_cons_zero, bnd_ret, grd_pos g0, grd_pos g1, opCmp, he]
        by_cases hn : ns = []
        · rw [hn]
          rfl
        · rw [decide_eq_false hn, if_neg hn]
          rfl
      · rintro d c3 v H2 rfl e2 _ rv
        cases rv with
        | lst h2 nb rs2 =>
          rename_i C ys
          have hys := rs2.ints (ints?_map _)
          subst hys
          have hLC : L ≠ C := fun z => nb (.inl (.inr z.symm))
          have h1' : H2 L = some (.lst (((ns.map absI).filter fun n => decide (10 ^ 18 ≤ n)).map V.int)) := e2.ext.keep _ _ h1 fun z => z
          refine ⟨by rw [sizeLine_eq]; show 3 ≤ _; decide, fun S hS => ?_⟩
          have nL : S ≠ L := fun z => by rw [z, h1'] at hS; cases hS
          have nC : S ≠ C := fun z => by rw [z, h2] at hS; cases hS
          refine q S L C _ ((all_of st'.ext.ext).trans ((all_of e1.ext).trans ((all_of e2.ext).trans (All.new hS)))) ⟨nL, nC, hLC, (ns.map absI).filter fun n => decide (10 ^ 18 ≤ n), if ns = [] then [41] else ns.map absI, 0, Nat.le_refl 0, upd_same, ?_, ?_, ?_, ?_, ?_, ?_⟩
          · rw [upd_ne nL.symm]; exact h1'
          · rw [upd_ne nC.symm]; exact h2
          · split
            · exact fun z => nomatch z
            · rename_i hn
              exact fun z => hn (List.map_eq_nil_iff.mp z)
          · intro x hx
            obtain ⟨y, _, rfl⟩ := List.mem_map.mp (List.mem_filter.mp hx).1
            exact absI_nonneg y
          · intro x hx
            split at hx
            · rw [List.mem_singleton.mp hx]; decide
            · obtain ⟨y, _, rfl⟩ := List.mem_map.mp hx
              exact absI_nonneg y
          · split
            · decide
            · rw [List.length_map]; omega
  · rintro d c' v H' h; cases h
  · rintro E' c' B' σ' H' h; cases h
  · rintro E' c' B' σ' H' h; cases h
end
section
variable {P : Program} {w : World} {K : PySem.W.Frag} {mg : Str → Option Value} {base : Heap}
/-- the stream's def -/
theorem fn_stream (sm : HasSm base) {x qual : Str} {st : Stmt} {f : Addr} {fd : FuncData} {N : List Str} {x0 : Str} {k : Nat} (F : FnP K x qual st f fd) (S : FnScope N [x0] (defScope st)) (hl : N.length = 3)
    (body : ∀ (cdv : Value) (A : Around) (outer : List PySem.Env) (s : Shared) (H : Hp) (E : XK) (p : Par), Sit (bodyX true P w K mg base N qual st f cdv A outer s H E) p k →
      ∃ (s1 : Stmt) (e1 e2 : Expr), (∀ t1 te1 te2, PS (bodyX true P w K mg base N qual st f cdv A outer s H E) s1 t1 → PE (bodyX true P w K mg base N qual st f cdv A outer s H E) e1 te1 → PE (bodyX true P w K mg base N qual st f cdv A outer s H E) e2 te2 →
          PSs (bodyX true P w K mg base N qual st f cdv A outer s H E) (defBody st) (tSeq t1 (tRet (tLst (tCons te1 (tCons te2 (tCons (tC (.int 0)) tNil))))))) ∧
        PSD (bodyX true P w K mg base N qual st f cdv A outer s H E) p s1 (sAsg 1 mCells) ∧ PDF (bodyX true P w K mg base N qual st f cdv A outer s H E) p e1 mLarge ∧ PD (bodyX true P w K mg base N qual st f cdv A outer s H E) p e2 mSmall) :
    FnG true P w K mg base (k + 1) f fd [x0] (spMake K) := by
  refine fnG_body F S (fun vs H Q E ⟨_, _, e, _⟩ => by rw [e]; rfl) (fun cdv A outer s H vs Q E hr hg hsp => ?_)
  obtain ⟨a, ns, rfl, hn, hS, kq⟩ := hsp
  have ok : (parN H E).Ok K mg := ⟨fun _ _ _ _ _ _ => True.intro, fun _ _ _ _ _ _ _ _ _ _ _ z => z.elim⟩
  have S' := sit_body (P := P) (w := w) (base := base) (mg := mg) (f := f) (outer := outer) (H := H) (p := parN H E) (E := E) S hr hg ok (fun _ _ _ _ h => h) rfl sm
  obtain ⟨s1, e1, e2, mk, h1, h2, h3⟩ := body cdv A outer s H E _ S'
  obtain ⟨t1, a1, a2⟩ := h1.ex
  obtain ⟨t2, b1, b2⟩ := h2.ex
  obtain ⟨t3, c1, c2⟩ := h3.ex
  refine ⟨_, mk t1 t2 t3 a1 b1 c1, ?_⟩
  have e : L2.start N [V.ref a] = [some (.ref a), none, none] := by
    unfold L2.start
    rw [hl]
    rfl
  rw [e]
  exact stream_sem hn hS a2 b2 c2 fun S L C H' al si => kq S L C H' al si
theorem pss_any {X : Cx} {ss : List Stmt} : PSs X ss (fun D σ H => ∃ ts, PSs X ss ts ∧ ts D σ H) := ⟨fun pins s σ H D I ⟨_, h, q⟩ => h.run pins s σ H D I q⟩
/-- what the law is asked -/
def spLaw (K : PySem.W.Frag) : Sp := fun vs H Q _ => ∃ (a : Addr) (ns : List Int), vs = [.ref a] ∧ ns.length ≤ 63 ∧ (∀ H' : Hp, (∀ o, H a = some o → Imm o → H' a = some o) → SqL K H' a (ns.map V.int)) ∧ ∀ H', Q (.bl true) H'
/-- the law's own environment: the stream at i -/
def lawE (n i : Nat) : Env := (List.replicate n Ent.unk).set i .stm
end
end DL
end
section
namespace DL
open PySem PySem.Spec PyProof.Rows L2
section
variable {X : Cx} {p : Par} {k : Nat} {tg : Expr}
def wAny (K : PySem.W.Frag) (te : TE) : TI := fun σ H R => te σ H fun x H1 => ∃ a, x = .ref a ∧ ((∃ xs, SqL K H1 a xs ∧ R (Itl K a) H1) ∨ (∃ xs, SqT K H1 a xs ∧ R (Itt K a) H1))
theorem pi_any {e : Expr} {te : TE} (he : PE X e te) : PI X tg e (wAny X.K te) := by
  constructor
  intro pins s σ H R I h
  refine thn (he.run pins s σ H _ I h) fun v s2 ⟨x, H2, I2, rel, a, xe, alt⟩ => ?_
  subst xe
  cases rel
  have youngest : ∀ c, c ∈ [s2.heap.objs.size] → FpOk X pins H2 c := fun c hc => by
    rw [List.mem_singleton.mp hc]
    exact I2.fpOk (Nat.le_refl _) (I2.hok.fresh (Nat.le_refl _))
  rcases alt with ⟨xs, sq, r⟩ | ⟨xs, sq, r⟩
  · obtain ⟨its, vals, isl, _⟩ := I2.list sq
    exact wpAny_pyIter_list isl.isList ⟨s2.heap.objs.size, [s2.heap.objs.size], _, _, H2, rfl, I2.kept (t' := s2.toks) fun c o h => Heap.get?_push_of_some _ h, turn_list a _, ⟨_, Heap.get?_push_size _ rfl, rfl, rfl⟩, youngest, r⟩
  · obtain ⟨its, vals, ist, _⟩ := I2.tuple sq
    exact wpAny_pyIter_tuple (show s2.heap.IsTuple a its.toArray from ist) ⟨s2.heap.objs.size, [s2.heap.objs.size], _, _, H2, rfl, I2.kept (t' := s2.toks) fun c o h => Heap.get?_push_of_some _ h, turn_tuple a _, ⟨_, Heap.get?_push_size _ rfl, rfl, rfl⟩, youngest, r⟩
theorem pi_seq {e : Expr} {m : XE} (he : PD X p e m) : PDI X p tg e (iSeq m) := by
  obtain ⟨te, a1, a2⟩ := he.ex
  refine ⟨_, pi_any a1, fun B H σ E c P R st r m k => ?_⟩
  refine a2 B H σ E _ _ _ st r m fun d c1 v H1 m1 e1 s1 r1 => ?_
  cases r1 with
  | lst q n t => exact ⟨_, rfl, .inl ⟨_, SqL.of q, k _ _ _ H1 m1 e1 s1 (walkD_list q n t)⟩⟩
  | tup q t => exact ⟨_, rfl, .inr ⟨_, q, k _ _ _ H1 m1 e1 s1 (walkD_tup q t)⟩⟩
  | _ => exact m1.elim
/-- names = e -/
theorem sd_put {cb : Bool} (S : SitB cb true X p k) {e : Expr} {m : XE} {t : Tg} {pos : Pos} (hg : PG X tg (gOf X.K t)) (he : PD X p e m) (hs : swapsWithSole [tg] e pos.line X.env = pure false := by rfl) (hw : swappedStores [tg] e X.env = pure none := by rfl)
    (h1 : (assignEach [tg] X.env).map (·.2) = [assign tg X.env] := by rfl) : PSD X p (.Assign [tg] e pos) (sPut t m) := by
  obtain ⟨te, a1, a2⟩ := he.ex
  refine ⟨_, ps_asg a1 hg hs hw h1, fun B H σ E c P Dn st r m nx rt bk ct => ?_⟩
  refine a2 B H σ E _ _ _ st r m fun d c1 v H1 m1 e1 s1 r1 => ?_
  have m1' : (match t.put d E with | some E' => ret (Out.nx E') | none => stuck) c1 P p.XP := m1
  cases h : t.put d E with
  | none => rw [h] at m1'; exact m1'.elim
  | some E' =>
    rw [h] at m1'
    exact gOf_put S.nf (r.go st e1) r1 h _ fun σ' g _ _ => nx _ _ B _ H1 m1' (st.go e1 s1) ((st.up e1)) g
end
end DL
end
section
namespace DL
open PySem PySem.Spec PyProof.Rows L2
/-- a sequence, by its kind: a tuple, a list -/
def SqX (K : PySem.W.Frag) (t : Bool) (H : Hp) (a : Addr) (xs : List V) : Prop := if t = true then SqT K H a xs else SqL K H a xs
def ItX (t : Bool) (h : Heap) (it a : Addr) (i : Nat) : Prop := if t = true then h.IsTupleIter it a i else h.IsListIter it a i
def ObX (t : Bool) (h : Heap) (a : Addr) (its : List Value) : Prop := if t = true then h.IsTuple a its.toArray else h.IsList a its.toArray
def cellX (t : Bool) (a : Addr) : Obj := if t = true then { cls := .type "tuple_iterator", data := .fields #[.ref a, .int 0 0] } else { cls := .type "list_iterator", data := .fields #[.ref a, .int 0 0] }
theorem ItX.at_ {t : Bool} {h h' : Heap} {it a : Addr} {i : Nat} (x : ItX t h it a i) (e : ∀ o, h.get? it = some o → h'.get? it = some o) : ItX t h' it a i := by
  cases t
  · exact Heap.IsListIter.at (h := h) x e
  · exact Heap.IsTupleIter.at (h := h) x e
theorem ItX.get {t : Bool} {h : Heap} {it a : Addr} {i : Nat} (x : ItX t h it a i) : ∃ o vs, h.get? it = some o ∧ o.data = .fields vs := by
  cases t
  · obtain ⟨o, e, _, d⟩ := (show h.IsListIter it a i from x); exact ⟨o, _, e, d⟩
  · obtain ⟨o, e, _, d⟩ := (show h.IsTupleIter it a i from x); exact ⟨o, _, e, d⟩
theorem drawsX {P : Program} {w : World} {A : Around} (hh : A.handled = none) (t : Bool) (it a : Addr) (hne : a ≠ it) (its : List Value) :
    Draws P w A it [it, a] its.length (fun i v => its[i]? = some v) (fun i h => ItX t h it a i ∧ ObX t h a its) := by
  cases t
  · have := Draws.list (prog := P) (w := w) hh it a hne its.toArray
    simpa [ItX, ObX] using this
  · have := Draws.tuple (prog := P) (w := w) hh it a hne its.toArray
    simpa [ItX, ObX] using this
section
variable {X : Cx} {pins : List (Addr × Obj)} {σ : L2.St} {H : Hp} {s : Shared}
theorem inv_X {t : Bool} {a : Addr} {xs : List V} (I : Inv X pins σ H s) (h : SqX X.K t H a xs) : ∃ its : List Value, Vals xs its ∧ ObX t s.heap a its := by
  cases t
  · obtain ⟨its, r, p, _⟩ := I.list (show SqL X.K H a xs from h)
    exact ⟨its, r, p.isList⟩
  · obtain ⟨its, r, p, _⟩ := I.tuple (show SqT X.K H a xs from h)
    exact ⟨its, r, (show s.heap.IsTuple a its.toArray from p)⟩
theorem inj_X {t : Bool} {a : Addr} {xs ys : List V} (I : Inv X pins σ H s) (h : SqX X.K t H a xs) (h' : SqX X.K t H a ys) : xs = ys := by
  cases t
  · exact I.list_inj h h'
  · exact I.tuple_inj h h'
end
theorem obX_ne {t : Bool} {h : Heap} {a it : Addr} {its : List Value} {o : Obj} {vs : Array Value} (x : ObX t h a its) (e : h.get? it = some o) (d : o.data = .fields vs) : a ≠ it := by
  rintro rfl
  cases t
  · obtain ⟨o', e', _, n, d'⟩ := (show h.IsList a its.toArray from x)
    rw [e] at e'
    cases e'
    rw [d] at d'
    cases d'
  · obtain ⟨o', e', _, n, d'⟩ := (show h.IsTuple a its.toArray from x)
    rw [e] at e'
    cases e'
    rw [d] at d'
    cases d'
theorem obX_dict {t : Bool} {h : Heap} {a e it : Addr} {c : Int} {old : Value} {its : List Value} (x : ObX t h a its) (he : IsEnum h e it c old) : a ≠ e := obX_ne x he rfl
/-- the sequence at a as it stands at each turn, each item in a new pair with its number, from c on -/
def IteX (K : PySem.W.Frag) (t : Bool) (c : Int) (a : Addr) : It :=
  ⟨fun i H => ∃ (xs : List V) (x : V), SqX K t H a xs ∧ xs[i]? = some x,
   fun i H v H' => ∃ T x, v = .ref T ∧ H T = none ∧ H' = upd H T (.tup [.int (c + (i : Int)), x]) ∧ ∀ xs, SqX K t H a xs → xs[i]? = some x,
   fun i H => ∃ xs : List V, SqX K t H a xs ∧ xs.length = i⟩
theorem turn_enumX {P : Program} {w : World} {K : PySem.W.Frag} {elts : List Expr} {kk : Nat} {tpos : Pos} (t : Bool) (c : Int) (a e it : Addr) :
    Turn P w K (.Tuple elts kk tpos) (IteX K t c a) [e, it] e (fun i h => (∃ old, IsEnum h e it (c + (i : Int)) old) ∧ ItX t h it a i ∧ e ≠ it) where
  mem := List.mem_cons_self ..
  obj := fun i h st b hb => by
    obtain ⟨⟨old, he⟩, hi, _⟩ := st
    rcases List.mem_cons.mp hb with rfl | hb
    · exact ⟨_, he, fun v q => nomatch q⟩
    · rw [List.mem_singleton.mp hb]
      obtain ⟨o, vs, ho, hd⟩ := hi.get
      exact ⟨o, ho, fun v q => by rw [hd] at q; cases q⟩
  keep := fun i h h' st k => by
    obtain ⟨⟨old, he⟩, hi, hne⟩ := st
    exact ⟨⟨old, k e (List.mem_cons_self ..) _ he⟩, hi.at_ fun o q => k it (.tail _ (List.mem_singleton.mpr rfl)) o q, hne⟩
  item := by
    intro X hP hw hK calm i pins s σ H E I fresh st going
    subst hP hw hK
    obtain ⟨⟨old, he⟩, hi, hne⟩ := st
    obtain ⟨xs, x, sq, hx⟩ := going
    obtain ⟨its, vals, ob⟩ := inv_X I sq
    obtain ⟨u, hu, ru⟩ := vals.get hx
    obtain ⟨io, ivs, hio, hid⟩ := hi.get
    have ai : a ≠ it := obX_ne ob hio hid
    have ae : a ≠ e := obX_dict ob he
    have eLt : e < s.heap.objs.size := Heap.lt_size he
    have iLt : it < s.heap.objs.size := Heap.lt_size hio
    have nh : X.A.in1.handled = none := I.ok.hd calm
    refine wpAny_pyNext_enum_itemC (drawsX nh t it a ai its) he ⟨hi, ob⟩ (List.getElem?_eq_some_iff.mp hu).1 hne (fun z => by
      rcases List.mem_cons.mp z with z | z
      · exact hne z
      · exact ae (List.mem_singleton.mp z).symm) fun y h2 tk hy out st2 hT hsz kept => ?_
    have hyu : y = u := Option.some.inj (hy.symm.trans hu)
    subst hyu
    refine ⟨_, rfl, wpAny_letOwnedTupleGo_enum (s := { s with heap := h2, toks := tk + 1 }) out fun h3 he3 same => ?_⟩
    have hT3 : h3.get? s.heap.objs.size = some { cls := .type "tuple", data := .seq #[.int (c + (i : Int)) tk, y] } := (same.2 _ (Nat.ne_of_gt eLt)).trans hT
    have made : ObjOk X.prog X.w (upd H s.heap.objs.size (.tup [.int (c + (i : Int)), x])) h3 s.heap.objs.size (.tup [.int (c + (i : Int)), x]) :=
      ⟨by show 2 ≤ sizeLine; rw [sizeLine_eq]; decide, [.int (c + (i : Int)) tk, y], .cons ⟨_, rfl⟩ (.cons ru .nil), ⟨_, hT3, rfl, _, rfl⟩⟩
    have I3 : Inv X pins σ (upd H s.heap.objs.size (.tup [.int (c + (i : Int)), x])) { s with heap := h3, toks := tk + 1 } :=
      I.turnedNew (ch := [e, it]) (fun b ob2 hb q => (same.2 b (fun z => hb (by rw [z]; exact List.mem_cons_self ..))).trans (kept b ob2 (fun z => hb (by rw [z]; exact List.mem_cons_self ..)) (fun z => hb (by rw [z]; exact .tail _ (List.mem_singleton.mpr rfl))) q)) fresh (Nat.le_refl _) made
    refine ⟨.ref s.heap.objs.size, _, I3, rfl, ⟨_, x, rfl, I.hok.fresh (Nat.le_refl _), rfl, fun ys hys => by rw [inj_X I hys sq]; exact hx⟩, ⟨⟨y, ?_⟩, st2.1.at_ fun o q => (same.2 it (Ne.symm hne)).trans q, hne⟩, fun b hb => ?_⟩
    · rw [show c + ((i + 1 : Nat) : Int) = c + (i : Int) + 1 by omega]
      exact he3
    · have bLt : b < s.heap.objs.size := by
        rcases List.mem_cons.mp hb with rfl | hb
        · exact eLt
        · rw [List.mem_singleton.mp hb]; exact iLt
      rw [upd_ne (Nat.ne_of_lt bLt)]
      exact (fresh b hb).1
  done := by
    intro X hP hw hK calm i pins s σ H E I fresh st ending
    subst hP hw hK
    obtain ⟨⟨old, he⟩, hi, hne⟩ := st
    obtain ⟨xs, sq, hx⟩ := ending
    obtain ⟨its, vals, ob⟩ := inv_X I sq
    obtain ⟨io, ivs, hio, hid⟩ := hi.get
    have ai : a ≠ it := obX_ne ob hio hid
    have nh : X.A.in1.handled = none := I.ok.hd calm
    have len := vals.length
    obtain ⟨f0, f1, f2, f3, f4, f5⟩ := fresh it (.tail _ (List.mem_singleton.mpr rfl))
    have at_end : ItX t s.heap it a its.length ∧ ObX t s.heap a its := by
      rw [← len, hx]
      exact ⟨hi, ob⟩
    exact wpAny_pyNext_enum_endD (drawsX nh t it a ai its) he at_end fun h2 ext => ⟨rfl, I.turned (t' := s.toks) (fun b o hb q => ext b o hb q) f0 f1 f3 f4 f5⟩
  self := fun A i s Q E st h => by
    obtain ⟨⟨_, he⟩, _⟩ := st
    exact wpAny_pyIter_enum he h
theorem meets_enumB {v : Value} {o : Obj} {Hh : Heap → Prop} (B : Begins v o Hh) :
    Meets (Builtin.«enumerate.__new__» ⟨[.type "enumerate", v], []⟩) (fun _ R s => Hh s.heap ∧ R (.ok (.ret (.ref (s.heap.push o).objs.size)))
      { s with heap := (s.heap.push o).push { cls := .type "enumerate", data := .fields #[.none, .bool false, .ref s.heap.objs.size, rawInt 0, .none, .none] } }) :=
  .of_wp fun P w A R s h => by
    obtain ⟨heap, gens, drawn, toks, os⟩ := s
    obtain ⟨there, h⟩ := h
    have below := sub_enumerate
    have walk : ∀ {A2 : Around} {E : Value → Shared → Prop} {Q : Value → Shared → Prop}, Q (.ref heap.objs.size) ⟨heap.push o, gens, drawn, toks, os⟩ → wpAny (model P w) A2 (pyIter v) Q E ⟨heap, gens, drawn, toks, os⟩ :=
      fun q => B.iter P w _ _ ⟨heap, gens, drawn, toks, os⟩ _ there q
    wp_walk using walk
    refine wpAny_stack_any fun frames => wpAny_pure ?_
    split
    · rename_i k _ _ _ _ _
      cases (k == Value.type "enumerate") <;> (wp_walk using walk; exact ⟨_, rfl, h⟩)
    · wp_walk using walk
      exact ⟨_, rfl, h⟩
theorem enum_new {P : Program} {w : World} {A : Around} {E : Value → Shared → Prop} {s : Shared} {v : Value} {o : Obj} {Hh : Heap → Prop} {Q : Value → Shared → Prop} (B : Begins v o Hh) (there : Hh s.heap)
    (h : ∀ h', IsEnum h' (s.heap.objs.size + 1) s.heap.objs.size 0 .none → h'.get? s.heap.objs.size = some o → (∀ b u, s.heap.get? b = some u → h'.get? b = some u) → Q (.ref (s.heap.objs.size + 1)) { s with heap := h' }) :
    wpAny (model P w) A (call (.type "enumerate") [v]) Q E s := by
  refine callType_new F.called_enumerate (by decide) (F.typeCall_enumerate_1 _) (F.newCall_enumerate_1 _) (fun obj => F.args_object_init_2 obj _) F.entry_enumerate_new (meets_enumB B) ⟨there, ?_⟩
  have sz : (s.heap.push o).objs.size = s.heap.objs.size + 1 := Heap.size_push ..
  show _ ∧ _
  rw [sz]
  have is : IsEnum ((s.heap.push o).push { cls := .type "enumerate", data := .fields #[.none, .bool false, .ref s.heap.objs.size, rawInt 0, .none, .none] }) (s.heap.objs.size + 1) s.heap.objs.size 0 .none := by
    have at_ := Heap.get?_push_size (s.heap.push o) (o := { cls := .type "enumerate", data := .fields #[.none, .bool false, .ref s.heap.objs.size, rawInt 0, .none, .none] }) rfl
    rw [sz] at at_
    exact at_
  exact ⟨⟨_, is, rfl⟩, h _ is (Heap.get?_push_of_some _ (Heap.get?_push_size _ B.free)) fun b u q => Heap.get?_push_of_some _ (Heap.get?_push_of_some _ q)⟩
theorem beginsX (t : Bool) (a : Addr) (its : List Value) : Begins (.ref a) (cellX t a) fun h => ObX t h a its := by
  cases t
  · exact begins_list a its.toArray
  · exact begins_tuple a its.toArray
theorem itX_new {t : Bool} {h : Heap} {it a : Addr} (e : h.get? it = some (cellX t a)) : ItX t h it a 0 := by
  cases t <;> exact ⟨_, e, rfl, rfl⟩
section
variable {X : Cx} {p : Par} {k : Nat}
def qEnum (K : PySem.W.Frag) (R : It → Hp → Prop) (c : Int) (x : V) (H1 : Hp) : Prop := (-(2 ^ 63) ≤ c ∧ c < 2 ^ 63) ∧ ∃ a t xs, x = .ref a ∧ SqX K t H1 a xs ∧ R (IteX K t c a) H1
def wEnum (K : PySem.W.Frag) (c : Int) (te : TE) : TI := fun σ H R => te σ H fun x H1 => qEnum K R c x H1
theorem enum_ends {pins : List (Addr × Obj)} {σ : L2.St} {H : Hp} {s : Shared} {R : It → Hp → Prop} {elts : List Expr} {kk : Nat} {tpos : Pos} {t : Bool} {c : Int} {a : Addr} {h' : Heap} (I : Inv X pins σ H s)
    (he : IsEnum h' (s.heap.objs.size + 1) s.heap.objs.size c .none) (hi : h'.get? s.heap.objs.size = some (cellX t a)) (kept : ∀ b u, s.heap.get? b = some u → h'.get? b = some u) (r : R (IteX X.K t c a) H) :
    wpAny (model X.prog X.w) X.A (pyIter (.ref (s.heap.objs.size + 1))) (PIE X pins σ (.Tuple elts kk tpos) R) X.xe { s with heap := h' } := by
  refine wpAny_pyIter_enum he ?_
  have I2 : Inv X pins σ H { s with heap := h' } := I.kept (t' := s.toks) kept
  refine ⟨s.heap.objs.size + 1, [s.heap.objs.size + 1, s.heap.objs.size], _, _, H, rfl, I2, turn_enumX t c a (s.heap.objs.size + 1) s.heap.objs.size, ⟨⟨.none, ?_⟩, itX_new hi, Nat.succ_ne_self _⟩, fun b hb => ?_, r⟩
  · show IsEnum h' _ _ (c + ((0 : Nat) : Int)) _
    rw [show c + ((0 : Nat) : Int) = c by omega]
    exact he
  · have above : s.heap.objs.size ≤ b := by
      rcases List.mem_cons.mp hb with rfl | hb
      · exact Nat.le_succ _
      · rw [List.mem_singleton.mp hb]; exact Nat.le_refl _
    exact I.fpOk above (I.hok.fresh above)
end
end DL
end
section
namespace DL
open PySem PySem.Spec PyProof.Rows L2
section
variable {X : Cx} {p : Par} {k : Nat}
theorem pi_enum1 {e : Expr} {te : TE} {pn pos tpos : Pos} {elts : List Expr} {kk : Nat} (he : PE X e te) (hm : X.mg "enumerate" = none) (hg : Gl X "enumerate" := by rfl) (hs : starEach [e] X.env = [(false, eval e X.env)] := by rfl) :
    PI X (.Tuple elts kk tpos) (.Call (.Name "enumerate" pn) [e] [] pos) (wEnum X.K 0 te) := by
  constructor
  intro pins s σ H R I h
  have arg : PA X [e] (tCons te tNil) := pa_cons he pa_nil (by rw [hs] <;> rfl)
  let Q1 : List V → Hp → Prop := fun vs H1 => match vs with | [x] => qEnum X.K R 0 x H1 | _ => False
  have h1 : tCons te tNil σ H Q1 := h
  refine Call_ (ld_blt I hg hm boot_enumerate (PyProof.Rows.callWith_type1 (thn (arg.run pos pins s σ H _ I h1) fun us s1 ⟨vs, H1, I1, r1, q1⟩ => ?_) hs rfl))
  match vs, r1, q1 with
  | [x], .cons r .nil, q1 =>
    obtain ⟨_, a, t, xs, rfl, sq, q⟩ := (show qEnum X.K R 0 x H1 from q1)
    cases r
    obtain ⟨its, _, ob⟩ := inv_X I1 sq
    exact enum_new (beginsX t a its) ob fun h' he hi kept => enum_ends I1 he hi kept q
  | [], _, q1 => exact q1.elim
  | _ :: _ :: _, _, q1 => exact q1.elim
/-- the pairs -/
def pairs (c : Int) : List D → List D
  | [] => []
  | d :: ds => .tuple [.int c, d] :: pairs (c + 1) ds
theorem pairs_get : ∀ (ds : List D) (c : Int) (i : Nat) (d : D), ds[i]? = some d → (pairs c ds)[i]? = some (.tuple [.int (c + (i : Int)), d])
  | [], _, _, _, h => by simp at h
  | x :: ds, c, 0, d, h => by
    cases h
    show some _ = some _
    rw [show c + ((0 : Nat) : Int) = c by omega]
  | x :: ds, c, i + 1, d, h => by
    have e := pairs_get ds (c + 1) i d h
    show (pairs (c + 1) ds)[i]? = _
    rw [e, show c + 1 + (i : Int) = c + ((i + 1 : Nat) : Int) by omega]
theorem pairs_len : ∀ (ds : List D) (c : Int), (pairs c ds).length = ds.length
  | [], _ => rfl
  | _ :: ds, c => by
    show (pairs (c + 1) ds).length + 1 = _
    rw [pairs_len ds (c + 1)]
    rfl
def iEnumC (c : Int) (a : XE) : XA := fun E => bnd (a E) fun d => bnd (itemsOf d) fun xs => grd (-(2 ^ 63) ≤ c ∧ c < 2 ^ 63) (ret (pairs c xs))
theorem walkD_enum {K : PySem.W.Frag} {B : Addr → Prop} {H : Hp} {a : Addr} {t : Bool} {c : Int} {xs : List V} {ds : List D} (sq : SqX K t H a xs) (kept : ∀ B1 H1, Tr B H B1 H1 → SqX K t H1 a xs) (rs : Reps K B H xs ds) : WalkD K B H (IteX K t c a) (pairs c ds) := by
  refine ⟨fun H => SqX K t H a xs, sq, kept, ?_⟩
  rw [pairs_len, ← rs.length]
  refine ⟨fun i _ hi q => ⟨xs, xs[i], q, List.getElem?_eq_getElem hi⟩, fun _ q => ⟨xs, q, rfl⟩, fun i H1 v H2 hi q y => ?_⟩
  obtain ⟨T, x, rfl, hT, rfl, hx⟩ := y
  refine ⟨All.new hT, fun B1 tr _ => ?_⟩
  obtain ⟨d, hd, rd⟩ := rs.at' (hx xs q)
  exact ⟨_, pairs_get ds c i d hd, rep_tup hT (.cons (.int _) (.cons (rd.tr tr) .nil))⟩
theorem pi_enum1D {e : Expr} {m : XE} {pn pos tpos : Pos} {elts : List Expr} {kk : Nat} (he : PD X p e m) (hm : X.mg "enumerate" = none) (hg : Gl X "enumerate" := by rfl) (hs : starEach [e] X.env = [(false, eval e X.env)] := by rfl) :
    PDI X p (.Tuple elts kk tpos) (.Call (.Name "enumerate" pn) [e] [] pos) (iEnumC 0 m) := by
  obtain ⟨te, a1, a2⟩ := he.ex
  refine ⟨_, pi_enum1 a1 hm hg hs, fun B H σ E c P R st r m k => ?_⟩
  refine a2 B H σ E _ _ _ st r m fun d c1 v H1 m1 e1 s1 r1 => ?_
  cases r1 with
  | lst q n t => exact ⟨m1.1, _, false, _, rfl, SqL.of q, k _ _ _ H1 m1.2 e1 s1 (walkD_enum (SqL.of q) (fun B1 H2 tr => SqL.of (tr.ext.keep _ _ q n)) t)⟩
  | tup q t => exact ⟨m1.1, _, true, _, rfl, q, k _ _ _ H1 m1.2 e1 s1 (walkD_enum (t := true) q (fun B1 H2 tr => tr.ext.sqT q) t)⟩
  | _ => exact m1.elim
end
end DL
end
section
namespace DL
open PySem PySem.Spec PyProof.Rows L2
end DL
end
section
namespace DL
open PySem PySem.Spec PyProof.Rows L2
end DL
end
section
namespace DL
open PySem PySem.Spec PyProof.Rows L2
end DL
end
section
namespace DL
open PySem PySem.Spec PyProof.Rows L2
/-- the exception that is made: its object, its own dict -/
structure Made1 (h h' : Heap) (e C d : Addr) (f : Str) (v : Value) : Prop where
  keep : ∀ b o, h.get? b = some o → h'.get? b = some o
  new : h.objs.size ≤ e
  obj : ∃ t1 : Addr, h'.get? e = some { cls := .ref C, dict := some d, data := .fields #[.ref t1, .none, .none, .none, .bool false, .none] }
  dbig : h.objs.size ≤ d
  dne : d ≠ e
  ns : h'.Ns1 d (fun y => if y = f then some v else none)
section
variable {prog : Program} {w : World} {A : Around} {E : Value → Shared → Prop} {R : Result → Shared → Prop} {K : PySem.W.Frag} {C L : Addr}
/-- the first field of a fresh exception -/
theorem put_field {hp : Heap} {g : Array GenState} {dr : Drawn} {t : Nat} {os : OsState} {name : Str} {tk : Tok} {v : Value} {x t1 : Addr} (b : Bs) (X : K.In hp) (hx : hp.get? x = some (PySem.HandSPX.excO C t1)) (ov : PySem.W.excOver K C b.tl = true) (hh : PySem.W.hasDictIn K C = true) (ha : PySem.W.findIn K (.ref C) name = some none)
    (hq : ∀ h' tk' dx, (∀ b o, b ≠ x → hp.get? b = some o → h'.get? b = some o) → hp.objs.size ≤ dx → dx ≠ x → h'.get? x = some { cls := .ref C, dict := some dx, data := .fields #[.ref t1, .none, .none, .none, .bool false, .none] } →
      h'.Ns1 dx (fun y => if y = name then some v else none) → R (.ok (.ret .none)) ⟨h', g, dr, tk', os⟩) :
    codeAny (model prog w) A (.call (.builtin "object.__setattr__") ⟨[.ref x, .str name tk, v], []⟩) R ⟨hp, g, dr, t, os⟩ := by
  have hxs : x < hp.objs.size := Heap.lt_size hx
  refine PySem.W.osa_openX (s := ⟨hp, g, dr, t, os⟩) (od := none) (r := none) b.sf X ⟨hx, rfl, rfl, trivial⟩ ov ?_ fun bb => ?_
  · show (PySem.W.findIn K (.ref C) name).bind _ = _
    rw [ha]
    rfl
  · obtain ⟨cd, hc, hd'⟩ := PySem.W.any_some hh
    refine wpAny_bind (wpAny_pure (wpAny_bind (PySem.W.instanceDict_exc (s := ⟨hp, g, dr, t, os⟩) (c2 := .none) hx (PySem.W.looks_clsIn X hc) hd' ?_)))
    show wpAny _ _ (Builtin.ObjectAttr.storeInDict hp.objs.size (.str name tk) name v) _ _ _
    have ne : hp.objs.size ≠ x := Nat.ne_of_gt hxs
    refine PySem.HandSPX.store_in_new (hp := (hp.push (PySem.W.dictOf [] 0)).update x fun o => { o with dict := some hp.objs.size }) ⟨_, #[], _, (Heap.get?_update_ne _ _ _ _ ne).trans (Heap.get?_push_at rfl rfl), rfl, fun e he => absurd he (by simp), fun _ => rfl⟩ fun h' tk' hn' hs => ?_
    have hx1 : (hp.push (PySem.W.dictOf [] 0)).get? x = some (PySem.HandSPX.excO C t1) := Heap.get?_push_of_some _ hx
    refine hq h' tk' hp.objs.size (fun b o hb ho => ?_) (Nat.le_refl _) ne ?_ hn'
    · exact (hs.2 b (Nat.ne_of_lt (Heap.lt_size ho))).trans ((Heap.get?_update_ne _ _ _ _ hb).trans (Heap.get?_push_of_some _ ho))
    · exact (hs.2 x ne.symm).trans (Heap.get?_update_self _ hx1 rfl)
end
theorem one_line (v : Value) : [v].length ≤ sizeLine := by
  rw [sizeLine_eq]
  exact (by decide : 1 ≤ 16777216)
/-- a name of __init__'s frame -/
theorem ini_name {M : Model} {s : Shared} {q : Str} {sc : Scope} {L a : Addr} {cd : Value} {m : Str → Option Value} {x : Str} {pos : Pos} {v : Value} {Q : Value → Shared → Prop} {A : Around} {E : Value → Shared → Prop} (hn : s.heap.Ns L m) (hv : m x = some v) (hk : sc.kind = .function)
    (hl : (envOfC q sc L a cd).kindOf x = some .local) (hd : (x == ("__debug__" : Str)) = false) (h : Q v s) : wpAny M A (eval (.Name x pos) (envOfC q sc L a cd)) Q E s := wpAny_Name (wpAny_loadName_local hk hl hn hv h) hd
section
variable {prog : Program} {w : World} {A : Around} {E : Value → Shared → Prop} {R : Result → Shared → Prop} {s : Shared} {K : PySem.W.Frag} {n : Str}
/-- what __init__ leaves of a fresh exception -/
theorem run_init {f : Fl} {b : Bs} (T : ErrT K n f b) {x t0 : Addr} {v : Value} (X : K.In s.heap) (hlim : s.heap.NoLimit) (hx : s.heap.get? x = some (PySem.HandSPX.excO (He.ga K n) t0)) (hroom : A.depth < recursionLimit)
    (hq : ∀ h' tk dx, (∀ b o, b ≠ x → s.heap.get? b = some o → h'.get? b = some o) → h'.get? x = some { cls := .ref (He.ga K n), dict := some dx, data := .fields #[.ref t0, .none, .none, .none, .bool false, .none] } → s.heap.objs.size ≤ dx → dx ≠ x →
      h'.Ns1 dx (fun y => if y = f.s then some v else none) → R (.ok (.ret .none)) { s with heap := h', toks := tk }) :
    codeAny (model prog w) A (.call (.ref (He.ma K (He.ga K n) "__init__")) ⟨[.ref x, v], []⟩) R s := by
  obtain ⟨q, p1, p2, q1, q2, q3, q4, fd, F⟩ := T.fn
  have bd : BindsTo s fd ⟨[.ref x, v], []⟩ [("self", .ref x), (f.s, v)] := by
    cases f <;> exact L2.FunD.bindsA (ps := ["self", _]) F (fun _ _ _ _ _ _ us hl => match us, hl with | [_, _], _ => rfl) s [.ref x, v] rfl
  obtain ⟨oc, od, dV, kV, doc, pm, an, cdv, ct, osl, rfl, ho, hcd, dv, kv⟩ := F.ex
  refine Att.call_fn (binds := [("self", .ref x), (f.s, v)]) X hlim ho hcd hroom bd (by cases f <;> rfl) (fun s₁ IC => ?_) rfl rfl rfl
  obtain ⟨h₁, tk₁, rfl⟩ := IC.toInCall.same
  have k : ∀ b o, s.heap.get? b = some o → h₁.get? b = some o := IC.toInCall.keep
  have hn := IC.toInCall.ns
  have X₁ : K.In h₁ := X.keeps k
  have hx₁ := k _ _ hx
  have hk1 : (envOfC q (iniS f.s) s.heap.objs.size (He.ma K (He.ga K n) "__init__") cdv).kindOf f.s = some .local := by cases f <;> rfl
  have hk2 : (envOfC q (iniS f.s) s.heap.objs.size (He.ma K (He.ga K n) "__init__") cdv).kindOf "self" = some .local := rfl
  show wpAny _ _ (execs _ _) _ _ _
  refine wpAny_execs_cons (plainObj_wpAny_Assign_Attribute ?_)
  refine ini_name hn (v := v) (by cases f <;> rfl) rfl hk1 (by cases f <;> rfl) ?_
  refine ini_name hn (v := .ref x) (by cases f <;> rfl) rfl hk2 rfl ?_
  refine PySem.W.set_plain X₁ (ox := PySem.HandSPX.excO (He.ga K n) t0) (od := none) ⟨hx₁, rfl, rfl, trivial⟩ T.sa ?_
  refine put_field b X₁ hx₁ T.ov T.c.hdC (T.c.nof f) fun h₃ tk₃ dx k₃ dn dne hx₃ hn₃ => ?_
  show wpAny _ _ (execs _ _) _ _ _
  have z : s.heap.objs.size < h₁.objs.size := hn.lt
  exact wpAny_execs_nil (hq h₃ tk₃ dx (fun b o hb e => k₃ b o hb (k b o e)) hx₃ (Nat.le_of_lt (Nat.lt_of_lt_of_le z dn)) dne hn₃)
/-- C(v) -/
theorem run_made {f : Fl} {b : Bs} (T : ErrT K n f b) {v : Value} (X : K.In s.heap) (hlim : s.heap.NoLimit) (hroom : A.depth + 1 < recursionLimit)
    (hq : ∀ h' tk e d, Made1 s.heap h' e (He.ga K n) d f.s v → R (.ok (.ret (.ref e))) { s with heap := h', toks := tk }) : codeAny (model prog w) A (.call (.ref (He.ga K n)) ⟨[v], []⟩) R s := by
  obtain ⟨nm, N, q, bs, bm, hdct, sn, sub, ab, col, dd, k0, k1, k2, k3, k5, hC, hT⟩ := PySem.W.excInit_of X T.ini
  obtain ⟨hp, g, dr, tk, os⟩ := s
  have k : ∀ b o, hp.get? b = some o → ((hp.push (PySem.W.kdv_tup [v])).push (PySem.HandSPX.excO (He.ga K n) hp.objs.size)).get? b = some o := fun b o e => Heap.get?_push_of_some _ (Heap.get?_push_of_some _ e)
  have hget : ((hp.push (PySem.W.kdv_tup [v])).push (PySem.HandSPX.excO (He.ga K n) hp.objs.size)).get? (hp.objs.size + 1) = some (PySem.HandSPX.excO (He.ga K n) hp.objs.size) := by heap_get
  refine PySem.HandSPX.call_own b.fb hT hC (PySem.W.looks_findIn X T.iC) (fun self => PySem.W.bind_fn X self T.tC) (one_line v) ?_
  refine run_init (s := ⟨(hp.push (PySem.W.kdv_tup [v])).push (PySem.HandSPX.excO (He.ga K n) hp.objs.size), g, dr, tk, os⟩) T (X.keeps k) (hlim.keeps k) hget ?_ fun h' tk' dx k' hx dn dne hns => ?_
  · show A.depth + 1 < recursionLimit
    exact hroom
  · have z : hp.objs.size + 1 + 1 ≤ dx := by
      first
        | (simpa only [Heap.size_push] using dn)
        | exact dn
        | (have q := dn; rw [Heap.size_push, Heap.size_push] at q; exact q)
    exact ⟨rfl, hq h' tk' (hp.objs.size + 1) dx ⟨fun b o e => k' b o (Nat.ne_of_lt (Nat.lt_succ_of_lt (Heap.lt_size e))) (k b o e), Nat.le_succ _, ⟨_, hx⟩, Nat.le_trans (Nat.le_trans (Nat.le_succ _) (Nat.le_succ _)) z, dne, hns⟩⟩
end
theorem relO_field {v : V} {v' : Value} (r : RelV v v') (g f : Str) : RelO (List.lookup f [(g, v)]) (if f = g then some v' else none) := by
  by_cases h : f = g
  · subst h
    have e : List.lookup f [(f, v)] = some v := by simp [List.lookup]
    rw [if_pos rfl, e]
    exact r
  · have e : (f == g) = false := by simpa using h
    have e2 : List.lookup f [(g, v)] = none := by simp [List.lookup, e]
    rw [if_neg h, e2]
    trivial
section
variable {X : Cx} {n : Str}
/-- C(e) -/
def tMk1 (C : Addr) (f : Str) (ta : TA) : L2.St → Hp → XK → Prop := fun σ H Q => ta σ H fun vs H1 => ∃ v, vs = [v] ∧ ∀ d, H1 d = none → Q (.ref C) (some d) (upd H1 d (.xd [(f, v)]))
theorem pmk1s {f : Fl} {b : Bs} {a : Expr} {ta : TA} {p pos : Pos} (T : ErrT X.K n f b) (gC : X.mg n = some (.ref (He.ga X.K n))) (hr : X.A.depth + 1 < recursionLimit) (ha : PA X [a] ta) (hg : Gl X n) (hdb : (n == ("__debug__" : Str)) = false)
    (he : starEach (a :: []) X.env = (false, eval a X.env) :: starEach [] X.env := by rfl) (hpl : (backTo pos (starEach [] X.env)).any (·.1) = false := by rfl) : L2H.PMk5 X (.Call (.Name n p) [a] [] pos) (tMk1 (He.ga X.K n) f.s ta) := by
  intro pins s σ H Q I h
  refine wpAny_Call_Name_kw (ld_glob I hg gC ?_ hdb)
  refine PySem.W.callWith_K (h₀ := X.base) I.ok.mod.kin T.c.kC (thn (ha.run pos pins s σ H _ I h) fun us s1 hh => ?_) he hpl
  obtain ⟨vs, H1, I1, r1, v, ev, q1⟩ := hh
  subst ev
  refine ⟨I1.kIn, ?_⟩
  cases r1 with
  | @cons _ v' _ us' rv rn =>
    cases rn
    show wpAny _ _ (call (.ref (He.ga X.K n)) [v']) _ _ _
    have hlim := I1.nolimit
    obtain ⟨hp, g, dr, tk, os⟩ := s1
    refine wpAny_call (run_made T I1.kIn hlim hr fun h' tk' e d M => ?_)
    obtain ⟨t1, hoe⟩ := M.obj
    refine ⟨?_, fun a o v y1 y2 y3 => by
      cases y1
      cases hoe.symm.trans y2
      cases y3
      exact (by decide : 4 < 6)⟩
    show L2N.MkP X pins σ Q (.ref e) ⟨h', g, dr, tk', os⟩
    obtain ⟨G', g1, g2⟩ := restrict h' fun b => decide (b ≠ e)
    have gk : ∀ b, b ≠ e → G'.get? b = h'.get? b := fun b hb => g1 b (decide_eq_true hb)
    have ge : G'.get? e = none := g2 e (by simp)
    have old : ∀ b o, hp.get? b = some o → G'.get? b = some o := fun b o q => (gk b (Nat.ne_of_lt (Nat.lt_of_lt_of_le (Heap.lt_size q) M.new))).trans (M.keep b o q)
    have ob : ObjOk X.prog X.w (upd H1 d (.xd [(f.s, v)])) G' d (.xd [(f.s, v)]) := ⟨_, M.ns.at (fun o q => (gk d M.dne).trans q), fun g => relO_field rv f.s g⟩
    have J : Inv X pins σ (upd H1 d (.xd [(f.s, v)])) ⟨G', g, dr, tk', os⟩ := I1.laid (t' := tk') old M.dbig ob
    refine ⟨e, _, _, ⟨G', g, dr, tk', os⟩, _, .ref (He.ga X.K n), some d, rfl, J, fun b o q => ?_, ge, hoe, ⟨rfl, rfl, fun vs q => by cases q; rfl⟩, rfl, rfl, ?_, rfl, I1.bare, raises_own T.c.exC T.c.tyC, q1 d (I1.hok.fresh M.dbig)⟩
    · by_cases hb : b = e
      · rw [hb] at q
        exact absurd (q.symm.trans ge) (by simp)
      · exact (gk b hb).symm.trans q
    · rw [upd_ne (Ne.symm M.dne)]
      exact I1.hok.fresh M.new
theorem pmk1 {f : Fl} {b : Bs} {a : Expr} {ta : TA} {p pos : Pos} (T : ErrT X.K n f b) (gC : X.mg n = some (.ref (He.ga X.K n))) (hr : X.A.depth + 1 < recursionLimit) (ha : PA X [a] ta) (hg : Gl X n) (hdb : (n == ("__debug__" : Str)) = false)
    (he : starEach (a :: []) X.env = (false, eval a X.env) :: starEach [] X.env := by rfl) (hpl : (backTo pos (starEach [] X.env)).any (·.1) = false := by rfl) : L2N.PMk X (.Call (.Name n p) [a] [] pos) (tMk1 (He.ga X.K n) f.s ta) := (pmk1s T gC hr ha hg hdb he hpl).pmk
end
section
variable {X : Cx} {p : Par} {k : Nat} {n : Str}
theorem sd_raise1 {vb : Bool} (S : SitB true vb X p k) {f : Fl} {b : Bs} (T : ErrT X.K n f b) (gC : X.mg n = some (.ref (He.ga X.K n))) {a : Expr} {m : XE} {pn pos pos2 : Pos} (ha : PD X p a m) (hg : Gl X n := by rfl) (hdb : (n == ("__debug__" : Str)) = false := by decide)
    (he : starEach (a :: []) X.env = (false, eval a X.env) :: starEach [] X.env := by rfl) (hpl : (backTo pos (starEach [] X.env)).any (·.1) = false := by rfl) : PSD X p (.Raise (some (.Call (.Name n pn) [a] [] pos)) none pos2) (sRaise n [f.s] (aCons m aNil)) := by
  obtain ⟨ta, a1, a2⟩ := ha.ex
  refine ⟨_, L2N.ps_raise S.calm S.tk.n (pmk1 T gC (by have := S.rm.dp; omega) (pa_cons a1 pa_nil he) hg hdb he hpl), fun B H σ E c P Dn st r mm nx rt bk ct => ?_⟩
  refine a2 B H σ E _ _ _ st r mm fun d c1 v H1 m1 e1 s1 r1 => ?_
  refine ⟨v, rfl, fun dx hd => ?_⟩
  have st1 := st.go e1 s1
  have al : All H1 (upd H1 dx (.xd [(f.s, v)])) := All.new hd
  exact S.ok.exc c1 c1 ⟨n, [(f.s, d)]⟩ _ _ B H1 _ σ st1 (r.go st e1).fx m1 (st1.all S.ok al) al.ev ⟨rfl, T.c, dx, v, rfl, upd_same, fun z => st1.trk dx z hd, r1.mono al.ext⟩
end
end DL
end
section
namespace DL
open PySem PySem.Spec PyProof.Rows L2
/-- what the clause's classes answer -/
def tstV (K : PySem.W.Frag) (cls : Value) : List Value → Option Bool
  | [c] => PySem.W.exmOne K cls c
  | [a, b] => PySem.W.exmAny K cls [a, b]
  | [a, b, c] => PySem.W.exmAny K cls [a, b, c]
  | [a, b, c, d] => PySem.W.exmAny K cls [a, b, c, d]
  | _ => none
/-- names of classes, one after the other -/
inductive Nms (X : Cx) : List Expr → List Value → Prop
  | nil : Nms X [] []
  | cons {x : Str} {np : Pos} {c : Value} {es : List Expr} {cs : List Value} (hc : Names X x c) (he : starEach (.Name x np :: es) X.env = (false, eval (.Name x np) X.env) :: starEach es X.env) (r : Nms X es cs) : Nms X (.Name x np :: es) (c :: cs)
/-- a clause's expression -/
inductive ClE (X : Cx) : Expr → List Value → Prop
  | one {x : Str} {np : Pos} {c : Value} (hc : Names X x c) : ClE X (.Name x np) [c]
  | two {es : List Expr} {k0 : _} {pos : Pos} {a b : Value} (h : Nms X es [a, b]) : ClE X (.Tuple es k0 pos) [a, b]
  | three {es : List Expr} {k0 : _} {pos : Pos} {a b c : Value} (h : Nms X es [a, b, c]) : ClE X (.Tuple es k0 pos) [a, b, c]
  | four {es : List Expr} {k0 : _} {pos : Pos} {a b c d : Value} (h : Nms X es [a, b, c, d]) : ClE X (.Tuple es k0 pos) [a, b, c, d]
def setO (oi : Option Nat) (v : Option V) (σ : L2.St) : L2.St := match oi with
  | none => σ
  | some i => σ.set i v
/-- behind a suite the name is gone -/
def endO (oi : Option Nat) (D : Ends) : Ends := { nx := fun σ H => D.nx (setO oi none σ) H, rt := D.rt, bk := fun σ H => D.bk (setO oi none σ) H, ct := fun σ H => D.ct (setO oi none σ) H }
/-- what the clauses wish of an exception of the body, one after the other; the exception stands in the heap from then on -/
def wTry (K : PySem.W.Frag) (Wout : WX) (D : Ends) : List (List Value × Option Nat × (Addr → TS)) → WX
  | [] => Wout
  | (cs, oi, ts) :: r => fun cls d σ H => ∃ b, tstV K cls cs = some b ∧ (b = true → ∀ (a : Addr) (oe : Obj), H a = none → Zq K cls d oe → (∃ vs, oe.data = .fields vs) → ts a (endO oi D) (setO oi (some (.ref a)) σ) (upd H a (xob a oe))) ∧ (b = false → wTry K Wout D r cls d σ H)
inductive Clauses (X : Cx) : List ExceptHandler → List (List Value × Option Nat × (Addr → TS)) → Prop
  | nil : Clauses X [] []
  | bare {t : Expr} {cs : List Value} {ts : Addr → TS} {b₀ : Stmt} {suite : List Stmt} {pos : Pos} {hds : List ExceptHandler} {l : List (List Value × Option Nat × (Addr → TS))} (ht : ClE X t cs) (hs : ∀ (a : Addr) (pn : List (Addr × Obj)), PSs (X.suite a pn) (b₀ :: suite) (ts a)) (r : Clauses X hds l) :
      Clauses X (.ExceptHandler (some t) none (b₀ :: suite) pos :: hds) ((cs, none, ts) :: l)
  | named {t : Expr} {n : Str} {i : Nat} {cs : List Value} {ts : Addr → TS} {b₀ : Stmt} {suite : List Stmt} {pos : Pos} {hds : List ExceptHandler} {l : List (List Value × Option Nat × (Addr → TS))} (hi : X.N[i]? = some n) (hl : X.env.kindOf n = some .local) (ht : ClE X t cs)
      (hs : ∀ (a : Addr) (pn : List (Addr × Obj)), PSs (X.suite a pn) (b₀ :: suite) (ts a)) (r : Clauses X hds l) : Clauses X (.ExceptHandler (some t) (some n) (b₀ :: suite) pos :: hds) ((cs, some i, ts) :: l)
section
variable {X : Cx} {pins : List (Addr × Obj)} {σ : L2.St} {H : Hp} {s : Shared}
/-- an object that stands in the state is tracked from here on, within a suite -/
theorem inv_hot {a : Addr} {oe : Obj} {vs : Array Value} (I : Inv X pins σ H s) (ha : s.heap.get? a = some oe) (hd : oe.data = .fields vs) (na : H a = none) (nL : a ≠ X.env.locals) (nF : a ∉ X.fs) (n0 : X.s_0.heap.get? a = none) (np : ∀ q ∈ X.pn ++ pins, q.1 ≠ a) :
    Inv (X.suite a (X.pn ++ pins)) [] σ (upd H a (xob a oe)) s := by
  have old : ∀ {b : Addr} {o : HO}, H b = some o → upd H a (xob a oe) b = some o := fun {b o} e => by
    rw [upd_ne (fun z => by rw [z, na] at e; cases e)]
    exact e
  have new : ∀ {b : Addr}, b ≠ a → H b = none → upd H a (xob a oe) b = none := fun {b} hb e => by rw [upd_ne hb]; exact e
  refine ⟨I.ok.suite _ _, I.os, I.bare, ⟨I.base.keep, I.base.slot, fun b o e n x => new (fun z => by rw [z, n0] at e; cases e) (I.base.free b o e n x), I.base.there, fun b xs e => old (I.base.tups b xs e), fun b o u e => old (I.base.frzs b o u e), fun b ps e => ?_⟩, I.loc, I.cell, new nL.symm I.free, fun x c e => new (fun z => ?_) (I.freeC x c e), fun q hq => ?_, fun b o e => ?_, I.len⟩
  · obtain ⟨more, e2⟩ := I.base.tbls b ps e
    exact ⟨more, old e2⟩
  · obtain ⟨v, o, h1, h2⟩ := I.cell x c e
    rw [z, ha] at h1
    cases h1
    rw [hd] at h2
    cases h2
  · have hq' : q ∈ X.pn ++ pins := by rw [List.append_nil] at hq; exact hq
    obtain ⟨e1, e2, e3, e4, e5⟩ := I.pin q hq'
    exact ⟨e1, new (np q hq') e2, e3, e4, e5⟩
  · by_cases hb : b = a
    · subst hb
      rw [upd_same] at e
      cases e
      exact ⟨ha, ⟨oe, ha⟩, fun h1 h2 e1 k => k _ e1⟩
    · rw [upd_ne hb] at e
      exact (I.hok b o e).stay (fun c v hc y => y) (fun c hc => old hc) (fun c xs hc => old hc)
theorem inv_cold {a : Addr} {pn' : List (Addr × Obj)} (I : Inv (X.suite a (X.pn ++ pins)) pn' σ H s) (ok : X.Ok) : Inv X pins σ H s :=
  ⟨ok, I.os, I.bare, I.base, I.loc, I.cell, I.free, I.freeC, fun q hq => I.pin q (List.mem_append_left _ hq), I.hok, I.len⟩
/-- the exception a is looked at: sI is the state without it -/
structure Aloft (X : Cx) (pins : List (Addr × Obj)) (σ : L2.St) (H : Hp) (a : Addr) (cls : Value) (d yo : Option Addr) (B : Heap) (sI s : Shared) : Prop where
  J : Inv X pins σ H sI
  nb : ∀ b o, sI.heap.get? b = some o → b ∉ frs X.stack → B.get? b = some o
  up : sI.heap.UpToSlots s.heap
  fl : PySem.HandSPX.FlyingZ B (X.env :: X.outer) a (Zy X.K yo cls d) s.heap
  na : H a = none
  os : s.os = sI.os
  ag : AllBare s.gens
  gd : Gd yo B H
section
variable {a : Addr} {cls : Value} {d yo : Option Addr} {B : Heap} {sI : Shared}
theorem Aloft.inv (q : Aloft X pins σ H a cls d yo B sI s) : Inv X pins σ H s := q.J.landed q.nb q.fl.1 q.up q.os q.ag
/-- more objects -/
theorem Aloft.grow {h' : Heap} {tk : Nat} (q : Aloft X pins σ H a cls d yo B sI s) (k : ∀ b o, s.heap.get? b = some o → h'.get? b = some o) : Aloft X pins σ H a cls d yo B sI { s with heap := h', toks := tk } := by
  obtain ⟨f1, f2, f3, oe, vs, T, oT, ts, e1, e2, e3, e4, e5, e6, e7, e8, e9⟩ := q.fl
  exact ⟨q.J, q.nb, q.up.trans (Heap.UpToSlots.of_keeps k), ⟨fun b o e => k b o (f1 b o e), f2, Heap.FunFrames.of_keeps (fun b o e _ => ⟨o, k b o e, rfl⟩) f3, oe, vs, T, oT, ts, k _ _ e1, e2, e3, e4, e5, e6, k _ _ e7, e8, e9⟩, q.na, q.os, q.ag, q.gd⟩
theorem Aloft.set {h' : Heap} (q : Aloft X pins σ H a cls d yo B sI s) (f : PySem.HandSPX.FlyingZ B (X.env :: X.outer) a (Zy X.K yo cls d) h') (up : s.heap.UpToSlots h') : Aloft X pins σ H a cls d yo B sI { s with heap := h' } :=
  ⟨q.J, q.nb, q.up.trans up, f, q.na, q.os, q.ag, q.gd⟩
/-- .. tracked, in a suite -/
theorem Aloft.hot (q : Aloft X pins σ H a cls d yo B sI s) (hs : X.stack = X.env :: X.outer) (hf : X.env.frame = some X.env.locals) (hex : X.ex = []) : ∃ oe : Obj, s.heap.get? a = some oe ∧ Zy X.K yo cls d oe ∧ (∃ vs, oe.data = .fields vs) ∧ Inv (X.suite a (X.pn ++ pins)) [] σ (upd H a (xob a oe)) s := by
  obtain ⟨oe, vs, he, hz, hd⟩ := q.fl.there
  have nfr : a ∉ frs (X.env :: X.outer) := fun hm => by
    obtain ⟨_, o', e', hnf⟩ := q.fl.2.2.1.mem hm
    rw [he] at e'
    cases e'
    exact hnf _ hd
  have nL : a ≠ X.env.locals := fun z => nfr (List.mem_filterMap.mpr ⟨X.env, List.mem_cons_self, by rw [hf, z]⟩)
  have nF : a ∉ X.fs := fun hm => by
    obtain ⟨e, h1, h2⟩ := List.mem_filterMap.mp hm
    exact nfr (List.mem_filterMap.mpr ⟨e, List.mem_cons_of_mem _ h1, h2⟩)
  have fresh : ∀ o, sI.heap.get? a ≠ some o := fun o e => by
    have z := q.nb a o e (by rw [hs]; exact nfr)
    rw [q.fl.2.1] at z
    cases z
  refine ⟨oe, he, hz, ⟨vs, hd⟩, inv_hot q.inv he hd q.na nL nF ?_ fun p hp z => ?_⟩
  · cases e : X.s_0.heap.get? a with
    | none => rfl
    | some o =>
      obtain ⟨o', e'⟩ := q.J.base.there a o e (by rw [hex]; simp)
      exact absurd e' (fresh o')
  · obtain ⟨e1, _⟩ := q.J.pin p hp
    rw [z] at e1
    exact fresh _ e1
/-- .. pinned, in a suite -/
theorem Aloft.pin (q : Aloft X pins σ H a cls d yo B sI s) (hs : X.stack = X.env :: X.outer) (hf : X.env.frame = some X.env.locals) : ∃ oe : Obj, s.heap.get? a = some oe ∧ Zy X.K yo cls d oe ∧ (∃ vs, oe.data = .fields vs) ∧ Inv (X.suite a ((a, oe) :: (X.pn ++ pins))) [] σ H s := by
  obtain ⟨oe, vs, he, hz, hd⟩ := q.fl.there
  have nfr : a ∉ frs (X.env :: X.outer) := fun hm => by
    obtain ⟨_, o', e', hnf⟩ := q.fl.2.2.1.mem hm
    rw [he] at e'
    cases e'
    exact hnf _ hd
  have nL : a ≠ X.env.locals := fun z => nfr (List.mem_filterMap.mpr ⟨X.env, List.mem_cons_self, by rw [hf, z]⟩)
  have nF : a ∉ X.fs := fun hm => by
    obtain ⟨e, h1, h2⟩ := List.mem_filterMap.mp hm
    exact nfr (List.mem_filterMap.mpr ⟨e, List.mem_cons_of_mem _ h1, h2⟩)
  exact ⟨oe, he, hz, ⟨vs, hd⟩, q.inv.suite he hd q.na nL nF⟩
/-- a clause's classes are read -/
theorem read_name {pn pins' : List (Addr × Obj)} {σ' : L2.St} {H' : Hp} {E : Value → Shared → Prop} {Q : Value → Shared → Prop} {x : Str} {np : Pos} {c : Value} (I : Inv (X.suite a pn) pins' σ' H' s) (hc : Names X x c) (q : Q c s) : wpAny (model X.prog X.w) (X.A.mark (some (.ref a))) (eval (.Name x np) X.env) Q E s := by
  obtain ⟨hg, hdb, hm | ⟨hm, hv, hn⟩⟩ := hc
  · exact ld_glob (X := X.suite a pn) I hg hm q hdb
  · exact ld_blt (X := X.suite a pn) I hg hm hv q hn hdb
theorem read_names {pn pins' : List (Addr × Obj)} {σ' : L2.St} {H' : Hp} {E : Value → Shared → Prop} {pos : Pos} : ∀ {es : List Expr} {cs : List Value} {Q : List Value → Shared → Prop}, Inv (X.suite a pn) pins' σ' H' s → Nms X es cs → Q cs s →
    wpAny (model X.prog X.w) (X.A.mark (some (.ref a))) (spliced (backTo pos (starEach es X.env))) Q E s
  | _, _, _, _, .nil, q => PyProof.Rows.spliced_none q
  | _, _, _, I, .cons hc he r, q => PyProof.Rows.spliced_more (read_name I hc (read_names I r q)) he
theorem read_cls {E : Value → Shared → Prop} {Q : Value → Shared → Prop} {t : Expr} {cs : List Value} {b : Bool} (hs : X.stack = X.env :: X.outer) (hf : X.env.frame = some X.env.locals) (hex : X.ex = []) (q : Aloft X pins σ H a cls d yo B sI s) (ht : ClE X t cs) (hb : tstV X.K cls cs = some b)
    (k : ∀ (c : Value) (h' : Heap) (tk : Nat), Aloft X pins σ H a cls d yo B sI { s with heap := h', toks := tk } → PySem.W.Looks (model X.prog X.w) h' (excMatches (.ref a) c) b → Q c { s with heap := h', toks := tk }) :
    wpAny (model X.prog X.w) (X.A.mark (some (.ref a))) (eval t X.env) Q E s := by
  obtain ⟨_, _, _, _, I⟩ := q.hot hs hf hex
  obtain ⟨oe, vs, he, hz, hd⟩ := q.fl.there
  have LT : PySem.W.Looks (model X.prog X.w) s.heap (typeOf (.ref a)) cls := fun A Q E s k q => wpAny_typeOf_ref (k _ _ he) (by rw [hz.1]; exact q)
  have pushed : ∀ (cs : List Value), (∀ b o, s.heap.get? b = some o → (s.heap.push { cls := .type "tuple", data := .seq cs.toArray }).get? b = some o) := fun cs b o e => Heap.get?_push_of_some _ e
  have kin : ∀ (cs : List Value), X.K.In (s.heap.push { cls := .type "tuple", data := .seq cs.toArray }) := fun cs => I.kIn.keeps (pushed cs)
  cases ht with
  | one hc => exact read_name I hc (k _ s.heap s.toks q (PySem.W.exm_one I.kIn LT hb))
  | two h =>
    refine wpAny_Tuple_spliced (read_names I h ⟨by rw [sizeLine_eq]; simp, ?_⟩)
    exact k _ _ s.toks (q.grow (pushed _)) (PySem.W.exm_tup2 (kin _) (LT.keeps (pushed _)) (Heap.get?_push_size _ rfl) hb)
  | three h =>
    refine wpAny_Tuple_spliced (read_names I h ⟨by rw [sizeLine_eq]; simp, ?_⟩)
    exact k _ _ s.toks (q.grow (pushed _)) (PySem.W.exm_tup3 (kin _) (LT.keeps (pushed _)) (Heap.get?_push_size _ rfl) hb)
  | four h =>
    refine wpAny_Tuple_spliced (read_names I h ⟨by rw [sizeLine_eq]; simp, ?_⟩)
    exact k _ _ s.toks (q.grow (pushed _)) (PySem.W.exm_tup4 (kin _) (LT.keeps (pushed _)) (Heap.get?_push_size _ rfl) hb)
/-- the clauses, one after the other -/
theorem run_clauses {Wout : WX} {D : Ends} (hs : X.stack = X.env :: X.outer) (hf : X.env.frame = some X.env.locals) (hex : X.ex = []) (hN : X.N.Nodup) (tk : TakesD X Wout) : ∀ {hds : List ExceptHandler} {l : List (List Value × Option Nat × (Addr → TS))} {s : Shared}, Clauses X hds l → Aloft X pins σ H a cls d yo B sI s →
    wTry X.K Wout D l cls d σ H → wpAny (model X.prog X.w) X.A (handleBy (.ref a) X.env hds) (SP X pins D) X.xe s
  | _, _, s, .nil, q, w => by
    refine wpAny_handleBy_nil ?_
    obtain ⟨f1, f2, f3, oe, vs, T, oT, ts, e1, e2, e3, e4, e5⟩ := q.fl
    have up : wpAny (model X.prog X.w) X.A (setFlight (.ref a) X.env.frame) (fun _ s4 => wpAny (model X.prog X.w) X.A (throw (.ref a) : Sem Flow) (SP X pins D) X.xe s4) X.xe s := by
      rw [hf]
      refine PySem.HandSPX.setFlight_upZ q.fl fun h4 hh4 up4 => wpAny_throw (tk.go ⟨a, B, sI, pins, σ, H, cls, d, yo, rfl, q.J, q.nb, q.up.trans up4, .inr (.inr (by rw [hs]; exact hh4)), q.na, q.os, q.ag, q.gd, w⟩)
    unfold PySem.passOn
    refine wpAny_bind (wpAny_field e1 e3 e4 ?_)
    rw [if_neg (show ¬ ((Value.ref T == Value.none) = true) from by simp)]
    first
      | exact wpAny_bind (wpAny_pure (wpAny_bind up))
      | exact wpAny_bind up
  | _, _, s, .bare ht hsu r, q, w => by
    obtain ⟨b, hb, yes, no⟩ := w
    refine PySem.W.exc_clause (read_cls hs hf hex q ht hb fun c h' tk' q' L => ⟨b, L, ?_⟩)
    cases b with
    | true =>
      show wpAny _ _ _ _ _ _
      refine PySem.HandSPX.lands_againZ q'.fl fun h4 f4 up4 => ?_
      obtain ⟨oe, he, hz, hv, I⟩ := (q'.set f4 up4).hot hs hf hex
      refine wpAny_mono ((hsu a (X.pn ++ pins)).run [] _ _ _ _ I (yes rfl a oe q.na hz.q hv)) (fun f s6 sp => ?_) fun _ _ z => z.elim
      cases f with
      | next => obtain ⟨σ6, H6, I6, q6⟩ := sp; exact ⟨σ6, H6, inv_cold I6 q.J.ok, q6⟩
      | brk => obtain ⟨σ6, H6, I6, q6⟩ := sp; exact ⟨σ6, H6, inv_cold I6 q.J.ok, q6⟩
      | cont => obtain ⟨σ6, H6, I6, q6⟩ := sp; exact ⟨σ6, H6, inv_cold I6 q.J.ok, q6⟩
      | ret u => obtain ⟨v6, σ6, H6, I6, r6, q6⟩ := sp; exact ⟨v6, σ6, H6, inv_cold I6 q.J.ok, r6, q6⟩
    | false =>
      show wpAny _ _ _ _ _ _
      exact run_clauses hs hf hex hN tk r q' (no rfl)
  | _, _, s, @Clauses.named _ _ n i _ _ _ _ ps _ _ hi hl ht hsu r, q, w => by
    obtain ⟨b, hb, yes, no⟩ := w
    refine PySem.W.exc_clause_as (read_cls hs hf hex q ht hb fun c h' tk' q' L => ⟨b, L, ?_⟩)
    cases b with
    | true =>
      show wpAny _ _ _ _ _ _
      refine PySem.HandSPX.lands_againZ q'.fl fun h4 f4 up4 => ?_
      obtain ⟨oe, he, hz, hv, I⟩ := (q'.set f4 up4).hot hs hf hex
      refine store_ok (X := X.suite a (X.pn ++ pins)) (v := .ref a) I hN hi (.inl hl) rfl (fun s5 I5 => ?_) (.inr hl)
      refine wpAny_mono ((hsu a (X.pn ++ pins)).run [] _ _ _ _ I5 (yes rfl a oe q.na hz.q hv)) (fun f s6 sp => ?_) fun _ _ z => z.elim
      have gone : ∀ {σ6 : L2.St} {H6 : Hp} {Q : Shared → Prop}, Inv (X.suite a (X.pn ++ pins)) [] σ6 H6 s6 → (∀ s7, Inv X pins (σ6.set i none) H6 s7 → Q s7) →
          wpAny (model X.prog X.w) X.A (do bindName X.env n .none; unbindBehindTheSuite X.env n ps) (fun _ s7 => Q s7) X.xe s6 := fun {σ6 H6 Q} I6 hq => gone_ok (inv_cold I6 q.J.ok) hN hi hl hq
      cases f with
      | next => obtain ⟨σ6, H6, I6, q6⟩ := sp; exact gone I6 fun s7 I7 => ⟨_, H6, I7, q6⟩
      | brk => obtain ⟨σ6, H6, I6, q6⟩ := sp; exact gone I6 fun s7 I7 => ⟨_, H6, I7, q6⟩
      | cont => obtain ⟨σ6, H6, I6, q6⟩ := sp; exact gone I6 fun s7 I7 => ⟨_, H6, I7, q6⟩
      | ret u => obtain ⟨v6, σ6, H6, I6, r6, q6⟩ := sp; exact gone I6 fun s7 I7 => ⟨v6, _, H6, I7, r6, q6⟩
    | false =>
      show wpAny _ _ _ _ _ _
      exact run_clauses hs hf hex hN tk r q' (no rfl)
end
end
/-- try: body / except ..: .. -/
theorem ps_tryC {X : Cx} {body : List Stmt} {h₀ : ExceptHandler} {hds : List ExceptHandler} {l : List (List Value × Option Nat × (Addr → TS))} {Wout : WX} {tb : WX → TS} {pos : Pos} (hs : X.stack = X.env :: X.outer) (hf : X.env.frame = some X.env.locals) (hex : X.ex = []) (hN : X.N.Nodup) (tk : TakesD X Wout)
    (hb : ∀ (W : WX) (pn : List (Addr × Obj)) (xe : Value → Shared → Prop), TakesD (X.tr pn xe) W → PassesOwn (model X.prog X.w) X.A X.env xe → PSs (X.tr pn xe) body (tb W)) (hh : Clauses X (h₀ :: hds) l) :
    PS X (.Try body (h₀ :: hds) [] [] pos) (fun D σ H => tb (wTry X.K Wout D l) D σ H) := by
  refine ⟨fun pins s σ H D I h => ?_⟩
  have ok := I.ok
  refine wpAny_Try_except (wpAny_mono ((hb (wTry X.K Wout D l) (X.pn ++ pins) (fun e s₁ => wpAny (model X.prog X.w) X.A (noteFrame e X.env) (fun _ s₂ => wpAny (model X.prog X.w) X.A (setFlight e none) (fun _ s₃ =>
    wpAny (model X.prog X.w) X.A (handleBy e X.env (h₀ :: hds)) (SP X pins D) X.xe s₃) X.xe s₂) X.xe s₁) (TakesD.of fun u s' xx => ?_) PassesOwn.looking).run [] s σ H D (I.toTry _) h) (fun f s1 sp => ?_) fun _ _ z => z)
  · obtain ⟨a, B, sI, pins', σ', H', cls, d, yo, rfl, J', nb, up, sky, na, os, ag, gd, w⟩ := xx
    have sky' : Sky B (X.env :: X.outer) a (Zy X.K yo cls d) X.env.locals s'.heap := by rw [← hs]; exact sky
    exact L2N.Sky.land Zy.steady (by rw [ok.frames, hs]) hf sky' fun h3 fl3 up3 => run_clauses hs hf hex hN tk hh ⟨J'.ofTry ok, nb, up.trans up3, fl3, na, os, ag, gd⟩ w
  · cases f with
    | next => obtain ⟨σ', H', I', q⟩ := sp; exact wpAny_execs_nil ⟨σ', H', I'.ofTry ok, q⟩
    | brk => obtain ⟨σ', H', I', q⟩ := sp; exact ⟨σ', H', I'.ofTry ok, q⟩
    | cont => obtain ⟨σ', H', I', q⟩ := sp; exact ⟨σ', H', I'.ofTry ok, q⟩
    | ret u => obtain ⟨v, σ', H', I', r, q⟩ := sp; exact ⟨v, σ', H', I'.ofTry ok, r, q⟩
end DL
end
section
namespace DL
open PySem PySem.Spec PyProof.Rows L2
def xnOf : D → Option Str
  | .dict ((.none, .str n) :: _) => some n
  | _ => none
def fldOf (f : Str) : D → W D
  | .dict [(.none, .str _), (.str g, d)] => if f = g then ret d else stuck
  | _ => stuck
/-- e.f of an error -/
def eFld (a : XE) (f : Str) : XE := fun E => bnd (a E) (fldOf f)
def tyOf? (m : Str) : Option Ty :=
  if m == "int" then some .int else if m == "bool" then some .bool else if m == "tuple" then some .tuple else if m == "str" then some .str else if m == "list" then some .list else if m == "dict" then some .dict else none
def isTm (d : D) (m : Str) : Bool := match tyOf? m with | some t => isTy t d | none => false
/-- isinstance(a, classes) -/
def isC (ms : List Str) (d : D) : W D := match xnOf d with
  | some n => grd (ms.all (fun m => allN.contains m) = true) (ret (.bool (ms.any (subC n))))
  | none => grd (noXn d = true ∧ ms.all (fun m => (tyOf? m).isSome) = true) (ret (.bool (ms.any (isTm d))))
def eIsC (ms : List Str) (a : XE) : XE := fun E => bnd (a E) (isC ms)
/-- an error as data -/
def Exn.d (x : Exn) : D := xD x.cls x.fs
def eSetO (oi : Option Nat) (e : Ent) (E : Env) : Env := match oi with
  | none => E
  | some i => E.set i e
def Out.clear (oi : Option Nat) : Out → Out
  | .nx E => .nx (eSetO oi .unk E)
  | .bk E => .bk (eSetO oi .unk E)
  | .ct E => .ct (eSetO oi .unk E)
  | .rt d => .rt d
/-- the clauses: classes, name, suite -/
def hdL : List (List Str × Option Nat × XS) → Exn → XS
  | [], x => fun _ => thr x
  | (ns, oi, s) :: r, x => if ns.any (subC x.cls) = true then fun E => bnd (noX (s (eSetO oi (.val x.d) E))) fun o => ret (o.clear oi) else hdL r x
/-- try: e, then k of its value (which raises nothing) -/
def sTry (e : XE) (k : D → XS) (hd : Exn → XS) : XS := fun E n P X => e E n (fun d n' => noX (k d E) n' P fun _ _ => False) fun x n' => hd x E n' P X
def kRet : D → XS := fun d _ => ret (.rt d)
/-- an expression that names a class m -/
structure NmC (X : Cx) (m : Str) : Prop where
  all : allN.contains m = true
  here : here X.K m = true
  nm : Names X m (clsV X.K m)
inductive ClN (X : Cx) : Expr → List Str → Prop
  | one {m : Str} {np : Pos} (h : NmC X m) : ClN X (.Name m np) [m]
  | two {m1 m2 : Str} {p1 p2 pos : Pos} {k0 : _} (h1 : NmC X m1) (h2 : NmC X m2) (e1 : starEach [.Name m1 p1, .Name m2 p2] X.env = (false, eval (.Name m1 p1) X.env) :: starEach [.Name m2 p2] X.env) (e2 : starEach [.Name m2 p2] X.env = (false, eval (.Name m2 p2) X.env) :: starEach [] X.env) :
      ClN X (.Tuple [.Name m1 p1, .Name m2 p2] k0 pos) [m1, m2]
  | three {m1 m2 m3 : Str} {p1 p2 p3 pos : Pos} {k0 : _} (h1 : NmC X m1) (h2 : NmC X m2) (h3 : NmC X m3) (e1 : starEach [.Name m1 p1, .Name m2 p2, .Name m3 p3] X.env = (false, eval (.Name m1 p1) X.env) :: starEach [.Name m2 p2, .Name m3 p3] X.env)
      (e2 : starEach [.Name m2 p2, .Name m3 p3] X.env = (false, eval (.Name m2 p2) X.env) :: starEach [.Name m3 p3] X.env) (e3 : starEach [.Name m3 p3] X.env = (false, eval (.Name m3 p3) X.env) :: starEach [] X.env) : ClN X (.Tuple [.Name m1 p1, .Name m2 p2, .Name m3 p3] k0 pos) [m1, m2, m3]
  | four {m1 m2 m3 m4 : Str} {p1 p2 p3 p4 pos : Pos} {k0 : _} (h1 : NmC X m1) (h2 : NmC X m2) (h3 : NmC X m3) (h4 : NmC X m4) (e1 : starEach [.Name m1 p1, .Name m2 p2, .Name m3 p3, .Name m4 p4] X.env = (false, eval (.Name m1 p1) X.env) :: starEach [.Name m2 p2, .Name m3 p3, .Name m4 p4] X.env) (e2 : starEach [.Name m2 p2, .Name m3 p3, .Name m4 p4] X.env = (false, eval (.Name m2 p2) X.env) :: starEach [.Name m3 p3, .Name m4 p4] X.env) (e3 : starEach [.Name m3 p3, .Name m4 p4] X.env = (false, eval (.Name m3 p3) X.env) :: starEach [.Name m4 p4] X.env) (e4 : starEach [.Name m4 p4] X.env = (false, eval (.Name m4 p4) X.env) :: starEach [] X.env) : ClN X (.Tuple [.Name m1 p1, .Name m2 p2, .Name m3 p3, .Name m4 p4] k0 pos) [m1, m2, m3, m4]
section
variable {X : Cx}
theorem NmC.one {m n : Str} (h : NmC X m) (c : ErrC X.K n) : PySem.W.exmOne X.K (.ref (He.ga X.K n)) (clsV X.K m) = some (subC n m) ∧ PySem.W.kitOne X.K (.ref (He.ga X.K n)) (clsV X.K m) = some (subC n m) :=
  c.kn m (by simpa using h.all) h.here
theorem ClN.cle {t : Expr} {ms : List Str} (h : ClN X t ms) : ClE X t (ms.map (clsV X.K)) := by
  cases h with
  | one h => exact .one h.nm
  | two h1 h2 e1 e2 => exact .two (.cons h1.nm e1 (.cons h2.nm e2 .nil))
  | three h1 h2 h3 e1 e2 e3 => exact .three (.cons h1.nm e1 (.cons h2.nm e2 (.cons h3.nm e3 .nil)))
  | four h1 h2 h3 h4 e1 e2 e3 e4 => exact .four (.cons h1.nm e1 (.cons h2.nm e2 (.cons h3.nm e3 (.cons h4.nm e4 .nil))))
theorem ClN.tst {t : Expr} {ms : List Str} (h : ClN X t ms) {n : Str} (c : ErrC X.K n) : tstV X.K (.ref (He.ga X.K n)) (ms.map (clsV X.K)) = some (ms.any (subC n)) := by
  cases h with
  | one h => simpa [tstV] using (h.one c).1
  | two h1 h2 e1 e2 => simp [tstV, PySem.W.exmAny, (h1.one c).1, (h2.one c).1]
  | three h1 h2 h3 e1 e2 e3 => simp [tstV, PySem.W.exmAny, (h1.one c).1, (h2.one c).1, (h3.one c).1]
  | four h1 h2 h3 h4 e1 e2 e3 e4 => simp [tstV, PySem.W.exmAny, (h1.one c).1, (h2.one c).1, (h3.one c).1, (h4.one c).1]
end
/-- what is handled lies in the heap, its context None -/
def HotH (A : Around) (H : Hp) : Prop := ∃ (a : Addr) (oe : Obj), A.handled = some (.ref a) ∧ H a = some (xob a oe) ∧ EndC oe
/-- wherever the state holds, what is handled is known -/
def HotP (A : Around) (p : Par) : Prop := ∀ c H, p.SI c H → HotH A H
/-- the slot i holds an error, not Rejected -/
def nRj (i : Nat) (E : Env) : Prop := match E[i]? with
  | some (.val d) => (match xnOf d with
    | some n => n ≠ "Rejected"
    | none => False)
  | _ => False
/-- a suite that leans on the error at i being known -/
def sHot (i : Nat) (s : XS) : XS := fun E => grd (nRj i E) (s E)
inductive PCl (X : Cx) (p : Par) (k : Nat) : List ExceptHandler → List (List Str × Option Nat × XS) → Prop
  | nil : PCl X p k [] []
  | bare {t : Expr} {ns : List Str} {m : XS} {b₀ : Stmt} {suite : List Stmt} {pos : Pos} {hds : List ExceptHandler} {l : List (List Str × Option Nat × XS)} (ht : ClN X t ns) (hs : ∀ (a : Addr) (pn : List (Addr × Obj)), SitB false true (X.suite a pn) p.quiet k → PSSD (X.suite a pn) p.quiet (b₀ :: suite) m)
      (r : PCl X p k hds l) : PCl X p k (.ExceptHandler (some t) none (b₀ :: suite) pos :: hds) ((ns, none, m) :: l)
  | named {t : Expr} {n : Str} {i : Nat} {ns : List Str} {m : XS} {b₀ : Stmt} {suite : List Stmt} {pos : Pos} {hds : List ExceptHandler} {l : List (List Str × Option Nat × XS)} (hi : X.N[i]? = some n) (hl : X.env.kindOf n = some .local) (ht : ClN X t ns)
      (hs : ∀ (a : Addr) (pn : List (Addr × Obj)), SitB false true (X.suite a pn) p.quiet k → PSSD (X.suite a pn) p.quiet (b₀ :: suite) m) (r : PCl X p k hds l) : PCl X p k (.ExceptHandler (some t) (some n) (b₀ :: suite) pos :: hds) ((ns, some i, m) :: l)
  | namedH {t : Expr} {n : Str} {i : Nat} {ns : List Str} {m : XS} {b₀ : Stmt} {suite : List Stmt} {pos : Pos} {hds : List ExceptHandler} {l : List (List Str × Option Nat × XS)} (hi : X.N[i]? = some n) (hl : X.env.kindOf n = some .local) (ht : ClN X t ns)
      (hs : ∀ (a : Addr) (pn : List (Addr × Obj)) (q : Par), SitB false true (X.suite a pn) q k → HotP (X.suite a pn).A q → PSSD (X.suite a pn) q (b₀ :: suite) m) (r : PCl X p k hds l) : PCl X p k (.ExceptHandler (some t) (some n) (b₀ :: suite) pos :: hds) ((ns, some i, sHot i m) :: l)
section
variable {X : Cx} {p : Par} {k : Nat} {cb : Bool} {K : PySem.W.Frag}
theorem sit_suite (S : SitB cb true X p k) (a : Addr) (pn : List (Addr × Obj)) : SitB false true (X.suite a pn) p.quiet k where
  calm_ := fun z => (nomatch z)
  gd := S.gd
  rm := ⟨fun z => (nomatch z), S.rm.dp, S.rm.un⟩
  nd := S.nd
  ok := ⟨S.ok.stab, fun _ _ _ _ _ _ _ _ _ _ _ h => h.elim⟩
  po := PassesOwn.never
  tk := takes0D
  nf_ := fun _ => rfl
  sm := S.sm
/-- the suite's reading, whatever is pinned -/
def tsu (X : Cx) (p : Par) (suite : List Stmt) (m : XS) (a : Addr) : TS := fun D σ H => ∀ pn, ∃ t, PSs (X.suite a pn) suite t ∧ SR X.K p.quiet t m ∧ t D σ H
theorem tsu_ok {suite : List Stmt} {m : XS} (a : Addr) (pn : List (Addr × Obj)) : PSs (X.suite a pn) suite (tsu X p suite m a) := ⟨fun pins s σ H D I h => by
  obtain ⟨t, h1, _, h3⟩ := h pn
  exact h1.run pins s σ H D I h3⟩
theorem Slot.loud {p : Par} {n : Sx} {B : Addr → Prop} {H : Hp} {x : Option V} {y : Ent} (s : Slot K p.quiet n B H x y) : Slot K p n B H x y := by
  cases s with
  | unk _ => exact .unk _
  | val r => exact .val r
  | own b n nc h0 hl r => exact .own b n nc h0 hl r
  | stm => exact .stm (p := p)
  | scr q => exact .scr q
theorem EnvR.loud {p : Par} (nf : p.fx = none) {n : Sx} {B : Addr → Prop} {H : Hp} {σ : L2.St} {E : Env} (r : EnvR K p.quiet n B H σ E) : EnvR K p n B H σ E :=
  ⟨r.len, fun i e q => let ⟨s, h1, h2⟩ := r.at_ i e q; ⟨s, h1, h2.loud⟩, r.nd, .no nf, r.pn⟩
/-- an exception that lies in the heap is data -/
theorem rep_exn {B : Addr → Prop} {H : Hp} {mg : Str → Option Value} {x : Exn} {c : Value} {d : Option Addr} {a : Addr} {oe : Obj} (r : ExRep K mg B H x c d) (na : H a = none) (nb : ¬ B a) (hz : Zq K c d oe) (hv : ∃ vs, oe.data = .fields vs) : Rep K B (upd H a (xob a oe)) (.ref a) x.d := by
  obtain ⟨h1, h2, h3⟩ := r
  obtain ⟨n, fs⟩ := x
  have al : All H (upd H a (xob a oe)) := All.new na
  match fs, h3 with
  | [], h3 =>
    subst h3
    exact .exn0 upd_same nb ⟨by rw [hz.1]; exact h1, hz.2.1, hv, h2, fun hn => hz.2.2 (by rw [h1]; exact h2.noRJ hn)⟩
  | [(f, y)], ⟨dd, v, e1, e2, e3, e4⟩ =>
    subst e1
    exact .exn1 upd_same nb ⟨by rw [hz.1]; exact h1, hz.2.1, hv, h2, fun hn => hz.2.2 (by rw [h1]; exact h2.noRJ hn)⟩ (al _ _ e2) e3 (e4.mono al.ext)
  | _ :: _ :: _, h3 => exact h3.elim
theorem env_setO {p : Par} (nf : p.fx = none) {n : Sx} {B : Addr → Prop} {H : Hp} {σ : L2.St} {E : Env} (r : EnvR K p n B H σ E) (oi : Option Nat) {v : V} {d : D} (h : Rep K (bm p B n) H v d) : EnvR K p n B H (setO oi (some v) σ) (eSetO oi (.val d) E) := by
  cases oi with
  | none => exact r
  | some i => exact r.val nf i h
theorem env_clr {p : Par} (nf : p.fx = none) {n : Sx} {B : Addr → Prop} {H : Hp} {σ : L2.St} {E : Env} (r : EnvR K p n B H σ E) (oi : Option Nat) : EnvR K p n B H (setO oi none σ) (eSetO oi .unk E) := by
  cases oi with
  | none => exact r
  | some i => exact r.unk nf i none
/-- what follows a try: each way out -/
structure TryQ (K : PySem.W.Frag) (p : Par) (c : Sx) (B : Addr → Prop) (H : Hp) (P : Out → Sx → Prop) (Dn : Ends) : Prop where
  nx : ∀ E' c' B' σ' H', P (.nx E') c' → St0 p c' B' H' → Tr (bm p B c) H (bm p B' c') H' → EnvR K p c' B' H' σ' E' → Dn.nx σ' H'
  rt : ∀ d c' v H', P (.rt d) c' → p.SI c' H' → Ev p p.c0 p.H0 c' H' → Rep K (bm p p.Bc c') H' v d → Dn.rt v H'
  bk : ∀ E' c' B' σ' H', P (.bk E') c' → St0 p c' B' H' → Tr (bm p B c) H (bm p B' c') H' → EnvR K p c' B' H' σ' E' → Dn.bk σ' H'
  ct : ∀ E' c' B' σ' H', P (.ct E') c' → St0 p c' B' H' → Tr (bm p B c) H (bm p B' c') H' → EnvR K p c' B' H' σ' E' → Dn.ct σ' H'
theorem run_suite (S : SitB cb true X p k) {suite : List Stmt} {m : XS} {oi : Option Nat} (hsu : ∀ (a : Addr) (pn : List (Addr × Obj)), SitB false true (X.suite a pn) p.quiet k → PSSD (X.suite a pn) p.quiet suite m) {B : Addr → Prop} {H H2 : Hp} {σ : L2.St} {E : Env} {c c2 : Sx} {P : Out → Sx → Prop} {Dn : Ends} {x : Exn} {cl : Value} {d : Option Addr}
    (st : St0 p c B H) (r : EnvR X.K p c B H σ E) (q : TryQ X.K p c B H P Dn) (e2 : Ev p c H c2 H2) (s2 : p.SI c2 H2) (rx : ExRep X.K X.mg (bm p B c2) H2 x cl d) (mm : (bnd (noX (m (eSetO oi (.val x.d) E))) fun o => ret (o.clear oi)) c2 P fun _ _ => False)
    (a : Addr) (oe : Obj) (na : H2 a = none) (hz : Zq X.K cl d oe) (hv : ∃ vs, oe.data = .fields vs) : tsu X p suite m a (endO oi Dn) (setO oi (some (.ref a)) σ) (upd H2 a (xob a oe)) := by
  intro pn
  obtain ⟨t, h1, h2⟩ := (hsu a pn (sit_suite S a pn)).ex
  refine ⟨t, h1, h2, ?_⟩
  have st2 := st.go e2 s2
  have nb : ¬ bm p B c2 a := fun z => st2.trk a z na
  have al : All H2 (upd H2 a (xob a oe)) := All.new na
  have e3 : Ev p c H c2 (upd H2 a (xob a oe)) := e2.trans al.ev
  have st3 : St0 p c2 B (upd H2 a (xob a oe)) := st.go e3 (st2.all S.ok al)
  have tr3 : Tr (bm p B c) H (bm p B c2) (upd H2 a (xob a oe)) := st.up e3
  refine h2 B _ _ (eSetO oi (.val x.d) E) c2 _ _ st3.quiet (env_setO rfl (r.go st e3).quiet oi (rep_exn rx na nb hz hv)) mm ?_ ?_ ?_ ?_
  · intro E' c' B' σ' H' m1 st1 t1 r1
    exact q.nx _ c' B' _ H' m1 st1.loud (tr3.trans t1) (env_clr S.nf (r1.loud S.nf) oi)
  · intro d' c' v H' m1 s1 e1 r1
    exact q.rt _ c' v H' m1 s1 e1 r1
  · intro E' c' B' σ' H' m1 st1 t1 r1
    exact q.bk _ c' B' _ H' m1 st1.loud (tr3.trans t1) (env_clr S.nf (r1.loud S.nf) oi)
  · intro E' c' B' σ' H' m1 st1 t1 r1
    exact q.ct _ c' B' _ H' m1 st1.loud (tr3.trans t1) (env_clr S.nf (r1.loud S.nf) oi)
/-- other wishes of the state -/
theorem EnvR.reSI {q : Par} {n : Sx} {B : Addr → Prop} {H : Hp} {σ : L2.St} {E : Env} {F : Sx → Hp → Prop} (h : q.fx = none) (r : EnvR K q n B H σ E) : EnvR K { q with SI := F } n B H σ E :=
  ⟨r.len, fun i e z => let ⟨s, h1, h2⟩ := r.at_ i e z; ⟨s, h1, by
    cases h2 with
    | unk _ => exact .unk _
    | val r => exact .val r
    | own b n nc h0 hl r => exact .own b n nc h0 hl r
    | stm => exact .stm (p := { q with SI := F })
    | scr w => exact .scr w⟩, r.nd, .no h, r.pn⟩
def tsuH (X : Cx) (suite : List Stmt) (a : Addr) : TS := fun D σ H => ∀ pn, ∃ t, PSs (X.suite a pn) suite t ∧ t D σ H
theorem tsuH_ok {suite : List Stmt} (a : Addr) (pn : List (Addr × Obj)) : PSs (X.suite a pn) suite (tsuH X suite a) := ⟨fun pins s σ H D I h => by
  obtain ⟨t, h1, h3⟩ := h pn
  exact h1.run pins s σ H D I h3⟩
theorem run_suiteH (S : SitB cb true X p k) {suite : List Stmt} {m : XS} {i : Nat} (hsu : ∀ (a : Addr) (pn : List (Addr × Obj)) (q : Par), SitB false true (X.suite a pn) q k → HotP (X.suite a pn).A q → PSSD (X.suite a pn) q suite m) {B : Addr → Prop} {H H2 : Hp} {σ : L2.St} {E : Env} {c c2 : Sx} {P : Out → Sx → Prop} {Dn : Ends} {x : Exn} {cl : Value} {d : Option Addr}
    (st : St0 p c B H) (r : EnvR X.K p c B H σ E) (q : TryQ X.K p c B H P Dn) (e2 : Ev p c H c2 H2) (s2 : p.SI c2 H2) (rx : ExRep X.K X.mg (bm p B c2) H2 x cl d) (mm : (bnd (noX (sHot i m (eSetO (some i) (.val x.d) E))) fun o => ret (o.clear (some i))) c2 P fun _ _ => False)
    (a : Addr) (oe : Obj) (na : H2 a = none) (hz : Zq X.K cl d oe) (hv : ∃ vs, oe.data = .fields vs) : tsuH X suite a (endO (some i) Dn) (setO (some i) (some (.ref a)) σ) (upd H2 a (xob a oe)) := by
  intro pn
  obtain ⟨nr, mm⟩ := mm
  have hne : x.cls ≠ "Rejected" := by
    unfold nRj at nr
    show x.cls ≠ _
    by_cases hi : i < E.length
    · rw [show (eSetO (some i) (.val x.d) E)[i]? = some (.val x.d) from List.getElem?_set_self hi] at nr
      exact nr
    · rw [show (eSetO (some i) (.val x.d) E)[i]? = none from List.getElem?_eq_none (by show (E.set i _).length ≤ i; rw [List.length_set]; omega)] at nr
      exact nr.elim
  let F : Sx → Hp → Prop := fun c H => p.SI c H ∧ HotH (X.suite a pn).A H
  let qq : Par := { p.quiet with SI := F }
  have okq : qq.Ok X.K X.mg := ⟨fun n H1 H2 h k1 im => ⟨S.ok.stab n H1 H2 h.1 k1 im, by
    obtain ⟨a, oe, h1, h2, h3⟩ := h.2
    exact ⟨a, oe, h1, im a _ h2 trivial, h3⟩⟩, fun _ _ _ _ _ _ _ _ _ _ _ h => h.elim⟩
  have S0 := sit_suite S a pn
  have Sq : SitB false true (X.suite a pn) qq k := ⟨S0.calm_, S0.gd, S0.rm, S0.nd, okq, S0.po, takes0D, fun _ => rfl, S0.sm⟩
  obtain ⟨t, h1, h2⟩ := (hsu a pn qq Sq fun _ _ h => h.2).ex
  refine ⟨t, h1, ?_⟩
  have st2 := st.go e2 s2
  have nb : ¬ bm p B c2 a := fun z => st2.trk a z na
  have al : All H2 (upd H2 a (xob a oe)) := All.new na
  have e3 : Ev p c H c2 (upd H2 a (xob a oe)) := e2.trans al.ev
  have st3 : St0 p c2 B (upd H2 a (xob a oe)) := st.go e3 (st2.all S.ok al)
  have tr3 : Tr (bm p B c) H (bm p B c2) (upd H2 a (xob a oe)) := st.up e3
  have e1 := rx.1
  obtain ⟨fv, hfv⟩ := hv
  have hotN : HotH (X.suite a pn).A (upd H2 a (xob a oe)) := ⟨a, oe, rfl, upd_same, fv, hfv, hz.2.2 (by rw [e1]; exact rx.2.1.noRJ hne) fv hfv⟩
  have r3 : EnvR X.K p.quiet c2 B (upd H2 a (xob a oe)) (setO (some i) (some (.ref a)) σ) (eSetO (some i) (.val x.d) E) := env_setO rfl (r.go st e3).quiet (some i) (rep_exn rx na nb hz ⟨fv, hfv⟩)
  have back : ∀ {c' : Sx} {B' : Addr → Prop} {σ' : L2.St} {H' : Hp} {E' : Env}, EnvR X.K qq c' B' H' σ' E' → EnvR X.K p c' B' H' (setO (some i) none σ') (eSetO (some i) .unk E') := fun {c' B' σ' H' E'} r1 => env_clr S.nf ((EnvR.reSI (F := p.SI) (q := qq) rfl r1 : EnvR X.K p.quiet c' B' H' σ' E').loud S.nf) (some i)
  have bst : ∀ {c' : Sx} {B' : Addr → Prop} {H' : Hp}, St0 qq c' B' H' → St0 p c' B' H' := fun {c' B' H'} s => ⟨s.subc, s.trk, s.si.1, s.ext, s.old⟩
  refine h2 B _ _ (eSetO (some i) (.val x.d) E) c2 _ _ ⟨st3.subc, st3.trk, ⟨st3.si, hotN⟩, st3.ext, st3.old⟩ (EnvR.reSI rfl r3) mm ?_ ?_ ?_ ?_
  · intro E' c' B' σ' H' m1 st1 t1 r1
    exact q.nx _ c' B' _ H' m1 (bst st1) (tr3.trans t1) (back r1)
  · intro d' c' v H' m1 s1 e1 r1
    exact q.rt _ c' v H' m1 s1.1 e1 r1
  · intro E' c' B' σ' H' m1 st1 t1 r1
    exact q.bk _ c' B' _ H' m1 (bst st1) (tr3.trans t1) (back r1)
  · intro E' c' B' σ' H' m1 st1 t1 r1
    exact q.ct _ c' B' _ H' m1 (bst st1) (tr3.trans t1) (back r1)
/-- the clauses as readings -/
theorem PCl.clauses (S : SitB cb true X p k) : ∀ {hds : List ExceptHandler} {l : List (List Str × Option Nat × XS)}, PCl X p k hds l → ∃ L, Clauses X hds L ∧ ∀ {B : Addr → Prop} {H H2 : Hp} {σ : L2.St} {E : Env} {c c2 : Sx} {P : Out → Sx → Prop} {Dn : Ends} {x : Exn} {cl : Value} {d : Option Addr},
    St0 p c B H → EnvR X.K p c B H σ E → TryQ X.K p c B H P Dn → Ev p c H c2 H2 → p.SI c2 H2 → ExRep X.K X.mg (bm p B c2) H2 x cl d → hdL l x E c2 P p.XP → wTry X.K (fun cl d σ H => p.EK σ cl d H) Dn L cl d σ H2
  | _, _, .nil => ⟨[], .nil, fun {B H H2 σ E c c2 P Dn x cl d} st r q e2 s2 rx m => S.ok.exc c c2 x cl d B H H2 σ st r.fx m s2 e2 rx⟩
  | _, _, .bare (m := ms) (b₀ := b₀) (suite := suite) ht hs t => by
    obtain ⟨L, h1, h2⟩ := PCl.clauses S t
    refine ⟨_, .bare (ts := tsu X p (b₀ :: suite) ms) ht.cle (fun a pn => tsu_ok a pn) h1, fun {B H H2 σ E c c2 P Dn x cl d} st r q e2 s2 rx m => ?_⟩
    have e1 := rx.1
    subst e1
    refine ⟨_, ht.tst rx.2.1, fun hb a oe na hz hv => ?_, fun hb => ?_⟩
    · exact run_suite S hs st r q e2 s2 rx (by have m' := m; simp only [hdL, if_pos hb] at m'; exact m') a oe na hz hv
    · exact h2 st r q e2 s2 rx (by simpa only [hdL, hb, if_neg Bool.false_ne_true] using m)
  | _, _, .named (m := ms) (b₀ := b₀) (suite := suite) hi hl ht hs t => by
    obtain ⟨L, h1, h2⟩ := PCl.clauses S t
    refine ⟨_, .named (ts := tsu X p (b₀ :: suite) ms) hi hl ht.cle (fun a pn => tsu_ok a pn) h1, fun {B H H2 σ E c c2 P Dn x cl d} st r q e2 s2 rx m => ?_⟩
    have e1 := rx.1
    subst e1
    refine ⟨_, ht.tst rx.2.1, fun hb a oe na hz hv => ?_, fun hb => ?_⟩
    · exact run_suite S hs st r q e2 s2 rx (by have m' := m; simp only [hdL, if_pos hb] at m'; exact m') a oe na hz hv
    · exact h2 st r q e2 s2 rx (by simpa only [hdL, hb, if_neg Bool.false_ne_true] using m)
  | _, _, .namedH (i := i) (m := ms) (b₀ := b₀) (suite := suite) hi hl ht hs t => by
    obtain ⟨L, h1, h2⟩ := PCl.clauses S t
    refine ⟨_, .named (ts := tsuH X (b₀ :: suite)) hi hl ht.cle (fun a pn => tsuH_ok a pn) h1, fun {B H H2 σ E c c2 P Dn x cl d} st r q e2 s2 rx m => ?_⟩
    have e1 := rx.1
    subst e1
    refine ⟨_, ht.tst rx.2.1, fun hb a oe na hz hv => ?_, fun hb => ?_⟩
    · exact run_suiteH S hs st r q e2 s2 rx (by have m' := m; simp only [hdL, if_pos hb] at m'; exact m') a oe na hz hv
    · exact h2 st r q e2 s2 rx (by simpa only [hdL, hb, if_neg Bool.false_ne_true] using m)
/-- within the try's body: what e lets out is for the clauses -/
def parT (p : Par) (XP : Exn → Sx → Prop) (W : WX) (σ : L2.St) (c : Sx) (H : Hp) (B : Addr → Prop) : Par := { p with XP := XP, EK := fun σ cl d H => W cl d σ H, fx := some (σ, c, H, B, fun _ => False) }
theorem EvB.parT {n n' c1 : Sx} {B1 : Addr → Prop} {H H' H1 : Hp} {XP : Exn → Sx → Prop} {W : WX} {σ : L2.St} (e : Ev p n H n' H') : Ev (DL.parT p XP W σ c1 H1 B1) n H n' H' := ⟨e.ext, e.up, e.old, e.dom⟩
theorem EvB.loudT {n n' c1 : Sx} {B1 : Addr → Prop} {H H' H1 : Hp} {XP : Exn → Sx → Prop} {W : WX} {σ : L2.St} (e : Ev (DL.parT p XP W σ c1 H1 B1) n H n' H') : Ev p n H n' H' := ⟨e.ext, e.up, e.old, e.dom⟩
theorem St0.parT {n c1 : Sx} {B B1 : Addr → Prop} {H H1 : Hp} {XP : Exn → Sx → Prop} {W : WX} {σ : L2.St} (s : St0 p n B H) : St0 (DL.parT p XP W σ c1 H1 B1) n B H := ⟨s.subc, s.trk, s.si, s.ext.parT, s.old⟩
theorem EnvR.parT {n : Sx} {B : Addr → Prop} {H : Hp} {XP : Exn → Sx → Prop} {W : WX} {σ : L2.St} {E : Env} (r : EnvR K p n B H σ E) : EnvR K (DL.parT p XP W σ n H B) n B H σ E :=
  ⟨r.len, fun i e q => let ⟨s, h1, h2⟩ := r.at_ i e q; ⟨s, h1, by
    cases h2 with
    | unk _ => exact .unk _
    | val r => exact .val r
    | own b n nc h0 hl r => exact .own b n nc h0 hl r
    | stm => exact .stm (p := DL.parT p XP W σ n H B)
    | scr z => exact .scr z⟩, r.nd, fun f e => by
      have e' : some (σ, n, H, B, fun _ => False) = some f := e
      cases e'
      exact ⟨⟨rfl, fun _ _ => rfl⟩, EvB.refl, rfl⟩, r.pn⟩
/-- the body of a try: its first expression, what follows -/
structure PTry (X : Cx) (p : Par) (k : Nat) (body : List Stmt) (me : XE) (kk : D → XS) : Prop where
  ex : ∀ (pn : List (Addr × Obj)) (xe : Value → Shared → Prop) (XP : Exn → Sx → Prop) (W : WX) (c : Sx) (B : Addr → Prop) (H : Hp) (σ : L2.St), SitB true false (X.tr pn xe) (parT p XP W σ c H B) k → SitB true true (X.tr pn xe) p.quiet k →
    ∃ t, PSs (X.tr pn xe) body t ∧ ∀ (E : Env) (P : Out → Sx → Prop) (Dn : Ends), St0 p c B H → EnvR X.K p c B H σ E → me E c (fun d n' => noX (kk d E) n' P fun _ _ => False) XP → TryQ X.K p c B H P Dn → t Dn σ H
theorem try_ret {e : Expr} {me : XE} {pos : Pos} (he : ∀ (pn : List (Addr × Obj)) (xe : Value → Shared → Prop) (p1 : Par), SitB true false (X.tr pn xe) p1 k → SubP p p1 → PD (X.tr pn xe) p1 e me) : PTry X p k [.Return (some e) pos] me kRet := ⟨fun pn xe XP W c B H σ S1 S2 => by
  obtain ⟨te, a1, a2⟩ := (he pn xe _ S1 ⟨fun _ z => z, rfl, rfl, rfl, rfl, rfl, rfl⟩).ex
  refine ⟨_, pss_one (ps_ret a1), fun E P Dn st r m q => ?_⟩
  exact a2 B H σ E _ _ _ st.parT r.parT m fun d c1 v H1 m1 e1 s1 r1 => q.rt d c1 v H1 m1 s1 (st.ext.trans e1.loudT) (r1.less (st.go e1.loudT s1).bc)⟩
theorem sd_try (S : SitB true true X p k) (hs : X.stack = X.env :: X.outer) (hf : X.env.frame = some X.env.locals) (hex : X.ex = []) {body : List Stmt} {h₀ : ExceptHandler} {hds : List ExceptHandler} {me : XE} {kk : D → XS} {l : List (List Str × Option Nat × XS)} {pos : Pos} (hb : PTry X p k body me kk) (hh : PCl X p k (h₀ :: hds) l) :
    PSD X p (.Try body (h₀ :: hds) [] [] pos) (sTry me kk (hdL l)) := by
  obtain ⟨L, h1, h2⟩ := hh.clauses S
  refine ⟨_, ps_tryC (tb := fun W D σ H => ∀ (pn : List (Addr × Obj)) (xe : Value → Shared → Prop), TakesD (X.tr pn xe) W → PassesOwn (model X.prog X.w) X.A X.env xe → ∃ t, PSs (X.tr pn xe) body t ∧ t D σ H) hs hf hex S.nd S.tk
    (fun W pn xe tk po => ⟨fun pins s σ H D I h => by obtain ⟨t, a, b⟩ := h pn xe tk po; exact a.run pins s σ H D I b⟩) h1, fun B H σ E c P Dn st r m nx rt bk ct => ?_⟩
  intro pn xe tk po
  have q : TryQ X.K p c B H P Dn := ⟨nx, rt, bk, ct⟩
  have ok1 : (parT p (fun x c2 => hdL l x E c2 P p.XP) (wTry X.K (fun cl d σ H => p.EK σ cl d H) Dn L) σ c H B).Ok X.K X.mg := by
    refine ⟨S.ok.stab, fun n n' x cl d B1 H1 H2 σ1 st1 fx hx si e rx => ?_⟩
    obtain ⟨f1, f2, f3⟩ := fx _ rfl
    have f1 := fix_same f1
    subst f1 f3
    exact h2 st r q (f2.loudT.trans e.loudT) si rx hx
  have S1 : SitB true false (X.tr pn xe) (parT p (fun x c2 => hdL l x E c2 P p.XP) (wTry X.K (fun cl d σ H => p.EK σ cl d H) Dn L) σ c H B) k := ⟨S.calm_, S.gd, S.rm, S.nd, ok1, po, tk, fun z => (nomatch z), S.sm⟩
  have S2 : SitB true true (X.tr pn xe) p.quiet k := ⟨S.calm_, S.gd, S.rm, S.nd, ⟨S.ok.stab, fun _ _ _ _ _ _ _ _ _ _ _ h => h.elim⟩, po, tk.imp fun _ _ _ _ h => h.elim, fun _ => rfl, S.sm⟩
  obtain ⟨t, a1, a2⟩ := hb.ex pn xe _ _ c B H σ S1 S2
  exact ⟨t, a1, a2 E P Dn st r m q⟩
end
end DL
end
section
namespace DL
open PySem PySem.Spec PyProof.Rows L2
section
variable {X : Cx} {p : Par} {k : Nat} {cb vb : Bool} {pins : List (Addr × Obj)} {σ : L2.St} {H : Hp} {s : Shared}
/-- an error's class, as isinstance reads it -/
theorem inst_exn {a : Addr} {o : Obj} {n : Str} {d : Option Addr} (I : Inv X pins σ H s) (e : H a = some (xob a o)) (x : XOb X.K o n d) (hd : ∀ dd, d = some dd → ∃ fs, H dd = some (.xd fs)) : ∃ od, PySem.W.InstAt s.heap a o (He.ga X.K n) od := by
  have h0 : s.heap.get? a = some o := (I.hok a _ e).1
  obtain ⟨vs, hv⟩ := x.data
  have no : PySem.W.notCls o = true := by unfold PySem.W.notCls; rw [hv]
  cases hdd : d with
  | none => exact ⟨none, h0, x.cls, no, by rw [x.dict, hdd]; trivial⟩
  | some dd =>
    obtain ⟨fs, q⟩ := hd dd hdd
    obtain ⟨mA, ⟨od, es, ep, h1, h2, h3⟩, _⟩ := I.hok dd _ q
    exact ⟨some od, h0, x.cls, no, by rw [x.dict, hdd]; exact h1⟩
/-- the class of what is data -/
def tvD (K : PySem.W.Frag) (d : D) : Value := match xnOf d with
  | some n => .ref (He.ga K n)
  | none => .type (tyName d)
/-- a class that isinstance is asked for -/
structure IsM (X : Cx) (m : Str) (c : V) (cv : Value) : Prop where
  rel : ClsV c cv
  exn : ∀ n, ErrC X.K n → allN.contains m = true → PySem.W.kitOne X.K (.ref (He.ga X.K n)) cv = some (subC n m)
  ty : ∀ t, tyOf? m = some t → cv = .type (tyS t)
def isAns (d : D) (m : Str) : Bool := match xnOf d with
  | some n => subC n m
  | none => isTm d m
def isOk (d : D) (m : Str) : Bool := match xnOf d with
  | some _ => allN.contains m
  | none => noXn d && (tyOf? m).isSome
theorem isM_kit {m : Str} {c : V} {cv : Value} (h : IsM X m c cv) {d : D} (er : ∀ n, xnOf d = some n → ErrC X.K n) (ok : isOk d m = true) : PySem.W.kitOne X.K (tvD X.K d) cv = some (isAns d m) := by
  unfold isOk at ok
  unfold tvD isAns
  cases e : xnOf d with
  | some n =>
    rw [e] at ok
    exact h.exn n (er n e) ok
  | none =>
    rw [e] at ok
    simp only [Bool.and_eq_true] at ok
    obtain ⟨t, ht⟩ := Option.isSome_iff_exists.mp ok.2
    have := h.ty t ht
    subst this
    show PySem.W.kitOne X.K (.type (tyName d)) _ = some (isTm d m)
    rw [kit_ty (kit_isTy t d)]
    simp [isTm, ht]
/-- what the library's isinstance asks of a value that is data -/
theorem kit_rep {B : Addr → Prop} {v : V} {d : D} {u : Value} (I : Inv X pins σ H s) (r : Rep X.K B H v d) (ru : RelV v u) (hx : xnOf d = none → noXn d = true) : (∀ n, xnOf d = some n → ErrC X.K n) ∧ ∃ P : Heap → Prop, PySem.W.KitX X.K u (tvD X.K d) P ∧ P s.heap ∧ u ≠ .builtin "__main__.__loader__#opaque" := by
  have plain : xnOf d = none → (∀ n, xnOf d = some n → ErrC X.K n) ∧ ∃ P : Heap → Prop, PySem.W.KitX X.K u (tvD X.K d) P ∧ P s.heap ∧ u ≠ .builtin "__main__.__loader__#opaque" := fun e => by
    refine ⟨(fun n h => by rw [e] at h; cases h), ?_⟩
    unfold tvD
    rw [e]
    exact kit_of I ru (ty_of (hx e) r)
  cases r with
  | @exn0 a o n e _ x =>
    cases ru
    obtain ⟨od, J⟩ := inst_exn I e x (fun dd z => nomatch z)
    refine ⟨(fun m h => by cases (show some n = some m from h); exact x.er), _, PySem.W.kitx_exc x.er.cl x.er.ga x.er.gg x.er.exC x.er.ha x.er.hn x.er.ht x.er.hm, J, fun z => nomatch z⟩
  | @exn1 a dd o n f v d e _ x e2 _ _ =>
    cases ru
    obtain ⟨od, J⟩ := inst_exn I e x (fun q z => by cases z; exact ⟨_, e2⟩)
    refine ⟨(fun m h => by cases (show some n = some m from h); exact x.er), _, PySem.W.kitx_exc x.er.cl x.er.ga x.er.gg x.er.exC x.er.ha x.er.hn x.er.ht x.er.hm, J, fun z => nomatch z⟩
  | _ => exact plain rfl
theorem isC_split {ms : List Str} {d : D} {n : Sx} {P : D → Sx → Prop} {XP : Exn → Sx → Prop} (h : isC ms d n P XP) : (xnOf d = none → noXn d = true) ∧ (∀ m ∈ ms, isOk d m = true) ∧ P (.bool (ms.any (isAns d))) n := by
  unfold isC at h
  unfold isOk isAns
  cases e : xnOf d with
  | some k =>
    rw [e] at h
    exact ⟨(fun z => nomatch z), fun m hm => List.all_eq_true.mp h.1 m hm, h.2⟩
  | none =>
    rw [e] at h
    obtain ⟨⟨h1, h2⟩, h3⟩ := h
    exact ⟨fun _ => h1, (fun m hm => by simp only [Bool.and_eq_true]; exact ⟨h1, List.all_eq_true.mp h2 m hm⟩), h3⟩
theorem kitAny_ans {t : Value} {d : D} : ∀ {ms : List Str} {cvs : List Value}, Paired (fun m cv => PySem.W.kitOne X.K t cv = some (isAns d m)) ms cvs → PySem.W.kitAny X.K t cvs = some (ms.any (isAns d))
  | _, _, .nil => rfl
  | _, _, .cons h r => by
    unfold PySem.W.kitAny
    rw [h, List.any_cons]
    cases isAns d _ with
    | true => rfl
    | false => simpa using kitAny_ans r
/-- isinstance(x, C) -/
theorem c_isOne {m : Str} {c : V} {cv : Value} (hm : IsM X m c cv) : CallR X (.builtin "isinstance") (fun xs H Q => ∃ (v : V) (B : Addr → Prop) (d : D), xs = [v, c] ∧ Rep X.K B H v d ∧ (xnOf d = none → noXn d = true) ∧ isOk d m = true ∧ Q (.bl (isAns d m)) H) := by
  intro pins s σ H xs us Q I r h
  obtain ⟨v, B, d, rfl, rr, hx, ok, q⟩ := h
  obtain ⟨u1, u2, rfl, r1, r2⟩ := vals2 r
  have e2 := hm.rel.eq r2
  subst e2
  obtain ⟨er, P, Z, pp, ho⟩ := kit_rep I rr r1 hx
  exact PySem.W.kia_one Z I.kIn pp (isM_kit hm er ok) ho fun tk => ⟨.bl _, H, I.tok tk, rfl, q⟩
/-- isinstance(x, (C, ..)) -/
theorem c_isMany {ms : List Str} {cs : List V} {cvs : List Value} (hm : Paired (fun m (q : V × Value) => IsM X m q.1 q.2) ms (cs.zip cvs)) (hl : cs.length = cvs.length) : CallR X (.builtin "isinstance") (fun xs H Q => ∃ (v : V) (tp : Addr) (B : Addr → Prop) (d : D), xs = [v, .ref tp] ∧ H tp = some (.tup cs) ∧ Rep X.K B H v d ∧ (xnOf d = none → noXn d = true) ∧ (∀ m ∈ ms, isOk d m = true) ∧ Q (.bl (ms.any (isAns d))) H) := by
  intro pins s σ H xs us Q I r h
  obtain ⟨v, tp, B, d, rfl, hT, rr, hx, ok, q⟩ := h
  obtain ⟨u1, u2, rfl, r1, r2⟩ := vals2 r
  cases (show u2 = Value.ref tp from r2)
  obtain ⟨er, P, Z, pp, ho⟩ := kit_rep I rr r1 hx
  obtain ⟨_, its, rv, o, h1, h2, n, h3⟩ := (show ObjOk X.prog X.w H s.heap tp (.tup cs) from I.hok tp _ hT)
  have all : ∀ {ms : List Str} {cs : List V} {cvs its : List Value}, Paired (fun m (q : V × Value) => IsM X m q.1 q.2) ms (cs.zip cvs) → cs.length = cvs.length → Vals cs its → (∀ m ∈ ms, isOk d m = true) → its = cvs ∧ Paired (fun m cv => PySem.W.kitOne X.K (tvD X.K d) cv = some (isAns d m)) ms cvs := by
    intro ms
    induction ms with
    | nil =>
      intro cs cvs its hp hl rv _
      cases cs with
      | nil =>
        cases cvs with
        | nil => cases rv; exact ⟨rfl, .nil⟩
        | cons _ _ => simp at hl
      | cons c cs =>
        cases cvs with
        | nil => simp at hl
        | cons _ _ => rw [List.zip_cons_cons] at hp; cases hp
    | cons m ms ih =>
      intro cs cvs its hp hl rv ok
      cases cs with
      | nil => rw [List.zip_nil_left] at hp; cases hp
      | cons c cs =>
        cases cvs with
        | nil => simp at hl
        | cons cv cvs =>
          rw [List.zip_cons_cons] at hp
          cases hp with
          | cons h1 h2 =>
            cases rv with
            | cons q1 q2 =>
              obtain ⟨e, pr⟩ := ih h2 (by simpa using hl) q2 fun m hm => ok m (.tail _ hm)
              have := h1.rel.eq q1
              subst this e
              exact ⟨rfl, .cons (isM_kit h1 er (ok m (.head _))) pr⟩
  obtain ⟨e3, pr⟩ := all hm hl rv ok
  subst e3
  obtain ⟨oc, od, dt, sl⟩ := o
  simp only at h2 h3
  subst h2 h3
  exact PySem.W.kia_tup Z I.kIn pp h1 (kitAny_ans pr) ho fun tk => ⟨.bl _, H, I.tok tk, rfl, q⟩
/-- a class's name, read -/
structure ClsN (X : Cx) (m : Str) : Prop where
  ex : ∃ (c : V) (cv : Value), IsM X m c cv ∧ ∀ np, PE X (.Name m np) (tC c)
theorem clsN_own {m : Str} (h : NmC X m) (nb : isBlt m = false) (hm : X.mg m = some (.ref (He.ga X.K m))) (hg : Gl X m := by rfl) (hdb : (m == ("__debug__" : Str)) = false := by decide) : ClsN X m := by
  have e : clsV X.K m = .ref (He.ga X.K m) := by
    unfold isBlt at nb
    simp only [Bool.or_eq_false_iff] at nb
    unfold clsV
    rw [nb.1, nb.2]
    rfl
  refine ⟨.ref (He.ga X.K m), .ref (He.ga X.K m), ⟨.own _, fun n c _ => by rw [← e]; exact (h.one c).2, fun t ht => ?_⟩, fun np => pe_glob hg hm rfl hdb⟩
  exfalso
  have := h.all
  unfold tyOf? at ht
  repeat' split at ht
  all_goals first
    | (rename_i q; have q' := beq_iff_eq.mp q; subst q'; revert this; decide)
    | (cases ht)
theorem clsN_blt {m : Str} {T : String} (h : NmC X m) (e : clsV X.K m = .type T) (hm : X.mg m = none) (hv : bootBuiltins m = some (.type T)) (nt : tyOf? m = none) (hg : Gl X m := by rfl) (hn : m ≠ "__name__" := by decide) (hdb : (m == ("__debug__" : Str)) = false := by decide) : ClsN X m :=
  ⟨.ty T, .type T, ⟨.ty _, fun n c _ => by rw [← e]; exact (h.one c).2, fun t ht => by rw [nt] at ht; cases ht⟩, fun np => pe_bltn hg hm hv rfl hn hdb⟩
theorem pd_isC {m : Str} {np : Pos} {a : Expr} {ma : XE} {pn pos : Pos} (ha : PD X p a ma) (hm : X.mg "isinstance" = none) (c : ClsN X m) (hg : Gl X "isinstance" := by rfl)
    (hs : starEach [a, .Name m np] X.env = (false, eval a X.env) :: starEach [.Name m np] X.env := by rfl) (hs2 : starEach [.Name m np] X.env = (false, eval (.Name m np) X.env) :: starEach [] X.env := by rfl) (hpl : (backTo pos (starEach [.Name m np] X.env)).any (·.1) = false := by rfl) :
    PD X p (.Call (.Name "isinstance" pn) [a, .Name m np] [] pos) (eIsC [m] ma) := by
  obtain ⟨ta, a1, a2⟩ := ha.ex
  obtain ⟨cc, cv, im, pe⟩ := c.ex
  refine ⟨_, pe_callB (c_isOne im) hg hm (by decide +kernel) (pa_cons a1 (pa_cons (pe np) pa_nil hs2) hs) (by decide) (by decide) hs hpl, fun B H σ E c P Q s re mm k => ?_⟩
  refine a2 B H σ E _ _ _ s re mm fun d c1 v H1 m1 e1 s1 r1 => ?_
  obtain ⟨h1, h2, h3⟩ := isC_split m1
  refine ⟨v, _, d, rfl, r1, h1, h2 m (.head _), k _ c1 _ H1 (by simpa using h3) e1 s1 (.bl _)⟩
/-- several classes -/
inductive ClsNs (X : Cx) : List Expr → List Str → Prop
  | nil : ClsNs X [] []
  | cons {m : Str} {np : Pos} {es : List Expr} {ms : List Str} (h : ClsN X m) (r : ClsNs X es ms) (hs : starEach (.Name m np :: es) X.env = (false, eval (.Name m np) X.env) :: starEach es X.env := by rfl) : ClsNs X (.Name m np :: es) (m :: ms)
theorem ClsNs.pa {es : List Expr} {ms : List Str} (h : ClsNs X es ms) : ∃ (cs : List V) (cvs : List Value) (ta : TA), cs.length = cvs.length ∧ Paired (fun m (q : V × Value) => IsM X m q.1 q.2) ms (cs.zip cvs) ∧ PA X es ta ∧ ∀ σ H Q, Q cs H → ta σ H Q := by
  induction h with
  | nil => exact ⟨[], [], tNil, rfl, .nil, pa_nil, fun σ H Q q => q⟩
  | cons h _ hs ih =>
    obtain ⟨cs, cvs, ta, h1, h2, h3, h4⟩ := ih
    obtain ⟨c, cv, im, pe⟩ := h.ex
    exact ⟨c :: cs, cv :: cvs, _, by simp [h1], .cons im h2, pa_cons (pe _) h3 hs, fun σ H Q q => h4 σ H _ q⟩
theorem pd_isCs (S : SitB cb vb X p k) {es : List Expr} {ms : List Str} {a : Expr} {ma : XE} {k0 : _} {tp pn pos : Pos} (ha : PD X p a ma) (hm : X.mg "isinstance" = none) (c : ClsNs X es ms) (sz : ms.length ≤ 100) (hg : Gl X "isinstance" := by rfl)
    (hs : starEach [a, .Tuple es k0 tp] X.env = (false, eval a X.env) :: starEach [.Tuple es k0 tp] X.env := by rfl) (hs2 : starEach [.Tuple es k0 tp] X.env = (false, eval (.Tuple es k0 tp) X.env) :: starEach [] X.env := by rfl) (hpl : (backTo pos (starEach [.Tuple es k0 tp] X.env)).any (·.1) = false := by rfl) :
    PD X p (.Call (.Name "isinstance" pn) [a, .Tuple es k0 tp] [] pos) (eIsC ms ma) := by
  obtain ⟨ta, a1, a2⟩ := ha.ex
  obtain ⟨cs, cvs, tc, h1, h2, h3, h4⟩ := c.pa
  refine ⟨_, pe_callB (c_isMany h2 h1) hg hm (by decide +kernel) (pa_cons a1 (pa_cons (pe_tup h3) pa_nil hs2) hs) (by decide) (by decide) hs hpl, fun B H σ E c P Q s re mm k => ?_⟩
  refine a2 B H σ E _ _ _ s re mm fun d c1 v H1 m1 e1 s1 r1 => ?_
  obtain ⟨g1, g2, g3⟩ := isC_split m1
  have st1 := s.go e1 s1
  refine h4 σ H1 _ ⟨?_, fun q hq => ?_⟩
  · have : ∀ {ms : List Str} {l : List (V × Value)}, Paired (fun m (q : V × Value) => IsM X m q.1 q.2) ms l → l.length = ms.length := by
      intro ms l h
      induction h with
      | nil => rfl
      | cons _ _ ih => simp [ih]
    have e := this h2
    rw [List.length_zip, h1, Nat.min_self] at e
    rw [h1, e, sizeLine_eq]
    omega
  · have al : All H1 (upd H1 q (.tup cs)) := All.new hq
    exact ⟨v, q, _, d, rfl, upd_same, r1.mono al.ext, g1, g2, k _ c1 _ _ g3 (e1.trans al.ev) (st1.all S.ok al) (.bl _)⟩
/-- e.f of an error -/
theorem pd_fld (f : Fl) {e : Expr} {m : XE} {pos : Pos} (he : PD X p e m) (hb : attributeBase e f.s X.env (eval e X.env) = eval e X.env := by rfl) : PD X p (.Attribute e f.s pos) (eFld m f.s) := by
  obtain ⟨te, a1, a2⟩ := he.ex
  refine ⟨fun σ H Q => te σ H fun x H1 => ∃ (a : Addr) (o : Obj) (n : Str) (dd : Addr) (v : V), x = .ref a ∧ H1 a = some (xob a o) ∧ XOb X.K o n (some dd) ∧ H1 dd = some (.xd [(f.s, v)]) ∧ Q v H1, ⟨fun pins s σ H Q I h => ?_⟩, fun B H σ E c P Q st r mm kk => ?_⟩
  · refine attr_of hb (thn (a1.run pins s σ H _ I h) fun u s1 ⟨x, H1, I1, rx, a, o, n, dd, v, ex, ea, xo, ed, q⟩ => ?_)
    subst ex
    obtain rfl : u = Value.ref a := rx
    have ha : s1.heap.get? a = some o := (I1.hok a _ ea).1
    obtain ⟨vs, hv⟩ := xo.data
    obtain ⟨mA, hns, hr⟩ := (show ObjOk X.prog X.w H1 s1.heap dd (.xd [(f.s, v)]) from I1.hok dd _ ed)
    obtain ⟨od, ho, hl⟩ := lookIn_ns hns
    have l : List.lookup f.s [(f.s, v)] = some v := by simp [List.lookup]
    obtain ⟨u, hu, ru⟩ := RelO.some_of (v := v) (o := mA f.s) (by rw [← l]; exact hr f.s)
    have J : PySem.W.InstAt s1.heap a o (He.ga X.K n) (some od) := ⟨ha, xo.cls, by unfold PySem.W.notCls; rw [hv], by rw [xo.dict]; exact ho⟩
    exact PySem.HandSPX.exc_get I1.kIn J xo.er.ga xo.er.gg xo.er.exC (PySem.W.findObj_own xo.er.hdC (xo.er.nof f) rfl (by rw [hl, hu])) (handed_of ru) ⟨v, H1, I1.tok _, ru, q⟩
  · refine a2 B H σ E _ _ _ st r mm fun d c1 v H1 m1 e1 s1 r1 => ?_
    cases r1 with
    | @exn1 a dd o n g v d ea _ xo ed _ rv =>
      have m1' : (if f.s = g then ret d else stuck) c1 P p.XP := m1
      by_cases hfg : f.s = g
      · subst hfg
        rw [if_pos rfl] at m1'
        exact ⟨a, o, n, dd, v, rfl, ea, xo, ed, kk d c1 v H1 m1' e1 s1 rv⟩
      · rw [if_neg hfg] at m1'
        exact m1'.elim
    | _ => exact (show False from m1).elim
end
end DL
end
section
namespace DL
open PySem PySem.Spec PyProof.Rows L2
/-- the objects that are looked at -/
def asH (g : Addr → Option Obj) (n : Nat) : List Addr := sysModules :: He.asD g n
abbrev AlH : Type := He.AlD × Bool
/-- sys.modules is there -/
def smB (K : PySem.W.Frag) : Bool := (K.lookup sysModules).isSome
theorem smB_ok {K : PySem.W.Frag} {base : Heap} (h : smB K = true) (X : K.In base) : HasSm base := by
  obtain ⟨o, e⟩ := Option.isSome_iff_exists.mp h
  exact ⟨o, X _ _ e⟩
/-- a class's body -/
def clsBody : Stmt → List Stmt
  | .ClassDef _ _ _ body _ _ _ _ _ _ _ => body
  | _ => []
theorem here_of {K : PySem.W.Frag} {m : Str} (h : (He.Fa.glo m).ok K = true) : here K m = true := by
  unfold here
  rw [h, Bool.or_true]
theorem here_blt {K : PySem.W.Frag} {m : Str} (h : isBlt m = true) : here K m = true := by
  unfold here
  rw [h, Bool.true_or]
section
variable {X : Cx}
theorem clsV_own {K : PySem.W.Frag} {m : Str} (nb : isBlt m = false) : clsV K m = .ref (He.ga K m) := by
  unfold isBlt at nb
  simp only [Bool.or_eq_false_iff] at nb
  unfold clsV
  rw [nb.1, nb.2]
  rfl
theorem nmC_own {m : Str} (p : here X.K m = true) (hm : X.mg m = some (.ref (He.ga X.K m))) (ha : allN.contains m = true := by decide) (nb : isBlt m = false := by decide) (hg : Gl X m := by rfl) (hdb : (m == ("__debug__" : Str)) = false := by decide) : NmC X m :=
  ⟨ha, p, hg, hdb, .inl (by rw [clsV_own nb]; exact hm)⟩
theorem clsV_le {K : PySem.W.Frag} : clsV K "LookupError" = .type "LookupError" := by
  unfold clsV
  rw [if_neg (by decide), if_pos (by decide)]
theorem clsV_ve {K : PySem.W.Frag} : clsV K "ValueError" = .type "ValueError" := by
  unfold clsV
  rw [if_pos (by decide)]
theorem nmC_le (hm : X.mg "LookupError" = none) (hg : Gl X "LookupError" := by rfl) : NmC X "LookupError" := ⟨by decide, here_blt (by decide), hg, by decide, .inr ⟨hm, by rw [clsV_le]; decide +kernel, by decide⟩⟩
theorem nmC_ve (hm : X.mg "ValueError" = none) (hg : Gl X "ValueError" := by rfl) : NmC X "ValueError" := ⟨by decide, here_blt (by decide), hg, by decide, .inr ⟨hm, by rw [clsV_ve]; decide +kernel, by decide⟩⟩
theorem clsN_o {m : Str} (p : here X.K m = true) (hm : X.mg m = some (.ref (He.ga X.K m))) (ha : allN.contains m = true := by decide) (nb : isBlt m = false := by decide) (hg : Gl X m := by rfl) (hdb : (m == ("__debug__" : Str)) = false := by decide) : ClsN X m := clsN_own (nmC_own p hm ha nb hg hdb) nb hm hg hdb
theorem clsN_le (hm : X.mg "LookupError" = none) (hg : Gl X "LookupError" := by rfl) : ClsN X "LookupError" := clsN_blt (T := "LookupError") (nmC_le hm hg) clsV_le hm (by decide +kernel) (by decide) hg
theorem clsN_ve (hm : X.mg "ValueError" = none) (hg : Gl X "ValueError" := by rfl) : ClsN X "ValueError" := clsN_blt (T := "ValueError") (nmC_ve hm hg) clsV_ve hm (by decide +kernel) (by decide) hg
end
end DL
end
section
namespace DL
open PySem PySem.Spec PyProof.Rows L2
section
variable {X : Cx} {p : Par} {k : Nat} {cb vb : Bool} {K : PySem.W.Frag}
def isIn (neg : Bool) (x : D) (ys : List D) : D := .bool (neg != ys.any fun y => PyData.eqv y x)
def opIn (neg : Bool) : D → D → W D
  | x, .tuple ys => grd (SeqAt.shaped x = true ∧ SeqAt.shaped (.tuple ys) = true) (ret (isIn neg x ys))
  | x, .list ys => grd (SeqAt.shaped x = true ∧ SeqAt.shaped (.list ys) = true) (ret (isIn neg x ys))
  | _, _ => stuck
def eIn (neg : Bool) (a b : XE) : XE := fun E => bnd (a E) fun x => bnd (b E) fun y => opIn neg x y
def opCnt : D → D → W D
  | .list xs, .bool b => match bools? xs with | some bs => ret (.int (bs.count b : Nat)) | none => stuck
  | _, _ => stuck
def eCnt (a b : XE) : XE := fun E => bnd (a E) fun x => match x with | .list xs => bnd (b E) fun y => opCnt (.list xs) y | _ => stuck
theorem bl_all : ∀ bs : List Bool, (bs.map V.bl).all flatV = true
  | [] => rfl
  | _ :: r => bl_all r
theorem cnt_bl (b : Bool) : ∀ {bs : List Bool} {us : List Value}, Vals (bs.map V.bl) us → us.countP (eqU (.bl b)) = bs.count b
  | [], _, .nil => rfl
  | x :: r, _, .cons h t => by
    cases h
    rw [List.countP_cons, List.count_cons, cnt_bl b t]
    congr 1
theorem mt_cntB : MtR X "list.count" (fun x xs H Q => ∃ (a : Addr) (bs : List Bool) (b : Bool), x = .ref a ∧ xs = [.bl b] ∧ SqL X.K H a (bs.map V.bl) ∧ Q (.int (bs.count b : Nat)) H) := by
  intro pins s σ H x xs v us Q I rx rxs h
  obtain ⟨a, bs, b, rfl, rfl, hs, q⟩ := h
  cases rx
  obtain ⟨u, rfl, ru⟩ := rxs.one
  cases (show u = Value.bool b from ru)
  obtain ⟨its, rv, ⟨⟨cls, dd, data, sl⟩, n, ho, hc, hdn, hd⟩, hlen⟩ := I.list hs
  simp only at hc hd
  subst hc hd
  refine call_meets PySem.F.slot_list_count ⟨_, ho, rfl⟩ PySem.F.entry_list_count (PySem.F.args_list_count_2 _ _) (SeqAt.list_countAt a its.toArray n dd sl (.bool b) (eqU (.bl b)))
    ⟨ho, fun y hy => mem_eqAt (x := .bl b) rfl rfl rv (bl_all bs) y (by simpa using hy), ?_⟩
  refine ⟨.int (bs.count b : Nat), H, I.tok _, ⟨s.toks, ?_⟩, q⟩
  have e : its.toArray.toList.countP (eqU (.bl b)) = bs.count b := by simpa using cnt_bl b rv
  rw [e]
theorem pd_cnt {a b : Expr} {ma mb : XE} {pa pc : Pos} (ha : PD X p a ma) (hb : PD X p b mb)
    (hpe : ∀ {ta tb : TE}, PE X a ta → PE X b tb → PE X (.Call (.Attribute a "count" pa) [b] [] pc) (tBM X.K "list" (fun x xs H Q => ∃ (a : Addr) (bs : List Bool) (b : Bool), x = .ref a ∧ xs = [.bl b] ∧ SqL X.K H a (bs.map V.bl) ∧ Q (.int (bs.count b : Nat)) H) ta (tCons tb tNil))) :
    PD X p (.Call (.Attribute a "count" pa) [b] [] pc) (eCnt ma mb) := by
  obtain ⟨ta, a1, a2⟩ := ha.ex
  obtain ⟨tb, b1, b2⟩ := hb.ex
  refine ⟨_, hpe a1 b1, fun B H σ E c P Q st r mm kk => ?_⟩
  refine a2 B H σ E _ _ _ st r mm fun d c1 v H1 m1 e1 s1 r1 => ?_
  have st1 := st.go e1 s1
  cases r1 with
  | @lst q xs ds hq nb t =>
    refine ⟨.inl ⟨rfl, xs, SqL.of hq⟩, ?_⟩
    refine b2 B H1 σ E _ _ _ st1 (r.go st e1) m1 fun d2 c2 v2 H2 m2 e2 s2 r2 => ?_
    have hq2 := (st1.up e2).ext.keep _ _ hq nb
    cases r2 with
    | bl b =>
      have m2' : (match bools? ds with | some bs => ret (PyData.int (bs.count b : Nat)) | none => stuck) c2 P p.XP := m2
      cases hb : bools? ds with
      | none => rw [hb] at m2'; exact m2'.elim
      | some bs =>
        rw [hb] at m2'
        have ex := t.bools hb
        subst ex
        exact ⟨q, bs, b, rfl, rfl, SqL.of hq2, kk _ c2 _ H2 m2' (e1.trans e2) s2 (.int _)⟩
    | _ => exact (show False from m2).elim
  | _ => exact (show False from m1).elim
end
end DL
end
section
namespace DL
open PySem PySem.Spec PyProof.Rows L2
section
variable {X : Cx} {p : Par} {k : Nat} {cb vb : Bool}
theorem pd_dct0 (S : SitB cb vb X p k) {pos : Pos} : PD X p (.Dict [] [] pos) (eCon (.dict [])) :=
  ⟨_, pe_dnewK, fun B H σ E c P Q s re m k q hq => k _ _ _ _ m (All.new hq).ev (s.all S.ok (All.new hq)) (.dct0 upd_same fun z => s.trk q z hq)⟩
theorem pd_dct1 (S : SitB cb vb X p k) {x : Str} {i : Int} {j j2 : Nat} {pos p1 p2 : Pos} : PD X p (.Dict [some (.Constant (.str x) j p1)] [.Constant (.int i) j2 p2] pos) (eCon (.dict [(.str x, .int i)])) := by
  refine ⟨_, pe_disp (pps_cons pe_str pe_int pps_nil) rfl rfl (by simp) (by simp), fun B H σ E c P Q s re m k q hq => ?_⟩
  refine ⟨upd_same, [(.inr x, .int i)], rfl, by simp, ?_⟩
  have e : upd (upd H q (.dK [])) q (.dK (mergeK [] [(.inr x, .int i)])) = upd H q (.dK [(.inr x, .int i)]) := upd_upd
  rw [e]
  exact k _ _ _ _ m (All.new hq).ev (s.all S.ok (All.new hq)) (.dct1 upd_same (fun z => s.trk q z hq) (.int i))
end
end DL
end
section
namespace DL
open PySem PySem.Spec PyProof.Rows L2
end DL
end
section
namespace DL
open PySem PySem.Spec PyProof.Rows L2
end DL
end
section
namespace DL
open PySem
/-- a text in great letters -/
def opUp : D → W D
  | .str x => grd (x.length ≤ 1000000) (ret (.str (Txt.upper x)))
  | _ => stuck
def eUp (a : XE) : XE := fun E => bnd (a E) opUp
def pairD (q : Int × List Int) : D := .tuple [.int q.1, .tuple (q.2.map PyData.int)]
/-- xs.index(k): the first place of an int that is there, of a truth value that is there -/
def opIxOf : D → D → W D
  | .list xs, .int k => match ints? xs with
    | some ns => match ns.findIdx? (· == k) with
      | some j => ret (.int (j : Int))
      | none => stuck
    | none => stuck
  | .list xs, .bool k => match bools? xs with
    | some ns => match ns.findIdx? (· == k) with
      | some j => ret (.int (j : Int))
      | none => stuck
    | none => stuck
  | _, _ => stuck
def eIxOf (a b : XE) : XE := fun E => bnd (a E) fun x => match x with | .list xs => bnd (b E) fun y => opIxOf (.list xs) y | _ => stuck
/-- a def that calls itself, so many deep at most -/
def recF (F : Fn → Fn) : Nat → Fn
  | 0 => fun _ => stuck
  | n + 1 => F (recF F n)
end DL
end
section
namespace DL
open PySem
def w_is_integer_0 : Fn := fn 3 3 (sRet (eAnd (eIs .int (eVar 0)) (eAnd (eNot (eIs .bool (eVar 0))) (eChain .le .le (eVar 1) (eVar 0) (eVar 2)))))
def w_extent_of_0 : Fn := fn 3 3 (sRet (eBin .sub (eBin .add (eB1 .sum (eCut (eVar 0) (oSome (eVar 1)) (oSome (eBin .add (eVar 2) (eCon (.int 1)))))) (eVar 2)) (eVar 1)))
def w__law_row_drawn_0 : Fn := fnS 2 8 (sSeq (sPar 2 3 (eBin .add (eCon (.int 1)) (eCallS fDraw 0 (aCons (eVar 1) (aNil)))) (eCallS fDraw 0 (aCons (eCon (.int 6)) (aNil))))
    (sSeq (sAsg 4 (eIdx (eLst (aCons (eCon (.int 3)) (aCons (eCon (.int 60)) (aCons (eCon (.int 9)) (aCons (eCon (.int 2)) (aCons (eCon (.int 12)) (aCons (eCon (.int 5)) (aNil)))))))) (eVar 3)))
    (sSeq (sOwn 5 (eComp (iRng1 (eVar 2)) (.nm 7) (tYes) (eBin .add (eCon (.int 1)) (eCallS fDraw 0 (aCons (eVar 4) (aNil)))) [7]))
    (sSeq (sIf (DL.tOr (tBool (eCmp .eq (eVar 3) (eCon (.int 2)))) (tBool (eCmp .eq (eVar 3) (eCon (.int 3))))) (sSet 5 (eCallS fDraw 0 (aCons (eVar 2) (aNil))) (eBin .add (eCon (.int 1)) (eCallS fDraw 0 (aCons (eCon (.int 60)) (aNil))))) (sSkip))
    (sSeq (sIf (tBool (eCmp .eq (eVar 3) (eCon (.int 5)))) (sSeq (sAsg 6 (eBin .add (eCon (.int 1)) (eCallS fDraw 0 (aCons (eB2 .min (eVar 2) (eCon (.int 4))) (aNil)))))
    (sRel 5 (sOwn 5 (eComp (iRng1 (eVar 2)) (.nm 7) (tYes) (eIdx (eVar 5) (eBin .mod (eVar 7) (eVar 6))) [7])))) (sSkip))
    (sRel 5 (sRet (eB1 .tuple (eVar 5)))))))))
def w_next_start_0 : Fn := fn 3 4 (sSeq (sAsg 3 (eBin .add (eVar 2) (eCon (.int 1))))
    (sSeq (sWhile (DL.tAnd (tBool (eCmp .lt (eVar 3) (eB1 .len (eVar 0)))) (tBool (eCmp .le (eCall w_extent_of_0 (aCons (eVar 0) (aCons (eVar 2) (aCons (eVar 3) (aNil))))) (eVar 1)))) (sAsg 3 (eBin .add (eVar 3) (eCon (.int 1)))))
    (sRet (eVar 3))))
def w_starts_of_0 : Fn := fn 2 4 (sSeq (sOwn 2 (eLst (aCons (eCon (.int 0)) (aNil))))
    (sSeq (sAsg 3 (eCall w_next_start_0 (aCons (eVar 0) (aCons (eVar 1) (aCons (eCon (.int 0)) (aNil))))))
    (sSeq (sWhile (tBool (eCmp .lt (eVar 3) (eB1 .len (eVar 0)))) (sSeq (sApp 2 (eVar 3))
    (sAsg 3 (eCall w_next_start_0 (aCons (eVar 0) (aCons (eVar 1) (aCons (eVar 3) (aNil))))))))
    (sRel 2 (sRet (eB1 .tuple (eVar 2)))))))
def w_check_fits_0 : Fn := fn 2 4 (sFor (iEnumC 0 (eVar 0)) (.tp [2, 3]) (sIf (tBool (eCmp .gt (eVar 3) (eVar 1))) (sRaise "TooNarrow" [Fl.s .place] (aCons (eVar 2) aNil)) (sSkip)))
def w_starts_at_0 : Fn := fn 2 2 (sSeq (sExpr (eCall w_check_fits_0 (aCons (eVar 0) (aCons (eVar 1) (aNil)))))
    (sRet (eCall w_starts_of_0 (aCons (eVar 0) (aCons (eVar 1) (aNil))))))
def w__law_is_int_0 : Fn := fn 3 3 (sRet (eAnd (eIs .int (eVar 0)) (eAnd (eNot (eIs .bool (eVar 0))) (eChain .le .le (eVar 1) (eVar 0) (eVar 2)))))
def w__law_odd_0 : Fn := fnS 1 2 (sSeq (sAsg 1 (eLst (aCons (eCon .none) (aCons (eCon (.bool true)) (aCons (eCon (.bool false)) (aCons (eNeg (eCon (.int 1))) (aCons (eCon (.int 0)) (aCons (eCon (.int 1)) (aCons (eCon (.int 2)) (aCons (eCon (.int 23)) (aCons (eCon (.int 24)) (aCons (eCon (.int 60)) (aCons (eCon (.int 61)) (aCons (eCon (.int 2000)) (aCons (eCon (.int 2001)) (aCons (eBin .pow (eCon (.int 10)) (eCon (.int 39))) (aCons (eCon (.str "")) (aCons (eCon (.str "3")) (aCons (eCon (.str "row")) (aCons (eTup (aNil)) (aCons (eLst (aNil)) (aCons (eCon (.dict [])) (aCons (eTup (aCons (eCon (.int 0)) (aNil))) (aCons (eLst (aCons (eCon (.int 0)) (aNil))) (aNil)))))))))))))))))))))))))
    (sRet (eIdx (eBin .add (eVar 1) (eLst (aCons (eTup (aCons (eCon (.bool true)) (aNil))) (aCons (eTup (aCons (eCon (.int 3)) (aCons (eCon (.int 0)) (aNil)))) (aCons (eTup (aCons (eCon (.int 3)) (aCons (eCon (.int 1)) (aNil)))) (aCons (eCon (.dict [(.str "a", .int 1)])) (aNil))))))) (eCallS fDraw 0 (aCons (eCon (.int 26)) (aNil))))))
def w_is_length_0 : Fn := fn 1 1 (sRet (eCall w_is_integer_0 (aCons (eVar 0) (aCons (eCon (.int 1)) (aCons (eCon (.int (60))) (aNil))))))
def w__law_pick_0 : Fn := fnS 2 2 (sRet (eIdx (eVar 1) (eCallS fDraw 0 (aCons (eB1 .len (eVar 1)) (aNil)))))
def w_row_error_0 : Fn := fn 1 3 (sSeq (sIf (DL.tOr (tNot (tTru (eIs .tuple (eVar 0)))) (tNot (tBool (eChain .le .le (eCon (.int 1)) (eB1 .len (eVar 0)) (eCon (.int (24))))))) (sRet (eTup (aCons (eCon .none) (aCons (eCon (.str "row")) (aNil))))) (sSkip))
    (sSeq (sFor (iEnumC 0 (eVar 0)) (.tp [1, 2]) (sIf (tNot (tTru (eCall w_is_length_0 (aCons (eVar 2) (aNil))))) (sRet (eTup (aCons (eVar 1) (aCons (eCon (.str "length")) (aNil))))) (sSkip)))
    (sRet (eCon .none))))
def w__law_bent_0F (self : Fn) : Fn := fnS 3 5 (sSeq (sIf (DL.tAnd (tBool (eCmp .gt (eVar 2) (eCon (.int 0)))) (DL.tAnd (tTru (eIs .tuple (eVar 1))) (DL.tAnd (tBool (eCmp .ne (eVar 1) (eTup (aNil)))) (tBool (eCmp .gt (eCallS fDraw 0 (aCons (eCon (.int 6)) (aNil))) (eCon (.int 0))))))) (sSeq (sAsg 3 (eCallS fDraw 0 (aCons (eB1 .len (eVar 1)) (aNil))))
    (sRet (eBin .add (eBin .add (eCut (eVar 1) (oNone) (oSome (eVar 3))) (eTup (aCons (eCallS self 0 (aCons (eIdx (eVar 1) (eVar 3)) (aCons (eBin .sub (eVar 2) (eCon (.int 1))) (aNil)))) (aNil)))) (eCut (eVar 1) (oSome (eBin .add (eVar 3) (eCon (.int 1)))) (oNone))))) (sSkip))
    (sSeq (sAsg 4 (eLst (aCons (eCallS w__law_odd_0 0 (aNil)) (aCons (eCallS w__law_odd_0 0 (aNil)) (aCons (eTup (aCons (eCon (.int 1)) (aCons (eCon (.int 2)) (aNil)))) (aCons (eCon (.int 5)) (aNil)))))))
    (sSeq (sIf (tTru (eIs .tuple (eVar 1))) (sAsg 4 (eBin .add (eVar 4) (eLst (aCons (eB1 .list (eVar 1)) (aCons (eCut (eVar 1) (oSome (eCon (.int 1))) (oNone)) (aCons (eBin .add (eVar 1) (eCut (eVar 1) (oSome (eNeg (eCon (.int 1)))) (oNone))) (aCons (eRev (eVar 1)) (aCons (eTup (aCons (eVar 1) (aNil))) (aCons (eBin .add (eVar 1) (eTup (aCons (eCon .none) (aNil)))) (aCons (eCut (eVar 1) (oNone) (oSome (eNeg (eCon (.int 1))))) (aNil))))))))))) (sIf (tTru (eIs .str (eVar 1))) (sAsg 4 (eBin .add (eVar 4) (eLst (aCons (eBin .add (eVar 1) (eCon (.str "x"))) (aCons (eCut (eVar 1) (oSome (eCon (.int 1))) (oNone)) (aCons (eUp (eVar 1)) (aCons (eBin .add (eVar 1) (eCon (.str " "))) (aCons (eLst (aCons (eVar 1) (aNil))) (aNil))))))))) (sIf (tTru (eIs .int (eVar 1))) (sAsg 4 (eBin .add (eVar 4) (eLst (aCons (eBin .add (eVar 1) (eCon (.int 1))) (aCons (eBin .sub (eVar 1) (eCon (.int 1))) (aCons (eCon (.int 61)) (aCons (eCon (.int 0)) (aCons (eB1 .str (eVar 1)) (aCons (eCmp .eq (eVar 1) (eCon (.int 1))) (aNil)))))))))) (sSkip))))
    (sRet (eCallS w__law_pick_0 0 (aCons (eVar 4) (aNil)))))))
def w__law_bent_0 : Fn := recF w__law_bent_0F 6
end DL
end
section
namespace DL
open PySem
end DL
end
section
namespace DL
open PySem
end DL
end
section
namespace DL
open PySem
end DL
end
section
namespace DL
open PySem
def w__law_name_0 : Fn := fn 1 4 (sSeq (sAsg 1 (eLst (aCons (eCon (.str "BadEdit")) (aCons (eCon (.str "BadEdits")) (aCons (eCon (.str "BadLength")) (aCons (eCon (.str "BadRow")) (aCons (eCon (.str "BadText")) (aCons (eCon (.str "BadTimes")) (aCons (eCon (.str "Busy")) (aCons (eCon (.str "LastWord")) (aCons (eCon (.str "NothingToUndo")) (aNil))))))))))))
    (sSeq (sAsg 1 (eBin .add (eVar 1) (eLst (aCons (eCon (.str "Rejected")) (aCons (eCon (.str "TooLong")) (aCons (eCon (.str "TooMany")) (aCons (eCon (.str "TooManyEdits")) (aCons (eCon (.str "TooNarrow")) (aCons (eCon (.str "NoPlace")) (aCons (eCon (.str "NoVersion")) (aCons (eCon (.str "NoWidth")) (aNil))))))))))))
    (sSeq (sAsg 2 (eLst (aCons (eIsC ["BadEdit"] (eVar 0)) (aCons (eIsC ["BadEdits"] (eVar 0)) (aCons (eIsC ["BadLength"] (eVar 0)) (aNil))))))
    (sSeq (sAsg 2 (eBin .add (eVar 2) (eLst (aCons (eIsC ["BadRow"] (eVar 0)) (aCons (eIsC ["BadText"] (eVar 0)) (aCons (eIsC ["BadTimes"] (eVar 0)) (aNil)))))))
    (sSeq (sAsg 2 (eBin .add (eVar 2) (eLst (aCons (eIsC ["Busy"] (eVar 0)) (aCons (eIsC ["LastWord"] (eVar 0)) (aCons (eIsC ["NothingToUndo"] (eVar 0)) (aNil)))))))
    (sSeq (sAsg 2 (eBin .add (eVar 2) (eLst (aCons (eIsC ["Rejected"] (eVar 0)) (aCons (eIsC ["TooLong"] (eVar 0)) (aCons (eIsC ["TooMany"] (eVar 0)) (aNil)))))))
    (sSeq (sAsg 2 (eBin .add (eVar 2) (eLst (aCons (eIsC ["TooManyEdits"] (eVar 0)) (aCons (eIsC ["TooNarrow"] (eVar 0)) (aCons (eIsC ["NoPlace"] (eVar 0)) (aNil)))))))
    (sSeq (sAsg 2 (eBin .add (eVar 2) (eLst (aCons (eIsC ["NoVersion"] (eVar 0)) (aCons (eIsC ["NoWidth"] (eVar 0)) (aNil))))))
    (sSeq (sAsg 3 (eLst (aCons (eIsC ["WrapError"] (eVar 0)) (aCons (eIsC ["ValueError"] (eVar 0)) (aCons (eIsC ["LookupError"] (eVar 0)) (aNil))))))
    (sSeq (sIf (DL.tOr (tBool (eCmp .ne (eCnt (eVar 2) (eCon (.bool true))) (eCon (.int 1)))) (tBool (eCmp .ne (eVar 3) (eIdx (eLst (aCons (eLst (aCons (eCon (.bool true)) (aCons (eCon (.bool true)) (aCons (eCon (.bool false)) (aNil))))) (aCons (eLst (aCons (eCon (.bool false)) (aCons (eCon (.bool false)) (aCons (eCon (.bool true)) (aNil))))) (aNil)))) (eB1 .int (eCmp .gt (eIxOf (eVar 2) (eCon (.bool true))) (eCon (.int 13)))))))) (sRet (eCon (.str "several"))) (sSkip))
    (sRet (eIdx (eVar 1) (eIxOf (eVar 2) (eCon (.bool true)))))))))))))))
def w__law_field_0 : Fn := fn 1 1 (sSeq (sIf (tTru (eIsC ["BadLength", "BadTimes", "NoPlace", "NoVersion", "NoWidth"] (eVar 0))) (sRet (eFld (eVar 0) (Fl.s .value))) (sSkip))
    (sSeq (sIf (tTru (eIsC ["BadEdit", "BadText", "Rejected"] (eVar 0))) (sRet (eFld (eVar 0) (Fl.s .index))) (sSkip))
    (sSeq (sIf (tTru (eIsC ["TooLong", "TooNarrow"] (eVar 0))) (sRet (eFld (eVar 0) (Fl.s .place))) (sSkip))
    (sSeq (sIf (tTru (eIsC ["TooMany"] (eVar 0))) (sRet (eFld (eVar 0) (Fl.s .limit))) (sSkip))
    (sRet (eIf (tTru (eIsC ["BadRow"] (eVar 0))) (eFld (eVar 0) (Fl.s .error)) (eCon .none)))))))
end DL
end
section
namespace DL
open PySem
def isWr : D → Bool
  | .dict [(.none, .int 0), (.str _, _)] => true
  | _ => false
/-- a method's word at a value -/
def onW (f : Fn) (es : List D) : D → W D
  | .dict [(.none, .int 0), (.str k, d)] => f (.dict [(.none, .int 0), (.str k, d)] :: es)
  | _ => stuck
/-- what an instance holds -/
def heldOf : D → W D
  | .dict [(.none, .int 0), (.str _, d)] => ret d
  | _ => stuck
def eHeld (a : XE) : XE := fun E => bnd (a E) heldOf
def eM1 (f : Fn) (a : XE) : XE := fun E => bnd (a E) (onW f [])
/-- a property: no error leaves it -/
def eP1 (f : Fn) (a : XE) : XE := fun E => bnd (a E) fun x => noX (onW f [] x)
/-- o.m(e), o(e), o[e] -/
def eM2 (f : Fn) (a b : XE) : XE := fun E => bnd (a E) fun x => grd (isWr x = true) (bnd (b E) fun y => onW f [y] x)
def okW (y : D) : Prop := noXn y = true ∨ isWr y = true
/-- o + e, o * e -/
def eO2 (f : Fn) (a b : XE) : XE := fun E => bnd (a E) fun x => bnd (b E) fun y => grd (okW y) (onW f [y] x)
/-- e in o -/
def boolW (r : D) : W D := match r with
  | .bool c => ret (.bool c)
  | _ => stuck
def eInW (f : Fn) (a b : XE) : XE := fun E => bnd (a E) fun x => bnd (b E) fun y => bnd (onW f [x] y) boolW
/-- o == e -/
def eEqW (f : Fn) (a b : XE) : XE := fun E => bnd (a E) fun x => bnd (b E) fun y => grd (okW y) (bnd (onW f [y] x) boolW)
def lenW_ (r : D) : W D := match r with
  | .int n => grd (0 ≤ n ∧ n < 9223372036854775808) (ret (.int n))
  | _ => stuck
def strW_ (r : D) : W D := match r with
  | .str n => ret (.str n)
  | _ => stuck
def eLenW (f : Fn) (a : XE) : XE := fun E => bnd (a E) fun x => bnd (noX (onW f [] x)) lenW_
def eStrW (f : Fn) (a : XE) : XE := fun E => bnd (a E) fun x => bnd (noX (onW f [] x)) strW_
/-- __init__: statements that look at what is handed in, then it is held -/
def mkEnd : Out → W D
  | .nx E => match E[0]?, E[1]? with
    | some Ent.stm, some (Ent.val y) => ret (wD y)
    | _, _ => stuck
  | _ => stuck
def mkWf (n : Nat) (s : XS) : Fn := fun ds => match ds with
  | [d] => bnd (s (Ent.stm :: Ent.val d :: List.replicate (n - 2) Ent.unk)) mkEnd
  | _ => stuck
def eMkW (f : Fn) (a : XE) : XE := fun E => bnd (a E) fun x => f [x]
/-- C.of(..): all that comes is a new tuple -/
def eOfW (f : Fn) (a : XA) : XE := fun E => bnd (a E) fun xs => grd (small xs.length) (f [.tuple xs])
/-- isinstance(e, WordRow) -/
def isWD (x : D) : W D := grd (okW x) (ret (.bool (isWr x)))
def eIsW (a : XE) : XE := fun E => bnd (a E) isWD
end DL
end
section
namespace DL
open PySem
def w_WR_row_0 : Fn := fn 1 1 (sRet (eHeld (eVar 0)))
def w_WR_len_0 : Fn := fn 1 1 (sRet (eB1 .len (eHeld (eVar 0))))
def w_check_width_0 : Fn := fn 1 1 (sIf (tNot (tTru (eCall w_is_integer_0 (aCons (eVar 0) (aCons (eCon (.int 1)) (aCons (eCon (.int (2000))) (aNil))))))) (sRaise "NoWidth" [Fl.s .value] (aCons (eVar 0) aNil)) (sSkip))
def w_WR_init_0 : Fn := mkWf 3 (sSeq (sAsg 2 (eCall w_row_error_0 (aCons (eVar 1) (aNil))))
    (sIf (tBool (eCmp .notN (eVar 2) (eCon .none))) (sRaise "BadRow" [Fl.s .error] (aCons (eVar 2) aNil)) (sSkip)))
def w_WR_call_0 : Fn := fn 2 2 (sSeq (sExpr (eCall w_check_width_0 (aCons (eVar 1) (aNil))))
    (sRet (eCall w_starts_at_0 (aCons (eHeld (eVar 0)) (aCons (eVar 1) (aNil))))))
def w_WR_eq_0 : Fn := fn 2 2 (sRet (eAnd (eIsW (eVar 1)) (eCmp .eq (eHeld (eVar 0)) (eHeld (eVar 1)))))
end DL
end
section
namespace DL
open PySem PySem.Spec PyProof.Rows L2
section
variable {X : Cx} {p : Par} {k : Nat} {cb vb : Bool}
theorem pd_up {o : Expr} {m : XE} {apos pos : Pos} (ho : PD X p o m) (hbase : attributeBase o "upper" X.env (eval o X.env) = eval o X.env := by rfl) (hline : (apos.endLine == pos.line) = true := by rfl) : PD X p (.Call (.Attribute o "upper" apos) [] [] pos) (eUp m) := by
  obtain ⟨ta, a1, a2⟩ := ho.ex
  refine ⟨_, pe_upper a1 hbase hline, fun B H σ E c P Q s re mm kk => ?_⟩
  refine a2 B H σ E _ _ _ s re mm fun d c1 v H1 m1 e1 s1 r1 => ?_
  cases r1 with
  | str x => exact ⟨⟨x, rfl⟩, x, rfl, rfl, Nat.le_trans m1.1 (by decide), kk _ _ _ H1 m1.2 e1 s1 (.str _)⟩
  | _ => exact m1.elim
end
theorem places_down (n : Nat) : Builtin.Slice.slicePlaces ((n : Int) - 1) (-1) (-1) = n := by
  unfold Builtin.Slice.slicePlaces
  rw [if_neg (by decide)]
  by_cases h : n = 0
  · subst h; rfl
  · rw [if_pos (by omega)]
    simp
theorem pick_down (xs : List Value) : ((List.range xs.length).filterMap fun (m : Nat) => xs.toArray[(((xs.length : Nat) : Int) - 1 + (m : Int) * -1).toNat]?) = xs.reverse := by
  refine List.ext_getElem? fun j => ?_
  have all : ∀ k : Nat, k ≤ xs.length → ((List.range k).filterMap fun (m : Nat) => xs.toArray[(((xs.length : Nat) : Int) - 1 + (m : Int) * -1).toNat]?) = xs.reverse.take k := by
    intro k
    induction k with
    | zero => intro _; rfl
    | succ k ih =>
      intro hk
      rw [List.range_succ, List.filterMap_append, ih (by omega), List.take_add_one]
      congr 1
      have e : (((xs.length : Nat) : Int) - 1 + (k : Int) * -1).toNat = xs.length - 1 - k := by omega
      simp only [List.filterMap_cons, List.filterMap_nil, e]
      rw [List.getElem?_toArray, List.getElem?_reverse (by omega)]
      have : xs.length - 1 - k < xs.length := by omega
      rw [List.getElem?_eq_getElem this]
      rfl
  rw [all xs.length (Nat.le_refl _), List.take_of_length_le (by rw [List.length_reverse]; exact Nat.le_refl _)]
section
variable {prog : Program} {w : World} {A : Around} {E : Value → Shared → Prop} {s : Shared}
theorem applied_down {sl : Addr} {t : Tok} {n : Nat} {Q : Int × Int × Nat → Shared → Prop} (hs : s.heap.IsSliceOf sl .none .none (.int (-1) t)) (h : Q ((n : Int) - 1, -1, n) s) : wpAny (model prog w) A (Builtin.Slice.sliceApplied (.ref sl) (pure (n : Int))) Q E s := by
  obtain ⟨o, e1, _, e3⟩ := hs
  unfold Builtin.Slice.sliceApplied Builtin.Slice.sliceFields
  refine wpAny_bind (wpAny_bind ?_)
  refine wpAny_field e1 e3 (x := .none) rfl (wpAny_bind ?_)
  refine wpAny_field e1 e3 (x := .none) rfl (wpAny_bind ?_)
  refine wpAny_field e1 e3 (x := .int (-1) t) rfl (wpAny_pure ?_)
  refine wpAny_bind (HT.slicePart_ (IsPart.int (-1) t) ?_)
  show wpAny _ _ (if ((-1 : Int) == 0) = true then _ else _) _ _ s
  rw [if_neg (by decide)]
  refine wpAny_bind (HT.slicePart_ IsPart.none (wpAny_bind (HT.slicePart_ IsPart.none (wpAny_bind (wpAny_pure ?_)))))
  show wpAny _ _ (pure ((n : Int) - 1, (-1 : Int), Builtin.Slice.slicePlaces ((n : Int) - 1) (-1) (-1))) _ _ s
  rw [places_down]
  exact wpAny_pure h
theorem getT_down {t sl : Addr} {its : List Value} {tk : Tok} {Q : Value → Shared → Prop} (ht : IsTup s.heap t its.toArray) (hs : s.heap.IsSliceOf sl .none .none (.int (-1) tk))
    (h : Q (.ref s.heap.objs.size) { s with heap := s.heap.push { cls := .type "tuple", data := .seq its.reverse.toArray } }) (hsz : its.length ≤ sizeLine) : wpAny (model prog w) A (getItem (.ref t) (.ref sl)) Q E s := by
  have fits : sizeOk (.seq its.reverse.toArray) := by
    show its.reverse.toArray.size ≤ sizeLine
    rw [List.size_toArray, List.length_reverse]; exact hsz
  have isS : s.TypeIs (.ref sl) "slice" := let ⟨o, a, b, _⟩ := hs; ⟨o, a, b⟩
  unfold getItem
  try with_reducible refine wpAny_holding ?_
  first | refine wpAny_bind (wpAny_pure ?_) | skip
  refine wpAny_bind (wpAny_sequenceKey ht.typeIs (by decide) ?_)
  refine wpAny_bind (wpAny_callSpecial?_slot (name := Str.ofString "__getitem__") ht.typeIs PyProof.Rows.slot_tuple_getitem (wpAny_call_entry PyProof.Rows.slot_tuple_getitem ht.typeIs entry_tuple_getitem ?_ (args_tuple_getitem _ _)))
  show wpAny _ _ (Builtin.Tuple.tupleItemsOf (.ref t) >>= _) _ _ s
  refine wpAny_bind (PyProof.Rows.tupleItemsOf_ ht ?_)
  refine wpAny_bind (wpAny_typeOf isS ?_)
  rw [if_pos (by decide)]
  refine wpAny_bind (applied_down hs ?_)
  have no : ¬ ((((its.toArray.size : Nat) : Int) - 1 == 0 && (-1 : Int) == 1 && its.toArray.size == its.toArray.size) = true) := by simp
  show wpAny _ _ (if (((its.toArray.size : Nat) : Int) - 1 == 0 && (-1 : Int) == 1 && its.toArray.size == its.toArray.size) = true then _ else _) _ _ s
  rw [if_neg no, List.size_toArray, pick_down]
  first
    | exact wpAny_bind (m := Builtin.Tuple.tupleExact _) (wpAny_newObj_type (wpAny_pure ⟨_, rfl, wpAny_pure h⟩) fits)
    | exact wpAny_bind (m := Builtin.Tuple.tupleExact _) (wpAny_newObj_type (wpAny_bind (wpAny_pure (wpAny_pure ⟨_, rfl, wpAny_pure h⟩))) fits)
    | exact wpAny_bind (wpAny_bind (m := Builtin.Tuple.tupleExact _) (wpAny_newObj_type (wpAny_pure (wpAny_pure ⟨_, rfl, wpAny_pure h⟩)) fits))
    | exact wpAny_bind (wpAny_bind (m := Builtin.Tuple.tupleExact _) (wpAny_newObj_type (wpAny_pure ⟨_, rfl, wpAny_pure h⟩) fits))
end
section
variable {X : Cx} {p : Par} {k : Nat} {cb vb : Bool}
theorem pe_turned {e : Expr} {te : TE} {j : Nat} {p1 p2 p3 pos : Pos} (he : PE X e te) : PE X (.Subscript e (.Slice none none (some (.UnaryOp .USub (.Constant (.int 1) j p1) p2)) p3) pos) (fun σ H Q => te σ H fun x H1 => rD1 X.K opRev x H1 Q) := by
  refine ⟨fun pins s σ H Q I h => Subscript_ (thn (he.run pins s σ H _ I h) ?_)⟩
  rintro v s1 ⟨x, H1, I1, rx, B, d, c, P, Xp, hb, r1, m1, kk⟩
  have step : PO X (some (.UnaryOp .USub (.Constant (.int 1) j p1) p2)) (tPart (tUn (rU fun i => .int (-i)) (tC (.int 1)))) := po_some (pe_un un_neg pe_int)
  refine wpAny_Slice (thn (po_none.run pins s1 σ H1 (fun o G => o = none ∧ G = H1) I1 ⟨rfl, rfl⟩) ?_)
  rintro vl s2 ⟨l, G, I2, pl, rfl, rfl⟩
  refine thn (po_none.run pins s2 σ G (fun o G' => o = none ∧ G' = G) I2 ⟨rfl, rfl⟩) ?_
  rintro vu s3 ⟨u, G, I3, pu, rfl, rfl⟩
  refine thn (step.run pins s3 σ G (fun o G' => o = some (-1) ∧ G' = G) I3 ⟨1, rfl, -1, rfl, rfl, rfl⟩) ?_
  rintro vs s4 ⟨o, G, I4, ps, rfl, rfl⟩
  have I5 : Inv X pins σ G { s4 with heap := s4.heap.push { cls := .type "slice", data := .fields #[vl, vu, vs] } } := I4.kept (t' := s4.toks) fun b ob q => Heap.get?_push_of_some _ q
  cases pl
  cases pu
  cases ps
  cases r1 with
  | @tup a xs ds q t =>
    cases rx
    obtain ⟨its, r, ht, hz⟩ := I5.tuple q
    have hl := r.length
    show wpAny (model X.prog X.w) X.A (subscriptTail e _ (.ref a) (.ref s4.heap.objs.size)) (EP X pins σ Q) X.xe _
    refine tail_any (ops := [.ref a, .ref s4.heap.objs.size]) ht.typeIs PyProof.Rows.slot_tuple_getitem.lookup ?_ (by with_unfolding_all rfl)
    refine getT_down ht (Heap.IsSliceOf.new _ _ _ _) ?_ (by omega)
    exact ⟨.ref _, _, I5.laid (t' := s4.toks) (o := .tup xs.reverse) (fun b ob q => Heap.get?_push_of_some _ q) (Nat.le_refl _) ⟨by rw [List.length_reverse]; exact hz, _, r.reverse, IsTup.new _ _⟩, rfl, kk _ _ _ m1 (All.new (I5.hok.fresh (Nat.le_refl _))) (rep_tup (I5.hok.fresh (Nat.le_refl _)) t.reverse)⟩
  | @lst a xs ds q n t =>
    cases rx
    obtain ⟨its, r, ht, hz⟩ := I5.list (SqL.of q)
    have hl := r.length
    show wpAny (model X.prog X.w) X.A (subscriptTail e _ (.ref a) (.ref s4.heap.objs.size)) (EP X pins σ Q) X.xe _
    refine tail_any (ops := [.ref a, .ref s4.heap.objs.size]) ht.isList.typeIs PySem.slot_list_getitem.lookup ?_ (by with_unfolding_all rfl)
    refine wpAny_getItem_list_slice ht.isList (Heap.IsSliceOf.new _ _ _ _) .none .none (.int (-1) _) (by decide) ?_ (by rw [List.size_toArray]; omega)
    rw [PySem.W.krv_pick]
    exact ⟨.ref _, _, I5.laid (t' := s4.toks) (o := .lst xs.reverse) (fun b ob q => Heap.get?_push_of_some _ q) (Nat.le_refl _) ⟨by rw [List.length_reverse]; exact hz, _, 0, r.reverse, Heap.get?_push_size _ rfl⟩, rfl, kk _ _ _ m1 (All.new (I5.hok.fresh (Nat.le_refl _))) (rep_lst hb (I5.hok.fresh (Nat.le_refl _)) t.reverse)⟩
  | _ => exact m1.elim
theorem pd_rev (S : SitB cb vb X p k) {e : Expr} {m : XE} {j : Nat} {p1 p2 p3 pos : Pos} (he : PD X p e m) : PD X p (.Subscript e (.Slice none none (some (.UnaryOp .USub (.Constant (.int 1) j p1) p2)) p3) pos) (eRev m) := by
  obtain ⟨ta, a1, a2⟩ := he.ex
  refine ⟨_, pe_turned a1, fun B H σ E c P Q s re mm kk => ?_⟩
  refine a2 B H σ E _ _ _ s re mm fun d c1 v H1 m1 e1 s1 r1 => ?_
  have st1 := s.go e1 s1
  exact ⟨_, d, _, P, p.XP, st1.trk, r1, m1, fun z v2 H2 pz al r2 => kk z _ v2 H2 pz (e1.trans al.ev) (st1.all S.ok al) r2⟩
end
end DL
end
section
namespace DL
open PySem PySem.Spec PyProof.Rows L2
theorem flat_intsV : ∀ ns : List Int, (ns.map V.int).all flatV = true
  | [] => rfl
  | _ :: r => flat_intsV r
theorem first_at {α : Type} [BEq α] [LawfulBEq α] {ns : List α} {k : α} {j : Nat} (h : ns.findIdx? (· == k) = some j) : ns[j]? = some k ∧ ∀ m, m < j → ∀ z, ns[m]? = some z → (z == k) = false := by
  obtain ⟨h1, h2, h3⟩ := List.findIdx?_eq_some_iff_getElem.mp h
  refine ⟨by rw [List.getElem?_eq_getElem h1, eq_of_beq h2], fun m hm z hz => ?_⟩
  have := h3 m hm
  obtain ⟨q1, q2⟩ := List.getElem?_eq_some_iff.mp hz
  rw [q2] at this
  simpa using this
section
variable {X : Cx} {p : Par} {k : Nat}
theorem pd_ixof {a b : Expr} {ma mb : XE} {pa pc : Pos} (ha : PD X p a ma) (hb : PD X p b mb)
    (hpe : ∀ {ta tb : TE}, PE X a ta → PE X b tb → PE X (.Call (.Attribute a "index" pa) [b] [] pc) (tBM X.K "list" (rIndex X.K) ta (tCons tb tNil))) : PD X p (.Call (.Attribute a "index" pa) [b] [] pc) (eIxOf ma mb) := by
  obtain ⟨ta, a1, a2⟩ := ha.ex
  obtain ⟨tb, b1, b2⟩ := hb.ex
  refine ⟨_, hpe a1 b1, fun B H σ E c P Q st r mm kk => ?_⟩
  refine a2 B H σ E _ _ _ st r mm fun d c1 v H1 m1 e1 s1 r1 => ?_
  have st1 := st.go e1 s1
  cases r1 with
  | @lst q xs ds hq nb t =>
    refine ⟨.inl ⟨rfl, xs, SqL.of hq⟩, ?_⟩
    refine b2 B H1 σ E _ _ _ st1 (r.go st e1) m1 fun d2 c2 v2 H2 m2 e2 s2 r2 => ?_
    have hq2 := (st1.up e2).ext.keep _ _ hq nb
    cases r2 with
    | int i =>
      have m3 : ((match ints? ds with | some ns => (match ns.findIdx? (· == i) with | some j => ret (PyData.int (j : Int)) | none => stuck) | none => stuck : W D)) c2 P p.XP := m2
      cases hi : ints? ds with
      | none => rw [hi] at m3; exact m3.elim
      | some ns =>
        rw [hi] at m3
        have ex := t.ints hi
        subst ex
        cases hf : ns.findIdx? (· == i) with
        | none => simp only [hf] at m3; exact m3.elim
        | some j =>
          simp only [hf] at m3
          obtain ⟨f1, f2⟩ := first_at hf
          refine ⟨q, ns.map V.int, .int i, j, .int i, rfl, rfl, SqL.of hq2, rfl, flat_intsV ns, by rw [List.getElem?_map, f1]; rfl, by simp [eqV], fun m z hm hz => ?_, kk _ _ _ H2 m3 (e1.trans e2) s2 (.int _)⟩
          rw [List.getElem?_map] at hz
          cases hn : ns[m]? with
          | none => rw [hn] at hz; cases hz
          | some y => rw [hn] at hz; cases hz; exact f2 m hm y hn
    | bl i =>
      have m3 : ((match bools? ds with | some ns => (match ns.findIdx? (· == i) with | some j => ret (PyData.int (j : Int)) | none => stuck) | none => stuck : W D)) c2 P p.XP := m2
      cases hi : bools? ds with
      | none => rw [hi] at m3; exact m3.elim
      | some ns =>
        rw [hi] at m3
        have ex := t.bools hi
        subst ex
        cases hf : ns.findIdx? (· == i) with
        | none => simp only [hf] at m3; exact m3.elim
        | some j =>
          simp only [hf] at m3
          obtain ⟨f1, f2⟩ := first_at hf
          refine ⟨q, ns.map V.bl, .bl i, j, .bl i, rfl, rfl, SqL.of hq2, rfl, bl_all ns, by rw [List.getElem?_map, f1]; rfl, by simp [eqV], fun m z hm hz => ?_, kk _ _ _ H2 m3 (e1.trans e2) s2 (.int _)⟩
          rw [List.getElem?_map] at hz
          cases hn : ns[m]? with
          | none => rw [hn] at hz; cases hz
          | some y => rw [hn] at hz; cases hz; exact f2 m hm y hn
    | _ => exact m2.elim
  | _ => exact m1.elim
end
end DL
end
section
namespace DL
open PySem PySem.Spec PyProof.Rows L2
end DL
end
section
namespace DL
open PySem PySem.Spec PyProof.Rows L2
end DL
end
section
namespace DL
open PySem PySem.Spec PyProof.Rows L2
end DL
end
section
namespace DL
open PySem PySem.Spec PyProof.Rows L2
end DL
end
section
namespace DL
open PySem PySem.Spec PyProof.Rows L2
end DL
end
section
namespace DL
open PySem PySem.Spec PyProof.Rows L2
abbrev wrC (K : PySem.W.Frag) : Addr := He.ga K "WordRow"
/-- what the text must say of the class -/
structure WrF (K : PySem.W.Frag) : Prop where
  cls : Cls K (wrC K)
  nat : NoAttr K (wrC K) "held"
section
variable {X : Cx} {p : Par} {k : Nat} {cb vb : Bool}
theorem RoomB.in1 {k : Nat} {A : Around} (r : RoomB cb (k + 1) A) : RoomB cb k A.in1 :=
  ⟨r.hd_, by have := r.dp; show A.depth + 3 * k + 5 < _; omega, by have := r.un; show A.units + 1 + 16 * k + 200 < _; omega⟩
theorem RoomB.mk_ {k : Nat} {A : Around} (r : RoomB cb (k + 1) A) (C : Addr) (us : List Value) : RoomB cb k (A.under (.builtin "type.__call__" ⟨.ref C :: us, []⟩)) :=
  ⟨r.hd_, by have := r.dp; rw [make_depth]; omega, by have := r.un; rw [make_units]; omega⟩
theorem guards_mk {A : Around} {C : Addr} {us : List Value} (h : A.guards = some []) : (A.under (.builtin "type.__call__" ⟨.ref C :: us, []⟩)).guards = some [] := by
  have e : (A.under (.builtin "type.__call__" ⟨.ref C :: us, []⟩)).guards = A.guards := by
    first | rfl | simp [Around.under, Code.guards, Code.isGuard, guardIds, pushGuards]
  rw [e, h]
/-- the promise at an instance -/
def atW (K : PySem.W.Frag) (sp : Sp) (E : XK) (x : V) (ys : List V) (H : Hp) (Q : VK) : Prop := ∃ a dx v, x = .ref a ∧ H a = some (.ins (wrC K) dx [("held", v)]) ∧ sp (.ref a :: ys) H Q E
theorem onW_inv {f : Fn} {es : List D} {d : D} {c : Sx} {P : D → Sx → Prop} {XP : Exn → Sx → Prop} {K : PySem.W.Frag} {B : Addr → Prop} {H : Hp} {v : V} (m : onW f es d c P XP) (r : Rep K B H v d) : ∃ a dx y d', d = wD d' ∧ v = .ref a ∧ H a = some (.ins (wrC K) dx [("held", y)]) ∧ ¬ B a ∧ Rep K B H y d' ∧ f (wD d' :: es) c P XP := by
  cases r with
  | @wr a dx y d' e n r => exact ⟨a, dx, y, d', rfl, rfl, e, n, r, m⟩
  | _ => exact m.elim
theorem pd_held (T : WrF X.K) {e : Expr} {m : XE} {pos : Pos} (he : PD X p e m) (hb : attributeBase e "held" X.env (eval e X.env) = eval e X.env := by rfl) : PD X p (.Attribute e "held" pos) (eHeld m) := by
  obtain ⟨te, a1, a2⟩ := he.ex
  refine ⟨_, pe_fld a1 hb, fun B H σ E c P Q s re mm kk => ?_⟩
  refine a2 B H σ E _ _ _ s re mm fun d c1 v H1 m1 e1 s1 r1 => ?_
  cases r1 with
  | @wr a dx y d' ea nb ry => exact ⟨a, _, dx, _, y, rfl, ea, T.cls, T.nat, rfl, kk d' c1 y H1 m1 e1 s1 ry⟩
  | _ => exact m1.elim
structure PropW (K : PySem.W.Frag) (f : Str) (q g : Addr) : Prop where
  pr : PropOf K (wrC K) f q g
theorem ev_atP (S : SitB cb vb X p k) {ta : TE} {ma : XE} {f : Fn} (ha : EvR X.K p ta ma) : EvR X.K p (fun σ H Q => ta σ H fun x H1 => atW X.K (spF X.K X.mg f) (fun _ _ _ => False) x [] H1 Q) (eP1 f ma) := by
  intro B H σ E c P Q s re m kk
  refine ha B H σ E _ _ _ s re m fun d c1 v H1 m1 e1 s1 r1 => ?_
  have st1 := s.go e1 s1
  obtain ⟨a, dx, y, d', rfl, rfl, ea, nb, ry, m2⟩ := onW_inv m1 r1
  exact ⟨a, dx, y, rfl, ea, _, [wD d'], c1, P, fun _ _ => False, st1.trk, .cons (.wr ea nb ry) .nil, m2, fun d v H2 pd al rd => kk d c1 v H2 pd (e1.trans al.ev) (st1.all S.ok al) rd, fun _ _ _ _ z => z.elim⟩
theorem pd_prop (S : SitB cb vb X p k) (T : WrF X.K) {j : Nat} {f : Str} {q g : Addr} {fd : FuncData} {ps : List Str} {m : Fn} {e : Expr} {me : XE} {pos : Pos} (F : FnG cb X.prog X.w X.K X.mg X.base j g fd ps (spF X.K X.mg m)) (hj : j + 1 ≤ k) (hp : PropW X.K f q g) (hb : Binds X.K fd ps []) (he : PD X p e me)
    (hab : attributeBase e f X.env (eval e X.env) = eval e X.env := by rfl) : PD X p (.Attribute e f pos) (eP1 m me) := by
  obtain ⟨te, a1, a2⟩ := he.ex
  refine ⟨_, ⟨fun pins s σ H Q I h => ?_⟩, ev_atP S a2⟩
  refine attr_of hab (thn (a1.run pins s σ H _ I h) fun u s1 ⟨x, H1, I1, rx, a, dx, v, ex, ea, q1⟩ => ?_)
  subst ex
  obtain rfl : u = Value.ref a := rx
  obtain ⟨mA, O, _, _, _, _⟩ := ins_get I1.hok ea
  obtain ⟨od, J, _⟩ := O.look
  obtain ⟨rest, hrec⟩ := hp.pr.rec_
  have I2 := I1.tok (s1.toks + 1)
  have hc : (PySem.W.clsIn X.K (wrC X.K)).isSome = true := by
    obtain ⟨cd, hc, _⟩ := PySem.W.any_some T.cls.hd
    rw [hc]
    rfl
  have pg := PySem.W.plainGet_of (T.cls.get f)
  refine PySem.W.get_bind I1.kIn J pg.1 (PySem.W.findObj_data hc hp.pr.at_ hp.pr.get hp.pr.tak) pg.2 (wpAny_call (PySem.W.prop_get (s := { s1 with toks := s1.toks + 1 }) I2.kIn hrec ?_))
  have hl := F.len _ _ _ _ q1
  have bound := hb { s1 with toks := s1.toks + 1 } [.ref a] I2.kIn (by rw [List.append_nil]; exact hl)
  rw [List.append_nil] at bound
  refine codeAny_mono (F.go X.A.in1 X.stack { s1 with toks := s1.toks + 1 } H1 ⟨[.ref a], []⟩ [.ref a] [.ref a] Q (fun _ _ _ => False) (S.rm.mono hj).in1 S.gd I2.env0.in1 bound (.cons rfl .nil) q1) fun r s' hq => ?_
  match r, hq with
  | .error er, hq =>
    exact (no_cxD (fun _ _ _ z => z) hq).elim
  | .ok (.ret u), hq =>
    obtain ⟨v2, H', I3, rv, q3⟩ := I2.after hq
    show wpAny _ _ (handedOut u) _ _ _
    rw [PySem.W.handedOut_of (handed_of rv)]
    exact wpAny_pure ⟨v2, H', I3, rv, q3⟩
  | .ok .next, hq => exact hq.elim
  | .ok .brk, hq => exact hq.elim
  | .ok .cont, hq => exact hq.elim
end
end DL
end
section
namespace DL
open PySem PySem.Spec PyProof.Rows L2
def tyNs : List String := ["NoneType", "bool", "int", "str", "tuple", "list", "dict"]
def opNs : List String := ["add", "mul"]
/-- more of what the text must say of the class -/
structure WrO (K : PySem.W.Frag) : Prop where
  f : WrF K
  first : PySem.W.selfFirst K (wrC K) = true
  r0 : ∀ nm ∈ opNs, PySem.W.findIn K (.ref (wrC K)) (PySem.dunderR nm) = some none
  t1 : ∀ nm ∈ opNs, ∀ T ∈ tyNs, ∃ fo, PySem.W.findIn K (.type T) (PySem.dunder nm) = some fo
  t2 : ∀ nm ∈ opNs, ∀ T ∈ tyNs, ∃ fo, PySem.W.findIn K (.type T) (PySem.dunderR nm) = some fo
  sub : ∀ T ∈ tyNs, PySem.W.subIn K (.type T) (.ref (wrC K)) = some false
  kit : ∀ T ∈ tyNs, PySem.W.kitOne K (.type T) (.ref (wrC K)) = some false
  ha : PySem.W.findIn K (.ref (wrC K)) "__class__" = some (some (.builtin "object.__class__"))
  hn : PySem.W.specialIn K (.builtin "object.__class__") "__get__" = some (some (.builtin "getset_descriptor.__get__"))
  ht : PySem.W.takesIn K (.builtin "object.__class__") = some true
  hm : PySem.W.mroIn K (wrC K) (.type "object") = some true
def wrB (K : PySem.W.Frag) : Bool :=
  (He.Fa.cls "WordRow").ok K && ((He.Fa.noat "WordRow" "held").ok K && (PySem.W.selfFirst K (wrC K) && ((opNs.all fun nm => decide (PySem.W.findIn K (.ref (wrC K)) (PySem.dunderR nm) = some none)) &&
  ((opNs.all fun nm => tyNs.all fun T => (PySem.W.findIn K (.type T) (PySem.dunder nm)).isSome) && ((opNs.all fun nm => tyNs.all fun T => (PySem.W.findIn K (.type T) (PySem.dunderR nm)).isSome) &&
  ((tyNs.all fun T => decide (PySem.W.subIn K (.type T) (.ref (wrC K)) = some false)) && ((tyNs.all fun T => decide (PySem.W.kitOne K (.type T) (.ref (wrC K)) = some false)) &&
  (decide (PySem.W.findIn K (.ref (wrC K)) "__class__" = some (some (.builtin "object.__class__"))) && (decide (PySem.W.specialIn K (.builtin "object.__class__") "__get__" = some (some (.builtin "getset_descriptor.__get__"))) &&
  (decide (PySem.W.takesIn K (.builtin "object.__class__") = some true) && decide (PySem.W.mroIn K (wrC K) (.type "object") = some true)))))))))))
theorem wrB_ok {K : PySem.W.Frag} (h : wrB K = true) : WrO K := by
  unfold wrB at h
  simp only [Bool.and_eq_true, decide_eq_true_eq, List.all_eq_true] at h
  obtain ⟨h1, h2, h3, h4, h5, h6, h7, h8, h9, h10, h11, h12⟩ := h
  exact ⟨⟨He.cls_ok h1, He.noat_ok h2⟩, h3, h4, fun nm a T b => Option.isSome_iff_exists.mp (h5 nm a T b), fun nm a T b => Option.isSome_iff_exists.mp (h6 nm a T b), h7, h8, h9, h10, h11, h12⟩
end DL
end
section
namespace DL
open PySem PySem.Spec PyProof.Rows L2
/-- __init__, at a new object -/
def spI (K : PySem.W.Frag) (mg : Str → Option Value) (m : Fn) : Sp := fun vs H Q EK => ∃ (x dx : Addr) (v : V) (H0 : Hp) (B : Addr → Prop) (d : D) (c : Sx) (P : D → Sx → Prop) (XP : Exn → Sx → Prop),
  vs = [.ref x, v] ∧ H0 x = none ∧ H0 dx = none ∧ dx ≠ x ∧ H = upd (upd H0 dx (.own x)) x (.ins (wrC K) dx []) ∧ (∀ a, B a → H0 a ≠ none) ∧ Rep K B H0 v d ∧ m [d] c P XP ∧
  (∀ w H', P w c → All H0 H' → Rep K B H' (.ref x) w → Q .non H') ∧ ∀ e cl dd H', XP e c → All H0 H' → ExRep K mg B H' e cl dd → EK cl dd H'
/-- objects without fields stand in no data -/
def Bare (o : HO) : Prop := ∃ C dx, o = .ins C dx []
def Skips (H H' : Hp) : Prop := ∀ a o, H a = some o → ¬ Bare o → H' a = some o
theorem Skips.sqT {K : PySem.W.Frag} {H H' : Hp} (h : Skips H H') {a : Addr} {xs : List V} (q : SqT K H a xs) : SqT K H' a xs := by
  rcases q with (q | ⟨o, q⟩) | q
  · exact .inl (.inl (h a _ q fun ⟨_, _, z⟩ => nomatch z))
  · exact .inl (.inr ⟨o, h a _ q fun ⟨_, _, z⟩ => nomatch z⟩)
  · exact .inr q
mutual
theorem Rep.skip {K : PySem.W.Frag} {B : Addr → Prop} {H H' : Hp} (h : Skips H H') : ∀ {v : V} {d : PyData}, Rep K B H v d → Rep K B H' v d
  | _, _, .non => .non
  | _, _, .bl b => .bl b
  | _, _, .int i => .int i
  | _, _, .str x => .str x
  | _, _, .lst e n r => .lst (h _ _ e fun ⟨_, _, z⟩ => nomatch z) n (Reps.skip h r)
  | _, _, .tup e r => .tup (h.sqT e) (Reps.skip h r)
  | _, _, .dct0 e n => .dct0 (h _ _ e fun ⟨_, _, z⟩ => nomatch z) n
  | _, _, .dct1 e n r => .dct1 (h _ _ e fun ⟨_, _, z⟩ => nomatch z) n (Rep.skip h r)
  | _, _, .exn0 e n x => .exn0 (h _ _ e fun ⟨_, _, z⟩ => by cases z) n x
  | _, _, .exn1 e n x e2 n2 r => .exn1 (h _ _ e fun ⟨_, _, z⟩ => by cases z) n x (h _ _ e2 fun ⟨_, _, z⟩ => nomatch z) n2 (Rep.skip h r)
  | _, _, .rf a => .rf a
  | _, _, .wr e n r => .wr (h _ _ e fun ⟨_, _, z⟩ => nomatch z) n (Rep.skip h r)
theorem Reps.skip {K : PySem.W.Frag} {B : Addr → Prop} {H H' : Hp} (h : Skips H H') : ∀ {vs : List V} {ds : List PyData}, Reps K B H vs ds → Reps K B H' vs ds
  | _, _, .nil => .nil
  | _, _, .cons r t => .cons (Rep.skip h r) (Reps.skip h t)
end
section
variable {P : Program} {w : World} {K : PySem.W.Frag} {mg : Str → Option Value} {base : Heap} {cb : Bool}
def parI (x : Addr) (H : Hp) (B : Addr → Prop) (c : Sx) (XP : Exn → Sx → Prop) (EK : XK) : Par := ⟨fun _ _ => False, fun c' _ => c' = c, x, H, c, B, XP, fun _ => EK, none, fun _ => none⟩
theorem bmI {x : Addr} {H : Hp} {B B2 : Addr → Prop} {c c' : Sx} {XP : Exn → Sx → Prop} {EK : XK} : ∀ a, bm (parI x H B c XP EK) B2 c' a → B2 a := fun a z => z.elim id fun z => z.elim
theorem all_two {H : Hp} {x dx : Addr} {u v : HO} (h1 : H x = none) (h2 : H dx = none) (n : dx ≠ x) : All H (upd (upd H dx u) x v) := fun a o e => by
  rw [upd_ne (ne_of_none e h1), upd_ne (ne_of_none e h2)]
  exact e
theorem fn_init (sm : HasSm base) (T : WrF K) {qual : Str} {st : Stmt} {f : Addr} {fd : FuncData} {N : List Str} {k : Nat} {s1 s2 : Stmt} {p1 p2 p3 p4 : Pos} {m1 m2 : XS} (F : FnP K "__init__" qual st f fd) (S : FnScope N ["self", "row"] (defScope st)) (hl : 2 ≤ N.length)
    (hb : defBody st = [s1, s2, .Assign [.Attribute (.Name "self" p1) "held" p2] (.Name "row" p3) p4])
    (last : ∀ (cdv : Value) (A : Around) (outer : List PySem.Env) (s : Shared) (H : Hp) (E : XK), PS (bodyX cb P w K mg base N qual st f cdv A outer s H E) (.Assign [.Attribute (.Name "self" p1) "held" p2] (.Name "row" p3) p4) (sFld K (tVar 0) (tVar 1) "held"))
    (b1 : ∀ (cdv : Value) (A : Around) (outer : List PySem.Env) (s : Shared) (H : Hp) (E : XK) (p : Par), SitB cb true (bodyX cb P w K mg base N qual st f cdv A outer s H E) p k → (∀ n n' H H', p.SI n H → p.SI n' H' → p.SI n H') → (∀ i, p.pin i = none) → PSD (bodyX cb P w K mg base N qual st f cdv A outer s H E) p s1 m1)
    (b2 : ∀ (cdv : Value) (A : Around) (outer : List PySem.Env) (s : Shared) (H : Hp) (E : XK) (p : Par), SitB cb true (bodyX cb P w K mg base N qual st f cdv A outer s H E) p k → (∀ n n' H H', p.SI n H → p.SI n' H' → p.SI n H') → (∀ i, p.pin i = none) → PSD (bodyX cb P w K mg base N qual st f cdv A outer s H E) p s2 m2) :
    FnG cb P w K mg base (k + 1) f fd ["self", "row"] (spI K mg (mkWf N.length (sSeq m1 m2))) := by
  refine fnG_body F S (fun vs H Q E ⟨x, dx, v, _, _, _, _, _, _, e, _⟩ => by rw [e]; rfl) (fun cdv A outer s H vs Q E hr hg hsp => ?_)
  obtain ⟨x, dx, v, H0, B, d, c, Pd, XP, rfl, nx, nd, ne, eH, trk, rd, mm, kq, ke⟩ := hsp
  have a0 : All H0 H := by rw [eH]; exact all_two nx nd ne
  have ok : (parI x H B c XP E).Ok K mg := ⟨fun _ _ _ h _ _ => h, fun n n' e cl d B1 H1 H' σ st _ hx hs he hr => by
      have hc : n' = c := hs
      subst hc
      exact ke e cl d H' hx (a0.trans (all_of (st.ext.trans he).ext)) (exrep_go (fun a z => bm_more he.up a (st.subc a z)) hr)⟩
  have S' := sit_body (P := P) (w := w) (base := base) (mg := mg) (f := f) (outer := outer) (H := H) (p := parI x H B c XP E) (E := E) S hr hg ok (fun _ _ _ _ h => h) rfl sm
  obtain ⟨t1, a1, z1⟩ := (b1 cdv A outer s H E _ S' (fun n n' H1 H2 (h1 : n = c) _ => h1) fun _ => rfl).ex
  obtain ⟨t2, a2, z2⟩ := (b2 cdv A outer s H E _ S' (fun n n' H1 H2 (h1 : n = c) _ => h1) fun _ => rfl).ex
  have sr := sr_seq z1 z2
  refine ⟨tSeq t1 (tSeq t2 (sFld K (tVar 0) (tVar 1) "held")), by rw [hb]; exact pss_cons a1 (pss_cons a2 (pss_one (last cdv A outer s H E))), ?_⟩
  have trk' : ∀ a, B a → H a ≠ none := fun a b => (a0.ext (B := B)).dom a (trk a b)
  have mm' : (sSeq m1 m2 (DL.start N.length [.stm, .val d])) c (fun o c' => mkEnd o c' Pd XP) XP := mm
  refine sr B H _ (DL.start N.length [.stm, .val d]) c (fun o c' => mkEnd o c' Pd XP) _ ⟨fun _ z => .inl z, fun a z => trk' a (bmI a z), rfl, Ev.refl, fun _ z _ => .inl z⟩ ?_ mm' ?_ ?_ ?_ ?_
  · refine env_start (by simpa using hl) rfl (fun i e h => ?_) (fun i es h => ?_) rfl
    · match i, h with
      | 0, h =>
        cases h
        exact ⟨_, rfl, .stm (p := parI x H B c XP E)⟩
      | 1, h =>
        cases h
        exact ⟨_, rfl, .val ((rd.mono a0.ext).less bmI)⟩
      | i + 2, h => simp at h
    · match i, h with
      | 0, h => cases h
      | 1, h => cases h
      | i + 2, h => simp at h
  · intro E' c' B' σ' H' m1 st1 tr r1
    have hc : c' = c := st1.si
    subst hc
    have m2 : (match E'[0]?, E'[1]? with | some Ent.stm, some (Ent.val y) => ret (wD y) | _, _ => stuck) c' Pd XP := m1
    cases h0 : E'[0]? with
    | none => rw [h0] at m2; exact m2.elim
    | some x0 =>
      cases h1 : E'[1]? with
      | none => rw [h0, h1] at m2; cases x0 <;> exact m2.elim
      | some x1 =>
        rw [h0, h1] at m2
        cases x0 with
        | stm =>
          cases x1 with
          | val y =>
            obtain ⟨w0, g0, q0⟩ := r1.at_ 0 _ h0
            obtain ⟨w1, g1, q1⟩ := r1.at_ 1 _ h1
            cases q0
            cases q1 with
            | @val v1 _ rv =>
              have hx : H x = some (.ins (wrC K) dx []) := by rw [eH]; exact upd_same
              have hx' : H' x = some (.ins (wrC K) dx []) := st1.ext.ext.keep _ _ hx fun z => z
              have al : All H0 (upd H' x (.ins (wrC K) dx [("held", v1)])) := fun a o e => by
                rw [upd_ne (ne_of_none e nx)]
                exact st1.ext.ext.keep _ _ (a0 a o e) fun z => z
              refine ⟨_, g1, _, g0, x, wrC K, dx, [], rfl, hx', T.cls, T.nat, by decide, ?_⟩
              refine kq _ _ m2 al (.wr upd_same (fun z => trk x z nx) ((rv.less fun a z => st1.subc a z).skip fun a o e nb => ?_))
              by_cases hax : a = x
              · subst hax
                rw [hx'] at e
                cases e
                exact (nb ⟨_, _, rfl⟩).elim
              · rw [upd_ne hax]
                exact e
          | _ => exact m2.elim
        | _ => exact m2.elim
  · intro d c' v H' m1
    exact m1.elim
  · intro E' c' B' σ' H' m1
    exact m1.elim
  · intro E' c' B' σ' H' m1
    exact m1.elim
end
section
variable {X : Cx} {p : Par} {k : Nat} {cb vb : Bool}
/-- C(u), C's __init__ at g -/
theorem run_mkW (S : SitB cb vb X p k) {j : Nat} {g C : Addr} {fd : FuncData} {ps : List Str} {sp : Sp} {E : XK} {A' : Around} {pins : List (Addr × Obj)} {σ : L2.St} {H : Hp} {s : Shared} {Q : VK} {us : List Value} {vs : List V} (M : Mk X.K C g) (F : FnG cb X.prog X.w X.K X.mg X.base j g fd ps sp) (hr : RoomB cb (j + 1) X.A) (hb : Binds X.K fd ps []) (hx : PassesAt (CXd X.K X.prog X.w) X σ E) (I : Inv X pins σ H s) (r : Vals vs us)
    (h : ∀ x dx, H x = none → H dx = none → dx ≠ x → sp (.ref x :: vs) (upd (upd H dx (.own x)) x (.ins C dx [])) (fun v H2 => v = .non ∧ Q (.ref x) H2) E) : wpAny (model X.prog X.w) X.A (call (.ref C) us) (EP X pins σ Q) X.xe s := by
  have hq := h (s.heap.objs.size + 1) s.heap.objs.size (I.hok.fresh (Nat.le_succ _)) (I.hok.fresh (Nat.le_refl _)) (Nat.ne_of_lt (Nat.lt_succ_self _))
  have I2 := Inv.made (C := C) I
  have r2 : Vals (V.ref (s.heap.objs.size + 1) :: vs) (Value.ref (s.heap.objs.size + 1) :: us) := .cons rfl r
  have hl : (Value.ref (s.heap.objs.size + 1) :: us).length = ps.length := r2.length.symm.trans (F.len _ _ _ _ hq)
  refine wpAny_call (make_map (f := g) I.kIn M.makes M.init (beq_iff_eq.mp M.fn) ?_)
  have bound := hb _ (Value.ref (s.heap.objs.size + 1) :: us) I2.kIn (by rw [List.append_nil]; exact hl)
  rw [List.append_nil] at bound
  refine codeAny_mono (F.go _ X.stack _ _ ⟨Value.ref (s.heap.objs.size + 1) :: us, []⟩ (Value.ref (s.heap.objs.size + 1) :: us) _ _ E (hr.mk_ C us) (guards_mk S.gd) (I2.env0.make C us []) bound r2 hq) fun r s' hq' => ?_
  match r, hq' with
  | .error e, hq' => exact hx pins _ _ e s' I2 hq'
  | .ok (.ret u), hq' =>
    obtain ⟨v, H', I3, rv, ev, q3⟩ := I2.after hq'
    subst ev
    exact ⟨rv, ⟨V.ref (s.heap.objs.size + 1), H', I3, rfl, q3⟩⟩
  | .ok .next, hq' => exact hq'.elim
  | .ok .brk, hq' => exact hq'.elim
  | .ok .cont, hq' => exact hq'.elim
theorem mk_want (S : SitB cb vb X p k) {f : Fn} {B : Addr → Prop} {H : Hp} {σ : L2.St} {c : Sx} {P : D → Sx → Prop} {v : V} {d : D} {Q : VK} (st : St0 p c B H) (fx : Fix p c B H σ) (r : Rep X.K (bm p B c) H v d) (m : f [d] c P p.XP) (kk : ∀ d c' v H', P d c' → Ev p c H c' H' → p.SI c' H' → Rep X.K (bm p B c') H' v d → Q v H') :
    ∀ x dx, H x = none → H dx = none → dx ≠ x → spI X.K X.mg f [.ref x, v] (upd (upd H dx (.own x)) x (.ins (wrC X.K) dx [])) (fun u H2 => u = .non ∧ Q (.ref x) H2) (p.EK σ) := fun x dx hx hd ne =>
  ⟨x, dx, v, H, bm p B c, d, c, P, p.XP, rfl, hx, hd, ne, rfl, st.trk, r, m, fun w H2 pw al rw' => ⟨rfl, kk w c _ H2 pw al.ev (st.all S.ok al) rw'⟩, fun y cl dd H2 hx al hr => S.ok.exc c c y cl dd B H H2 σ st fx hx (st.all S.ok al) al.ev hr⟩
theorem pd_mkW (S : SitB cb vb X p k) {j : Nat} {g : Addr} {fd : FuncData} {ps : List Str} {f : Fn} {e : Expr} {me : XE} {pn pos : Pos} (M : Mk X.K (wrC X.K) g) (F : FnG cb X.prog X.w X.K X.mg X.base j g fd ps (spI X.K X.mg f)) (hj : j + 1 ≤ k) (hb : Binds X.K fd ps []) (hm : X.mg "WordRow" = some (.ref (wrC X.K))) (he : PD X p e me) (hg : Gl X "WordRow" := by rfl)
    (hs : starEach [e] X.env = (false, eval e X.env) :: starEach [] X.env := by rfl) (hpl : (backTo pos (starEach [] X.env)).any (·.1) = false := by rfl) : PD X p (.Call (.Name "WordRow" pn) [e] [] pos) (eMkW f me) := by
  obtain ⟨te, a1, a2⟩ := he.ex
  refine ⟨fun σ H Q => te σ H fun v H1 => ∀ x dx, H1 x = none → H1 dx = none → dx ≠ x → spI X.K X.mg f [.ref x, v] (upd (upd H1 dx (.own x)) x (.ins (wrC X.K) dx [])) (fun u H2 => u = .non ∧ Q (.ref x) H2) (p.EK σ), ⟨fun pins s σ H Q I h => ?_⟩, fun B H σ E c P Q s re m kk => ?_⟩
  · refine wpAny_Call_Name_kw (ld_glob I hg hm ?_ (by decide))
    refine PySem.W.callWith_K (h₀ := X.base) I.ok.mod.kin M.kp (thn ((pa_cons a1 pa_nil hs).run pos pins s σ H (fun vs H1 => match vs with | [v] => ∀ x dx, H1 x = none → H1 dx = none → dx ≠ x → spI X.K X.mg f [.ref x, v] (upd (upd H1 dx (.own x)) x (.ins (wrC X.K) dx [])) (fun u H2 => u = .non ∧ Q (.ref x) H2) (p.EK σ) | _ => False) I h) fun us s1 ⟨vs, H1, I1, r, q⟩ => ⟨I1.kIn, ?_⟩) hs hpl
    match vs, r, q with
    | [v], r, q => exact run_mkW (A' := X.A) S M F (S.rm.mono hj) hb (S.ps σ) I1 r q
  · refine a2 B H σ E _ _ _ s re m fun d c1 v H1 m1 e1 s1 r1 => ?_
    exact mk_want S (s.go e1 s1) (re.go s e1).fx r1 m1 fun d c' u H' pd ex si rd => kk d c' u H' pd (e1.trans ex) si rd
end
end DL
end
section
namespace DL
open PySem
/-- the place that a reference names -/
def rOf : D → Option Nat
  | .dict [(.none, .bool true), (.none, .int i)] => some i.toNat
  | _ => none
theorem rOf_rD (a : Nat) : rOf (rD a) = some a := by simp [rOf, rD]
def Sx.set (c : Sx) (a : Nat) (x : Cell) : Sx := ⟨c.n, fun b => if b = a then some x else c.mu b⟩
/-- a method, a property: by the class -/
abbrev Tb := List (Str × Fn)
end DL
end
section
namespace DL
open PySem PySem.Spec PyProof.Rows L2
section
variable {K : PySem.W.Frag} {B : Addr → Prop} {H : Hp} {c : Sx}
theorem rep_rOf {v : V} {d : D} {a : Nat} (r : Rep K B H v d) (h : rOf d = some a) : v = .ref a := by
  cases r with
  | rf b => rw [rOf_rD] at h; cases h; rfl
  | _ => simp [rOf, xD, wD] at h
end
end DL
end
section
namespace DL
open PySem PySem.Spec PyProof.Rows L2
section
variable {X : Cx} {p : Par} {k : Nat} {cb vb : Bool}
theorem IsStr.quiet {K : PySem.W.Frag} (Z : IsStr K p) : IsStr K p.quiet := Z
/-- the method m of the class n does f -/
structure MetN (cb : Bool) (X : Cx) (k : Nat) (n m : Str) (f : Fn) : Prop where
  ex : ∃ (j : Nat) (g : Addr) (fd : FuncData) (ps : List Str), j ≤ k ∧ FnG cb X.prog X.w X.K X.mg X.base j g fd ps (spC X.K X.mg f) ∧ Meth X.K (He.ga X.K n) m g ∧ Binds X.K fd ps []
inductive MetT (cb : Bool) (X : Cx) (k : Nat) (m : Str) : Tb → Prop
  | nil : MetT cb X k m []
  | cons {n : Str} {f : Fn} {tb : Tb} (h : MetN cb X k n m f) (t : MetT cb X k m tb) : MetT cb X k m ((n, f) :: tb)
theorem MetT.at_ {m : Str} {n : Str} {f : Fn} : ∀ {tb : Tb}, MetT cb X k m tb → tb.lookup n = some f → MetN cb X k n m f
  | _, .nil, h => by cases h
  | _, .cons (n := n') (f := f') h t, e => by
    rw [List.lookup_cons] at e
    by_cases hn : (n == n') = true
    · rw [hn] at e
      cases e
      rw [beq_iff_eq] at hn
      subst hn
      exact h
    · rw [Bool.not_eq_true] at hn
      rw [hn] at e
      exact t.at_ e
end
end DL
end
section
namespace DL
open PySem PySem.Spec PyProof.Rows L2
section
variable {X : Cx} {p : Par} {k : Nat} {cb vb : Bool}
structure PropN (cb : Bool) (X : Cx) (k : Nat) (n m : Str) (f : Fn) : Prop where
  ex : ∃ (j : Nat) (q g : Addr) (fd : FuncData) (ps : List Str), j + 1 ≤ k ∧ FnG cb X.prog X.w X.K X.mg X.base j g fd ps (spC X.K X.mg f) ∧ PropOf X.K (He.ga X.K n) m q g ∧ Binds X.K fd ps []
inductive PropT (cb : Bool) (X : Cx) (k : Nat) (m : Str) : Tb → Prop
  | nil : PropT cb X k m []
  | cons {n : Str} {f : Fn} {tb : Tb} (h : PropN cb X k n m f) (t : PropT cb X k m tb) : PropT cb X k m ((n, f) :: tb)
theorem PropT.at_ {m : Str} {n : Str} {f : Fn} : ∀ {tb : Tb}, PropT cb X k m tb → tb.lookup n = some f → PropN cb X k n m f
  | _, .nil, h => by cases h
  | _, .cons (n := n') (f := f') h t, e => by
    rw [List.lookup_cons] at e
    by_cases hn : (n == n') = true
    · rw [hn] at e
      cases e
      rw [beq_iff_eq] at hn
      subst hn
      exact h
    · rw [Bool.not_eq_true] at hn
      rw [hn] at e
      exact t.at_ e
end
end DL
end
section
namespace DL
open PySem PySem.Spec PyProof.Rows L2
end DL
end
section
namespace DL
open PySem
end DL
end
section
namespace DL
open PySem PySem.Spec PyProof.Rows L2
end DL
end
section
namespace DL
open PySem PySem.Spec PyProof.Rows L2
/-- the name is a property at q whose setter is at s -/
structure PropSt (K : PySem.W.Frag) (C : Addr) (f : Str) (q s : Addr) : Prop where
  tk : PySem.W.takerIn K C f = some (some (.ref q))
  ty : PySem.W.typeIn K (.ref q) = some (.type "property")
  rec_ : ∃ a rest, PySem.W.recIn K q "property" = some (a :: .ref s :: rest)
section
variable {X : Cx} {p : Par} {k : Nat} {cb vb : Bool}
structure PropSN (cb : Bool) (X : Cx) (k : Nat) (n m : Str) (f : Fn) : Prop where
  ex : ∃ (j : Nat) (q g : Addr) (fd : FuncData) (ps : List Str), j + 2 ≤ k ∧ FnG cb X.prog X.w X.K X.mg X.base j g fd ps (spC X.K X.mg f) ∧ PropSt X.K (He.ga X.K n) m q g ∧ Binds X.K fd ps []
inductive PropST (cb : Bool) (X : Cx) (k : Nat) (m : Str) : Tb → Prop
  | nil : PropST cb X k m []
  | cons {n : Str} {f : Fn} {tb : Tb} (h : PropSN cb X k n m f) (t : PropST cb X k m tb) : PropST cb X k m ((n, f) :: tb)
theorem PropST.at_ {m : Str} {n : Str} {f : Fn} : ∀ {tb : Tb}, PropST cb X k m tb → tb.lookup n = some f → PropSN cb X k n m f
  | _, .nil, h => by cases h
  | _, .cons (n := n') (f := f') h t, e => by
    rw [List.lookup_cons] at e
    by_cases hn : (n == n') = true
    · rw [hn] at e
      cases e
      rw [beq_iff_eq] at hn
      subst hn
      exact h
    · rw [Bool.not_eq_true] at hn
      rw [hn] at e
      exact t.at_ e
end
end DL
end
section
namespace DL
open PySem
end DL
end
section
namespace DL
open PySem PySem.Spec PyProof.Rows L2 HotX
end DL
end
section
namespace DL
open PySem PySem.Spec PyProof.Rows L2
end DL
end
section
namespace DL
open PySem PySem.Spec PyProof.Rows L2 HotX
/-- the contexts from x on: none, or one whose own context is None -/
def Chn (h : Heap) (x : Addr) : Prop := ∃ o : Obj, h.get? x = some o ∧ (EndC o ∨ ∃ (y : Addr) (vs : Array Value) (oy : Obj), o.data = .fields vs ∧ vs[2]? = some (.ref y) ∧ h.get? y = some oy ∧ EndC oy ∧ y ≠ x)
theorem Chn.keep {h h' : Heap} {x : Addr} (c : Chn h x) (k : ∀ b o, h.get? b = some o → (∃ vs, o.data = .fields vs) → h'.get? b = some o ∨ False) : Chn h' x := by
  obtain ⟨o, e, z⟩ := c
  rcases z with z | ⟨y, vs, oy, z1, z2, z3, z4, z5⟩
  · exact ⟨o, (k x o e (let ⟨vs, q, _⟩ := z; ⟨vs, q⟩)).elim id False.elim, .inl z⟩
  · exact ⟨o, (k x o e ⟨vs, z1⟩).elim id False.elim, .inr ⟨y, vs, oy, z1, z2, (k y oy z3 (let ⟨v, q, _⟩ := z4; ⟨v, q⟩)).elim id False.elim, z4, z5⟩⟩
theorem Chn.keeps {h h' : Heap} {x : Addr} (c : Chn h x) (k : ∀ b o, h.get? b = some o → h'.get? b = some o) : Chn h' x := c.keep fun b o e _ => .inl (k b o e)
/-- what is handled -/
def HotN (A : Around) (h : Heap) : Prop := ∃ x, A.handled = some (.ref x) ∧ Chn h x
theorem HotN.keeps {A : Around} {h h' : Heap} (c : HotN A h) (k : ∀ b o, h.get? b = some o → h'.get? b = some o) : HotN A h' := by
  obtain ⟨x, hh, c⟩ := c
  exact ⟨x, hh, c.keeps k⟩
section
variable {prog : Program} {w : World} {A : Around} {E : Value → Shared → Prop} {s : Shared}
theorem unchain_end {a x : Addr} {slow : Value} {t : Bool} {o : Obj} {R : Result → Shared → Prop} (h1 : s.heap.get? x = some o) (h2 : EndC o) (q : R (.ok (.ret .none)) s) :
    codeAny (model prog w) A (.builtin "proto.unchain" ⟨[.ref a, .ref x, slow, .bool t], []⟩) R s := by
  obtain ⟨vs, d1, c1⟩ := h2
  refine codeAny_builtin HotX.entry_unchain ?_
  show wpAny _ _ (field (.ref x) 2 >>= _) _ _ s
  refine wpAny_bind (wpAny_field h1 d1 c1 ?_)
  rw [if_pos (show (Value.none == Value.none) = true from rfl)]
  first
  | exact wpAny_bind (wpAny_pure (wpAny_pure q))
  | exact wpAny_pure q
theorem unchainN {a x : Addr} {Q : Value → Shared → Prop} (c : Chn s.heap x) (na : s.heap.get? a = none ∨ ∀ (y : Addr) (o : Obj) (vs : Array Value), s.heap.get? x = some o → o.data = .fields vs → vs[2]? = some (.ref y) → y ≠ a) (q : Q .none s) :
    wpAny (model prog w) A (holding [Value.ref a] (runValue (.builtin "proto.unchain" ⟨[.ref a, .ref x, .ref x, .bool false], []⟩))) Q E s := by
  obtain ⟨o, e, z⟩ := c
  rcases z with z | ⟨y, vs, oy, z1, z2, z3, z4, z5⟩
  · exact wpAny_holding (wpAny_runValue (unchain_end e z q))
  · refine wpAny_holding (wpAny_runValue (codeAny_builtin HotX.entry_unchain ?_))
    show wpAny _ _ (field (.ref x) 2 >>= _) _ _ s
    refine wpAny_bind (wpAny_field e z1 z2 ?_)
    have ya : y ≠ a := by
      rcases na with na | na
      · intro h
        rw [h, na] at z3
        exact (nomatch z3)
      · exact na y o vs e z1 z2
    have b1 : ¬ ((Value.ref y == Value.none) = true) := by simp
    have b2 : ¬ ((Value.ref y == Value.ref a) = true) := by
      intro h
      exact ya (Value.ref.inj (eq_of_beq h))
    have b3 : ¬ ((Value.ref y == Value.ref x) = true) := by
      intro h
      exact z5 (Value.ref.inj (eq_of_beq h))
    rw [if_neg b1]
    show wpAny _ _ (if (Value.ref y == Value.ref a) = true then _ else _) _ _ s
    rw [if_neg b2]
    show wpAny _ _ (if (Value.ref y == Value.ref x) = true then _ else _) _ _ s
    rw [if_neg b3]
    show wpAny _ _ (if false = true then _ else _) _ _ s
    rw [if_neg (by decide)]
    first
    | refine wpAny_pure ⟨by first | rfl | (simp [Code.quiet]; done) | (unfold Code.quiet; decide) | kernel_rfl, ?_⟩
    | refine wpAny_bind (wpAny_pure (wpAny_pure ⟨by first | rfl | (simp [Code.quiet]; done) | (unfold Code.quiet; decide) | kernel_rfl, ?_⟩))
    exact unchain_end z3 z4 q
theorem raiseNew_hotN {α : Type} {a : Addr} {oe : Obj} {vs : Array Value} {Q : α → Shared → Prop} {h0 : Heap} (hot : HotN A h0) (kp : ∀ b o, h0.get? b = some o → s.heap.get? b = some o) (ne : h0.get? a = none) (ha : s.heap.get? a = some oe) (da : oe.data = .fields vs) (hi : 2 < vs.size)
    (hE : ∀ x, E (.ref a) { s with heap := s.heap.update a (Obj.mapFields (·.setIfInBounds 2 (.ref x))) }) : wpAny (model prog w) A (raiseNew (.ref a) : Sem α) Q E s := by
  obtain ⟨x, hh, c⟩ := hot
  have nx : x ≠ a := fun z => by
    obtain ⟨o, e, _⟩ := c
    rw [z, ne] at e
    exact (nomatch e)
  have c2 : Chn s.heap x := c.keeps kp
  have far : ∀ (y : Addr) (o : Obj) (vs : Array Value), s.heap.get? x = some o → o.data = .fields vs → vs[2]? = some (.ref y) → y ≠ a := fun y o vs e d g z => by
    obtain ⟨o2, e2, k⟩ := c
    have eo : o = o2 := Option.some.inj (e.symm.trans (kp x o2 e2))
    subst eo
    rcases k with ⟨v2, d2, g2⟩ | ⟨y2, v2, oy, d2, g2, e3, _, _⟩
    · rw [d] at d2
      cases d2
      rw [g] at g2
      exact (nomatch g2)
    · rw [d] at d2
      cases d2
      rw [g] at g2
      cases g2
      rw [z, ne] at e3
      exact (nomatch e3)
  unfold raiseNew
  refine wpAny_bind (wpAny_handled ?_)
  rw [hh]
  have hb : (Value.ref x != Value.ref a) = true := ref_bne nx
  first
  | (show wpAny _ _ (if (Value.ref x != Value.ref a) = true then _ else _) _ _ _
     rw [if_pos hb]
     first
     | exact wpAny_bind (unchainN c2 (.inr far) (wpAny_bind (chained ha da hi (wpAny_throw (hE x)))))
     | exact wpAny_bind (wpAny_bind (unchainN c2 (.inr far) (chained ha da hi (wpAny_throw (hE x))))))
  | (refine wpAny_bind ?_
     show wpAny _ _ (if (Value.ref x != Value.ref a) = true then _ else _) _ _ _
     rw [if_pos hb]
     exact wpAny_bind (unchainN c2 (.inr far) (chained ha da hi (wpAny_throw (hE x)))))
theorem next_tuple_endN {it t : Addr} {i : Nat} {items} {Q : Option Value → Shared → Prop} {h0 : Heap} (hot : HotN A h0) (kp : ∀ b o, h0.get? b = some o → s.heap.get? b = some o) (ni : h0.get? it = none)
    (hit : IsTupIter s.heap it t i) (ht : IsTup s.heap t items) (hx : items[i]? = none)
    (hQ : ∀ h', Heap.ExtBut it s.heap h' → Q none { s with heap := h' }) : wpAny (model prog w) A (pyNext (.ref it)) Q E s := by
  obtain ⟨o, ho, hc, hd⟩ := id hit
  obtain ⟨ol, hol, _, nl, hdl⟩ := ht
  unfold pyNext
  refine wpAny_bind (wpAny_attempt (wpAny_callSpecial?_slot (name := Str.ofString "__next__") hit.typeIs slot_tupleiter_next
    (wpAny_call_entry slot_tupleiter_next hit.typeIs entry_tupleiter_next ?_ (args_tupleiter_next _))))
  show wpAny _ _ (field (.ref it) 0 >>= _) _ _ s
  refine wpAny_bind (wpAny_field ho hd (x := .ref t) rfl ?_)
  show wpAny _ _ (if (Value.ref t == Value.none) = true then _ else _) _ _ s
  rw [if_neg (show ¬ ((Value.ref t == Value.none) = true) from Bool.false_ne_true)]
  show wpAny _ _ (field (.ref it) 1 >>= _) _ _ s
  refine wpAny_bind (wpAny_field ho hd (x := .int i 0) rfl ?_)
  show wpAny _ _ (seqItems? (.ref t) >>= _) _ _ s
  refine wpAny_bind (wpAny_seqItems hol hdl ?_)
  simp only [Int.toNat_natCast, hx]
  refine wpAny_bind (wpAny_rule (wpAny_bind (wpAny_setField ho hd (by simp) ?_)))
  show wpAny _ _ (newExc (.type "StopIteration") [] >>= _) _ _ _
  refine wpAny_bind ?_
  simp only [newExc, newTuple]
  refine wpAny_bind (wpAny_newObj_type ?_ (by size_fits))
  refine wpAny_bind (m := firstArgMember _ _) (wpAny_of_eq (a := Value.none) (by first | rfl | (simp only [firstArgMember]; rfl)) ?_)
  refine wpAny_newObj_type ?_ (by size_fits)
  have kp2 : ∀ b o, h0.get? b = some o → (s.heap.update it (Obj.mapFields (·.setIfInBounds 0 Value.none))).get? b = some o := fun b o e => by
    rw [Heap.get?_update_other _ _ (fun z => by rw [z, e] at ni; exact (nomatch ni))]
    exact kp b o e
  refine raiseNew_hotN (h0 := h0) hot (fun b o e => Heap.get?_push_of_some _ (Heap.get?_push_of_some _ (kp2 b o e))) ?_ (Heap.get?_push_size _ rfl) rfl (by first | (simp; done) | (simp; omega) | (simp only [Array.size_append]; simp; omega)) fun x => ?_
  · refine Option.eq_none_iff_forall_ne_some.mpr fun o e => ?_
    exact absurd (Heap.lt_size (Heap.get?_push_of_some _ (kp2 _ o e))) (Nat.lt_irrefl _)
  refine wpAny_bind (wpAny_isInstance (T := "StopIteration") (b := true) ⟨_, Heap.get?_update_self _ (Heap.get?_push_size _ rfl) rfl, rfl⟩ isSubtype_stop ?_)
  refine wpAny_pure (hQ _ fun b o nb e => ?_)
  have e2 := (Heap.get?_update_other s.heap (Obj.mapFields (·.setIfInBounds 0 Value.none)) (Ne.symm nb)).trans e
  rw [Heap.get?_update_other _ _ (Nat.ne_of_gt (Heap.lt_size (Heap.get?_push_of_some _ e2)))]
  exact Heap.get?_push_of_some _ (Heap.get?_push_of_some _ e2)
theorem unpackItems_tupleN {t : Addr} {items : Array Value} {Q : List Value → Shared → Prop} (hot : HotN A s.heap) (ht : IsTup s.heap t items)
    (hQ : ∀ h', Heap.ExtBut s.heap.objs.size s.heap h' → Q items.toList { s with heap := h' }) : wpAny (model prog w) A (unpackItems (.ref t) items.size none) Q E s := by
  have hlt : t ≠ s.heap.objs.size := by obtain ⟨o, ho, _⟩ := ht; exact Nat.ne_of_lt (Heap.lt_size ho)
  unfold unpackItems
  refine wpAny_bind ?_
  · unfold notIterableAtAll
    refine wpAny_bind (wpAny_specialOf ht.typeIs slot_tuple_iter.lookup ?_)
    refine wpAny_pure ?_
    simp only [Bool.false_eq_true, if_false]
    refine wpAny_bind (wpAny_holding (iter_tuple ht ?_))
    refine wpAny_bind (wpAny_holding (draw_tuple hlt items.size 0 _ _ ⟨_, Heap.get?_push_size _ rfl, rfl, rfl⟩ (ht.push _) (by omega) fun h₁ hit₁ hs₁ => ?_))
    have hall : List.take items.size (List.drop 0 items.toList) = items.toList := by
      rw [List.drop_zero]; exact List.take_of_length_le (by simp)
    rw [hall]
    rw [if_neg (by simp)]
    have ht₁ : IsTup h₁ t items := (ht.push _).extBut hs₁.extBut hlt
    refine wpAny_bind (wpAny_holding (next_tuple_endN (h0 := s.heap) hot (fun b o e => hs₁.extBut b o (Nat.ne_of_lt (Heap.lt_size e)) (Heap.get?_push_of_some _ e)) ?_ hit₁ ht₁ (by simp) fun h₂ he₂ => ?_))
    · cases q : s.heap.get? s.heap.objs.size with
      | none => rfl
      | some o => exact absurd (Heap.lt_size q) (Nat.lt_irrefl _)
    simp only [Option.isSome_none, Bool.false_eq_true, if_false]
    refine wpAny_pure (hQ h₂ fun b o hb e => he₂ b o hb (hs₁.extBut b o hb (Heap.get?_push_of_some _ e)))
theorem assign_TupleN {env : PySem.Env} {elts : List Expr} {x1} {pos : Pos} {t : Addr} {items : Array Value} {Q : Unit → Shared → Prop} (hot : HotN A s.heap) (ht : IsTup s.heap t items)
    (hn : (assignEach elts env).length = items.size) (hstar : (assignEach elts env).findIdx? (·.1) = none)
    (h : ∀ h', Heap.ExtBut s.heap.objs.size s.heap h' → wpAny (model prog w) A (assignInOrder ((assignEach elts env).map (·.2)) items.toList) Q E { s with heap := h' }) :
    wpAny (model prog w) A (assign (.Tuple elts x1 pos) env (.ref t)) Q E s := by
  rw [assign_Tuple]
  refine wpAny_bind (wpAny_standAt ?_)
  unfold unpack
  rw [hn, hstar]
  exact wpAny_bind (wpAny_holding (unpackItems_tupleN hot ht h))
end
/-- in X, what is handled is known -/
def HotS (X : Cx) : Prop := ∀ (pins : List (Addr × Obj)) (σ : L2.St) (H : Hp) (s : Shared), Inv X pins σ H s → HotN X.A s.heap
theorem HotS.of {X : Cx} {a : Addr} {oe : Obj} (hh : X.A.handled = some (.ref a)) (ha : (a, oe) ∈ X.pn) (h : EndC oe ∨ ∃ (y : Addr) (vs : Array Value) (oy : Obj), oe.data = .fields vs ∧ vs[2]? = some (.ref y) ∧ (y, oy) ∈ X.pn ∧ EndC oy ∧ y ≠ a) : HotS X := fun pins σ H s I => by
  refine ⟨a, hh, oe, (I.pin (a, oe) (List.mem_append_left _ ha)).1, ?_⟩
  rcases h with h | ⟨y, vs, oy, h1, h2, h3, h4, h5⟩
  · exact .inl h
  · exact .inr ⟨y, vs, oy, h1, h2, (I.pin (y, oy) (List.mem_append_left _ h3)).1, h4, h5⟩
section
variable {X : Cx} {pos : Pos}
theorem pg_tupN {es : List Expr} {k : Nat} {t : TGs} {n : Nat} (hc : HotS X) (h : PGs X es t)
    (hn : (assignEach es X.env).length = n := by rfl) (hst : (assignEach es X.env).findIdx? (·.1) = none := by rfl) : PG X (.Tuple es k pos) (gTup X.K n t) := by
  refine ⟨fun pins s σ H v u Q I r hw => ?_⟩
  obtain ⟨a, xs, e1, hq, hl, hw⟩ := hw
  subst e1
  cases r
  obtain ⟨its, rv, ht, hz⟩ := I.tuple hq
  refine assign_TupleN (hc pins σ H s I) ht (by simp [hn, ← hl, rv.length]) hst fun h' hx => ?_
  have I1 : Inv X pins σ H { s with heap := h' } := I.kept (t' := s.toks) fun b o e => hx b o (Nat.ne_of_lt (Heap.lt_size e)) e
  exact h.run pins _ σ H xs _ Q I1 (by simpa using rv) hw
end
/-- in X, tuples may be unpacked -/
def UnpX (X : Cx) : Prop := ∀ (es : List Expr) (k : _) (pos : Pos) (t : TGs) (n : Nat), PGs X es t → (assignEach es X.env).length = n → (assignEach es X.env).findIdx? (·.1) = none → PG X (.Tuple es k pos) (gTup X.K n t)
theorem UnpX.calm {X : Cx} (h : X.calm = true) : UnpX X := fun _ _ _ _ _ a b c => pg_tup h a b c
theorem UnpX.hot {X : Cx} (h : HotS X) : UnpX X := fun _ _ _ _ _ a b c => pg_tupN h a b c
end DL
end
section
namespace DL
open PySem PySem.Spec PyProof.Rows L2
end DL
end
section
namespace DL
open PySem
end DL
end
section
namespace DL
open PySem PySem.Spec PyProof.Rows L2
end DL
end
section
namespace DL
open PySem
end DL
end
section
namespace DL
open PySem
end DL
end
section
namespace DL
open PySem
end DL
end
section
namespace DL
open PySem
end DL
end
section
namespace DL
open PySem
end DL
end
section
namespace DL
open PySem
end DL
end
section
namespace DL
open PySem
end DL
end
section
namespace DL
open PySem
end DL
end
section
namespace DL
open PySem
end DL
end
section
namespace DL
open PySem
end DL
end
section
namespace DL
open PySem
end DL
end
section
namespace DL
open PySem
end DL
end
section
namespace DL
open PySem
end DL
end
section
namespace DL
open PySem
end DL
end
section
namespace DL
open PySem PySem.Spec PyProof.Rows L2
structure AllT (R : Str → Fn → Prop) (tb : Tb) : Prop where
  at_ : ∀ n f, tb.lookup n = some f → R n f
theorem AllT.nil {R : Str → Fn → Prop} : AllT R [] := ⟨fun n f h => by cases h⟩
theorem AllT.cons {R : Str → Fn → Prop} {n : Str} {f : Fn} {tb : Tb} (h : R n f) (t : AllT R tb) : AllT R ((n, f) :: tb) := ⟨fun m g e => by
  rw [List.lookup_cons] at e
  by_cases hn : (m == n) = true
  · rw [hn] at e
    cases e
    rw [beq_iff_eq] at hn
    subst hn
    exact h
  · rw [Bool.not_eq_true] at hn
    rw [hn] at e
    exact t.at_ _ _ e⟩
end DL
end
section
namespace DL
open PySem PySem.Spec PyProof.Rows L2
end DL
end
section
namespace DL
open PySem PySem.Spec PyProof.Rows L2
end DL
end
section
namespace DL
open PySem PySem.Spec PyProof.Rows L2 HotX
end DL
end
section
namespace DL
open PySem PySem.Spec PyProof.Rows L2 HotX
end DL
end
section
namespace DL
open PySem PySem.Spec PyProof.Rows L2
end DL
end
section
namespace DL
open PySem PySem.Spec PyProof.Rows L2
end DL
end
section
namespace DL
open PySem
end DL
end
section
namespace DL
open PySem PySem.Spec PyProof.Rows L2 HotX
theorem HotH.n {X : Cx} {pins : List (Addr × Obj)} {σ : L2.St} {H : Hp} {s : Shared} (h : HotH X.A H) (I : Inv X pins σ H s) : HotN X.A s.heap := by
  obtain ⟨a, oe, h1, h2, h3⟩ := h
  exact ⟨a, h1, oe, (I.hok a _ h2).1, .inl h3⟩
theorem HotH.ext {A : Around} {B : Addr → Prop} {H H' : Hp} (h : HotH A H) (e : Ext B H H') : HotH A H' := by
  obtain ⟨a, oe, h1, h2, h3⟩ := h
  exact ⟨a, oe, h1, e.imm a _ h2 trivial, h3⟩
end DL
end
section
namespace DL
open PySem PySem.Spec PyProof.Rows L2
end DL
end
section
namespace DL
open PySem
end DL
end
section
namespace DL
open PySem PySem.Spec PyProof.Rows L2
/-- which functions stand at which places -/
abbrev Phi := Nat → Option Fn
def phi1 (a : Nat) (m : Fn) : Phi := fun b => if b = a then some m else none
/-- the name at i, called: it is bound to a function of φ -/
def eCallF (φ : Phi) (i : Nat) (ma : XA) : XE := fun E => match E[i]? with
  | some (.val d) => (match rOf d with
    | some a => (match φ a with
      | some m => bnd (ma E) m
      | none => stuck)
    | none => stuck)
  | _ => stuck
/-- own lists are out of reach -/
def hideE (E : Env) : Env := E.map fun e => match e with
  | .own _ => .unk
  | e => e
/-- g(lambda: m), g a def of the words fn -/
def eTold (key : Str) (fn : Phi → Fn) (m : XE) : XE := fun E c P X => (∃ t, c.mu t = some (.tab key)) ∧ ∀ a : Nat, fn (phi1 a fun ds => match ds with
  | [] => m (hideE E)
  | _ => stuck) [rD a] c P X
section
variable {X : Cx} {pins : List (Addr × Obj)} {σ : L2.St} {H H1 : Hp} {s : Shared}
/-- all but the table stays -/
structure LamGo (H : Hp) (t : Addr) (H1 : Hp) : Prop where
  keep : ∀ b o, b ≠ t → H b = some o → H1 b = some o
  tab : H1 t ≠ none
theorem frame_young (I : Inv X pins σ H s) {f : Addr} (hf : s.heap.objs.size ≤ f) : f ∉ frs X.stack := by
  intro z
  cases List.mem_cons.mp (I.stkSub f z) with
  | inl e =>
    have := I.lt
    rw [← e] at this
    exact Nat.lt_irrefl _ (Nat.lt_of_lt_of_le this hf)
  | inr e => exact I.nofs hf e
/-- a lambda is evaluated: only its def's table may change -/
theorem lam_new {t cd : Addr} {params : Arguments} {body : Expr} {scope : Scope} {pos : Pos} {q : Str} {E Q : Value → Shared → Prop} (I : Inv X pins σ H s) (B : LamX.TabB X.base X.mg cd t) (isCode : X.env.code = .ref cd) (named : X.env.qual ++ "<lambda>" = q)
    (T : LamX.TabS H t q) (noDef : defaultsOf params X.env = ([], [])) (reach : ∀ y ∈ scope.names, y.2 = .free → ∃ c, X.env.cells.lookup y.1 = some c)
    (go : ∀ (f d : Addr) (pm tv : Value) (H1 : Hp) (s1 : Shared), Inv X pins σ H1 s1 → LamGo H t H1 → LamX.TabS H1 t q →
      s1.heap.get? f = some (PySem.W.kla_obj "<lambda>" q params body scope (cloFrom X.env.cells scope.names []) pm d tv) → H1 f = none → f ∉ frs X.stack → H1 d = some (LamX.CodeO d q) → Q (.ref f) s1) :
    wpAny (model X.prog X.w) X.A (eval (.Lambda params body scope pos) X.env) Q E s := by
  subst named
  obtain ⟨rows, atT, okT, among⟩ := T
  have tabObj := I.hok t _ atT
  have clo := closure_ok reach
  have gl := I.mod.glob.keeps I.bk
  have hd := B.code.keeps I.bk
  have bm := B.bm.keeps I.bk
  apply PySem.W.kla_eval noDef
  rcases found : codeAmong pos rows.toList with _ | cv
  · apply PySem.W.kla_makeFunction clo I.ok.glob gl isCode hd tabObj okT found B.gP bm
    intro d tv h1 tk old ge lt ⟨d2, oc, vs, tq, e2, oh, od, ov⟩ newT
    cases e2
    have size : s.heap.objs.size ≤ h1.objs.size := by omega
    have fresh := I.hok.fresh ge
    have td : t ≠ d := fun e => by rw [e, fresh] at atT; cases atT
    have J := LamX.inv_table (t' := tk) (more := #[rawInt pos.line, rawInt pos.col, .ref d]) (q := X.env.qual ++ "<lambda>")
      (h' := h1.push (PySem.W.kla_obj "<lambda>" (X.env.qual ++ "<lambda>") params body scope (cloFrom X.env.cells scope.names []) ((X.mg "__name__").getD .none) d tv)) I atT
      (fun b o ne e => Heap.get?_push_of_some _ (old b o ne e)) (Heap.get?_push_of_some _ newT) ge ⟨oc, vs, tq, Heap.get?_push_of_some _ oh, od, ov⟩
    have fn : h1.objs.size ≠ d := by omega
    have ft : h1.objs.size ≠ t := Nat.ne_of_gt (Nat.lt_of_lt_of_le (Heap.lt_size (show s.heap.get? t = some _ from tabObj)) size)
    have keep : ∀ b o, b ≠ t → H b = some o → upd (upd H t (.tbl (rows ++ #[rawInt pos.line, rawInt pos.col, .ref d]))) d (LamX.CodeO d (X.env.qual ++ "<lambda>")) b = some o := fun b o ne e => by
      have nd : b ≠ d := fun z => by rw [z, fresh] at e; cases e
      rw [upd_ne nd, upd_ne ne, e]
    have tabAt : upd (upd H t (.tbl (rows ++ #[rawInt pos.line, rawInt pos.col, .ref d]))) d (LamX.CodeO d (X.env.qual ++ "<lambda>")) t = some (.tbl (rows ++ #[rawInt pos.line, rawInt pos.col, .ref d])) := by
      rw [upd_ne td, upd_same]
    have toL : (rows ++ #[rawInt pos.line, rawInt pos.col, .ref d]).toList = rows.toList ++ [rawInt pos.line, rawInt pos.col, .ref d] := by simp
    refine go _ d _ tv _ _ J ⟨keep, by rw [tabAt]; exact fun z => nomatch z⟩ ⟨_, tabAt, by rw [toL]; exact PySem.TriplesOk_snoc _ _ _ _ okT, ?_⟩ (Heap.get?_push_size _ rfl) ?_ (frame_young I size) upd_same
    · intro p cv hc
      rw [toL] at hc
      rcases LamX.among_app _ okT hc with z | z
      · obtain ⟨d0, a1, a2⟩ := among p cv z
        exact ⟨d0, a1, keep d0 _ (fun e => by rw [e, atT] at a2; exact LamX.codeO_ne _ (Option.some.inj a2).symm) a2⟩
      · exact ⟨d, z, upd_same⟩
    · rw [upd_ne fn, upd_ne ft]
      exact I.hok.fresh size
  · obtain ⟨d, e, ho⟩ := among pos cv found
    subst e
    apply PySem.W.kla_makeFunctionHit clo I.ok.glob gl isCode hd tabObj okT found bm
    intro tv h1 tk old size
    have J : Inv X pins σ H { s with heap := h1.push (PySem.W.kla_obj "<lambda>" (X.env.qual ++ "<lambda>") params body scope (cloFrom X.env.cells scope.names []) ((X.mg "__name__").getD .none) d tv), toks := tk } :=
      I.kept fun b o e => Heap.get?_push_of_some _ (old b o e)
    exact go _ d _ tv H _ J ⟨fun b o _ e => e, by rw [atT]; exact fun z => nomatch z⟩ ⟨rows, atT, okT, among⟩ (Heap.get?_push_size _ rfl) (I.hok.fresh size) (frame_young I size) ho
end
end DL
end
section
namespace DL
open PySem
def w__law_reason_0 : Fn := fn 1 3 (sSeq (sIf (DL.tOr (tNot (tTru (eIs .tuple (eVar 0)))) (tNot (tBool (eChain .le .le (eCon (.int 1)) (eB1 .len (eVar 0)) (eCon (.int 24)))))) (sRet (eTup (aCons (eCon .none) (aCons (eCon (.str "row")) (aNil))))) (sSkip))
    (sSeq (sAsg 1 (eComp (iRng1 (eB1 .len (eVar 0))) (.nm 2) (tNot (tTru (eCall w__law_is_int_0 (aCons (eIdx (eVar 0) (eVar 2)) (aCons (eCon (.int 1)) (aCons (eCon (.int 60)) (aNil))))))) (eVar 2) [2]))
    (sRet (eIf (tBool (eCmp .ne (eVar 1) (eLst (aNil)))) (eTup (aCons (eIdx (eVar 1) (eCon (.int 0))) (aCons (eCon (.str "length")) (aNil)))) (eCon .none)))))
def w__law_expected_0 : Fn := fn 1 2 (sSeq (sAsg 1 (eCall w__law_reason_0 (aCons (eVar 0) (aNil))))
    (sRet (eIf (tBool (eCmp .isN (eVar 1) (eCon .none))) (eLst (aCons (eCon (.str "row")) (aCons (eVar 0) (aNil)))) (eLst (aCons (eCon (.str "BadRow")) (aCons (eVar 1) (aNil)))))))
def w__law_told_22 : Phi → Fn := fun φ => fn 1 2 (sTry (eLst (aCons (eCon (.str "row")) (aCons (eP1 w_WR_row_0 (eCallF φ 0 aNil)) (aNil)))) (kRet) (hdL [(["WrapError"], some 1, sRet (eLst (aCons (eCall w__law_name_0 (aCons (eVar 1) (aNil))) (aCons (eCall w__law_field_0 (aCons (eVar 1) (aNil))) (aNil)))))]))
def w__law_of_right_0 : Fn := fnS 1 7 (sSeq (sPut (.tp [3, 5]) (eTup (aCons (eIdx (eLst (aCons (eCallS w__law_odd_0 0 (aNil)) (aCons (eBin .add (eCon (.int 1)) (eCallS fDraw 0 (aCons (eCon (.int 60)) (aNil)))) (aNil)))) (eCallS fDraw 0 (aCons (eCon (.int 2)) (aNil)))) (aCons (eCallS w__law_odd_0 0 (aNil)) (aNil)))))
    (sSeq (sAsg 4 (eBin .add (eCon (.int 1)) (eCallS fDraw 0 (aCons (eCon (.int 60)) (aNil)))))
    (sSeq (sOwn 1 (eLst (aCons (eTold "_law_of_right" w__law_told_22 (eOfW w_WR_init_0 aNil)) (aNil))))
    (sSeq (sApp 1 (eTold "_law_of_right" w__law_told_22 (eOfW w_WR_init_0 (aCons (eVar 3) (aNil)))))
    (sSeq (sApp 1 (eTold "_law_of_right" w__law_told_22 (eOfW w_WR_init_0 (aCons (eVar 4) (aCons (eVar 3) (aNil))))))
    (sSeq (sApp 1 (eTold "_law_of_right" w__law_told_22 (eOfW w_WR_init_0 (aCons (eVar 3) (aCons (eVar 5) (aNil))))))
    (sSeq (sApp 1 (eTold "_law_of_right" w__law_told_22 (eOfW w_WR_init_0 (aCons (eVar 4) (aCons (eVar 4) (aCons (eVar 3) (aCons (eVar 4) (aNil))))))))
    (sSeq (sAsg 2 (eLst (aCons (eTup (aNil)) (aCons (eTup (aCons (eVar 3) (aNil))) (aCons (eTup (aCons (eVar 4) (aCons (eVar 3) (aNil)))) (aCons (eTup (aCons (eVar 3) (aCons (eVar 5) (aNil)))) (aCons (eTup (aCons (eVar 4) (aCons (eVar 4) (aCons (eVar 3) (aCons (eVar 4) (aNil)))))) (aNil))))))))
    (sRel 1 (sRet (eCmp .eq (eB1 .repr (eVar 1)) (eB1 .repr (eComp (iSeq (eVar 2)) (.nm 6) (tYes) (eCall w__law_expected_0 (aCons (eVar 6) (aNil))) [6])))))))))))))
end DL
end
section
namespace Wk63
open PySem DL
abbrev ks : List Str := ["_law_of_right", "law"]
def m_law : XS := sSeq (sAsg 2 (eLst (aCons (eTup (aNil)) (aCons (eTup (aCons (eCon (.int 0)) (aNil))) (aCons (eTup (aCons (eCon (.int 1)) (aNil))) (aCons (eTup (aCons (eCon (.int 60)) (aNil))) (aCons (eTup (aCons (eCon (.int 61)) (aNil))) (aCons (eTup (aCons (eCon (.bool true)) (aNil))) (aCons (eBin .mul (eTup (aCons (eCon (.int 1)) (aNil))) (eCon (.int 24))) (aCons (eBin .mul (eTup (aCons (eCon (.int 1)) (aNil))) (eCon (.int 25))) (aCons (eLst (aCons (eCon (.int 1)) (aNil))) (aCons (eTup (aCons (eCon (.int 1)) (aCons (eCon (.int 0)) (aCons (eCon (.int 61)) (aNil))))) (aCons (eTup (aCons (eCon (.int 61)) (aCons (eCon (.int 0)) (aNil)))) (aCons (eTup (aCons (eCon (.int 1)) (aCons (eCon .none) (aNil)))) (aCons (eCon (.str "row")) (aNil))))))))))))))))
    (sSeq (sFor (iRng1 (eCon (.int 6))) (.nm 3) (sSeq (sAsg 4 (eCallS w__law_row_drawn_0 1 (aCons (eCon (.int 24)) (aNil))))
    (sSeq (sAsg 5 (eBin .add (eVar 2) (eLst (aCons (eVar 4) (aCons (eB1 .list (eVar 4)) (aCons (eTup (aCons (eVar 4) (aNil))) (aCons (eBin .add (eVar 4) (eTup (aCons (eCon (.int 1)) (aNil)))) (aCons (eCallS w__law_odd_0 1 (aNil)) (aCons (eTup (aCons (eCallS w__law_odd_0 1 (aNil)) (aCons (eCon (.int 3)) (aNil)))) (aNil))))))))))
    (sSeq (sFor (iRng1 (eCon (.int 6))) (.nm 6) (sSeq (sAsg 7 (eCallS w__law_bent_0 1 (aCons (eVar 4) (aCons (eCon (.int 2)) (aNil)))))
    (sAsg 5 (eBin .add (eVar 5) (eLst (aCons (eVar 7) (aCons (eCallS w__law_bent_0 1 (aCons (eVar 7) (aCons (eCon (.int 2)) (aNil)))) (aNil))))))))
    (sSeq (sFor (iSeq (eVar 5)) (.nm 9) (sSeq (sAsg 8 (eB1 .repr (eVar 9)))
    (sIf (DL.tOr (tBool (eCmp .ne (eB1 .repr (eTold "law" w__law_told_22 (eMkW w_WR_init_0 (eVar 9)))) (eB1 .repr (eCall w__law_expected_0 (aCons (eVar 9) (aNil)))))) (tBool (eCmp .ne (eB1 .repr (eVar 9)) (eVar 8)))) (sRet (eCon (.bool false))) (sSkip))))
    (sIf (tNot (tTru (eCallS w__law_of_right_0 1 (aNil)))) (sRet (eCon (.bool false))) (sSkip)))))))
    (sRet (eCon (.bool true))))
end Wk63
end
section
namespace DL
open PySem PySem.Spec PyProof.Rows L2
/-- a def f(*v) keeps its promise, called by position -/
structure FnV (cb : Bool) (P : Program) (w : World) (K : PySem.W.Frag) (mg : Str → Option Value) (base : Heap) (k : Nat) (f : Addr) (sp : Sp) : Prop where
  go : ∀ (A : Around) (outer : List PySem.Env) (s : Shared) (H : Hp) (us : List Value) (vs : List V) (Q : VK) (E : XK), RoomB cb k A → A.guards = some [] → Env0 P w K mg base A outer s H →
    Vals vs us → sp vs H Q E → codeAny (model P w) A (.call (.ref f) ⟨us, []⟩) (CR (CXd K P w) outer P w H s Q E) s
section
variable {P : Program} {w : World} {K : PySem.W.Frag} {mg : Str → Option Value} {base : Heap} {cb : Bool}
theorem FnV.imp {k : Nat} {f : Addr} {sp sp' : Sp} (F : FnV cb P w K mg base k f sp) (h : ∀ vs H Q E, sp' vs H Q E → sp vs H Q E) : FnV cb P w K mg base k f sp' :=
  ⟨fun A outer s H us vs Q E hr hg e0 rv hq => F.go A outer s H us vs Q E hr hg e0 rv (h vs H Q E hq)⟩
end
section
variable {X : Cx} {p : Par} {k : Nat} {cb vb : Bool}
/-- what the caller knows of such a def -/
structure DefV (K : PySem.W.Frag) (mg : Str → Option Value) (x : Str) (f : Addr) : Prop where
  mg : mg x = some (.ref f)
  kp : PySem.W.keepIn K (.ref f) = true
end
section
variable {P : Program} {w : World} {K : PySem.W.Frag} {mg : Str → Option Value} {base : Heap} {cb : Bool} {k : Nat} {f : Addr} {fd : FuncData} {ps : List Str}
theorem FnG.stuckS : FnG cb P w K mg base k f fd ps (spS K mg fun _ => stuck) :=
  ⟨fun _ _ _ _ ⟨_, _, _, _, _, _, _, _, _, _, _, _, _, m, _⟩ => m.elim, fun _ _ _ _ _ _ _ _ _ _ _ _ _ _ ⟨_, _, _, _, _, _, _, _, _, _, _, _, _, m, _⟩ => m.elim⟩
end
end DL
end
section
namespace DL
open PySem PySem.Spec PyProof.Rows L2
section
variable {P : Program} {w : World} {K : PySem.W.Frag} {mg : Str → Option Value} {base : Heap} {cb : Bool}
/-- def f(a, *v) -/
theorem fnV1_body {x qual : Str} {st : Stmt} {f : Addr} {fd : FuncData} {N : List Str} {p1 pv : Str} {k : Nat} {sp : Sp} (F : FnP K x qual st f fd) (S : FnScope N [p1, pv] (defScope st))
    (hb : ∀ (kV doc pm : Value) (an : Option Addr) (cdv ct a : Value) (rest : List Value), bindArgs (PySem.W.fnOf x qual (defArgs st) (defBody st) (defScope st) .none kV doc pm an cdv ct) ⟨a :: rest, []⟩ = (newTuple rest >>= fun t => pure [(p1, a), (pv, t)]))
    (body : ∀ (cdv : Value) (A : Around) (outer : List PySem.Env) (s : Shared) (H : Hp) (vs : List V) (Q : VK) (E : XK), RoomB cb k (A.deeper (envOfC qual (defScope st) s.heap.objs.size f cdv)) → (A.deeper (envOfC qual (defScope st) s.heap.objs.size f cdv)).guards = some [] → sp vs H Q E →
      ∃ t, PSs (bodyX cb P w K mg base N qual st f cdv A outer s H E) (defBody st) t ∧ t { nx := fun _ H' => Q .non H', rt := Q } (L2.start N vs) H) :
    FnV cb P w K mg base (k + 1) f (fun vs H Q E => ∃ v0 rest, vs = v0 :: rest ∧ rest.length ≤ sizeLine ∧ ∀ p, H p = none → sp [v0, V.ref p] (upd H p (.tup rest)) Q E) := by
  obtain ⟨oc, od, dV, kV, doc, pm, an, cdv, ct, osl, rfl, lk, hcd, hD, _⟩ := F.ex
  rcases hD with ⟨_, rfl⟩ | ⟨e, _⟩
  case inr => exact absurd rfl e
  refine ⟨fun A outer s H us0 vs0 Q E hr hgd e0 rv0 hsp => ?_⟩
  obtain ⟨v0, vs, rfl, hz, hq⟩ := hsp
  cases rv0 with
  | @cons _ u0 _ us r0 rv =>
  have KX : K.In s.heap := e0.mod.kin.keeps fun b o e => (e0.bs b o e).1
  have hn : H s.heap.objs.size = none := e0.hok.fresh (Nat.le_refl _)
  have hl2 : us.length ≤ sizeLine := by rw [← rv.length]; exact hz
  refine codeAny_call_function hr.depth (KX _ _ lk) rfl S.co S.gen rfl (PySem.W.codeRec_of KX hcd) ?_
  rw [hb]
  refine wpAny_bind (wpAny_newTuple (wpAny_pure ?_) hl2)
  have new : ObjOk P w (upd H s.heap.objs.size (.tup vs)) (s.heap.push ({ cls := .type "tuple", data := .seq us.toArray } : Obj)) s.heap.objs.size (.tup vs) := ⟨hz, us, rv, ⟨_, Heap.get?_push_size _ rfl, rfl, _, rfl⟩⟩
  have un := StX.un_laid (fs := frs outer) (s := s) (o := ({ cls := .type "tuple", data := .seq us.toArray } : Obj)) (u := .tup vs) hn
  have e2 := StX.env0_laid e0 new
  have hx : ∀ e s', CXd K P w outer (upd H s.heap.objs.size (.tup vs)) { s with heap := s.heap.push ({ cls := .type "tuple", data := .seq us.toArray } : Obj) } E e s' → CXd K P w outer H s E e s' :=
    fun e s' => CXd.up un (fun b o q => Heap.get?_push_of_some _ q) rfl
  have hq' := hq _ hn
  generalize hs2 : ({ s with heap := s.heap.push ({ cls := .type "tuple", data := .seq us.toArray } : Obj) } : Shared) = s2 at e2 hx
  have un' : Un (frs outer) [] H (upd H s.heap.objs.size (.tup vs)) s.heap s2.heap := by rw [← hs2]; exact un
  have ho : s2.os = s.os := by rw [← hs2]
  generalize hH2 : upd H s.heap.objs.size (.tup vs) = H2 at e2 hx hq' un'
  have lim : s2.heap.NoLimit := e0.mod.nolimit.keeps fun b o e => (e2.bs b o e).1
  generalize hva : s.heap.objs.size = va at hq'
  have r2 : Vals [v0, V.ref va] [u0, Value.ref va] := .cons r0 (.cons rfl .nil)
  have kinds : ∀ y, y ∈ [p1, pv] → (defScope st).names.lookup y = some .local ∨ ((defScope st).names.lookup y = some .cell ∧ ((cellsFrom (s2.heap.objs.size + 1) (defScope st).names []).lookup y).isSome = true) := fun y hy => by
    rcases S.par y hy with q | q
    · exact .inl q
    · exact .inr ⟨q, PySem.W.cellsFrom_some _ _ _ (.inl q)⟩
  have hkind : ∀ y ∈ [(p1, u0), (pv, Value.ref va)], (defScope st).names.lookup y.1 = some .local ∨ ((defScope st).names.lookup y.1 = some .cell ∧ ((cellsFrom (s2.heap.objs.size + 1) (defScope st).names []).lookup y.1).isSome = true) := fun y hy => by
    rcases List.mem_cons.mp hy with rfl | hy
    · exact kinds _ (.head _)
    · rw [List.mem_singleton] at hy
      subst hy
      exact kinds _ (.tail _ (.head _))
  refine wpAny_newFunctionEnv_cells (s := s2) S.kind hkind fun env he s1 xx => ?_
  subst he
  refine ⟨lim.keeps xx.toInCall.keep, codeAny_func ?_⟩
  obtain ⟨t, ht, hq3⟩ := body cdv A outer s2 H2 [v0, V.ref va] Q E (hr.deeper _) hgd hq'
  have e1 : Env0 P w K mg base ({ A with handled := none }) outer s2 H2 := ⟨e2.frames, e2.mod, e2.bs, e2.bsz, e2.funs, e2.frf, e2.hok, e2.bare⟩
  have J0 := inv_cool (A := A) (cb := cb) hr.hd_ rfl (A' := { A with handled := none }) (inv_start (A := { A with handled := none }) (CX := CXd K P w) (P := P) (w := w) (mg := mg) (base := base) (E := E) S rfl e1 (vs := [v0, V.ref va]) (us := [u0, Value.ref va]) rfl r2 xx)
  refine wpAny_mono (ht.run [] s1 _ _ _ J0 hq3) (fun fl s' done => ?_) (fun _ _ left => ?_)
  · have fin : ∀ {σ' : L2.St} {H' : Hp} {v' : V} {u' : Value}, Inv (bodyX cb P w K mg base N qual st f cdv A outer s2 H2 E) [] σ' H' s' → RelV v' u' → Q v' H' → CE outer P w H s Q u' s' :=
      fun {σ' H' v' u'} J rv' q => ⟨v', H', J.os.trans ho, J.bare, un'.trans J.base, J.hok, rv', q⟩
    cases fl with
    | brk => obtain ⟨_, _, _, no⟩ := done; exact no.elim
    | cont => obtain ⟨_, _, _, no⟩ := done; exact no.elim
    | next =>
      obtain ⟨σ', H', J, q⟩ := done
      exact fin (v' := V.non) (u' := Value.none) J rfl q
    | ret u =>
      obtain ⟨v, σ', H', J, r, q⟩ := done
      exact fin J r q
  · exact wpAny_mono left (fun _ s'' z => hx _ s'' z) fun e' s'' z => hx e' s'' z
/-- C.of(..) -/
def spOf (K : PySem.W.Frag) (mg : Str → Option Value) (f : Fn) : Sp := fun vs H Q EK => ∃ (ws : List V) (B : Addr → Prop) (ds : List D) (c : Sx) (P : D → Sx → Prop) (XP : Exn → Sx → Prop), vs = .ref (wrC K) :: ws ∧ (∀ a, B a → H a ≠ none) ∧ Reps K B H ws ds ∧ small ds.length ∧ f [.tuple ds] c P XP ∧
  (∀ d v H', P d c → All H H' → Rep K B H' v d → Q v H') ∧ ∀ x cl dd H', XP x c → All H H' → ExRep K mg B H' x cl dd → EK cl dd H'
theorem fn_of (sm : HasSm base) {x qual : Str} {st : Stmt} {f g : Addr} {fd fg : FuncData} {N : List Str} {k : Nat} {m : Fn} {q1 q2 q3 q4 : Pos} (F : FnP K x qual st f fd) (S : FnScope N ["cls", "lengths"] (defScope st)) (hl : 2 ≤ N.length) (M : Mk K (wrC K) g) (I : FnG cb P w K mg base k g fg ["self", "row"] (spI K mg m)) (hbi : Binds K fg ["self", "row"] [])
    (hb : ∀ (kV doc pm : Value) (an : Option Addr) (cdv ct a : Value) (rest : List Value), bindArgs (PySem.W.fnOf x qual (defArgs st) (defBody st) (defScope st) .none kV doc pm an cdv ct) ⟨a :: rest, []⟩ = (newTuple rest >>= fun t => pure [(("cls" : Str), a), (("lengths" : Str), t)]))
    (hbody : defBody st = [.Return (some (.Call (.Name "cls" q1) [.Name "lengths" q2] [] q3)) q4])
    (body : ∀ (cdv : Value) (A : Around) (outer : List PySem.Env) (s : Shared) (H : Hp) (E : XK), PE (bodyX cb P w K mg base N qual st f cdv A outer s H E) (.Name "cls" q1) (tVar 0) ∧ PE (bodyX cb P w K mg base N qual st f cdv A outer s H E) (.Name "lengths" q2) (tVar 1) ∧
      eval (.Call (.Name "cls" q1) [.Name "lengths" q2] [] q3) (bodyX cb P w K mg base N qual st f cdv A outer s H E).env = (do callWith q3 (← eval (.Name "cls" q1) (bodyX cb P w K mg base N qual st f cdv A outer s H E).env) [] (backTo q3 (starEach [.Name "lengths" q2] (bodyX cb P w K mg base N qual st f cdv A outer s H E).env)) (backToKw q3 (keywordEach [] (bodyX cb P w K mg base N qual st f cdv A outer s H E).env))) ∧
      starEach [.Name "lengths" q2] (bodyX cb P w K mg base N qual st f cdv A outer s H E).env = (false, eval (.Name "lengths" q2) (bodyX cb P w K mg base N qual st f cdv A outer s H E).env) :: starEach [] (bodyX cb P w K mg base N qual st f cdv A outer s H E).env) :
    FnV cb P w K mg base (k + 2) f (spOf K mg m) := by
  refine (fnV1_body (k := k + 1) F S hb (sp := fun vs H Q E => ∃ (t : Addr) (B : Addr → Prop) (ds : List D) (c : Sx) (Pd : D → Sx → Prop) (XP : Exn → Sx → Prop), vs = [.ref (wrC K), .ref t] ∧ (∀ a, B a → H a ≠ none) ∧ Rep K B H (.ref t) (.tuple ds) ∧ m [.tuple ds] c Pd XP ∧
    (∀ d v H', Pd d c → All H H' → Rep K B H' v d → Q v H') ∧ ∀ x cl dd H', XP x c → All H H' → ExRep K mg B H' x cl dd → E cl dd H') (fun cdv A outer s H vs Q E hr hg hsp => ?_)).imp fun vs H Q E hsp => ?_
  · obtain ⟨t, B, ds, c, Pd, XP, rfl, trk, rd, mm, kq, ke⟩ := hsp
    have ok : (parF H B c XP E).Ok K mg := ⟨fun _ _ _ h _ _ => h, fun n n' x cl d B1 H1 H' σ st _ hx hs he hr => by
      have hc : n' = c := hs
      subst hc
      exact ke x cl d H' hx (all_of (st.ext.trans he).ext) (exrep_go (fun a z => bm_more he.up a (st.subc a z)) hr)⟩
    have S' := sit_body (P := P) (w := w) (base := base) (mg := mg) (f := f) (outer := outer) (H := H) (p := parF H B c XP E) (E := E) S hr hg ok (fun _ _ _ _ h => h) rfl sm
    obtain ⟨b1, b2, b3, b4⟩ := body cdv A outer s H E
    generalize hX : bodyX cb P w K mg base N qual st f cdv A outer s H E = X at *
    have pe : PE X (.Call (.Name "cls" q1) [.Name "lengths" q2] [] q3) (fun σ H Q => tVar 0 σ H fun y H1 => y = .ref (wrC X.K) ∧ tVar 1 σ H1 fun v H2 => ∀ x dx, H2 x = none → H2 dx = none → dx ≠ x → spI X.K X.mg m [.ref x, v] (upd (upd H2 dx (.own x)) x (.ins (wrC X.K) dx [])) (fun u H3 => u = .non ∧ Q (.ref x) H3) ((parF H B c XP E).EK σ)) := by
      refine ⟨fun pins s σ H Q J h => ?_⟩
      refine Call_ (thn (b1.run pins s σ H _ J h) fun u s1 ⟨y, H1, I1, ry, ey, q⟩ => ?_) b3
      subst ey
      obtain rfl : u = Value.ref (wrC X.K) := ry
      have M' : Mk X.K (wrC X.K) g := by subst hX; exact M
      have I' : FnG cb X.prog X.w X.K X.mg X.base k g fg ["self", "row"] (spI X.K X.mg m) := by subst hX; exact I
      have hbi' : Binds X.K fg ["self", "row"] [] := by subst hX; exact hbi
      refine PySem.W.callWith_K (h₀ := X.base) I1.ok.mod.kin M'.kp (thn ((pa_cons b2 pa_nil b4).run q3 pins s1 σ H1 (fun vs H2 => match vs with | [v] => ∀ x dx, H2 x = none → H2 dx = none → dx ≠ x → spI X.K X.mg m [.ref x, v] (upd (upd H2 dx (.own x)) x (.ins (wrC X.K) dx [])) (fun u H3 => u = .non ∧ Q (.ref x) H3) ((parF _ B c XP E).EK σ) | _ => False) I1 q) fun us s2 ⟨vs, H2, I2, r, q2⟩ => ⟨I2.kIn, ?_⟩) b4 rfl
      match vs, r, q2 with
      | [v], r, q2 => exact run_mkW (A' := X.A) S' M' I' S'.rm hbi' (S'.ps σ) I2 r q2
    refine ⟨_, by rw [hbody]; exact pss_one (ps_ret pe), ?_⟩
    have hK : X.K = K := by subst hX; rfl
    have hmg : X.mg = mg := by subst hX; rfl
    have st0 : St0 (parF H B c XP E) c B H := ⟨fun _ z => .inl z, fun a z => trk a (bmF a z), rfl, Ev.refl, fun _ z _ => .inl z⟩
    have g0 : (L2.start N [V.ref (wrC K), V.ref t])[0]? = some (some (V.ref (wrC K))) := rfl
    have g1 : (L2.start N [V.ref (wrC K), V.ref t])[1]? = some (some (V.ref t)) := rfl
    refine ⟨_, g0, by rw [hK], _, g1, ?_⟩
    exact mk_want S' (σ := L2.start N [V.ref (wrC K), V.ref t]) st0 (.no rfl) (by rw [hK]; exact rd.less bmF) mm fun d c' v H' pd ex si rv => by
      have hc : c' = c := si
      subst hc
      rw [hK] at rv
      exact kq d v H' pd (all_of ex.ext) (rv.less fun _ z => .inl z)
  · obtain ⟨ws, B, ds, c, Pd, XP, rfl, trk, rs, hs, mm, kq, ke⟩ := hsp
    refine ⟨_, ws, rfl, by rw [rs.length]; exact small_line hs, fun q hq => ?_⟩
    exact ⟨q, _, ds, c, Pd, XP, rfl, fun a ha => (All.new hq).ext.dom (B := fun _ => False) a (trk a ha), rep_tup hq rs, mm, fun d v H' pd al r => kq d v H' pd ((All.new hq).trans al) r, fun x cl dd H' hx al hr => ke x cl dd H' hx ((All.new hq).trans al) hr⟩
end
section
variable {X : Cx} {p : Par} {k : Nat} {cb vb : Bool}
theorem pd_ofW (S : SitB cb vb X p k) {j : Nat} {g q : Addr} {mc : Value} {f : Fn} {e : Expr} {es : List Expr} {ma : XA} {pn apos pos : Pos} {pl : Sem Bool} (r : ClX.CRead X.K (wrC X.K) mc) (c : ClX.CMet X.K (wrC X.K) mc "of" q g) (F : FnV cb X.prog X.w X.K X.mg X.base j g (spOf X.K X.mg f)) (hj : j ≤ k) (hm : X.mg "WordRow" = some (.ref (wrC X.K))) (ha : PDA X p (e :: es) ma) (hg : Gl X "WordRow" := by rfl)
    (hst : starEach (e :: es) X.env = (false, eval e X.env) :: starEach es X.env := by rfl) (hpl : (backTo pos (starEach es X.env)).any (·.1) = false := by rfl)
    (ht : eval (.Call (.Attribute (.Name "WordRow" pn) "of" apos) (e :: es) [] pos) X.env = (do
      let ov ← eval (.Name "WordRow" pn) X.env
      standAt apos.atName
      let (f, first) ← holding [ov] (getMethod ov "of" pl)
      callWith pos f first (backTo pos (starEach (e :: es) X.env)) (backToKw pos (keywordEach [] X.env))) := by rfl) :
    PD X p (.Call (.Attribute (.Name "WordRow" pn) "of" apos) (e :: es) [] pos) (eOfW f ma) := by
  obtain ⟨ta, a1, a2⟩ := ha.ex
  refine ⟨fun σ H Q => ta σ H fun vs H1 => spOf X.K X.mg f (.ref (wrC X.K) :: vs) H1 Q (p.EK σ), ⟨fun pins s σ H Q I h => ?_⟩, fun B H σ E cc P Q st re mm kk => ?_⟩
  · refine PySem.W.methodCall_KW (pl := pl) (thn ((pe_glob (v := .ref (wrC X.K)) hg hm rfl (by decide)).run pins s σ H (fun y H1 => y = .ref (wrC X.K) ∧ H1 = H) I ⟨rfl, rfl⟩) fun u s1 ⟨x, H1, I1, rx, ex, eH⟩ => ?_) ht
    subst ex
    subst eH
    obtain rfl : u = Value.ref (wrC X.K) := rx
    refine ClX.getmethcm_ok I1 r c fun s2 I2 => ?_
    refine ClX.callwith_cm I2 (ClX.base_none I1 (Nat.le_refl _)) c.fi (thn (a1.run pos _ s2 σ H1 _ I2 h) fun us s3 ⟨vs, H2, I3, rv, q2⟩ => ⟨⟨ClX.pin_at I3, I3.kIn⟩, ?_⟩) hst hpl
    have z : wpAny (model X.prog X.w) X.A (call (.ref _) us) (EP X ((_, PySem.W.methodObj (.ref g) (.ref (wrC X.K))) :: pins) σ Q) X.xe s3 := wpAny_call (PySem.W.method_call (ClX.pin_at I3) (codeAny_mono (F.go X.A X.stack s3 H2 (.ref (wrC X.K) :: us) (.ref (wrC X.K) :: vs) Q (p.EK σ) (S.rm.mono hj) S.gd I3.env0 (.cons rfl rv) q2) fun res s' hq => by
      match res, hq with
      | .error e, hq => exact S.ps σ _ H2 s3 e s' I3 hq
      | .ok (.ret u), hq => exact I3.after hq
      | .ok .next, hq => exact hq.elim
      | .ok .brk, hq => exact hq.elim
      | .ok .cont, hq => exact hq.elim))
    exact thn z fun _ _ y => ClX.unpinE y
  · refine a2 B H σ E _ _ _ st re mm fun ds c1 vs H1 m1 e1 s1 r1 => ?_
    have st1 := st.go e1 s1
    exact ⟨vs, _, ds, c1, P, p.XP, rfl, st1.trk, r1, m1.1, m1.2, fun d v H2 pd al rd => kk d c1 v H2 pd (e1.trans al.ev) (st1.all S.ok al) rd, fun y cl dd H2 hx al hr => S.ok.exc c1 c1 y cl dd B H1 H2 σ st1 (re.go st e1).fx hx (st1.all S.ok al) al.ev hr⟩
end
end DL
end
section
namespace DL
open PySem PySem.Spec PyProof.Rows L2
/-- such a def, D the class in whose body it stands -/
structure FunS (K : PySem.W.Frag) (fl x qual : Str) (params : Arguments) (body : List Stmt) (scope : Scope) (kws : List (Str × V)) (D f : Addr) (fd : FuncData) : Prop where
  ex : ∃ (oc : Value) (od : Option Addr) (dV kV doc pm : Value) (an : Option Addr) (cda cc : Addr) (ct : Value) (osl : Array (Option Value)),
    fd = PySem.W.ksFn x qual params body scope dV kV doc pm an (.ref cda) ct cc ∧ K.lookup f = some ⟨oc, od, .func fd, osl⟩ ∧ PySem.W.codeIn K (.ref cda) qual = true ∧ DflV K dV [] ∧ KwdV K kV kws ∧
    (∃ (cl : Value) (cdd : Option Addr) (vs : Array Value) (ccs : Array (Option Value)) (tf : Tok), K.lookup cda = some ⟨cl, cdd, .fields vs, ccs⟩ ∧ vs[2]? = some (.str fl tf)) ∧
    (∃ (cl : Value) (cld : Option Addr) (csl : Array (Option Value)), K.lookup cc = some ⟨cl, cld, .cell (some (.ref D)), csl⟩)
  kp : PySem.W.keepIn K (.ref f) = true
theorem FunS.bindsN {K : PySem.W.Frag} {fl x qual : Str} {params : Arguments} {body : List Stmt} {scope : Scope} {kws : List (Str × V)} {D f : Addr} {fd : FuncData} {ps : List Str} (F : FunS K fl x qual params body scope kws D f fd)
    (h : ∀ (kV doc pm : Value) (an : Option Addr) (cdv ct : Value) (cc : Addr) (us : List Value), us.length = ps.length → bindArgs (PySem.W.ksFn x qual params body scope .none kV doc pm an cdv ct cc) ⟨us, []⟩ = pure (ps.zip us)) : Binds K fd ps [] := by
  obtain ⟨oc, od, dV, kV, doc, pm, an, cda, cc, ct, osl, rfl, lk, hcd, hD, hK, _⟩ := F.ex
  rcases hD with ⟨_, rfl⟩ | ⟨e, _⟩
  · exact .all (h kV doc pm an (.ref cda) ct cc)
  · exact absurd rfl e
abbrev AtC (X : Cx) (c : Code) {α : Type} (t : Sem α) (Q : α → Shared → Prop) (s : Shared) : Prop := PySem.wpAt (model X.prog X.w) X.A c t Q X.xe s
structure PEAt (X : Cx) (c : Code) (e : Expr) (t : TE) : Prop where
  run : ∀ (pins : List (Addr × Obj)) (s : Shared) (σ : L2.St) (H : Hp) (Q : VK), Inv X pins σ H s → t σ H Q → AtC X c (eval e X.env) (EP X pins σ Q) s
structure PSsAt (X : Cx) (c : Code) (sts : List Stmt) (t : TS) : Prop where
  run : ∀ (pins : List (Addr × Obj)) (s : Shared) (σ : L2.St) (H : Hp) (D : Ends), Inv X pins σ H s → t D σ H → AtC X c (execs sts X.env) (SP X pins D) s
structure PDat (X : Cx) (c : Code) (p : Par) (e : Expr) (m : XE) : Prop where
  ex : ∃ te, PEAt X c e te ∧ EvR X.K p te m
structure SSat (X : Cx) (c : Code) (p : Par) (sts : List Stmt) (m : XS) : Prop where
  ex : ∃ ts, PSsAt X c sts ts ∧ SR X.K p ts m
section
variable {X : Cx} {p : Par} {k : Nat} {cb vb : Bool} {c : Code}
theorem PD.at_ {e : Expr} {m : XE} (h : PD X p e m) : PDat X c p e m := by
  obtain ⟨te, a1, a2⟩ := h.ex
  exact ⟨te, ⟨fun pins s σ H Q I q => wpAt_of_wpAny (a1.run pins s σ H Q I q)⟩, a2⟩
theorem PSSD.at_ {sts : List Stmt} {m : XS} (h : PSSD X p sts m) : SSat X c p sts m := by
  obtain ⟨ts, a1, a2⟩ := h.ex
  exact ⟨ts, ⟨fun pins s σ H Q I q => wpAt_of_wpAny (a1.run pins s σ H Q I q)⟩, a2⟩
end
end DL
end
section
namespace DL
open PySem PySem.Spec PyProof.Rows L2
section
variable {X : Cx} {p : Par} {k : Nat} {cb vb : Bool} {c : Code} {D : Addr}
/-- the method m of what stands behind D, of the class n, does f -/
structure SupN (cb : Bool) (X : Cx) (k : Nat) (D : Addr) (n m : Str) (f : Fn) : Prop where
  ex : ∃ (j : Nat) (g : Addr) (fd : FuncData) (ps : List Str), j ≤ k ∧ FnG cb X.prog X.w X.K X.mg X.base j g fd ps (spC X.K X.mg f) ∧ PySem.W.mroIn X.K (He.ga X.K n) (.ref D) = some true ∧ PySem.W.ks_superIn X.K (He.ga X.K n) D m = some (some (.ref g)) ∧
    PySem.W.typeIn X.K (.ref g) = some (.type "function") ∧ PySem.W.fnIn X.K g = true ∧ Binds X.K fd ps []
inductive SupT (cb : Bool) (X : Cx) (k : Nat) (D : Addr) (m : Str) : Tb → Prop
  | nil : SupT cb X k D m []
  | cons {n : Str} {f : Fn} {tb : Tb} (h : SupN cb X k D n m f) (t : SupT cb X k D m tb) : SupT cb X k D m ((n, f) :: tb)
theorem SupT.at_ {m : Str} {n : Str} {f : Fn} : ∀ {tb : Tb}, SupT cb X k D m tb → tb.lookup n = some f → SupN cb X k D n m f
  | _, .nil, h => by cases h
  | _, .cons (n := n') (f := f') h t, e => by
    rw [List.lookup_cons] at e
    by_cases hn : (n == n') = true
    · rw [hn] at e
      cases e
      rw [beq_iff_eq] at hn
      subst hn
      exact h
    · rw [Bool.not_eq_true] at hn
      rw [hn] at e
      exact t.at_ e
end
end DL
end
section
namespace DL
open PySem PySem.Spec PyProof.Rows L2
structure PAat (X : Cx) (c : Code) (es : List Expr) (t : TA) : Prop where
  run : ∀ (pos : Pos) (pins : List (Addr × Obj)) (s : Shared) (σ : L2.St) (H : Hp) (Q : List V → Hp → Prop), Inv X pins σ H s → t σ H Q → AtC X c (spliced (backTo pos (starEach es X.env))) (AP X pins σ Q) s
structure PDAat (X : Cx) (c : Code) (p : Par) (es : List Expr) (m : XA) : Prop where
  ex : ∃ ta, PAat X c es ta ∧ EvA X.K p ta m
section
variable {X : Cx} {p : Par} {k : Nat} {cb vb : Bool} {c : Code} {D : Addr}
theorem PDA.at_ {es : List Expr} {m : XA} (h : PDA X p es m) : PDAat X c p es m := by
  obtain ⟨ta, a1, a2⟩ := h.ex
  exact ⟨ta, ⟨fun pos pins s σ H Q I q => PySem.wpAt_of_wpAny (a1.run pos pins s σ H Q I q)⟩, a2⟩
end
end DL
end
section
namespace DL
open PySem PySem.Spec PyProof.Rows L2
structure DefA where
  at_ : PySem.W.Frag → Addr
  name : Str
  qual : Str
  params : Arguments
  body : List Stmt
  scope : Scope
  /-- with `super()`: the file, the class -/
  clo : Option (Str × Str)
  kwd : List (Str × He.Dv) := []
def DefA.kws (K : PySem.W.Frag) (d : DefA) : List (Str × V) := d.kwd.map fun q => (q.1, q.2.v K)
def fnA (K : PySem.W.Frag) (a : Addr) : He.FnW := match K.lookup a with
  | some ⟨_, _, .func fd, _⟩ => some (fd.name, fd.qualname, fd.params, fd.body, fd.scope, fd.globals, fd.closure.map (fun q => (q.1, (0 : Addr))), fd.builtins)
  | _ => none
def DefA.val (d : DefA) : He.FnW := some (d.name, d.qual, d.params, .stmts d.body, d.scope, mainGlobals, (if d.clo.isSome then [(("__class__" : Str), (0 : Addr))] else []), builtinsNs)
/-- its cell, its code -/
def cloB (K : PySem.W.Frag) (fd : FuncData) (q : Str × Str) : Bool :=
  (match fd.closure with
  | [(_, cc)] => (match K.lookup cc with
    | some ⟨_, _, .cell (some (.ref D)), _⟩ => decide (D = He.ga K q.2)
    | _ => false)
  | _ => false) && (match fd.code with
  | .ref cda => (match K.lookup cda with
    | some ⟨_, _, .fields vs, _⟩ => (match (vs[2]? : Option Value) with
      | some (.str x _) => decide (x = q.1)
      | _ => false)
    | _ => false)
  | _ => false)
def DefA.ok (K : PySem.W.Frag) (d : DefA) : Bool := PySem.W.keepIn K (.ref (d.at_ K)) && (match K.lookup (d.at_ K) with
  | some ⟨_, _, .func fd, _⟩ => PySem.W.codeIn K fd.code d.qual && (He.dflB K fd.defaults [] && (He.kwdB K fd.kwdefaults (d.kws K) && (match d.clo with
    | some q => cloB K fd q
    | none => true)))
  | _ => false)
theorem DefA.funD {K : PySem.W.Frag} {d : DefA} (hc : d.clo = none) (e : fnA K (d.at_ K) = d.val) (c : d.ok K = true) : ∃ fd, FunD K d.name d.qual d.params d.body d.scope [] (d.kws K) (d.at_ K) fd := by
  obtain ⟨kp, c2⟩ := He.ba c
  unfold fnA at e
  unfold DefA.val at e
  rw [hc] at e c2
  cases q : K.lookup (d.at_ K) with
  | none => rw [q] at c2; cases c2
  | some o =>
    obtain ⟨oc, od, dt, osl⟩ := o
    rw [q] at c2 e
    cases dt with
    | func fd =>
      obtain ⟨a1, a2, a3, a4, a5, a6, a7, dv, kv, dc, pm, an, cdv, ct, bn⟩ := fd
      have e2 : (some (a1, a2, a3, a4, a5, a6, a7.map (fun q => (q.1, (0 : Addr))), bn) : He.FnW) = some (d.name, d.qual, d.params, .stmts d.body, d.scope, mainGlobals, [], builtinsNs) := e
      simp only [Option.some.injEq, Prod.mk.injEq, List.map_eq_nil_iff] at e2
      obtain ⟨g1, g2, g3, g4, g5, g6, g7, g8⟩ := e2
      subst g1 g2 g3 g4 g5 g6 g7 g8
      have c3 : (PySem.W.codeIn K cdv d.qual && (He.dflB K dv [] && (He.kwdB K kv (d.kws K) && true))) = true := c2
      obtain ⟨k1, k2⟩ := He.ba c3
      obtain ⟨k3, k4⟩ := He.ba k2
      obtain ⟨k4, _⟩ := He.ba k4
      exact ⟨_, ⟨oc, od, dv, kv, dc, pm, an, cdv, ct, osl, rfl, q, k1, He.dflB_ok k3, He.kwdB_ok k4⟩, kp⟩
    | _ => cases c2
abbrev AlW : Type := AlH × (Bool × List He.FnW)
def obsWK (fa : List He.Fa) (fn : List He.DefD) (fp : List DefA) (ex : PySem.W.Frag → Bool) (K : PySem.W.Frag) : AlW := ((He.obsD fa fn K, ex K), (fp.all fun d => d.ok K, fp.map fun d => fnA K (d.at_ K)))
structure SaysW (fa : List He.Fa) (fn : List He.DefD) (fp : List DefA) (ex : PySem.W.Frag → Bool) (K : PySem.W.Frag) : Prop where
  d : He.SaysD fa fn K
  x : ex K = true
  ok : (fp.all fun d => d.ok K) = true
  e : (fp.map fun d => fnA K (d.at_ K)) = fp.map DefA.val
theorem SaysW.def_ {fa : List He.Fa} {fn : List He.DefD} {fp : List DefA} {ex : PySem.W.Frag → Bool} {K : PySem.W.Frag} (c : SaysW fa fn fp ex K) (i : Nat) {d : DefA} (h : fp[i]? = some d := by rfl) (hc : d.clo = none := by rfl) : ∃ fd, FunD K d.name d.qual d.params d.body d.scope [] (d.kws K) (d.at_ K) fd := by
  have e2 : (fp.map fun d => fnA K (d.at_ K))[i]? = (fp.map DefA.val)[i]? := by rw [c.e]
  rw [List.getElem?_map, List.getElem?_map, h] at e2
  exact DefA.funD hc (Option.some.inj e2) (List.all_eq_true.mp c.ok d (List.mem_of_getElem? h))
def prP (K : PySem.W.Frag) (f : Str) : Addr := He.ma K (wrC K) f
def prG (K : PySem.W.Frag) (f : Str) : Addr := match PySem.W.recIn K (prP K f) "property" with
  | some (.ref g :: _) => g
  | _ => 0
def propB (K : PySem.W.Frag) (f : Str) : Bool := He.eqO (PySem.W.findIn K (.ref (wrC K)) f) (some (some (.ref (prP K f)))) && (He.eqO (PySem.W.specialIn K (.ref (prP K f)) "__get__") (some (some (.builtin "property.__get__"))) && (decide (PySem.W.takesIn K (.ref (prP K f)) = some true) && (match PySem.W.recIn K (prP K f) "property" with
  | some (.ref _ :: _) => true
  | _ => false)))
theorem propB_ok {K : PySem.W.Frag} {f : Str} (h : propB K f = true) : PropW K f (prP K f) (prG K f) := by
  obtain ⟨h1, h⟩ := He.ba h
  obtain ⟨h2, h⟩ := He.ba h
  obtain ⟨h3, h4⟩ := He.ba h
  refine ⟨⟨He.eqO_ok h1, He.eqO_ok h2, of_decide_eq_true h3, ?_⟩⟩
  unfold prG
  split at h4
  · rename_i g r e
    exact ⟨r, by rw [e]⟩
  · cases h4
def ofP (K : PySem.W.Frag) : Addr := He.ma K (wrC K) "of"
def ofG (K : PySem.W.Frag) : Addr := He5.wf K (wrC K) "classmethod" "of"
structure OfW (K : PySem.W.Frag) : Prop where
  r : ClX.CRead K (wrC K) (.type "type")
  c : ClX.CMet K (wrC K) (.type "type") "of" (ofP K) (ofG K)
def ofB (K : PySem.W.Frag) : Bool := PySem.W.readsIn K (wrC K) (.type "type") && (He.eqO (PySem.W.specialIn K (.ref (wrC K)) "__getattribute__") (some (some (.builtin "type.__getattribute__"))) && (He5.wrapB K (wrC K) "classmethod" "classmethod.__get__" "of" && PySem.W.fnIn K (ofG K)))
theorem ofB_ok {K : PySem.W.Frag} (h : ofB K = true) : OfW K := by
  obtain ⟨h1, h⟩ := He.ba h
  obtain ⟨h2, h⟩ := He.ba h
  obtain ⟨h3, h4⟩ := He.ba h
  obtain ⟨g1, g2⟩ := He5.wrapB_ok h3
  exact ⟨⟨h1, He.eqO_ok h2⟩, ⟨g1, g2, h4⟩⟩
end DL
end
section
namespace DL
open PySem PySem.Spec PyProof.Rows L2
/-- what a function at a place does: from where it was made on -/
def spL (K : PySem.W.Frag) (mg : Str → Option Value) (S L C : Addr) (c0 : Sx) (H0 : Hp) (B0 : Addr → Prop) (m : Fn) : Sp := fun vs H Q EK => ∃ (B : Addr → Prop) (ds : List D) (c : Sx) (P : D → Sx → Prop) (XP : Exn → Sx → Prop),
  (∀ a, B a → H0 a ≠ none → bc B0 S L C c0 a) ∧ EvB (cB S L C) c0 H0 c H ∧ (∀ a, bc B S L C c a → H a ≠ none) ∧ StI K S L C c H ∧ Reps K (bc B S L C c) H vs ds ∧ m ds c P XP ∧
  (∀ d c' v H', P d c' → EvB (cB S L C) c H c' H' → StI K S L C c' H' → Rep K (bc B S L C c') H' v d → Q v H') ∧
  ∀ x c' cl dd H', XP x c' → EvB (cB S L C) c H c' H' → StI K S L C c' H' → ExRep K mg (bc B S L C c') H' x cl dd → EK cl dd H'
/-- the functions of φ keep their promises, in all frames that are entered later -/
def Live (P : Program) (w : World) (K : PySem.W.Frag) (mg : Str → Option Value) (base : Heap) (j : Nat) (S L C : Addr) (φ : Phi) (outer : List PySem.Env) (s : Shared) (H : Hp) (c : Sx) (B : Addr → Prop) : Prop :=
  ∀ a m, φ a = some m → H a = none ∧ a ∉ frs outer ∧ PySem.W.FnAt a s.heap ∧ ∀ (A : Around) (outer' : List PySem.Env) (s' : Shared) (H' : Hp) (us : List Value) (vs : List V) (Q : VK) (E : XK), RoomB true j A → A.guards = some [] → Env0 P w K mg base A outer' s' H' →
    Un (frs outer) [] H H' s.heap s'.heap → Vals vs us → spL K mg S L C c H B m vs H' Q E → codeAny (model P w) A (.call (.ref a) ⟨us, []⟩) (CR (CXd K P w) outer' P w H' s' Q E) s'
/-- .. where a body stands -/
structure LiveZ (Z : Cx) (q : Par) (φ : Phi) (j : Nat) : Prop where
  h0 : q.H0 = Z.H_0
  ex : Z.ex = []
  go : ∃ S L C, q.B0 = cB S L C ∧ q.SI = StI Z.K S L C ∧ q.S = S ∧ Live Z.prog Z.w Z.K Z.mg Z.base j S L C φ Z.outer Z.s_0 Z.H_0 q.c0 q.Bc
theorem LiveZ.sub {Z : Cx} {p q : Par} {φ : Phi} {j : Nat} {pn : List (Addr × Obj)} {xe : Value → Shared → Prop} (h : LiveZ Z p φ j) (s : SubP p q) : LiveZ (Z.tr pn xe) q φ j := by
  obtain ⟨h1, h2, S, L, C, e1, e2, e3, l⟩ := h
  refine ⟨s.h0.trans h1, h2, S, L, C, s.b0.trans e1, s.si.trans e2, s.ss.trans e3, ?_⟩
  rw [s.c0, s.bc]
  exact l
section
variable {Z : Cx} {q : Par} {k : Nat} {vb : Bool}
def tFun (K : PySem.W.Frag) (mg : Str → Option Value) (S L C : Addr) (φ : Phi) (c0 : Sx) (H0 : Hp) (B0 : Addr → Prop) (EK : L2.St → XK) (i : Nat) (ta : TA) : TE := fun σ H Q => ∃ a m, φ a = some m ∧ σ[i]? = some (some (.ref a)) ∧ ta σ H fun vs H1 => spL K mg S L C c0 H0 B0 m vs H1 Q (EK σ)
/-- the call itself -/
theorem live_call (S' : SitB true vb Z q k) {j : Nat} (hj : j ≤ k) (hex : Z.ex = []) {S L C : Addr} {φ : Phi} (LV : Live Z.prog Z.w Z.K Z.mg Z.base j S L C φ Z.outer Z.s_0 Z.H_0 q.c0 q.Bc) {a : Nat} {m : Fn} (e : φ a = some m)
    {pins : List (Addr × Obj)} {σ : L2.St} {H : Hp} {s : Shared} {us : List Value} {vs : List V} {Q : VK} (I : Inv Z pins σ H s) (r : Vals vs us) (sp : spL Z.K Z.mg S L C q.c0 Z.H_0 q.Bc m vs H Q (q.EK σ)) : wpAny (model Z.prog Z.w) Z.A (call (.ref a) us) (EP Z pins σ Q) Z.xe s := by
  obtain ⟨_, _, _, run⟩ := LV a m e
  have un : Un (frs Z.outer) [] Z.H_0 H Z.s_0.heap s.heap := by
    have u := I.base
    rw [hex] at u
    exact u
  refine wpAny_call (codeAny_mono (run Z.A Z.stack s H us vs Q (q.EK σ) (S'.rm.mono hj) S'.gd I.env0 un r sp) fun res s' hq => ?_)
  match res, hq with
  | .error x, hq => exact S'.ps σ pins H s x s' I hq
  | .ok (.ret u), hq => exact I.after hq
  | .ok .next, hq => exact hq.elim
  | .ok .brk, hq => exact hq.elim
  | .ok .cont, hq => exact hq.elim
theorem live_there (hex : Z.ex = []) {j : Nat} {S L C : Addr} {φ : Phi} (LV : Live Z.prog Z.w Z.K Z.mg Z.base j S L C φ Z.outer Z.s_0 Z.H_0 q.c0 q.Bc) {a : Nat} {m : Fn} (e : φ a = some m) {pins : List (Addr × Obj)} {σ : L2.St} {H : Hp} {s : Shared} (I : Inv Z pins σ H s) : PySem.W.FnAt a s.heap := by
  obtain ⟨n1, n2, ⟨oc, od, fd, sl, ho⟩, _⟩ := LV a m e
  exact ⟨oc, od, fd, sl, I.base.keep a _ ho n1 n2 (by rw [hex]; simp)⟩
/-- what stands in the language for such a call -/
theorem ev_fun (S' : SitB true vb Z q k) {S L C : Addr} (z1 : q.B0 = cB S L C) (z2 : q.SI = StI Z.K S L C) (h0 : q.H0 = Z.H_0) {φ : Phi} {i : Nat} {ta : TA} {ma : XA} (ha : EvA Z.K q ta ma) : EvR Z.K q (tFun Z.K Z.mg S L C φ q.c0 Z.H_0 q.Bc q.EK i ta) (eCallF φ i ma) := by
  intro B H σ E c P Q st r mm kk
  unfold eCallF at mm
  cases e1 : E[i]? with
  | none => rw [e1] at mm; exact mm.elim
  | some y =>
    rw [e1] at mm
    cases y with
    | val d =>
      obtain ⟨sl, g1, g2⟩ := r.at_ i _ e1
      cases g2 with
      | val rd =>
        have mm : (match rOf d with | some a => (match φ a with | some m => bnd (ma E) m | none => stuck) | none => stuck : W D) c P q.XP := mm
        cases e2 : rOf d with
        | none => rw [e2] at mm; exact mm.elim
        | some a =>
          rw [e2] at mm
          have mm : (match φ a with | some m => bnd (ma E) m | none => stuck : W D) c P q.XP := mm
          cases e3 : φ a with
          | none => rw [e3] at mm; exact mm.elim
          | some m =>
            rw [e3] at mm
            have ve := rep_rOf rd e2
            subst ve
            refine ⟨a, m, e3, g1, ha B H σ E c _ _ st r mm fun ds c1 vs H1 m1 ev si rs => ?_⟩
            have st1 := st.go ev si
            have zb : ∀ c, bm q B c = bc B S L C c := fun c => by unfold bm bc; rw [z1]
            have si1 := st1.si
            rw [z2] at si1
            have ev0 := st1.ext
            rw [h0] at ev0
            unfold Ev at ev0
            rw [z1] at ev0
            refine ⟨B, ds, c1, P, q.XP, fun a hb hn => ?_, ev0, by rw [← zb]; exact st1.trk, si1, by rw [← zb]; exact rs, m1, fun d c2 v H2 pd al s2 rd => ?_, fun y c2 cl dd H2 hx al s2 hr => ?_⟩
            · rcases st1.old a hb (by rw [h0]; exact hn) with z | z
              · exact .inl z
              · rw [z1] at z
                exact .inr (ev0.old a z hn)
            · rw [← z1] at al
              rw [← z2] at s2
              rw [← zb] at rd
              exact kk d c2 v H2 pd (ev.trans al) s2 rd
            · rw [← z1] at al
              rw [← z2] at s2
              rw [← zb] at hr
              exact S'.ok.exc c1 c2 y cl dd B H1 H2 σ st1 (r.go st ev).fx hx s2 al hr
    | _ => exact mm.elim
/-- x(), x a name that is bound to such a function -/
theorem pd_callF0 (S' : SitB true vb Z q k) {φ : Phi} {j i : Nat} (LZ : LiveZ Z q φ j) (hj : j ≤ k) {x : Str} {pn pos : Pos} (hN : Z.N[i]? = some x := by rfl) (hv : Vis Z.env.scope x := by first | exact Or.inl rfl | exact Or.inr (Or.inl rfl) | exact Or.inr (Or.inr rfl))
    (hd : (x == ("__debug__" : Str)) = false := by decide) (hcd : (x == ("__classdict__" : Str)) = false := by decide) : PD Z q (.Call (.Name x pn) [] [] pos) (eCallF φ i aNil) := by
  obtain ⟨h0, hex, S, L, C, z1, z2, z3, LV⟩ := LZ
  refine ⟨_, ⟨fun pins s σ H Q I h => ?_⟩, ev_fun (ta := tNil) (ma := aNil) S' z1 z2 h0 fun B H σ E c P Q s re m k => k [] _ [] H m Ev.refl s.si .nil⟩
  obtain ⟨a, m, e, hs, sp⟩ := h
  refine wpAny_Call_Name_kw (thn ((pe_var (pos := pn) (i := i) hN hv hd hcd).run pins s σ H (fun v H1 => v = .ref a ∧ H1 = H) I ⟨.ref a, hs, rfl, rfl⟩) fun u s1 ⟨v, H1, I1, r1, ev, eH⟩ => ?_)
  subst ev eH
  obtain rfl : u = Value.ref a := r1
  exact PySem.W.callWith_F0 (live_there hex LV e I1) (live_call S' hj hex LV e I1 .nil sp)
end
section
variable {P : Program} {w : World} {K : PySem.W.Frag} {mg : Str → Option Value} {base : Heap} {cb : Bool}
/-- as spG, with functions that keep their promises -/
def spGL (b : Bool) (K : PySem.W.Frag) (mg : Str → Option Value) (m : Fn) (Λ : Addr → Addr → Addr → Sx → (Addr → Prop) → Prop) : Sp := fun vs H Q EK => ∃ (S L C : Addr) (ws : List V) (B : Addr → Prop) (ds : List D) (c : Sx) (P : D → Sx → Prop) (XP : Exn → Sx → Prop),
  vs = (if b = true then [.ref S] else []) ++ ws ∧ (∀ a, bc B S L C c a → H a ≠ none) ∧ StI K S L C c H ∧ Reps K (bc B S L C c) H ws ds ∧ m ds c P XP ∧ Λ S L C c B ∧
  (∀ d c' v H', P d c' → EvB (cB S L C) c H c' H' → StI K S L C c' H' → Rep K (bc B S L C c') H' v d → Q v H') ∧
  ∀ x c' cl dd H', XP x c' → EvB (cB S L C) c H c' H' → StI K S L C c' H' → ExRep K mg (bc B S L C c') H' x cl dd → EK cl dd H'
/-- a def that is handed functions keeps its promise -/
structure FnL (cb : Bool) (P : Program) (w : World) (K : PySem.W.Frag) (mg : Str → Option Value) (base : Heap) (k j : Nat) (f : Addr) (fd : FuncData) (ps : List Str) (b : Bool) (m : Phi → Fn) : Prop where
  len : ∀ φ Λ vs H Q E, spGL b K mg (m φ) Λ vs H Q E → vs.length = ps.length
  go : ∀ (φ : Phi) (A : Around) (outer : List PySem.Env) (s : Shared) (H : Hp) (args : Args) (us : List Value) (vs : List V) (Q : VK) (E : XK), RoomB cb k A → A.guards = some [] → Env0 P w K mg base A outer s H →
    BindsTo s fd args (ps.zip us) → Vals vs us → spGL b K mg (m φ) (fun S L C c B => Live P w K mg base j S L C φ outer s H c B) vs H Q E → codeAny (model P w) A (.call (.ref f) args) (CR (CXd K P w) outer P w H s Q E) s
theorem FnL.mono {k k' j : Nat} {f : Addr} {fd : FuncData} {ps : List Str} {b : Bool} {m : Phi → Fn} (F : FnL cb P w K mg base k j f fd ps b m) (h : k ≤ k') : FnL cb P w K mg base k' j f fd ps b m :=
  ⟨F.len, fun φ A outer s H args us vs Q E hr => F.go φ A outer s H args us vs Q E (hr.mono h)⟩
/-- the code object of the def at f -/
def CodeOf (K : PySem.W.Frag) (f : Addr) (cdv : Value) : Prop := ∃ oc od fd osl, K.lookup f = some ⟨oc, od, .func fd, osl⟩ ∧ fd.code = cdv
/-- a call of a def, from a given state on -/
theorem go_body {x qual : Str} {st : Stmt} {f : Addr} {fd : FuncData} {N ps : List Str} {k : Nat} {kws : List (Str × V)} (F : FnPk K x qual st kws f fd) (S : FnScope N ps (defScope st)) {A : Around} {outer : List PySem.Env} {s : Shared} {H : Hp} {args : Args} {us : List Value} {vs : List V} {Q : VK} {E : XK}
    (lengths : vs.length = ps.length) (hr : RoomB cb (k + 1) A) (hgd : A.guards = some []) (e0 : Env0 P w K mg base A outer s H) (hb : BindsTo s fd args (ps.zip us)) (rv : Vals vs us)
    (body : ∀ cdv : Value, CodeOf K f cdv → RoomB cb k (A.deeper (envOfC qual (defScope st) s.heap.objs.size f cdv)) → (A.deeper (envOfC qual (defScope st) s.heap.objs.size f cdv)).guards = some [] →
      ∃ t, PSs (bodyX cb P w K mg base N qual st f cdv A outer s H E) (defBody st) t ∧ t { nx := fun _ H' => Q .non H', rt := Q } (L2.start N vs) H) : codeAny (model P w) A (.call (.ref f) args) (CR (CXd K P w) outer P w H s Q E) s := by
  obtain ⟨oc, od, dV, kV, doc, pm, an, cdv, ct, osl, rfl, lk, hcd, _, _⟩ := F.ex
  have inHeap : K.In s.heap := e0.mod.kin.keeps (fun b o q => (e0.bs b o q).1)
  have noLimit : s.heap.NoLimit := e0.mod.nolimit.keeps (fun b o q => (e0.bs b o q).1)
  refine codeAny_call_function hr.depth (inHeap f _ lk) rfl S.co S.gen rfl (PySem.W.codeRec_of inHeap hcd) (hb _ _ _ _ ?_)
  refine wpAny_newFunctionEnv_cells S.kind (fun y hy => ?_) (fun env henv s1 entered => ?_)
  · obtain ⟨n, v⟩ := y
    rcases S.par n (List.of_mem_zip hy).1 with hl | hc
    · exact Or.inl hl
    · exact Or.inr ⟨hc, PySem.W.cellsFrom_some _ _ _ (Or.inl hc)⟩
  · subst henv
    refine ⟨noLimit.keeps entered.toInCall.keep, codeAny_func ?_⟩
    obtain ⟨t, ht, hq⟩ := body cdv ⟨oc, od, _, osl, lk, rfl⟩ (hr.deeper _) hgd
    have e1 : Env0 P w K mg base ({ A with handled := none }) outer s H := ⟨e0.frames, e0.mod, e0.bs, e0.bsz, e0.funs, e0.frf, e0.hok, e0.bare⟩
    have J0 := inv_cool (A := A) (cb := cb) hr.hd_ rfl (A' := { A with handled := none }) (inv_start (A := { A with handled := none }) (CX := CXd K P w) (P := P) (w := w) (mg := mg) (base := base) (E := E) S rfl e1 lengths rv entered)
    refine wpAny_mono (ht.run [] s1 (L2.start N vs) H _ J0 hq) (fun fl s' done => ?_) (fun _ _ left => left)
    cases fl with
    | brk => obtain ⟨_, _, _, no⟩ := done; exact no.elim
    | cont => obtain ⟨_, _, _, no⟩ := done; exact no.elim
    | next =>
      obtain ⟨σ', H', J, q⟩ := done
      exact ⟨V.non, H', J.os, J.bare, J.base, J.hok, rfl, q⟩
    | ret u =>
      obtain ⟨v, σ', H', J, r, q⟩ := done
      exact ⟨v, H', J.os, J.bare, J.base, J.hok, r, q⟩
/-- .. by its body -/
theorem fn_goL {b : Bool} (sm : HasSm base) {x qual : Str} {st : Stmt} {f : Addr} {fd : FuncData} {N ps : List Str} {k j : Nat} {m : Phi → XS} {kws : List (Str × V)} (F : FnPk K x qual st kws f fd) (S : FnScope N ps (defScope st)) (hl : ps.length ≤ N.length)
    (body : ∀ (φ : Phi) (cdv : Value) (A : Around) (outer : List PySem.Env) (s : Shared) (H : Hp) (E : XK) (p : Par), SitB cb true (bodyX cb P w K mg base N qual st f cdv A outer s H E) p k → (∃ S L C, p.B0 = cB S L C ∧ p.SI = StI K S L C ∧ p.S = S) → (∀ i, p.pin i = none) →
      LiveZ (bodyX cb P w K mg base N qual st f cdv A outer s H E) p φ j → PSSD (bodyX cb P w K mg base N qual st f cdv A outer s H E) p (defBody st) (m φ)) :
    FnL cb P w K mg base (k + 1) j f fd ps b fun φ => fnGo b ps.length N.length (m φ) := by
  have hlen : ∀ φ Λ vs H Q E, spGL b K mg (fnGo b ps.length N.length (m φ)) Λ vs H Q E → vs.length = ps.length := by
    rintro φ Λ vs H Q E ⟨_, _, _, ws, _, _, _, _, _, e, _, _, rs, mm, _⟩
    cases b with
    | true => rw [e, List.length_append, rs.length, Nat.add_comm]; exact mm.1
    | false => rw [e, List.length_append, rs.length, Nat.add_comm]; exact mm.1
  refine ⟨hlen, fun φ A outer s H args us vs Q E hr hg e0 hb rv hsp => ?_⟩
  have hvl := hlen φ _ vs H Q E hsp
  obtain ⟨S1, L1, C1, ws, B, ds, c, Pd, XP, rfl, trk, si, rs, mm, LV, kq, ke⟩ := hsp
  have hlw := rs.length
  refine go_body F S hvl hr hg e0 hb rv fun cdv _ hr2 hg2 => ?_
  have ok : (parS K S1 L1 C1 H c B XP E).Ok K mg :=
    ⟨fun n H1 H2 h hk im => StI.same h hk im, fun n n' x cl d B1 H1 H' σ st _ hx hs he hr => ke x n' cl d H' hx (st.ext.trans he) hs (exrep_go (fun a z => z.elim (fun z => bm_more he.up a (st.subc a z)) .inr) hr)⟩
  have S' := sit_body (P := P) (w := w) (base := base) (mg := mg) (f := f) (outer := outer) (H := H) (p := parS K S1 L1 C1 H c B XP E) (E := E) S hr2 hg2 ok (fun _ _ _ _ h => h) rfl sm
  obtain ⟨ts, a1, a2⟩ := (body φ cdv A outer s H E _ S' ⟨S1, L1, C1, rfl, rfl, rfl⟩ (fun _ => rfl) ⟨rfl, rfl, S1, L1, C1, rfl, rfl, rfl, LV⟩).ex
  have e0' : ((if b = true then [Ent.stm] else []) ++ ds.map Ent.val).length = ((if b = true then [V.ref S1] else []) ++ ws).length := by
    cases b <;> simp [hlw]
  have mm' : (m φ (DL.start N.length ((if b = true then [Ent.stm] else []) ++ ds.map Ent.val))) c (fun o c' => endOf o c' Pd XP) XP := by
    cases b with
    | true => exact mm.2
    | false => exact mm.2
  refine ⟨ts, a1, a2 B H _ (DL.start N.length ((if b = true then [Ent.stm] else []) ++ ds.map Ent.val)) c (fun o c' => endOf o c' Pd XP) _ ⟨fun _ z => .inl z, trk, si, Ev.refl, fun _ z _ => .inl z⟩ ?_ mm' ?_ ?_ ?_ ?_⟩
  · refine env_start (by omega) e0'.symm (fun i e h => ?_) (fun i es h => ?_) rfl
    · cases b with
      | true =>
        cases i with
        | zero =>
          cases h
          exact ⟨_, rfl, .stm (p := parS K S1 L1 C1 H c B XP E)⟩
        | succ i => exact vals_at rs i e h
      | false => exact vals_at rs i e h
    · have no : ∀ i, (ds.map Ent.val)[i]? ≠ some (Ent.own es) := fun i h' => by
        rw [List.getElem?_map] at h'
        cases q : ds[i]? with
        | none => rw [q] at h'; cases h'
        | some d => rw [q] at h'; cases h'
      cases b with
      | true =>
        cases i with
        | zero => cases h
        | succ i => exact no i h
      | false => exact no i h
  · intro E' c' B' σ' H' m1 st1 t1 r1
    exact kq .none c' .non H' m1 st1.ext st1.si .non
  · intro d c' v H' m1 s1 e1 r1
    exact kq d c' v H' m1 e1 s1 r1
  · intro E' c' B' σ' H' m1
    exact m1.elim
  · intro E' c' B' σ' H' m1
    exact m1.elim
end
end DL
end
section
namespace DL
open PySem PySem.Spec PyProof.Rows L2
/-- the lambda's body's context, with own errors -/
abbrev lamX (X : Cx) (A : Around) (outer : List PySem.Env) (s : Shared) (H : Hp) (E : XK) (scope : Scope) (f d : Addr) : Cx :=
  (LamX.lamCx X A outer s H E scope f d).tr [] fun e s' => wpAny (model X.prog X.w) (A.deeper (LamX.lamEnv X scope s.heap.objs.size f d)) (leaving (LamX.lamEnv X scope s.heap.objs.size f d) e)
    (fun _ s2 => CXd X.K X.prog X.w outer H s E e s2) (fun x s2 => CXd X.K X.prog X.w outer H s E x s2) s'
/-- the def that runs is key, its code's table is known -/
def CodeIs (X : Cx) (key : Str) : Prop := ∃ c t, PySem.W.tabIn X.K key = some (c, t) ∧ LamX.TabB X.base X.mg c t ∧ X.env.code = .ref c
theorem hide_at {E : Env} {i : Nat} {e : Ent} (h : (hideE E)[i]? = some e) : e = .unk ∨ (E[i]? = some e ∧ ∀ ds, e ≠ .own ds) := by
  unfold hideE at h
  rw [List.getElem?_map] at h
  cases q : E[i]? with
  | none => rw [q] at h; cases h
  | some y =>
    rw [q] at h
    have h := Option.some.inj h
    cases y with
    | own _ => exact .inl h.symm
    | unk => exact .inl h.symm
    | val d => exact .inr ⟨by rw [← h], fun ds z => by rw [← h] at z; cases z⟩
    | stm => exact .inr ⟨by rw [← h], fun ds z => by rw [← h] at z; cases z⟩
    | scr ns => exact .inr ⟨by rw [← h], fun ds z => by rw [← h] at z; cases z⟩
section
variable {X : Cx} {p : Par} {k : Nat} {vb : Bool}
/-- only the table has changed -/
theorem lam_ev {S L C t : Addr} {key : Str} {c : Sx} {H H1 : Hp} (go : LamGo H t H1) (hmu : c.mu t = some (.tab key)) {rows : Array Value} (atT : H t = some (.tbl rows)) : EvB (cB S L C) c H c H1 := by
  have dom : ∀ a, H a ≠ none → H1 a ≠ none := fun a n => by
    by_cases e : a = t
    · rw [e]; exact go.tab
    · cases q : H a with
      | none => exact absurd q n
      | some o => rw [go.keep a o e q]; exact fun z => nomatch z
  refine ⟨⟨fun a o e n => go.keep a o (fun z => n (.inr (by rw [z, hmu]; exact fun z => nomatch z))) e, fun a o e i => go.keep a o (fun z => ?_) e, dom⟩, fun _ z => z, fun _ z _ => z, fun q a z => dom a (q a z)⟩
  rw [z, atT] at e
  cases e
  exact i
theorem lam_sti {K : PySem.W.Frag} {S L C t cd : Addr} {key : Str} {c : Sx} {H H1 : Hp} (si : StI K S L C c H) (go : LamGo H t H1) (hmu : c.mu t = some (.tab key)) (ht : PySem.W.tabIn K key = some (cd, t)) (T1 : LamX.TabS H1 t (lamQ key)) {rows : Array Value} (atT : H t = some (.tbl rows)) : StI K S L C c H1 := by
  have ev := lam_ev (S := S) (L := L) (C := C) go hmu atT
  refine ⟨si.str.same fun a o b e => go.keep a o (fun z => (si.at_ t _ hmu).1 (z ▸ b)) e, fun a x e => ⟨(si.at_ a x e).1, ?_⟩⟩
  by_cases q : a = t
  · subst q
    rw [hmu] at e
    cases e
    exact .tab ht T1
  · exact (si.at_ a x e).2.go (fun b o e i => ev.ext.imm b o e i) fun o e => go.keep a o q e
theorem pd_told (S : SitB true vb X p k) (Z : IsStr X.K p) {key : Str} (hC : CodeIs X key) {x a0 : Str} {g : Addr} {fd : FuncData} {fn : Phi → Fn} {jt j : Nat} (F : FnL true X.prog X.w X.K X.mg X.base jt (j + 1) g fd [a0] false fn) (hj : jt ≤ k) (D : Def X.K X.mg x g fd [a0])
    {params : Arguments} {body : Expr} {scope : Scope} {lpos pn pos : Pos} {m : XE} (L : LamX.LamS X.env.scope scope) (hbody : ∀ (A : Around) (outer : List PySem.Env) (s : Shared) (H : Hp) (E : XK) (f d : Addr) (p' : Par), SitB true true (lamX X A outer s H E scope f d) p' j → IsStr X.K p' → (∀ i, p'.pin i = none) → PD (lamX X A outer s H E scope f d) p' body m)
    (named : X.env.qual ++ "<lambda>" = lamQ key := by rfl) (noDef : defaultsOf params X.env = ([], []) := by rfl) (binds : ∀ (q : Str) (cl : List (Str × Addr)) (pm cv ctv : Value), bindArgs (PySem.W.kla_fn "<lambda>" q params body scope cl pm cv ctv) ⟨[], []⟩ = pure [] := by intros; rfl)
    (hg : Gl X x := by rfl) (hdb : (x == ("__debug__" : Str)) = false := by decide) : PD X p (.Call (.Name x pn) [.Lambda params body scope lpos] [] pos) (eTold key fn m) := by
  obtain ⟨S1, L1, C1, z1, z2, z3⟩ := Z
  obtain ⟨cd, t, ht, TB, hcode⟩ := hC
  refine ⟨fun σ H Q => ∃ B E c P, St0 p c B H ∧ EnvR X.K p c B H σ E ∧ eTold key fn m E c P p.XP ∧ ∀ d c' v H', P d c' → Ev p c H c' H' → p.SI c' H' → Rep X.K (bm p B c') H' v d → Q v H', ⟨fun pins s σ H Q I h => ?_⟩, fun B H σ E c P Q st r mm kk => ⟨B, E, c, P, st, r, mm, kk⟩⟩
  obtain ⟨B, E, c, P, st, r, ⟨⟨t', hmu⟩, mm⟩, kk⟩ := h
  have si := st.si
  rw [z2] at si
  have tt : t' = t ∧ LamX.TabS H t (lamQ key) := by
    cases (si.at_ t' _ hmu).2 with
    | tab h1 h2 =>
      rw [ht] at h1
      cases h1
      exact ⟨rfl, h2⟩
  obtain ⟨rfl, T⟩ := tt
  obtain ⟨rows, atT, _⟩ := id T
  have zb : ∀ c, bm p B c = bc B S1 L1 C1 c := fun c => by unfold bm bc; rw [z1]
  refine wpAny_Call_Name_kw (ld_glob I hg D.mg ?_ hdb)
  refine PySem.W.callWith_K (h₀ := X.base) I.ok.mod.kin D.kp ?_ (by rfl) (by rfl)
  show wpAny _ _ (spliced ((false, eval (.Lambda params body scope lpos) X.env) :: backTo pos (starEach [] X.env))) _ _ s
  refine Calls.spliced_cons (lam_new I TB hcode named T noDef (L.has I.ok) fun f d pm tv H1 s1 I1 go T1 hf hfn hfr hd => Calls.spliced_nil ⟨I1.kIn, ?_⟩)
  have ev : EvB (cB S1 L1 C1) c H c H1 := lam_ev go hmu atT
  have si1 : StI X.K S1 L1 C1 c H1 := lam_sti si go hmu ht T1 atT
  have trk1 : ∀ a, bc B S1 L1 C1 c a → H1 a ≠ none := fun a z => ev.ext.dom a (st.trk a (by rw [zb]; exact z))
  have bound := D.bd s1 [.ref f] I1.kIn rfl
  rw [List.append_nil] at bound
  -- the lambda keeps its promise
  have live : Live X.prog X.w X.K X.mg X.base (j + 1) S1 L1 C1 (phi1 f fun ds => match ds with | [] => m (hideE E) | _ => stuck) X.stack s1 H1 c B := by
    intro a m0 ea
    have ha : f = a ∧ m0 = fun ds => match ds with | [] => m (hideE E) | _ => stuck := by
      unfold phi1 at ea
      split at ea
      · rename_i e
        exact ⟨e.symm, (Option.some.inj ea).symm⟩
      · cases ea
    obtain ⟨rfl, rfl⟩ := ha
    refine ⟨hfn, hfr, ⟨_, _, _, _, hf⟩, fun A outer' s' H' us vs Q' E' hr hgd e0 un rv sp => ?_⟩
    obtain ⟨B2, ds, c2, P2, XP2, old, ev2, trk2, si2, rs, mm2, kq, ke⟩ := sp
    cases ds with
    | cons _ _ => exact mm2.elim
    | nil =>
    cases rs
    cases rv
    have thereF := un.keep _ _ hf hfn hfr (by simp)
    have codeD := ev2.ext.imm d _ hd True.intro
    obtain ⟨⟨oc, vc, tq, hoc, hdc, hvc⟩, _⟩ := e0.hok d _ codeD
    have noLimit : s'.heap.NoLimit := e0.mod.nolimit.keeps fun b o e => (e0.bs b o e).1
    refine PySem.W.kla_callFunE hr.depth thereF rfl L.co L.gen rfl ⟨d, oc, vc, tq, rfl, hoc, hdc, hvc⟩ ?_
    rw [binds]
    apply wpAny_pure
    refine wpAny_newFunctionEnv (fun y hy => (L.own y hy).2) (fun y hy => absurd hy List.not_mem_nil) ?_ L.kind
    intro h1 hns later
    refine ⟨noLimit.fresh _ later, ?_⟩
    rw [← named]
    show codeAny _ _ (.expr body (LamX.lamEnv X scope s'.heap.objs.size f d)) _ _
    have keep : ∀ b o, s'.heap.get? b = some o → h1.get? b = some o := fun b o e => later.extBut b o (Nat.ne_of_lt (Heap.lt_size e)) (Heap.get?_push_of_some _ e)
    have J := (LamX.lam_start2 (f := f) (c' := d) (E := E') (tk := s'.toks + ([] : List (Str × Value)).length) I1 L e0 (hr.hd_ rfl) un hns keep).toTry
      (fun e s3 => wpAny (model X.prog X.w) (A.deeper (LamX.lamEnv X scope s'.heap.objs.size f d)) (leaving (LamX.lamEnv X scope s'.heap.objs.size f d) e) (fun _ s2 => CXd X.K X.prog X.w outer' H' s' E' e s2) (fun x s2 => CXd X.K X.prog X.w outer' H' s' E' x s2) s3)
    have ok : (parS X.K S1 L1 C1 H' c2 B2 XP2 E').Ok X.K X.mg :=
      ⟨fun n H1 H2 h hk im => StI.same h hk im, fun n n' x cl d B1 H1 H' σ st _ hx hs he hr => ke x n' cl d H' hx (st.ext.trans he) hs (exrep_go (fun a z => z.elim (fun z => bm_more he.up a (st.subc a z)) .inr) hr)⟩
    have S2 : SitB true true (lamX X A outer' s' H' E' scope f d) (parS X.K S1 L1 C1 H' c2 B2 XP2 E') j :=
      { calm_ := fun _ => rfl, gd := hgd, rm := hr.deeper _, nd := S.nd, ok := ok, po := passes_of rfl, tk := (takes_ofD (E := E') rfl rfl rfl rfl).imp fun _ _ _ _ h => h, nf_ := fun _ => rfl, sm := S.sm }
    obtain ⟨tb, b1, b2⟩ := (hbody A outer' s' H' E' f d _ S2 ⟨S1, L1, C1, rfl, rfl, rfl⟩ fun _ => rfl).ex
    have ev3 := ev.trans ev2
    have tr : Tr (bm p B c) H (bm (parS X.K S1 L1 C1 H' c2 B2 XP2 E') B2 c2) H' := by
      refine ⟨ev3.ext.more fun a z => .inr (by rw [z1]; exact z), fun a z n => ?_⟩
      rw [zb]
      rcases z with z | z
      · exact old a z (ev.ext.dom a n)
      · exact .inr (ev3.old a z n)
    have r2 : EnvR X.K (parS X.K S1 L1 C1 H' c2 B2 XP2 E') c2 B2 H' σ (hideE E) := by
      refine ⟨by rw [r.len]; unfold hideE; rw [List.length_map], fun i e h => ?_, fun i j a xs ys h _ _ _ => ?_, .no rfl, fun i a xs h _ => by cases h⟩
      · have hi : i < σ.length := by
          have q := (List.getElem?_eq_some_iff.mp h).1
          unfold hideE at q
          rw [List.length_map] at q
          rw [r.len]
          exact q
        rcases hide_at h with rfl | ⟨h2, no⟩
        · exact ⟨_, List.getElem?_eq_getElem hi, .unk _⟩
        · obtain ⟨sl, g1, g2⟩ := r.at_ i e h2
          refine ⟨sl, g1, ?_⟩
          cases g2 with
          | unk _ => exact .unk _
          | val q => exact .val (q.tr tr)
          | own _ _ _ _ _ _ => exact absurd rfl (no _)
          | stm => rw [z3]; exact .stm (p := parS X.K S1 L1 C1 H' c2 B2 XP2 E')
          | scr q => exact .scr fun H2 hk => q H2 fun o ho hi => hk o (ev3.ext.imm _ o ho hi) hi
      · rcases hide_at h with h | ⟨_, h⟩
        · cases h
        · exact absurd rfl (h _)
    refine PySem.W.kla_codeExpr (wpAny_mono (b1.run _ _ σ H' Q' J (b2 B2 H' σ (hideE E) c2 P2 Q' ⟨fun _ z => .inl z, trk2, si2, Ev.refl, fun _ z _ => .inl z⟩ r2 mm2 fun d' c' v H2 pd e2 s2 rd => kq d' c' v H2 pd e2 s2 rd)) (fun v s3 hq => ?_) fun e s3 hq => hq)
    obtain ⟨v', H3, J3, rv3, q3⟩ := hq
    exact ⟨v', H3, J3.os, J3.bare, J3.base, J3.hok, rv3, q3⟩
  refine wpAny_call (codeAny_mono (F.go _ X.A X.stack s1 H1 ⟨[.ref f], []⟩ [.ref f] [.ref f] Q (p.EK σ) (S.rm.mono hj) S.gd I1.env0 bound (.cons rfl .nil)
    ⟨S1, L1, C1, [.ref f], B, [rD f], c, P, p.XP, rfl, trk1, si1, .cons (.rf f) .nil, mm f, live, fun d' c2 v H2 pd e2 s2 rd => ?_, fun y c2 cl dd H2 hx e2 s2 hr => ?_⟩) fun res s2 hq => ?_)
  · rw [← zb] at rd
    rw [← z2] at s2
    have e3 := ev.trans e2
    rw [← z1] at e3
    exact kk d' c2 v H2 pd e3 s2 rd
  · rw [← zb] at hr
    rw [← z2] at s2
    have e3 := ev.trans e2
    rw [← z1] at e3
    exact S.ok.exc c c2 y cl dd B H H2 σ st r.fx hx s2 e3 hr
  · match res, hq with
    | .error x, hq => exact S.ps σ pins H1 s1 x s2 I1 hq
    | .ok (.ret u), hq => exact I1.after hq
    | .ok .next, hq => exact hq.elim
    | .ok .brk, hq => exact hq.elim
    | .ok .cont, hq => exact hq.elim
end
end DL
end
section
namespace DL
open PySem PySem.Spec PyProof.Rows L2
/-- the defs ks have codes with tables, no two the same -/
structure TabF (K : PySem.W.Frag) (mg : Str → Option Value) (base : Heap) (ks : List Str) : Prop where
  ok : ∀ x ∈ ks, ∃ c t, PySem.W.tabIn K x = some (c, t) ∧ LamX.TabB base mg c t
  one : ∀ x ∈ ks, ∀ y ∈ ks, ∀ c d t, PySem.W.tabIn K x = some (c, t) → PySem.W.tabIn K y = some (d, t) → x = y
/-- .. and nothing is in them yet -/
def spLawT (K : PySem.W.Frag) (ks : List Str) : Sp := fun vs H Q E => spLaw K vs H Q E ∧ ∀ x ∈ ks, ∀ c t, PySem.W.tabIn K x = some (c, t) → H t = some (.tbl #[])
def tabHas (K : PySem.W.Frag) (a : Addr) (x : Str) : Bool := match PySem.W.tabIn K x with
  | some (_, t) => t == a
  | none => false
/-- the cells at the start -/
def muT (K : PySem.W.Frag) (ks : List Str) : Nat → Option Cell := fun a => (ks.find? (tabHas K a)).map .tab
theorem tabHas_of {K : PySem.W.Frag} {a : Addr} {x : Str} (h : tabHas K a x = true) : ∃ c, PySem.W.tabIn K x = some (c, a) := by
  unfold tabHas at h
  split at h
  · rename_i c t e
    exact ⟨c, by rw [e, eq_of_beq h]⟩
  · cases h
theorem muT_at {K : PySem.W.Frag} {ks : List Str} {a : Nat} {x : Cell} (h : muT K ks a = some x) : ∃ y ∈ ks, x = .tab y ∧ ∃ c, PySem.W.tabIn K y = some (c, a) := by
  unfold muT at h
  obtain ⟨y, h1, h2⟩ := Option.map_eq_some_iff.mp h
  exact ⟨y, List.mem_of_find?_eq_some h1, h2.symm, tabHas_of (List.find?_some h1)⟩
theorem muT_has {K : PySem.W.Frag} {mg : Str → Option Value} {base : Heap} {ks : List Str} (T : TabF K mg base ks) {x : Str} (hx : x ∈ ks) : ∃ t, muT K ks t = some (.tab x) := by
  obtain ⟨c, t, e, _⟩ := T.ok x hx
  refine ⟨t, ?_⟩
  have h0 : tabHas K t x = true := by unfold tabHas; rw [e]; exact beq_self_eq_true t
  have h1 : (ks.find? (tabHas K t)).isSome = true := List.find?_isSome.mpr ⟨x, hx, h0⟩
  obtain ⟨y, hy⟩ := Option.isSome_iff_exists.mp h1
  obtain ⟨d, hd⟩ := tabHas_of (List.find?_some hy)
  have := T.one x hx y (List.mem_of_find?_eq_some hy) c d t e hd
  unfold muT
  rw [hy, this]
  rfl
/-- the def that runs -/
theorem codeIs_of {X : Cx} {ks : List Str} {x : Str} (T : TabF X.K X.mg X.base ks) (hx : x ∈ ks) {f : Addr} {cdv : Value} (hc : CodeOf X.K f cdv) (hf : f = He.ga X.K x) (he : X.env.code = cdv) : CodeIs X x := by
  obtain ⟨c, t, e, tb⟩ := T.ok x hx
  refine ⟨c, t, e, tb, ?_⟩
  obtain ⟨oc, od, fd, osl, lk, rfl⟩ := hc
  rw [he]
  unfold PySem.W.tabIn at e
  unfold He.ga at hf
  split at e
  · rename_i f' h1
    rw [h1] at hf
    have hf : f = f' := hf
    subst hf
    rw [lk] at e
    simp only at e
    split at e
    · rename_i c' h2
      split at e
      · split at e
        · cases e
          exact h2
        · cases e
      · cases e
    · cases e
  · cases e
section
variable {P : Program} {w : World} {K : PySem.W.Frag} {mg : Str → Option Value} {base : Heap}
/-- a def by its words, its own code known -/
theorem fn_goC {cb b : Bool} (sm : HasSm base) {x qual : Str} {st : Stmt} {f : Addr} {fd : FuncData} {N ps : List Str} {k : Nat} {m : XS} {kws : List (Str × V)} (F : FnPk K x qual st kws f fd) (S : FnScope N ps (defScope st)) (hl : ps.length ≤ N.length)
    (body : ∀ (cdv : Value) (A : Around) (outer : List PySem.Env) (s : Shared) (H : Hp) (E : XK) (p : Par), CodeOf K f cdv → SitB cb true (bodyX cb P w K mg base N qual st f cdv A outer s H E) p k → (∃ S L C, p.B0 = cB S L C ∧ p.SI = StI K S L C ∧ p.S = S) → (∀ i, p.pin i = none) → PSSD (bodyX cb P w K mg base N qual st f cdv A outer s H E) p (defBody st) m) :
    FnG cb P w K mg base (k + 1) f fd ps (spG b K mg (fnGo b ps.length N.length m)) := by
  have hlen : ∀ vs H Q E, spG b K mg (fnGo b ps.length N.length m) vs H Q E → vs.length = ps.length := by
    rintro vs H Q E ⟨_, _, _, ws, _, _, _, _, _, e, _, _, rs, mm, _⟩
    cases b with
    | true => rw [e, List.length_append, rs.length, Nat.add_comm]; exact mm.1
    | false => rw [e, List.length_append, rs.length, Nat.add_comm]; exact mm.1
  refine ⟨hlen, fun A outer s H args us vs Q E hr hg e0 hb rv hsp => ?_⟩
  have hvl := hlen vs H Q E hsp
  obtain ⟨S1, L1, C1, ws, B, ds, c, Pd, XP, rfl, trk, si, rs, mm, kq, ke⟩ := hsp
  have hlw := rs.length
  refine go_body F S hvl hr hg e0 hb rv fun cdv hcd hr2 hg2 => ?_
  have ok : (parS K S1 L1 C1 H c B XP E).Ok K mg :=
    ⟨fun n H1 H2 h hk im => StI.same h hk im, fun n n' x cl d B1 H1 H' σ st _ hx hs he hr => ke x n' cl d H' hx (st.ext.trans he) hs (exrep_go (fun a z => z.elim (fun z => bm_more he.up a (st.subc a z)) .inr) hr)⟩
  have S' := sit_body (P := P) (w := w) (base := base) (mg := mg) (f := f) (outer := outer) (H := H) (p := parS K S1 L1 C1 H c B XP E) (E := E) S hr2 hg2 ok (fun _ _ _ _ h => h) rfl sm
  obtain ⟨ts, a1, a2⟩ := (body cdv A outer s H E _ hcd S' ⟨S1, L1, C1, rfl, rfl, rfl⟩ fun _ => rfl).ex
  have e0' : ((if b = true then [Ent.stm] else []) ++ ds.map Ent.val).length = ((if b = true then [V.ref S1] else []) ++ ws).length := by
    cases b <;> simp [hlw]
  have mm' : (m (DL.start N.length ((if b = true then [Ent.stm] else []) ++ ds.map Ent.val))) c (fun o c' => endOf o c' Pd XP) XP := by
    cases b with
    | true => exact mm.2
    | false => exact mm.2
  refine ⟨ts, a1, a2 B H _ (DL.start N.length ((if b = true then [Ent.stm] else []) ++ ds.map Ent.val)) c (fun o c' => endOf o c' Pd XP) _ ⟨fun _ z => .inl z, trk, si, Ev.refl, fun _ z _ => .inl z⟩ ?_ mm' ?_ ?_ ?_ ?_⟩
  · refine env_start (by omega) e0'.symm (fun i e h => ?_) (fun i es h => ?_) rfl
    · cases b with
      | true =>
        cases i with
        | zero =>
          cases h
          exact ⟨_, rfl, .stm (p := parS K S1 L1 C1 H c B XP E)⟩
        | succ i => exact vals_at rs i e h
      | false => exact vals_at rs i e h
    · have no : ∀ i, (ds.map Ent.val)[i]? ≠ some (Ent.own es) := fun i h' => by
        rw [List.getElem?_map] at h'
        cases q : ds[i]? with
        | none => rw [q] at h'; cases h'
        | some d => rw [q] at h'; cases h'
      cases b with
      | true =>
        cases i with
        | zero => cases h
        | succ i => exact no i h
      | false => exact no i h
  · intro E' c' B' σ' H' m1 st1 t1 r1
    exact kq .none c' .non H' m1 st1.ext st1.si .non
  · intro d c' v H' m1 s1 e1 r1
    exact kq d c' v H' m1 e1 s1 r1
  · intro E' c' B' σ' H' m1
    exact m1.elim
  · intro E' c' B' σ' H' m1
    exact m1.elim
/-- the law's def -/
theorem fn_lawT (sm : HasSm base) {ks : List Str} (TF : TabF K mg base ks) {x qual : Str} {st : Stmt} {f fM : Addr} {fd fdM : FuncData} {N : List Str} {x0 : Str} {j k i : Nat} {m : XS} (F : FnP K x qual st f fd) (S : FnScope N [x0] (defScope st)) (hi : i < N.length) (h0 : 0 < N.length)
    (G : FnG true P w K mg base j fM fdM [x0] (spMake K)) (hj : j ≤ k)
    (body : ∀ (cdv : Value) (A : Around) (outer : List PySem.Env) (s : Shared) (H : Hp) (E : XK), CodeOf K f cdv → ∃ rest,
      (∀ ts, (RoomB true k (bodyX true P w K mg base N qual st f cdv A outer s H E).A → (bodyX true P w K mg base N qual st f cdv A outer s H E).A.guards = some [] → (∀ σ, PassesAt (CXd K P w) (bodyX true P w K mg base N qual st f cdv A outer s H E) σ E) → PSs (bodyX true P w K mg base N qual st f cdv A outer s H E) rest ts →
        PSs (bodyX true P w K mg base N qual st f cdv A outer s H E) (defBody st) (tSeq (tAsg (tCallSD (spMake K) [] (fun _ => E) (tCons (tVar 0) tNil)) (gName i)) ts))) ∧
      ∀ (p : Par), Sit (bodyX true P w K mg base N qual st f cdv A outer s H E) p k → IsStr K p → (∀ i, p.pin i = none) → PSSD (bodyX true P w K mg base N qual st f cdv A outer s H E) p rest m)
    (math : ∀ mu : Nat → Option Cell, (∀ x ∈ ks, ∃ t, mu t = some (.tab x)) → (∀ a y, mu a = some y → ∃ x, y = .tab x) → m (lawE N.length i) ⟨0, mu⟩ (fun o _ => o = .rt (.bool true)) fun _ _ => False) : FnG true P w K mg base (k + 1) f fd [x0] (spLawT K ks) := by
  refine ⟨fun vs H Q E ⟨⟨_, _, e, _⟩, _⟩ => by rw [e]; rfl, fun A outer s H args us vs Q E hr hg e0 hb rv hsp => ?_⟩
  obtain ⟨⟨a, ns, rfl, hn, hS, kq⟩, hT⟩ := hsp
  refine go_body F S rfl hr hg e0 hb rv fun cdv hcd hr hg => ?_
  obtain ⟨rest, mk, hb⟩ := body cdv A outer s H E hcd
  refine ⟨_, mk _ hr hg (fun σ => passes_callD (E := E) (takes_ofD rfl rfl rfl rfl) (fun _ _ _ _ h => h) σ) pss_any, ?_⟩
  have e0 : (L2.start N [V.ref a])[0]? = some (some (.ref a)) := rfl
  refine ⟨.ref a, e0, a, ns, rfl, hn, hS, fun S1 L1 C1 H1 al si => ?_⟩
  let c0 : Sx := ⟨0, muT K ks⟩
  have okp : (parS K S1 L1 C1 H1 c0 nB (fun _ _ => False) E).Ok K mg :=
    ⟨fun n Ha Hb h hk im => StI.same h hk im, fun _ _ _ _ _ _ _ _ _ _ _ z => z.elim⟩
  have sti : StI K S1 L1 C1 c0 H1 := by
    refine ⟨si, fun a x e => ?_⟩
    obtain ⟨y, hy, rfl, c, ht⟩ := muT_at e
    have e1 := al _ _ (hT y hy c a ht)
    refine ⟨fun z => ?_, .tab ht (LamX.TabS.nil e1)⟩
    obtain ⟨ls, cs, tt, _, g1, g2, g3, _⟩ := si.ex
    rcases z with rfl | rfl | rfl
    · rw [g1] at e1; cases e1
    · rw [g2] at e1; cases e1
    · rw [g3] at e1; cases e1
  have S' := sit_body (P := P) (w := w) (base := base) (mg := mg) (f := f) (outer := outer) (H := H) (p := parS K S1 L1 C1 H1 c0 nB (fun _ _ => False) E) (E := E) S hr hg okp (fun _ _ _ _ h => h) rfl sm
  obtain ⟨ts, t1, t2⟩ := (hb _ S' ⟨S1, L1, C1, rfl, rfl, rfl⟩ fun _ => rfl).ex
  refine ⟨ts, t1, ?_⟩
  have l1 : (L2.start N [V.ref a]).length = N.length := by
    unfold L2.start
    rw [List.length_append, List.length_map, List.length_replicate, List.length_singleton]
    omega
  refine t2 nB H1 _ (lawE N.length i) c0 (fun o _ => o = .rt (.bool true)) _ ⟨fun _ z => .inl z, fun a z => z.elim (fun z => z.elim) fun z => sti.there z, sti, Ev.refl, fun _ z => z.elim⟩ ⟨?_, fun q e h => ?_, fun q r b xs ys h => ?_, .no rfl, fun j a xs z _ => by cases z⟩ (math _ (fun x hx => muT_has TF hx) fun a y e => let ⟨y, _, h, _⟩ := muT_at e; ⟨y, h⟩) ?_ ?_ ?_ ?_
  · unfold lawE
    rw [List.length_set, List.length_set, l1, List.length_replicate]
  · unfold lawE at h
    rw [List.getElem?_set] at h ⊢
    by_cases hq : i = q
    · rw [if_pos hq] at h ⊢
      rw [List.length_replicate, if_pos hi] at h
      rw [l1, if_pos hi]
      cases h
      exact ⟨_, rfl, .stm (p := parS K S1 L1 C1 H1 c0 nB (fun _ _ => False) E)⟩
    · rw [if_neg hq] at h ⊢
      rw [List.getElem?_replicate] at h
      split at h
      · cases h
        rename_i hlt
        exact ⟨_, List.getElem?_eq_getElem (by rw [l1]; exact hlt), .unk _⟩
      · cases h
  · unfold lawE at h
    rw [List.getElem?_set] at h
    by_cases hq : i = q
    · rw [if_pos hq] at h
      split at h <;> cases h
    · rw [if_neg hq, List.getElem?_replicate] at h
      split at h <;> cases h
  · rintro E' c' B' σ' H' h; cases h
  · intro d c' v H' h _ _ rv
    cases h
    cases rv
    exact kq H'
  · rintro E' c' B' σ' H' h; cases h
  · rintro E' c' B' σ' H' h; cases h
end
end DL
end
section
namespace DL
open PySem PySem.Spec PyProof.Rows L2
/-- what the head tells of a def's table -/
def TabH (K : PySem.W.Frag) (h : Heap) (x : Str) : Prop := ∃ c t, PySem.W.tabIn K x = some (c, t) ∧ PySem.W.codeHdIn K c t = true ∧ h.get? t = some (PySem.W.tabObj #[]) ∧ K.lookup t = none
section
variable {P : Program} {w : World} {K : PySem.W.Frag} {mg mb : Str → Option Value}
theorem enter_lawT {k : Nat} {f a : Addr} {fd : FuncData} {x : Str} {ks : List Str} {s : Shared} {us : List Value} {ns : List Int} (inK : K.In s.heap) (g : s.heap.Ns mainGlobals mg) (b : s.heap.Ns builtinsNs mb) (bb : ∀ y : Str, y ≠ "__name__" → mb y = bootBuiltins y)
    (lim : s.heap.NoLimit) (noGens : s.gens = #[]) (bmn : ∃ (bm : Addr) (ob : Obj), mg "__builtins__" = some (.ref bm) ∧ bm ≠ builtinsNs ∧ s.heap.get? bm = some ob ∧ ob.cls = .type "module" ∧ ob.dict = some builtinsNs ∧ ob.data = .plain)
    (hObj : s.heap.get? a = some { cls := .type "list", data := .seq us.toArray }) (isI : IntsAre us ns) (few : ns.length ≤ 63) (room : Room k callerA) (tabs : ∀ x ∈ ks, TabH K s.heap x) (one : ∀ x ∈ ks, ∀ y ∈ ks, ∀ c d t, PySem.W.tabIn K x = some (c, t) → PySem.W.tabIn K y = some (d, t) → x = y)
    (G : ∀ bh : Heap, K.In bh → bh.Ns mainGlobals mg → TabF K mg bh ks → FnG true P w K mg bh k f fd [x] (spLawT K ks)) (binds : ∀ (t : Shared) (u : Value), BindsTo t fd ⟨[u], []⟩ [(x, u)]) :
    codeAny (model P w) callerA (.call (.ref f) ⟨[.ref a], []⟩) (fun r t => r = .ok (.ret (.bool true)) ∧ OldK s.heap t.heap ∧ t.os = s.os ∧ AllBare t.gens) s := by
  have vals := vals_ints isI
  have fewL : ns.length ≤ sizeLine := Nat.le_trans few (by rw [sizeLine_eq]; decide)
  have lens := isI.length
  classical
  let isT : Addr → Prop := fun t => ∃ x ∈ ks, ∃ c, PySem.W.tabIn K x = some (c, t)
  have atT : ∀ t, isT t → s.heap.get? t = some (PySem.W.tabObj #[]) ∧ K.lookup t = none := fun t ⟨x, hx, c, e⟩ => by
    obtain ⟨c', t', e', _, h1, h2⟩ := tabs x hx
    rw [e] at e'
    cases e'
    exact ⟨h1, h2⟩
  have aT : ¬ isT a := fun z => by
    have h := (atT a z).1
    rw [hObj] at h
    have h3 : Data.seq us.toArray _ = Data.fields #[] := congrArg Obj.data (Option.some.inj h)
    cases h3
  let fz : HO := .frz { cls := .type "list", data := .seq us.toArray } (.lst (ns.map V.int))
  let H : Hp := fun c => if isT c then some (.tbl #[]) else if c = a ∧ K.lookup a = none then some fz else none
  have Hin : ∀ c o, H c = some o → (isT c ∧ o = .tbl #[]) ∨ (c = a ∧ K.lookup a = none ∧ o = fz) := fun c o h => by
    by_cases ht : isT c
    · have z := (if_pos ht).symm.trans h
      cases z
      exact .inl ⟨ht, rfl⟩
    · have h := (if_neg ht).symm.trans h
      by_cases hc : c = a ∧ K.lookup a = none
      · have z := (if_pos hc).symm.trans h
        cases z
        exact .inr ⟨hc.1, hc.2, rfl⟩
      · have z := (if_neg hc).symm.trans h
        cases z
  have Hno : ∀ c, ¬ isT c → (c ≠ a ∨ K.lookup a ≠ none) → H c = none := fun c ht h => (if_neg ht).trans (if_neg fun z => h.elim (fun q => q z.1) fun q => q z.2)
  have seqA : ∀ H' : Hp, (∀ o, H a = some o → Imm o → H' a = some o) → SqL K H' a (ns.map V.int) := by
    intro H' hk
    cases q : K.lookup a with
    | none => exact .inl (.inr ⟨_, hk fz ((if_neg aT).trans (if_pos ⟨rfl, q⟩)) True.intro⟩)
    | some o =>
      have e := inK a o q
      rw [hObj] at e
      cases e
      exact .inr ⟨_, us.toArray, _, q, rfl, rfl, rfl, by rw [List.size_toArray, lens]; exact fewL, by simpa using vals⟩
  have kept : ∀ {c : Addr} {o : Obj}, s.heap.get? c = some o → H c = none → (hidT s.heap H).get? c = some o := fun h1 h2 => hidT_get h1 h2
  -- what is neither a sequence nor a table is not hidden
  have other : ∀ {c : Addr} {o : Obj}, s.heap.get? c = some o → (∀ vs n, o.data ≠ .seq vs n) → o.cls ≠ .none → H c = none := fun {c o} h1 h2 h3 => Hno c (fun z => by
    have h := (atT c z).1
    rw [h1] at h
    cases h
    exact h3 rfl) (.inl fun z => by
    rw [z, hObj] at h1
    cases h1
    exact h2 _ _ rfl)
  have dictNo : ∀ {c : Addr} {o : Obj} {es : Array DictEntry} {n : Nat}, s.heap.get? c = some o → o.data = .dict es n → H c = none := fun {c o es n} h1 h2 => Hno c (fun z => by
    have h := (atT c z).1
    rw [h1] at h
    cases h
    cases h2) (.inl fun z => by
    rw [z, hObj] at h1
    cases h1
    have h3 : Data.seq us.toArray _ = Data.dict es n := h2
    cases h3)
  have nsTo : ∀ {c : Addr} {m : Str → Option Value}, s.heap.Ns c m → (hidT s.heap H).Ns c m := fun {c m} ⟨o, es, n, h1, h2, h3⟩ => ⟨o, es, n, kept h1 (dictNo h1 h2), h2, h3⟩
  have inB : K.In (hidT s.heap H) := fun c o h => kept (inK c o h) (Hno c (fun z => by rw [(atT c z).2] at h; cases h) (by
    by_cases z : c = a
    · exact .inr (by rw [← z, h]; exact fun q => nomatch q)
    · exact .inl z))
  have md : Mod K mg (hidT s.heap H) := ⟨inB, nsTo g, ⟨mb, nsTo b, bb⟩, let ⟨m2, y1, y2⟩ := lim; ⟨m2, nsTo y1, y2⟩⟩
  have good : HOk P w H s.heap := fun c o h => by
    rcases Hin c o h with ⟨ht, rfl⟩ | ⟨rfl, _, rfl⟩
    · exact (atT c ht).1
    · exact ⟨hObj, by rw [List.length_map]; exact fewL, us, _, vals, hObj⟩
  have start0 : Env0 P w K mg (hidT s.heap H) callerA [] s H := ⟨rfl, md, fun c o h => of_hidT h, Nat.le_of_eq (hidT_size _ _), trivial, fun c hc => (nomatch hc), good, .of_eq noGens⟩
  have TF : TabF K mg (hidT s.heap H) ks := by
    refine ⟨fun x hx => ?_, one⟩
    obtain ⟨c, t, e, h1, h2, h3⟩ := tabs x hx
    refine ⟨c, t, e, PySem.W.codeHd_of_K inB h1, ?_, fun z => ?_⟩
    · obtain ⟨bm, ob, b1, b2, b3, b4, b5, b6⟩ := bmn
      refine ⟨bm, ob, b1, b2, fun q => ?_, fun q => ?_, kept b3 (other b3 (fun vs n z => by rw [b6] at z; cases z) (by rw [b4]; exact fun z => nomatch z)), b4, b5, b6⟩
      · obtain ⟨o, es, ep, e1, hd, _⟩ := g
        rw [q, e1] at b3
        cases b3
        rw [hd] at b6
        cases b6
      · rw [q, h2] at b3
        cases b3
        cases b6
    · obtain ⟨o, es, ep, e1, hd, _⟩ := g
      rw [z, h2] at e1
      cases e1
      cases hd
  have asked : spLawT K ks [.ref a] H (fun v _ => v = .bl true) fun _ _ _ => False := ⟨⟨a, ns, rfl, few, seqA, fun _ => rfl⟩, fun x hx c t e => if_pos ⟨x, hx, c, e⟩⟩
  have ran := (G _ inB (nsTo g) TF).go callerA [] s H ⟨[.ref a], []⟩ [.ref a] [.ref a] _ _ (.of room) rfl start0 (binds s (.ref a)) (.cons rfl .nil) asked
  refine codeAny_mono ran fun r t h => ?_
  match r, h with
  | .error e, h =>
    exact (no_cxD (fun _ _ _ z => z) h).elim
  | .ok (.ret u), h =>
    obtain ⟨v, H2, os2, bare2, un2, ok2, rel2, veq⟩ := h
    have veq' : v = .bl true := veq
    rw [veq'] at rel2
    have ueq : u = Value.bool true := rel2
    rw [ueq]
    have keep2 : ∀ c o, ¬ isT c → s.heap.get? c = some o → t.heap.get? c = some o := fun c o nt hc => by
      cases q : H c with
      | none => exact un2.keep c o hc q (fun z => (nomatch z)) (fun z => (nomatch z))
      | some o2 =>
        rcases Hin c o2 q with ⟨ht, _⟩ | ⟨rfl, _, rfl⟩
        · exact absurd ht nt
        · obtain ⟨g1, _⟩ := good c _ q
          obtain ⟨g2, _⟩ := ok2 c _ (un2.frzs c _ _ q)
          rw [hc] at g1
          cases g1
          exact g2
    have grown : ∀ c, isT c → ∃ rows : Array Value, t.heap.get? c = some (PySem.W.tabObj rows) := fun c ht => by
      obtain ⟨more, z⟩ := un2.tbls c #[] (if_pos ht)
      exact ⟨_, ok2 c _ z⟩
    refine ⟨rfl, ⟨fun c o hc => ?_, fun c o hc => ?_⟩, os2, bare2⟩
    · by_cases ht : isT c
      · obtain ⟨rows, hr⟩ := grown c ht
        have h0 := (atT c ht).1
        rw [hc] at h0
        cases h0
        obtain ⟨x, hx, d, e⟩ := ht
        obtain ⟨d', c', e', h1, h2, h3⟩ := tabs x hx
        rw [e] at e'
        cases e'
        refine .inr (.inl ⟨((PySem.W.codeHd_of_K inK h1).tab h2).isCodeTable, rfl, #[], rows, rfl, ?_⟩)
        rw [Array.empty_append]
        exact hr
      · exact .inl (keep2 c o ht hc)
    · by_cases ht : isT c
      · obtain ⟨rows, hr⟩ := grown c ht
        exact ⟨_, hr⟩
      · exact ⟨o, keep2 c o ht hc⟩
  | .ok .next, h => exact h.elim
  | .ok .brk, h => exact h.elim
  | .ok .cont, h => exact h.elim
end
theorem walk_lawT {l : PySem.W.OpenLaw} {k : Nat} {q : Program} {loose : List Str} {XP : (Str → Option Value) → Heap → Prop} {YP : World → Heap → Prop} {d : DefRec} {x : Str} {ks : List Str} (hn : l.most = some 63) (hdf : d.params.defaults = []) (room : Room k callerA)
    (F : ∀ (w : World) (mg : Str → Option Value) (f : Addr) (h : Heap), YP w h → h.Ns mainGlobals mg → mg d.name = some (.ref f) →
      ∃ (K : PySem.W.Frag) (fd : FuncData), K.In h ∧ (∀ x ∈ ks, TabH K h x) ∧ (∀ x ∈ ks, ∀ y ∈ ks, ∀ c d t, PySem.W.tabIn K x = some (c, t) → PySem.W.tabIn K y = some (d, t) → x = y) ∧ (∀ (t : Shared) (u : Value), BindsTo t fd ⟨[u], []⟩ [(x, u)]) ∧
        ∀ bh : Heap, K.In bh → bh.Ns mainGlobals mg → TabF K mg bh ks → FnG true l.prog w K mg bh k f fd [x] (spLawT K ks)) :
    PySem.W.WalkO q loose XP YP l.row.toRowW d [] (fun f vs => PySem.call f vs) := by
  refine Att.attach_call hn hdf fun w s0 s mg mb f o pm cd doc a us ns gr Y _ _ _ hmg hObj isI few noGens => ?_
  obtain ⟨K, fd, inK, tabs, one, bd, G⟩ := F w mg f _ Y gr.T.g hmg
  exact enter_lawT inK gr.T.g gr.T.b gr.T.builtins gr.T.nolimit noGens gr.T.bmain hObj isI few room tabs one G bd
/-- without tables -/
def noT (K : PySem.W.Frag) : PySem.W.Frag := K.filter fun p => match p.2.cls, p.2.data with
  | .none, .fields _ => false
  | _, _ => true
theorem noT_lookup {K : PySem.W.Frag} {a : Addr} {o : Obj} (h : (noT K).lookup a = some o) : (a, o) ∈ K := by
  unfold noT at h
  exact (List.mem_filter.mp (PySem.W.mem_of_lookupK h)).1
theorem frG_mem {g : Addr → Option Obj} {as : List Addr} {a : Addr} {o : Obj} (h : (a, o) ∈ He.frG g as) : g a = some o := by
  unfold He.frG at h
  obtain ⟨b, _, h2⟩ := List.mem_filterMap.mp h
  obtain ⟨o2, h3, h4⟩ := Option.map_eq_some_iff.mp h2
  cases h4
  exact h3
/-- no table is told by it -/
theorem noT_no {h : Heap} {as : List Addr} {t : Addr} {rows : Array Value} (e : h.get? t = some (PySem.W.tabObj rows)) : (noT (He.frG h.get? as)).lookup t = none := by
  cases q : (noT (He.frG h.get? as)).lookup t with
  | none => rfl
  | some o =>
    unfold noT at q
    have h1 := List.mem_filter.mp (PySem.W.mem_of_lookupK q)
    have h2 := frG_mem h1.1
    rw [e] at h2
    cases h2
    exact absurd h1.2 Bool.false_ne_true
def tabAt (K : PySem.W.Frag) (g : Addr → Option Obj) (x : Str) : Option Obj := match PySem.W.tabIn K x with
  | some (_, t) => g t
  | none => none
def tabB (K : PySem.W.Frag) (ks : List Str) : Bool := (ks.all fun x => match PySem.W.tabIn K x with
  | some (c, t) => PySem.W.codeHdIn K c t && ks.all fun y => (match PySem.W.tabIn K y with
    | some (_, t') => !(t == t') || decide (x = y)
    | none => false)
  | none => false)
abbrev AlWT : Type := AlW × (Bool × List (Option Obj))
def frWT (n : Nat) (g : Addr → Option Obj) : PySem.W.Frag := noT (He.frG g (cStatics :: asH g n))
def obsWT (n : Nat) (fa : List He.Fa) (fn : List He.DefD) (fp : List DefA) (ex : PySem.W.Frag → Bool) (ks : List Str) (g : Addr → Option Obj) : AlWT := (obsWK fa fn fp ex (frWT n g), (tabB (frWT n g) ks, ks.map (tabAt (frWT n g) g)))
def hookWT (n : Nat) (fa : List He.Fa) (fn : List He.DefD) (fp : List DefA) (ex : PySem.W.Frag → Bool) (ks : List Str) : PySem.W.Hook where
  α := AlWT
  obs := fun s => obsWT n fa fn fp ex ks s.heap.get?
  val := fun _ => (((He.valD fn, true), (true, fp.map DefA.val)), (true, ks.map fun _ => some (PySem.W.tabObj #[])))
  says := fun _ h => ∃ K : PySem.W.Frag, K.In h ∧ SaysW fa fn fp ex K ∧ (∀ x ∈ ks, TabH K h x) ∧ ∀ x ∈ ks, ∀ y ∈ ks, ∀ c d t, PySem.W.tabIn K x = some (c, t) → PySem.W.tabIn K y = some (d, t) → x = y
  of := fun _ s e => by
    have e1 : obsWK fa fn fp ex (frWT n s.heap.get?) = ((He.valD fn, true), (true, fp.map DefA.val)) := congrArg (fun z : AlWT => z.1) e
    have e2 : tabB (frWT n s.heap.get?) ks = true := congrArg (fun z : AlWT => z.2.1) e
    have e3 : ks.map (tabAt (frWT n s.heap.get?) s.heap.get?) = ks.map fun _ => some (PySem.W.tabObj #[]) := congrArg (fun z : AlWT => z.2.2) e
    have al := List.all_eq_true.mp e2
    refine ⟨frWT n s.heap.get?, fun a o h => frG_mem (noT_lookup h), ⟨congrArg (fun z : AlW => z.1.1) e1, congrArg (fun z : AlW => z.1.2) e1, congrArg (fun z : AlW => z.2.1) e1, congrArg (fun z : AlW => z.2.2) e1⟩, fun x hx => ?_, fun x hx y hy c d t h1 h2 => ?_⟩
    · have h1 := al x hx
      have h3 := List.map_inj_left.mp e3 x hx
      unfold tabAt at h3
      cases q : PySem.W.tabIn (frWT n s.heap.get?) x with
      | none => rw [q] at h1; cases h1
      | some ct =>
        obtain ⟨c, t⟩ := ct
        rw [q] at h1 h3
        have h3 : s.heap.get? t = some (PySem.W.tabObj #[]) := h3
        exact ⟨c, t, q, (He.ba h1).1, h3, noT_no h3⟩
    · have h3 := al x hx
      rw [h1] at h3
      have h4 := List.all_eq_true.mp (He.ba h3).2 y hy
      rw [h2] at h4
      simpa using h4
  keeps := fun _ _ _ ⟨K, hK, c, ts, one⟩ k => ⟨K, PySem.W.Frag.In.keeps hK k, c, fun x hx => let ⟨c, t, e, h1, h2, h3⟩ := ts x hx; ⟨c, t, e, h1, k _ _ h2, h3⟩, one⟩
theorem obsWT_eq {n : Nat} {fa : List He.Fa} {fn : List He.DefD} {fp : List DefA} {ex : PySem.W.Frag → Bool} {ks : List Str} {g : Addr → Option Obj} {s : Shared} (h : ∀ a, g a = s.heap.get? a) : obsWT n fa fn fp ex ks g = (hookWT n fa fn fp ex ks).obs s := by
  have e : g = s.heap.get? := funext h
  rw [e] <;> rfl
end DL
end
section
namespace DL
open PySem PySem.Spec PyProof.Rows L2
/-- the law's mathematics, whatever the tables' places -/
abbrev MathT (m : XS) (E : Env) (ks : List Str) : Prop := ∀ mu : Nat → Option Cell, (∀ x ∈ ks, ∃ t, mu t = some (.tab x)) → (∀ a y, mu a = some y → ∃ x, y = .tab x) → m E ⟨0, mu⟩ (fun o _ => o = .rt (.bool true)) fun _ _ => False
section
variable {X : Cx} {p : Par} {k : Nat} {cb vb : Bool}
theorem pd_ofW0 (S : SitB cb vb X p k) {j : Nat} {g q : Addr} {mc : Value} {f : Fn} {pn apos pos : Pos} {pl : Sem Bool} (r : ClX.CRead X.K (wrC X.K) mc) (c : ClX.CMet X.K (wrC X.K) mc "of" q g) (F : FnV cb X.prog X.w X.K X.mg X.base j g (spOf X.K X.mg f)) (hj : j ≤ k) (hm : X.mg "WordRow" = some (.ref (wrC X.K))) (hg : Gl X "WordRow" := by rfl)
    (ht : eval (.Call (.Attribute (.Name "WordRow" pn) "of" apos) [] [] pos) X.env = (do
      let ov ← eval (.Name "WordRow" pn) X.env
      standAt apos.atName
      let (f, first) ← holding [ov] (getMethod ov "of" pl)
      callWith pos f first (backTo pos (starEach [] X.env)) (backToKw pos (keywordEach [] X.env))) := by rfl) :
    PD X p (.Call (.Attribute (.Name "WordRow" pn) "of" apos) [] [] pos) (eOfW f aNil) := by
  refine ⟨fun σ H Q => spOf X.K X.mg f [.ref (wrC X.K)] H Q (p.EK σ), ⟨fun pins s σ H Q I h => ?_⟩, fun B H σ E cc P Q st re mm kk => ?_⟩
  · refine PySem.W.methodCall_KW (pl := pl) (thn ((pe_glob (v := .ref (wrC X.K)) hg hm rfl (by decide)).run pins s σ H (fun y H1 => y = .ref (wrC X.K) ∧ H1 = H) I ⟨rfl, rfl⟩) fun u s1 ⟨x, H1, I1, rx, ex, eH⟩ => ?_) ht
    subst ex
    subst eH
    obtain rfl : u = Value.ref (wrC X.K) := rx
    refine ClX.getmethcm_ok I1 r c fun s2 I2 => ?_
    refine PySem.W.callWith_M0 (first := []) ⟨ClX.pin_at I2, I2.kIn⟩ c.fi ?_
    have z : wpAny (model X.prog X.w) X.A (call (.ref s1.heap.objs.size) []) (EP X ((s1.heap.objs.size, PySem.W.methodObj (.ref g) (.ref (wrC X.K))) :: pins) σ Q) X.xe s2 := wpAny_call (PySem.W.method_call (ClX.pin_at I2) (codeAny_mono (F.go X.A X.stack s2 H1 [.ref (wrC X.K)] [.ref (wrC X.K)] Q (p.EK σ) (S.rm.mono hj) S.gd I2.env0 (.cons rfl .nil) h) fun res s' hq => by
      match res, hq with
      | .error e, hq => exact S.ps σ _ H1 s2 e s' I2 hq
      | .ok (.ret u), hq => exact I2.after hq
      | .ok .next, hq => exact hq.elim
      | .ok .brk, hq => exact hq.elim
      | .ok .cont, hq => exact hq.elim))
    exact thn z fun _ _ y => ClX.unpinE y
  · exact ⟨[], _, [], cc, P, p.XP, rfl, st.trk, .nil, mm.1, mm.2, fun d v H2 pd al rd => kk d cc v H2 pd al.ev (st.all S.ok al) rd, fun y cl dd H2 hx al hr => S.ok.exc cc cc y cl dd B H H2 σ st re.fx hx (st.all S.ok al) al.ev hr⟩
end
end DL
end
section
namespace Wk63
open PySem PySem.Spec PyProof.Rows DL
def top (i : Nat) : Stmt := PySem.Challenge.pw_wrapwidths_k63_word_rows_constructed.main.body.getD i (.Pass ⟨0, 0, 0, 0⟩)
abbrev s__wall : Stmt := top 0
abbrev s_is_integer : Stmt := top 25
abbrev s_is_length : Stmt := top 26
abbrev s_row_error : Stmt := top 27
abbrev s_check_place : Stmt := top 28
abbrev s_extent_of : Stmt := top 29
abbrev s_joined : Stmt := top 30
abbrev s_check_fits : Stmt := top 32
abbrev s_next_start : Stmt := top 33
abbrev s_starts_of : Stmt := top 34
abbrev s_starts_at : Stmt := top 35
abbrev s_check_width : Stmt := top 37
abbrev s__law_stream : Stmt := top 40
abbrev s__law_draw : Stmt := top 41
abbrev s__law_pick : Stmt := top 42
abbrev s__law_odd : Stmt := top 43
abbrev s__law_is_int : Stmt := top 44
abbrev s__law_row_drawn : Stmt := top 45
abbrev s__law_name : Stmt := top 46
abbrev s__law_field : Stmt := top 47
abbrev s__law_bent : Stmt := top 48
abbrev s__law_reason : Stmt := top 49
abbrev s__law_told : Stmt := top 50
abbrev s__law_expected : Stmt := top 51
abbrev s__law_of_right : Stmt := top 52
abbrev s_law : Stmt := top 53
abbrev s_WR_init : Stmt := (clsBody (top 38)).getD 0 (.Pass ⟨0, 0, 0, 0⟩)
abbrev s_WR_of : Stmt := (clsBody (top 38)).getD 1 (.Pass ⟨0, 0, 0, 0⟩)
abbrev s_WR_row : Stmt := (clsBody (top 38)).getD 2 (.Pass ⟨0, 0, 0, 0⟩)
theorem sc_is_integer : L2.FnScope ["value", "low", "high"] ["value", "low", "high"] (L2.defScope s_is_integer) := ⟨rfl, rfl, rfl, by decide +kernel, rfl, by decide +kernel, by decide +kernel⟩
theorem sc_is_length : L2.FnScope ["value"] ["value"] (L2.defScope s_is_length) := ⟨rfl, rfl, rfl, by decide +kernel, rfl, by decide +kernel, by decide +kernel⟩
theorem sc_row_error : L2.FnScope ["value", "index", "item"] ["value"] (L2.defScope s_row_error) := ⟨rfl, rfl, rfl, by decide +kernel, rfl, by decide +kernel, by decide +kernel⟩
theorem sc__law_stream : L2.FnScope ["_law_script", "_law_cells", "_law_cell"] ["_law_script"] (L2.defScope s__law_stream) := ⟨rfl, rfl, rfl, by decide +kernel, rfl, by decide +kernel, by decide +kernel⟩
theorem sc__law_draw : L2.FnScope ["_law_stream_here", "_law_many", "_law_rest", "_law_turn", "_law_cell", "_law_mixed"] ["_law_stream_here", "_law_many"] (L2.defScope s__law_draw) := ⟨rfl, rfl, rfl, by decide +kernel, rfl, by decide +kernel, by decide +kernel⟩
theorem sc__law_pick : L2.FnScope ["_law_stream_here", "_law_items"] ["_law_stream_here", "_law_items"] (L2.defScope s__law_pick) := ⟨rfl, rfl, rfl, by decide +kernel, rfl, by decide +kernel, by decide +kernel⟩
theorem sc__law_odd : L2.FnScope ["_law_stream_here", "_law_some"] ["_law_stream_here"] (L2.defScope s__law_odd) := ⟨rfl, rfl, rfl, by decide +kernel, rfl, by decide +kernel, by decide +kernel⟩
theorem sc__law_is_int : L2.FnScope ["_law_value", "_law_low", "_law_high"] ["_law_value", "_law_low", "_law_high"] (L2.defScope s__law_is_int) := ⟨rfl, rfl, rfl, by decide +kernel, rfl, by decide +kernel, by decide +kernel⟩
theorem sc__law_row_drawn : L2.FnScope ["_law_stream_here", "_law_most", "_law_size", "_law_way", "_law_top", "_law_found", "_law_part", "_law_k"] ["_law_stream_here", "_law_most"] (L2.defScope s__law_row_drawn) := ⟨rfl, rfl, rfl, by decide +kernel, rfl, by decide +kernel, by decide +kernel⟩
theorem sc__law_name : L2.FnScope ["_law_error", "_law_names", "_law_flags", "_law_bases"] ["_law_error"] (L2.defScope s__law_name) := ⟨rfl, rfl, rfl, by decide +kernel, rfl, by decide +kernel, by decide +kernel⟩
theorem sc__law_field : L2.FnScope ["_law_error"] ["_law_error"] (L2.defScope s__law_field) := ⟨rfl, rfl, rfl, by decide +kernel, rfl, by decide +kernel, by decide +kernel⟩
theorem sc__law_bent : L2.FnScope ["_law_stream_here", "_law_value", "_law_deep", "_law_spot", "_law_some"] ["_law_stream_here", "_law_value", "_law_deep"] (L2.defScope s__law_bent) := ⟨rfl, rfl, rfl, by decide +kernel, rfl, by decide +kernel, by decide +kernel⟩
theorem sc__law_reason : L2.FnScope ["_law_value", "_law_wrong", "_law_index"] ["_law_value"] (L2.defScope s__law_reason) := ⟨rfl, rfl, rfl, by decide +kernel, rfl, by decide +kernel, by decide +kernel⟩
theorem sc__law_told : L2.FnScope ["_law_call", "_law_error"] ["_law_call"] (L2.defScope s__law_told) := ⟨rfl, rfl, rfl, by decide +kernel, rfl, by decide +kernel, by decide +kernel⟩
theorem sc__law_expected : L2.FnScope ["_law_value", "_law_reason_here"] ["_law_value"] (L2.defScope s__law_expected) := ⟨rfl, rfl, rfl, by decide +kernel, rfl, by decide +kernel, by decide +kernel⟩
theorem sc__law_of_right : L2.FnScope ["_law_stream_here", "_law_told_here", "_law_due", "_law_one", "_law_three", "_law_two", "_law_value"] ["_law_stream_here"] (L2.defScope s__law_of_right) := ⟨rfl, rfl, rfl, by decide +kernel, rfl, by decide +kernel, by decide +kernel⟩
theorem sc_law : L2.FnScope ["_law_script", "_law_stream_here", "_law_written", "_law_turn", "_law_row", "_law_values", "_law_k", "_law_once", "_law_shown", "_law_value"] ["_law_script"] (L2.defScope s_law) := ⟨rfl, rfl, rfl, by decide +kernel, rfl, by decide +kernel, by decide +kernel⟩
theorem sc_WR_init : L2.FnScope ["self", "row", "error"] ["self", "row"] (L2.defScope s_WR_init) := ⟨rfl, rfl, rfl, by decide +kernel, rfl, by decide +kernel, by decide +kernel⟩
theorem sc_WR_of : L2.FnScope ["cls", "lengths"] ["cls", "lengths"] (L2.defScope s_WR_of) := ⟨rfl, rfl, rfl, by decide +kernel, rfl, by decide +kernel, by decide +kernel⟩
theorem sc_WR_row : L2.FnScope ["self"] ["self"] (L2.defScope s_WR_row) := ⟨rfl, rfl, rfl, by decide +kernel, rfl, by decide +kernel, by decide +kernel⟩
abbrev i_TooMany : Stmt := (clsBody (top 7)).getD 0 (.Pass ⟨0, 0, 0, 0⟩)
abbrev i_TooNarrow : Stmt := (clsBody (top 8)).getD 0 (.Pass ⟨0, 0, 0, 0⟩)
abbrev i_BadRow : Stmt := (clsBody (top 11)).getD 0 (.Pass ⟨0, 0, 0, 0⟩)
abbrev i_NoPlace : Stmt := (clsBody (top 21)).getD 0 (.Pass ⟨0, 0, 0, 0⟩)
abbrev i_NoWidth : Stmt := (clsBody (top 22)).getD 0 (.Pass ⟨0, 0, 0, 0⟩)
structure Txt (K : PySem.W.Frag) (mg : Str → Option Value) where
  fd__wall : FuncData
  F__wall : FnP K "_wall" "_wall" s__wall (He.ga K "_wall") fd__wall
  D__wall : Def K mg "_wall" (He.ga K "_wall") fd__wall ["k"]
  fd_is_integer : FuncData
  F_is_integer : FnP K "is_integer" "is_integer" s_is_integer (He.ga K "is_integer") fd_is_integer
  D_is_integer : Def K mg "is_integer" (He.ga K "is_integer") fd_is_integer ["value", "low", "high"]
  fd_is_length : FuncData
  F_is_length : FnP K "is_length" "is_length" s_is_length (He.ga K "is_length") fd_is_length
  D_is_length : Def K mg "is_length" (He.ga K "is_length") fd_is_length ["value"]
  fd_row_error : FuncData
  F_row_error : FnP K "row_error" "row_error" s_row_error (He.ga K "row_error") fd_row_error
  D_row_error : Def K mg "row_error" (He.ga K "row_error") fd_row_error ["value"]
  fd_check_place : FuncData
  F_check_place : FnP K "check_place" "check_place" s_check_place (He.ga K "check_place") fd_check_place
  D_check_place : Def K mg "check_place" (He.ga K "check_place") fd_check_place ["row", "value"]
  fd_extent_of : FuncData
  F_extent_of : FnP K "extent_of" "extent_of" s_extent_of (He.ga K "extent_of") fd_extent_of
  D_extent_of : Def K mg "extent_of" (He.ga K "extent_of") fd_extent_of ["row", "first", "last"]
  fd_joined : FuncData
  F_joined : FnP K "joined" "joined" s_joined (He.ga K "joined") fd_joined
  D_joined : DefV K mg "joined" (He.ga K "joined")
  fd_check_fits : FuncData
  F_check_fits : FnP K "check_fits" "check_fits" s_check_fits (He.ga K "check_fits") fd_check_fits
  D_check_fits : Def K mg "check_fits" (He.ga K "check_fits") fd_check_fits ["row", "width"]
  fd_next_start : FuncData
  F_next_start : FnP K "next_start" "next_start" s_next_start (He.ga K "next_start") fd_next_start
  D_next_start : Def K mg "next_start" (He.ga K "next_start") fd_next_start ["row", "width", "start"]
  fd_starts_of : FuncData
  F_starts_of : FnP K "starts_of" "starts_of" s_starts_of (He.ga K "starts_of") fd_starts_of
  D_starts_of : Def K mg "starts_of" (He.ga K "starts_of") fd_starts_of ["row", "width"]
  fd_starts_at : FuncData
  F_starts_at : FnP K "starts_at" "starts_at" s_starts_at (He.ga K "starts_at") fd_starts_at
  D_starts_at : Def K mg "starts_at" (He.ga K "starts_at") fd_starts_at ["row", "width"]
  fd_check_width : FuncData
  F_check_width : FnP K "check_width" "check_width" s_check_width (He.ga K "check_width") fd_check_width
  D_check_width : Def K mg "check_width" (He.ga K "check_width") fd_check_width ["value"]
  fd__law_stream : FuncData
  F__law_stream : FnP K "_law_stream" "_law_stream" s__law_stream (He.ga K "_law_stream") fd__law_stream
  D__law_stream : Def K mg "_law_stream" (He.ga K "_law_stream") fd__law_stream ["_law_script"]
  fd__law_draw : FuncData
  F__law_draw : FnP K "_law_draw" "_law_draw" s__law_draw (He.ga K "_law_draw") fd__law_draw
  D__law_draw : Def K mg "_law_draw" (He.ga K "_law_draw") fd__law_draw ["_law_stream_here", "_law_many"]
  fd__law_pick : FuncData
  F__law_pick : FnP K "_law_pick" "_law_pick" s__law_pick (He.ga K "_law_pick") fd__law_pick
  D__law_pick : Def K mg "_law_pick" (He.ga K "_law_pick") fd__law_pick ["_law_stream_here", "_law_items"]
  fd__law_odd : FuncData
  F__law_odd : FnP K "_law_odd" "_law_odd" s__law_odd (He.ga K "_law_odd") fd__law_odd
  D__law_odd : Def K mg "_law_odd" (He.ga K "_law_odd") fd__law_odd ["_law_stream_here"]
  fd__law_is_int : FuncData
  F__law_is_int : FnP K "_law_is_int" "_law_is_int" s__law_is_int (He.ga K "_law_is_int") fd__law_is_int
  D__law_is_int : Def K mg "_law_is_int" (He.ga K "_law_is_int") fd__law_is_int ["_law_value", "_law_low", "_law_high"]
  fd__law_row_drawn : FuncData
  F__law_row_drawn : FnP K "_law_row_drawn" "_law_row_drawn" s__law_row_drawn (He.ga K "_law_row_drawn") fd__law_row_drawn
  D__law_row_drawn : Def K mg "_law_row_drawn" (He.ga K "_law_row_drawn") fd__law_row_drawn ["_law_stream_here", "_law_most"]
  fd__law_name : FuncData
  F__law_name : FnP K "_law_name" "_law_name" s__law_name (He.ga K "_law_name") fd__law_name
  D__law_name : Def K mg "_law_name" (He.ga K "_law_name") fd__law_name ["_law_error"]
  fd__law_field : FuncData
  F__law_field : FnP K "_law_field" "_law_field" s__law_field (He.ga K "_law_field") fd__law_field
  D__law_field : Def K mg "_law_field" (He.ga K "_law_field") fd__law_field ["_law_error"]
  fd__law_bent : FuncData
  F__law_bent : FnP K "_law_bent" "_law_bent" s__law_bent (He.ga K "_law_bent") fd__law_bent
  D__law_bent : Def K mg "_law_bent" (He.ga K "_law_bent") fd__law_bent ["_law_stream_here", "_law_value", "_law_deep"]
  fd__law_reason : FuncData
  F__law_reason : FnP K "_law_reason" "_law_reason" s__law_reason (He.ga K "_law_reason") fd__law_reason
  D__law_reason : Def K mg "_law_reason" (He.ga K "_law_reason") fd__law_reason ["_law_value"]
  fd__law_told : FuncData
  F__law_told : FnP K "_law_told" "_law_told" s__law_told (He.ga K "_law_told") fd__law_told
  D__law_told : Def K mg "_law_told" (He.ga K "_law_told") fd__law_told ["_law_call"]
  fd__law_expected : FuncData
  F__law_expected : FnP K "_law_expected" "_law_expected" s__law_expected (He.ga K "_law_expected") fd__law_expected
  D__law_expected : Def K mg "_law_expected" (He.ga K "_law_expected") fd__law_expected ["_law_value"]
  fd__law_of_right : FuncData
  F__law_of_right : FnP K "_law_of_right" "_law_of_right" s__law_of_right (He.ga K "_law_of_right") fd__law_of_right
  D__law_of_right : Def K mg "_law_of_right" (He.ga K "_law_of_right") fd__law_of_right ["_law_stream_here"]
  fd_law : FuncData
  F_law : FnP K "law" "law" s_law (He.ga K "law") fd_law
  D_law : Def K mg "law" (He.ga K "law") fd_law ["_law_script"]
  W : WrO K
  MK : L2.Mk K (wrC K) (He.ma K (wrC K) "__init__")
  m_WordRow : mg "WordRow" = some (.ref (wrC K))
  fd_WR_init : FuncData
  F_WR_init : FnP K "__init__" "WordRow.__init__" s_WR_init (He.ma K (wrC K) "__init__") fd_WR_init
  B_WR_init : L2.Binds K fd_WR_init ["self", "row"] []
  fd_WR_of : FuncData
  F_WR_of : FnP K "of" "WordRow.of" s_WR_of (ofG K) fd_WR_of
  OF : OfW K
  fd_WR_row : FuncData
  F_WR_row : FnP K "row" "WordRow.row" s_WR_row (prG K "row") fd_WR_row
  B_WR_row : L2.Binds K fd_WR_row ["self"] []
  P_row : PropW K "row" (prP K "row") (prG K "row")
  g_LookupError : mg "LookupError" = none
  g_ValueError : mg "ValueError" = none
  g_abs : mg "abs" = none
  g_bool : mg "bool" = none
  g_enumerate : mg "enumerate" = none
  g_int : mg "int" = none
  g_isinstance : mg "isinstance" = none
  g_len : mg "len" = none
  g_list : mg "list" = none
  g_min : mg "min" = none
  g_range : mg "range" = none
  g_repr : mg "repr" = none
  g_str : mg "str" = none
  g_sum : mg "sum" = none
  g_tuple : mg "tuple" = none
  g_MAX_LENGTH : ∃ t, mg "MAX_LENGTH" = some (.int (60) t)
  g_MAX_WIDTH : ∃ t, mg "MAX_WIDTH" = some (.int (2000) t)
  g_MAX_WORDS : ∃ t, mg "MAX_WORDS" = some (.int (24) t)
  m_WrapError : mg "WrapError" = some (.ref (He.ga K "WrapError"))
  p_WrapError : here K "WrapError" = true
  m_NoRows : mg "NoRows" = some (.ref (He.ga K "NoRows"))
  p_NoRows : here K "NoRows" = true
  m_TooMany : mg "TooMany" = some (.ref (He.ga K "TooMany"))
  p_TooMany : here K "TooMany" = true
  m_TooNarrow : mg "TooNarrow" = some (.ref (He.ga K "TooNarrow"))
  p_TooNarrow : here K "TooNarrow" = true
  m_BadLength : mg "BadLength" = some (.ref (He.ga K "BadLength"))
  p_BadLength : here K "BadLength" = true
  m_LastWord : mg "LastWord" = some (.ref (He.ga K "LastWord"))
  p_LastWord : here K "LastWord" = true
  m_BadRow : mg "BadRow" = some (.ref (He.ga K "BadRow"))
  p_BadRow : here K "BadRow" = true
  m_BadTimes : mg "BadTimes" = some (.ref (He.ga K "BadTimes"))
  p_BadTimes : here K "BadTimes" = true
  m_TooLong : mg "TooLong" = some (.ref (He.ga K "TooLong"))
  p_TooLong : here K "TooLong" = true
  m_TooManyEdits : mg "TooManyEdits" = some (.ref (He.ga K "TooManyEdits"))
  p_TooManyEdits : here K "TooManyEdits" = true
  m_NothingToUndo : mg "NothingToUndo" = some (.ref (He.ga K "NothingToUndo"))
  p_NothingToUndo : here K "NothingToUndo" = true
  m_BadEdits : mg "BadEdits" = some (.ref (He.ga K "BadEdits"))
  p_BadEdits : here K "BadEdits" = true
  m_BadEdit : mg "BadEdit" = some (.ref (He.ga K "BadEdit"))
  p_BadEdit : here K "BadEdit" = true
  m_Rejected : mg "Rejected" = some (.ref (He.ga K "Rejected"))
  p_Rejected : here K "Rejected" = true
  m_Busy : mg "Busy" = some (.ref (He.ga K "Busy"))
  p_Busy : here K "Busy" = true
  m_BadText : mg "BadText" = some (.ref (He.ga K "BadText"))
  p_BadText : here K "BadText" = true
  m_NoPlace : mg "NoPlace" = some (.ref (He.ga K "NoPlace"))
  p_NoPlace : here K "NoPlace" = true
  m_NoWidth : mg "NoWidth" = some (.ref (He.ga K "NoWidth"))
  p_NoWidth : here K "NoWidth" = true
  m_NoVersion : mg "NoVersion" = some (.ref (He.ga K "NoVersion"))
  p_NoVersion : here K "NoVersion" = true
  E_NoRows : ErrZ K "NoRows" .ve
  E_TooMany : ErrT K "TooMany" .limit .ve
  E_TooNarrow : ErrT K "TooNarrow" .place .ve
  E_BadRow : ErrT K "BadRow" .error .ve
  E_NoPlace : ErrT K "NoPlace" .value .le
  E_NoWidth : ErrT K "NoWidth" .value .le
section
variable {P : Program} {w : World} {K : PySem.W.Frag} {mg : Str → Option Value} {base : Heap}
theorem Txt.ok_WR_row (T : Txt K mg) (tb : TabF K mg base ks) (sm : HasSm base) : FnG true P w K mg base 1 (prG K "row") T.fd_WR_row ["self"] (spF K mg w_WR_row_0) :=
  fn_pure sm T.F_WR_row sc_WR_row (by decide) fun cdv A outer s H E p S Z hp => ssd_one (sd_ret (pd_held T.W.f (pd_var 0)))
theorem Txt.ok_is_integer (T : Txt K mg) (tb : TabF K mg base ks) (sm : HasSm base) : FnG true P w K mg base 1 (He.ga K "is_integer") T.fd_is_integer ["value", "low", "high"] (spF K mg w_is_integer_0) :=
  fn_pure sm T.F_is_integer sc_is_integer (by decide) fun cdv A outer s H E p S Z hp => ssd_one (sd_ret (pd_and (pd_is S .int (pd_var 0) T.g_isinstance T.g_int) (pd_and (pd_not (pd_is S .bool (pd_var 0) T.g_isinstance T.g_bool)) (pd_one (pd_chain S .le .le (pd_var 1) (pd_var 0) (pd_var 2))))))
theorem Txt.ok__law_stream (T : Txt K mg) (tb : TabF K mg base ks) (sm : HasSm base) : FnG true P w K mg base 1 (He.ga K "_law_stream") T.fd__law_stream ["_law_script"] (spMake K) :=
  fn_stream sm T.F__law_stream sc__law_stream rfl fun cdv A outer s H E p S =>
    ⟨_, _, _, fun t1 te1 te2 h1 h2 h3 => L2.pss_cons h1 (L2.pss_one (L2.ps_ret (L2.pe_lst (L2.pa_cons h2 (L2.pa_cons h3 (L2.pa_cons L2.pe_int L2.pa_nil)))))),
      sd_comp S (i := 1) (t := .nm 2) [("_law_cell", 2)] rfl rfl (L2.sw_true rfl rfl rfl (by decide +kernel)) (pi_scr 0 (L2.pv 0)) (L2.blkOk_by (N := ["_law_script", "_law_cells", "_law_cell"]) (sc := L2.defScope s__law_stream) (by decide +kernel)) (by decide) (fun _ _ _ _ _ => L2.pg_name (i := 2) S.nd rfl (Or.inl rfl)) (fun _ _ _ _ _ S => pdts_nil) (fun _ _ _ _ _ S => pd_call1 S c_abs T.g_abs (pd_var 2)),
      pf_comp S (t := .nm 2) [("_law_cell", 2)] (pi_lstD (pd_var 1)) (L2.blkOk_by (N := ["_law_script", "_law_cells", "_law_cell"]) (sc := L2.defScope s__law_stream) (by decide +kernel)) (by decide) (fun _ _ _ _ _ => L2.pg_name (i := 2) S.nd rfl (Or.inl rfl)) (fun _ _ _ _ _ S => pdts_one (pt_cmpD S .ge (pd_var 2) (pd_bin S .pow pd_int pd_int))) (fun _ _ _ _ _ S => pd_var 2),
      pd_if (pt_cmpD S .ne (pd_var 1) (pd_lst S pda_nil)) (pd_var 1) (pd_lst S (pda_cons pd_int pda_nil))⟩
theorem Txt.ok__law_draw (T : Txt K mg) (tb : TabF K mg base ks) (sm : HasSm base) : FnG true P w K mg base 1 (He.ga K "_law_draw") T.fd__law_draw ["_law_stream_here", "_law_many"] (spS K mg fDraw) :=
  fn_draw sm T.F__law_draw sc__law_draw rfl fun cdv A outer s H E p S =>
    L2.pss_cons (L2.ps_while S.po (L2.pt_cmpR (op_cmpD S.un .ne) (L2.pe_ix L2.ix_list (L2.pv 0) L2.pe_int (fun _ _ => rfl)) (L2.pe_lst L2.pa_nil) (L2.nomark _))
      (L2.pss_cons (L2.ps_set (i := 2) S.nd rfl (Or.inl rfl) (L2.pe_ix ix_D (L2.pe_ix L2.ix_list (L2.pv 0) L2.pe_int (fun _ _ => rfl)) L2.pe_int (fun _ _ => rfl)))
        (L2.pss_cons (L2.ps_if (L2.pt_cmpR (op_cmpD S.un .gt) (L2.pv 2) L2.pe_int (L2.nomark _))
            (L2.pss_cons (L2.ps_asg (L2.pe_op (op_binD .fdiv) (L2.pv 2) (L2.pv 1)) (L2.pg_sub (L2.pe_ix L2.ix_list (L2.pv 0) L2.pe_int (fun _ _ => rfl)) L2.pe_int L2.set_list)) (L2.pss_one (L2.ps_ret (L2.pe_op (op_binD .mod) (L2.pv 2) (L2.pv 1))))) L2.pss_nil)
          (L2.pss_one (L2.ps_expr (L2.pe_bm PySem.F.plainAttrs_list PySem.F.slot_list_pop PySem.F.type_list_pop L2.mt_popAt (L2.pe_ix L2.ix_list (L2.pv 0) L2.pe_int (fun _ _ => rfl)) (L2.pa_cons L2.pe_int L2.pa_nil)))))))
    (L2.pss_cons (L2.ps_set (i := 3) S.nd rfl (Or.inl rfl) (L2.pe_op (op_binD .add) (L2.pe_ix L2.ix_list (L2.pv 0) L2.pe_int (fun _ _ => rfl)) L2.pe_int))
    (L2.pss_cons (L2.ps_asg (L2.pv 3) (L2.pg_sub (L2.pv 0) L2.pe_int L2.set_list))
    (L2.pss_cons (L2.ps_set (i := 4) S.nd rfl (Or.inl rfl) (L2.pe_op (op_binD .mod) (L2.pe_ix ix_D (L2.pe_ix L2.ix_list (L2.pv 0) L2.pe_int (fun _ _ => rfl)) (L2.pe_op (op_binD .mod) (L2.pv 3) (L2.pe_callB c_len rfl T.g_len (by decide +kernel) (L2.pa_cons (L2.pe_ix L2.ix_list (L2.pv 0) L2.pe_int (fun _ _ => rfl)) L2.pa_nil))) (fun _ _ => rfl)) L2.pe_int))
    (L2.pss_cons (L2.ps_set (i := 5) S.nd rfl (Or.inl rfl) (L2.pe_op (op_binD .mod) (L2.pe_op (op_binD .add) (L2.pe_op (op_binD .add) (L2.pe_op (op_binD .mul) (L2.pv 4) (L2.pe_op (op_binD .add) L2.pe_int (L2.pe_op (op_binD .mul) L2.pe_int (L2.pv 3)))) (L2.pe_op (op_binD .mul) (L2.pe_op (op_binD .mul) L2.pe_int (L2.pv 3)) (L2.pv 3))) L2.pe_int) L2.pe_int))
    (L2.pss_one (L2.ps_ret (L2.pe_op (op_binD .mod) (L2.pe_op (op_binD .fdiv) (L2.pe_op (op_binD .mod) (L2.pe_op (op_binD .mul) (L2.pv 5) (L2.pv 5)) L2.pe_int) L2.pe_int) (L2.pv 1))))))))
theorem Txt.ok__law_is_int (T : Txt K mg) (tb : TabF K mg base ks) (sm : HasSm base) : FnG true P w K mg base 1 (He.ga K "_law_is_int") T.fd__law_is_int ["_law_value", "_law_low", "_law_high"] (spF K mg w__law_is_int_0) :=
  fn_pure sm T.F__law_is_int sc__law_is_int (by decide) fun cdv A outer s H E p S Z hp => ssd_one (sd_ret (pd_and (pd_is S .int (pd_var 0) T.g_isinstance T.g_int) (pd_and (pd_not (pd_is S .bool (pd_var 0) T.g_isinstance T.g_bool)) (pd_one (pd_chain S .le .le (pd_var 1) (pd_var 0) (pd_var 2))))))
theorem Txt.ok__law_name {hb : Bool} (T : Txt K mg) (tb : TabF K mg base ks) (sm : HasSm base) : FnG hb P w K mg base 1 (He.ga K "_law_name") T.fd__law_name ["_law_error"] (spF K mg w__law_name_0) :=
  fn_pure sm T.F__law_name sc__law_name (by decide) fun cdv A outer s H E p S Z hp => ssd_cons (sd_set S (i := 1) rfl (Or.inl rfl) (pd_lst S (pda_cons (pd_str) (pda_cons (pd_str) (pda_cons (pd_str) (pda_cons (pd_str) (pda_cons (pd_str) (pda_cons (pd_str) (pda_cons (pd_str) (pda_cons (pd_str) (pda_cons (pd_str) (pda_nil))))))))))))
    (ssd_cons (sd_set S (i := 1) rfl (Or.inl rfl) (pd_bin S .add (pd_var 1) (pd_lst S (pda_cons (pd_str) (pda_cons (pd_str) (pda_cons (pd_str) (pda_cons (pd_str) (pda_cons (pd_str) (pda_cons (pd_str) (pda_cons (pd_str) (pda_cons (pd_str) (pda_nil))))))))))))
    (ssd_cons (sd_set S (i := 2) rfl (Or.inl rfl) (pd_lst S (pda_cons (pd_isC (pd_var 0) T.g_isinstance (clsN_o T.p_BadEdit T.m_BadEdit)) (pda_cons (pd_isC (pd_var 0) T.g_isinstance (clsN_o T.p_BadEdits T.m_BadEdits)) (pda_cons (pd_isC (pd_var 0) T.g_isinstance (clsN_o T.p_BadLength T.m_BadLength)) (pda_nil))))))
    (ssd_cons (sd_set S (i := 2) rfl (Or.inl rfl) (pd_bin S .add (pd_var 2) (pd_lst S (pda_cons (pd_isC (pd_var 0) T.g_isinstance (clsN_o T.p_BadRow T.m_BadRow)) (pda_cons (pd_isC (pd_var 0) T.g_isinstance (clsN_o T.p_BadText T.m_BadText)) (pda_cons (pd_isC (pd_var 0) T.g_isinstance (clsN_o T.p_BadTimes T.m_BadTimes)) (pda_nil)))))))
    (ssd_cons (sd_set S (i := 2) rfl (Or.inl rfl) (pd_bin S .add (pd_var 2) (pd_lst S (pda_cons (pd_isC (pd_var 0) T.g_isinstance (clsN_o T.p_Busy T.m_Busy)) (pda_cons (pd_isC (pd_var 0) T.g_isinstance (clsN_o T.p_LastWord T.m_LastWord)) (pda_cons (pd_isC (pd_var 0) T.g_isinstance (clsN_o T.p_NothingToUndo T.m_NothingToUndo)) (pda_nil)))))))
    (ssd_cons (sd_set S (i := 2) rfl (Or.inl rfl) (pd_bin S .add (pd_var 2) (pd_lst S (pda_cons (pd_isC (pd_var 0) T.g_isinstance (clsN_o T.p_Rejected T.m_Rejected)) (pda_cons (pd_isC (pd_var 0) T.g_isinstance (clsN_o T.p_TooLong T.m_TooLong)) (pda_cons (pd_isC (pd_var 0) T.g_isinstance (clsN_o T.p_TooMany T.m_TooMany)) (pda_nil)))))))
    (ssd_cons (sd_set S (i := 2) rfl (Or.inl rfl) (pd_bin S .add (pd_var 2) (pd_lst S (pda_cons (pd_isC (pd_var 0) T.g_isinstance (clsN_o T.p_TooManyEdits T.m_TooManyEdits)) (pda_cons (pd_isC (pd_var 0) T.g_isinstance (clsN_o T.p_TooNarrow T.m_TooNarrow)) (pda_cons (pd_isC (pd_var 0) T.g_isinstance (clsN_o T.p_NoPlace T.m_NoPlace)) (pda_nil)))))))
    (ssd_cons (sd_set S (i := 2) rfl (Or.inl rfl) (pd_bin S .add (pd_var 2) (pd_lst S (pda_cons (pd_isC (pd_var 0) T.g_isinstance (clsN_o T.p_NoVersion T.m_NoVersion)) (pda_cons (pd_isC (pd_var 0) T.g_isinstance (clsN_o T.p_NoWidth T.m_NoWidth)) (pda_nil))))))
    (ssd_cons (sd_set S (i := 3) rfl (Or.inl rfl) (pd_lst S (pda_cons (pd_isC (pd_var 0) T.g_isinstance (clsN_o T.p_WrapError T.m_WrapError)) (pda_cons (pd_isC (pd_var 0) T.g_isinstance (clsN_ve T.g_ValueError)) (pda_cons (pd_isC (pd_var 0) T.g_isinstance (clsN_le T.g_LookupError)) (pda_nil))))))
    (ssd_cons (sd_if (PDW.pt (pw_orD (pt_cmpD S .ne (pd_cnt (pd_var 2) (pd_bl) (fun h1 h2 => L2.pe_bm PySem.F.plainAttrs_list PySem.F.slot_list_count PySem.F.type_list_count mt_cntB h1 (L2.pa_cons h2 L2.pa_nil))) (pd_int)) (pw_or1D (pt_cmpD S .ne (pd_var 3) (pd_ix S (pd_lst S (pda_cons (pd_lst S (pda_cons (pd_bl) (pda_cons (pd_bl) (pda_cons (pd_bl) (pda_nil))))) (pda_cons (pd_lst S (pda_cons (pd_bl) (pda_cons (pd_bl) (pda_cons (pd_bl) (pda_nil))))) (pda_nil)))) (pd_callT1 S c_int T.g_int (pd_cmp S .gt (pd_ixof (pd_var 2) (pd_bl) (fun h1 h2 => L2.pe_bm PySem.F.plainAttrs_list PySem.F.slot_list_index PySem.F.type_list_index L2.mt_index h1 (L2.pa_cons h2 L2.pa_nil))) (pd_int)))))))) (ssd_one (sd_ret (pd_str))) (ssd_nil))
    (ssd_one (sd_ret (pd_ix S (pd_var 1) (pd_ixof (pd_var 2) (pd_bl) (fun h1 h2 => L2.pe_bm PySem.F.plainAttrs_list PySem.F.slot_list_index PySem.F.type_list_index L2.mt_index h1 (L2.pa_cons h2 L2.pa_nil)))))))))))))))
theorem Txt.ok__law_field {hb : Bool} (T : Txt K mg) (tb : TabF K mg base ks) (sm : HasSm base) : FnG hb P w K mg base 1 (He.ga K "_law_field") T.fd__law_field ["_law_error"] (spF K mg w__law_field_0) :=
  fn_pure sm T.F__law_field sc__law_field (by decide) fun cdv A outer s H E p S Z hp => ssd_cons (sd_if (pt_tru (pd_isCs S (pd_var 0) T.g_isinstance (.cons (clsN_o T.p_BadLength T.m_BadLength) (.cons (clsN_o T.p_BadTimes T.m_BadTimes) (.cons (clsN_o T.p_NoPlace T.m_NoPlace) (.cons (clsN_o T.p_NoVersion T.m_NoVersion) (.cons (clsN_o T.p_NoWidth T.m_NoWidth) (.nil)))))) (by decide))) (ssd_one (sd_ret (pd_fld .value (pd_var 0)))) (ssd_nil))
    (ssd_cons (sd_if (pt_tru (pd_isCs S (pd_var 0) T.g_isinstance (.cons (clsN_o T.p_BadEdit T.m_BadEdit) (.cons (clsN_o T.p_BadText T.m_BadText) (.cons (clsN_o T.p_Rejected T.m_Rejected) (.nil)))) (by decide))) (ssd_one (sd_ret (pd_fld .index (pd_var 0)))) (ssd_nil))
    (ssd_cons (sd_if (pt_tru (pd_isCs S (pd_var 0) T.g_isinstance (.cons (clsN_o T.p_TooLong T.m_TooLong) (.cons (clsN_o T.p_TooNarrow T.m_TooNarrow) (.nil))) (by decide))) (ssd_one (sd_ret (pd_fld .place (pd_var 0)))) (ssd_nil))
    (ssd_cons (sd_if (pt_tru (pd_isC (pd_var 0) T.g_isinstance (clsN_o T.p_TooMany T.m_TooMany))) (ssd_one (sd_ret (pd_fld .limit (pd_var 0)))) (ssd_nil))
    (ssd_one (sd_ret (pd_if (pt_tru (pd_isC (pd_var 0) T.g_isinstance (clsN_o T.p_BadRow T.m_BadRow))) (pd_fld .error (pd_var 0)) (pd_non)))))))
theorem Txt.ok_is_length (T : Txt K mg) (tb : TabF K mg base ks) (sm : HasSm base) : FnG true P w K mg base 2 (He.ga K "is_length") T.fd_is_length ["value"] (spF K mg w_is_length_0) :=
  fn_pure sm T.F_is_length sc_is_length (by decide) fun cdv A outer s H E p S Z hp => ssd_one (sd_ret (pd_fn S (T.ok_is_integer tb sm) (by decide) T.D_is_integer (pda_cons (pd_var 0) (pda_cons (pd_int) (pda_cons (pd_glob T.g_MAX_LENGTH) (pda_nil))))))
theorem Txt.ok__law_pick (T : Txt K mg) (tb : TabF K mg base ks) (sm : HasSm base) : FnG true P w K mg base 2 (He.ga K "_law_pick") T.fd__law_pick ["_law_stream_here", "_law_items"] (spS K mg w__law_pick_0) :=
  fn_str sm T.F__law_pick sc__law_pick (by decide) fun cdv A outer s H E p S Z hp => ssd_one (sd_ret (pd_ix S (pd_var 1) (pd_fnS S Z (T.ok__law_draw tb sm) (by decide) T.D__law_draw (L2.pv 0) (pda_cons (pd_call1 S c_len T.g_len (pd_var 1)) (pda_nil)))))
theorem Txt.ok__law_odd (T : Txt K mg) (tb : TabF K mg base ks) (sm : HasSm base) : FnG true P w K mg base 2 (He.ga K "_law_odd") T.fd__law_odd ["_law_stream_here"] (spS K mg w__law_odd_0) :=
  fn_str sm T.F__law_odd sc__law_odd (by decide) fun cdv A outer s H E p S Z hp => ssd_cons (sd_set S (i := 1) rfl (Or.inl rfl) (pd_lst S (pda_cons (pd_non) (pda_cons (pd_bl) (pda_cons (pd_bl) (pda_cons (pd_neg S (pd_int)) (pda_cons (pd_int) (pda_cons (pd_int) (pda_cons (pd_int) (pda_cons (pd_int) (pda_cons (pd_int) (pda_cons (pd_int) (pda_cons (pd_int) (pda_cons (pd_int) (pda_cons (pd_int) (pda_cons (pd_bin S .pow (pd_int) (pd_int)) (pda_cons (pd_str) (pda_cons (pd_str) (pda_cons (pd_str) (pda_cons (pd_tup S (pda_nil)) (pda_cons (pd_lst S (pda_nil)) (pda_cons (pd_dct0 S) (pda_cons (pd_tup S (pda_cons (pd_int) (pda_nil))) (pda_cons (pd_lst S (pda_cons (pd_int) (pda_nil))) (pda_nil)))))))))))))))))))))))))
    (ssd_one (sd_ret (pd_ix S (pd_bin S .add (pd_var 1) (pd_lst S (pda_cons (pd_tup S (pda_cons (pd_bl) (pda_nil))) (pda_cons (pd_tup S (pda_cons (pd_int) (pda_cons (pd_int) (pda_nil)))) (pda_cons (pd_tup S (pda_cons (pd_int) (pda_cons (pd_int) (pda_nil)))) (pda_cons (pd_dct1 S) (pda_nil))))))) (pd_fnS S Z (T.ok__law_draw tb sm) (by decide) T.D__law_draw (L2.pv 0) (pda_cons (pd_int) (pda_nil))))))
theorem Txt.ok__law_row_drawn (T : Txt K mg) (tb : TabF K mg base ks) (sm : HasSm base) : FnG true P w K mg base 2 (He.ga K "_law_row_drawn") T.fd__law_row_drawn ["_law_stream_here", "_law_most"] (spS K mg w__law_row_drawn_0) :=
  fn_str sm T.F__law_row_drawn sc__law_row_drawn (by decide) fun cdv A outer s H E p S Z hp => ssd_cons (sd_par S (i := 2) (j := 3) rfl rfl (by decide) rfl rfl (pd_bin S .add (pd_int) (pd_fnS S Z (T.ok__law_draw tb sm) (by decide) T.D__law_draw (L2.pv 0) (pda_cons (pd_var 1) (pda_nil)))) (pd_fnS S Z (T.ok__law_draw tb sm) (by decide) T.D__law_draw (L2.pv 0) (pda_cons (pd_int) (pda_nil))) rfl)
    (ssd_cons (sd_set S (i := 4) rfl (Or.inr rfl) (pd_ix S (pd_lst S (pda_cons (pd_int) (pda_cons (pd_int) (pda_cons (pd_int) (pda_cons (pd_int) (pda_cons (pd_int) (pda_cons (pd_int) (pda_nil)))))))) (pd_var 3)))
    (ssd_cons (sd_own S (i := 5) rfl (Or.inr rfl) (pf_comp S (t := .nm 7) [("_law_k", 7)] (pi_rng1D (pd_var 2) T.g_range) (L2.blkOk_by (N := ["_law_stream_here", "_law_most", "_law_size", "_law_way", "_law_top", "_law_found", "_law_part", "_law_k"]) (sc := L2.defScope s__law_row_drawn) (by decide +kernel)) (by decide) (fun _ _ _ _ _ => L2.pg_name (i := 7) S.nd rfl (Or.inl rfl)) (fun _ _ _ _ _ S => pdts_nil) (fun _ _ _ _ _ S => pd_bin S .add (pd_int) (pd_fnS S Z (T.ok__law_draw tb sm) (by decide) T.D__law_draw (L2.pv 0) (pda_cons (pd_var 4) (pda_nil))))))
    (ssd_cons (sd_if (PDW.pt (pw_orD (pt_cmpD S .eq (pd_var 3) (pd_int)) (pw_or1D (pt_cmpD S .eq (pd_var 3) (pd_int))))) (ssd_one (sd_setI S 5 (L2.pg_sub (L2.pv 5) (PD.pe (pd_fnS S Z (T.ok__law_draw tb sm) (by decide) T.D__law_draw (L2.pv 0) (pda_cons (pd_var 2) (pda_nil)))) L2.set_list) (pd_bin S .add (pd_int) (pd_fnS S Z (T.ok__law_draw tb sm) (by decide) T.D__law_draw (L2.pv 0) (pda_cons (pd_int) (pda_nil)))))) (ssd_nil))
    (ssd_cons (sd_if (pt_cmpD S .eq (pd_var 3) (pd_int)) (ssd_cons (sd_set S (i := 6) rfl (Or.inr rfl) (pd_bin S .add (pd_int) (pd_fnS S Z (T.ok__law_draw tb sm) (by decide) T.D__law_draw (L2.pv 0) (pda_cons (pd_call2 S (c_min2 S.calm) T.g_min (pd_var 2) (pd_int)) (pda_nil)))))
    (ssd_one (sd_rel S 5 (sd_own S (i := 5) rfl (Or.inr rfl) (pf_comp S (t := .nm 7) [("_law_k", 7)] (pi_rng1D (pd_var 2) T.g_range) (L2.blkOk_by (N := ["_law_stream_here", "_law_most", "_law_size", "_law_way", "_law_top", "_law_found", "_law_part", "_law_k"]) (sc := L2.defScope s__law_row_drawn) (by decide +kernel)) (by decide) (fun _ _ _ _ _ => L2.pg_name (i := 7) S.nd rfl (Or.inl rfl)) (fun _ _ _ _ _ S => pdts_nil) (fun _ _ _ _ _ S => pd_ix S (pd_var 5) (pd_bin S .mod (pd_var 7) (pd_var 6)))))))) (ssd_nil))
    (ssd_one (sd_rel S 5 (sd_ret (pd_callT1 S c_tuple T.g_tuple (pd_var 5)))))))))
theorem Txt.ok__law_reason (T : Txt K mg) (tb : TabF K mg base ks) (sm : HasSm base) : FnG true P w K mg base 2 (He.ga K "_law_reason") T.fd__law_reason ["_law_value"] (spF K mg w__law_reason_0) :=
  fn_pure sm T.F__law_reason sc__law_reason (by decide) fun cdv A outer s H E p S Z hp => ssd_cons (sd_if (PDW.pt (pw_orD (pt_notD (pt_tru (pd_is S .tuple (pd_var 0) T.g_isinstance T.g_tuple))) (pw_or1D (pt_notD (pt_chainD S .le .le (pd_int) (pd_call1 S c_len T.g_len (pd_var 0)) (pd_int)))))) (ssd_one (sd_ret (pd_tup S (pda_cons (pd_non) (pda_cons (pd_str) (pda_nil)))))) (ssd_nil))
    (ssd_cons (sd_comp S (i := 1) (t := .nm 2) [("_law_index", 2)] rfl rfl (L2.sw_true rfl rfl rfl (by decide +kernel)) (pi_rng1D (pd_call1 S c_len T.g_len (pd_var 0)) T.g_range) (L2.blkOk_by (N := ["_law_value", "_law_wrong", "_law_index"]) (sc := L2.defScope s__law_reason) (by decide +kernel)) (by decide) (fun _ _ _ _ _ => L2.pg_name (i := 2) S.nd rfl (Or.inl rfl)) (fun _ _ _ _ _ S => pdts_one (pt_notD (pt_tru (pd_fn S (T.ok__law_is_int tb sm) (by decide) T.D__law_is_int (pda_cons (pd_ix S (pd_var 0) (pd_var 2)) (pda_cons (pd_int) (pda_cons (pd_int) (pda_nil)))))))) (fun _ _ _ _ _ S => pd_var 2))
    (ssd_one (sd_ret (pd_if (pt_cmpD S .ne (pd_var 1) (pd_lst S (pda_nil))) (pd_tup S (pda_cons (pd_ix S (pd_var 1) (pd_int)) (pda_cons (pd_str) (pda_nil)))) (pd_non)))))
theorem Txt.ok_row_error (T : Txt K mg) (tb : TabF K mg base ks) (sm : HasSm base) : FnG true P w K mg base 3 (He.ga K "row_error") T.fd_row_error ["value"] (spF K mg w_row_error_0) :=
  fn_pure sm T.F_row_error sc_row_error (by decide) fun cdv A outer s H E p S Z hp => ssd_cons (sd_if (PDW.pt (pw_orD (pt_notD (pt_tru (pd_is S .tuple (pd_var 0) T.g_isinstance T.g_tuple))) (pw_or1D (pt_notD (pt_chainD S .le .le (pd_int) (pd_call1 S c_len T.g_len (pd_var 0)) (pd_glob T.g_MAX_WORDS)))))) (ssd_one (sd_ret (pd_tup S (pda_cons (pd_non) (pda_cons (pd_str) (pda_nil)))))) (ssd_nil))
    (ssd_cons (sd_for S (t := .tp [1, 2]) (pi_enum1D (pd_var 0) T.g_enumerate) (pg_tl S.calm (L2.pgs_cons (L2.pg_name (i := 1) S.nd rfl (Or.inl rfl)) (L2.pgs_cons (L2.pg_name (i := 2) S.nd rfl (Or.inl rfl)) (L2.pgs_nil)))) (ssd_one (sd_if (pt_notD (pt_tru (pd_fn S (T.ok_is_length tb sm) (by decide) T.D_is_length (pda_cons (pd_var 2) (pda_nil))))) (ssd_one (sd_ret (pd_tup S (pda_cons (pd_var 1) (pda_cons (pd_str) (pda_nil)))))) (ssd_nil))))
    (ssd_one (sd_ret (pd_non))))
theorem Txt.ok__law_expected (T : Txt K mg) (tb : TabF K mg base ks) (sm : HasSm base) : FnG true P w K mg base 3 (He.ga K "_law_expected") T.fd__law_expected ["_law_value"] (spF K mg w__law_expected_0) :=
  fn_pure sm T.F__law_expected sc__law_expected (by decide) fun cdv A outer s H E p S Z hp => ssd_cons (sd_set S (i := 1) rfl (Or.inl rfl) (pd_fn S (T.ok__law_reason tb sm) (by decide) T.D__law_reason (pda_cons (pd_var 0) (pda_nil))))
    (ssd_one (sd_ret (pd_if (pt_cmpD S .isN (pd_var 1) (pd_non)) (pd_lst S (pda_cons (pd_str) (pda_cons (pd_var 0) (pda_nil)))) (pd_lst S (pda_cons (pd_str) (pda_cons (pd_var 1) (pda_nil)))))))
theorem Txt.ok_WR_init (T : Txt K mg) (tb : TabF K mg base ks) (sm : HasSm base) : FnG true P w K mg base 4 (He.ma K (wrC K) "__init__") T.fd_WR_init ["self", "row"] (spI K mg w_WR_init_0) :=
  fn_init sm T.W.f T.F_WR_init sc_WR_init (by decide) rfl (fun _ _ _ _ _ _ => L2.ps_fld (L2.pv 0) (L2.pv 1) rfl) (fun cdv A outer s H E p S Z hp => sd_set S (i := 2) rfl (Or.inl rfl) (pd_fn S (T.ok_row_error tb sm) (by decide) T.D_row_error (pda_cons (pd_var 1) (pda_nil)))) (fun cdv A outer s H E p S Z hp => sd_if (pt_cmpD S .notN (pd_var 2) (pd_non)) (ssd_one (sd_raise1 S T.E_BadRow T.m_BadRow (pd_var 2))) (ssd_nil))
theorem Txt.ok_WR_of (T : Txt K mg) (tb : TabF K mg base ks) (sm : HasSm base) : FnV true P w K mg base 6 (ofG K) (spOf K mg w_WR_init_0) :=
  fn_of sm T.F_WR_of sc_WR_of (by decide) T.MK (T.ok_WR_init tb sm) T.B_WR_init (fun _ _ _ _ _ _ _ rest => by cases rest <;> rfl) rfl fun _ _ _ _ _ _ => ⟨L2.pv 0, L2.pv 1, by rfl, by rfl⟩
theorem Txt.okr__law_bent (T : Txt K mg) (tb : TabF K mg base ks) (sm : HasSm base) : ∀ n : Nat, FnG true P w K mg base (2 + n) (He.ga K "_law_bent") T.fd__law_bent ["_law_stream_here", "_law_value", "_law_deep"] (spS K mg (recF w__law_bent_0F n))
  | 0 => FnG.stuckS
  | n + 1 => have ih := T.okr__law_bent tb sm n
    fn_str sm T.F__law_bent sc__law_bent (by decide) fun cdv A outer s H E p S Z hp => ssd_cons (sd_if (PDW.pt (pw_andD (pt_cmpD S .gt (pd_var 2) (pd_int)) (pw_andD (pt_tru (pd_is S .tuple (pd_var 1) T.g_isinstance T.g_tuple)) (pw_andD (pt_cmpD S .ne (pd_var 1) (pd_tup S (pda_nil))) (pw_and1D (pt_cmpD S .gt (pd_fnS S Z (T.ok__law_draw tb sm) (Nat.le_trans (show 1 ≤ 2 by decide) (Nat.le_add_right _ _)) T.D__law_draw (L2.pv 0) (pda_cons (pd_int) (pda_nil))) (pd_int))))))) (ssd_cons (sd_set S (i := 3) rfl (Or.inl rfl) (pd_fnS S Z (T.ok__law_draw tb sm) (Nat.le_trans (show 1 ≤ 2 by decide) (Nat.le_add_right _ _)) T.D__law_draw (L2.pv 0) (pda_cons (pd_call1 S c_len T.g_len (pd_var 1)) (pda_nil))))
    (ssd_one (sd_ret (pd_bin S .add (pd_bin S .add (pd_cut S (pd_var 1) (pdo_none) (pdo_some (pd_var 3))) (pd_tup S (pda_cons (pd_fnS S Z ih (Nat.le_refl _) T.D__law_bent (L2.pv 0) (pda_cons (pd_ix S (pd_var 1) (pd_var 3)) (pda_cons (pd_bin S .sub (pd_var 2) (pd_int)) (pda_nil)))) (pda_nil)))) (pd_cut S (pd_var 1) (pdo_some (pd_bin S .add (pd_var 3) (pd_int))) (pdo_none)))))) (ssd_nil))
    (ssd_cons (sd_set S (i := 4) rfl (Or.inl rfl) (pd_lst S (pda_cons (pd_fnS S Z (T.ok__law_odd tb sm) (Nat.le_trans (show 2 ≤ 2 by decide) (Nat.le_add_right _ _)) T.D__law_odd (L2.pv 0) (pda_nil)) (pda_cons (pd_fnS S Z (T.ok__law_odd tb sm) (Nat.le_trans (show 2 ≤ 2 by decide) (Nat.le_add_right _ _)) T.D__law_odd (L2.pv 0) (pda_nil)) (pda_cons (pd_tup S (pda_cons (pd_int) (pda_cons (pd_int) (pda_nil)))) (pda_cons (pd_int) (pda_nil)))))))
    (ssd_cons (sd_if (pt_tru (pd_is S .tuple (pd_var 1) T.g_isinstance T.g_tuple)) (ssd_one (sd_set S (i := 4) rfl (Or.inl rfl) (pd_bin S .add (pd_var 4) (pd_lst S (pda_cons (pd_callT1 S c_list T.g_list (pd_var 1)) (pda_cons (pd_cut S (pd_var 1) (pdo_some (pd_int)) (pdo_none)) (pda_cons (pd_bin S .add (pd_var 1) (pd_cut S (pd_var 1) (pdo_some (pd_neg S (pd_int))) (pdo_none))) (pda_cons (pd_rev S (pd_var 1)) (pda_cons (pd_tup S (pda_cons (pd_var 1) (pda_nil))) (pda_cons (pd_bin S .add (pd_var 1) (pd_tup S (pda_cons (pd_non) (pda_nil)))) (pda_cons (pd_cut S (pd_var 1) (pdo_none) (pdo_some (pd_neg S (pd_int)))) (pda_nil)))))))))))) (ssd_one (sd_if (pt_tru (pd_is S .str (pd_var 1) T.g_isinstance T.g_str)) (ssd_one (sd_set S (i := 4) rfl (Or.inl rfl) (pd_bin S .add (pd_var 4) (pd_lst S (pda_cons (pd_bin S .add (pd_var 1) (pd_str)) (pda_cons (pd_cut S (pd_var 1) (pdo_some (pd_int)) (pdo_none)) (pda_cons (pd_up (pd_var 1)) (pda_cons (pd_bin S .add (pd_var 1) (pd_str)) (pda_cons (pd_lst S (pda_cons (pd_var 1) (pda_nil))) (pda_nil)))))))))) (ssd_one (sd_if (pt_tru (pd_is S .int (pd_var 1) T.g_isinstance T.g_int)) (ssd_one (sd_set S (i := 4) rfl (Or.inl rfl) (pd_bin S .add (pd_var 4) (pd_lst S (pda_cons (pd_bin S .add (pd_var 1) (pd_int)) (pda_cons (pd_bin S .sub (pd_var 1) (pd_int)) (pda_cons (pd_int) (pda_cons (pd_int) (pda_cons (pd_callT1 S c_str T.g_str (pd_var 1)) (pda_cons (pd_cmp S .eq (pd_var 1) (pd_int)) (pda_nil))))))))))) (ssd_nil))))))
    (ssd_one (sd_ret (pd_fnS S Z (T.ok__law_pick tb sm) (Nat.le_trans (show 2 ≤ 2 by decide) (Nat.le_add_right _ _)) T.D__law_pick (L2.pv 0) (pda_cons (pd_var 4) (pda_nil)))))))
theorem Txt.ok__law_bent (T : Txt K mg) (tb : TabF K mg base ks) (sm : HasSm base) : FnG true P w K mg base 8 (He.ga K "_law_bent") T.fd__law_bent ["_law_stream_here", "_law_value", "_law_deep"] (spS K mg w__law_bent_0) := T.okr__law_bent tb sm 6
theorem Txt.ok__law_told (T : Txt K mg) (tb : TabF K mg base ks) (sm : HasSm base) : FnL true P w K mg base 8 7 (He.ga K "_law_told") T.fd__law_told ["_law_call"] false w__law_told_22 :=
  fn_goL (b := false) (j := 7) sm T.F__law_told sc__law_told (by decide) fun φ cdv A outer s H E p S Z hp LZ => ssd_one (sd_try S rfl rfl rfl (try_ret (fun _ _ _ S Y => have LZ := LZ.sub Y; pd_lst S (pda_cons (pd_str) (pda_cons (pd_prop S T.W.f (T.ok_WR_row tb sm) (by decide) T.P_row T.B_WR_row (pd_callF0 S LZ (by decide))) (pda_nil))))) (.named (i := 1) rfl rfl (.one (nmC_own T.p_WrapError T.m_WrapError)) (fun _ _ S => ssd_one (sd_ret (pd_lst S (pda_cons (pd_fn S (T.ok__law_name tb sm) (by decide) T.D__law_name (pda_cons (pd_var 1) (pda_nil))) (pda_cons (pd_fn S (T.ok__law_field tb sm) (by decide) T.D__law_field (pda_cons (pd_var 1) (pda_nil))) (pda_nil)))))) (.nil)))
theorem Txt.ok__law_of_right (T : Txt K mg) (tb : TabF K mg base ks) (sm : HasSm base) : FnG true P w K mg base 9 (He.ga K "_law_of_right") T.fd__law_of_right ["_law_stream_here"] (spS K mg w__law_of_right_0) :=
  fn_goC (b := true) sm T.F__law_of_right sc__law_of_right (by decide) fun cdv A outer s H E p hcd S Z hp => have hC := codeIs_of tb (by decide) hcd rfl rfl; ssd_cons (sd_put S (t := .tp [3, 5]) (pg_tl S.calm (L2.pgs_cons (L2.pg_name (i := 3) S.nd rfl (Or.inr rfl)) (L2.pgs_cons (L2.pg_name (i := 5) S.nd rfl (Or.inr rfl)) (L2.pgs_nil)))) (pd_tup S (pda_cons (pd_ix S (pd_lst S (pda_cons (pd_fnS S Z (T.ok__law_odd tb sm) (by decide) T.D__law_odd (L2.pv 0) (pda_nil)) (pda_cons (pd_bin S .add (pd_int) (pd_fnS S Z (T.ok__law_draw tb sm) (by decide) T.D__law_draw (L2.pv 0) (pda_cons (pd_int) (pda_nil)))) (pda_nil)))) (pd_fnS S Z (T.ok__law_draw tb sm) (by decide) T.D__law_draw (L2.pv 0) (pda_cons (pd_int) (pda_nil)))) (pda_cons (pd_fnS S Z (T.ok__law_odd tb sm) (by decide) T.D__law_odd (L2.pv 0) (pda_nil)) (pda_nil)))))
    (ssd_cons (sd_set S (i := 4) rfl (Or.inr rfl) (pd_bin S .add (pd_int) (pd_fnS S Z (T.ok__law_draw tb sm) (by decide) T.D__law_draw (L2.pv 0) (pda_cons (pd_int) (pda_nil)))))
    (ssd_cons (sd_own S (i := 1) rfl (Or.inl rfl) (pf_lst S (pda_cons (pd_told S Z hC (T.ok__law_told tb sm) (by decide) T.D__law_told (LamX.lamS_by (sc := L2.defScope s__law_of_right) (by decide +kernel)) (fun _ _ _ _ _ _ _ _ S Z hp => pd_ofW0 S T.OF.r T.OF.c (T.ok_WR_of tb sm) (by decide) T.m_WordRow)) (pda_nil))))
    (ssd_cons (sd_app S 1 (pd_told S Z hC (T.ok__law_told tb sm) (by decide) T.D__law_told (LamX.lamS_by (sc := L2.defScope s__law_of_right) (by decide +kernel)) (fun _ _ _ _ _ _ _ _ S Z hp => pd_ofW S T.OF.r T.OF.c (T.ok_WR_of tb sm) (by decide) T.m_WordRow (pda_cons (pd_var 3) (pda_nil)))) (fun h => L2.pe_bm PySem.F.plainAttrs_list PySem.F.slot_list_append PySem.F.type_list_append L2.mt_append (L2.pv 1) (L2.pa_cons h L2.pa_nil)))
    (ssd_cons (sd_app S 1 (pd_told S Z hC (T.ok__law_told tb sm) (by decide) T.D__law_told (LamX.lamS_by (sc := L2.defScope s__law_of_right) (by decide +kernel)) (fun _ _ _ _ _ _ _ _ S Z hp => pd_ofW S T.OF.r T.OF.c (T.ok_WR_of tb sm) (by decide) T.m_WordRow (pda_cons (pd_var 4) (pda_cons (pd_var 3) (pda_nil))))) (fun h => L2.pe_bm PySem.F.plainAttrs_list PySem.F.slot_list_append PySem.F.type_list_append L2.mt_append (L2.pv 1) (L2.pa_cons h L2.pa_nil)))
    (ssd_cons (sd_app S 1 (pd_told S Z hC (T.ok__law_told tb sm) (by decide) T.D__law_told (LamX.lamS_by (sc := L2.defScope s__law_of_right) (by decide +kernel)) (fun _ _ _ _ _ _ _ _ S Z hp => pd_ofW S T.OF.r T.OF.c (T.ok_WR_of tb sm) (by decide) T.m_WordRow (pda_cons (pd_var 3) (pda_cons (pd_var 5) (pda_nil))))) (fun h => L2.pe_bm PySem.F.plainAttrs_list PySem.F.slot_list_append PySem.F.type_list_append L2.mt_append (L2.pv 1) (L2.pa_cons h L2.pa_nil)))
    (ssd_cons (sd_app S 1 (pd_told S Z hC (T.ok__law_told tb sm) (by decide) T.D__law_told (LamX.lamS_by (sc := L2.defScope s__law_of_right) (by decide +kernel)) (fun _ _ _ _ _ _ _ _ S Z hp => pd_ofW S T.OF.r T.OF.c (T.ok_WR_of tb sm) (by decide) T.m_WordRow (pda_cons (pd_var 4) (pda_cons (pd_var 4) (pda_cons (pd_var 3) (pda_cons (pd_var 4) (pda_nil))))))) (fun h => L2.pe_bm PySem.F.plainAttrs_list PySem.F.slot_list_append PySem.F.type_list_append L2.mt_append (L2.pv 1) (L2.pa_cons h L2.pa_nil)))
    (ssd_cons (sd_set S (i := 2) rfl (Or.inl rfl) (pd_lst S (pda_cons (pd_tup S (pda_nil)) (pda_cons (pd_tup S (pda_cons (pd_var 3) (pda_nil))) (pda_cons (pd_tup S (pda_cons (pd_var 4) (pda_cons (pd_var 3) (pda_nil)))) (pda_cons (pd_tup S (pda_cons (pd_var 3) (pda_cons (pd_var 5) (pda_nil)))) (pda_cons (pd_tup S (pda_cons (pd_var 4) (pda_cons (pd_var 4) (pda_cons (pd_var 3) (pda_cons (pd_var 4) (pda_nil)))))) (pda_nil))))))))
    (ssd_one (sd_rel S 1 (sd_ret (pd_cmp S .eq (pd_call1 S (c_repr S) T.g_repr (pd_var 1)) (pd_call1 S (c_repr S) T.g_repr (PDF.pd (pf_comp S (t := .nm 6) [("_law_value", 6)] (pi_seq (pd_var 2)) (L2.blkOk_by (N := ["_law_stream_here", "_law_told_here", "_law_due", "_law_one", "_law_three", "_law_two", "_law_value"]) (sc := L2.defScope s__law_of_right) (by decide +kernel)) (by decide) (fun _ _ _ _ _ => L2.pg_name (i := 6) S.nd rfl (Or.inl rfl)) (fun _ _ _ _ _ S => pdts_nil) (fun _ _ _ _ _ S => pd_fn S (T.ok__law_expected tb sm) (by decide) T.D__law_expected (pda_cons (pd_var 6) (pda_nil)))))))))))))))))
theorem Txt.ok_law (T : Txt K mg) (tb : TabF K mg base ks) (sm : HasSm base) (math : MathT m_law (lawE 10 1) ks) : FnG true P w K mg base 10 (He.ga K "law") T.fd_law ["_law_script"] (spLawT K ks) :=
  fn_lawT sm tb (i := 1) T.F_law sc_law (by decide) (by decide) (T.ok__law_stream tb sm) (by decide : 1 ≤ 9) (fun cdv A outer s H E hcd => ⟨_, fun ts hr hg hx h => L2.pss_cons (L2.ps_set (i := 1) sc_law.nd rfl (Or.inl rfl) (pe_G (T.ok__law_stream tb sm) (hr.mono (by decide)) hg T.D__law_stream.mg T.D__law_stream.kp T.D__law_stream.bd hx (L2.pa_cons (L2.pv 0) L2.pa_nil))) h, fun p S Z hp => have hC := codeIs_of tb (by decide) hcd rfl rfl; ssd_cons (sd_set S (i := 2) rfl (Or.inl rfl) (pd_lst S (pda_cons (pd_tup S (pda_nil)) (pda_cons (pd_tup S (pda_cons (pd_int) (pda_nil))) (pda_cons (pd_tup S (pda_cons (pd_int) (pda_nil))) (pda_cons (pd_tup S (pda_cons (pd_int) (pda_nil))) (pda_cons (pd_tup S (pda_cons (pd_int) (pda_nil))) (pda_cons (pd_tup S (pda_cons (pd_bl) (pda_nil))) (pda_cons (pd_bin S .mul (pd_tup S (pda_cons (pd_int) (pda_nil))) (pd_int)) (pda_cons (pd_bin S .mul (pd_tup S (pda_cons (pd_int) (pda_nil))) (pd_int)) (pda_cons (pd_lst S (pda_cons (pd_int) (pda_nil))) (pda_cons (pd_tup S (pda_cons (pd_int) (pda_cons (pd_int) (pda_cons (pd_int) (pda_nil))))) (pda_cons (pd_tup S (pda_cons (pd_int) (pda_cons (pd_int) (pda_nil)))) (pda_cons (pd_tup S (pda_cons (pd_int) (pda_cons (pd_non) (pda_nil)))) (pda_cons (pd_str) (pda_nil))))))))))))))))
    (ssd_cons (sd_for S (t := .nm 3) (pi_rng1D (pd_int) T.g_range) (L2.pg_name (i := 3) S.nd rfl (Or.inl rfl)) (ssd_cons (sd_set S (i := 4) rfl (Or.inl rfl) (pd_fnS S Z (T.ok__law_row_drawn tb sm) (by decide) T.D__law_row_drawn (L2.pv 1) (pda_cons (pd_int) (pda_nil))))
    (ssd_cons (sd_set S (i := 5) rfl (Or.inl rfl) (pd_bin S .add (pd_var 2) (pd_lst S (pda_cons (pd_var 4) (pda_cons (pd_callT1 S c_list T.g_list (pd_var 4)) (pda_cons (pd_tup S (pda_cons (pd_var 4) (pda_nil))) (pda_cons (pd_bin S .add (pd_var 4) (pd_tup S (pda_cons (pd_int) (pda_nil)))) (pda_cons (pd_fnS S Z (T.ok__law_odd tb sm) (by decide) T.D__law_odd (L2.pv 1) (pda_nil)) (pda_cons (pd_tup S (pda_cons (pd_fnS S Z (T.ok__law_odd tb sm) (by decide) T.D__law_odd (L2.pv 1) (pda_nil)) (pda_cons (pd_int) (pda_nil)))) (pda_nil))))))))))
    (ssd_cons (sd_for S (t := .nm 6) (pi_rng1D (pd_int) T.g_range) (L2.pg_name (i := 6) S.nd rfl (Or.inl rfl)) (ssd_cons (sd_set S (i := 7) rfl (Or.inl rfl) (pd_fnS S Z (T.ok__law_bent tb sm) (by decide) T.D__law_bent (L2.pv 1) (pda_cons (pd_var 4) (pda_cons (pd_int) (pda_nil)))))
    (ssd_one (sd_set S (i := 5) rfl (Or.inl rfl) (pd_bin S .add (pd_var 5) (pd_lst S (pda_cons (pd_var 7) (pda_cons (pd_fnS S Z (T.ok__law_bent tb sm) (by decide) T.D__law_bent (L2.pv 1) (pda_cons (pd_var 7) (pda_cons (pd_int) (pda_nil)))) (pda_nil)))))))))
    (ssd_cons (sd_for S (t := .nm 9) (pi_seq (pd_var 5)) (L2.pg_name (i := 9) S.nd rfl (Or.inr rfl)) (ssd_cons (sd_set S (i := 8) rfl (Or.inl rfl) (pd_call1 S (c_repr S) T.g_repr (pd_var 9)))
    (ssd_one (sd_if (PDW.pt (pw_orD (pt_cmpD S .ne (pd_call1 S (c_repr S) T.g_repr (pd_told S Z hC (T.ok__law_told tb sm) (by decide) T.D__law_told (LamX.lamS_by (sc := L2.defScope s_law) (by decide +kernel)) (fun _ _ _ _ _ _ _ _ S Z hp => pd_mkW S T.MK (T.ok_WR_init tb sm) (by decide) T.B_WR_init T.m_WordRow (pd_var 9)))) (pd_call1 S (c_repr S) T.g_repr (pd_fn S (T.ok__law_expected tb sm) (by decide) T.D__law_expected (pda_cons (pd_var 9) (pda_nil))))) (pw_or1D (pt_cmpD S .ne (pd_call1 S (c_repr S) T.g_repr (pd_var 9)) (pd_var 8))))) (ssd_one (sd_ret (pd_bl))) (ssd_nil)))))
    (ssd_one (sd_if (pt_notD (pt_tru (pd_fnS S Z (T.ok__law_of_right tb sm) (by decide) T.D__law_of_right (L2.pv 1) (pda_nil)))) (ssd_one (sd_ret (pd_bl))) (ssd_nil))))))))
    (ssd_one (sd_ret (pd_bl))))⟩) math
end
def d__wall : He.DefD := ⟨("_wall", none), "_wall", "_wall", L2.defArgs s__wall, L2.defBody s__wall, L2.defScope s__wall, [], []⟩
def d_is_integer : He.DefD := ⟨("is_integer", none), "is_integer", "is_integer", L2.defArgs s_is_integer, L2.defBody s_is_integer, L2.defScope s_is_integer, [], []⟩
def d_is_length : He.DefD := ⟨("is_length", none), "is_length", "is_length", L2.defArgs s_is_length, L2.defBody s_is_length, L2.defScope s_is_length, [], []⟩
def d_row_error : He.DefD := ⟨("row_error", none), "row_error", "row_error", L2.defArgs s_row_error, L2.defBody s_row_error, L2.defScope s_row_error, [], []⟩
def d_check_place : He.DefD := ⟨("check_place", none), "check_place", "check_place", L2.defArgs s_check_place, L2.defBody s_check_place, L2.defScope s_check_place, [], []⟩
def d_extent_of : He.DefD := ⟨("extent_of", none), "extent_of", "extent_of", L2.defArgs s_extent_of, L2.defBody s_extent_of, L2.defScope s_extent_of, [], []⟩
def d_joined : He.DefD := ⟨("joined", none), "joined", "joined", L2.defArgs s_joined, L2.defBody s_joined, L2.defScope s_joined, [], []⟩
def d_check_fits : He.DefD := ⟨("check_fits", none), "check_fits", "check_fits", L2.defArgs s_check_fits, L2.defBody s_check_fits, L2.defScope s_check_fits, [], []⟩
def d_next_start : He.DefD := ⟨("next_start", none), "next_start", "next_start", L2.defArgs s_next_start, L2.defBody s_next_start, L2.defScope s_next_start, [], []⟩
def d_starts_of : He.DefD := ⟨("starts_of", none), "starts_of", "starts_of", L2.defArgs s_starts_of, L2.defBody s_starts_of, L2.defScope s_starts_of, [], []⟩
def d_starts_at : He.DefD := ⟨("starts_at", none), "starts_at", "starts_at", L2.defArgs s_starts_at, L2.defBody s_starts_at, L2.defScope s_starts_at, [], []⟩
def d_check_width : He.DefD := ⟨("check_width", none), "check_width", "check_width", L2.defArgs s_check_width, L2.defBody s_check_width, L2.defScope s_check_width, [], []⟩
def d__law_stream : He.DefD := ⟨("_law_stream", none), "_law_stream", "_law_stream", L2.defArgs s__law_stream, L2.defBody s__law_stream, L2.defScope s__law_stream, [], []⟩
def d__law_draw : He.DefD := ⟨("_law_draw", none), "_law_draw", "_law_draw", L2.defArgs s__law_draw, L2.defBody s__law_draw, L2.defScope s__law_draw, [], []⟩
def d__law_pick : He.DefD := ⟨("_law_pick", none), "_law_pick", "_law_pick", L2.defArgs s__law_pick, L2.defBody s__law_pick, L2.defScope s__law_pick, [], []⟩
def d__law_odd : He.DefD := ⟨("_law_odd", none), "_law_odd", "_law_odd", L2.defArgs s__law_odd, L2.defBody s__law_odd, L2.defScope s__law_odd, [], []⟩
def d__law_is_int : He.DefD := ⟨("_law_is_int", none), "_law_is_int", "_law_is_int", L2.defArgs s__law_is_int, L2.defBody s__law_is_int, L2.defScope s__law_is_int, [], []⟩
def d__law_row_drawn : He.DefD := ⟨("_law_row_drawn", none), "_law_row_drawn", "_law_row_drawn", L2.defArgs s__law_row_drawn, L2.defBody s__law_row_drawn, L2.defScope s__law_row_drawn, [], []⟩
def d__law_name : He.DefD := ⟨("_law_name", none), "_law_name", "_law_name", L2.defArgs s__law_name, L2.defBody s__law_name, L2.defScope s__law_name, [], []⟩
def d__law_field : He.DefD := ⟨("_law_field", none), "_law_field", "_law_field", L2.defArgs s__law_field, L2.defBody s__law_field, L2.defScope s__law_field, [], []⟩
def d__law_bent : He.DefD := ⟨("_law_bent", none), "_law_bent", "_law_bent", L2.defArgs s__law_bent, L2.defBody s__law_bent, L2.defScope s__law_bent, [], []⟩
def d__law_reason : He.DefD := ⟨("_law_reason", none), "_law_reason", "_law_reason", L2.defArgs s__law_reason, L2.defBody s__law_reason, L2.defScope s__law_reason, [], []⟩
def d__law_told : He.DefD := ⟨("_law_told", none), "_law_told", "_law_told", L2.defArgs s__law_told, L2.defBody s__law_told, L2.defScope s__law_told, [], []⟩
def d__law_expected : He.DefD := ⟨("_law_expected", none), "_law_expected", "_law_expected", L2.defArgs s__law_expected, L2.defBody s__law_expected, L2.defScope s__law_expected, [], []⟩
def d__law_of_right : He.DefD := ⟨("_law_of_right", none), "_law_of_right", "_law_of_right", L2.defArgs s__law_of_right, L2.defBody s__law_of_right, L2.defScope s__law_of_right, [], []⟩
def d_law : He.DefD := ⟨("law", none), "law", "law", L2.defArgs s_law, L2.defBody s_law, L2.defScope s_law, [], []⟩
def di_TooMany : He.DefD := ⟨("TooMany", some "__init__"), "__init__", "TooMany.__init__", L2.defArgs i_TooMany, L2.defBody i_TooMany, L2.defScope i_TooMany, [], []⟩
def di_TooNarrow : He.DefD := ⟨("TooNarrow", some "__init__"), "__init__", "TooNarrow.__init__", L2.defArgs i_TooNarrow, L2.defBody i_TooNarrow, L2.defScope i_TooNarrow, [], []⟩
def di_BadRow : He.DefD := ⟨("BadRow", some "__init__"), "__init__", "BadRow.__init__", L2.defArgs i_BadRow, L2.defBody i_BadRow, L2.defScope i_BadRow, [], []⟩
def di_NoPlace : He.DefD := ⟨("NoPlace", some "__init__"), "__init__", "NoPlace.__init__", L2.defArgs i_NoPlace, L2.defBody i_NoPlace, L2.defScope i_NoPlace, [], []⟩
def di_NoWidth : He.DefD := ⟨("NoWidth", some "__init__"), "__init__", "NoWidth.__init__", L2.defArgs i_NoWidth, L2.defBody i_NoWidth, L2.defScope i_NoWidth, [], []⟩
def d_WR_init : He.DefD := ⟨("WordRow", some "__init__"), "__init__", "WordRow.__init__", L2.defArgs s_WR_init, L2.defBody s_WR_init, L2.defScope s_WR_init, [], []⟩
def a_WR_of : DefA := ⟨fun K => (ofG K), "of", "WordRow.of", L2.defArgs s_WR_of, L2.defBody s_WR_of, L2.defScope s_WR_of, none, []⟩
def a_WR_row : DefA := ⟨fun K => (prG K "row"), "row", "WordRow.row", L2.defArgs s_WR_row, L2.defBody s_WR_row, L2.defScope s_WR_row, none, []⟩
def fpl : List DefA := [a_WR_of, a_WR_row]
def fnl : List He.DefD := [d__wall, d_is_integer, d_is_length, d_row_error, d_check_place, d_extent_of, d_joined, d_check_fits, d_next_start, d_starts_of, d_starts_at, d_check_width, d__law_stream, d__law_draw, d__law_pick, d__law_odd, d__law_is_int, d__law_row_drawn, d__law_name, d__law_field, d__law_bent, d__law_reason, d__law_told, d__law_expected, d__law_of_right, d_law, di_TooMany, di_TooNarrow, di_BadRow, di_NoPlace, di_NoWidth, d_WR_init]
def exl (K : PySem.W.Frag) : Bool := smB K && (errZB K "NoRows" .ve) && (errTB K "TooMany" .ve) && (errTB K "TooNarrow" .ve) && (errTB K "BadRow" .ve) && (errTB K "NoPlace" .le) && (errTB K "NoWidth" .le) && wrB K && ofB K && propB K "row"
def fal : List He.Fa := [.glo "_wall", .glo "is_integer", .glo "is_length", .glo "row_error", .glo "check_place", .glo "extent_of", .glo "joined", .glo "check_fits", .glo "next_start", .glo "starts_of", .glo "starts_at", .glo "check_width", .glo "_law_stream", .glo "_law_draw", .glo "_law_pick", .glo "_law_odd", .glo "_law_is_int", .glo "_law_row_drawn", .glo "_law_name", .glo "_law_field", .glo "_law_bent", .glo "_law_reason", .glo "_law_told", .glo "_law_expected", .glo "_law_of_right", .glo "law", .free "LookupError", .free "ValueError", .free "abs", .free "bool", .free "enumerate", .free "int", .free "isinstance", .free "len", .free "list", .free "min", .free "range", .free "repr", .free "str", .free "sum", .free "tuple", .int "MAX_LENGTH" (60), .int "MAX_WIDTH" (2000), .int "MAX_WORDS" (24), .glo "WrapError", .glo "NoRows", .glo "TooMany", .glo "TooNarrow", .glo "BadLength", .glo "LastWord", .glo "BadRow", .glo "BadTimes", .glo "TooLong", .glo "TooManyEdits", .glo "NothingToUndo", .glo "BadEdits", .glo "BadEdit", .glo "Rejected", .glo "Busy", .glo "BadText", .glo "NoPlace", .glo "NoWidth", .glo "NoVersion", .glo "WordRow", .mkr "WordRow"]
abbrev R : PySem.W.OpenRow := PySem.W.OpenLaw.row PySem.Challenge.rw_wrapwidths_k63_word_rows_constructed
abbrev hk : PySem.W.Hook := hookWT 5 fal fnl fpl exl ks
def ob (s : PySem.W.SharedT) : AlWT := obsWT 5 fal fnl fpl exl ks (HandSHeadRun.getT s)
theorem ob_eq (s : PySem.W.SharedT) : ob s = hk.obs s.abs := obsWT_eq (HandSHeadRun.getT_eq s)
theorem run (w : World) : HandSHeadRun.RunEq R (PySem.W.view R.prog [53]) hk ob 12000 ("MAX_WORDS" :: "MAX_LENGTH" :: "MAX_WIDTH" :: "WrapError" :: "NoRows" :: "TooMany" :: "TooNarrow" :: "BadLength" :: "LastWord" :: "BadRow" :: "BadTimes" :: "TooLong" :: "TooManyEdits" :: "NothingToUndo" :: "BadEdits" :: "BadEdit" :: "Rejected" :: "Busy" :: "BadText" :: "NoPlace" :: "NoWidth" :: "NoVersion" :: "WordRow" :: "_wall" :: "is_integer" :: "is_length" :: "row_error" :: "check_place" :: "extent_of" :: "joined" :: "check_fits" :: "next_start" :: "starts_of" :: "starts_at" :: "check_width" :: "_law_stream" :: "_law_draw" :: "_law_pick" :: "_law_odd" :: "_law_is_int" :: "_law_row_drawn" :: "_law_name" :: "_law_field" :: "_law_bent" :: "_law_reason" :: "_law_told" :: "_law_expected" :: "_law_of_right" :: []) w := by
  intro os
  kernel_rfl
theorem facts {P : Program} {w : World} {K : PySem.W.Frag} {h : Heap} {mg : Str → Option Value} {f : Addr} (X : K.In h) (G : h.Ns mainGlobals mg) (hfa : mg ("law" : Str) = some (.ref f)) (ch : SaysW fal fnl fpl exl K)
    (math : MathT m_law (lawE 10 1) ks) :
    ∃ fd : FuncData, (∀ (s : Shared) (v : Value), BindsTo s fd ⟨[v], []⟩ [("_law_script", v)]) ∧ ∀ base : Heap, K.In base → base.Ns mainGlobals mg → TabF K mg base ks → FnG true P w K mg base 10 f fd ["_law_script"] (spLawT K ks) := by
  have c := ch.d
  have hx := ch.x
  obtain ⟨fd__wall, F__wall⟩ := c.def_ 0 (d := d__wall) rfl
  have G__wall : mg "_wall" = some (.ref (He.ga K "_wall")) := He.glo_ok X G (c.fact 0 (f := .glo "_wall") rfl)
  have B__wall : L2.Binds K fd__wall ["k"] [] := L2.FunD.bindsN F__wall fun _ _ _ _ _ _ us hl => match us, hl with | [_], _ => rfl
  obtain ⟨fd_is_integer, F_is_integer⟩ := c.def_ 1 (d := d_is_integer) rfl
  have G_is_integer : mg "is_integer" = some (.ref (He.ga K "is_integer")) := He.glo_ok X G (c.fact 1 (f := .glo "is_integer") rfl)
  have B_is_integer : L2.Binds K fd_is_integer ["value", "low", "high"] [] := L2.FunD.bindsN F_is_integer fun _ _ _ _ _ _ us hl => match us, hl with | [_, _, _], _ => rfl
  obtain ⟨fd_is_length, F_is_length⟩ := c.def_ 2 (d := d_is_length) rfl
  have G_is_length : mg "is_length" = some (.ref (He.ga K "is_length")) := He.glo_ok X G (c.fact 2 (f := .glo "is_length") rfl)
  have B_is_length : L2.Binds K fd_is_length ["value"] [] := L2.FunD.bindsN F_is_length fun _ _ _ _ _ _ us hl => match us, hl with | [_], _ => rfl
  obtain ⟨fd_row_error, F_row_error⟩ := c.def_ 3 (d := d_row_error) rfl
  have G_row_error : mg "row_error" = some (.ref (He.ga K "row_error")) := He.glo_ok X G (c.fact 3 (f := .glo "row_error") rfl)
  have B_row_error : L2.Binds K fd_row_error ["value"] [] := L2.FunD.bindsN F_row_error fun _ _ _ _ _ _ us hl => match us, hl with | [_], _ => rfl
  obtain ⟨fd_check_place, F_check_place⟩ := c.def_ 4 (d := d_check_place) rfl
  have G_check_place : mg "check_place" = some (.ref (He.ga K "check_place")) := He.glo_ok X G (c.fact 4 (f := .glo "check_place") rfl)
  have B_check_place : L2.Binds K fd_check_place ["row", "value"] [] := L2.FunD.bindsN F_check_place fun _ _ _ _ _ _ us hl => match us, hl with | [_, _], _ => rfl
  obtain ⟨fd_extent_of, F_extent_of⟩ := c.def_ 5 (d := d_extent_of) rfl
  have G_extent_of : mg "extent_of" = some (.ref (He.ga K "extent_of")) := He.glo_ok X G (c.fact 5 (f := .glo "extent_of") rfl)
  have B_extent_of : L2.Binds K fd_extent_of ["row", "first", "last"] [] := L2.FunD.bindsN F_extent_of fun _ _ _ _ _ _ us hl => match us, hl with | [_, _, _], _ => rfl
  obtain ⟨fd_joined, F_joined⟩ := c.def_ 6 (d := d_joined) rfl
  have G_joined : mg "joined" = some (.ref (He.ga K "joined")) := He.glo_ok X G (c.fact 6 (f := .glo "joined") rfl)
  obtain ⟨fd_check_fits, F_check_fits⟩ := c.def_ 7 (d := d_check_fits) rfl
  have G_check_fits : mg "check_fits" = some (.ref (He.ga K "check_fits")) := He.glo_ok X G (c.fact 7 (f := .glo "check_fits") rfl)
  have B_check_fits : L2.Binds K fd_check_fits ["row", "width"] [] := L2.FunD.bindsN F_check_fits fun _ _ _ _ _ _ us hl => match us, hl with | [_, _], _ => rfl
  obtain ⟨fd_next_start, F_next_start⟩ := c.def_ 8 (d := d_next_start) rfl
  have G_next_start : mg "next_start" = some (.ref (He.ga K "next_start")) := He.glo_ok X G (c.fact 8 (f := .glo "next_start") rfl)
  have B_next_start : L2.Binds K fd_next_start ["row", "width", "start"] [] := L2.FunD.bindsN F_next_start fun _ _ _ _ _ _ us hl => match us, hl with | [_, _, _], _ => rfl
  obtain ⟨fd_starts_of, F_starts_of⟩ := c.def_ 9 (d := d_starts_of) rfl
  have G_starts_of : mg "starts_of" = some (.ref (He.ga K "starts_of")) := He.glo_ok X G (c.fact 9 (f := .glo "starts_of") rfl)
  have B_starts_of : L2.Binds K fd_starts_of ["row", "width"] [] := L2.FunD.bindsN F_starts_of fun _ _ _ _ _ _ us hl => match us, hl with | [_, _], _ => rfl
  obtain ⟨fd_starts_at, F_starts_at⟩ := c.def_ 10 (d := d_starts_at) rfl
  have G_starts_at : mg "starts_at" = some (.ref (He.ga K "starts_at")) := He.glo_ok X G (c.fact 10 (f := .glo "starts_at") rfl)
  have B_starts_at : L2.Binds K fd_starts_at ["row", "width"] [] := L2.FunD.bindsN F_starts_at fun _ _ _ _ _ _ us hl => match us, hl with | [_, _], _ => rfl
  obtain ⟨fd_check_width, F_check_width⟩ := c.def_ 11 (d := d_check_width) rfl
  have G_check_width : mg "check_width" = some (.ref (He.ga K "check_width")) := He.glo_ok X G (c.fact 11 (f := .glo "check_width") rfl)
  have B_check_width : L2.Binds K fd_check_width ["value"] [] := L2.FunD.bindsN F_check_width fun _ _ _ _ _ _ us hl => match us, hl with | [_], _ => rfl
  obtain ⟨fd__law_stream, F__law_stream⟩ := c.def_ 12 (d := d__law_stream) rfl
  have G__law_stream : mg "_law_stream" = some (.ref (He.ga K "_law_stream")) := He.glo_ok X G (c.fact 12 (f := .glo "_law_stream") rfl)
  have B__law_stream : L2.Binds K fd__law_stream ["_law_script"] [] := L2.FunD.bindsN F__law_stream fun _ _ _ _ _ _ us hl => match us, hl with | [_], _ => rfl
  obtain ⟨fd__law_draw, F__law_draw⟩ := c.def_ 13 (d := d__law_draw) rfl
  have G__law_draw : mg "_law_draw" = some (.ref (He.ga K "_law_draw")) := He.glo_ok X G (c.fact 13 (f := .glo "_law_draw") rfl)
  have B__law_draw : L2.Binds K fd__law_draw ["_law_stream_here", "_law_many"] [] := L2.FunD.bindsN F__law_draw fun _ _ _ _ _ _ us hl => match us, hl with | [_, _], _ => rfl
  obtain ⟨fd__law_pick, F__law_pick⟩ := c.def_ 14 (d := d__law_pick) rfl
  have G__law_pick : mg "_law_pick" = some (.ref (He.ga K "_law_pick")) := He.glo_ok X G (c.fact 14 (f := .glo "_law_pick") rfl)
  have B__law_pick : L2.Binds K fd__law_pick ["_law_stream_here", "_law_items"] [] := L2.FunD.bindsN F__law_pick fun _ _ _ _ _ _ us hl => match us, hl with | [_, _], _ => rfl
  obtain ⟨fd__law_odd, F__law_odd⟩ := c.def_ 15 (d := d__law_odd) rfl
  have G__law_odd : mg "_law_odd" = some (.ref (He.ga K "_law_odd")) := He.glo_ok X G (c.fact 15 (f := .glo "_law_odd") rfl)
  have B__law_odd : L2.Binds K fd__law_odd ["_law_stream_here"] [] := L2.FunD.bindsN F__law_odd fun _ _ _ _ _ _ us hl => match us, hl with | [_], _ => rfl
  obtain ⟨fd__law_is_int, F__law_is_int⟩ := c.def_ 16 (d := d__law_is_int) rfl
  have G__law_is_int : mg "_law_is_int" = some (.ref (He.ga K "_law_is_int")) := He.glo_ok X G (c.fact 16 (f := .glo "_law_is_int") rfl)
  have B__law_is_int : L2.Binds K fd__law_is_int ["_law_value", "_law_low", "_law_high"] [] := L2.FunD.bindsN F__law_is_int fun _ _ _ _ _ _ us hl => match us, hl with | [_, _, _], _ => rfl
  obtain ⟨fd__law_row_drawn, F__law_row_drawn⟩ := c.def_ 17 (d := d__law_row_drawn) rfl
  have G__law_row_drawn : mg "_law_row_drawn" = some (.ref (He.ga K "_law_row_drawn")) := He.glo_ok X G (c.fact 17 (f := .glo "_law_row_drawn") rfl)
  have B__law_row_drawn : L2.Binds K fd__law_row_drawn ["_law_stream_here", "_law_most"] [] := L2.FunD.bindsN F__law_row_drawn fun _ _ _ _ _ _ us hl => match us, hl with | [_, _], _ => rfl
  obtain ⟨fd__law_name, F__law_name⟩ := c.def_ 18 (d := d__law_name) rfl
  have G__law_name : mg "_law_name" = some (.ref (He.ga K "_law_name")) := He.glo_ok X G (c.fact 18 (f := .glo "_law_name") rfl)
  have B__law_name : L2.Binds K fd__law_name ["_law_error"] [] := L2.FunD.bindsN F__law_name fun _ _ _ _ _ _ us hl => match us, hl with | [_], _ => rfl
  obtain ⟨fd__law_field, F__law_field⟩ := c.def_ 19 (d := d__law_field) rfl
  have G__law_field : mg "_law_field" = some (.ref (He.ga K "_law_field")) := He.glo_ok X G (c.fact 19 (f := .glo "_law_field") rfl)
  have B__law_field : L2.Binds K fd__law_field ["_law_error"] [] := L2.FunD.bindsN F__law_field fun _ _ _ _ _ _ us hl => match us, hl with | [_], _ => rfl
  obtain ⟨fd__law_bent, F__law_bent⟩ := c.def_ 20 (d := d__law_bent) rfl
  have G__law_bent : mg "_law_bent" = some (.ref (He.ga K "_law_bent")) := He.glo_ok X G (c.fact 20 (f := .glo "_law_bent") rfl)
  have B__law_bent : L2.Binds K fd__law_bent ["_law_stream_here", "_law_value", "_law_deep"] [] := L2.FunD.bindsN F__law_bent fun _ _ _ _ _ _ us hl => match us, hl with | [_, _, _], _ => rfl
  obtain ⟨fd__law_reason, F__law_reason⟩ := c.def_ 21 (d := d__law_reason) rfl
  have G__law_reason : mg "_law_reason" = some (.ref (He.ga K "_law_reason")) := He.glo_ok X G (c.fact 21 (f := .glo "_law_reason") rfl)
  have B__law_reason : L2.Binds K fd__law_reason ["_law_value"] [] := L2.FunD.bindsN F__law_reason fun _ _ _ _ _ _ us hl => match us, hl with | [_], _ => rfl
  obtain ⟨fd__law_told, F__law_told⟩ := c.def_ 22 (d := d__law_told) rfl
  have G__law_told : mg "_law_told" = some (.ref (He.ga K "_law_told")) := He.glo_ok X G (c.fact 22 (f := .glo "_law_told") rfl)
  have B__law_told : L2.Binds K fd__law_told ["_law_call"] [] := L2.FunD.bindsN F__law_told fun _ _ _ _ _ _ us hl => match us, hl with | [_], _ => rfl
  obtain ⟨fd__law_expected, F__law_expected⟩ := c.def_ 23 (d := d__law_expected) rfl
  have G__law_expected : mg "_law_expected" = some (.ref (He.ga K "_law_expected")) := He.glo_ok X G (c.fact 23 (f := .glo "_law_expected") rfl)
  have B__law_expected : L2.Binds K fd__law_expected ["_law_value"] [] := L2.FunD.bindsN F__law_expected fun _ _ _ _ _ _ us hl => match us, hl with | [_], _ => rfl
  obtain ⟨fd__law_of_right, F__law_of_right⟩ := c.def_ 24 (d := d__law_of_right) rfl
  have G__law_of_right : mg "_law_of_right" = some (.ref (He.ga K "_law_of_right")) := He.glo_ok X G (c.fact 24 (f := .glo "_law_of_right") rfl)
  have B__law_of_right : L2.Binds K fd__law_of_right ["_law_stream_here"] [] := L2.FunD.bindsN F__law_of_right fun _ _ _ _ _ _ us hl => match us, hl with | [_], _ => rfl
  obtain ⟨fd_law, F_law⟩ := c.def_ 25 (d := d_law) rfl
  have G_law : mg "law" = some (.ref (He.ga K "law")) := He.glo_ok X G (c.fact 25 (f := .glo "law") rfl)
  have B_law : L2.Binds K fd_law ["_law_script"] [] := L2.FunD.bindsN F_law fun _ _ _ _ _ _ us hl => match us, hl with | [_], _ => rfl
  obtain ⟨fd_WR_init, F_WR_init⟩ := c.def_ 31 (d := d_WR_init) rfl
  have B_WR_init : L2.Binds K fd_WR_init ["self", "row"] [] := L2.FunD.bindsN F_WR_init fun _ _ _ _ _ _ us hl => match us, hl with | [_, _], _ => rfl
  obtain ⟨fd_WR_of, F_WR_of⟩ := ch.def_ 0 (d := a_WR_of) rfl
  obtain ⟨fd_WR_row, F_WR_row⟩ := ch.def_ 1 (d := a_WR_row) rfl
  have B_WR_row : L2.Binds K fd_WR_row ["self"] [] := L2.FunD.bindsN F_WR_row fun _ _ _ _ _ _ us hl => match us, hl with | [_], _ => rfl
  simp only [exl, Bool.and_eq_true] at hx
  obtain ⟨⟨⟨⟨⟨⟨⟨⟨⟨h0, h_NoRows⟩, h_TooMany⟩, h_TooNarrow⟩, h_BadRow⟩, h_NoPlace⟩, h_NoWidth⟩, h_W⟩, h_O⟩, h_P_row⟩ := hx
  obtain ⟨fi_TooMany, FI_TooMany⟩ := c.def_ 26 (d := di_TooMany) rfl
  obtain ⟨fi_TooNarrow, FI_TooNarrow⟩ := c.def_ 27 (d := di_TooNarrow) rfl
  obtain ⟨fi_BadRow, FI_BadRow⟩ := c.def_ 28 (d := di_BadRow) rfl
  obtain ⟨fi_NoPlace, FI_NoPlace⟩ := c.def_ 29 (d := di_NoPlace) rfl
  obtain ⟨fi_NoWidth, FI_NoWidth⟩ := c.def_ 30 (d := di_NoWidth) rfl
  have T : Txt K mg := ⟨fd__wall, F__wall, ⟨G__wall, F__wall.kp, B__wall⟩, fd_is_integer, F_is_integer, ⟨G_is_integer, F_is_integer.kp, B_is_integer⟩, fd_is_length, F_is_length, ⟨G_is_length, F_is_length.kp, B_is_length⟩, fd_row_error, F_row_error, ⟨G_row_error, F_row_error.kp, B_row_error⟩, fd_check_place, F_check_place, ⟨G_check_place, F_check_place.kp, B_check_place⟩, fd_extent_of, F_extent_of, ⟨G_extent_of, F_extent_of.kp, B_extent_of⟩, fd_joined, F_joined, ⟨G_joined, F_joined.kp⟩, fd_check_fits, F_check_fits, ⟨G_check_fits, F_check_fits.kp, B_check_fits⟩, fd_next_start, F_next_start, ⟨G_next_start, F_next_start.kp, B_next_start⟩, fd_starts_of, F_starts_of, ⟨G_starts_of, F_starts_of.kp, B_starts_of⟩, fd_starts_at, F_starts_at, ⟨G_starts_at, F_starts_at.kp, B_starts_at⟩, fd_check_width, F_check_width, ⟨G_check_width, F_check_width.kp, B_check_width⟩, fd__law_stream, F__law_stream, ⟨G__law_stream, F__law_stream.kp, B__law_stream⟩, fd__law_draw, F__law_draw, ⟨G__law_draw, F__law_draw.kp, B__law_draw⟩, fd__law_pick, F__law_pick, ⟨G__law_pick, F__law_pick.kp, B__law_pick⟩, fd__law_odd, F__law_odd, ⟨G__law_odd, F__law_odd.kp, B__law_odd⟩, fd__law_is_int, F__law_is_int, ⟨G__law_is_int, F__law_is_int.kp, B__law_is_int⟩, fd__law_row_drawn, F__law_row_drawn, ⟨G__law_row_drawn, F__law_row_drawn.kp, B__law_row_drawn⟩, fd__law_name, F__law_name, ⟨G__law_name, F__law_name.kp, B__law_name⟩, fd__law_field, F__law_field, ⟨G__law_field, F__law_field.kp, B__law_field⟩, fd__law_bent, F__law_bent, ⟨G__law_bent, F__law_bent.kp, B__law_bent⟩, fd__law_reason, F__law_reason, ⟨G__law_reason, F__law_reason.kp, B__law_reason⟩, fd__law_told, F__law_told, ⟨G__law_told, F__law_told.kp, B__law_told⟩, fd__law_expected, F__law_expected, ⟨G__law_expected, F__law_expected.kp, B__law_expected⟩, fd__law_of_right, F__law_of_right, ⟨G__law_of_right, F__law_of_right.kp, B__law_of_right⟩, fd_law, F_law, ⟨G_law, F_law.kp, B_law⟩, wrB_ok h_W, He.mkr_ok (c.fact 64 (f := .mkr "WordRow") rfl), He.glo_ok X G (c.fact 63 (f := .glo "WordRow") rfl), fd_WR_init, F_WR_init, B_WR_init, fd_WR_of, F_WR_of, ofB_ok h_O, fd_WR_row, F_WR_row, B_WR_row, propB_ok h_P_row, He.free_ok X G (c.fact 26 (f := .free "LookupError") rfl), He.free_ok X G (c.fact 27 (f := .free "ValueError") rfl), He.free_ok X G (c.fact 28 (f := .free "abs") rfl), He.free_ok X G (c.fact 29 (f := .free "bool") rfl), He.free_ok X G (c.fact 30 (f := .free "enumerate") rfl), He.free_ok X G (c.fact 31 (f := .free "int") rfl), He.free_ok X G (c.fact 32 (f := .free "isinstance") rfl), He.free_ok X G (c.fact 33 (f := .free "len") rfl), He.free_ok X G (c.fact 34 (f := .free "list") rfl), He.free_ok X G (c.fact 35 (f := .free "min") rfl), He.free_ok X G (c.fact 36 (f := .free "range") rfl), He.free_ok X G (c.fact 37 (f := .free "repr") rfl), He.free_ok X G (c.fact 38 (f := .free "str") rfl), He.free_ok X G (c.fact 39 (f := .free "sum") rfl), He.free_ok X G (c.fact 40 (f := .free "tuple") rfl), He.int_ok X G (c.fact 41 (f := .int "MAX_LENGTH" (60)) rfl), He.int_ok X G (c.fact 42 (f := .int "MAX_WIDTH" (2000)) rfl), He.int_ok X G (c.fact 43 (f := .int "MAX_WORDS" (24)) rfl), He.glo_ok X G (c.fact 44 (f := .glo "WrapError") rfl), here_of (c.fact 44 (f := .glo "WrapError") rfl), He.glo_ok X G (c.fact 45 (f := .glo "NoRows") rfl), here_of (c.fact 45 (f := .glo "NoRows") rfl), He.glo_ok X G (c.fact 46 (f := .glo "TooMany") rfl), here_of (c.fact 46 (f := .glo "TooMany") rfl), He.glo_ok X G (c.fact 47 (f := .glo "TooNarrow") rfl), here_of (c.fact 47 (f := .glo "TooNarrow") rfl), He.glo_ok X G (c.fact 48 (f := .glo "BadLength") rfl), here_of (c.fact 48 (f := .glo "BadLength") rfl), He.glo_ok X G (c.fact 49 (f := .glo "LastWord") rfl), here_of (c.fact 49 (f := .glo "LastWord") rfl), He.glo_ok X G (c.fact 50 (f := .glo "BadRow") rfl), here_of (c.fact 50 (f := .glo "BadRow") rfl), He.glo_ok X G (c.fact 51 (f := .glo "BadTimes") rfl), here_of (c.fact 51 (f := .glo "BadTimes") rfl), He.glo_ok X G (c.fact 52 (f := .glo "TooLong") rfl), here_of (c.fact 52 (f := .glo "TooLong") rfl), He.glo_ok X G (c.fact 53 (f := .glo "TooManyEdits") rfl), here_of (c.fact 53 (f := .glo "TooManyEdits") rfl), He.glo_ok X G (c.fact 54 (f := .glo "NothingToUndo") rfl), here_of (c.fact 54 (f := .glo "NothingToUndo") rfl), He.glo_ok X G (c.fact 55 (f := .glo "BadEdits") rfl), here_of (c.fact 55 (f := .glo "BadEdits") rfl), He.glo_ok X G (c.fact 56 (f := .glo "BadEdit") rfl), here_of (c.fact 56 (f := .glo "BadEdit") rfl), He.glo_ok X G (c.fact 57 (f := .glo "Rejected") rfl), here_of (c.fact 57 (f := .glo "Rejected") rfl), He.glo_ok X G (c.fact 58 (f := .glo "Busy") rfl), here_of (c.fact 58 (f := .glo "Busy") rfl), He.glo_ok X G (c.fact 59 (f := .glo "BadText") rfl), here_of (c.fact 59 (f := .glo "BadText") rfl), He.glo_ok X G (c.fact 60 (f := .glo "NoPlace") rfl), here_of (c.fact 60 (f := .glo "NoPlace") rfl), He.glo_ok X G (c.fact 61 (f := .glo "NoWidth") rfl), here_of (c.fact 61 (f := .glo "NoWidth") rfl), He.glo_ok X G (c.fact 62 (f := .glo "NoVersion") rfl), here_of (c.fact 62 (f := .glo "NoVersion") rfl), errZ_ok h_NoRows, errT_ok h_TooMany ⟨_, _, _, _, _, _, _, _, FI_TooMany⟩, errT_ok h_TooNarrow ⟨_, _, _, _, _, _, _, _, FI_TooNarrow⟩, errT_ok h_BadRow ⟨_, _, _, _, _, _, _, _, FI_BadRow⟩, errT_ok h_NoPlace ⟨_, _, _, _, _, _, _, _, FI_NoPlace⟩, errT_ok h_NoWidth ⟨_, _, _, _, _, _, _, _, FI_NoWidth⟩⟩
  have e := hfa.symm.trans T.D_law.mg
  cases e
  have b := L2.FunD.bindsA (ps := ["_law_script"]) T.F_law fun _ _ _ _ _ _ us hl => match us, hl with | [_], _ => rfl
  exact ⟨T.fd_law, fun s v => b s [v] rfl, fun base XB _ tb => T.ok_law tb (smB_ok h0 XB) math⟩
end Wk63
open PySem PySem.W PySem.Calls PyProof.Rows
theorem Wk63.end_ (math : DL.MathT Wk63.m_law (DL.lawE 10 1) Wk63.ks) : PySem.Challenge.rw_wrapwidths_k63_word_rows_constructed.Holds := by
  w_on; o_law
  refine HandSHeadRun.head_any (r := OpenLaw.row PySem.Challenge.rw_wrapwidths_k63_word_rows_constructed) (q := view (OpenLaw.row PySem.Challenge.rw_wrapwidths_k63_word_rows_constructed).prog [53]) (H := Wk63.hk) (ob := Wk63.ob) (M := 12000) (loose := ("MAX_WORDS" :: "MAX_LENGTH" :: "MAX_WIDTH" :: "WrapError" :: "NoRows" :: "TooMany" :: "TooNarrow" :: "BadLength" :: "LastWord" :: "BadRow" :: "BadTimes" :: "TooLong" :: "TooManyEdits" :: "NothingToUndo" :: "BadEdits" :: "BadEdit" :: "Rejected" :: "Busy" :: "BadText" :: "NoPlace" :: "NoWidth" :: "NoVersion" :: "WordRow" :: "_wall" :: "is_integer" :: "is_length" :: "row_error" :: "check_place" :: "extent_of" :: "joined" :: "check_fits" :: "next_start" :: "starts_of" :: "starts_at" :: "check_width" :: "_law_stream" :: "_law_draw" :: "_law_pick" :: "_law_odd" :: "_law_is_int" :: "_law_row_drawn" :: "_law_name" :: "_law_field" :: "_law_bent" :: "_law_reason" :: "_law_told" :: "_law_expected" :: "_law_of_right" :: []))
    (d := HandSHeadRun.topDef (OpenLaw.row PySem.Challenge.rw_wrapwidths_k63_word_rows_constructed).prog 53) (kwd := []) Wk63.ob_eq
    (by kernel_rfl) (fun s => by kernel_rfl) Wk63.run (by kernel_rfl) (by kernel_rfl) (by kernel_rfl) (by rfl) (by first | assumption | decide +kernel) (by decide +kernel) ⟨rfl, rfl, rfl, rfl, rfl, by decide +kernel⟩ ?hw ?hc
  case hw => w_witness2
  case hc =>
    refine DL.walk_lawT (ks := Wk63.ks) (l := PySem.Challenge.rw_wrapwidths_k63_word_rows_constructed) (k := 10) (x := "_law_script") rfl (by kernel_rfl) ⟨rfl, by decide, by decide⟩ ?F
    intro w mg f h Y G hmg0
    obtain ⟨K, KX, c, ts, one⟩ := Y
    have hmg : mg ("law" : PySem.Str) = some (.ref f) := by
      have e : (HandSHeadRun.topDef (OpenLaw.row PySem.Challenge.rw_wrapwidths_k63_word_rows_constructed).prog 53).name = ("law" : PySem.Str) := by kernel_rfl
      rw [← e]
      exact hmg0
    obtain ⟨fd, hb, hF⟩ := Wk63.facts (P := (PySem.Challenge.rw_wrapwidths_k63_word_rows_constructed).prog) (w := w) KX G hmg c math
    exact ⟨K, fd, KX, ts, one, hb, hF⟩
end
section
namespace DL
open PySem
/-- m gives what Q says, drawing at most n times -/
def Ok {α : Type} (m : W α) (n : Nat) (Q : α → Prop) : Prop := ∀ (c : Sx) (P : α → Sx → Prop) (X : Exn → Sx → Prop), c.n + n < 2 ^ 40 → (∀ a c', (c'.n ≤ c.n + n ∧ c'.mu = c.mu) → Q a → P a c') → m c P X
section
variable {α β : Type} {m : W α} {n n' k : Nat} {Q R : α → Prop}
theorem Ok.ret {a : α} (h : Q a) : Ok (ret a) n Q := fun c P X _ k => k a c ⟨by omega, rfl⟩ h
theorem Ok.bnd {f : α → W β} {S : β → Prop} (h : Ok m n Q) (hf : ∀ a, Q a → Ok (f a) k S) : Ok (bnd m f) (n + k) S := fun c P X hc kk =>
  h c _ X (by omega) fun a c' hc' q => hf a q c' P X (by have := hc'.1; omega) fun b c'' h2 s => kk b c'' ⟨by have := hc'.1; have := h2.1; omega, h2.2.trans hc'.2⟩ s
theorem Ok.bnd' {f : α → W β} {S : β → Prop} (t : Nat) (h : Ok m n Q) (hn : n ≤ t) (hf : ∀ a, Q a → Ok (f a) (t - n) S) : Ok (DL.bnd m f) t S := by
  have := Ok.bnd h hf
  rw [Nat.add_sub_cancel' hn] at this
  exact this
theorem Ok.mono (h : Ok m n Q) (hn : n ≤ n') (hq : ∀ a, Q a → R a) : Ok m n' R := fun c P X hc kk => h c P X (by omega) fun a c' h1 h2 => kk a c' ⟨by have := h1.1; omega, h1.2⟩ (hq a h2)
theorem Ok.le (h : Ok m n Q) (hn : n ≤ n') : Ok m n' Q := h.mono hn fun _ h => h
theorem Ok.imp (h : Ok m n Q) (hq : ∀ a, Q a → R a) : Ok m n R := h.mono (Nat.le_refl _) hq
theorem Ok.grd {c : Prop} (hc : c) (h : Ok m n Q) : Ok (grd c m) n Q := by rw [grd_pos hc]; exact h
theorem Ok.eq {m' : W α} (e : m = m') (h : Ok m' n Q) : Ok m n Q := by rw [e]; exact h
theorem Ok.run {P : α → Prop} {X : Exn → Sx → Prop} (h : Ok m n Q) (hn : n < 2 ^ 40) (hq : ∀ a, Q a → P a) : m (.z 0) (fun a _ => P a) X := h (.z 0) _ X (by show 0 + n < _; omega) fun a _ _ q => hq a q
theorem Ok.draw {many : Int} (h0 : 0 < many) (h1 : many < 9223372036854775808) : Ok (fDraw [.int many]) (n + 1) (fun d => ∃ r : Int, d = .int r ∧ 0 ≤ r ∧ r < many) := fun c P X hc k =>
  ⟨⟨h0, h1, by omega⟩, fun r a b => k _ _ ⟨by show c.n + 1 ≤ _; omega, rfl⟩ ⟨r, rfl, a, b⟩⟩
theorem Ok.drawB {many : Int} {f : D → W β} {S : β → Prop} (h0 : 0 < many) (h1 : many < 9223372036854775808) (hf : ∀ r : Int, 0 ≤ r → r < many → Ok (f (.int r)) n S) : Ok (DL.bnd (fDraw [.int many]) f) (n + 1) S := by
  refine Ok.bnd' (n + 1) (Ok.draw (n := 0) h0 h1) (by omega) ?_
  rintro a ⟨r, rfl, h2, h3⟩
  exact hf r h2 h3
theorem Ok.noX (h : Ok m n Q) : Ok (noX m) n Q := fun c P X hc k => h c P _ hc k
theorem Ok.ite {c : Prop} [Decidable c] {a b : W α} (ha : c → Ok a n Q) (hb : ¬ c → Ok b n Q) : Ok (if c then a else b) n Q := by
  split
  · exact ha ‹_›
  · exact hb ‹_›
theorem bnd_ite {c : Prop} [Decidable c] (a b : W α) (f : α → W β) : DL.bnd (if c then a else b) f = if c then DL.bnd a f else DL.bnd b f := by split <;> rfl
theorem bnd_assoc {γ : Type} (m : W α) (f : α → W β) (g : β → W γ) : DL.bnd (DL.bnd m f) g = DL.bnd m fun a => DL.bnd (f a) g := id rfl
theorem bnd_id (m : W α) : DL.bnd m DL.ret = m := id rfl
end
/-- the new list: each item's own words -/
theorem comp_ok {tg : Tg} {t : XT} {e : XE} {b : Nat} {E : Env} {G : D → Prop} : ∀ (ds acc : List D), acc.length + ds.length ≤ 1000000 → (∀ d ∈ acc, G d) →
    (∀ d ∈ ds, ∃ E1, tg.put d E = some E1 ∧ t E1 = ret true ∧ Ok (e E1) b G) → Ok (compL tg t e ds acc E) (ds.length * b) fun ys => ys.length = acc.length + ds.length ∧ ∀ d ∈ ys, G d
  | [], acc, _, ha, _ => Ok.ret ⟨rfl, ha⟩
  | d :: ds, acc, hl, ha, hs => by
    obtain ⟨E1, e1, e2, h1⟩ := hs d (.head _)
    show Ok (match tg.put d E with | none => stuck | some E1 => bnd (t E1) fun c => if c = true then bnd (e E1) fun y => grd (small acc.length) (compL tg t e ds (acc ++ [y]) E) else compL tg t e ds acc E) _ _
    simp only [e1, e2, bnd_ret, if_true]
    rw [List.length_cons, Nat.succ_mul, Nat.add_comm]
    simp only [List.length_cons] at hl
    refine Ok.bnd h1 fun y hy => Ok.grd (by unfold small; omega) ?_
    refine (comp_ok ds (acc ++ [y]) (by rw [List.length_append, List.length_singleton]; omega) ?_ fun d hd => hs d (.tail _ hd)).imp ?_
    · intro d hd
      rcases List.mem_append.mp hd with h | h
      · exact ha d h
      · rw [List.mem_singleton.mp h]; exact hy
    · rintro ys ⟨h2, h3⟩
      exact ⟨by rw [h2, List.length_append, List.length_cons, List.length_nil]; omega, h3⟩
/-- .. all items pure: the list itself -/
theorem comp_map {tg : Tg} {t : XT} {e : XE} {E : Env} (f : D → D) : ∀ (ds acc : List D), acc.length + ds.length ≤ 1000000 →
    (∀ d ∈ ds, ∃ E1, tg.put d E = some E1 ∧ t E1 = ret true ∧ e E1 = ret (f d)) → compL tg t e ds acc E = ret (acc ++ ds.map f)
  | [], acc, _, _ => by simp [compL]
  | d :: ds, acc, hl, hs => by
    obtain ⟨E1, e1, e2, e3⟩ := hs d (.head _)
    simp only [List.length_cons] at hl
    have hs' : small acc.length := by unfold small; omega
    show (match tg.put d E with | none => stuck | some E1 => bnd (t E1) fun c => if c = true then bnd (e E1) fun y => grd (small acc.length) (compL tg t e ds (acc ++ [y]) E) else compL tg t e ds acc E) = _
    simp only [e1, e2, e3, bnd_ret, if_true, grd_pos hs']
    rw [comp_map f ds (acc ++ [f d]) (by simp only [List.length_append, List.length_singleton]; omega) fun d hd => hs d (.tail _ hd)]
    simp
/-- .. with a test -/
theorem comp_filt {tg : Tg} {t : XT} {e : XE} {E : Env} (q : D → Bool) (f : D → D) : ∀ (ds acc : List D), acc.length + ds.length ≤ 1000000 →
    (∀ d ∈ ds, ∃ E1, tg.put d E = some E1 ∧ t E1 = ret (q d) ∧ (q d = true → e E1 = ret (f d))) → compL tg t e ds acc E = ret (acc ++ (ds.filter q).map f)
  | [], acc, _, _ => by simp [compL]
  | d :: ds, acc, hl, hs => by
    obtain ⟨E1, e1, e2, e3⟩ := hs d (.head _)
    simp only [List.length_cons] at hl
    have hs' : small acc.length := by unfold small; omega
    show (match tg.put d E with | none => stuck | some E1 => bnd (t E1) fun c => if c = true then bnd (e E1) fun y => grd (small acc.length) (compL tg t e ds (acc ++ [y]) E) else compL tg t e ds acc E) = _
    simp only [e1, e2, bnd_ret]
    cases hq : q d with
    | true =>
      simp only [if_true, e3 hq, bnd_ret, grd_pos hs']
      rw [comp_filt q f ds (acc ++ [f d]) (by simp only [List.length_append, List.length_singleton]; omega) fun d hd => hs d (.tail _ hd), List.filter_cons_of_pos hq]
      simp
    | false =>
      rw [if_neg (by decide), comp_filt q f ds acc (by omega) fun d hd => hs d (.tail _ hd), List.filter_cons_of_neg (by rw [hq]; decide)]
section
variable {E : Env}
theorem x_var (i : Nat) : eVar i E = match E[i]? with | some (.val d) => ret d | _ => stuck := id rfl
theorem x_con (d : D) : eCon d E = ret d := id rfl
theorem x_bin (o : Op) (a b : XE) : eBin o a b E = bnd (a E) fun x => bnd (b E) fun y => opBin o x y := id rfl
theorem x_neg (a : XE) : eNeg a E = bnd (a E) opNeg := id rfl
theorem x_cmp (o : Cmp) (a b : XE) : eCmp o a b E = bnd (a E) fun x => bnd (b E) fun y => bnd (opCmp o x y) fun c => ret (.bool c) := id rfl
theorem x_chain (o o' : Cmp) (a b c : XE) : eChain o o' a b c E = bnd (a E) fun x => bnd (b E) fun y => bnd (opCmp o x y) fun k => if k = true then bnd (c E) fun z => bnd (opCmp o' y z) fun k' => ret (.bool k') else ret (.bool false) := id rfl
theorem x_tTru (a : XE) : tTru a E = bnd (a E) tru := id rfl
theorem x_tNot (t : XT) : tNot t E = bnd (t E) fun c => ret (!c) := id rfl
theorem x_tAnd (t u : XT) : tAnd t u E = bnd (t E) fun c => if c = true then u E else ret false := id rfl
theorem x_tOr (t u : XT) : tOr t u E = bnd (t E) fun c => if c = true then ret true else u E := id rfl
theorem x_tBool (a : XE) : tBool a E = bnd (a E) fun d => match d with | .bool b => ret b | _ => stuck := id rfl
theorem x_tYes : tYes E = ret true := id rfl
theorem x_not (a : XE) : eNot a E = bnd (a E) fun x => bnd (tru x) fun c => ret (.bool (!c)) := id rfl
theorem x_and (a b : XE) : eAnd a b E = bnd (a E) fun x => bnd (tru x) fun c => if c = true then b E else ret x := id rfl
theorem x_or (a b : XE) : eOr a b E = bnd (a E) fun x => bnd (tru x) fun c => if c = true then ret x else b E := id rfl
theorem x_if (t : XT) (a b : XE) : eIf t a b E = bnd (t E) fun c => if c = true then a E else b E := id rfl
theorem x_b1 (f : B1) (a : XE) : eB1 f a E = bnd (a E) (bi1 f) := id rfl
theorem x_b2 (f : B2) (a b : XE) : eB2 f a b E = bnd (a E) fun x => bnd (b E) fun y => bi2 f x y := id rfl
theorem x_is (t : Ty) (a : XE) : eIs t a E = bnd (a E) fun x => grd (noXn x = true) (ret (.bool (isTy t x))) := id rfl
theorem x_isC (ms : List Str) (a : XE) : eIsC ms a E = bnd (a E) (isC ms) := id rfl
theorem x_fld (a : XE) (f : Str) : eFld a f E = bnd (a E) (fldOf f) := id rfl
theorem x_in (n : Bool) (a b : XE) : eIn n a b E = bnd (a E) fun x => bnd (b E) fun y => opIn n x y := id rfl
theorem x_count (a b : XE) : eCnt a b E = bnd (a E) fun x => match x with | .list xs => bnd (b E) fun y => opCnt (.list xs) y | _ => stuck := id rfl
theorem x_lstR (a : XA) : eLstR a E = bnd (a E) fun xs => grd (small xs.length) (ret (.list xs)) := id rfl
theorem x_tupR (a : XA) : eTupR a E = bnd (a E) fun xs => grd (small xs.length) (ret (.tuple xs)) := id rfl
theorem x_raise (n : Str) (fs : List Str) (a : XA) : sRaise n fs a E = bnd (a E) fun xs => thr ⟨n, fs.zip xs⟩ := id rfl
theorem x_star (a : XE) (r : XA) : aStar a r E = bnd (a E) fun x => bnd (itemsOf x) fun ys => bnd (r E) fun xs => ret (ys ++ xs) := id rfl
theorem x_rev (a : XE) : eRev a E = bnd (a E) opRev := id rfl
theorem x_idx (a b : XE) : eIdx a b E = bnd (a E) fun x => bnd (b E) fun y => opIdx x y := id rfl
theorem x_oNone : oNone E = ret none := id rfl
theorem x_oSome (a : XE) : oSome a E = bnd (a E) fun x => bnd (asInt x) fun i => ret (some i) := id rfl
theorem x_cut (a : XE) (lo hi : XO) : eCut a lo hi E = bnd (a E) fun x => bnd (lo E) fun l => bnd (hi E) fun h => opCut x l h := id rfl
theorem x_aNil : aNil E = ret [] := id rfl
theorem x_aCons (a : XE) (r : XA) : aCons a r E = bnd (a E) fun x => bnd (r E) fun xs => ret (x :: xs) := id rfl
theorem x_tup (a : XA) : eTup a E = bnd (a E) fun xs => grd (small xs.length) (ret (.tuple xs)) := id rfl
theorem x_lst (a : XA) : eLst a E = bnd (a E) fun xs => grd (small xs.length) (ret (.list xs)) := id rfl
theorem x_call (f : Fn) (a : XA) : eCall f a E = bnd (a E) f := id rfl
theorem x_callS (f : Fn) (s : Nat) (a : XA) : eCallS f s a E = match E[s]? with | some .stm => bnd (a E) f | _ => stuck := id rfl
theorem x_iSeq (a : XE) : iSeq a E = bnd (a E) itemsOf := id rfl
theorem x_iRng1 (a : XE) : iRng1 a E = bnd (a E) fun x => bnd (asInt x) fun n => grd (rngOk 0 n) (ret (rng 0 n)) := id rfl
theorem x_iRng2 (a b : XE) : iRng2 a b E = bnd (a E) fun x => bnd (b E) fun y => bnd (asInt x) fun n => bnd (asInt y) fun m => grd (rngOk n m) (ret (rng n m)) := id rfl
theorem x_comp (it : XA) (tg : Tg) (t : XT) (e : XE) (vs : List Nat) : eComp it tg t e vs E = bnd (it E) fun ds => bnd (noX (compL tg t e ds [] (wipeE E vs))) fun ys => ret (.list ys) := id rfl
theorem x_bor (i : Nat) (e : XE) : eBor i e E = match E[i]? with | some (.own ds) => bnd (e (E.set i (.val (.list ds)))) fun d => grd (flat d = true) (ret d) | _ => e E := id rfl
theorem x_tBor (i : Nat) (t : XT) : tBor i t E = match E[i]? with | some (.own ds) => t (E.set i (.val (.list ds))) | _ => t E := id rfl
theorem x_seq (a b : XS) : sSeq a b E = bnd (a E) fun o => match o with | .nx E' => b E' | o => ret o := id rfl
theorem x_skip : sSkip E = ret (.nx E) := id rfl
theorem x_asg (i : Nat) (e : XE) : sAsg i e E = bnd (e E) fun d => ret (.nx (E.set i (.val d))) := id rfl
theorem x_put (tg : Tg) (e : XE) : sPut tg e E = bnd (e E) fun d => match tg.put d E with | some E' => ret (.nx E') | none => stuck := id rfl
theorem x_par (i j : Nat) (a b : XE) : sPar i j a b E = bnd (a E) fun x => bnd (b E) fun y => ret (.nx ((E.set i (.val x)).set j (.val y))) := id rfl
theorem x_parO (i j : Nat) (a b : XE) : sParO i j a b E = bnd (a E) fun x => bnd (b E) fun y => match x with | .list ds => ret (.nx ((E.set i (.own ds)).set j (.val y))) | _ => stuck := id rfl
theorem x_own (i : Nat) (e : XE) : sOwn i e E = bnd (e E) fun d => match d with | .list ds => ret (.nx (E.set i (.own ds))) | _ => stuck := id rfl
theorem x_rel (i : Nat) (s : XS) : sRel i s E = match E[i]? with | some (.own ds) => s (E.set i (.val (.list ds))) | _ => s E := id rfl
theorem x_app (i : Nat) (e : XE) : sApp i e E = match E[i]? with | some (.own ds) => bnd (e E) fun d => grd (small ds.length) (ret (.nx (E.set i (.own (ds ++ [d]))))) | _ => stuck := id rfl
theorem x_setI (i : Nat) (k e : XE) : sSet i k e E = match E[i]? with
  | some (.own ds) => bnd (e E) fun d => bnd (k E) fun n => match n with
    | .int z => match L2.ixN ds.length z with
      | some j => ret (.nx (E.set i (.own (ds.set j d))))
      | none => stuck
    | _ => stuck
  | _ => stuck := id rfl
theorem x_sIf (t : XT) (a b : XS) : sIf t a b E = bnd (t E) fun c => if c = true then a E else b E := id rfl
theorem x_for (it : XA) (tg : Tg) (s : XS) : sFor it tg s E = bnd (it E) fun ds => forL tg s ds E := id rfl
theorem x_ret (e : XE) : sRet e E = bnd (e E) fun d => ret (.rt d) := id rfl
theorem x_retN : sRetN E = ret (.rt .none) := id rfl
theorem x_expr (e : XE) : sExpr e E = bnd (e E) fun _ => ret (.nx E) := id rfl
theorem x_brk : sBreak E = ret (.bk E) := id rfl
theorem x_cnt : sCont E = ret (.ct E) := id rfl
theorem x_fnS (k n : Nat) (s : XS) (ds : List D) : fnS k n s ds = grd (ds.length + 1 = k) (bnd (s (start n (.stm :: ds.map .val))) endOf) := id rfl
theorem x_put1 (i : Nat) (d : D) (E : Env) : Tg.put (.nm i) d E = some (E.set i (.val d)) := id rfl
end
theorem grd_tt {α : Type} (m : W α) : grd (true = true) m = m := grd_pos rfl m
theorem nx_int (i : Int) : noXn (.int i) = true := id rfl
theorem nx_bool (i : Bool) : noXn (.bool i) = true := id rfl
theorem nx_str (i : Str) : noXn (.str i) = true := id rfl
theorem nx_none : noXn .none = true := id rfl
theorem nx_tup (i : List D) : noXn (.tuple i) = true := id rfl
theorem nx_lst (i : List D) : noXn (.list i) = true := id rfl
theorem nx_plain : ∀ {d : D}, plain d = true → noXn d = true
  | .none, _ => rfl
  | .bool _, _ => rfl
  | .int _, _ => rfl
  | .str _, _ => rfl
  | .tuple _, _ => rfl
  | .list _, _ => rfl
  | .dict [], _ => rfl
  | .dict ((.none, _) :: _), h => by simp [plain] at h
  | .dict ((.bool _, _) :: _), _ => rfl
  | .dict ((.int _, _) :: _), _ => rfl
  | .dict ((.str _, _) :: _), _ => rfl
  | .dict ((.list _, _) :: _), _ => rfl
  | .dict ((.tuple _, _) :: _), _ => rfl
  | .dict ((.dict _, _) :: _), _ => rfl
theorem try_val {e : XE} {k : D → XS} {hd : Exn → XS} {E : Env} {d : D} (h : e E = ret d) : sTry e k hd E = noX (k d E) := by
  funext n P X
  show e E n _ _ = _
  rw [h]
  rfl
theorem try_exn {e : XE} {k : D → XS} {hd : Exn → XS} {E : Env} {x : Exn} (h : e E = thr x) : sTry e k hd E = hd x E := by
  funext n P X
  show e E n _ _ = _
  rw [h]
  rfl
theorem hd_yes {ns : List Str} {oi : Option Nat} {s : XS} {r : List (List Str × Option Nat × XS)} {x : Exn} (h : ns.any (subC x.cls) = true) : hdL ((ns, oi, s) :: r) x = fun E => bnd (noX (s (eSetO oi (.val x.d) E))) fun o => ret (o.clear oi) := by
  rw [hdL, if_pos h]
theorem isC_x {ms : List Str} {n : Str} {fs : List (Str × D)} (h : (ms.all fun m => allN.contains m) = true) : isC ms (xD n fs) = ret (.bool (ms.any (subC n))) := by
  show grd _ _ = _
  rw [grd_pos h]
theorem fld_x (n f : Str) (d : D) : fldOf f (xD n [(f, d)]) = ret d := by
  show (if f = f then ret d else stuck) = _
  rw [if_pos rfl]
theorem exn_d (n : Str) (fs : List (Str × D)) : Exn.d ⟨n, fs⟩ = xD n fs := id rfl
/-- ints -/
theorem o_add (a b : Int) : opBin .add (.int a) (.int b) = ret (.int (a + b)) := id rfl
theorem o_sub (a b : Int) : opBin .sub (.int a) (.int b) = ret (.int (a - b)) := id rfl
theorem o_mod (a b : Int) : opBin .mod (.int a) (.int b) = grd (0 < b) (ret (.int (a % b))) := id rfl
theorem o_neg (a : Int) : opNeg (.int a) = ret (.int (-a)) := id rfl
theorem eqv_int (a b : Int) : opEq (.int a) (.int b) = ret (decide (a = b)) := by
  unfold opEq
  rw [grd_pos (eqOk_of rfl rfl)]
  rfl
theorem o_eq (a b : Int) : opCmp .eq (.int a) (.int b) = ret (decide (a = b)) := eqv_int a b
theorem o_ne (a b : Int) : opCmp .ne (.int a) (.int b) = ret (!decide (a = b)) := by
  show bnd (opEq _ _) _ = _
  rw [eqv_int]
  rfl
theorem o_lt (a b : Int) : opCmp .lt (.int a) (.int b) = ret (decide (a < b)) := id rfl
theorem o_le (a b : Int) : opCmp .le (.int a) (.int b) = ret (decide (a ≤ b)) := id rfl
theorem o_gt (a b : Int) : opCmp .gt (.int a) (.int b) = ret (decide (b < a)) := id rfl
theorem o_ge (a b : Int) : opCmp .ge (.int a) (.int b) = ret (decide (b ≤ a)) := id rfl
theorem eqv_str (a b : Str) : opEq (.str a) (.str b) = ret (decide (a = b)) := by
  unfold opEq
  rw [grd_pos (show eqOk (.str a) (.str b) from True.intro)]
  show ret (a == b) = _
  have e : (a == b) = decide (a = b) := by
    rw [Bool.eq_iff_iff]
    simp
  rw [e]
theorem o_eqS (a b : Str) : opCmp .eq (.str a) (.str b) = ret (decide (a = b)) := eqv_str a b
theorem o_neS (a b : Str) : opCmp .ne (.str a) (.str b) = ret (!decide (a = b)) := by
  show bnd (opEq _ _) _ = _
  rw [eqv_str]
  rfl
end DL
end
section
namespace DL
open PySem
/-- tame data, to be shown: at most n items in all, k deep, its ints of at most 45 digits -/
structure Tame (n k : Nat) (d : D) : Prop where
  short : PyData.leavesShort 48 d = true
  able : PyData.showable d = true
  bulk : PyData.bulk d ≤ n
  deep : PyData.depth d ≤ k
  pln : plain d = true
theorem Tame.mono {n k n' k' : Nat} {d : D} (h : Tame n k d) (hn : n ≤ n') (hk : k ≤ k') : Tame n' k' d := ⟨h.short, h.able, Nat.le_trans h.bulk hn, Nat.le_trans h.deep hk, h.pln⟩
theorem tame_int {i : Int} (h : i.natAbs < 10 ^ 45) : Tame 0 0 (.int i) := by
  refine ⟨?_, ?_, Nat.zero_le _, Nat.zero_le _, rfl⟩
  · have e : (PyData.shown (.int i)).length ≤ 46 := by
      have e := int_text_length_le10 (k := 45) (a := i) (by decide) h
      show (Str.ofString (toString i)).length ≤ 46
      rw [ofString_length]
      exact e
    simp only [PyData.leavesShort, decide_eq_true_eq]
    omega
  · simp only [PyData.showable, decide_eq_true_eq]
    by_cases h0 : i.natAbs = 0
    · rw [h0]; decide
    · have h2 : i.natAbs < 2 ^ 150 := Nat.lt_trans h (by decide)
      exact Nat.lt_of_lt_of_le ((Nat.log2_lt h0).mpr h2) (by decide)
theorem tame_none : Tame 0 0 .none := ⟨rfl, rfl, Nat.zero_le _, Nat.zero_le _, rfl⟩
theorem tame_str {x : Str} (h : x.cps.toList.all (fun c => decide (c < 16 ^ 8)) = true) {n : Nat} (hn : x.cps.size ≤ n) : Tame n 0 (.str x) := ⟨by simpa only [PyData.leavesShort] using h, rfl, hn, Nat.zero_le _, rfl⟩
structure TameAll (n k : Nat) (ds : List D) : Prop where
  short : PyData.leavesShortAll 48 ds = true
  able : PyData.showableAll ds = true
  bulk : PyData.bulkAll ds ≤ n
  deep : PyData.depthAll ds ≤ k
  pln : plainAll ds = true
theorem tame_nil : TameAll 0 0 [] := ⟨rfl, rfl, Nat.zero_le _, Nat.zero_le _, rfl⟩
theorem TameAll.mono {n k n' k' : Nat} {ds : List D} (h : TameAll n k ds) (hn : n ≤ n') (hk : k ≤ k') : TameAll n' k' ds := ⟨h.short, h.able, Nat.le_trans h.bulk hn, Nat.le_trans h.deep hk, h.pln⟩
theorem tame_cons {n m k j : Nat} {d : D} {ds : List D} (h : Tame n k d) (t : TameAll m j ds) : TameAll (n + 1 + m) (max k j) (d :: ds) := by
  refine ⟨?_, ?_, ?_, ?_, ?_⟩
  · simp only [PyData.leavesShortAll, h.short, t.short, Bool.and_self]
  · simp only [PyData.showableAll, h.able, t.able, Bool.and_self]
  · simp only [PyData.bulkAll]
    have := h.bulk; have := t.bulk
    omega
  · simp only [PyData.depthAll]
    have := h.deep; have := t.deep
    omega
  · simp only [plainAll, h.pln, t.pln, Bool.and_self]
theorem tame_tup {n k : Nat} {ds : List D} (h : TameAll n k ds) : Tame n (k + 1) (.tuple ds) := by
  refine ⟨?_, ?_, ?_, ?_, ?_⟩
  · simp only [PyData.leavesShort, h.short]
  · simp only [PyData.showable, h.able]
  · simp only [PyData.bulk]; exact h.bulk
  · simp only [PyData.depth]; have := h.deep; omega
  · simp only [plain, h.pln]
theorem tame_lst {n k : Nat} {ds : List D} (h : TameAll n k ds) : Tame n (k + 1) (.list ds) := by
  refine ⟨?_, ?_, ?_, ?_, ?_⟩
  · simp only [PyData.leavesShort, h.short]
  · simp only [PyData.showable, h.able]
  · simp only [PyData.bulk]; exact h.bulk
  · simp only [PyData.depth]; have := h.deep; omega
  · simp only [plain, h.pln]
theorem tame_all {n k : Nat} : ∀ (ds : List D), (∀ d ∈ ds, Tame n k d) → TameAll (ds.length * (n + 1)) k ds
  | [], _ => tame_nil.mono (Nat.zero_le _) (Nat.zero_le _)
  | d :: ds, h => by
    have := tame_cons (h d (.head _)) (tame_all ds fun x hx => h x (.tail _ hx))
    rw [List.length_cons, Nat.succ_mul, Nat.add_comm]
    rw [Nat.max_self] at this
    exact this
theorem tame_ints {ns : List Int} (h : ∀ x ∈ ns, x.natAbs < 10 ^ 45) : TameAll ns.length 0 (ns.map PyData.int) := by
  have := tame_all (n := 0) (k := 0) (ns.map PyData.int) fun d hd => by
    obtain ⟨x, hx, rfl⟩ := List.mem_map.mp hd
    exact tame_int (h x hx)
  rw [List.length_map, Nat.zero_add, Nat.mul_one] at this
  exact this
theorem Tame.show {n k : Nat} {d : D} (h : Tame n k d) (hn : n ≤ 15000) (hk : k ≤ 40) : showOk d := by
  refine ⟨h.able, Nat.le_trans h.deep hk, ?_, h.pln⟩
  have e := PyData.shown_le_bulk 48 (by decide) d h.short
  have := h.bulk
  have : (48 + 2) * d.bulk ≤ 50 * 15000 := Nat.mul_le_mul_left _ (by omega)
  omega
theorem x_repr {n k : Nat} {d : D} (h : Tame n k d) (hn : n ≤ 15000) (hk : k ≤ 40) : bi1 .repr d = ret (.str (PyData.shown d)) := by
  show grd (showOk d) _ = _
  rw [grd_pos (h.show hn hk)]
theorem deep_ints : ∀ ns : List Int, PyData.depthAll (ns.map PyData.int) = 0
  | [] => rfl
  | _ :: r => by rw [List.map_cons, PyData.depthAll, deep_ints r]; rfl
theorem eqvAll_ints : ∀ a b : List Int, PyData.eqvAll (a.map PyData.int) (b.map PyData.int) = decide (a = b)
  | [], [] => rfl
  | [], _ :: _ => rfl
  | _ :: _, [] => rfl
  | x :: a, y :: b => by
    rw [List.map_cons, List.map_cons, PyData.eqvAll, eqvAll_ints a b]
    have e : PyData.eqv (.int x) (.int y) = decide (x = y) := rfl
    rw [e]
    simp
theorem shp_ints (ns : List Int) : SeqAt.shaped (.tuple (ns.map PyData.int)) = true := by
  unfold SeqAt.shaped
  simp [PyData.canLay0, lay_ints, PyData.depth, deep_ints]
theorem eq_ints (a b : List Int) : opEq (.tuple (a.map PyData.int)) (.tuple (b.map PyData.int)) = ret (decide (a = b)) := by
  unfold opEq
  rw [grd_pos (eqOk_of (shp_ints a) (shp_ints b))]
  show ret (PyData.eqvAll _ _) = _
  rw [eqvAll_ints]
theorem o_eqT (a b : List Int) : opCmp .eq (.tuple (a.map PyData.int)) (.tuple (b.map PyData.int)) = ret (decide (a = b)) := eq_ints a b
theorem shp_of {d : D} (h : PyData.canLay0 d = true) (k : PyData.depth d ≤ 64) : SeqAt.shaped d = true := by
  unfold SeqAt.shaped
  rw [h, decide_eq_true k]
  rfl
section
variable {E : Env} {n k : Nat} {Q : Out → Prop}
theorem Ok.seq {a b : XS} (t : Nat) (R : Env → Prop) (h : Ok (a E) n fun o => match o with | .nx E' => R E' | .rt d => Q (.rt d) | .bk E' => Q (.bk E') | .ct E' => Q (.ct E')) (hn : n ≤ t) (hb : ∀ E', R E' → Ok (b E') (t - n) Q) : Ok (sSeq a b E) t Q := by
  refine Ok.bnd' t h hn fun o ho => ?_
  cases o with
  | nx E' => exact hb E' ho
  | rt d => exact Ok.ret ho
  | bk E' => exact Ok.ret ho
  | ct E' => exact Ok.ret ho
theorem Ok.fn {s : XS} {Q : D → Prop} (h : Ok (s E) n fun o => match o with | .rt d => Q d | .nx _ => Q .none | _ => False) : Ok (DL.bnd (s E) endOf) n Q := by
  refine Ok.bnd' n h (Nat.le_refl _) fun o ho => ?_
  cases o with
  | nx E' => exact Ok.ret ho
  | rt d => exact Ok.ret ho
  | bk E' => exact ho.elim
  | ct E' => exact ho.elim
theorem s_asg (i : Nat) (e : XE) (b : XS) : sSeq (sAsg i e) b E = bnd (e E) fun d => b (E.set i (.val d)) := id rfl
theorem s_par (i j : Nat) (x y : XE) (b : XS) : sSeq (sPar i j x y) b E = bnd (x E) fun v => bnd (y E) fun w => b ((E.set i (.val v)).set j (.val w)) := id rfl
theorem s_own (i : Nat) (e : XE) (b : XS) : sSeq (sOwn i e) b E = bnd (e E) fun d => match d with | .list ds => b (E.set i (.own ds)) | _ => stuck := by
  show bnd (bnd (e E) _) _ = _
  rw [bnd_assoc]
  congr 1
  funext d
  cases d <;> rfl
theorem s_parO (i j : Nat) (x y : XE) (b : XS) : sSeq (sParO i j x y) b E = bnd (x E) fun v => bnd (y E) fun w => match v with | .list ds => b ((E.set i (.own ds)).set j (.val w)) | _ => stuck := by
  show bnd (bnd (x E) _) _ = _
  rw [bnd_assoc]
  congr 1
  funext v
  rw [bnd_assoc]
  congr 1
  funext w
  cases v <;> rfl
theorem s_app (i : Nat) (e : XE) (b : XS) {ds : List D} (h : E[i]? = some (.own ds)) : sSeq (sApp i e) b E = bnd (e E) fun d => grd (small ds.length) (b (E.set i (.own (ds ++ [d])))) := by
  show bnd (sApp i e E) _ = _
  rw [x_app, h]
  rfl
theorem s_put (tg : Tg) (e : XE) (b : XS) : sSeq (sPut tg e) b E = bnd (e E) fun d => match tg.put d E with | some E' => b E' | none => stuck := by
  show bnd (bnd (e E) _) _ = _
  rw [bnd_assoc]
  congr 1
  funext d
  cases tg.put d E <;> rfl
theorem s_expr (e : XE) (b : XS) : sSeq (sExpr e) b E = bnd (e E) fun _ => b E := id rfl
theorem s_ret (e : XE) (b : XS) : sSeq (sRet e) b E = bnd (e E) fun d => ret (.rt d) := id rfl
theorem s_skip (b : XS) : sSeq sSkip b E = b E := id rfl
theorem s_seq (a b c : XS) : sSeq (sSeq a b) c E = sSeq a (sSeq b c) E := by
  show bnd (bnd (a E) _) _ = bnd (a E) _
  rw [bnd_assoc]
  congr 1
  funext o
  cases o <;> rfl
theorem s_if (t : XT) (x y b : XS) : sSeq (sIf t x y) b E = bnd (t E) fun c => if c = true then sSeq x b E else sSeq y b E := by
  show bnd (bnd (t E) _) _ = _
  rw [bnd_assoc]
  congr 1
  funext c
  cases c <;> rfl
theorem s_rel (i : Nat) (s b : XS) : sSeq (sRel i s) b E = match E[i]? with | some (.own ds) => sSeq s b (E.set i (.val (.list ds))) | _ => sSeq s b E := by
  show bnd (sRel i s E) _ = _
  rw [x_rel]
  cases h : E[i]? with
  | none => rfl
  | some y => cases y <;> rfl
theorem b1_if {α β : Type} (c : Bool) (x y : W α) (f : α → W β) : bnd (if c = true then x else y) f = if c = true then bnd x f else bnd y f := by cases c <;> rfl
end
theorem idx_list {ds : List D} {i : Int} (h0 : 0 ≤ i) (h1 : i < ds.length) : opIdx (.list ds) (.int i) = ret (ds[i.toNat]'(by omega)) := by
  show (match L2.atI ds i with | some d => ret d | none => stuck) = _
  have e : L2.atI ds i = some (ds[i.toNat]'(by omega)) := by
    unfold L2.atI L2.ixN
    rw [if_pos h0, if_pos h1]
    exact List.getElem?_eq_getElem _
  rw [e]
theorem idx_tup {ds : List D} {i : Int} (h0 : 0 ≤ i) (h1 : i < ds.length) : opIdx (.tuple ds) (.int i) = ret (ds[i.toNat]'(by omega)) := by
  show (match L2.atI ds i with | some d => ret d | none => stuck) = _
  have e : L2.atI ds i = some (ds[i.toNat]'(by omega)) := by
    unfold L2.atI L2.ixN
    rw [if_pos h0, if_pos h1]
    exact List.getElem?_eq_getElem _
  rw [e]
theorem idx_intsL {ns : List Int} {i : Int} (h0 : 0 ≤ i) (h1 : i < ns.length) : opIdx (.list (ns.map PyData.int)) (.int i) = ret (.int (ns[i.toNat]'(by omega))) := by
  rw [idx_list h0 (by rw [List.length_map]; exact h1), List.getElem_map]
theorem ixN_ok {n : Nat} {i : Int} (h0 : 0 ≤ i) (h1 : i < n) : L2.ixN n i = some i.toNat := by
  unfold L2.ixN
  rw [if_pos h0, if_pos h1]
theorem ok_comp {β : Type} {it : XA} {tg : Tg} {t : XT} {e : XE} {vs : List Nat} {E : Env} {ds : List D} {b T : Nat} {G : D → Prop} {f : D → W β} {Q : β → Prop} (hit : it E = ret ds) (hl : ds.length ≤ 1000000)
    (hs : ∀ d ∈ ds, ∃ E1, tg.put d (wipeE E vs) = some E1 ∧ t E1 = ret true ∧ Ok (e E1) b G) (hT : ds.length * b ≤ T)
    (hf : ∀ ys : List D, ys.length = ds.length → (∀ d ∈ ys, G d) → Ok (f (.list ys)) (T - ds.length * b) Q) : Ok (DL.bnd (eComp it tg t e vs E) f) T Q := by
  rw [x_comp, hit, bnd_ret, bnd_assoc]
  refine Ok.bnd' T (Ok.noX (comp_ok (G := G) (b := b) ds [] (by simp only [List.length_nil]; omega) (fun d hd => (nomatch hd)) hs)) hT ?_
  rintro ys ⟨h1, h2⟩
  rw [bnd_ret]
  exact hf ys (by rw [h1, List.length_nil, Nat.zero_add]) h2
theorem ints_of {Q : Int → Prop} : ∀ {ds : List D}, (∀ d ∈ ds, ∃ x : Int, d = .int x ∧ Q x) → ∃ ns : List Int, ds = ns.map PyData.int ∧ ∀ x ∈ ns, Q x
  | [], _ => ⟨[], rfl, fun _ h => (nomatch h)⟩
  | d :: ds, h => by
    obtain ⟨x, rfl, hx⟩ := h d (.head _)
    obtain ⟨ns, rfl, hn⟩ := ints_of fun d hd => h d (.tail _ hd)
    refine ⟨x :: ns, rfl, fun y hy => ?_⟩
    rcases List.mem_cons.mp hy with rfl | hy
    · exact hx
    · exact hn y hy
theorem rng_len (a b : Int) : (rng a b).length = (b - a).toNat := by
  unfold rng
  rw [List.length_map, List.length_range]
theorem rng_mem {a b : Int} {d : D} (h : d ∈ rng a b) : ∃ i : Int, d = .int i ∧ a ≤ i ∧ i < b := by
  unfold rng at h
  obtain ⟨i, hi, rfl⟩ := List.mem_map.mp h
  exact ⟨_, rfl, by omega, by have := List.mem_range.mp hi; omega⟩
theorem rng_at {a b : Int} {j : Nat} {d : D} (h : (rng a b)[j]? = some d) : d = .int (a + j) ∧ a + j < b := by
  unfold rng at h
  rw [List.getElem?_map] at h
  cases e : (List.range (b - a).toNat)[j]? with
  | none => rw [e] at h; cases h
  | some i =>
    rw [e] at h
    obtain ⟨h1, h2⟩ := List.getElem?_eq_some_iff.mp e
    rw [List.getElem_range] at h2
    rw [List.length_range] at h1
    subst h2
    cases h
    exact ⟨rfl, by omega⟩
theorem f_fn {k n : Nat} {s : XS} {ds : List D} (h : ds.length = k) : fn k n s ds = bnd (s (start n (ds.map .val))) endOf := grd_pos h _
end DL
end
section
namespace DL
open PySem
/-- a row of words -/
def RowD (most : Int) (d : D) : Prop := ∃ ns : List Int, d = .tuple (ns.map PyData.int) ∧ 1 ≤ ns.length ∧ (ns.length : Int) ≤ most ∧ ∀ x ∈ ns, 1 ≤ x ∧ x ≤ 60
theorem row_drawn_0 {most : Int} (h : 1 ≤ most ∧ most ≤ 24) : Ok (w__law_row_drawn_0 [.int most]) 60 (RowD most) := by
  unfold w__law_row_drawn_0
  rw [x_fnS]
  refine Ok.grd rfl (Ok.fn ?_)
  simp only [x_var, x_con, x_bin, x_neg, x_cmp, x_chain, x_tTru, x_tNot, x_tAnd, x_tOr, x_tBool, x_tYes, x_not, x_and, x_or, x_if, x_b1, x_b2, x_is, x_idx, x_oNone, x_oSome, x_cut, x_aNil, x_aCons, x_tup, x_lst, x_call, x_callS,
    x_iSeq, x_iRng1, x_iRng2, x_bor, x_tBor, x_put1, List.map_cons, List.map_nil, List.cons_append, List.nil_append, List.length_cons, List.length_nil, Nat.zero_add, Nat.reduceAdd, Nat.reduceSub, List.reduceReplicate, start,
    List.getElem?_cons_zero, List.getElem?_cons_succ, List.set_cons_zero, List.set_cons_succ, bnd_ret, bnd_assoc, bnd_grd, b1_if, bnd_ite, small, Nat.reduceLeDiff, grd_true, o_add, o_sub, o_neg, o_eq, o_ne, o_lt, o_le, o_gt, o_ge, o_eqS, o_neS,
    decide_eq_true_eq, reduceIte, decide_true, decide_false, Bool.not_true, Bool.not_false, Bool.false_eq_true, itemsOf, asInt, bi2, endOf, isTy,
    grd_tt, nx_int, nx_bool, nx_str, nx_none, nx_tup, nx_lst, x_isC, x_fld, x_in, x_count, x_lstR, x_tupR, x_raise, x_star, bnd_thr, noX_ret, fld_x, exn_d, eSetO, Out.clear, List.zip_cons_cons, List.zip_nil_left, List.zip_nil_right, s_asg, s_par, s_own, s_parO, s_put, s_expr, s_ret, s_skip, s_seq, s_rel, x_asg, x_par, x_own, x_parO, x_put, x_expr, x_ret, x_retN, x_skip, x_rel, x_app, x_setI, x_sIf, x_for, x_brk, x_cnt]
  refine Ok.drawB (n := 59) (by omega) (by omega) fun r h0 h1 => ?_
  simp only [o_add, bnd_ret]
  refine Ok.drawB (n := 58) (by omega) (by omega) fun way h2 h3 => ?_
  have top : ∃ z : Int, opIdx (PyData.list [PyData.int 3, PyData.int 60, PyData.int 9, PyData.int 2, PyData.int 12, PyData.int 5]) (.int way) = ret (.int z) ∧ 1 ≤ z ∧ z ≤ 60 := by
    obtain rfl | rfl | rfl | rfl | rfl | rfl : way = 0 ∨ way = 1 ∨ way = 2 ∨ way = 3 ∨ way = 4 ∨ way = 5 := by omega
    · exact ⟨3, rfl, by decide⟩
    · exact ⟨60, rfl, by decide⟩
    · exact ⟨9, rfl, by decide⟩
    · exact ⟨2, rfl, by decide⟩
    · exact ⟨12, rfl, by decide⟩
    · exact ⟨5, rfl, by decide⟩
  obtain ⟨z, e, z0, z1⟩ := top
  rw [e, bnd_ret]
  refine ok_comp (ds := rng 0 (1 + r)) (b := 1) (G := fun d => ∃ x : Int, d = .int x ∧ 1 ≤ x ∧ x ≤ 60) ?_ (by rw [rng_len]; omega) ?_ (by rw [rng_len]; omega) ?_
  · simp only [x_var, x_con, x_bin, x_neg, x_cmp, x_chain, x_tTru, x_tNot, x_tAnd, x_tOr, x_tBool, x_tYes, x_not, x_and, x_or, x_if, x_b1, x_b2, x_is, x_idx, x_oNone, x_oSome, x_cut, x_aNil, x_aCons, x_tup, x_lst, x_call, x_callS,
    x_iSeq, x_iRng1, x_iRng2, x_bor, x_tBor, x_put1, List.map_cons, List.map_nil, List.cons_append, List.nil_append, List.length_cons, List.length_nil, Nat.zero_add, Nat.reduceAdd, Nat.reduceSub, List.reduceReplicate, start,
    List.getElem?_cons_zero, List.getElem?_cons_succ, List.set_cons_zero, List.set_cons_succ, bnd_ret, bnd_assoc, bnd_grd, b1_if, bnd_ite, small, Nat.reduceLeDiff, grd_true, o_add, o_sub, o_neg, o_eq, o_ne, o_lt, o_le, o_gt, o_ge, o_eqS, o_neS,
    decide_eq_true_eq, reduceIte, decide_true, decide_false, Bool.not_true, Bool.not_false, Bool.false_eq_true, itemsOf, asInt, bi2, endOf, isTy,
    grd_tt, nx_int, nx_bool, nx_str, nx_none, nx_tup, nx_lst, x_isC, x_fld, x_in, x_count, x_lstR, x_tupR, x_raise, x_star, bnd_thr, noX_ret, fld_x, exn_d, eSetO, Out.clear, List.zip_cons_cons, List.zip_nil_left, List.zip_nil_right]
    exact grd_pos (by unfold rngOk; omega) _
  · intro d hd
    refine ⟨_, rfl, rfl, ?_⟩
    simp only [x_var, x_con, x_bin, x_neg, x_cmp, x_chain, x_tTru, x_tNot, x_tAnd, x_tOr, x_tBool, x_tYes, x_not, x_and, x_or, x_if, x_b1, x_b2, x_is, x_idx, x_oNone, x_oSome, x_cut, x_aNil, x_aCons, x_tup, x_lst, x_call, x_callS,
    x_iSeq, x_iRng1, x_iRng2, x_bor, x_tBor, x_put1, List.map_cons, List.map_nil, List.cons_append, List.nil_append, List.length_cons, List.length_nil, Nat.zero_add, Nat.reduceAdd, Nat.reduceSub, List.reduceReplicate, start,
    List.getElem?_cons_zero, List.getElem?_cons_succ, List.set_cons_zero, List.set_cons_succ, bnd_ret, bnd_assoc, bnd_grd, b1_if, bnd_ite, small, Nat.reduceLeDiff, grd_true, o_add, o_sub, o_neg, o_eq, o_ne, o_lt, o_le, o_gt, o_ge, o_eqS, o_neS,
    decide_eq_true_eq, reduceIte, decide_true, decide_false, Bool.not_true, Bool.not_false, Bool.false_eq_true, itemsOf, asInt, bi2, endOf, isTy,
    grd_tt, nx_int, nx_bool, nx_str, nx_none, nx_tup, nx_lst, x_isC, x_fld, x_in, x_count, x_lstR, x_tupR, x_raise, x_star, bnd_thr, noX_ret, fld_x, exn_d, eSetO, Out.clear, List.zip_cons_cons, List.zip_nil_left, List.zip_nil_right, wipeE]
    refine Ok.drawB (n := 0) (by omega) (by omega) fun x h4 h5 => ?_
    exact Ok.ret ⟨_, rfl, by omega, by omega⟩
  · intro ys hy hG
    obtain ⟨ns, rfl, hn⟩ := ints_of hG
    rw [List.length_map, rng_len] at hy
    rw [rng_len]
    simp only
    refine Ok.seq _ (fun E => ∃ ms : List Int, E = [.stm, .val (.int most), .val (.int (1 + r)), .val (.int way), .val (.int z), .own (ms.map PyData.int), .unk, .unk] ∧ ms.length = (1 + r).toNat ∧ ∀ x ∈ ms, 1 ≤ x ∧ x ≤ 60) (n := 2) ?_ (by omega) ?_
    · simp only [x_var, x_con, x_bin, x_neg, x_cmp, x_chain, x_tTru, x_tNot, x_tAnd, x_tOr, x_tBool, x_tYes, x_not, x_and, x_or, x_if, x_b1, x_b2, x_is, x_idx, x_oNone, x_oSome, x_cut, x_aNil, x_aCons, x_tup, x_lst, x_call, x_callS,
    x_iSeq, x_iRng1, x_iRng2, x_bor, x_tBor, x_put1, List.map_cons, List.map_nil, List.cons_append, List.nil_append, List.length_cons, List.length_nil, Nat.zero_add, Nat.reduceAdd, Nat.reduceSub, List.reduceReplicate, start,
    List.getElem?_cons_zero, List.getElem?_cons_succ, List.set_cons_zero, List.set_cons_succ, bnd_ret, bnd_assoc, bnd_grd, b1_if, bnd_ite, small, Nat.reduceLeDiff, grd_true, o_add, o_sub, o_neg, o_eq, o_ne, o_lt, o_le, o_gt, o_ge, o_eqS, o_neS,
    decide_eq_true_eq, reduceIte, decide_true, decide_false, Bool.not_true, Bool.not_false, Bool.false_eq_true, itemsOf, asInt, bi2, endOf, isTy,
    grd_tt, nx_int, nx_bool, nx_str, nx_none, nx_tup, nx_lst, x_isC, x_fld, x_in, x_count, x_lstR, x_tupR, x_raise, x_star, bnd_thr, noX_ret, fld_x, exn_d, eSetO, Out.clear, List.zip_cons_cons, List.zip_nil_left, List.zip_nil_right, x_sIf, x_skip]
      have stay : Ok (ret (Out.nx [Ent.stm, .val (.int most), .val (.int (1 + r)), .val (.int way), .val (.int z), .own (ns.map PyData.int), .unk, .unk])) 2 fun o => match o with
        | .nx E' => ∃ ms : List Int, E' = [Ent.stm, .val (.int most), .val (.int (1 + r)), .val (.int way), .val (.int z), .own (ms.map PyData.int), .unk, .unk] ∧ ms.length = (1 + r).toNat ∧ ∀ x ∈ ms, 1 ≤ x ∧ x ≤ 60
        | .rt d => RowD most d
        | .bk _ => False
        | .ct _ => False := Ok.ret ⟨ns, rfl, by omega, hn⟩
      have chg : ∀ E, E = [Ent.stm, .val (.int most), .val (.int (1 + r)), .val (.int way), .val (.int z), .own (ns.map PyData.int), .unk, .unk] → Ok (sSet 5 (eCallS fDraw 0 (aCons (eVar 2) aNil)) (eBin Op.add (eCon (PyData.int 1)) (eCallS fDraw 0 (aCons (eCon (PyData.int 60)) aNil))) E) 2 fun o => match o with
        | .nx E' => ∃ ms : List Int, E' = [Ent.stm, .val (.int most), .val (.int (1 + r)), .val (.int way), .val (.int z), .own (ms.map PyData.int), .unk, .unk] ∧ ms.length = (1 + r).toNat ∧ ∀ x ∈ ms, 1 ≤ x ∧ x ≤ 60
        | .rt d => RowD most d
        | .bk _ => False
        | .ct _ => False := by
        rintro E rfl
        simp only [x_var, x_con, x_bin, x_neg, x_cmp, x_chain, x_tTru, x_tNot, x_tAnd, x_tOr, x_tBool, x_tYes, x_not, x_and, x_or, x_if, x_b1, x_b2, x_is, x_idx, x_oNone, x_oSome, x_cut, x_aNil, x_aCons, x_tup, x_lst, x_call, x_callS,
    x_iSeq, x_iRng1, x_iRng2, x_bor, x_tBor, x_put1, List.map_cons, List.map_nil, List.cons_append, List.nil_append, List.length_cons, List.length_nil, Nat.zero_add, Nat.reduceAdd, Nat.reduceSub, List.reduceReplicate, start,
    List.getElem?_cons_zero, List.getElem?_cons_succ, List.set_cons_zero, List.set_cons_succ, bnd_ret, bnd_assoc, bnd_grd, b1_if, bnd_ite, small, Nat.reduceLeDiff, grd_true, o_add, o_sub, o_neg, o_eq, o_ne, o_lt, o_le, o_gt, o_ge, o_eqS, o_neS,
    decide_eq_true_eq, reduceIte, decide_true, decide_false, Bool.not_true, Bool.not_false, Bool.false_eq_true, itemsOf, asInt, bi2, endOf, isTy,
    grd_tt, nx_int, nx_bool, nx_str, nx_none, nx_tup, nx_lst, x_isC, x_fld, x_in, x_count, x_lstR, x_tupR, x_raise, x_star, bnd_thr, noX_ret, fld_x, exn_d, eSetO, Out.clear, List.zip_cons_cons, List.zip_nil_left, List.zip_nil_right, s_asg, s_par, s_own, s_parO, s_put, s_expr, s_ret, s_skip, s_seq, s_rel, x_asg, x_par, x_own, x_parO, x_put, x_expr, x_ret, x_retN, x_skip, x_rel, x_app, x_setI, x_sIf, x_for, x_brk, x_cnt]
        refine Ok.drawB (n := 1) (by omega) (by omega) fun u hu0 hu1 => ?_
        simp only [x_var, x_con, x_bin, x_neg, x_cmp, x_chain, x_tTru, x_tNot, x_tAnd, x_tOr, x_tBool, x_tYes, x_not, x_and, x_or, x_if, x_b1, x_b2, x_is, x_idx, x_oNone, x_oSome, x_cut, x_aNil, x_aCons, x_tup, x_lst, x_call, x_callS,
    x_iSeq, x_iRng1, x_iRng2, x_bor, x_tBor, x_put1, List.map_cons, List.map_nil, List.cons_append, List.nil_append, List.length_cons, List.length_nil, Nat.zero_add, Nat.reduceAdd, Nat.reduceSub, List.reduceReplicate, start,
    List.getElem?_cons_zero, List.getElem?_cons_succ, List.set_cons_zero, List.set_cons_succ, bnd_ret, bnd_assoc, bnd_grd, b1_if, bnd_ite, small, Nat.reduceLeDiff, grd_true, o_add, o_sub, o_neg, o_eq, o_ne, o_lt, o_le, o_gt, o_ge, o_eqS, o_neS,
    decide_eq_true_eq, reduceIte, decide_true, decide_false, Bool.not_true, Bool.not_false, Bool.false_eq_true, itemsOf, asInt, bi2, endOf, isTy,
    grd_tt, nx_int, nx_bool, nx_str, nx_none, nx_tup, nx_lst, x_isC, x_fld, x_in, x_count, x_lstR, x_tupR, x_raise, x_star, bnd_thr, noX_ret, fld_x, exn_d, eSetO, Out.clear, List.zip_cons_cons, List.zip_nil_left, List.zip_nil_right, s_asg, s_par, s_own, s_parO, s_put, s_expr, s_ret, s_skip, s_seq, s_rel, x_asg, x_par, x_own, x_parO, x_put, x_expr, x_ret, x_retN, x_skip, x_rel, x_app, x_setI, x_sIf, x_for, x_brk, x_cnt]
        refine Ok.drawB (n := 0) (by omega) (by omega) fun i hi0 hi1 => ?_
        simp only [x_var, x_con, x_bin, x_neg, x_cmp, x_chain, x_tTru, x_tNot, x_tAnd, x_tOr, x_tBool, x_tYes, x_not, x_and, x_or, x_if, x_b1, x_b2, x_is, x_idx, x_oNone, x_oSome, x_cut, x_aNil, x_aCons, x_tup, x_lst, x_call, x_callS,
    x_iSeq, x_iRng1, x_iRng2, x_bor, x_tBor, x_put1, List.map_cons, List.map_nil, List.cons_append, List.nil_append, List.length_cons, List.length_nil, Nat.zero_add, Nat.reduceAdd, Nat.reduceSub, List.reduceReplicate, start,
    List.getElem?_cons_zero, List.getElem?_cons_succ, List.set_cons_zero, List.set_cons_succ, bnd_ret, bnd_assoc, bnd_grd, b1_if, bnd_ite, small, Nat.reduceLeDiff, grd_true, o_add, o_sub, o_neg, o_eq, o_ne, o_lt, o_le, o_gt, o_ge, o_eqS, o_neS,
    decide_eq_true_eq, reduceIte, decide_true, decide_false, Bool.not_true, Bool.not_false, Bool.false_eq_true, itemsOf, asInt, bi2, endOf, isTy,
    grd_tt, nx_int, nx_bool, nx_str, nx_none, nx_tup, nx_lst, x_isC, x_fld, x_in, x_count, x_lstR, x_tupR, x_raise, x_star, bnd_thr, noX_ret, fld_x, exn_d, eSetO, Out.clear, List.zip_cons_cons, List.zip_nil_left, List.zip_nil_right, s_asg, s_par, s_own, s_parO, s_put, s_expr, s_ret, s_skip, s_seq, s_rel, x_asg, x_par, x_own, x_parO, x_put, x_expr, x_ret, x_retN, x_skip, x_rel, x_app, x_setI, x_sIf, x_for, x_brk, x_cnt]
        rw [ixN_ok hi0 (by rw [List.length_map, hy]; omega)]
        refine Ok.ret ⟨ns.set i.toNat (1 + u), by rw [List.map_set], by rw [List.length_set]; omega, fun x hx => ?_⟩
        rcases List.mem_or_eq_of_mem_set hx with h | h
        · exact hn x h
        · omega
      refine Ok.ite (fun _ => ?_) fun _ => ?_
      · exact chg _ rfl
      · refine Ok.ite (fun _ => ?_) fun _ => ?_
        · exact chg _ rfl
        · exact stay
    · rintro E ⟨ms, rfl, hl, hm⟩
      refine Ok.seq _ (fun E => ∃ (ms : List Int) (e6 e7 : Ent), E = [.stm, .val (.int most), .val (.int (1 + r)), .val (.int way), .val (.int z), .own (ms.map PyData.int), e6, e7] ∧ ms.length = (1 + r).toNat ∧ ∀ x ∈ ms, 1 ≤ x ∧ x ≤ 60) (n := 1) ?_ (by omega) ?_
      · simp only [x_var, x_con, x_bin, x_neg, x_cmp, x_chain, x_tTru, x_tNot, x_tAnd, x_tOr, x_tBool, x_tYes, x_not, x_and, x_or, x_if, x_b1, x_b2, x_is, x_idx, x_oNone, x_oSome, x_cut, x_aNil, x_aCons, x_tup, x_lst, x_call, x_callS,
    x_iSeq, x_iRng1, x_iRng2, x_bor, x_tBor, x_put1, List.map_cons, List.map_nil, List.cons_append, List.nil_append, List.length_cons, List.length_nil, Nat.zero_add, Nat.reduceAdd, Nat.reduceSub, List.reduceReplicate, start,
    List.getElem?_cons_zero, List.getElem?_cons_succ, List.set_cons_zero, List.set_cons_succ, bnd_ret, bnd_assoc, bnd_grd, b1_if, bnd_ite, small, Nat.reduceLeDiff, grd_true, o_add, o_sub, o_neg, o_eq, o_ne, o_lt, o_le, o_gt, o_ge, o_eqS, o_neS,
    decide_eq_true_eq, reduceIte, decide_true, decide_false, Bool.not_true, Bool.not_false, Bool.false_eq_true, itemsOf, asInt, bi2, endOf, isTy,
    grd_tt, nx_int, nx_bool, nx_str, nx_none, nx_tup, nx_lst, x_isC, x_fld, x_in, x_count, x_lstR, x_tupR, x_raise, x_star, bnd_thr, noX_ret, fld_x, exn_d, eSetO, Out.clear, List.zip_cons_cons, List.zip_nil_left, List.zip_nil_right, s_asg, s_par, s_own, s_parO, s_put, s_expr, s_ret, s_skip, s_seq, s_rel, x_asg, x_par, x_own, x_parO, x_put, x_expr, x_ret, x_retN, x_skip, x_rel, x_app, x_setI, x_sIf, x_for, x_brk, x_cnt]
        refine Ok.ite (fun _ => ?_) fun _ => Ok.ret ⟨ms, _, _, rfl, hl, hm⟩
        refine Ok.drawB (n := 0) (by split <;> omega) (by split <;> omega) fun u hu0 hu1 => ?_
        simp only [x_var, x_con, x_bin, x_neg, x_cmp, x_chain, x_tTru, x_tNot, x_tAnd, x_tOr, x_tBool, x_tYes, x_not, x_and, x_or, x_if, x_b1, x_b2, x_is, x_idx, x_oNone, x_oSome, x_cut, x_aNil, x_aCons, x_tup, x_lst, x_call, x_callS,
    x_iSeq, x_iRng1, x_iRng2, x_bor, x_tBor, x_put1, List.map_cons, List.map_nil, List.cons_append, List.nil_append, List.length_cons, List.length_nil, Nat.zero_add, Nat.reduceAdd, Nat.reduceSub, List.reduceReplicate, start,
    List.getElem?_cons_zero, List.getElem?_cons_succ, List.set_cons_zero, List.set_cons_succ, bnd_ret, bnd_assoc, bnd_grd, b1_if, bnd_ite, small, Nat.reduceLeDiff, grd_true, o_add, o_sub, o_neg, o_eq, o_ne, o_lt, o_le, o_gt, o_ge, o_eqS, o_neS,
    decide_eq_true_eq, reduceIte, decide_true, decide_false, Bool.not_true, Bool.not_false, Bool.false_eq_true, itemsOf, asInt, bi2, endOf, isTy,
    grd_tt, nx_int, nx_bool, nx_str, nx_none, nx_tup, nx_lst, x_isC, x_fld, x_in, x_count, x_lstR, x_tupR, x_raise, x_star, bnd_thr, noX_ret, fld_x, exn_d, eSetO, Out.clear, List.zip_cons_cons, List.zip_nil_left, List.zip_nil_right, s_asg, s_par, s_own, s_parO, s_put, s_expr, s_ret, s_skip, s_seq, s_rel, x_asg, x_par, x_own, x_parO, x_put, x_expr, x_ret, x_retN, x_skip, x_rel, x_app, x_setI, x_sIf, x_for, x_brk, x_cnt]
        refine ok_comp (ds := rng 0 (1 + r)) (b := 0) (G := fun d => ∃ x : Int, d = .int x ∧ 1 ≤ x ∧ x ≤ 60) ?_ (by rw [rng_len]; omega) ?_ (Nat.le_refl _) ?_
        · simp only [x_var, x_con, x_bin, x_neg, x_cmp, x_chain, x_tTru, x_tNot, x_tAnd, x_tOr, x_tBool, x_tYes, x_not, x_and, x_or, x_if, x_b1, x_b2, x_is, x_idx, x_oNone, x_oSome, x_cut, x_aNil, x_aCons, x_tup, x_lst, x_call, x_callS,
    x_iSeq, x_iRng1, x_iRng2, x_bor, x_tBor, x_put1, List.map_cons, List.map_nil, List.cons_append, List.nil_append, List.length_cons, List.length_nil, Nat.zero_add, Nat.reduceAdd, Nat.reduceSub, List.reduceReplicate, start,
    List.getElem?_cons_zero, List.getElem?_cons_succ, List.set_cons_zero, List.set_cons_succ, bnd_ret, bnd_assoc, bnd_grd, b1_if, bnd_ite, small, Nat.reduceLeDiff, grd_true, o_add, o_sub, o_neg, o_eq, o_ne, o_lt, o_le, o_gt, o_ge, o_eqS, o_neS,
    decide_eq_true_eq, reduceIte, decide_true, decide_false, Bool.not_true, Bool.not_false, Bool.false_eq_true, itemsOf, asInt, bi2, endOf, isTy,
    grd_tt, nx_int, nx_bool, nx_str, nx_none, nx_tup, nx_lst, x_isC, x_fld, x_in, x_count, x_lstR, x_tupR, x_raise, x_star, bnd_thr, noX_ret, fld_x, exn_d, eSetO, Out.clear, List.zip_cons_cons, List.zip_nil_left, List.zip_nil_right]
          exact grd_pos (by unfold rngOk; omega) _
        · intro d hd
          obtain ⟨i, rfl, hi0, hi1⟩ := rng_mem hd
          refine ⟨_, rfl, rfl, ?_⟩
          simp only [x_var, x_con, x_bin, x_neg, x_cmp, x_chain, x_tTru, x_tNot, x_tAnd, x_tOr, x_tBool, x_tYes, x_not, x_and, x_or, x_if, x_b1, x_b2, x_is, x_idx, x_oNone, x_oSome, x_cut, x_aNil, x_aCons, x_tup, x_lst, x_call, x_callS,
    x_iSeq, x_iRng1, x_iRng2, x_bor, x_tBor, x_put1, List.map_cons, List.map_nil, List.cons_append, List.nil_append, List.length_cons, List.length_nil, Nat.zero_add, Nat.reduceAdd, Nat.reduceSub, List.reduceReplicate, start,
    List.getElem?_cons_zero, List.getElem?_cons_succ, List.set_cons_zero, List.set_cons_succ, bnd_ret, bnd_assoc, bnd_grd, b1_if, bnd_ite, small, Nat.reduceLeDiff, grd_true, o_add, o_sub, o_neg, o_eq, o_ne, o_lt, o_le, o_gt, o_ge, o_eqS, o_neS,
    decide_eq_true_eq, reduceIte, decide_true, decide_false, Bool.not_true, Bool.not_false, Bool.false_eq_true, itemsOf, asInt, bi2, endOf, isTy,
    grd_tt, nx_int, nx_bool, nx_str, nx_none, nx_tup, nx_lst, x_isC, x_fld, x_in, x_count, x_lstR, x_tupR, x_raise, x_star, bnd_thr, noX_ret, fld_x, exn_d, eSetO, Out.clear, List.zip_cons_cons, List.zip_nil_left, List.zip_nil_right, wipeE, o_mod]
          refine Ok.grd (by omega) ?_
          have hlt : i % (1 + u) < ms.length := by
            have := Int.emod_lt_of_pos i (show 0 < 1 + u by omega)
            have hb : 1 + u ≤ 1 + r := by split at hu1 <;> omega
            omega
          rw [idx_intsL (Int.emod_nonneg _ (by omega)) hlt]
          exact Ok.ret ⟨_, rfl, hm _ (List.getElem_mem _)⟩
        · intro ys hy2 hG2
          obtain ⟨ms2, rfl, hm2⟩ := ints_of hG2
          rw [List.length_map, rng_len] at hy2
          exact Ok.ret ⟨ms2, _, _, rfl, by omega, hm2⟩
      · rintro E ⟨ms, e6, e7, rfl, hl, hm⟩
        simp only [x_var, x_con, x_bin, x_neg, x_cmp, x_chain, x_tTru, x_tNot, x_tAnd, x_tOr, x_tBool, x_tYes, x_not, x_and, x_or, x_if, x_b1, x_b2, x_is, x_idx, x_oNone, x_oSome, x_cut, x_aNil, x_aCons, x_tup, x_lst, x_call, x_callS,
    x_iSeq, x_iRng1, x_iRng2, x_bor, x_tBor, x_put1, List.map_cons, List.map_nil, List.cons_append, List.nil_append, List.length_cons, List.length_nil, Nat.zero_add, Nat.reduceAdd, Nat.reduceSub, List.reduceReplicate, start,
    List.getElem?_cons_zero, List.getElem?_cons_succ, List.set_cons_zero, List.set_cons_succ, bnd_ret, bnd_assoc, bnd_grd, b1_if, bnd_ite, small, Nat.reduceLeDiff, grd_true, o_add, o_sub, o_neg, o_eq, o_ne, o_lt, o_le, o_gt, o_ge, o_eqS, o_neS,
    decide_eq_true_eq, reduceIte, decide_true, decide_false, Bool.not_true, Bool.not_false, Bool.false_eq_true, itemsOf, asInt, bi2, endOf, isTy,
    grd_tt, nx_int, nx_bool, nx_str, nx_none, nx_tup, nx_lst, x_isC, x_fld, x_in, x_count, x_lstR, x_tupR, x_raise, x_star, bnd_thr, noX_ret, fld_x, exn_d, eSetO, Out.clear, List.zip_cons_cons, List.zip_nil_left, List.zip_nil_right, s_asg, s_par, s_own, s_parO, s_put, s_expr, s_ret, s_skip, s_seq, s_rel, x_asg, x_par, x_own, x_parO, x_put, x_expr, x_ret, x_retN, x_skip, x_rel, x_app, x_setI, x_sIf, x_for, x_brk, x_cnt]
        exact Ok.ret ⟨ms, rfl, by omega, by omega, hm⟩
end DL
end
section
namespace DL
open PySem
/-- the extent of a stretch -/
def ext (ns : List Int) (i j : Nat) : Int := ((ns.drop i).take (j + 1 - i)).sum + j - i
theorem cut_nat (ds : List D) (i j : Nat) (hi : i ≤ ds.length) (hj : j ≤ ds.length) : DL.cut ds (some (i : Int)) (some (j : Int)) = (ds.drop i).take (j - i) := by
  unfold DL.cut
  rw [HT.sIx_nat, HT.sIx_nat, Nat.min_eq_left hi, Nat.min_eq_left hj]
theorem sum_ints (ns : List Int) : bi1 .sum (.tuple (ns.map PyData.int)) = ret (.int ns.sum) := by
  show bnd (intsOf (.tuple (ns.map PyData.int))) _ = _
  simp only [intsOf, itemsOf, bnd_ret, ints?_map]
theorem extent_of_0 {ns : List Int} {i j : Nat} (h : i ≤ j) (hj : j < ns.length) : w_extent_of_0 [.tuple (ns.map PyData.int), .int i, .int j] = ret (.int (ext ns i j)) := by
  unfold w_extent_of_0
  refine (f_fn (by rfl)).trans ?_
  simp only [x_var, x_con, x_bin, x_neg, x_cmp, x_chain, x_tTru, x_tNot, x_tAnd, x_tOr, x_tBool, x_tYes, x_not, x_and, x_or, x_if, x_b1, x_b2, x_is, x_idx, x_oNone, x_oSome, x_cut, x_aNil, x_aCons, x_tup, x_lst, x_call, x_callS,
    x_iSeq, x_iRng1, x_iRng2, x_bor, x_tBor, x_put1, List.map_cons, List.map_nil, List.cons_append, List.nil_append, List.length_cons, List.length_nil, Nat.zero_add, Nat.reduceAdd, Nat.reduceSub, List.reduceReplicate, start,
    List.getElem?_cons_zero, List.getElem?_cons_succ, List.set_cons_zero, List.set_cons_succ, bnd_ret, bnd_assoc, bnd_grd, b1_if, bnd_ite, small, Nat.reduceLeDiff, grd_true, o_add, o_sub, o_neg, o_eq, o_ne, o_lt, o_le, o_gt, o_ge, o_eqS, o_neS,
    decide_eq_true_eq, reduceIte, decide_true, decide_false, Bool.not_true, Bool.not_false, Bool.false_eq_true, itemsOf, asInt, bi2, endOf, isTy,
    grd_tt, nx_int, nx_bool, nx_str, nx_none, nx_tup, nx_lst, x_isC, x_fld, x_in, x_count, x_lstR, x_tupR, x_raise, x_star, bnd_thr, noX_ret, fld_x, exn_d, eSetO, Out.clear, List.zip_cons_cons, List.zip_nil_left, List.zip_nil_right, s_asg, s_par, s_own, s_parO, s_put, s_expr, s_ret, s_skip, s_seq, s_rel, x_asg, x_par, x_own, x_parO, x_put, x_expr, x_ret, x_retN, x_skip, x_rel, x_app, x_setI, x_sIf, x_for, x_brk, x_cnt, opCut]
  rw [show ((j : Int) + 1) = ((j + 1 : Nat) : Int) by omega, cut_nat _ i (j + 1) (by rw [List.length_map]; omega) (by rw [List.length_map]; omega), ← List.map_drop, ← List.map_take, sum_ints]
  simp only [x_var, x_con, x_bin, x_neg, x_cmp, x_chain, x_tTru, x_tNot, x_tAnd, x_tOr, x_tBool, x_tYes, x_not, x_and, x_or, x_if, x_b1, x_b2, x_is, x_idx, x_oNone, x_oSome, x_cut, x_aNil, x_aCons, x_tup, x_lst, x_call, x_callS,
    x_iSeq, x_iRng1, x_iRng2, x_bor, x_tBor, x_put1, List.map_cons, List.map_nil, List.cons_append, List.nil_append, List.length_cons, List.length_nil, Nat.zero_add, Nat.reduceAdd, Nat.reduceSub, List.reduceReplicate, start,
    List.getElem?_cons_zero, List.getElem?_cons_succ, List.set_cons_zero, List.set_cons_succ, bnd_ret, bnd_assoc, bnd_grd, b1_if, bnd_ite, small, Nat.reduceLeDiff, grd_true, o_add, o_sub, o_neg, o_eq, o_ne, o_lt, o_le, o_gt, o_ge, o_eqS, o_neS,
    decide_eq_true_eq, reduceIte, decide_true, decide_false, Bool.not_true, Bool.not_false, Bool.false_eq_true, itemsOf, asInt, bi2, endOf, isTy,
    grd_tt, nx_int, nx_bool, nx_str, nx_none, nx_tup, nx_lst, x_isC, x_fld, x_in, x_count, x_lstR, x_tupR, x_raise, x_star, bnd_thr, noX_ret, fld_x, exn_d, eSetO, Out.clear, List.zip_cons_cons, List.zip_nil_left, List.zip_nil_right, s_asg, s_par, s_own, s_parO, s_put, s_expr, s_ret, s_skip, s_seq, s_rel, x_asg, x_par, x_own, x_parO, x_put, x_expr, x_ret, x_retN, x_skip, x_rel, x_app, x_setI, x_sIf, x_for, x_brk, x_cnt]
  unfold ext
  rfl
theorem ext_self {ns : List Int} {i : Nat} {x : Int} (h : ns[i]? = some x) : ext ns i i = x := by
  unfold ext
  obtain ⟨hl, e⟩ := List.getElem?_eq_some_iff.mp h
  rw [show i + 1 - i = 1 by omega, List.drop_eq_getElem_cons hl, e]
  simp
theorem ext_next {ns : List Int} {i j : Nat} {x : Int} (hij : i ≤ j) (h : ns[j + 1]? = some x) : ext ns i (j + 1) = ext ns i j + 1 + x := by
  unfold ext
  have e : ((ns.drop i).take (j + 1 + 1 - i)) = (ns.drop i).take (j + 1 - i) ++ [x] := by
    rw [show j + 1 + 1 - i = (j + 1 - i) + 1 by omega, List.take_succ, List.getElem?_drop, show i + (j + 1 - i) = j + 1 by omega, h]
    rfl
  rw [e, List.sum_append]
  simp
  omega
theorem sum_bound : ∀ {ns : List Int} {b : Int}, 0 ≤ b → (∀ x ∈ ns, 0 ≤ x ∧ x ≤ b) → 0 ≤ ns.sum ∧ ns.sum ≤ b * ns.length
  | [], b, _, _ => by simp
  | x :: ns, b, hb, h => by
    have := sum_bound hb fun y hy => h y (.tail _ hy)
    have hx := h x (.head _)
    rw [List.sum_cons, List.length_cons]
    have e : b * ((ns.length + 1 : Nat) : Int) = b * ns.length + b := by rw [Int.natCast_add, Int.mul_add]; simp
    omega
end DL
end
section
namespace DL
open PySem
/-- a while that draws nothing: so many turns, from here to there -/
inductive Runs (t : XT) (s : XS) : Nat → Env → Env → Prop
  | stop {E : Env} : t E = ret false → Runs t s 0 E E
  | turn {k : Nat} {E E' E2 : Env} : t E = ret true → s E = ret (.nx E') → Runs t s k E' E2 → Runs t s (k + 1) E E2
theorem Runs.at_ {t : XT} {s : XS} : ∀ {k : Nat} {E E2 : Env}, Runs t s k E E2 → ∀ n, whileL t s n E = if k < n then ret (.nx E2) else stuck
  | _, _, _, _, 0 => by simp [whileL]
  | _, E, _, .stop h, n + 1 => by
    show bnd (t E) _ = _
    rw [h, bnd_ret, if_neg (by decide), if_pos (Nat.succ_pos n)]
  | _, E, _, .turn (k := k) (E' := E') h1 h2 r, n + 1 => by
    show bnd (t E) _ = _
    rw [h1, bnd_ret, if_pos rfl, h2, bnd_ret]
    show whileL t s n E' = _
    rw [Runs.at_ r n]
    by_cases h : k < n
    · rw [if_pos h, if_pos (by omega)]
    · rw [if_neg h, if_neg (by omega)]
theorem Runs.eq {t : XT} {s : XS} {k : Nat} {E E2 : Env} (r : Runs t s k E E2) : sWhile t s E = ret (.nx E2) := by
  funext c P X
  show (∃ n, whileL t s n E c P X) = _
  refine propext ⟨fun ⟨n, h⟩ => ?_, fun h => ⟨k + 1, ?_⟩⟩
  · rw [r.at_ n] at h
    split at h
    · exact h
    · exact h.elim
  · rw [r.at_ (k + 1), if_pos (Nat.lt_succ_self k)]
    exact h
/-- the least place from j on whose stretch from i on is too long, or the end -/
def nxFrom (ns : List Int) (w : Int) (i : Nat) : Nat → Nat → Nat
  | 0, j => j
  | f + 1, j => if j < ns.length ∧ ext ns i j ≤ w then nxFrom ns w i f (j + 1) else j
def nx (ns : List Int) (w : Int) (i : Nat) : Nat := nxFrom ns w i (ns.length - i) (i + 1)
theorem extent_ofZ {ns : List Int} {i j : Nat} (h : i ≤ j) (hj : j < ns.length) : w_extent_of_0 [.tuple (ns.map PyData.int), .int (i : Int), .int (j : Int)] = ret (.int (ext ns i j)) := extent_of_0 h hj
theorem next_start_runs {ns : List Int} {w : Int} {i : Nat} : ∀ (f j : Nat), i ≤ j → ns.length ≤ j + f → j ≤ ns.length → ∃ k, Runs (tAnd (tBool (eCmp .lt (eVar 3) (eB1 .len (eVar 0)))) (tBool (eCmp .le (eCall w_extent_of_0 (aCons (eVar 0) (aCons (eVar 2) (aCons (eVar 3) (aNil))))) (eVar 1))))
      (sAsg 3 (eBin .add (eVar 3) (eCon (.int 1)))) k [.val (.tuple (ns.map PyData.int)), .val (.int w), .val (.int i), .val (.int j)] [.val (.tuple (ns.map PyData.int)), .val (.int w), .val (.int i), .val (.int (nxFrom ns w i f j))]
  | 0, j, hij, hf, hj => by
    refine ⟨0, .stop ?_⟩
    simp only [x_var, x_con, x_bin, x_neg, x_cmp, x_chain, x_tTru, x_tNot, x_tAnd, x_tOr, x_tBool, x_tYes, x_not, x_and, x_or, x_if, x_b1, x_b2, x_is, x_idx, x_oNone, x_oSome, x_cut, x_aNil, x_aCons, x_tup, x_lst, x_call, x_callS,
    x_iSeq, x_iRng1, x_iRng2, x_bor, x_tBor, x_put1, List.map_cons, List.map_nil, List.cons_append, List.nil_append, List.length_cons, List.length_nil, Nat.zero_add, Nat.reduceAdd, Nat.reduceSub, List.reduceReplicate, start,
    List.getElem?_cons_zero, List.getElem?_cons_succ, List.set_cons_zero, List.set_cons_succ, bnd_ret, bnd_assoc, bnd_grd, b1_if, bnd_ite, small, Nat.reduceLeDiff, grd_true, o_add, o_sub, o_neg, o_eq, o_ne, o_lt, o_le, o_gt, o_ge, o_eqS, o_neS,
    decide_eq_true_eq, reduceIte, decide_true, decide_false, Bool.not_true, Bool.not_false, Bool.false_eq_true, itemsOf, asInt, bi2, endOf, isTy,
    grd_tt, nx_int, nx_bool, nx_str, nx_none, nx_tup, nx_lst, x_isC, x_fld, x_in, x_count, x_lstR, x_tupR, x_raise, x_star, bnd_thr, noX_ret, fld_x, exn_d, eSetO, Out.clear, List.zip_cons_cons, List.zip_nil_left, List.zip_nil_right, bi1, List.length_map]
    rw [if_neg (by omega)]
  | f + 1, j, hij, hf, hj => by
    by_cases h : j < ns.length ∧ ext ns i j ≤ w
    · obtain ⟨k, r⟩ := next_start_runs (ns := ns) (w := w) (i := i) f (j + 1) (by omega) (by omega) (by omega)
      refine ⟨k + 1, .turn (E' := [.val (.tuple (ns.map PyData.int)), .val (.int w), .val (.int i), .val (.int ((j + 1 : Nat) : Int))]) ?_ ?_ ?_⟩
      · simp only [x_var, x_con, x_bin, x_neg, x_cmp, x_chain, x_tTru, x_tNot, x_tAnd, x_tOr, x_tBool, x_tYes, x_not, x_and, x_or, x_if, x_b1, x_b2, x_is, x_idx, x_oNone, x_oSome, x_cut, x_aNil, x_aCons, x_tup, x_lst, x_call, x_callS,
    x_iSeq, x_iRng1, x_iRng2, x_bor, x_tBor, x_put1, List.map_cons, List.map_nil, List.cons_append, List.nil_append, List.length_cons, List.length_nil, Nat.zero_add, Nat.reduceAdd, Nat.reduceSub, List.reduceReplicate, start,
    List.getElem?_cons_zero, List.getElem?_cons_succ, List.set_cons_zero, List.set_cons_succ, bnd_ret, bnd_assoc, bnd_grd, b1_if, bnd_ite, small, Nat.reduceLeDiff, grd_true, o_add, o_sub, o_neg, o_eq, o_ne, o_lt, o_le, o_gt, o_ge, o_eqS, o_neS,
    decide_eq_true_eq, reduceIte, decide_true, decide_false, Bool.not_true, Bool.not_false, Bool.false_eq_true, itemsOf, asInt, bi2, endOf, isTy,
    grd_tt, nx_int, nx_bool, nx_str, nx_none, nx_tup, nx_lst, x_isC, x_fld, x_in, x_count, x_lstR, x_tupR, x_raise, x_star, bnd_thr, noX_ret, fld_x, exn_d, eSetO, Out.clear, List.zip_cons_cons, List.zip_nil_left, List.zip_nil_right, bi1, List.length_map]
        rw [if_pos (by omega), extent_ofZ hij h.1]
        simp only [x_var, x_con, x_bin, x_neg, x_cmp, x_chain, x_tTru, x_tNot, x_tAnd, x_tOr, x_tBool, x_tYes, x_not, x_and, x_or, x_if, x_b1, x_b2, x_is, x_idx, x_oNone, x_oSome, x_cut, x_aNil, x_aCons, x_tup, x_lst, x_call, x_callS,
    x_iSeq, x_iRng1, x_iRng2, x_bor, x_tBor, x_put1, List.map_cons, List.map_nil, List.cons_append, List.nil_append, List.length_cons, List.length_nil, Nat.zero_add, Nat.reduceAdd, Nat.reduceSub, List.reduceReplicate, start,
    List.getElem?_cons_zero, List.getElem?_cons_succ, List.set_cons_zero, List.set_cons_succ, bnd_ret, bnd_assoc, bnd_grd, b1_if, bnd_ite, small, Nat.reduceLeDiff, grd_true, o_add, o_sub, o_neg, o_eq, o_ne, o_lt, o_le, o_gt, o_ge, o_eqS, o_neS,
    decide_eq_true_eq, reduceIte, decide_true, decide_false, Bool.not_true, Bool.not_false, Bool.false_eq_true, itemsOf, asInt, bi2, endOf, isTy,
    grd_tt, nx_int, nx_bool, nx_str, nx_none, nx_tup, nx_lst, x_isC, x_fld, x_in, x_count, x_lstR, x_tupR, x_raise, x_star, bnd_thr, noX_ret, fld_x, exn_d, eSetO, Out.clear, List.zip_cons_cons, List.zip_nil_left, List.zip_nil_right]
        rw [decide_eq_true h.2]
      · simp only [x_var, x_con, x_bin, x_neg, x_cmp, x_chain, x_tTru, x_tNot, x_tAnd, x_tOr, x_tBool, x_tYes, x_not, x_and, x_or, x_if, x_b1, x_b2, x_is, x_idx, x_oNone, x_oSome, x_cut, x_aNil, x_aCons, x_tup, x_lst, x_call, x_callS,
    x_iSeq, x_iRng1, x_iRng2, x_bor, x_tBor, x_put1, List.map_cons, List.map_nil, List.cons_append, List.nil_append, List.length_cons, List.length_nil, Nat.zero_add, Nat.reduceAdd, Nat.reduceSub, List.reduceReplicate, start,
    List.getElem?_cons_zero, List.getElem?_cons_succ, List.set_cons_zero, List.set_cons_succ, bnd_ret, bnd_assoc, bnd_grd, b1_if, bnd_ite, small, Nat.reduceLeDiff, grd_true, o_add, o_sub, o_neg, o_eq, o_ne, o_lt, o_le, o_gt, o_ge, o_eqS, o_neS,
    decide_eq_true_eq, reduceIte, decide_true, decide_false, Bool.not_true, Bool.not_false, Bool.false_eq_true, itemsOf, asInt, bi2, endOf, isTy,
    grd_tt, nx_int, nx_bool, nx_str, nx_none, nx_tup, nx_lst, x_isC, x_fld, x_in, x_count, x_lstR, x_tupR, x_raise, x_star, bnd_thr, noX_ret, fld_x, exn_d, eSetO, Out.clear, List.zip_cons_cons, List.zip_nil_left, List.zip_nil_right, s_asg, s_par, s_own, s_parO, s_put, s_expr, s_ret, s_skip, s_seq, s_rel, x_asg, x_par, x_own, x_parO, x_put, x_expr, x_ret, x_retN, x_skip, x_rel, x_app, x_setI, x_sIf, x_for, x_brk, x_cnt]
        rfl
      · have e : nxFrom ns w i (f + 1) j = nxFrom ns w i f (j + 1) := by
          show (if j < ns.length ∧ ext ns i j ≤ w then nxFrom ns w i f (j + 1) else j) = _
          rw [if_pos h]
        rw [e]
        exact r
    · have e : nxFrom ns w i (f + 1) j = j := by
        show (if j < ns.length ∧ ext ns i j ≤ w then nxFrom ns w i f (j + 1) else j) = _
        rw [if_neg h]
      rw [e]
      refine ⟨0, .stop ?_⟩
      simp only [x_var, x_con, x_bin, x_neg, x_cmp, x_chain, x_tTru, x_tNot, x_tAnd, x_tOr, x_tBool, x_tYes, x_not, x_and, x_or, x_if, x_b1, x_b2, x_is, x_idx, x_oNone, x_oSome, x_cut, x_aNil, x_aCons, x_tup, x_lst, x_call, x_callS,
    x_iSeq, x_iRng1, x_iRng2, x_bor, x_tBor, x_put1, List.map_cons, List.map_nil, List.cons_append, List.nil_append, List.length_cons, List.length_nil, Nat.zero_add, Nat.reduceAdd, Nat.reduceSub, List.reduceReplicate, start,
    List.getElem?_cons_zero, List.getElem?_cons_succ, List.set_cons_zero, List.set_cons_succ, bnd_ret, bnd_assoc, bnd_grd, b1_if, bnd_ite, small, Nat.reduceLeDiff, grd_true, o_add, o_sub, o_neg, o_eq, o_ne, o_lt, o_le, o_gt, o_ge, o_eqS, o_neS,
    decide_eq_true_eq, reduceIte, decide_true, decide_false, Bool.not_true, Bool.not_false, Bool.false_eq_true, itemsOf, asInt, bi2, endOf, isTy,
    grd_tt, nx_int, nx_bool, nx_str, nx_none, nx_tup, nx_lst, x_isC, x_fld, x_in, x_count, x_lstR, x_tupR, x_raise, x_star, bnd_thr, noX_ret, fld_x, exn_d, eSetO, Out.clear, List.zip_cons_cons, List.zip_nil_left, List.zip_nil_right, bi1, List.length_map]
      by_cases hl : j < ns.length
      · rw [if_pos (by omega), extent_ofZ hij hl]
        simp only [x_var, x_con, x_bin, x_neg, x_cmp, x_chain, x_tTru, x_tNot, x_tAnd, x_tOr, x_tBool, x_tYes, x_not, x_and, x_or, x_if, x_b1, x_b2, x_is, x_idx, x_oNone, x_oSome, x_cut, x_aNil, x_aCons, x_tup, x_lst, x_call, x_callS,
    x_iSeq, x_iRng1, x_iRng2, x_bor, x_tBor, x_put1, List.map_cons, List.map_nil, List.cons_append, List.nil_append, List.length_cons, List.length_nil, Nat.zero_add, Nat.reduceAdd, Nat.reduceSub, List.reduceReplicate, start,
    List.getElem?_cons_zero, List.getElem?_cons_succ, List.set_cons_zero, List.set_cons_succ, bnd_ret, bnd_assoc, bnd_grd, b1_if, bnd_ite, small, Nat.reduceLeDiff, grd_true, o_add, o_sub, o_neg, o_eq, o_ne, o_lt, o_le, o_gt, o_ge, o_eqS, o_neS,
    decide_eq_true_eq, reduceIte, decide_true, decide_false, Bool.not_true, Bool.not_false, Bool.false_eq_true, itemsOf, asInt, bi2, endOf, isTy,
    grd_tt, nx_int, nx_bool, nx_str, nx_none, nx_tup, nx_lst, x_isC, x_fld, x_in, x_count, x_lstR, x_tupR, x_raise, x_star, bnd_thr, noX_ret, fld_x, exn_d, eSetO, Out.clear, List.zip_cons_cons, List.zip_nil_left, List.zip_nil_right]
        rw [decide_eq_false fun z => h ⟨hl, z⟩]
      · rw [if_neg (by omega)]
theorem next_start_0 {ns : List Int} {w : Int} {i : Nat} (hi : i < ns.length) : w_next_start_0 [.tuple (ns.map PyData.int), .int w, .int (i : Int)] = ret (.int (nx ns w i : Nat)) := by
  unfold w_next_start_0
  refine (f_fn (by rfl)).trans ?_
  simp only [x_var, x_con, x_bin, x_neg, x_cmp, x_chain, x_tTru, x_tNot, x_tAnd, x_tOr, x_tBool, x_tYes, x_not, x_and, x_or, x_if, x_b1, x_b2, x_is, x_idx, x_oNone, x_oSome, x_cut, x_aNil, x_aCons, x_tup, x_lst, x_call, x_callS,
    x_iSeq, x_iRng1, x_iRng2, x_bor, x_tBor, x_put1, List.map_cons, List.map_nil, List.cons_append, List.nil_append, List.length_cons, List.length_nil, Nat.zero_add, Nat.reduceAdd, Nat.reduceSub, List.reduceReplicate, start,
    List.getElem?_cons_zero, List.getElem?_cons_succ, List.set_cons_zero, List.set_cons_succ, bnd_ret, bnd_assoc, bnd_grd, b1_if, bnd_ite, small, Nat.reduceLeDiff, grd_true, o_add, o_sub, o_neg, o_eq, o_ne, o_lt, o_le, o_gt, o_ge, o_eqS, o_neS,
    decide_eq_true_eq, reduceIte, decide_true, decide_false, Bool.not_true, Bool.not_false, Bool.false_eq_true, itemsOf, asInt, bi2, endOf, isTy,
    grd_tt, nx_int, nx_bool, nx_str, nx_none, nx_tup, nx_lst, x_isC, x_fld, x_in, x_count, x_lstR, x_tupR, x_raise, x_star, bnd_thr, noX_ret, fld_x, exn_d, eSetO, Out.clear, List.zip_cons_cons, List.zip_nil_left, List.zip_nil_right, s_asg, s_par, s_own, s_parO, s_put, s_expr, s_ret, s_skip, s_seq, s_rel, x_asg, x_par, x_own, x_parO, x_put, x_expr, x_ret, x_retN, x_skip, x_rel, x_app, x_setI, x_sIf, x_for, x_brk, x_cnt]
  obtain ⟨k, r⟩ := next_start_runs (ns := ns) (w := w) (i := i) (ns.length - i) (i + 1) (by omega) (by omega) (by omega)
  have e := r.eq
  rw [show ((i : Int) + 1) = ((i + 1 : Nat) : Int) by omega]
  rw [x_seq, e]
  simp only [x_var, x_con, x_bin, x_neg, x_cmp, x_chain, x_tTru, x_tNot, x_tAnd, x_tOr, x_tBool, x_tYes, x_not, x_and, x_or, x_if, x_b1, x_b2, x_is, x_idx, x_oNone, x_oSome, x_cut, x_aNil, x_aCons, x_tup, x_lst, x_call, x_callS,
    x_iSeq, x_iRng1, x_iRng2, x_bor, x_tBor, x_put1, List.map_cons, List.map_nil, List.cons_append, List.nil_append, List.length_cons, List.length_nil, Nat.zero_add, Nat.reduceAdd, Nat.reduceSub, List.reduceReplicate, start,
    List.getElem?_cons_zero, List.getElem?_cons_succ, List.set_cons_zero, List.set_cons_succ, bnd_ret, bnd_assoc, bnd_grd, b1_if, bnd_ite, small, Nat.reduceLeDiff, grd_true, o_add, o_sub, o_neg, o_eq, o_ne, o_lt, o_le, o_gt, o_ge, o_eqS, o_neS,
    decide_eq_true_eq, reduceIte, decide_true, decide_false, Bool.not_true, Bool.not_false, Bool.false_eq_true, itemsOf, asInt, bi2, endOf, isTy,
    grd_tt, nx_int, nx_bool, nx_str, nx_none, nx_tup, nx_lst, x_isC, x_fld, x_in, x_count, x_lstR, x_tupR, x_raise, x_star, bnd_thr, noX_ret, fld_x, exn_d, eSetO, Out.clear, List.zip_cons_cons, List.zip_nil_left, List.zip_nil_right, s_asg, s_par, s_own, s_parO, s_put, s_expr, s_ret, s_skip, s_seq, s_rel, x_asg, x_par, x_own, x_parO, x_put, x_expr, x_ret, x_retN, x_skip, x_rel, x_app, x_setI, x_sIf, x_for, x_brk, x_cnt]
  rfl
theorem nxFrom_ge (ns : List Int) (w : Int) (i : Nat) : ∀ f j, j ≤ nxFrom ns w i f j
  | 0, _ => Nat.le_refl _
  | f + 1, j => by
    unfold nxFrom
    split
    · exact Nat.le_trans (Nat.le_succ j) (nxFrom_ge ns w i f (j + 1))
    · exact Nat.le_refl _
theorem nx_gt (ns : List Int) (w : Int) (i : Nat) : i < nx ns w i := nxFrom_ge ns w i _ (i + 1)
/-- the starts from j on -/
def restF (ns : List Int) (w : Int) : Nat → Nat → List Nat
  | 0, _ => []
  | f + 1, j => if j < ns.length then j :: restF ns w f (nx ns w j) else []
def starts (ns : List Int) (w : Int) : List Nat := 0 :: restF ns w ns.length (nx ns w 0)
def natsD (l : List Nat) : List D := l.map fun (n : Nat) => PyData.int (n : Int)
theorem starts_runs {ns : List Int} {w : Int} : ∀ (f j : Nat) (acc : List Nat), ns.length ≤ j + f → acc.length + f ≤ 1000 → ∃ k e3, Runs (tBool (eCmp .lt (eVar 3) (eB1 .len (eVar 0))))
      (sSeq (sApp 2 (eVar 3)) (sAsg 3 (eCall w_next_start_0 (aCons (eVar 0) (aCons (eVar 1) (aCons (eVar 3) (aNil))))))) k
      [.val (.tuple (ns.map PyData.int)), .val (.int w), .own (natsD acc), .val (.int j)] [.val (.tuple (ns.map PyData.int)), .val (.int w), .own (natsD (acc ++ restF ns w f j)), e3]
  | 0, j, acc, hf, ha => by
    refine ⟨0, .val (.int j), ?_⟩
    rw [show acc ++ restF ns w 0 j = acc by simp [restF]]
    refine .stop ?_
    simp only [x_var, x_con, x_bin, x_neg, x_cmp, x_chain, x_tTru, x_tNot, x_tAnd, x_tOr, x_tBool, x_tYes, x_not, x_and, x_or, x_if, x_b1, x_b2, x_is, x_idx, x_oNone, x_oSome, x_cut, x_aNil, x_aCons, x_tup, x_lst, x_call, x_callS,
    x_iSeq, x_iRng1, x_iRng2, x_bor, x_tBor, x_put1, List.map_cons, List.map_nil, List.cons_append, List.nil_append, List.length_cons, List.length_nil, Nat.zero_add, Nat.reduceAdd, Nat.reduceSub, List.reduceReplicate, start,
    List.getElem?_cons_zero, List.getElem?_cons_succ, List.set_cons_zero, List.set_cons_succ, bnd_ret, bnd_assoc, bnd_grd, b1_if, bnd_ite, small, Nat.reduceLeDiff, grd_true, o_add, o_sub, o_neg, o_eq, o_ne, o_lt, o_le, o_gt, o_ge, o_eqS, o_neS,
    decide_eq_true_eq, reduceIte, decide_true, decide_false, Bool.not_true, Bool.not_false, Bool.false_eq_true, itemsOf, asInt, bi2, endOf, isTy,
    grd_tt, nx_int, nx_bool, nx_str, nx_none, nx_tup, nx_lst, x_isC, x_fld, x_in, x_count, x_lstR, x_tupR, x_raise, x_star, bnd_thr, noX_ret, fld_x, exn_d, eSetO, Out.clear, List.zip_cons_cons, List.zip_nil_left, List.zip_nil_right, bi1, List.length_map]
    rw [decide_eq_false (by omega)]
  | f + 1, j, acc, hf, ha => by
    by_cases h : j < ns.length
    · have hg := nx_gt ns w j
      obtain ⟨k, e3, r⟩ := starts_runs (ns := ns) (w := w) f (nx ns w j) (acc ++ [j]) (by omega) (by rw [List.length_append, List.length_singleton]; omega)
      have e : acc ++ restF ns w (f + 1) j = acc ++ [j] ++ restF ns w f (nx ns w j) := by
        show acc ++ (if j < ns.length then j :: restF ns w f (nx ns w j) else []) = _
        rw [if_pos h]
        simp
      rw [e]
      refine ⟨k + 1, e3, .turn ?_ ?_ r⟩
      · simp only [x_var, x_con, x_bin, x_neg, x_cmp, x_chain, x_tTru, x_tNot, x_tAnd, x_tOr, x_tBool, x_tYes, x_not, x_and, x_or, x_if, x_b1, x_b2, x_is, x_idx, x_oNone, x_oSome, x_cut, x_aNil, x_aCons, x_tup, x_lst, x_call, x_callS,
    x_iSeq, x_iRng1, x_iRng2, x_bor, x_tBor, x_put1, List.map_cons, List.map_nil, List.cons_append, List.nil_append, List.length_cons, List.length_nil, Nat.zero_add, Nat.reduceAdd, Nat.reduceSub, List.reduceReplicate, start,
    List.getElem?_cons_zero, List.getElem?_cons_succ, List.set_cons_zero, List.set_cons_succ, bnd_ret, bnd_assoc, bnd_grd, b1_if, bnd_ite, small, Nat.reduceLeDiff, grd_true, o_add, o_sub, o_neg, o_eq, o_ne, o_lt, o_le, o_gt, o_ge, o_eqS, o_neS,
    decide_eq_true_eq, reduceIte, decide_true, decide_false, Bool.not_true, Bool.not_false, Bool.false_eq_true, itemsOf, asInt, bi2, endOf, isTy,
    grd_tt, nx_int, nx_bool, nx_str, nx_none, nx_tup, nx_lst, x_isC, x_fld, x_in, x_count, x_lstR, x_tupR, x_raise, x_star, bnd_thr, noX_ret, fld_x, exn_d, eSetO, Out.clear, List.zip_cons_cons, List.zip_nil_left, List.zip_nil_right, bi1, List.length_map]
        rw [decide_eq_true (by omega)]
      · have hs : small (natsD acc).length := by unfold natsD small; rw [List.length_map]; omega
        rw [s_app 2 (eVar 3) _ (ds := natsD acc) rfl]
        simp only [x_var, List.getElem?_cons_zero, List.getElem?_cons_succ, bnd_ret, grd_pos hs]
        simp only [x_var, x_con, x_bin, x_neg, x_cmp, x_chain, x_tTru, x_tNot, x_tAnd, x_tOr, x_tBool, x_tYes, x_not, x_and, x_or, x_if, x_b1, x_b2, x_is, x_idx, x_oNone, x_oSome, x_cut, x_aNil, x_aCons, x_tup, x_lst, x_call, x_callS,
    x_iSeq, x_iRng1, x_iRng2, x_bor, x_tBor, x_put1, List.map_cons, List.map_nil, List.cons_append, List.nil_append, List.length_cons, List.length_nil, Nat.zero_add, Nat.reduceAdd, Nat.reduceSub, List.reduceReplicate, start,
    List.getElem?_cons_zero, List.getElem?_cons_succ, List.set_cons_zero, List.set_cons_succ, bnd_ret, bnd_assoc, bnd_grd, b1_if, bnd_ite, small, Nat.reduceLeDiff, grd_true, o_add, o_sub, o_neg, o_eq, o_ne, o_lt, o_le, o_gt, o_ge, o_eqS, o_neS,
    decide_eq_true_eq, reduceIte, decide_true, decide_false, Bool.not_true, Bool.not_false, Bool.false_eq_true, itemsOf, asInt, bi2, endOf, isTy,
    grd_tt, nx_int, nx_bool, nx_str, nx_none, nx_tup, nx_lst, x_isC, x_fld, x_in, x_count, x_lstR, x_tupR, x_raise, x_star, bnd_thr, noX_ret, fld_x, exn_d, eSetO, Out.clear, List.zip_cons_cons, List.zip_nil_left, List.zip_nil_right, s_asg, s_par, s_own, s_parO, s_put, s_expr, s_ret, s_skip, s_seq, s_rel, x_asg, x_par, x_own, x_parO, x_put, x_expr, x_ret, x_retN, x_skip, x_rel, x_app, x_setI, x_sIf, x_for, x_brk, x_cnt]
        rw [next_start_0 h]
        simp only [bnd_ret]
        rw [show natsD (acc ++ [j]) = natsD acc ++ [PyData.int j] by simp [natsD]]
    · have e : acc ++ restF ns w (f + 1) j = acc := by
        show acc ++ (if j < ns.length then j :: restF ns w f (nx ns w j) else []) = _
        rw [if_neg h]
        simp
      rw [e]
      refine ⟨0, .val (.int j), .stop ?_⟩
      simp only [x_var, x_con, x_bin, x_neg, x_cmp, x_chain, x_tTru, x_tNot, x_tAnd, x_tOr, x_tBool, x_tYes, x_not, x_and, x_or, x_if, x_b1, x_b2, x_is, x_idx, x_oNone, x_oSome, x_cut, x_aNil, x_aCons, x_tup, x_lst, x_call, x_callS,
    x_iSeq, x_iRng1, x_iRng2, x_bor, x_tBor, x_put1, List.map_cons, List.map_nil, List.cons_append, List.nil_append, List.length_cons, List.length_nil, Nat.zero_add, Nat.reduceAdd, Nat.reduceSub, List.reduceReplicate, start,
    List.getElem?_cons_zero, List.getElem?_cons_succ, List.set_cons_zero, List.set_cons_succ, bnd_ret, bnd_assoc, bnd_grd, b1_if, bnd_ite, small, Nat.reduceLeDiff, grd_true, o_add, o_sub, o_neg, o_eq, o_ne, o_lt, o_le, o_gt, o_ge, o_eqS, o_neS,
    decide_eq_true_eq, reduceIte, decide_true, decide_false, Bool.not_true, Bool.not_false, Bool.false_eq_true, itemsOf, asInt, bi2, endOf, isTy,
    grd_tt, nx_int, nx_bool, nx_str, nx_none, nx_tup, nx_lst, x_isC, x_fld, x_in, x_count, x_lstR, x_tupR, x_raise, x_star, bnd_thr, noX_ret, fld_x, exn_d, eSetO, Out.clear, List.zip_cons_cons, List.zip_nil_left, List.zip_nil_right, bi1, List.length_map]
      rw [decide_eq_false (by omega)]
theorem starts_of_0 {ns : List Int} {w : Int} (h1 : 0 < ns.length) (h2 : ns.length ≤ 900) : w_starts_of_0 [.tuple (ns.map PyData.int), .int w] = ret (.tuple (natsD (starts ns w))) := by
  unfold w_starts_of_0
  refine (f_fn (by rfl)).trans ?_
  simp only [x_var, x_con, x_bin, x_neg, x_cmp, x_chain, x_tTru, x_tNot, x_tAnd, x_tOr, x_tBool, x_tYes, x_not, x_and, x_or, x_if, x_b1, x_b2, x_is, x_idx, x_oNone, x_oSome, x_cut, x_aNil, x_aCons, x_tup, x_lst, x_call, x_callS,
    x_iSeq, x_iRng1, x_iRng2, x_bor, x_tBor, x_put1, List.map_cons, List.map_nil, List.cons_append, List.nil_append, List.length_cons, List.length_nil, Nat.zero_add, Nat.reduceAdd, Nat.reduceSub, List.reduceReplicate, start,
    List.getElem?_cons_zero, List.getElem?_cons_succ, List.set_cons_zero, List.set_cons_succ, bnd_ret, bnd_assoc, bnd_grd, b1_if, bnd_ite, small, Nat.reduceLeDiff, grd_true, o_add, o_sub, o_neg, o_eq, o_ne, o_lt, o_le, o_gt, o_ge, o_eqS, o_neS,
    decide_eq_true_eq, reduceIte, decide_true, decide_false, Bool.not_true, Bool.not_false, Bool.false_eq_true, itemsOf, asInt, bi2, endOf, isTy,
    grd_tt, nx_int, nx_bool, nx_str, nx_none, nx_tup, nx_lst, x_isC, x_fld, x_in, x_count, x_lstR, x_tupR, x_raise, x_star, bnd_thr, noX_ret, fld_x, exn_d, eSetO, Out.clear, List.zip_cons_cons, List.zip_nil_left, List.zip_nil_right, s_asg, s_par, s_own, s_parO, s_put, s_expr, s_ret, s_skip, s_seq, s_rel, x_asg, x_par, x_own, x_parO, x_put, x_expr, x_ret, x_retN, x_skip, x_rel, x_app, x_setI, x_sIf, x_for, x_brk, x_cnt]
  have e0 := next_start_0 (ns := ns) (w := w) (i := 0) h1
  rw [show (((0 : Nat) : Int)) = 0 from rfl] at e0
  rw [e0]
  simp only [x_var, x_con, x_bin, x_neg, x_cmp, x_chain, x_tTru, x_tNot, x_tAnd, x_tOr, x_tBool, x_tYes, x_not, x_and, x_or, x_if, x_b1, x_b2, x_is, x_idx, x_oNone, x_oSome, x_cut, x_aNil, x_aCons, x_tup, x_lst, x_call, x_callS,
    x_iSeq, x_iRng1, x_iRng2, x_bor, x_tBor, x_put1, List.map_cons, List.map_nil, List.cons_append, List.nil_append, List.length_cons, List.length_nil, Nat.zero_add, Nat.reduceAdd, Nat.reduceSub, List.reduceReplicate, start,
    List.getElem?_cons_zero, List.getElem?_cons_succ, List.set_cons_zero, List.set_cons_succ, bnd_ret, bnd_assoc, bnd_grd, b1_if, bnd_ite, small, Nat.reduceLeDiff, grd_true, o_add, o_sub, o_neg, o_eq, o_ne, o_lt, o_le, o_gt, o_ge, o_eqS, o_neS,
    decide_eq_true_eq, reduceIte, decide_true, decide_false, Bool.not_true, Bool.not_false, Bool.false_eq_true, itemsOf, asInt, bi2, endOf, isTy,
    grd_tt, nx_int, nx_bool, nx_str, nx_none, nx_tup, nx_lst, x_isC, x_fld, x_in, x_count, x_lstR, x_tupR, x_raise, x_star, bnd_thr, noX_ret, fld_x, exn_d, eSetO, Out.clear, List.zip_cons_cons, List.zip_nil_left, List.zip_nil_right, s_asg, s_par, s_own, s_parO, s_put, s_expr, s_ret, s_skip, s_seq, s_rel, x_asg, x_par, x_own, x_parO, x_put, x_expr, x_ret, x_retN, x_skip, x_rel, x_app, x_setI, x_sIf, x_for, x_brk, x_cnt]
  obtain ⟨k, e3, r⟩ := starts_runs (ns := ns) (w := w) ns.length (nx ns w 0) [0] (by omega) (by simp only [List.length_singleton]; omega)
  have e := r.eq
  have n0 : natsD [0] = [PyData.int 0] := rfl
  rw [n0] at e
  rw [x_seq, e]
  simp only [x_var, x_con, x_bin, x_neg, x_cmp, x_chain, x_tTru, x_tNot, x_tAnd, x_tOr, x_tBool, x_tYes, x_not, x_and, x_or, x_if, x_b1, x_b2, x_is, x_idx, x_oNone, x_oSome, x_cut, x_aNil, x_aCons, x_tup, x_lst, x_call, x_callS,
    x_iSeq, x_iRng1, x_iRng2, x_bor, x_tBor, x_put1, List.map_cons, List.map_nil, List.cons_append, List.nil_append, List.length_cons, List.length_nil, Nat.zero_add, Nat.reduceAdd, Nat.reduceSub, List.reduceReplicate, start,
    List.getElem?_cons_zero, List.getElem?_cons_succ, List.set_cons_zero, List.set_cons_succ, bnd_ret, bnd_assoc, bnd_grd, b1_if, bnd_ite, small, Nat.reduceLeDiff, grd_true, o_add, o_sub, o_neg, o_eq, o_ne, o_lt, o_le, o_gt, o_ge, o_eqS, o_neS,
    decide_eq_true_eq, reduceIte, decide_true, decide_false, Bool.not_true, Bool.not_false, Bool.false_eq_true, itemsOf, asInt, bi2, endOf, isTy,
    grd_tt, nx_int, nx_bool, nx_str, nx_none, nx_tup, nx_lst, x_isC, x_fld, x_in, x_count, x_lstR, x_tupR, x_raise, x_star, bnd_thr, noX_ret, fld_x, exn_d, eSetO, Out.clear, List.zip_cons_cons, List.zip_nil_left, List.zip_nil_right, s_asg, s_par, s_own, s_parO, s_put, s_expr, s_ret, s_skip, s_seq, s_rel, x_asg, x_par, x_own, x_parO, x_put, x_expr, x_ret, x_retN, x_skip, x_rel, x_app, x_setI, x_sIf, x_for, x_brk, x_cnt, bi1]
  rfl
theorem nxFrom_eq {ns : List Int} {w : Int} {i m : Nat} (hm : m ≤ ns.length) (ho : m < ns.length → w < ext ns i m) : ∀ f j, j ≤ m → m ≤ j + f → (∀ k, j ≤ k → k < m → ext ns i k ≤ w) → nxFrom ns w i f j = m
  | 0, j, h1, h2, _ => by
    show j = m
    omega
  | f + 1, j, h1, h2, hk => by
    show (if j < ns.length ∧ ext ns i j ≤ w then nxFrom ns w i f (j + 1) else j) = m
    by_cases e : j = m
    · subst e
      rw [if_neg]
      rintro ⟨h3, h4⟩
      have := ho h3
      omega
    · rw [if_pos ⟨by omega, hk j (Nat.le_refl _) (by omega)⟩]
      exact nxFrom_eq hm ho f (j + 1) (by omega) (by omega) fun k a b => hk k (by omega) b
theorem nx_eq {ns : List Int} {w : Int} {i m : Nat} (hi : i < m) (hm : m ≤ ns.length) (hk : ∀ k, i < k → k < m → ext ns i k ≤ w) (ho : m < ns.length → w < ext ns i m) : nx ns w i = m :=
  nxFrom_eq hm ho _ _ hi (by omega) fun k a b => hk k a b
theorem nx_le (ns : List Int) (w : Int) (i : Nat) (hi : i < ns.length) : nx ns w i ≤ ns.length := by
  have go : ∀ f j, j ≤ ns.length → nxFrom ns w i f j ≤ ns.length := by
    intro f
    induction f with
    | zero => intro j h; exact h
    | succ f ih =>
      intro j h
      unfold nxFrom
      split
      · exact ih (j + 1) (by omega)
      · exact h
  exact go _ _ hi
/-- a walk over the words: the starts so far, the last of them, what the line holds -/
structure Greedy (ns : List Int) (w : Int) (acc : List Nat) (last p : Nat) : Prop where
  fits : ∀ k, last < k → k ≤ p → ext ns last k ≤ w
  le : last ≤ p
  rest : ∃ f, ns.length ≤ last + f ∧ starts ns w = acc ++ restF ns w f (nx ns w last)
theorem Greedy.new {ns : List Int} {w : Int} {acc : List Nat} {last p : Nat} (g : Greedy ns w acc last p) (hp : p + 1 < ns.length) (h : w < ext ns last (p + 1)) : Greedy ns w (acc ++ [p + 1]) (p + 1) (p + 1) := by
  have hle := g.le
  obtain ⟨f, hf, hs⟩ := g.rest
  have e : nx ns w last = p + 1 := nx_eq (by omega) (by omega) (fun k a b => g.fits k a (by omega)) fun _ => h
  refine ⟨fun k a b => by omega, Nat.le_refl _, ?_⟩
  cases f with
  | zero => omega
  | succ f =>
    refine ⟨f, by omega, ?_⟩
    rw [hs, e]
    show acc ++ (if p + 1 < ns.length then (p + 1) :: restF ns w f (nx ns w (p + 1)) else []) = _
    rw [if_pos hp]
    simp
theorem Greedy.same {ns : List Int} {w : Int} {acc : List Nat} {last p : Nat} (g : Greedy ns w acc last p) (h : ext ns last (p + 1) ≤ w) : Greedy ns w acc last (p + 1) := by
  refine ⟨fun k a b => ?_, Nat.le_succ_of_le g.le, g.rest⟩
  by_cases e : k = p + 1
  · rw [e]; exact h
  · exact g.fits k a (by omega)
theorem Greedy.all {ns : List Int} {w : Int} {acc : List Nat} {last p : Nat} (g : Greedy ns w acc last p) (hp : p + 1 = ns.length) : acc = starts ns w := by
  have hle := g.le
  obtain ⟨f, hf, hs⟩ := g.rest
  have e : nx ns w last = ns.length := nx_eq (by omega) (Nat.le_refl _) (fun k a b => g.fits k a (by omega)) fun h => by omega
  rw [hs, e]
  cases f with
  | zero => simp [restF]
  | succ f => simp [restF]
theorem Greedy.start (ns : List Int) (w : Int) : Greedy ns w [0] 0 0 := ⟨fun k a b => by omega, Nat.le_refl _, ns.length, by omega, rfl⟩
/-- a walk that draws nothing, by what holds at each turn -/
theorem forL_inv {tg : Tg} {s : XS} (I : Nat → Env → Prop) : ∀ (ds : List D) (i : Nat) (E : Env), I i E → (∀ j d E, ds[j]? = some d → I (i + j) E → ∃ E1 E2, tg.put d E = some E1 ∧ s E1 = ret (.nx E2) ∧ I (i + j + 1) E2) →
    ∃ E', forL tg s ds E = ret (.nx E') ∧ I (i + ds.length) E'
  | [], i, E, h, _ => ⟨E, rfl, h⟩
  | d :: ds, i, E, h, hs => by
    obtain ⟨E1, E2, e1, e2, h2⟩ := hs 0 d E rfl h
    obtain ⟨E', e3, h3⟩ := forL_inv (tg := tg) (s := s) I ds (i + 1) E2 h2 fun j d E hj hI => by
      have := hs (j + 1) d E hj
      rw [show i + (j + 1) = i + 1 + j by omega] at this
      exact this hI
    refine ⟨E', ?_, ?_⟩
    · show (match tg.put d E with | none => stuck | some E1 => bnd (s E1) fun o => match o with
        | .nx E' => forL tg s ds E' | .ct E' => forL tg s ds E' | .bk E' => ret (.nx E') | .rt d => ret (.rt d)) = _
      rw [e1]
      simp only [e2, bnd_ret]
      exact e3
    · rw [List.length_cons, show i + (ds.length + 1) = i + 1 + ds.length by omega]
      exact h3
end DL
end
section
namespace DL
open PySem
/-- the first k turns of a walk, by what holds at each -/
theorem forL_to {tg : Tg} {s : XS} (I : Nat → Env → Prop) : ∀ (k : Nat) (ds : List D) (i : Nat) (E : Env), k ≤ ds.length → I i E → (∀ j d E, j < k → ds[j]? = some d → I (i + j) E → ∃ E1 E2, tg.put d E = some E1 ∧ s E1 = ret (.nx E2) ∧ I (i + j + 1) E2) →
    ∃ E', forL tg s ds E = forL tg s (ds.drop k) E' ∧ I (i + k) E'
  | 0, ds, i, E, _, h, _ => ⟨E, rfl, h⟩
  | k + 1, [], i, E, hk, _, _ => by simp at hk
  | k + 1, d :: ds, i, E, hk, h, hs => by
    obtain ⟨E1, E2, e1, e2, h2⟩ := hs 0 d E (by omega) rfl h
    obtain ⟨E', e3, h3⟩ := forL_to (tg := tg) (s := s) I k ds (i + 1) E2 (by simp at hk; omega) h2 fun j d E hj hd hI => by
      have := hs (j + 1) d E (by omega) hd
      rw [show i + (j + 1) = i + 1 + j by omega] at this
      exact this hI
    refine ⟨E', ?_, ?_⟩
    · show (match tg.put d E with | none => stuck | some E1 => bnd (s E1) fun o => match o with
        | .nx E' => forL tg s ds E' | .ct E' => forL tg s ds E' | .bk E' => ret (.nx E') | .rt d => ret (.rt d)) = _
      rw [e1]
      simp only [e2, bnd_ret]
      exact e3
    · rw [show i + (k + 1) = i + 1 + k by omega]
      exact h3
theorem x_forc (tg : Tg) (s : XS) (d : D) (ds : List D) (E : Env) : forL tg s (d :: ds) E = match tg.put d E with | none => stuck | some E1 => bnd (s E1) fun o => match o with
        | .nx E' => forL tg s ds E' | .ct E' => forL tg s ds E' | .bk E' => ret (.nx E') | .rt d => ret (.rt d) := id rfl
theorem pairs_at : ∀ (c : Int) (ds : List D) (j : Nat), (pairs c ds)[j]? = (ds[j]?).map fun d => .tuple [.int (c + j), d]
  | c, [], j => by simp [pairs]
  | c, d :: ds, 0 => by simp [pairs]
  | c, d :: ds, j + 1 => by
    show (pairs (c + 1) ds)[j]? = _
    rw [pairs_at (c + 1) ds j, List.getElem?_cons_succ, show c + 1 + (j : Int) = c + ((j + 1 : Nat) : Int) by omega]
theorem x_iEnumC (c : Int) (a : XE) (E : Env) : iEnumC c a E = bnd (a E) fun d => bnd (itemsOf d) fun xs => grd (-(2 ^ 63) ≤ c ∧ c < 2 ^ 63) (ret (pairs c xs)) := id rfl
/-- no word is longer than the line, or there is a first one that is -/
inductive Long (ns : List Int) (w : Int) : Option Nat → Prop
  | no : (∀ (j : Nat) (x : Int), ns[j]? = some x → x ≤ w) → Long ns w none
  | yes {j : Nat} {x : Int} : ns[j]? = some x → w < x → (∀ (k : Nat) (y : Int), k < j → ns[k]? = some y → y ≤ w) → Long ns w (some j)
theorem Long.cases (w : Int) : ∀ ns : List Int, ∃ o, Long ns w o
  | [] => ⟨none, .no fun j x h => by simp at h⟩
  | a :: ns => by
    by_cases h : w < a
    · exact ⟨some 0, .yes (x := a) rfl h fun k y hk => by omega⟩
    · obtain ⟨o, ho⟩ := Long.cases w ns
      cases ho with
      | no g =>
        refine ⟨none, .no fun j x hj => ?_⟩
        cases j with
        | zero => simp at hj; omega
        | succ j => exact g j x hj
      | yes g1 g2 g3 =>
        refine ⟨some _, .yes (j := _ + 1) g1 g2 fun k y hk hy => ?_⟩
        cases k with
        | zero => simp at hy; omega
        | succ k => exact g3 k y (by omega) hy
def tooNarrow (j : Nat) : Exn := ⟨"TooNarrow", [("place", .int (j : Int))]⟩
theorem check_fits_0 {ns : List Int} {w : Int} {o : Option Nat} (h : Long ns w o) : w_check_fits_0 [.tuple (ns.map PyData.int), .int w] = match o with | none => ret .none | some j => thr (tooNarrow j) := by
  unfold w_check_fits_0
  refine (f_fn (by rfl)).trans ?_
  simp only [x_var, x_con, x_bin, x_neg, x_cmp, x_chain, x_tTru, x_tNot, x_tAnd, x_tOr, x_tBool, x_tYes, x_not, x_and, x_or, x_if, x_b1, x_b2, x_is, x_idx, x_oNone, x_oSome, x_cut, x_aNil, x_aCons, x_tup, x_lst, x_call, x_callS,
    x_iSeq, x_iRng1, x_iRng2, x_bor, x_tBor, x_put1, List.map_cons, List.map_nil, List.cons_append, List.nil_append, List.length_cons, List.length_nil, Nat.zero_add, Nat.reduceAdd, Nat.reduceSub, List.reduceReplicate, start,
    List.getElem?_cons_zero, List.getElem?_cons_succ, List.set_cons_zero, List.set_cons_succ, bnd_ret, bnd_assoc, bnd_grd, b1_if, bnd_ite, small, Nat.reduceLeDiff, grd_true, o_add, o_sub, o_neg, o_eq, o_ne, o_lt, o_le, o_gt, o_ge, o_eqS, o_neS,
    decide_eq_true_eq, reduceIte, decide_true, decide_false, Bool.not_true, Bool.not_false, Bool.false_eq_true, itemsOf, asInt, bi2, endOf, isTy,
    grd_tt, nx_int, nx_bool, nx_str, nx_none, nx_tup, nx_lst, x_isC, x_fld, x_in, x_count, x_lstR, x_tupR, x_raise, x_star, bnd_thr, noX_ret, fld_x, exn_d, eSetO, Out.clear, List.zip_cons_cons, List.zip_nil_left, List.zip_nil_right, s_asg, s_par, s_own, s_parO, s_put, s_expr, s_ret, s_skip, s_seq, s_rel, x_asg, x_par, x_own, x_parO, x_put, x_expr, x_ret, x_retN, x_skip, x_rel, x_app, x_setI, x_sIf, x_for, x_brk, x_cnt, x_iEnumC]
  rw [grd_pos (by decide)]
  cases h with
  | no g =>
    obtain ⟨E', e, _⟩ := forL_inv (tg := .tp [2, 3]) (s := sIf (tBool (eCmp .gt (eVar 3) (eVar 1))) (sRaise "TooNarrow" [Fl.s .place] (aCons (eVar 2) aNil)) sSkip)
      (fun p E => ∃ e2 e3, E = [.val (.tuple (ns.map PyData.int)), .val (.int w), e2, e3]) (pairs 0 (ns.map PyData.int)) 0 [.val (.tuple (ns.map PyData.int)), .val (.int w), .unk, .unk] ⟨_, _, rfl⟩ (by
        rintro j d E hj ⟨e2, e3, rfl⟩
        rw [pairs_at, List.getElem?_map] at hj
        obtain ⟨x, hx, rfl⟩ : ∃ x, ns[j]? = some x ∧ d = .tuple [.int (0 + j), .int x] := by
          cases hh : ns[j]? with
          | none => rw [hh] at hj; cases hj
          | some x => rw [hh] at hj; exact ⟨x, rfl, (Option.some.inj hj).symm⟩
        refine ⟨_, [.val (.tuple (ns.map PyData.int)), .val (.int w), .val (.int (0 + j)), .val (.int x)], rfl, ?_, _, _, rfl⟩
        simp only [x_var, x_con, x_bin, x_neg, x_cmp, x_chain, x_tTru, x_tNot, x_tAnd, x_tOr, x_tBool, x_tYes, x_not, x_and, x_or, x_if, x_b1, x_b2, x_is, x_idx, x_oNone, x_oSome, x_cut, x_aNil, x_aCons, x_tup, x_lst, x_call, x_callS,
    x_iSeq, x_iRng1, x_iRng2, x_bor, x_tBor, x_put1, List.map_cons, List.map_nil, List.cons_append, List.nil_append, List.length_cons, List.length_nil, Nat.zero_add, Nat.reduceAdd, Nat.reduceSub, List.reduceReplicate, start,
    List.getElem?_cons_zero, List.getElem?_cons_succ, List.set_cons_zero, List.set_cons_succ, bnd_ret, bnd_assoc, bnd_grd, b1_if, bnd_ite, small, Nat.reduceLeDiff, grd_true, o_add, o_sub, o_neg, o_eq, o_ne, o_lt, o_le, o_gt, o_ge, o_eqS, o_neS,
    decide_eq_true_eq, reduceIte, decide_true, decide_false, Bool.not_true, Bool.not_false, Bool.false_eq_true, itemsOf, asInt, bi2, endOf, isTy,
    grd_tt, nx_int, nx_bool, nx_str, nx_none, nx_tup, nx_lst, x_isC, x_fld, x_in, x_count, x_lstR, x_tupR, x_raise, x_star, bnd_thr, noX_ret, fld_x, exn_d, eSetO, Out.clear, List.zip_cons_cons, List.zip_nil_left, List.zip_nil_right, s_asg, s_par, s_own, s_parO, s_put, s_expr, s_ret, s_skip, s_seq, s_rel, x_asg, x_par, x_own, x_parO, x_put, x_expr, x_ret, x_retN, x_skip, x_rel, x_app, x_setI, x_sIf, x_for, x_brk, x_cnt]
        rw [if_neg (by have := g j x hx; omega)])
    rw [e]
    rfl
  | yes g1 g2 g3 =>
    rename_i j x
    have hl : j < ns.length := (List.getElem?_eq_some_iff.mp g1).1
    obtain ⟨E', e, e2, e3, rfl⟩ := forL_to (tg := .tp [2, 3]) (s := sIf (tBool (eCmp .gt (eVar 3) (eVar 1))) (sRaise "TooNarrow" [Fl.s .place] (aCons (eVar 2) aNil)) sSkip)
      (fun p E => ∃ e2 e3, E = [.val (.tuple (ns.map PyData.int)), .val (.int w), e2, e3]) j (pairs 0 (ns.map PyData.int)) 0 [.val (.tuple (ns.map PyData.int)), .val (.int w), .unk, .unk] (by rw [pairs_len, List.length_map]; omega) ⟨_, _, rfl⟩ (by
        rintro k d E hk hj ⟨e2, e3, rfl⟩
        rw [pairs_at, List.getElem?_map] at hj
        obtain ⟨x, hx, rfl⟩ : ∃ x, ns[k]? = some x ∧ d = .tuple [.int (0 + k), .int x] := by
          cases hh : ns[k]? with
          | none => rw [hh] at hj; cases hj
          | some x => rw [hh] at hj; exact ⟨x, rfl, (Option.some.inj hj).symm⟩
        refine ⟨_, [.val (.tuple (ns.map PyData.int)), .val (.int w), .val (.int (0 + k)), .val (.int x)], rfl, ?_, _, _, rfl⟩
        simp only [x_var, x_con, x_bin, x_neg, x_cmp, x_chain, x_tTru, x_tNot, x_tAnd, x_tOr, x_tBool, x_tYes, x_not, x_and, x_or, x_if, x_b1, x_b2, x_is, x_idx, x_oNone, x_oSome, x_cut, x_aNil, x_aCons, x_tup, x_lst, x_call, x_callS,
    x_iSeq, x_iRng1, x_iRng2, x_bor, x_tBor, x_put1, List.map_cons, List.map_nil, List.cons_append, List.nil_append, List.length_cons, List.length_nil, Nat.zero_add, Nat.reduceAdd, Nat.reduceSub, List.reduceReplicate, start,
    List.getElem?_cons_zero, List.getElem?_cons_succ, List.set_cons_zero, List.set_cons_succ, bnd_ret, bnd_assoc, bnd_grd, b1_if, bnd_ite, small, Nat.reduceLeDiff, grd_true, o_add, o_sub, o_neg, o_eq, o_ne, o_lt, o_le, o_gt, o_ge, o_eqS, o_neS,
    decide_eq_true_eq, reduceIte, decide_true, decide_false, Bool.not_true, Bool.not_false, Bool.false_eq_true, itemsOf, asInt, bi2, endOf, isTy,
    grd_tt, nx_int, nx_bool, nx_str, nx_none, nx_tup, nx_lst, x_isC, x_fld, x_in, x_count, x_lstR, x_tupR, x_raise, x_star, bnd_thr, noX_ret, fld_x, exn_d, eSetO, Out.clear, List.zip_cons_cons, List.zip_nil_left, List.zip_nil_right, s_asg, s_par, s_own, s_parO, s_put, s_expr, s_ret, s_skip, s_seq, s_rel, x_asg, x_par, x_own, x_parO, x_put, x_expr, x_ret, x_retN, x_skip, x_rel, x_app, x_setI, x_sIf, x_for, x_brk, x_cnt]
        rw [if_neg (by have := g3 k x hk hx; omega)])
    rw [e]
    have hd : (pairs 0 (ns.map PyData.int)).drop j = .tuple [.int (0 + j), .int x] :: (pairs 0 (ns.map PyData.int)).drop (j + 1) := by
      have hl2 : j < (pairs 0 (ns.map PyData.int)).length := by rw [pairs_len, List.length_map]; omega
      rw [List.drop_eq_getElem_cons hl2]
      have := List.getElem?_eq_getElem hl2
      rw [pairs_at, List.getElem?_map, g1] at this
      rw [← Option.some.inj this]
    rw [hd, x_forc]
    simp only [Tg.put, setAll, x_var, x_con, x_bin, x_neg, x_cmp, x_chain, x_tTru, x_tNot, x_tAnd, x_tOr, x_tBool, x_tYes, x_not, x_and, x_or, x_if, x_b1, x_b2, x_is, x_idx, x_oNone, x_oSome, x_cut, x_aNil, x_aCons, x_tup, x_lst, x_call, x_callS,
    x_iSeq, x_iRng1, x_iRng2, x_bor, x_tBor, x_put1, List.map_cons, List.map_nil, List.cons_append, List.nil_append, List.length_cons, List.length_nil, Nat.zero_add, Nat.reduceAdd, Nat.reduceSub, List.reduceReplicate, start,
    List.getElem?_cons_zero, List.getElem?_cons_succ, List.set_cons_zero, List.set_cons_succ, bnd_ret, bnd_assoc, bnd_grd, b1_if, bnd_ite, small, Nat.reduceLeDiff, grd_true, o_add, o_sub, o_neg, o_eq, o_ne, o_lt, o_le, o_gt, o_ge, o_eqS, o_neS,
    decide_eq_true_eq, reduceIte, decide_true, decide_false, Bool.not_true, Bool.not_false, Bool.false_eq_true, itemsOf, asInt, bi2, endOf, isTy,
    grd_tt, nx_int, nx_bool, nx_str, nx_none, nx_tup, nx_lst, x_isC, x_fld, x_in, x_count, x_lstR, x_tupR, x_raise, x_star, bnd_thr, noX_ret, fld_x, exn_d, eSetO, Out.clear, List.zip_cons_cons, List.zip_nil_left, List.zip_nil_right, s_asg, s_par, s_own, s_parO, s_put, s_expr, s_ret, s_skip, s_seq, s_rel, x_asg, x_par, x_own, x_parO, x_put, x_expr, x_ret, x_retN, x_skip, x_rel, x_app, x_setI, x_sIf, x_for, x_brk, x_cnt]
    rw [if_pos g2, Int.zero_add]
    rfl
theorem starts_at_0 {ns : List Int} {w : Int} {o : Option Nat} (h : Long ns w o) (h1 : 0 < ns.length) (h2 : ns.length ≤ 900) : w_starts_at_0 [.tuple (ns.map PyData.int), .int w] = match o with | none => ret (.tuple (natsD (starts ns w))) | some j => thr (tooNarrow j) := by
  unfold w_starts_at_0
  refine (f_fn (by rfl)).trans ?_
  simp only [x_var, x_con, x_bin, x_neg, x_cmp, x_chain, x_tTru, x_tNot, x_tAnd, x_tOr, x_tBool, x_tYes, x_not, x_and, x_or, x_if, x_b1, x_b2, x_is, x_idx, x_oNone, x_oSome, x_cut, x_aNil, x_aCons, x_tup, x_lst, x_call, x_callS,
    x_iSeq, x_iRng1, x_iRng2, x_bor, x_tBor, x_put1, List.map_cons, List.map_nil, List.cons_append, List.nil_append, List.length_cons, List.length_nil, Nat.zero_add, Nat.reduceAdd, Nat.reduceSub, List.reduceReplicate, start,
    List.getElem?_cons_zero, List.getElem?_cons_succ, List.set_cons_zero, List.set_cons_succ, bnd_ret, bnd_assoc, bnd_grd, b1_if, bnd_ite, small, Nat.reduceLeDiff, grd_true, o_add, o_sub, o_neg, o_eq, o_ne, o_lt, o_le, o_gt, o_ge, o_eqS, o_neS,
    decide_eq_true_eq, reduceIte, decide_true, decide_false, Bool.not_true, Bool.not_false, Bool.false_eq_true, itemsOf, asInt, bi2, endOf, isTy,
    grd_tt, nx_int, nx_bool, nx_str, nx_none, nx_tup, nx_lst, x_isC, x_fld, x_in, x_count, x_lstR, x_tupR, x_raise, x_star, bnd_thr, noX_ret, fld_x, exn_d, eSetO, Out.clear, List.zip_cons_cons, List.zip_nil_left, List.zip_nil_right, s_asg, s_par, s_own, s_parO, s_put, s_expr, s_ret, s_skip, s_seq, s_rel, x_asg, x_par, x_own, x_parO, x_put, x_expr, x_ret, x_retN, x_skip, x_rel, x_app, x_setI, x_sIf, x_for, x_brk, x_cnt]
  rw [check_fits_0 h]
  cases o with
  | none => simp only [x_var, x_con, x_bin, x_neg, x_cmp, x_chain, x_tTru, x_tNot, x_tAnd, x_tOr, x_tBool, x_tYes, x_not, x_and, x_or, x_if, x_b1, x_b2, x_is, x_idx, x_oNone, x_oSome, x_cut, x_aNil, x_aCons, x_tup, x_lst, x_call, x_callS,
    x_iSeq, x_iRng1, x_iRng2, x_bor, x_tBor, x_put1, List.map_cons, List.map_nil, List.cons_append, List.nil_append, List.length_cons, List.length_nil, Nat.zero_add, Nat.reduceAdd, Nat.reduceSub, List.reduceReplicate, start,
    List.getElem?_cons_zero, List.getElem?_cons_succ, List.set_cons_zero, List.set_cons_succ, bnd_ret, bnd_assoc, bnd_grd, b1_if, bnd_ite, small, Nat.reduceLeDiff, grd_true, o_add, o_sub, o_neg, o_eq, o_ne, o_lt, o_le, o_gt, o_ge, o_eqS, o_neS,
    decide_eq_true_eq, reduceIte, decide_true, decide_false, Bool.not_true, Bool.not_false, Bool.false_eq_true, itemsOf, asInt, bi2, endOf, isTy,
    grd_tt, nx_int, nx_bool, nx_str, nx_none, nx_tup, nx_lst, x_isC, x_fld, x_in, x_count, x_lstR, x_tupR, x_raise, x_star, bnd_thr, noX_ret, fld_x, exn_d, eSetO, Out.clear, List.zip_cons_cons, List.zip_nil_left, List.zip_nil_right, s_asg, s_par, s_own, s_parO, s_put, s_expr, s_ret, s_skip, s_seq, s_rel, x_asg, x_par, x_own, x_parO, x_put, x_expr, x_ret, x_retN, x_skip, x_rel, x_app, x_setI, x_sIf, x_for, x_brk, x_cnt, starts_of_0 h1 h2]
  | some j => rfl
theorem Long.lt {ns : List Int} {w : Int} {j : Nat} (h : Long ns w (some j)) : j < ns.length := by
  cases h with
  | yes g1 g2 g3 => exact (List.getElem?_eq_some_iff.mp g1).1
theorem restF_lt {ns : List Int} {w : Int} : ∀ (f j : Nat), ∀ n ∈ restF ns w f j, n < ns.length
  | 0, j, n, h => by cases h
  | f + 1, j, n, h => by
    unfold restF at h
    split at h
    · cases h with
      | head => assumption
      | tail _ h => exact restF_lt f _ n h
    · cases h
theorem starts_lt {ns : List Int} {w : Int} (h : 0 < ns.length) : ∀ n ∈ starts ns w, n < ns.length := fun n hn => by
  cases hn with
  | head => exact h
  | tail _ hn => exact restF_lt _ _ n hn
theorem max_ints {ns : List Int} (h : 0 < ns.length) : ∃ m, bi1 .max (.tuple (ns.map PyData.int)) = ret (.int m) ∧ m ∈ ns := by
  match ns, h with
  | a :: r, _ =>
    refine ⟨greatest a r, ?_, ?_⟩
    · show bnd (intsOf (.tuple ((a :: r).map PyData.int))) _ = _
      simp only [intsOf, itemsOf, bnd_ret, ints?_map]
    · have go : ∀ (r : List Int) (a : Int), r.foldl max a = a ∨ r.foldl max a ∈ r := by
        intro r
        induction r with
        | nil => intro a; exact .inl rfl
        | cons b r ih =>
          intro a
          rw [List.foldl_cons]
          rcases ih (max a b) with h | h
          · rw [h]
            by_cases hb : b ≤ a
            · exact .inl (Int.max_eq_left hb)
            · rw [Int.max_eq_right (by omega)]
              exact .inr (.head _)
          · exact .inr (.tail _ h)
      rcases go r a with h | h
      · unfold greatest; rw [h]; exact .head _
      · exact .tail _ h
theorem b_lenT (xs : List D) : bi1 .len (.tuple xs) = ret (.int xs.length) := id rfl
theorem b_lenL (xs : List D) : bi1 .len (.list xs) = ret (.int xs.length) := id rfl
theorem b_tupL (xs : List D) : bi1 .tuple (.list xs) = ret (.tuple xs) := id rfl
theorem b_tupT (xs : List D) : bi1 .tuple (.tuple xs) = ret (.tuple xs) := id rfl
theorem b_max2 (i j : Int) : bi2 .max (.int i) (.int j) = ret (.int (if j > i then j else i)) := id rfl
theorem b_min2 (i j : Int) : bi2 .min (.int i) (.int j) = ret (.int (if j < i then j else i)) := id rfl
theorem o_addL (xs ys : List D) : opBin .add (.list xs) (.list ys) = grd (small (xs.length + ys.length)) (ret (.list (xs ++ ys))) := id rfl
theorem o_addT (xs ys : List D) : opBin .add (.tuple xs) (.tuple ys) = grd (small (xs.length + ys.length)) (ret (.tuple (xs ++ ys))) := id rfl
theorem cut_ints {ns : List Int} {i j : Int} (h0 : 0 ≤ i) (h1 : i ≤ ns.length) (h2 : 0 ≤ j) (h3 : j ≤ ns.length) : opCut (.tuple (ns.map PyData.int)) (some i) (some j) = ret (.tuple (((ns.drop i.toNat).take (j.toNat - i.toNat)).map PyData.int)) := by
  obtain ⟨a, rfl⟩ := Int.eq_ofNat_of_zero_le h0
  obtain ⟨b, rfl⟩ := Int.eq_ofNat_of_zero_le h2
  show ret (PyData.tuple (DL.cut (ns.map PyData.int) (some (a : Int)) (some (b : Int)))) = _
  rw [cut_nat _ a b (by rw [List.length_map]; omega) (by rw [List.length_map]; omega), ← List.map_drop, ← List.map_take]
  rfl
theorem sum_part {ns : List Int} {i k : Nat} (hn : ∀ x ∈ ns, 1 ≤ x ∧ x ≤ 60) (h2 : ns.length ≤ 24) : 0 ≤ ((ns.drop i).take k).sum ∧ ((ns.drop i).take k).sum ≤ 1440 := by
  have := sum_bound (ns := (ns.drop i).take k) (b := 60) (by decide) fun x hx => by
    have := hn x (List.mem_of_mem_drop (List.mem_of_mem_take hx))
    omega
  have hl2 : ((ns.drop i).take k).length ≤ 24 := by
    rw [List.length_take, List.length_drop]; omega
  omega
theorem s_chk (t : XT) (a : XE) (b : XS) (E : Env) : sSeq (sIf t (sRet a) sSkip) b E = bnd (t E) fun c => if c = true then bnd (a E) (fun d => ret (.rt d)) else b E := by
  rw [s_if]
  refine congrArg (bnd (t E)) (funext fun c => ?_)
  cases c <;> rfl
theorem s_brk (b : XS) (E : Env) : sSeq sBreak b E = ret (.bk E) := id rfl
theorem s_cnt (b : XS) (E : Env) : sSeq sCont b E = ret (.ct E) := id rfl
theorem s_retN (b : XS) (E : Env) : sSeq sRetN b E = ret (.rt .none) := id rfl
theorem t_bool (b : Bool) : tru (.bool b) = ret b := id rfl
theorem s_for (it : XA) (tg : Tg) (s b : XS) (E : Env) : sSeq (sFor it tg s) b E = bnd (it E) fun ds => bnd (forL tg s ds E) fun o => match o with | .nx E' => b E' | o => ret o := id rfl
theorem g_rng {α : Type} {a b : Int} {m : W α} (h0 : -1000000 ≤ a) (h1 : a ≤ 1000000) (h2 : -1000000 ≤ b) (h3 : b ≤ 1000000) : grd (rngOk a b) m = m := grd_pos (by unfold rngOk; omega) m
theorem g_le {α : Type} {a b : Nat} {m : W α} (h : a ≤ b) : grd (a ≤ b) m = m := grd_pos h m
end DL
end
section
namespace DL
open PySem
def cutN (ns : List Int) (a b : Nat) : List Int := (ns.drop a).take (b - a)
def part (ns : List Int) (a b : Nat) : D := .tuple ((cutN ns a b).map PyData.int)
/-- the lines that begin at the given places and end at e -/
def parts (ns : List Int) : List Nat → Nat → List D
  | [], _ => []
  | [a], e => [part ns a e]
  | a :: b :: r, e => part ns a b :: parts ns (b :: r) e
end DL
end
section
namespace DL
open PySem
end DL
end
section
namespace DL
open PySem
structure Thin (n k : Nat) (d : D) : Prop where
  short : PyData.leavesShort 8 d = true
  able : PyData.showable d = true
  bulk : PyData.bulk d ≤ n
  deep : PyData.depth d ≤ k
  pln : plain d = true
theorem Thin.mono {n k n' k' : Nat} {d : D} (h : Thin n k d) (hn : n ≤ n') (hk : k ≤ k') : Thin n' k' d := ⟨h.short, h.able, Nat.le_trans h.bulk hn, Nat.le_trans h.deep hk, h.pln⟩
structure ThinAll (n k : Nat) (ds : List D) : Prop where
  short : PyData.leavesShortAll 8 ds = true
  able : PyData.showableAll ds = true
  bulk : PyData.bulkAll ds ≤ n
  deep : PyData.depthAll ds ≤ k
  pln : plainAll ds = true
theorem ThinAll.mono {n k n' k' : Nat} {ds : List D} (h : ThinAll n k ds) (hn : n ≤ n') (hk : k ≤ k') : ThinAll n' k' ds := ⟨h.short, h.able, Nat.le_trans h.bulk hn, Nat.le_trans h.deep hk, h.pln⟩
theorem Thin.show {n k : Nat} {d : D} (h : Thin n k d) (hn : n ≤ 90000) (hk : k ≤ 40) : showOk d := by
  refine ⟨h.able, Nat.le_trans h.deep hk, ?_, h.pln⟩
  have e := PyData.shown_le_bulk 8 (by decide) d h.short
  have := h.bulk
  have : (8 + 2) * d.bulk ≤ 10 * 90000 := Nat.mul_le_mul_left _ (by omega)
  omega
end DL
end
section
namespace DL
open PySem
theorem nxFrom_spec (ns : List Int) (w : Int) (i : Nat) : ∀ f j, j ≤ ns.length → ns.length ≤ j + f → nxFrom ns w i f j ≤ ns.length ∧ (∀ k, j ≤ k → k < nxFrom ns w i f j → ext ns i k ≤ w) ∧ (nxFrom ns w i f j < ns.length → w < ext ns i (nxFrom ns w i f j))
  | 0, j, h1, h2 => by
    refine ⟨h1, fun k a b => ?_, fun h => ?_⟩
    · have : k < j := b; omega
    · have : j < ns.length := h; omega
  | f + 1, j, h1, h2 => by
    unfold nxFrom
    by_cases h : j < ns.length ∧ ext ns i j ≤ w
    · rw [if_pos h]
      obtain ⟨a, b, c⟩ := nxFrom_spec ns w i f (j + 1) (by omega) (by omega)
      refine ⟨a, fun k k1 k2 => ?_, c⟩
      by_cases e : k = j
      · rw [e]; exact h.2
      · exact b k (by omega) k2
    · rw [if_neg h]
      refine ⟨h1, fun k a b => by omega, fun hl => ?_⟩
      have : ¬ ext ns i j ≤ w := fun z => h ⟨hl, z⟩
      omega
theorem nx_spec {ns : List Int} {w : Int} {i : Nat} (hi : i < ns.length) : i < nx ns w i ∧ nx ns w i ≤ ns.length ∧ (∀ k, i < k → k < nx ns w i → ext ns i k ≤ w) ∧ (nx ns w i < ns.length → w < ext ns i (nx ns w i)) := by
  obtain ⟨a, b, c⟩ := nxFrom_spec ns w i (ns.length - i) (i + 1) (by omega) (by omega)
  exact ⟨nx_gt ns w i, a, fun k k1 k2 => b k k1 k2, c⟩
/-- the starts of the lines at width w, from one on -/
def Chain (ns : List Int) (w : Int) : List Nat → Prop
  | [] => False
  | [a] => a < ns.length ∧ nx ns w a = ns.length
  | a :: b :: r => a < ns.length ∧ nx ns w a = b ∧ Chain ns w (b :: r)
theorem Chain.lt {ns : List Int} {w : Int} : ∀ {a : Nat} {r : List Nat}, Chain ns w (a :: r) → a < ns.length
  | _, [], h => h.1
  | _, _ :: _, h => h.1
theorem chain_rest {ns : List Int} {w : Int} : ∀ f j, ns.length ≤ j + f → j < ns.length → Chain ns w (j :: restF ns w f (nx ns w j))
  | 0, j, h1, h2 => by omega
  | f + 1, j, h1, h2 => by
    have g := nx_gt ns w j
    have l := nx_le ns w j h2
    by_cases h : nx ns w j < ns.length
    · rw [show restF ns w (f + 1) (nx ns w j) = nx ns w j :: restF ns w f (nx ns w (nx ns w j)) from if_pos h]
      exact ⟨h2, rfl, chain_rest f _ (by omega) h⟩
    · rw [show restF ns w (f + 1) (nx ns w j) = [] from if_neg h]
      exact ⟨h2, by omega⟩
theorem starts_chain {ns : List Int} (w : Int) (h : 0 < ns.length) : Chain ns w (starts ns w) := chain_rest _ 0 (by omega) h
theorem chain_unique {ns : List Int} {w : Int} : ∀ (l : List Nat) (a f : Nat), Chain ns w (a :: l) → ns.length ≤ a + f → restF ns w f (nx ns w a) = l
  | [], a, f, h, hf => by
    rw [h.2]
    cases f with
    | zero => rfl
    | succ f => exact if_neg (by omega)
  | b :: r, a, f, h, hf => by
    obtain ⟨h1, h2, h3⟩ := h
    have g := nx_gt ns w a
    have hb := h3.lt
    rw [h2] at g ⊢
    cases f with
    | zero => omega
    | succ f =>
      rw [show restF ns w (f + 1) b = b :: restF ns w f (nx ns w b) from if_pos hb, chain_unique r b f h3 (by omega)]
theorem starts_unique {ns : List Int} {w : Int} {l : List Nat} (h : Chain ns w (0 :: l)) : starts ns w = 0 :: l := congrArg (0 :: ·) (chain_unique l 0 _ h (by omega))
/-- how wide each line with the next word would be -/
def exts (ns : List Int) : List Nat → List Int
  | [] => []
  | [_] => []
  | a :: b :: r => ext ns a b :: exts ns (b :: r)
theorem chain_keep {ns : List Int} {w v : Int} (hv : w ≤ v) : ∀ {l : List Nat}, Chain ns w l → (∀ e ∈ exts ns l, v < e) → Chain ns v l
  | [a], h, _ => by
    obtain ⟨h1, h2⟩ := h
    obtain ⟨s1, s2, s3, s4⟩ := nx_spec (w := w) h1
    rw [h2] at s1 s3
    exact ⟨h1, nx_eq h1 (Nat.le_refl _) (fun k a b => Int.le_trans (s3 k a b) hv) fun z => by omega⟩
  | a :: b :: r, h, he => by
    obtain ⟨h1, h2, h3⟩ := h
    obtain ⟨s1, s2, s3, s4⟩ := nx_spec (w := w) h1
    rw [h2] at s1 s2 s3
    exact ⟨h1, nx_eq s1 s2 (fun k a b => Int.le_trans (s3 k a b) hv) fun z => he _ (.head _), chain_keep hv h3 fun e x => he e (.tail _ x)⟩
theorem chain_gt {ns : List Int} {w : Int} : ∀ {l : List Nat}, Chain ns w l → ∀ e ∈ exts ns l, w < e
  | [a], h, e, he => by cases he
  | a :: b :: r, h, e, he => by
    obtain ⟨h1, h2, h3⟩ := h
    cases he with
    | head =>
      obtain ⟨s1, s2, s3, s4⟩ := nx_spec (w := w) h1
      rw [h2] at s4
      exact s4 h3.lt
    | tail _ he => exact chain_gt h3 e he
theorem sum_sub : ∀ {ns : List Int} {i k : Nat}, (∀ x ∈ ns, 0 ≤ x) → ((ns.drop i).take k).sum ≤ ns.sum
  | ns, i, k, h => by
    have pos : ∀ l : List Int, (∀ x ∈ l, 0 ≤ x) → 0 ≤ l.sum := fun l hl => by
      induction l with
      | nil => simp
      | cons a l ih =>
        have := hl a (.head _)
        have := ih fun x hx => hl x (.tail _ hx)
        rw [List.sum_cons]; omega
    have e1 : ns.sum = (ns.take i).sum + (ns.drop i).sum := by rw [← List.sum_append, List.take_append_drop]
    have e2 : (ns.drop i).sum = ((ns.drop i).take k).sum + ((ns.drop i).drop k).sum := by rw [← List.sum_append, List.take_append_drop]
    have p1 := pos (ns.take i) fun x hx => h x (List.mem_of_mem_take hx)
    have p2 := pos ((ns.drop i).drop k) fun x hx => h x (List.mem_of_mem_drop (List.mem_of_mem_drop hx))
    omega
theorem exts_le {ns : List Int} (hn : ∀ x ∈ ns, 0 ≤ x) : ∀ {l : List Nat}, (∀ a ∈ l, a < ns.length) → ∀ e ∈ exts ns l, e ≤ ns.sum + ns.length - 1
  | [], _, e, he => by cases he
  | [a], _, e, he => by cases he
  | a :: b :: r, h, e, he => by
    cases he with
    | head =>
      have := h b (.tail _ (.head _))
      have := sum_sub (i := a) (k := b + 1 - a) hn
      unfold ext
      omega
    | tail _ he => exact exts_le hn (fun x hx => h x (.tail _ hx)) e he
def nextW (ns : List Int) (l : List Nat) : Option Int := match exts ns l with
  | [] => none
  | a :: r => some (least a r)
theorem least_mem : ∀ (r : List Int) (a : Int), least a r ∈ a :: r := by
  intro r
  induction r with
  | nil => intro a; exact .head _
  | cons b r ih =>
    intro a
    show r.foldl min (min a b) ∈ _
    have := ih (min a b)
    unfold least at this
    rcases List.mem_cons.mp this with e | h
    · rw [e]
      by_cases h : a ≤ b
      · rw [Int.min_eq_left h]; exact .head _
      · rw [Int.min_eq_right (by omega)]; exact .tail _ (.head _)
    · exact .tail _ (.tail _ h)
theorem least_le : ∀ (r : List Int) (a : Int), ∀ x ∈ a :: r, least a r ≤ x := by
  intro r
  induction r with
  | nil => intro a x hx; cases hx with
    | head => exact Int.le_refl _
    | tail _ h => cases h
  | cons b r ih =>
    intro a x hx
    show r.foldl min (min a b) ≤ x
    have := ih (min a b)
    unfold least at this
    cases hx with
    | head => exact Int.le_trans (this _ (.head _)) (Int.min_le_left _ _)
    | tail _ hx =>
      cases hx with
      | head => exact Int.le_trans (this _ (.head _)) (Int.min_le_right _ _)
      | tail _ hx => exact this x (.tail _ hx)
theorem nextW_some {ns : List Int} {l : List Nat} {v : Int} (h : nextW ns l = some v) : v ∈ exts ns l ∧ ∀ e ∈ exts ns l, v ≤ e := by
  unfold nextW at h
  split at h
  · cases h
  · next a r e =>
    rw [e]
    cases h
    exact ⟨least_mem r a, least_le r a⟩
theorem nextW_none {ns : List Int} {l : List Nat} (h : nextW ns l = none) : exts ns l = [] := by
  unfold nextW at h
  split at h
  · assumption
  · cases h
def bookF (ns : List Int) : Nat → Int → List (Int × List Nat)
  | 0, _ => []
  | f + 1, w => (w, starts ns w) :: match nextW ns (starts ns w) with
    | none => []
    | some v => bookF ns f v
end DL
end
section
namespace DL
open PySem
structure Shp (k : Nat) (d : D) : Prop where
  lay : PyData.canLay0 d = true
  deep : PyData.depth d ≤ k
theorem Shp.ok {k : Nat} {d : D} (h : Shp k d) (hk : k ≤ 64) : SeqAt.shaped d = true := shp_of h.lay (Nat.le_trans h.deep hk)
theorem Shp.mono {k k' : Nat} {d : D} (h : Shp k d) (hk : k ≤ k') : Shp k' d := ⟨h.lay, Nat.le_trans h.deep hk⟩
def push {β : Type} [DecidableEq β] (acc : List (Int × β)) (p : Int × β) : List (Int × β) := match acc.getLast? with
  | none => acc ++ [p]
  | some q => if q.2 = p.2 then acc else acc ++ [p]
def scanA {β : Type} [DecidableEq β] (S : Int → β) (m : Int) : Nat → List (Int × β)
  | 0 => []
  | n + 1 => push (scanA S m n) (m + n, S (m + n))
theorem push_snoc {β : Type} [DecidableEq β] (P : List (Int × β)) (q p : Int × β) : push (P ++ [q]) p = if q.2 = p.2 then P ++ [q] else P ++ [q] ++ [p] := by
  unfold push
  rw [List.getLast?_concat]
theorem scanA_mem {β : Type} [DecidableEq β] {S : Int → β} {m : Int} : ∀ {n : Nat} {p : Int × β}, p ∈ scanA S m n → p.2 = S p.1 ∧ m ≤ p.1 ∧ p.1 < m + n
  | 0, p, h => by cases h
  | n + 1, p, h => by
    have old : p ∈ scanA S m n → p.2 = S p.1 ∧ m ≤ p.1 ∧ p.1 < m + (n + 1 : Nat) := fun h => by
      obtain ⟨a, b, c⟩ := scanA_mem h
      exact ⟨a, b, by omega⟩
    have new : p ∈ scanA S m n ++ [(m + (n : Int), S (m + n))] → p.2 = S p.1 ∧ m ≤ p.1 ∧ p.1 < m + (n + 1 : Nat) := fun h => by
      rcases List.mem_append.mp h with h | h
      · exact old h
      · rw [List.mem_singleton] at h
        subst h
        exact ⟨rfl, by show m ≤ m + (n : Int); omega, by show m + (n : Int) < _; omega⟩
    unfold scanA push at h
    split at h
    · exact new h
    · split at h
      · exact old h
      · exact new h
theorem book_scan {ns : List Int} {m B : Int} (h1 : 0 < ns.length) (hn : ∀ x ∈ ns, 0 ≤ x) (hb : ns.sum + ns.length - 1 ≤ B) (hm : m ≤ B) {F : Nat} (hF : B < m + F) : ∀ n : Nat, 1 ≤ n →
    ∃ P w f, scanA (starts ns) m n = P ++ [(w, starts ns w)] ∧ P ++ bookF ns f w = bookF ns F m ∧ w ≤ m + n - 1 ∧ w ≤ B ∧ B < w + (f : Nat) ∧ ∀ e ∈ exts ns (starts ns w), m + n - 1 < e
  | 0, h => by omega
  | 1, _ => by
    refine ⟨[], m, F, ?_, rfl, by omega, hm, hF, fun e he => ?_⟩
    · show push [] (m + (0 : Nat), starts ns (m + (0 : Nat))) = _
      rw [show m + ((0 : Nat) : Int) = m by omega]
      rfl
    · have := chain_gt (starts_chain m h1) e he
      omega
  | n + 2, _ => by
    obtain ⟨P, w, f, e1, e2, e3, e4, e5, e6⟩ := book_scan h1 hn hb hm hF (n + 1) (by omega)
    have step : scanA (starts ns) m (n + 2) = push (P ++ [(w, starts ns w)]) (m + (n + 1 : Nat), starts ns (m + (n + 1 : Nat))) := by
      rw [← e1]; rfl
    rw [step, push_snoc]
    by_cases h : starts ns w = starts ns (m + (n + 1 : Nat))
    · rw [if_pos h]
      refine ⟨P, w, f, rfl, e2, by omega, e4, e5, fun e he => ?_⟩
      have g := chain_gt (starts_chain (m + (n + 1 : Nat)) h1)
      rw [← h] at g
      have := g e he
      omega
    · rw [if_neg h]
      have hx : ∃ v, nextW ns (starts ns w) = some v ∧ v = m + (n + 1 : Nat) := by
        cases hx : nextW ns (starts ns w) with
        | none =>
          exfalso
          have k := chain_keep (v := m + (n + 1 : Nat)) (by omega) (starts_chain w h1) (by rw [nextW_none hx]; intro e he; cases he)
          exact h (starts_unique k).symm
        | some v =>
          obtain ⟨m1, m2⟩ := nextW_some hx
          refine ⟨v, rfl, ?_⟩
          have := e6 v m1
          by_cases hlt : m + ((n + 1 : Nat) : Int) < v
          · exfalso
            have k := chain_keep (v := m + (n + 1 : Nat)) (by omega) (starts_chain w h1) fun e he => by have := m2 e he; omega
            exact h (starts_unique k).symm
          · omega
      obtain ⟨v, hv, rfl⟩ := hx
      have hv2 := exts_le hn (starts_lt h1) _ (nextW_some hv).1
      cases f with
      | zero => omega
      | succ f =>
        refine ⟨P ++ [(w, starts ns w)], _, f, rfl, ?_, by omega, by omega, by omega, fun e he => ?_⟩
        · rw [← e2]
          have e : bookF ns (f + 1) w = (w, starts ns w) :: bookF ns f (m + (n + 1 : Nat)) := by
            show (w, starts ns w) :: (match nextW ns (starts ns w) with | none => [] | some v => bookF ns f v) = _
            rw [hv]
          rw [e]
          simp
        · have := chain_gt (starts_chain _ h1) e he
          omega
theorem book_all {ns : List Int} {m B : Int} (h1 : 0 < ns.length) (hn : ∀ x ∈ ns, 0 ≤ x) (hb : ns.sum + ns.length - 1 ≤ B) (hm : m ≤ B) {F : Nat} (hF : B < m + F) {n : Nat} (h : B < m + n) (hp : 1 ≤ n) : scanA (starts ns) m n = bookF ns F m := by
  obtain ⟨P, w, f, e1, e2, e3, e4, e5, e6⟩ := book_scan h1 hn hb hm hF n hp
  have hx : exts ns (starts ns w) = [] := by
    cases he : exts ns (starts ns w) with
    | nil => rfl
    | cons e r =>
      rw [he] at e6
      have a := e6 e (.head _)
      have b := exts_le hn (starts_lt (w := w) h1) e (by rw [he]; exact .head _)
      omega
  rw [e1, ← e2]
  cases f with
  | zero => omega
  | succ f =>
    show _ = P ++ ((w, starts ns w) :: (match nextW ns (starts ns w) with | none => [] | some v => bookF ns f v))
    unfold nextW
    rw [hx]
/-- the book of a row whose longest word is m -/
def bookN (ns : List Int) (m : Int) : List (Int × List Nat) := scanA (starts ns) m (ns.sum + ns.length + 2 - m).toNat
end DL
end
section
namespace DL
open PySem
/-- keep what is new -/
def keep {β : Type} [DecidableEq β] (l : List (Int × β)) : List (Int × β) := l.foldl push []
end DL
end
section
namespace DL
open PySem
theorem ex_first {P : Nat → Prop} [DecidablePred P] : ∀ n, P n → ∃ k, k ≤ n ∧ P k ∧ ∀ j, j < k → ¬ P j
  | 0, h => ⟨0, Nat.le_refl _, h, fun j hj => by omega⟩
  | n + 1, h => by
    by_cases e : ∃ j, j < n + 1 ∧ P j
    · obtain ⟨j, hj, hp⟩ := e
      obtain ⟨k, k1, k2, k3⟩ := ex_first j hp
      exact ⟨k, by omega, k2, k3⟩
    · exact ⟨n + 1, Nat.le_refl _, h, fun j hj hp => e ⟨j, hj, hp⟩⟩
termination_by n => n
decreasing_by omega
theorem starts_one {ns : List Int} {w : Int} (h1 : 0 < ns.length) (hn : ∀ x ∈ ns, 0 ≤ x) (hw : ns.sum + ns.length - 1 ≤ w) : starts ns w = [0] := by
  have c := starts_chain w h1
  cases hr : restF ns w ns.length (nx ns w 0) with
  | nil => unfold starts; rw [hr]
  | cons b r =>
    have e : starts ns w = 0 :: b :: r := by unfold starts; rw [hr]
    have g := chain_gt c (ext ns 0 b) (by rw [e]; exact .head _)
    have l := exts_le hn (starts_lt (w := w) h1) (ext ns 0 b) (by rw [e]; exact .head _)
    omega
/-- the least width, from m on, for at most c lines -/
structure Least (ns : List Int) (m : Int) (c : Nat) (k : Nat) : Prop where
  fits : (starts ns (m + k)).length ≤ c
  first : ∀ j : Nat, j < k → c < (starts ns (m + j)).length
  most : m + k ≤ ns.sum + ns.length
theorem Least.ex {ns : List Int} {m : Int} {c : Nat} (h1 : 0 < ns.length) (hn : ∀ x ∈ ns, 0 ≤ x) (hm : m ≤ ns.sum) (hc : 1 ≤ c) : ∃ k, Least ns m c k := by
  obtain ⟨k, k1, k2, k3⟩ := ex_first (P := fun k => (starts ns (m + k)).length ≤ c) (ns.sum + ns.length - m).toNat (by
    rw [starts_one h1 hn (by omega)]
    exact hc)
  exact ⟨k, k2, fun j hj => by have := k3 j hj; omega, by omega⟩
theorem natsD_len (l : List Nat) : (natsD l).length = l.length := by unfold natsD; rw [List.length_map]
theorem cut_upto {ds : List D} {k : Nat} : DL.cut ds none (some (k : Int)) = ds.take k := by
  unfold DL.cut
  rw [HT.sIx_nat, show HT.sIx ds.length 0 none = 0 from rfl, List.drop_zero, Nat.sub_zero]
  by_cases h : k ≤ ds.length
  · rw [Nat.min_eq_left h]
  · rw [Nat.min_eq_right (by omega), List.take_of_length_le (Nat.le_refl _), List.take_of_length_le (by omega)]
end DL
end
section
namespace DL
open PySem
theorem o_neNil0 (ds : List D) : opCmp .ne (.list ds) (.list []) = ret (!ds.isEmpty) := by
  show bnd (grd True (ret (PyData.eqv (.list ds) (.list [])))) _ = _
  rw [grd_true]
  cases ds <;> rfl
theorem o_pow39 : opBin .pow (.int 10) (.int 39) = ret (.int (10 ^ 39)) := grd_pos (by decide +kernel) _
/-- a value of any kind, short enough to be shown -/
def Odd (d : D) : Prop := Tame 8 2 d
theorem Odd.nx {d : D} (h : Odd d) : noXn d = true := nx_plain h.pln
/-- an int, no truth value, of a range -/
def intIn (lo hi : Int) : D → Bool
  | .int i => decide (lo ≤ i ∧ i ≤ hi)
  | _ => false
theorem intIn_of {lo hi : Int} {d : D} (h : intIn lo hi d = true) : ∃ i, d = .int i ∧ lo ≤ i ∧ i ≤ hi := by
  cases d with
  | int i =>
    have := of_decide_eq_true h
    exact ⟨i, rfl, this.1, this.2⟩
  | _ => cases h
theorem is_integer_d {lo hi : Int} {d : D} (h : noXn d = true) : w_is_integer_0 [d, .int lo, .int hi] = ret (.bool (intIn lo hi d)) := by
  unfold w_is_integer_0
  refine (f_fn (by rfl)).trans ?_
  cases d with
  | int i =>
    simp only [x_var, x_con, x_bin, x_neg, x_cmp, x_chain, x_tTru, x_tNot, x_tAnd, x_tOr, x_tBool, x_tYes, x_not, x_and, x_or, x_if, x_b1, x_b2, x_is, x_idx, x_oNone, x_oSome, x_cut, x_aNil, x_aCons, x_tup, x_lst, x_call, x_callS,
    x_iSeq, x_iRng1, x_iRng2, x_bor, x_tBor, x_put1, List.map_cons, List.map_nil, List.cons_append, List.nil_append, List.length_cons, List.length_nil, Nat.zero_add, Nat.reduceAdd, Nat.reduceSub, List.reduceReplicate, start,
    List.getElem?_cons_zero, List.getElem?_cons_succ, List.set_cons_zero, List.set_cons_succ, bnd_ret, bnd_assoc, bnd_grd, b1_if, bnd_ite, small, Nat.reduceLeDiff, grd_true, o_add, o_sub, o_neg, o_eq, o_ne, o_lt, o_le, o_gt, o_ge, o_eqS, o_neS,
    decide_eq_true_eq, reduceIte, decide_true, decide_false, Bool.not_true, Bool.not_false, Bool.false_eq_true, itemsOf, asInt, endOf, isTy,
    grd_tt, nx_int, nx_bool, nx_str, nx_none, nx_tup, nx_lst, x_isC, x_fld, x_in, x_count, x_lstR, x_tupR, x_raise, x_star, bnd_thr, noX_ret, fld_x, exn_d, eSetO, Out.clear, List.zip_cons_cons, List.zip_nil_left, List.zip_nil_right, s_asg, s_par, s_own, s_parO, s_put, s_expr, s_ret, s_skip, s_seq, s_rel, x_asg, x_par, x_own, x_parO, x_put, x_expr, x_ret, x_retN, x_skip, x_rel, x_app, x_setI, x_sIf, x_for, x_brk, x_cnt, b_lenT, b_lenL, b_tupL, b_tupT, b_max2, b_min2, o_addL, o_addT, cut_ints, sum_ints, s_chk, s_for, s_brk, s_cnt, s_retN, t_bool, g_rng, g_le, List.length_map]
    unfold intIn
    by_cases h : lo ≤ i
    · simp [h]
    · simp [h]
  | _ =>
    simp only [x_var, x_con, x_bin, x_neg, x_cmp, x_chain, x_tTru, x_tNot, x_tAnd, x_tOr, x_tBool, x_tYes, x_not, x_and, x_or, x_if, x_b1, x_b2, x_is, x_idx, x_oNone, x_oSome, x_cut, x_aNil, x_aCons, x_tup, x_lst, x_call, x_callS,
    x_iSeq, x_iRng1, x_iRng2, x_bor, x_tBor, x_put1, List.map_cons, List.map_nil, List.cons_append, List.nil_append, List.length_cons, List.length_nil, Nat.zero_add, Nat.reduceAdd, Nat.reduceSub, List.reduceReplicate, start,
    List.getElem?_cons_zero, List.getElem?_cons_succ, List.set_cons_zero, List.set_cons_succ, bnd_ret, bnd_assoc, bnd_grd, b1_if, bnd_ite, small, Nat.reduceLeDiff, grd_true, o_add, o_sub, o_neg, o_eq, o_ne, o_lt, o_le, o_gt, o_ge, o_eqS, o_neS,
    decide_eq_true_eq, reduceIte, decide_true, decide_false, Bool.not_true, Bool.not_false, Bool.false_eq_true, itemsOf, asInt, endOf, isTy,
    grd_tt, nx_int, nx_bool, nx_str, nx_none, nx_tup, nx_lst, x_isC, x_fld, x_in, x_count, x_lstR, x_tupR, x_raise, x_star, bnd_thr, noX_ret, fld_x, exn_d, eSetO, Out.clear, List.zip_cons_cons, List.zip_nil_left, List.zip_nil_right, s_asg, s_par, s_own, s_parO, s_put, s_expr, s_ret, s_skip, s_seq, s_rel, x_asg, x_par, x_own, x_parO, x_put, x_expr, x_ret, x_retN, x_skip, x_rel, x_app, x_setI, x_sIf, x_for, x_brk, x_cnt, b_lenT, b_lenL, b_tupL, b_tupT, b_max2, b_min2, o_addL, o_addT, cut_ints, sum_ints, s_chk, s_for, s_brk, s_cnt, s_retN, t_bool, g_rng, g_le, List.length_map, h]
    try rfl
theorem law_is_int_0 {lo hi : Int} {d : D} (h : noXn d = true) : w__law_is_int_0 [d, .int lo, .int hi] = ret (.bool (intIn lo hi d)) := is_integer_d h
def xV (n : Str) (d : D) : Exn := ⟨n, [("value", d)]⟩
end DL
end
section
namespace DL
open PySem
def setI (ns : List Int) : D → D → List Int
  | .int i, .int x => ns.set i.toNat x
  | _, _ => []
end DL
end
section
namespace DL
open PySem
def takI (ns : List Int) : D → List Int
  | .int i => ns.take i.toNat ++ ns.drop (i.toNat + 1)
  | _ => []
end DL
end
section
namespace DL
open PySem
end DL
end
section
namespace DL
open PySem
end DL
end
section
namespace DL
open PySem
def insI (ns : List Int) : D → D → List Int
  | .int i, .int x => ns.take i.toNat ++ x :: ns.drop i.toNat
  | _, _ => []
end DL
end
section
namespace DL
open PySem
theorem scan_last {β : Type} [DecidableEq β] (S : Int → β) (m : Int) : ∀ k : Nat, 1 ≤ k → ∃ P lo, scanA S m k = P ++ [(lo, S lo)] ∧ m ≤ lo ∧ lo ≤ m + k - 1 ∧ (∀ v, lo ≤ v → v ≤ m + k - 1 → S v = S lo) ∧ (lo = m ∨ S (lo - 1) ≠ S lo)
  | 0, h => by omega
  | 1, _ => by
    refine ⟨[], m, ?_, Int.le_refl _, by omega, fun v a b => by rw [show v = m by omega], .inl rfl⟩
    show push [] (m + (0 : Nat), S (m + (0 : Nat))) = _
    rw [show m + ((0 : Nat) : Int) = m by omega]
    rfl
  | k + 2, _ => by
    obtain ⟨P, lo, e1, e2, e3, e4, e5⟩ := scan_last S m (k + 1) (by omega)
    have step : scanA S m (k + 2) = push (P ++ [(lo, S lo)]) (m + (k + 1 : Nat), S (m + (k + 1 : Nat))) := by rw [← e1]; rfl
    rw [step, push_snoc]
    by_cases h : S lo = S (m + (k + 1 : Nat))
    · rw [if_pos h]
      refine ⟨P, lo, rfl, e2, by omega, fun v a b => ?_, e5⟩
      by_cases hv : v ≤ m + (k + 1 : Nat) - 1
      · exact e4 v a hv
      · rw [show v = m + (k + 1 : Nat) by omega, h]
    · rw [if_neg h]
      refine ⟨P ++ [(lo, S lo)], m + (k + 1 : Nat), rfl, by omega, by omega, fun v a b => by rw [show v = m + (k + 1 : Nat) by omega], .inr fun z => h ?_⟩
      rw [← z, e4 (m + (k + 1 : Nat) - 1) (by omega) (by omega)]
/-- what a scan finds after the width a -/
inductive More {β : Type} (S : Int → β) (a : Int) (i : Nat) : List (Int × β) → Prop
  | nil : (∀ v, a ≤ v → v ≤ a + i → S v = S a) → More S a i []
  | cons {q : Int × β} {r : List (Int × β)} : a < q.1 → S q.1 ≠ S a → (∀ v, a ≤ v → v < q.1 → S v = S a) → (∀ p ∈ r, a < p.1) → More S a i (q :: r)
theorem scan_more {β : Type} [DecidableEq β] (S : Int → β) (m : Int) {k : Nat} (hk : 1 ≤ k) : ∀ i : Nat, ∃ R, scanA S m (k + i) = scanA S m k ++ R ∧ More S (m + k - 1) i R
  | 0 => ⟨[], by simp, .nil fun v a b => by rw [show v = m + k - 1 by omega]⟩
  | i + 1 => by
    obtain ⟨R, e, h⟩ := scan_more S m hk i
    obtain ⟨P, lo, e1, e2, e3, e4, e5⟩ := scan_last S m (k + i) (by omega)
    have step : scanA S m (k + (i + 1)) = push (scanA S m (k + i)) (m + (k + i : Nat), S (m + (k + i : Nat))) := rfl
    have hlast : S (m + k - 1 + i) = S lo := e4 _ (by omega) (by omega)
    have hp : push (scanA S m (k + i)) (m + (k + i : Nat), S (m + (k + i : Nat))) = if S lo = S (m + (k + i : Nat)) then scanA S m (k + i) else scanA S m (k + i) ++ [(m + (k + i : Nat), S (m + (k + i : Nat)))] := by
      rw [e1, push_snoc]
    rw [step, hp, e]
    by_cases c : S lo = S (m + (k + i : Nat))
    · rw [if_pos c]
      refine ⟨R, rfl, ?_⟩
      cases h with
      | nil g =>
        refine .nil fun v a b => ?_
        by_cases hv : v ≤ m + k - 1 + i
        · exact g v a hv
        · rw [show v = m + (k + i : Nat) by omega, ← c, ← hlast]
          exact g _ (by omega) (by omega)
      | cons g1 g2 g3 g4 => exact .cons g1 g2 g3 g4
    · rw [if_neg c]
      refine ⟨R ++ [(m + (k + i : Nat), S (m + (k + i : Nat)))], by rw [List.append_assoc], ?_⟩
      cases h with
      | nil g =>
        refine .cons (by show m + (k : Int) - 1 < m + (k + i : Nat); omega) (fun z => c ?_) (fun v a b => g v a (by have : v < m + (k + i : Nat) := b; omega)) fun p hp => by cases hp
        rw [← hlast, g _ (by omega) (by omega)]
        exact z.symm
      | cons g1 g2 g3 g4 =>
        refine .cons g1 g2 g3 fun p hp => ?_
        rcases List.mem_append.mp hp with hp | hp
        · exact g4 p hp
        · rw [List.mem_singleton] at hp
          rw [hp]
          show m + (k : Int) - 1 < m + (k + i : Nat)
          omega
theorem bookN_any {ns : List Int} {m : Int} (h1 : 0 < ns.length) (hn : ∀ x ∈ ns, 0 ≤ x) (hm : m ≤ ns.sum) {n : Nat} (h : (ns.sum + ns.length + 2 - m).toNat ≤ n) : bookN ns m = scanA (starts ns) m n := by
  have a := book_all (ns := ns) (m := m) (B := ns.sum + ns.length - 1) (F := (ns.sum + ns.length - m).toNat) (n := (ns.sum + ns.length + 2 - m).toNat) h1 hn (Int.le_refl _) (by omega) (by omega) (by omega) (by omega)
  have b := book_all (ns := ns) (m := m) (B := ns.sum + ns.length - 1) (F := (ns.sum + ns.length - m).toNat) (n := n) h1 hn (Int.le_refl _) (by omega) (by omega) (by omega) (by omega)
  unfold bookN
  rw [a, b]
theorem one_stays {ns : List Int} {w v : Int} (h1 : 0 < ns.length) (h : (starts ns w).length ≤ 1) (hv : w ≤ v) : starts ns v = starts ns w := by
  have c := starts_chain w h1
  unfold starts at c h ⊢
  have hr : restF ns w ns.length (nx ns w 0) = [] := by
    cases e : restF ns w ns.length (nx ns w 0) with
    | nil => rfl
    | cons _ _ => rw [e] at h; simp at h
  rw [hr] at c ⊢
  exact starts_unique (chain_keep hv c fun e he => by cases he)
/-- the span of the width w: its book's entry, the next one -/
structure Span (ns : List Int) (m w : Int) (P : List (Int × List Nat)) (lo : Int) (R : List (Int × List Nat)) : Prop where
  book : bookN ns m = P ++ (lo, starts ns lo) :: R
  low : m ≤ lo
  le : lo ≤ w
  same : ∀ v, lo ≤ v → v ≤ w → starts ns v = starts ns lo
  least : lo = m ∨ starts ns (lo - 1) ≠ starts ns lo
  before : ∀ p ∈ P, p.1 ≤ w
  after : match R with
    | [] => (starts ns w).length = 1
    | q :: r => w < q.1 ∧ 1 < (starts ns w).length ∧ starts ns q.1 ≠ starts ns w ∧ (∀ v, w ≤ v → v < q.1 → starts ns v = starts ns w) ∧ ∀ p ∈ r, w < p.1
theorem Span.ex {ns : List Int} {m w : Int} (h1 : 0 < ns.length) (hn : ∀ x ∈ ns, 0 ≤ x) (hm : m ≤ ns.sum) (hw : m ≤ w) : ∃ P lo R, Span ns m w P lo R := by
  have hk : 1 ≤ (w - m + 1).toNat := by omega
  have ek : m + ((w - m + 1).toNat : Int) - 1 = w := by omega
  obtain ⟨P, lo, e1, e2, e3, e4, e5⟩ := scan_last (starts ns) m (w - m + 1).toNat hk
  obtain ⟨R, e6, hR⟩ := scan_more (starts ns) m hk (ns.sum + ns.length + 2 - m).toNat
  rw [ek] at e3 e4 hR
  have bk := bookN_any h1 hn hm (n := (w - m + 1).toNat + (ns.sum + ns.length + 2 - m).toNat) (by omega)
  refine ⟨P, lo, R, by rw [bk, e6, e1]; simp, e2, e3, e4, e5, fun p hp => ?_, ?_⟩
  · have hp2 : p ∈ scanA (starts ns) m (w - m + 1).toNat := by rw [e1]; exact List.mem_append_left _ hp
    have := (scanA_mem hp2).2.2
    omega
  · have pos : 1 ≤ (starts ns w).length := by unfold starts; simp
    cases hR with
    | nil g =>
      have z := g (w + (ns.sum + ns.length + 2 - m).toNat) (by omega) (Int.le_refl _)
      rw [starts_one h1 hn (by omega)] at z
      show (starts ns w).length = 1
      rw [← z]
      rfl
    | @cons q r g1 g2 g3 g4 =>
      refine ⟨g1, ?_, g2, g3, g4⟩
      by_cases h : (starts ns w).length ≤ 1
      · exact absurd (one_stays h1 h (Int.le_of_lt g1)) g2
      · omega
end DL
end
section
namespace DL
open PySem
end DL
end
section
namespace DL
open PySem
/-- a row of one word at least, of 24 at most -/
structure RowN (ms : List Int) : Prop where
  one : 1 ≤ ms.length
  most : ms.length ≤ 24
  words : ∀ x ∈ ms, 1 ≤ x ∧ x ≤ 60
end DL
end
section
namespace DL
open PySem
end DL
end
section
namespace DL
open PySem
theorem x_up (a : XE) (E : Env) : eUp a E = bnd (a E) opUp := id rfl
theorem o_addB (a : Bool) (b : Int) : opBin .add (.bool a) (.int b) = ret (.int (b2i a + b)) := id rfl
theorem o_subB (a : Bool) (b : Int) : opBin .sub (.bool a) (.int b) = ret (.int (b2i a - b)) := id rfl
def asc (x : Str) : Bool := x.cps.toList.all fun c => decide (c < 128)
mutual
/-- leaves: short ints, plain texts; dicts of one entry at most -/
def lf (u : Nat) : D → Bool
  | .none => true
  | .bool _ => true
  | .int i => decide (i.natAbs ≤ 10 ^ 39 + u)
  | .str x => asc x
  | .tuple xs => lfAll u xs
  | .list xs => lfAll u xs
  | .dict [] => true
  | .dict [(.str a, d)] => asc a && lf u d
  | .dict _ => false
def lfAll (u : Nat) : List D → Bool
  | [] => true
  | x :: xs => lf u x && lfAll u xs
end
theorem asc_short {x : Str} (h : asc x = true) : (x.cps.toList.all fun c => decide (c < 16 ^ 8)) = true := by
  unfold asc at h
  simp only [List.all_eq_true, decide_eq_true_eq] at h ⊢
  intro c hc
  have := h c hc
  omega
theorem lf_int {u : Nat} {i : Int} (h : lf u (.int i) = true) (hu : u ≤ 1000) : i.natAbs < 10 ^ 45 := by
  unfold lf at h
  have := of_decide_eq_true h
  omega
mutual
theorem lf_plain {u : Nat} : ∀ {d : D}, lf u d = true → plain d = true
  | .none, _ => rfl
  | .bool _, _ => rfl
  | .int _, _ => rfl
  | .str _, _ => rfl
  | .tuple xs, h => by unfold lf at h; unfold plain; exact lf_plainA h
  | .list xs, h => by unfold lf at h; unfold plain; exact lf_plainA h
  | .dict [], _ => rfl
  | .dict [(.str a, d)], h => by
    unfold lf at h
    rw [Bool.and_eq_true] at h
    unfold plain
    exact lf_plain h.2
  | .dict ((.none, _) :: _), h => by simp [lf] at h
  | .dict ((.bool _, _) :: _), h => by simp [lf] at h
  | .dict ((.int _, _) :: _), h => by simp [lf] at h
  | .dict ((.list _, _) :: _), h => by simp [lf] at h
  | .dict ((.tuple _, _) :: _), h => by simp [lf] at h
  | .dict ((.dict _, _) :: _), h => by simp [lf] at h
  | .dict ((.str _, _) :: _ :: _), h => by simp [lf] at h
theorem lf_plainA {u : Nat} : ∀ {ds : List D}, lfAll u ds = true → plainAll ds = true
  | [], _ => rfl
  | x :: xs, h => by
    unfold lfAll at h
    rw [Bool.and_eq_true] at h
    unfold plainAll
    rw [lf_plain h.1, lf_plainA h.2]
    rfl
end
mutual
theorem lf_short {u : Nat} (hu : u ≤ 1000) : ∀ {d : D}, lf u d = true → PyData.leavesShort 48 d = true ∧ PyData.showable d = true
  | .none, _ => ⟨rfl, rfl⟩
  | .bool _, _ => ⟨rfl, rfl⟩
  | .int i, h => ⟨(tame_int (lf_int h hu)).short, (tame_int (lf_int h hu)).able⟩
  | .str x, h => by
    unfold lf at h
    have := tame_str (x := x) (n := x.cps.size) (asc_short h) (Nat.le_refl _)
    exact ⟨this.short, this.able⟩
  | .tuple xs, h => by
    unfold lf at h
    unfold PyData.leavesShort PyData.showable
    exact lf_shortA hu h
  | .list xs, h => by
    unfold lf at h
    unfold PyData.leavesShort PyData.showable
    exact lf_shortA hu h
  | .dict [], _ => ⟨rfl, rfl⟩
  | .dict [(.str a, d)], h => by
    unfold lf at h
    rw [Bool.and_eq_true] at h
    have h1 := tame_str (x := a) (n := a.cps.size) (asc_short h.1) (Nat.le_refl _)
    have h2 := lf_short hu h.2
    constructor
    · simp only [PyData.leavesShort, PyData.leavesShortKv, h2.1, Bool.and_true]
      exact asc_short h.1
    · simp only [PyData.showable, PyData.showableKv, h2.2, Bool.and_true]
  | .dict ((.none, _) :: _), h => by simp [lf] at h
  | .dict ((.bool _, _) :: _), h => by simp [lf] at h
  | .dict ((.int _, _) :: _), h => by simp [lf] at h
  | .dict ((.list _, _) :: _), h => by simp [lf] at h
  | .dict ((.tuple _, _) :: _), h => by simp [lf] at h
  | .dict ((.dict _, _) :: _), h => by simp [lf] at h
  | .dict ((.str _, _) :: _ :: _), h => by simp [lf] at h
theorem lf_shortA {u : Nat} (hu : u ≤ 1000) : ∀ {ds : List D}, lfAll u ds = true → PyData.leavesShortAll 48 ds = true ∧ PyData.showableAll ds = true
  | [], _ => ⟨rfl, rfl⟩
  | x :: xs, h => by
    unfold lfAll at h
    rw [Bool.and_eq_true] at h
    have h1 := lf_short hu h.1
    have h2 := lf_shortA hu h.2
    unfold PyData.leavesShortAll PyData.showableAll
    rw [h1.1, h1.2, h2.1, h2.2]
    exact ⟨rfl, rfl⟩
end
mutual
theorem lf_mono {u v : Nat} (h : u ≤ v) : ∀ {d : D}, lf u d = true → lf v d = true
  | .none, _ => rfl
  | .bool _, _ => rfl
  | .int i, q => by
    unfold lf at q ⊢
    exact decide_eq_true (Nat.le_trans (of_decide_eq_true q) (by omega))
  | .str x, q => by unfold lf at q ⊢; exact q
  | .tuple xs, q => by unfold lf at q ⊢; exact lf_monoA h q
  | .list xs, q => by unfold lf at q ⊢; exact lf_monoA h q
  | .dict [], _ => rfl
  | .dict [(.str a, d)], q => by
    unfold lf at q ⊢
    rw [Bool.and_eq_true] at q ⊢
    exact ⟨q.1, lf_mono h q.2⟩
  | .dict ((.none, _) :: _), h => by simp [lf] at h
  | .dict ((.bool _, _) :: _), h => by simp [lf] at h
  | .dict ((.int _, _) :: _), h => by simp [lf] at h
  | .dict ((.list _, _) :: _), h => by simp [lf] at h
  | .dict ((.tuple _, _) :: _), h => by simp [lf] at h
  | .dict ((.dict _, _) :: _), h => by simp [lf] at h
  | .dict ((.str _, _) :: _ :: _), h => by simp [lf] at h
theorem lf_monoA {u v : Nat} (h : u ≤ v) : ∀ {ds : List D}, lfAll u ds = true → lfAll v ds = true
  | [], _ => rfl
  | x :: xs, q => by
    unfold lfAll at q ⊢
    rw [Bool.and_eq_true] at q ⊢
    exact ⟨lf_mono h q.1, lf_monoA h q.2⟩
end
/-- small data -/
structure Bd (u n k : Nat) (d : D) : Prop where
  lf : DL.lf u d = true
  bulk : PyData.bulk d ≤ n
  deep : PyData.depth d ≤ k
structure BdA (u n k : Nat) (ds : List D) : Prop where
  lf : lfAll u ds = true
  bulk : PyData.bulkAll ds ≤ n
  deep : PyData.depthAll ds ≤ k
section
variable {u n k u' n' k' m j : Nat} {d : D} {ds es : List D}
theorem Bd.mono (h : Bd u n k d) (a : u ≤ u') (b : n ≤ n') (c : k ≤ k') : Bd u' n' k' d := ⟨lf_mono a h.lf, Nat.le_trans h.bulk b, Nat.le_trans h.deep c⟩
theorem BdA.mono (h : BdA u n k ds) (a : u ≤ u') (b : n ≤ n') (c : k ≤ k') : BdA u' n' k' ds := ⟨lf_monoA a h.lf, Nat.le_trans h.bulk b, Nat.le_trans h.deep c⟩
theorem Bd.tame (h : Bd u n k d) (hu : u ≤ 1000) : Tame n k d := ⟨(lf_short hu h.lf).1, (lf_short hu h.lf).2, h.bulk, h.deep, lf_plain h.lf⟩
theorem Bd.nx (h : Bd u n k d) : noXn d = true := nx_plain (lf_plain h.lf)
theorem bd_none : Bd u 0 0 .none := ⟨rfl, Nat.zero_le _, Nat.zero_le _⟩
theorem bd_bool (b : Bool) : Bd u 0 0 (.bool b) := ⟨rfl, Nat.zero_le _, Nat.zero_le _⟩
theorem bd_int {i : Int} (h : i.natAbs ≤ 10 ^ 39 + u) : Bd u 0 0 (.int i) := ⟨by unfold DL.lf; exact decide_eq_true h, Nat.zero_le _, Nat.zero_le _⟩
theorem bd_str {x : Str} (h : asc x = true) : Bd u x.cps.size 0 (.str x) := ⟨by unfold DL.lf; exact h, Nat.le_refl _, Nat.zero_le _⟩
theorem bda_nil : BdA u 0 0 [] := ⟨rfl, Nat.zero_le _, Nat.zero_le _⟩
theorem bda_cons (h : Bd u n k d) (t : BdA u m j ds) : BdA u (n + 1 + m) (max k j) (d :: ds) := by
  refine ⟨?_, ?_, ?_⟩
  · unfold lfAll; rw [h.lf, t.lf]; rfl
  · simp only [PyData.bulkAll]; have := h.bulk; have := t.bulk; omega
  · simp only [PyData.depthAll]; have := h.deep; have := t.deep; omega
theorem bd_tup (h : BdA u n k ds) : Bd u n (k + 1) (.tuple ds) := by
  refine ⟨by unfold DL.lf; exact h.lf, by unfold PyData.bulk; exact h.bulk, ?_⟩
  simp only [PyData.depth]; have := h.deep; omega
theorem bd_lst (h : BdA u n k ds) : Bd u n (k + 1) (.list ds) := by
  refine ⟨by unfold DL.lf; exact h.lf, by unfold PyData.bulk; exact h.bulk, ?_⟩
  simp only [PyData.depth]; have := h.deep; omega
theorem Bd.tupA (h : Bd u n (k + 1) (.tuple ds)) : BdA u n k ds := by
  refine ⟨by have := h.lf; unfold DL.lf at this; exact this, by have := h.bulk; unfold PyData.bulk at this; exact this, ?_⟩
  have := h.deep
  simp only [PyData.depth] at this
  omega
theorem lfA_app : ∀ (ds es : List D), lfAll u (ds ++ es) = (lfAll u ds && lfAll u es)
  | [], es => by simp [lfAll]
  | d :: ds, es => by simp only [List.cons_append, lfAll, lfA_app ds es, Bool.and_assoc]
theorem bulkA_app : ∀ (ds es : List D), PyData.bulkAll (ds ++ es) = PyData.bulkAll ds + PyData.bulkAll es
  | [], es => by simp [PyData.bulkAll]
  | d :: ds, es => by simp only [List.cons_append, PyData.bulkAll, bulkA_app ds es]; omega
theorem depthA_app : ∀ (ds es : List D), PyData.depthAll (ds ++ es) = max (PyData.depthAll ds) (PyData.depthAll es)
  | [], es => by simp [PyData.depthAll]
  | d :: ds, es => by simp only [List.cons_append, PyData.depthAll, depthA_app ds es]; omega
theorem BdA.app (h : BdA u n k ds) (t : BdA u m j es) : BdA u (n + m) (max k j) (ds ++ es) := by
  refine ⟨by rw [lfA_app, h.lf, t.lf]; rfl, ?_, ?_⟩
  · rw [bulkA_app]; have := h.bulk; have := t.bulk; omega
  · rw [depthA_app]; have := h.deep; have := t.deep; omega
theorem BdA.parts (h : BdA u n k (ds ++ es)) : BdA u n k ds ∧ BdA u n k es := by
  have h1 := h.lf
  have h2 := h.bulk
  have h3 := h.deep
  rw [lfA_app, Bool.and_eq_true] at h1
  rw [bulkA_app] at h2
  rw [depthA_app] at h3
  exact ⟨⟨h1.1, by omega, by omega⟩, ⟨h1.2, by omega, by omega⟩⟩
theorem BdA.take (h : BdA u n k ds) (i : Nat) : BdA u n k (ds.take i) := by
  rw [← List.take_append_drop i ds] at h
  exact h.parts.1
theorem BdA.drop (h : BdA u n k ds) (i : Nat) : BdA u n k (ds.drop i) := by
  rw [← List.take_append_drop i ds] at h
  exact h.parts.2
theorem BdA.cut (h : BdA u n k ds) (lo hi : Option Int) : BdA u n k (DL.cut ds lo hi) := (h.drop _).take _
theorem BdA.mem (h : BdA u n k ds) {x : D} (hx : x ∈ ds) : Bd u n k x := by
  obtain ⟨a, b, rfl⟩ := List.append_of_mem hx
  have h1 := h.parts.2
  have h2 := h1.lf
  have h3 := h1.bulk
  have h4 := h1.deep
  simp only [lfAll, Bool.and_eq_true] at h2
  simp only [PyData.bulkAll] at h3
  simp only [PyData.depthAll] at h4
  exact ⟨h2.1, by omega, by omega⟩
theorem BdA.rev : ∀ {ds : List D}, BdA u n k ds → BdA u n k ds.reverse
  | [], h => h
  | d :: ds, h => by
    have h1 := BdA.rev (BdA.parts (ds := [d]) (es := ds) h).2
    have e1 := h.lf
    have e2 := h.bulk
    have e3 := h.deep
    have go : ∀ xs : List D, lfAll u xs.reverse = lfAll u xs ∧ PyData.bulkAll xs.reverse = PyData.bulkAll xs ∧ PyData.depthAll xs.reverse = PyData.depthAll xs := by
      intro xs
      induction xs with
      | nil => exact ⟨rfl, rfl, rfl⟩
      | cons x xs ih =>
        rw [List.reverse_cons, lfA_app, bulkA_app, depthA_app, ih.1, ih.2.1, ih.2.2]
        refine ⟨?_, ?_, ?_⟩
        · rw [Bool.and_comm]; simp only [lfAll, Bool.and_true]
        · simp only [PyData.bulkAll]; omega
        · simp only [PyData.depthAll]; omega
    obtain ⟨g1, g2, g3⟩ := go (d :: ds)
    exact ⟨by rw [g1]; exact e1, by rw [g2]; exact e2, by rw [g3]; exact e3⟩
theorem len_bulk : ∀ ds : List D, ds.length ≤ PyData.bulkAll ds
  | [] => Nat.le_refl _
  | d :: ds => by
    have := len_bulk ds
    simp only [List.length_cons, PyData.bulkAll]
    omega
theorem BdA.len (h : BdA u n k ds) : ds.length ≤ n := Nat.le_trans (len_bulk ds) h.bulk
theorem bda_all (h : ∀ d ∈ ds, Bd u n k d) : BdA u (ds.length * (n + 1)) k ds := by
  induction ds with
  | nil => exact bda_nil.mono (Nat.le_refl _) (Nat.zero_le _) (Nat.zero_le _)
  | cons d ds ih =>
    have := bda_cons (h d (.head _)) (ih fun x hx => h x (.tail _ hx))
    refine this.mono (Nat.le_refl _) ?_ (by omega)
    rw [List.length_cons, Nat.succ_mul]
    omega
theorem bda_ints {ns : List Int} (h : ∀ x ∈ ns, x.natAbs ≤ 10 ^ 39 + u) : BdA u ns.length 0 (ns.map PyData.int) := by
  have := bda_all (u := u) (n := 0) (k := 0) (ds := ns.map PyData.int) fun d hd => by
    obtain ⟨x, hx, rfl⟩ := List.mem_map.mp hd
    exact bd_int (h x hx)
  rw [List.length_map, Nat.zero_add, Nat.mul_one] at this
  exact this
end
theorem asc_app {x y : Str} (h : asc x = true) (g : asc y = true) : asc (x ++ y) = true := by
  unfold asc at h g ⊢
  show ((x.cps ++ y.cps).toList.all _) = true
  rw [Array.toList_append, List.all_append, h, g]
  rfl
theorem size_app (x y : Str) : (x ++ y).cps.size = x.cps.size + y.cps.size := Array.size_append
theorem asc_cut {x : Str} (h : asc x = true) (lo hi : Option Int) : asc (L2.cutS x lo hi) = true := by
  unfold asc at h ⊢
  simp only [List.all_eq_true, decide_eq_true_eq] at h ⊢
  intro c hc
  unfold L2.cutS at hc
  simp only [List.toList_toArray] at hc
  exact h c (List.mem_of_mem_drop (List.mem_of_mem_take hc))
theorem size_cut (x : Str) (lo hi : Option Int) : (L2.cutS x lo hi).cps.size ≤ x.cps.size := by
  unfold L2.cutS
  simp only [List.size_toArray, List.length_take, List.length_drop, Array.length_toList]
  omega
theorem asc_up {x : Str} (h : asc x = true) : asc (Txt.upper x) = true ∧ (Txt.upper x).cps.size = x.cps.size := by
  have h' : ∀ c ∈ x.cps.toList, c < 128 := by
    unfold asc at h
    simpa only [List.all_eq_true, decide_eq_true_eq] using h
  rw [PyProof.Rows.upper_ascii h']
  refine ⟨?_, Array.size_map⟩
  unfold asc
  simp only [Array.toList_map, List.all_eq_true, decide_eq_true_eq, List.mem_map]
  rintro c ⟨b, hb, rfl⟩
  have := h' b hb
  unfold PyProof.Rows.up1
  split <;> omega
theorem asc_int (i : Int) : asc (Str.ofString (toString i)) = true := by
  unfold asc
  simp only [List.all_eq_true, decide_eq_true_eq]
  intro c hc
  by_cases h : c < 128
  · exact h
  · exact absurd hc (PyProof.Rows.int_text_free' c ⟨by omega, by omega⟩ i)
theorem size_int {i : Int} (h : i.natAbs < 10 ^ 45) : (Str.ofString (toString i)).cps.size ≤ 46 := by
  have e := int_text_length_le10 (k := 45) (a := i) (by decide) h
  show (Str.ofString (toString i)).length ≤ 46
  rw [ofString_length]
  exact e
end DL
end
section
namespace DL
open PySem
theorem o_neNilT0 (ds : List D) : opCmp .ne (.tuple ds) (.tuple []) = ret (!ds.isEmpty) := by
  show bnd (grd True (ret (PyData.eqv (.tuple ds) (.tuple [])))) _ = _
  rw [grd_true]
  cases ds <;> rfl
def bdB (u n k : Nat) (d : D) : Bool := lf u d && decide (PyData.bulk d ≤ n) && decide (PyData.depth d ≤ k)
theorem bdB_ok {u n k : Nat} {d : D} (h : bdB u n k d = true) : Bd u n k d := by
  unfold bdB at h
  simp only [Bool.and_eq_true, decide_eq_true_eq] at h
  exact ⟨h.1.1, h.1.2, h.2⟩
theorem odd_b : Ok (w__law_odd_0 []) 1 (Bd 0 8 2) := by
  unfold w__law_odd_0
  rw [x_fnS]
  refine Ok.grd rfl (Ok.fn ?_)
  try simp only [x_var, x_con, x_bin, x_neg, x_cmp, x_chain, x_tTru, x_tNot, x_tAnd, x_tOr, x_tBool, x_tYes, x_not, x_and, x_or, x_if, x_b1, x_b2, x_is, x_idx, x_oNone, x_oSome, x_cut, x_aNil, x_aCons, x_tup, x_lst, x_call, x_callS,
    x_iSeq, x_iRng1, x_iRng2, x_bor, x_tBor, x_put1, List.map_cons, List.map_nil, List.cons_append, List.nil_append, List.length_cons, List.length_nil, Nat.zero_add, Nat.reduceAdd, Nat.reduceSub, List.reduceReplicate, start,
    List.getElem?_cons_zero, List.getElem?_cons_succ, List.set_cons_zero, List.set_cons_succ, bnd_ret, bnd_assoc, bnd_grd, b1_if, bnd_ite, small, Nat.reduceLeDiff, grd_true, o_add, o_sub, o_neg, o_eq, o_ne, o_lt, o_le, o_gt, o_ge, o_eqS, o_neS,
    decide_eq_true_eq, reduceIte, decide_true, decide_false, Bool.not_true, Bool.not_false, Bool.false_eq_true, itemsOf, asInt, endOf, isTy,
    grd_tt, nx_int, nx_bool, nx_str, nx_none, nx_tup, nx_lst, x_isC, x_fld, x_in, x_count, x_lstR, x_tupR, x_raise, x_star, bnd_thr, noX_ret, fld_x, exn_d, eSetO, Out.clear, List.zip_cons_cons, List.zip_nil_left, List.zip_nil_right, s_asg, s_par, s_own, s_parO, s_put, s_expr, s_ret, s_skip, s_seq, s_rel, x_asg, x_par, x_own, x_parO, x_put, x_expr, x_ret, x_retN, x_skip, x_rel, x_app, x_setI, x_sIf, x_for, x_brk, x_cnt, b_lenT, b_lenL, b_tupL, b_tupT, b_max2, b_min2, o_addL, o_addT, cut_ints, sum_ints, s_chk, s_for, s_brk, s_cnt, s_retN, t_bool, g_rng, g_le, List.length_map, o_pow39]
  refine Ok.drawB (n := 0) (by omega) (by omega) fun v h0 h1 => ?_
  rw [idx_list h0 (by simp only [List.length_cons, List.length_nil]; omega)]
  refine Ok.ret ?_
  have go : ([PyData.none, .bool true, .bool false, .int (-1), .int 0, .int 1, .int 2, .int 23, .int 24, .int 60, .int 61, .int 2000, .int 2001, .int (10 ^ 39), .str "", .str "3", .str "row", .tuple [], .list [], .dict [], .tuple [.int 0], .list [.int 0], .tuple [.bool true], .tuple [.int 3, .int 0], .tuple [.int 3, .int 1], .dict [(.str "a", .int 1)]].all (bdB 0 8 2)) = true := by decide +kernel
  exact bdB_ok (List.all_eq_true.mp go _ (List.getElem_mem _))
theorem pick_b {ds : List D} (h : 0 < ds.length) (hl : ds.length < 1000000) : Ok (w__law_pick_0 [.list ds]) 1 (fun d => d ∈ ds) := by
  unfold w__law_pick_0
  rw [x_fnS]
  refine Ok.grd rfl (Ok.fn ?_)
  try simp only [x_var, x_con, x_bin, x_neg, x_cmp, x_chain, x_tTru, x_tNot, x_tAnd, x_tOr, x_tBool, x_tYes, x_not, x_and, x_or, x_if, x_b1, x_b2, x_is, x_idx, x_oNone, x_oSome, x_cut, x_aNil, x_aCons, x_tup, x_lst, x_call, x_callS,
    x_iSeq, x_iRng1, x_iRng2, x_bor, x_tBor, x_put1, List.map_cons, List.map_nil, List.cons_append, List.nil_append, List.length_cons, List.length_nil, Nat.zero_add, Nat.reduceAdd, Nat.reduceSub, List.reduceReplicate, start,
    List.getElem?_cons_zero, List.getElem?_cons_succ, List.set_cons_zero, List.set_cons_succ, bnd_ret, bnd_assoc, bnd_grd, b1_if, bnd_ite, small, Nat.reduceLeDiff, grd_true, o_add, o_sub, o_neg, o_eq, o_ne, o_lt, o_le, o_gt, o_ge, o_eqS, o_neS,
    decide_eq_true_eq, reduceIte, decide_true, decide_false, Bool.not_true, Bool.not_false, Bool.false_eq_true, itemsOf, asInt, endOf, isTy,
    grd_tt, nx_int, nx_bool, nx_str, nx_none, nx_tup, nx_lst, x_isC, x_fld, x_in, x_count, x_lstR, x_tupR, x_raise, x_star, bnd_thr, noX_ret, fld_x, exn_d, eSetO, Out.clear, List.zip_cons_cons, List.zip_nil_left, List.zip_nil_right, s_asg, s_par, s_own, s_parO, s_put, s_expr, s_ret, s_skip, s_seq, s_rel, x_asg, x_par, x_own, x_parO, x_put, x_expr, x_ret, x_retN, x_skip, x_rel, x_app, x_setI, x_sIf, x_for, x_brk, x_cnt, b_lenT, b_lenL, b_tupL, b_tupT, b_max2, b_min2, o_addL, o_addT, cut_ints, sum_ints, s_chk, s_for, s_brk, s_cnt, s_retN, t_bool, g_rng, g_le, List.length_map]
  refine Ok.drawB (n := 0) (by omega) (by omega) fun v h0 h1 => ?_
  rw [idx_list h0 h1]
  exact Ok.ret (List.getElem_mem _)
theorem b_int12 {u : Nat} : Bd u 2 1 (.tuple [.int 1, .int 2]) := bdB_ok (by
  unfold bdB
  simp [lf, lfAll, PyData.bulk, PyData.bulkAll, PyData.depth, PyData.depthAll]
  omega)
theorem b_int {u n k : Nat} {i : Int} (h : i.natAbs ≤ 10 ^ 39) : Bd u n k (.int i) := (bd_int (by omega)).mono (Nat.le_refl _) (Nat.zero_le _) (Nat.zero_le _)
theorem cutL_tup (xs : List D) (lo hi : Option Int) : opCut (.tuple xs) lo hi = ret (.tuple (DL.cut xs lo hi)) := id rfl
theorem cutL_str (x : Str) (lo hi : Option Int) : opCut (.str x) lo hi = grd (x.length ≤ 1000000) (ret (.str (L2.cutS x lo hi))) := id rfl
theorem rev_tup (xs : List D) : opRev (.tuple xs) = ret (.tuple xs.reverse) := id rfl
theorem add_tup (xs ys : List D) : opBin .add (.tuple xs) (.tuple ys) = grd (small (xs.length + ys.length)) (ret (.tuple (xs ++ ys))) := id rfl
theorem add_lst (xs ys : List D) : opBin .add (.list xs) (.list ys) = grd (small (xs.length + ys.length)) (ret (.list (xs ++ ys))) := id rfl
theorem add_str (x y : Str) : opBin .add (.str x) (.str y) = grd (x.length + y.length ≤ 1000000) (ret (.str (x ++ y))) := id rfl
theorem list_tup (xs : List D) : bi1 .list (.tuple xs) = ret (.list xs) := id rfl
theorem str_int {i : Int} (h : i.natAbs < 10 ^ 45) : bi1 .str (.int i) = ret (.str (Str.ofString (toString i))) := by
  show grd (i.natAbs.log2 < 1920) _ = _
  rw [grd_pos]
  by_cases h0 : i.natAbs = 0
  · rw [h0]; decide
  · have h2 : i.natAbs < 2 ^ 150 := Nat.lt_trans h (by decide)
    exact Nat.lt_of_lt_of_le ((Nat.log2_lt h0).mpr h2) (by decide)
theorem str_bool (b : Bool) : bi1 .str (.bool b) = ret (.str (if b = true then "True" else "False" : String)) := id rfl
theorem eq_bool1 (b : Bool) : opCmp .eq (.bool b) (.int 1) = ret b := by
  show grd _ _ = _
  rw [grd_pos (eqOk_of rfl rfl)]
  cases b <;> rfl
theorem up_str (x : Str) : opUp (.str x) = grd (x.length ≤ 1000000) (ret (.str (Txt.upper x))) := id rfl
theorem cutN_upto {ds : List D} {k : Int} (hk : 0 ≤ k) : DL.cut ds none (some k) = ds.take k.toNat := by
  obtain ⟨a, rfl⟩ := Int.eq_ofNat_of_zero_le hk
  exact cut_upto
theorem cutN_from {ds : List D} {k : Int} (hk : 0 ≤ k) (h : k ≤ ds.length) : DL.cut ds (some k) none = ds.drop k.toNat := by
  obtain ⟨a, rfl⟩ := Int.eq_ofNat_of_zero_le hk
  unfold DL.cut
  have e1 : HT.sIx ds.length 0 (some (a : Int)) = a := by
    rw [HT.sIx_nat]
    omega
  have e2 : HT.sIx ds.length ds.length none = ds.length := rfl
  rw [e1, e2, List.take_of_length_le (by rw [List.length_drop]; exact Nat.le_refl _)]
  rfl
theorem mem4 {P : D → Prop} {a b c e : D} {l : List D} (h : ∀ d ∈ [a, b, c, e], P d) (hl : ∀ d ∈ l, P d) : ∀ d ∈ a :: b :: c :: e :: l, P d := fun d hd => by
  have hd' : d ∈ [a, b, c, e] ++ l := hd
  rcases List.mem_append.mp hd' with q | q
  · exact h d q
  · exact hl d q
/-- what is picked behind all cases -/
def bentQ (u n k : Nat) (d : D) : Prop := Bd (u + 1) (2 * n + 60) (max k 3 + 1) d
theorem bent_ok : ∀ (N j : Nat) {u n k : Nat} {d : D}, j < N → u ≤ 900 → n ≤ 100000 → Bd u n k d → Ok (recF w__law_bent_0F N [d, .int j]) (4 + 2 * j) (Bd (u + 1) (2 * n + 60 + j) (max k 3 + 1 + j))
  | 0, j, u, n, k, d, hj, _, _, _ => absurd hj (by omega)
  | N + 1, j, u, n, k, d, hj, hu, hn, h => by
    have ih : ∀ (j : Nat) {u n k : Nat} {d : D}, j < N → u ≤ 900 → n ≤ 100000 → Bd u n k d → Ok (recF w__law_bent_0F N [d, .int j]) (4 + 2 * j) (Bd (u + 1) (2 * n + 60 + j) (max k 3 + 1 + j)) := fun j _ _ _ _ a b c e => bent_ok N j a b c e
    show Ok (w__law_bent_0F (recF w__law_bent_0F N) [d, .int j]) _ _
    generalize recF w__law_bent_0F N = self at ih ⊢
    unfold w__law_bent_0F
    rw [x_fnS]
    refine Ok.grd rfl (Ok.fn ?_)
    have nx := h.nx
    -- the plain way
    have plain_way : ∀ e3 : Ent, Ok (sSeq (sAsg 4 (eLst (aCons (eCallS w__law_odd_0 0 (aNil)) (aCons (eCallS w__law_odd_0 0 (aNil)) (aCons (eTup (aCons (eCon (.int 1)) (aCons (eCon (.int 2)) (aNil)))) (aCons (eCon (.int 5)) (aNil)))))))
        (sSeq (sIf (tTru (eIs .tuple (eVar 1))) (sAsg 4 (eBin .add (eVar 4) (eLst (aCons (eB1 .list (eVar 1)) (aCons (eCut (eVar 1) (oSome (eCon (.int 1))) (oNone)) (aCons (eBin .add (eVar 1) (eCut (eVar 1) (oSome (eNeg (eCon (.int 1)))) (oNone))) (aCons (eRev (eVar 1)) (aCons (eTup (aCons (eVar 1) (aNil))) (aCons (eBin .add (eVar 1) (eTup (aCons (eCon .none) (aNil)))) (aCons (eCut (eVar 1) (oNone) (oSome (eNeg (eCon (.int 1))))) (aNil))))))))))) (sIf (tTru (eIs .str (eVar 1))) (sAsg 4 (eBin .add (eVar 4) (eLst (aCons (eBin .add (eVar 1) (eCon (.str "x"))) (aCons (eCut (eVar 1) (oSome (eCon (.int 1))) (oNone)) (aCons (eUp (eVar 1)) (aCons (eBin .add (eVar 1) (eCon (.str " "))) (aCons (eLst (aCons (eVar 1) (aNil))) (aNil))))))))) (sIf (tTru (eIs .int (eVar 1))) (sAsg 4 (eBin .add (eVar 4) (eLst (aCons (eBin .add (eVar 1) (eCon (.int 1))) (aCons (eBin .sub (eVar 1) (eCon (.int 1))) (aCons (eCon (.int 61)) (aCons (eCon (.int 0)) (aCons (eB1 .str (eVar 1)) (aCons (eCmp .eq (eVar 1) (eCon (.int 1))) (aNil)))))))))) (sSkip))))
        (sRet (eCallS w__law_pick_0 0 (aCons (eVar 4) (aNil))))) [.stm, .val d, .val (.int j), e3, .unk]) 3 (fun o => match o with | .rt d => bentQ u n k d | .nx _ => bentQ u n k .none | _ => False) := fun e3 => by
      rw [s_asg]
      simp only [x_var, x_con, x_bin, x_neg, x_cmp, x_chain, x_tTru, x_tNot, x_tAnd, x_tOr, x_tBool, x_tYes, x_not, x_and, x_or, x_if, x_b1, x_b2, x_is, x_idx, x_oNone, x_oSome, x_cut, x_aNil, x_aCons, x_tup, x_lst, x_call, x_callS,
    x_iSeq, x_iRng1, x_iRng2, x_bor, x_tBor, x_put1, List.map_cons, List.map_nil, List.cons_append, List.nil_append, List.length_cons, List.length_nil, Nat.zero_add, Nat.reduceAdd, Nat.reduceSub, List.reduceReplicate, start,
    List.getElem?_cons_zero, List.getElem?_cons_succ, List.set_cons_zero, List.set_cons_succ, bnd_ret, bnd_assoc, bnd_grd, b1_if, bnd_ite, small, Nat.reduceLeDiff, grd_true, o_add, o_sub, o_neg, o_eq, o_ne, o_lt, o_le, o_gt, o_ge, o_eqS, o_neS,
    decide_eq_true_eq, reduceIte, decide_true, decide_false, Bool.not_true, Bool.not_false, Bool.false_eq_true, itemsOf, asInt, bi2, endOf, isTy,
    grd_tt, nx_int, nx_bool, nx_str, nx_none, nx_tup, nx_lst, x_isC, x_fld, x_in, x_count, x_lstR, x_tupR, x_raise, x_star, bnd_thr, noX_ret, fld_x, exn_d, eSetO, Out.clear, List.zip_cons_cons, List.zip_nil_left, List.zip_nil_right, bnd_id]
      refine Ok.bnd' 3 odd_b (by decide) fun o1 h1 => ?_
      refine Ok.bnd' 2 odd_b (by decide) fun o2 h2 => ?_
      simp only [x_var, x_con, x_bin, x_neg, x_cmp, x_chain, x_tTru, x_tNot, x_tAnd, x_tOr, x_tBool, x_tYes, x_not, x_and, x_or, x_if, x_b1, x_b2, x_is, x_idx, x_oNone, x_oSome, x_cut, x_aNil, x_aCons, x_tup, x_lst, x_call, x_callS,
    x_iSeq, x_iRng1, x_iRng2, x_bor, x_tBor, x_put1, List.map_cons, List.map_nil, List.cons_append, List.nil_append, List.length_cons, List.length_nil, Nat.zero_add, Nat.reduceAdd, Nat.reduceSub, List.reduceReplicate, start,
    List.getElem?_cons_zero, List.getElem?_cons_succ, List.set_cons_zero, List.set_cons_succ, bnd_ret, bnd_assoc, bnd_grd, b1_if, bnd_ite, small, Nat.reduceLeDiff, grd_true, o_add, o_sub, o_neg, o_eq, o_ne, o_lt, o_le, o_gt, o_ge, o_eqS, o_neS,
    decide_eq_true_eq, reduceIte, decide_true, decide_false, Bool.not_true, Bool.not_false, Bool.false_eq_true, itemsOf, asInt, bi2, endOf, isTy,
    grd_tt, nx_int, nx_bool, nx_str, nx_none, nx_tup, nx_lst, x_isC, x_fld, x_in, x_count, x_lstR, x_tupR, x_raise, x_star, bnd_thr, noX_ret, fld_x, exn_d, eSetO, Out.clear, List.zip_cons_cons, List.zip_nil_left, List.zip_nil_right]
      have q1 : bentQ u n k o1 := h1.mono (Nat.zero_le _) (by omega) (by omega)
      have q2 : bentQ u n k o2 := h2.mono (Nat.zero_le _) (by omega) (by omega)
      have q3 : bentQ u n k (.tuple [.int 1, .int 2]) := (b_int12 (u := u)).mono (Nat.le_succ _) (by omega) (by omega)
      have q4 : ∀ {i : Int}, i.natAbs ≤ 10 ^ 39 → bentQ u n k (.int i) := fun q => b_int q
      have fin : ∀ ds : List D, 0 < ds.length → ds.length < 1000 → (∀ d ∈ ds, bentQ u n k d) → Ok (DL.bnd (w__law_pick_0 [.list ds]) fun d => ret (Out.rt d)) 1 (fun o : Out => match o with | .rt d => bentQ u n k d | .nx _ => bentQ u n k .none | _ => False) := fun ds p0 p1 hq =>
        Ok.bnd' 1 (pick_b p0 (by omega)) (by decide) fun d hd => Ok.ret (hq d hd)
      have base : ∀ d ∈ [o1, o2, PyData.tuple [.int 1, .int 2], .int 5], bentQ u n k d := fun d hd => by
        simp only [List.mem_cons, List.not_mem_nil, or_false] at hd
        rcases hd with rfl | rfl | rfl | rfl
        · exact q1
        · exact q2
        · exact q3
        · exact q4 (by decide)
      rw [s_if]
      cases d with
      | none =>
        try simp only [x_var, x_con, x_bin, x_neg, x_cmp, x_chain, x_tTru, x_tNot, x_tAnd, x_tOr, x_tBool, x_tYes, x_not, x_and, x_or, x_if, x_b1, x_b2, x_is, x_idx, x_oNone, x_oSome, x_cut, x_aNil, x_aCons, x_tup, x_lst, x_call, x_callS,
    x_iSeq, x_iRng1, x_iRng2, x_bor, x_tBor, x_put1, List.map_cons, List.map_nil, List.cons_append, List.nil_append, List.length_cons, List.length_nil, Nat.zero_add, Nat.reduceAdd, Nat.reduceSub, List.reduceReplicate, start,
    List.getElem?_cons_zero, List.getElem?_cons_succ, List.set_cons_zero, List.set_cons_succ, bnd_ret, bnd_assoc, bnd_grd, b1_if, bnd_ite, small, Nat.reduceLeDiff, grd_true, o_add, o_sub, o_neg, o_eq, o_ne, o_lt, o_le, o_gt, o_ge, o_eqS, o_neS,
    decide_eq_true_eq, reduceIte, decide_true, decide_false, Bool.not_true, Bool.not_false, Bool.false_eq_true, itemsOf, asInt, endOf, isTy,
    grd_tt, nx_int, nx_bool, nx_str, nx_none, nx_tup, nx_lst, x_isC, x_fld, x_in, x_count, x_lstR, x_tupR, x_raise, x_star, bnd_thr, noX_ret, fld_x, exn_d, eSetO, Out.clear, List.zip_cons_cons, List.zip_nil_left, List.zip_nil_right, s_asg, s_par, s_own, s_parO, s_put, s_expr, s_ret, s_skip, s_seq, s_rel, x_asg, x_par, x_own, x_parO, x_put, x_expr, x_ret, x_retN, x_skip, x_rel, x_app, x_setI, x_sIf, x_for, x_brk, x_cnt, b_lenT, b_lenL, b_tupL, b_tupT, b_max2, b_min2, o_addL, o_addT, cut_ints, sum_ints, s_chk, s_for, s_brk, s_cnt, s_retN, t_bool, g_rng, g_le, List.length_map, s_if]
        exact fin _ (by simp) (by simp) base
      | list ds =>
        try simp only [x_var, x_con, x_bin, x_neg, x_cmp, x_chain, x_tTru, x_tNot, x_tAnd, x_tOr, x_tBool, x_tYes, x_not, x_and, x_or, x_if, x_b1, x_b2, x_is, x_idx, x_oNone, x_oSome, x_cut, x_aNil, x_aCons, x_tup, x_lst, x_call, x_callS,
    x_iSeq, x_iRng1, x_iRng2, x_bor, x_tBor, x_put1, List.map_cons, List.map_nil, List.cons_append, List.nil_append, List.length_cons, List.length_nil, Nat.zero_add, Nat.reduceAdd, Nat.reduceSub, List.reduceReplicate, start,
    List.getElem?_cons_zero, List.getElem?_cons_succ, List.set_cons_zero, List.set_cons_succ, bnd_ret, bnd_assoc, bnd_grd, b1_if, bnd_ite, small, Nat.reduceLeDiff, grd_true, o_add, o_sub, o_neg, o_eq, o_ne, o_lt, o_le, o_gt, o_ge, o_eqS, o_neS,
    decide_eq_true_eq, reduceIte, decide_true, decide_false, Bool.not_true, Bool.not_false, Bool.false_eq_true, itemsOf, asInt, endOf, isTy,
    grd_tt, nx_int, nx_bool, nx_str, nx_none, nx_tup, nx_lst, x_isC, x_fld, x_in, x_count, x_lstR, x_tupR, x_raise, x_star, bnd_thr, noX_ret, fld_x, exn_d, eSetO, Out.clear, List.zip_cons_cons, List.zip_nil_left, List.zip_nil_right, s_asg, s_par, s_own, s_parO, s_put, s_expr, s_ret, s_skip, s_seq, s_rel, x_asg, x_par, x_own, x_parO, x_put, x_expr, x_ret, x_retN, x_skip, x_rel, x_app, x_setI, x_sIf, x_for, x_brk, x_cnt, b_lenT, b_lenL, b_tupL, b_tupT, b_max2, b_min2, o_addL, o_addT, cut_ints, sum_ints, s_chk, s_for, s_brk, s_cnt, s_retN, t_bool, g_rng, g_le, List.length_map, s_if]
        exact fin _ (by simp) (by simp) base
      | dict ds =>
        try simp only [x_var, x_con, x_bin, x_neg, x_cmp, x_chain, x_tTru, x_tNot, x_tAnd, x_tOr, x_tBool, x_tYes, x_not, x_and, x_or, x_if, x_b1, x_b2, x_is, x_idx, x_oNone, x_oSome, x_cut, x_aNil, x_aCons, x_tup, x_lst, x_call, x_callS,
    x_iSeq, x_iRng1, x_iRng2, x_bor, x_tBor, x_put1, List.map_cons, List.map_nil, List.cons_append, List.nil_append, List.length_cons, List.length_nil, Nat.zero_add, Nat.reduceAdd, Nat.reduceSub, List.reduceReplicate, start,
    List.getElem?_cons_zero, List.getElem?_cons_succ, List.set_cons_zero, List.set_cons_succ, bnd_ret, bnd_assoc, bnd_grd, b1_if, bnd_ite, small, Nat.reduceLeDiff, grd_true, o_add, o_sub, o_neg, o_eq, o_ne, o_lt, o_le, o_gt, o_ge, o_eqS, o_neS,
    decide_eq_true_eq, reduceIte, decide_true, decide_false, Bool.not_true, Bool.not_false, Bool.false_eq_true, itemsOf, asInt, endOf, isTy,
    grd_tt, nx_int, nx_bool, nx_str, nx_none, nx_tup, nx_lst, x_isC, x_fld, x_in, x_count, x_lstR, x_tupR, x_raise, x_star, bnd_thr, noX_ret, fld_x, exn_d, eSetO, Out.clear, List.zip_cons_cons, List.zip_nil_left, List.zip_nil_right, s_asg, s_par, s_own, s_parO, s_put, s_expr, s_ret, s_skip, s_seq, s_rel, x_asg, x_par, x_own, x_parO, x_put, x_expr, x_ret, x_retN, x_skip, x_rel, x_app, x_setI, x_sIf, x_for, x_brk, x_cnt, b_lenT, b_lenL, b_tupL, b_tupT, b_max2, b_min2, o_addL, o_addT, cut_ints, sum_ints, s_chk, s_for, s_brk, s_cnt, s_retN, t_bool, g_rng, g_le, List.length_map, s_if, nx]
        exact fin _ (by simp) (by simp) base
      | bool b =>
        try simp only [x_var, x_con, x_bin, x_neg, x_cmp, x_chain, x_tTru, x_tNot, x_tAnd, x_tOr, x_tBool, x_tYes, x_not, x_and, x_or, x_if, x_b1, x_b2, x_is, x_idx, x_oNone, x_oSome, x_cut, x_aNil, x_aCons, x_tup, x_lst, x_call, x_callS,
    x_iSeq, x_iRng1, x_iRng2, x_bor, x_tBor, x_put1, List.map_cons, List.map_nil, List.cons_append, List.nil_append, List.length_cons, List.length_nil, Nat.zero_add, Nat.reduceAdd, Nat.reduceSub, List.reduceReplicate, start,
    List.getElem?_cons_zero, List.getElem?_cons_succ, List.set_cons_zero, List.set_cons_succ, bnd_ret, bnd_assoc, bnd_grd, b1_if, bnd_ite, small, Nat.reduceLeDiff, grd_true, o_add, o_sub, o_neg, o_eq, o_ne, o_lt, o_le, o_gt, o_ge, o_eqS, o_neS,
    decide_eq_true_eq, reduceIte, decide_true, decide_false, Bool.not_true, Bool.not_false, Bool.false_eq_true, itemsOf, asInt, endOf, isTy,
    grd_tt, nx_int, nx_bool, nx_str, nx_none, nx_tup, nx_lst, x_isC, x_fld, x_in, x_count, x_lstR, x_tupR, x_raise, x_star, bnd_thr, noX_ret, fld_x, exn_d, eSetO, Out.clear, List.zip_cons_cons, List.zip_nil_left, List.zip_nil_right, s_asg, s_par, s_own, s_parO, s_put, s_expr, s_ret, s_skip, s_seq, s_rel, x_asg, x_par, x_own, x_parO, x_put, x_expr, x_ret, x_retN, x_skip, x_rel, x_app, x_setI, x_sIf, x_for, x_brk, x_cnt, b_lenT, b_lenL, b_tupL, b_tupT, b_max2, b_min2, o_addL, o_addT, cut_ints, sum_ints, s_chk, s_for, s_brk, s_cnt, s_retN, t_bool, g_rng, g_le, List.length_map, s_if, o_addB, o_subB, str_bool, eq_bool1]
        refine fin _ (by simp) (by simp) (mem4 base fun d hd => ?_)
        · simp only [List.mem_cons, List.not_mem_nil, or_false] at hd
          rcases hd with rfl | rfl | rfl | rfl | rfl | rfl
          · exact q4 (by cases b <;> decide)
          · exact q4 (by cases b <;> decide)
          · exact q4 (by decide)
          · exact q4 (by decide)
          · refine (bd_str (by cases b <;> decide +kernel)).mono (Nat.zero_le _) ?_ (Nat.zero_le _)
            exact Nat.le_trans (show _ ≤ 5 by cases b <;> decide +kernel) (by omega)
          · exact (bd_bool _).mono (Nat.zero_le _) (Nat.zero_le _) (Nat.zero_le _)
      | int i =>
        have hi : i.natAbs ≤ 10 ^ 39 + u := by
          have := h.lf
          unfold lf at this
          exact of_decide_eq_true this
        have hi2 : i.natAbs < 10 ^ 45 := lf_int h.lf (by omega)
        try simp only [x_var, x_con, x_bin, x_neg, x_cmp, x_chain, x_tTru, x_tNot, x_tAnd, x_tOr, x_tBool, x_tYes, x_not, x_and, x_or, x_if, x_b1, x_b2, x_is, x_idx, x_oNone, x_oSome, x_cut, x_aNil, x_aCons, x_tup, x_lst, x_call, x_callS,
    x_iSeq, x_iRng1, x_iRng2, x_bor, x_tBor, x_put1, List.map_cons, List.map_nil, List.cons_append, List.nil_append, List.length_cons, List.length_nil, Nat.zero_add, Nat.reduceAdd, Nat.reduceSub, List.reduceReplicate, start,
    List.getElem?_cons_zero, List.getElem?_cons_succ, List.set_cons_zero, List.set_cons_succ, bnd_ret, bnd_assoc, bnd_grd, b1_if, bnd_ite, small, Nat.reduceLeDiff, grd_true, o_add, o_sub, o_neg, o_eq, o_ne, o_lt, o_le, o_gt, o_ge, o_eqS, o_neS,
    decide_eq_true_eq, reduceIte, decide_true, decide_false, Bool.not_true, Bool.not_false, Bool.false_eq_true, itemsOf, asInt, endOf, isTy,
    grd_tt, nx_int, nx_bool, nx_str, nx_none, nx_tup, nx_lst, x_isC, x_fld, x_in, x_count, x_lstR, x_tupR, x_raise, x_star, bnd_thr, noX_ret, fld_x, exn_d, eSetO, Out.clear, List.zip_cons_cons, List.zip_nil_left, List.zip_nil_right, s_asg, s_par, s_own, s_parO, s_put, s_expr, s_ret, s_skip, s_seq, s_rel, x_asg, x_par, x_own, x_parO, x_put, x_expr, x_ret, x_retN, x_skip, x_rel, x_app, x_setI, x_sIf, x_for, x_brk, x_cnt, b_lenT, b_lenL, b_tupL, b_tupT, b_max2, b_min2, o_addL, o_addT, cut_ints, sum_ints, s_chk, s_for, s_brk, s_cnt, s_retN, t_bool, g_rng, g_le, List.length_map, s_if, str_int hi2]
        refine fin _ (by simp) (by simp) (mem4 base fun d hd => ?_)
        · simp only [List.mem_cons, List.not_mem_nil, or_false] at hd
          rcases hd with rfl | rfl | rfl | rfl | rfl | rfl
          · exact (bd_int (u := u + 1) (by omega)).mono (Nat.le_refl _) (Nat.zero_le _) (Nat.zero_le _)
          · exact (bd_int (u := u + 1) (by omega)).mono (Nat.le_refl _) (Nat.zero_le _) (Nat.zero_le _)
          · exact q4 (by decide)
          · exact q4 (by decide)
          · have := size_int hi2
            exact (bd_str (asc_int i)).mono (Nat.le_refl _) (by omega) (Nat.zero_le _)
          · exact (bd_bool _).mono (Nat.zero_le _) (Nat.zero_le _) (Nat.zero_le _)
      | str x =>
        have ha : asc x = true := by
          have := h.lf
          unfold lf at this
          exact this
        have hz : x.cps.size ≤ n := by
          have := h.bulk
          unfold PyData.bulk at this
          exact this
        have hz2 : x.length ≤ n := hz
        have l1 : Str.length "x" = 1 := rfl
        have l2 : Str.length " " = 1 := rfl
        try simp (disch := omega) only [x_var, x_con, x_bin, x_neg, x_cmp, x_chain, x_tTru, x_tNot, x_tAnd, x_tOr, x_tBool, x_tYes, x_not, x_and, x_or, x_if, x_b1, x_b2, x_is, x_idx, x_oNone, x_oSome, x_cut, x_aNil, x_aCons, x_tup, x_lst, x_call, x_callS,
    x_iSeq, x_iRng1, x_iRng2, x_bor, x_tBor, x_put1, List.map_cons, List.map_nil, List.cons_append, List.nil_append, List.length_cons, List.length_nil, Nat.zero_add, Nat.reduceAdd, Nat.reduceSub, List.reduceReplicate, start,
    List.getElem?_cons_zero, List.getElem?_cons_succ, List.set_cons_zero, List.set_cons_succ, bnd_ret, bnd_assoc, bnd_grd, b1_if, bnd_ite, small, Nat.reduceLeDiff, grd_true, o_add, o_sub, o_neg, o_eq, o_ne, o_lt, o_le, o_gt, o_ge, o_eqS, o_neS,
    decide_eq_true_eq, reduceIte, decide_true, decide_false, Bool.not_true, Bool.not_false, Bool.false_eq_true, itemsOf, asInt, endOf, isTy,
    grd_tt, nx_int, nx_bool, nx_str, nx_none, nx_tup, nx_lst, x_isC, x_fld, x_in, x_count, x_lstR, x_tupR, x_raise, x_star, bnd_thr, noX_ret, fld_x, exn_d, eSetO, Out.clear, List.zip_cons_cons, List.zip_nil_left, List.zip_nil_right, s_asg, s_par, s_own, s_parO, s_put, s_expr, s_ret, s_skip, s_seq, s_rel, x_asg, x_par, x_own, x_parO, x_put, x_expr, x_ret, x_retN, x_skip, x_rel, x_app, x_setI, x_sIf, x_for, x_brk, x_cnt, b_lenT, b_lenL, b_tupL, b_tupT, b_max2, b_min2, o_addL, o_addT, cut_ints, sum_ints, s_chk, s_for, s_brk, s_cnt, s_retN, t_bool, g_rng, g_le, List.length_map, s_if, x_up, add_str, cutL_str, up_str, grd_pos]
        refine fin _ (by simp) (by simp) (mem4 base fun d hd => ?_)
        · simp only [List.mem_cons, List.not_mem_nil, or_false] at hd
          rcases hd with rfl | rfl | rfl | rfl | rfl
          · refine (bd_str (asc_app ha (by decide +kernel))).mono (Nat.le_refl _) ?_ (Nat.zero_le _)
            rw [size_app]
            have : (Str.ofString "x").cps.size = 1 := rfl
            omega
          · have := size_cut x (some 1) none
            exact (bd_str (asc_cut ha _ _)).mono (Nat.le_refl _) (by omega) (Nat.zero_le _)
          · obtain ⟨a1, a2⟩ := asc_up ha
            exact (bd_str a1).mono (Nat.le_refl _) (by omega) (Nat.zero_le _)
          · refine (bd_str (asc_app ha (by decide +kernel))).mono (Nat.le_refl _) ?_ (Nat.zero_le _)
            rw [size_app]
            have : (Str.ofString " ").cps.size = 1 := rfl
            omega
          · exact (bd_lst (bda_cons (bd_str ha) bda_nil)).mono (Nat.le_succ _) (by omega) (by omega)
      | tuple ds =>
        have hk : 1 ≤ k := by
          have := h.deep
          simp only [PyData.depth] at this
          omega
        obtain ⟨k', rfl⟩ : ∃ k', k = k' + 1 := ⟨k - 1, by omega⟩
        have hA := h.tupA
        have hl := hA.len
        have c1 : ∀ lo hi, (DL.cut ds lo hi).length ≤ n := fun lo hi => (hA.cut lo hi).len
        have c2 := c1 (some (-1)) none
        try simp (disch := omega) only [x_var, x_con, x_bin, x_neg, x_cmp, x_chain, x_tTru, x_tNot, x_tAnd, x_tOr, x_tBool, x_tYes, x_not, x_and, x_or, x_if, x_b1, x_b2, x_is, x_idx, x_oNone, x_oSome, x_cut, x_aNil, x_aCons, x_tup, x_lst, x_call, x_callS,
    x_iSeq, x_iRng1, x_iRng2, x_bor, x_tBor, x_put1, List.map_cons, List.map_nil, List.cons_append, List.nil_append, List.length_cons, List.length_nil, Nat.zero_add, Nat.reduceAdd, Nat.reduceSub, List.reduceReplicate, start,
    List.getElem?_cons_zero, List.getElem?_cons_succ, List.set_cons_zero, List.set_cons_succ, bnd_ret, bnd_assoc, bnd_grd, b1_if, bnd_ite, small, Nat.reduceLeDiff, grd_true, o_add, o_sub, o_neg, o_eq, o_ne, o_lt, o_le, o_gt, o_ge, o_eqS, o_neS,
    decide_eq_true_eq, reduceIte, decide_true, decide_false, Bool.not_true, Bool.not_false, Bool.false_eq_true, itemsOf, asInt, endOf, isTy,
    grd_tt, nx_int, nx_bool, nx_str, nx_none, nx_tup, nx_lst, x_isC, x_fld, x_in, x_count, x_lstR, x_tupR, x_raise, x_star, bnd_thr, noX_ret, fld_x, exn_d, eSetO, Out.clear, List.zip_cons_cons, List.zip_nil_left, List.zip_nil_right, s_asg, s_par, s_own, s_parO, s_put, s_expr, s_ret, s_skip, s_seq, s_rel, x_asg, x_par, x_own, x_parO, x_put, x_expr, x_ret, x_retN, x_skip, x_rel, x_app, x_setI, x_sIf, x_for, x_brk, x_cnt, b_lenT, b_lenL, b_tupL, b_tupT, b_max2, b_min2, o_addL, o_addT, cut_ints, sum_ints, s_chk, s_for, s_brk, s_cnt, s_retN, t_bool, g_rng, g_le, List.length_map, s_if, x_rev, list_tup, cutL_tup, add_tup, rev_tup, grd_pos]
        refine fin _ (by simp) (by simp) (mem4 base fun d hd => ?_)
        have up : ∀ {e : D} {m : Nat}, m ≤ 2 * n + 2 → Bd u m (k' + 2) e → bentQ u n (k' + 1) e := fun hm he => he.mono (Nat.le_succ _) (by omega) (by omega)
        · simp only [List.mem_cons, List.not_mem_nil, or_false] at hd
          rcases hd with rfl | rfl | rfl | rfl | rfl | rfl | rfl
          · exact up (m := n) (by omega) ((bd_lst hA).mono (Nat.le_refl _) (Nat.le_refl _) (by omega))
          · exact up (m := n) (by omega) ((bd_tup (hA.cut _ _)).mono (Nat.le_refl _) (Nat.le_refl _) (by omega))
          · exact up (m := n + n) (by omega) ((bd_tup (hA.app (hA.cut _ _))).mono (Nat.le_refl _) (Nat.le_refl _) (by omega))
          · exact up (m := n) (by omega) ((bd_tup hA.rev).mono (Nat.le_refl _) (Nat.le_refl _) (by omega))
          · exact up (m := n + 1) (by omega) ((bd_tup (bda_cons h bda_nil)).mono (Nat.le_refl _) (by omega) (by omega))
          · exact up (m := n + 1) (by omega) ((bd_tup (hA.app (bda_cons bd_none bda_nil))).mono (Nat.le_refl _) (by omega) (by omega))
          · exact up (m := n) (by omega) ((bd_tup (hA.cut _ _)).mono (Nat.le_refl _) (Nat.le_refl _) (by omega))
    have goal_of : ∀ o : Out, (match o with | .rt d => bentQ u n k d | .nx _ => bentQ u n k .none | _ => False) → (match o with | .rt d => Bd (u + 1) (2 * n + 60 + j) (max k 3 + 1 + j) d | .nx _ => Bd (u + 1) (2 * n + 60 + j) (max k 3 + 1 + j) .none | _ => False) := fun o ho => by
      have e : 2 * n + 60 ≤ 2 * n + 60 + j := by omega
      cases o with
      | rt d => exact Bd.mono ho (Nat.le_refl _) e (Nat.le_add_right _ _)
      | nx _ => exact Bd.mono ho (Nat.le_refl _) e (Nat.le_add_right _ _)
      | _ => exact ho
    have pw : ∀ (e3 : Ent) (t : Nat), 3 ≤ t → Ok _ t _ := fun e3 t ht => (plain_way e3).mono ht goal_of
    rw [s_if]
    simp only [x_var, x_con, x_bin, x_neg, x_cmp, x_chain, x_tTru, x_tNot, x_tAnd, x_tOr, x_tBool, x_tYes, x_not, x_and, x_or, x_if, x_b1, x_b2, x_is, x_idx, x_oNone, x_oSome, x_cut, x_aNil, x_aCons, x_tup, x_lst, x_call, x_callS,
    x_iSeq, x_iRng1, x_iRng2, x_bor, x_tBor, x_put1, List.map_cons, List.map_nil, List.cons_append, List.nil_append, List.length_cons, List.length_nil, Nat.zero_add, Nat.reduceAdd, Nat.reduceSub, List.reduceReplicate, start,
    List.getElem?_cons_zero, List.getElem?_cons_succ, List.set_cons_zero, List.set_cons_succ, bnd_ret, bnd_assoc, bnd_grd, b1_if, bnd_ite, small, Nat.reduceLeDiff, grd_true, o_add, o_sub, o_neg, o_eq, o_ne, o_lt, o_le, o_gt, o_ge, o_eqS, o_neS,
    decide_eq_true_eq, reduceIte, decide_true, decide_false, Bool.not_true, Bool.not_false, Bool.false_eq_true, itemsOf, asInt, bi2, endOf, isTy,
    grd_tt, nx_int, nx_bool, nx_str, nx_none, nx_tup, nx_lst, x_isC, x_fld, x_in, x_count, x_lstR, x_tupR, x_raise, x_star, bnd_thr, noX_ret, fld_x, exn_d, eSetO, Out.clear, List.zip_cons_cons, List.zip_nil_left, List.zip_nil_right, start, nx]
    by_cases hj0 : j = 0
    · subst hj0
      simp only [x_var, x_con, x_bin, x_neg, x_cmp, x_chain, x_tTru, x_tNot, x_tAnd, x_tOr, x_tBool, x_tYes, x_not, x_and, x_or, x_if, x_b1, x_b2, x_is, x_idx, x_oNone, x_oSome, x_cut, x_aNil, x_aCons, x_tup, x_lst, x_call, x_callS,
    x_iSeq, x_iRng1, x_iRng2, x_bor, x_tBor, x_put1, List.map_cons, List.map_nil, List.cons_append, List.nil_append, List.length_cons, List.length_nil, Nat.zero_add, Nat.reduceAdd, Nat.reduceSub, List.reduceReplicate, start,
    List.getElem?_cons_zero, List.getElem?_cons_succ, List.set_cons_zero, List.set_cons_succ, bnd_ret, bnd_assoc, bnd_grd, b1_if, bnd_ite, small, Nat.reduceLeDiff, grd_true, o_add, o_sub, o_neg, o_eq, o_ne, o_lt, o_le, o_gt, o_ge, o_eqS, o_neS,
    decide_eq_true_eq, reduceIte, decide_true, decide_false, Bool.not_true, Bool.not_false, Bool.false_eq_true, itemsOf, asInt, bi2, endOf, isTy,
    grd_tt, nx_int, nx_bool, nx_str, nx_none, nx_tup, nx_lst, x_isC, x_fld, x_in, x_count, x_lstR, x_tupR, x_raise, x_star, bnd_thr, noX_ret, fld_x, exn_d, eSetO, Out.clear, List.zip_cons_cons, List.zip_nil_left, List.zip_nil_right, s_skip]
      exact pw _ _ (by omega)
    · have hj1 : (0 : Int) < (j : Int) := by omega
      cases d with
      | tuple ds =>
        by_cases he : ds = []
        · subst he
          simp only [x_var, x_con, x_bin, x_neg, x_cmp, x_chain, x_tTru, x_tNot, x_tAnd, x_tOr, x_tBool, x_tYes, x_not, x_and, x_or, x_if, x_b1, x_b2, x_is, x_idx, x_oNone, x_oSome, x_cut, x_aNil, x_aCons, x_tup, x_lst, x_call, x_callS,
    x_iSeq, x_iRng1, x_iRng2, x_bor, x_tBor, x_put1, List.map_cons, List.map_nil, List.cons_append, List.nil_append, List.length_cons, List.length_nil, Nat.zero_add, Nat.reduceAdd, Nat.reduceSub, List.reduceReplicate, start,
    List.getElem?_cons_zero, List.getElem?_cons_succ, List.set_cons_zero, List.set_cons_succ, bnd_ret, bnd_assoc, bnd_grd, b1_if, bnd_ite, small, Nat.reduceLeDiff, grd_true, o_add, o_sub, o_neg, o_eq, o_ne, o_lt, o_le, o_gt, o_ge, o_eqS, o_neS,
    decide_eq_true_eq, reduceIte, decide_true, decide_false, Bool.not_true, Bool.not_false, Bool.false_eq_true, itemsOf, asInt, bi2, endOf, isTy,
    grd_tt, nx_int, nx_bool, nx_str, nx_none, nx_tup, nx_lst, x_isC, x_fld, x_in, x_count, x_lstR, x_tupR, x_raise, x_star, bnd_thr, noX_ret, fld_x, exn_d, eSetO, Out.clear, List.zip_cons_cons, List.zip_nil_left, List.zip_nil_right, s_skip, hj1, o_neNilT0, t_bool, List.isEmpty_nil]
          exact pw _ _ (by omega)
        · obtain ⟨j', rfl⟩ : ∃ j', j = j' + 1 := ⟨j - 1, by omega⟩
          have hk : 1 ≤ k := by
            have := h.deep
            simp only [PyData.depth] at this
            omega
          obtain ⟨k', rfl⟩ : ∃ k', k = k' + 1 := ⟨k - 1, by omega⟩
          have hA := h.tupA
          have hl := hA.len
          have ne : ds.isEmpty = false := by
            cases ds with
            | nil => exact absurd rfl he
            | cons _ _ => rfl
          have l0 : 0 < ds.length := List.length_pos_iff.mpr he
          simp only [x_var, x_con, x_bin, x_neg, x_cmp, x_chain, x_tTru, x_tNot, x_tAnd, x_tOr, x_tBool, x_tYes, x_not, x_and, x_or, x_if, x_b1, x_b2, x_is, x_idx, x_oNone, x_oSome, x_cut, x_aNil, x_aCons, x_tup, x_lst, x_call, x_callS,
    x_iSeq, x_iRng1, x_iRng2, x_bor, x_tBor, x_put1, List.map_cons, List.map_nil, List.cons_append, List.nil_append, List.length_cons, List.length_nil, Nat.zero_add, Nat.reduceAdd, Nat.reduceSub, List.reduceReplicate, start,
    List.getElem?_cons_zero, List.getElem?_cons_succ, List.set_cons_zero, List.set_cons_succ, bnd_ret, bnd_assoc, bnd_grd, b1_if, bnd_ite, small, Nat.reduceLeDiff, grd_true, o_add, o_sub, o_neg, o_eq, o_ne, o_lt, o_le, o_gt, o_ge, o_eqS, o_neS,
    decide_eq_true_eq, reduceIte, decide_true, decide_false, Bool.not_true, Bool.not_false, Bool.false_eq_true, itemsOf, asInt, bi2, endOf, isTy,
    grd_tt, nx_int, nx_bool, nx_str, nx_none, nx_tup, nx_lst, x_isC, x_fld, x_in, x_count, x_lstR, x_tupR, x_raise, x_star, bnd_thr, noX_ret, fld_x, exn_d, eSetO, Out.clear, List.zip_cons_cons, List.zip_nil_left, List.zip_nil_right, hj1, o_neNilT0, t_bool, ne]
          refine Ok.le (n := 5 + 2 * j' + 1) (Ok.drawB (by omega) (by omega) fun v v0 v1 => ?_) (by omega)
          simp only [x_var, x_con, x_bin, x_neg, x_cmp, x_chain, x_tTru, x_tNot, x_tAnd, x_tOr, x_tBool, x_tYes, x_not, x_and, x_or, x_if, x_b1, x_b2, x_is, x_idx, x_oNone, x_oSome, x_cut, x_aNil, x_aCons, x_tup, x_lst, x_call, x_callS,
    x_iSeq, x_iRng1, x_iRng2, x_bor, x_tBor, x_put1, List.map_cons, List.map_nil, List.cons_append, List.nil_append, List.length_cons, List.length_nil, Nat.zero_add, Nat.reduceAdd, Nat.reduceSub, List.reduceReplicate, start,
    List.getElem?_cons_zero, List.getElem?_cons_succ, List.set_cons_zero, List.set_cons_succ, bnd_ret, bnd_assoc, bnd_grd, b1_if, bnd_ite, small, Nat.reduceLeDiff, grd_true, o_add, o_sub, o_neg, o_eq, o_ne, o_lt, o_le, o_gt, o_ge, o_eqS, o_neS,
    decide_eq_true_eq, reduceIte, decide_true, decide_false, Bool.not_true, Bool.not_false, Bool.false_eq_true, itemsOf, asInt, bi2, endOf, isTy,
    grd_tt, nx_int, nx_bool, nx_str, nx_none, nx_tup, nx_lst, x_isC, x_fld, x_in, x_count, x_lstR, x_tupR, x_raise, x_star, bnd_thr, noX_ret, fld_x, exn_d, eSetO, Out.clear, List.zip_cons_cons, List.zip_nil_left, List.zip_nil_right]
          by_cases hv : 0 < v
          · rw [if_pos hv]
            try simp only [x_var, x_con, x_bin, x_neg, x_cmp, x_chain, x_tTru, x_tNot, x_tAnd, x_tOr, x_tBool, x_tYes, x_not, x_and, x_or, x_if, x_b1, x_b2, x_is, x_idx, x_oNone, x_oSome, x_cut, x_aNil, x_aCons, x_tup, x_lst, x_call, x_callS,
    x_iSeq, x_iRng1, x_iRng2, x_bor, x_tBor, x_put1, List.map_cons, List.map_nil, List.cons_append, List.nil_append, List.length_cons, List.length_nil, Nat.zero_add, Nat.reduceAdd, Nat.reduceSub, List.reduceReplicate, start,
    List.getElem?_cons_zero, List.getElem?_cons_succ, List.set_cons_zero, List.set_cons_succ, bnd_ret, bnd_assoc, bnd_grd, b1_if, bnd_ite, small, Nat.reduceLeDiff, grd_true, o_add, o_sub, o_neg, o_eq, o_ne, o_lt, o_le, o_gt, o_ge, o_eqS, o_neS,
    decide_eq_true_eq, reduceIte, decide_true, decide_false, Bool.not_true, Bool.not_false, Bool.false_eq_true, itemsOf, asInt, endOf, isTy,
    grd_tt, nx_int, nx_bool, nx_str, nx_none, nx_tup, nx_lst, x_isC, x_fld, x_in, x_count, x_lstR, x_tupR, x_raise, x_star, bnd_thr, noX_ret, fld_x, exn_d, eSetO, Out.clear, List.zip_cons_cons, List.zip_nil_left, List.zip_nil_right, s_asg, s_par, s_own, s_parO, s_put, s_expr, s_ret, s_skip, s_seq, s_rel, x_asg, x_par, x_own, x_parO, x_put, x_expr, x_ret, x_retN, x_skip, x_rel, x_app, x_setI, x_sIf, x_for, x_brk, x_cnt, b_lenT, b_lenL, b_tupL, b_tupT, b_max2, b_min2, o_addL, o_addT, cut_ints, sum_ints, s_chk, s_for, s_brk, s_cnt, s_retN, t_bool, g_rng, g_le, List.length_map]
            refine Ok.le (n := 4 + 2 * j' + 1) (Ok.drawB (by omega) (by omega) fun i i0 i1 => ?_) (by omega)
            try simp only [x_var, x_con, x_bin, x_neg, x_cmp, x_chain, x_tTru, x_tNot, x_tAnd, x_tOr, x_tBool, x_tYes, x_not, x_and, x_or, x_if, x_b1, x_b2, x_is, x_idx, x_oNone, x_oSome, x_cut, x_aNil, x_aCons, x_tup, x_lst, x_call, x_callS,
    x_iSeq, x_iRng1, x_iRng2, x_bor, x_tBor, x_put1, List.map_cons, List.map_nil, List.cons_append, List.nil_append, List.length_cons, List.length_nil, Nat.zero_add, Nat.reduceAdd, Nat.reduceSub, List.reduceReplicate, start,
    List.getElem?_cons_zero, List.getElem?_cons_succ, List.set_cons_zero, List.set_cons_succ, bnd_ret, bnd_assoc, bnd_grd, b1_if, bnd_ite, small, Nat.reduceLeDiff, grd_true, o_add, o_sub, o_neg, o_eq, o_ne, o_lt, o_le, o_gt, o_ge, o_eqS, o_neS,
    decide_eq_true_eq, reduceIte, decide_true, decide_false, Bool.not_true, Bool.not_false, Bool.false_eq_true, itemsOf, asInt, endOf, isTy,
    grd_tt, nx_int, nx_bool, nx_str, nx_none, nx_tup, nx_lst, x_isC, x_fld, x_in, x_count, x_lstR, x_tupR, x_raise, x_star, bnd_thr, noX_ret, fld_x, exn_d, eSetO, Out.clear, List.zip_cons_cons, List.zip_nil_left, List.zip_nil_right, s_asg, s_par, s_own, s_parO, s_put, s_expr, s_ret, s_skip, s_seq, s_rel, x_asg, x_par, x_own, x_parO, x_put, x_expr, x_ret, x_retN, x_skip, x_rel, x_app, x_setI, x_sIf, x_for, x_brk, x_cnt, b_lenT, b_lenL, b_tupL, b_tupT, b_max2, b_min2, o_addL, o_addT, cut_ints, sum_ints, s_chk, s_for, s_brk, s_cnt, s_retN, t_bool, g_rng, g_le, List.length_map, cutL_tup, add_tup]
            rw [idx_tup i0 i1]
            have hx := hA.mem (List.getElem_mem (l := ds) (n := i.toNat) (by omega))
            try simp only [x_var, x_con, x_bin, x_neg, x_cmp, x_chain, x_tTru, x_tNot, x_tAnd, x_tOr, x_tBool, x_tYes, x_not, x_and, x_or, x_if, x_b1, x_b2, x_is, x_idx, x_oNone, x_oSome, x_cut, x_aNil, x_aCons, x_tup, x_lst, x_call, x_callS,
    x_iSeq, x_iRng1, x_iRng2, x_bor, x_tBor, x_put1, List.map_cons, List.map_nil, List.cons_append, List.nil_append, List.length_cons, List.length_nil, Nat.zero_add, Nat.reduceAdd, Nat.reduceSub, List.reduceReplicate, start,
    List.getElem?_cons_zero, List.getElem?_cons_succ, List.set_cons_zero, List.set_cons_succ, bnd_ret, bnd_assoc, bnd_grd, b1_if, bnd_ite, small, Nat.reduceLeDiff, grd_true, o_add, o_sub, o_neg, o_eq, o_ne, o_lt, o_le, o_gt, o_ge, o_eqS, o_neS,
    decide_eq_true_eq, reduceIte, decide_true, decide_false, Bool.not_true, Bool.not_false, Bool.false_eq_true, itemsOf, asInt, endOf, isTy,
    grd_tt, nx_int, nx_bool, nx_str, nx_none, nx_tup, nx_lst, x_isC, x_fld, x_in, x_count, x_lstR, x_tupR, x_raise, x_star, bnd_thr, noX_ret, fld_x, exn_d, eSetO, Out.clear, List.zip_cons_cons, List.zip_nil_left, List.zip_nil_right, s_asg, s_par, s_own, s_parO, s_put, s_expr, s_ret, s_skip, s_seq, s_rel, x_asg, x_par, x_own, x_parO, x_put, x_expr, x_ret, x_retN, x_skip, x_rel, x_app, x_setI, x_sIf, x_for, x_brk, x_cnt, b_lenT, b_lenL, b_tupL, b_tupT, b_max2, b_min2, o_addL, o_addT, cut_ints, sum_ints, s_chk, s_for, s_brk, s_cnt, s_retN, t_bool, g_rng, g_le, List.length_map]
            rw [show ((j' + 1 : Nat) : Int) - 1 = (j' : Int) by omega]
            have hxb : PyData.bulk ds[i.toNat] ≤ n := hx.bulk
            have hx2 : Bd u (PyData.bulk ds[i.toNat]) k' ds[i.toNat] := ⟨hx.lf, Nat.le_refl _, hx.deep⟩
            refine Ok.bnd' (4 + 2 * j') (ih j' (by omega) hu (by omega) hx2) (Nat.le_refl _) fun r hr => ?_
            have b1 := hA.cut none (some i)
            have b2 := hA.cut (some (i + 1)) none
            have c1 := b1.len
            have c2 := b2.len
            repeat refine Ok.grd (by first | omega | (simp only [List.length_append, List.length_cons, List.length_nil]; omega)) ?_
            refine Ok.ret ?_
            have h3 := (b1.mono (Nat.le_succ u) (Nat.le_refl _) (Nat.le_refl _)).app (bda_cons hr bda_nil)
            have h4 := bd_tup (h3.app (b2.mono (Nat.le_succ u) (Nat.le_refl _) (Nat.le_refl _)))
            refine ⟨h4.lf, ?_, ?_⟩
            · have e : PyData.bulk (.tuple (DL.cut ds none (some i) ++ [r] ++ DL.cut ds (some (i + 1)) none)) + PyData.bulk ds[i.toNat] = PyData.bulkAll ds + PyData.bulk r := by
                simp only [PyData.bulk]
                have e1 : ds = ds.take i.toNat ++ ds[i.toNat] :: ds.drop (i.toNat + 1) := by
                  rw [← List.drop_eq_getElem_cons, List.take_append_drop]
                rw [cutN_upto i0, cutN_from (by omega) (by omega), show (i + 1).toNat = i.toNat + 1 by omega]
                have e2 := congrArg PyData.bulkAll e1
                rw [bulkA_app] at e2
                simp only [PyData.bulkAll] at e2
                rw [bulkA_app, bulkA_app]
                simp only [PyData.bulkAll]
                omega
              have b0 := hA.bulk
              have br := hr.bulk
              omega
            · have := h4.deep
              omega
          · rw [if_neg hv, s_skip]
            exact pw _ _ (by omega)
      | _ =>
        simp only [x_var, x_con, x_bin, x_neg, x_cmp, x_chain, x_tTru, x_tNot, x_tAnd, x_tOr, x_tBool, x_tYes, x_not, x_and, x_or, x_if, x_b1, x_b2, x_is, x_idx, x_oNone, x_oSome, x_cut, x_aNil, x_aCons, x_tup, x_lst, x_call, x_callS,
    x_iSeq, x_iRng1, x_iRng2, x_bor, x_tBor, x_put1, List.map_cons, List.map_nil, List.cons_append, List.nil_append, List.length_cons, List.length_nil, Nat.zero_add, Nat.reduceAdd, Nat.reduceSub, List.reduceReplicate, start,
    List.getElem?_cons_zero, List.getElem?_cons_succ, List.set_cons_zero, List.set_cons_succ, bnd_ret, bnd_assoc, bnd_grd, b1_if, bnd_ite, small, Nat.reduceLeDiff, grd_true, o_add, o_sub, o_neg, o_eq, o_ne, o_lt, o_le, o_gt, o_ge, o_eqS, o_neS,
    decide_eq_true_eq, reduceIte, decide_true, decide_false, Bool.not_true, Bool.not_false, Bool.false_eq_true, itemsOf, asInt, bi2, endOf, isTy,
    grd_tt, nx_int, nx_bool, nx_str, nx_none, nx_tup, nx_lst, x_isC, x_fld, x_in, x_count, x_lstR, x_tupR, x_raise, x_star, bnd_thr, noX_ret, fld_x, exn_d, eSetO, Out.clear, List.zip_cons_cons, List.zip_nil_left, List.zip_nil_right, s_skip, hj1, t_bool]
        exact pw _ _ (by omega)
theorem bent_2 {j : Nat} {u n k : Nat} {d : D} (hj : j < 6) (hu : u ≤ 900) (hn : n ≤ 100000) (h : Bd u n k d) : Ok (w__law_bent_0 [d, .int j]) (4 + 2 * j) (Bd (u + 1) (2 * n + 60 + j) (max k 3 + 1 + j)) := bent_ok 6 j hj hu hn h
theorem bent_0 {j : Nat} {u n k : Nat} {d : D} (hj : j < 6) (hu : u ≤ 900) (hn : n ≤ 100000) (h : Bd u n k d) : Ok (w__law_bent_0 [d, .int j]) (4 + 2 * j) (Bd (u + 1) ((2 + j) * n + 60 + j) (max k 3 + 1 + j)) :=
  (bent_2 hj hu hn h).mono (Nat.le_refl _) fun d hd => hd.mono (Nat.le_refl _) (by rw [Nat.add_mul]; omega) (Nat.le_refl _)
end DL
end
section
namespace DL
open PySem
theorem o_isN (d : D) : opCmp .isN d .none = ret (isNone d) := isN_none d
theorem o_notN (d : D) : opCmp .notN d .none = ret (!isNone d) := notN_none d
def firstBad : List D → Nat → D
  | [], _ => .none
  | d :: ds, i => if intIn 1 60 d = true then firstBad ds (i + 1) else .tuple [.int i, .str "length"]
def rowErr : D → D
  | .tuple ds => if ds.length = 0 ∨ 24 < ds.length then .tuple [.none, .str "row"] else firstBad ds 0
  | _ => .tuple [.none, .str "row"]
theorem lfA_nx {u : Nat} {ds : List D} (h : lfAll u ds = true) : ∀ d ∈ ds, noXn d = true := by
  intro d hd
  have : BdA u (PyData.bulkAll ds) (PyData.depthAll ds) ds := ⟨h, Nat.le_refl _, Nat.le_refl _⟩
  exact (this.mem hd).nx
theorem is_length_d {d : D} (h : noXn d = true) : w_is_length_0 [d] = ret (.bool (intIn 1 60 d)) := by
  unfold w_is_length_0
  refine (f_fn (by rfl)).trans ?_
  try simp only [x_var, x_con, x_bin, x_neg, x_cmp, x_chain, x_tTru, x_tNot, x_tAnd, x_tOr, x_tBool, x_tYes, x_not, x_and, x_or, x_if, x_b1, x_b2, x_is, x_idx, x_oNone, x_oSome, x_cut, x_aNil, x_aCons, x_tup, x_lst, x_call, x_callS,
    x_iSeq, x_iRng1, x_iRng2, x_bor, x_tBor, x_put1, List.map_cons, List.map_nil, List.cons_append, List.nil_append, List.length_cons, List.length_nil, Nat.zero_add, Nat.reduceAdd, Nat.reduceSub, List.reduceReplicate, start,
    List.getElem?_cons_zero, List.getElem?_cons_succ, List.set_cons_zero, List.set_cons_succ, bnd_ret, bnd_assoc, bnd_grd, b1_if, bnd_ite, small, Nat.reduceLeDiff, grd_true, o_add, o_sub, o_neg, o_eq, o_ne, o_lt, o_le, o_gt, o_ge, o_eqS, o_neS,
    decide_eq_true_eq, reduceIte, decide_true, decide_false, Bool.not_true, Bool.not_false, Bool.false_eq_true, itemsOf, asInt, endOf, isTy,
    grd_tt, nx_int, nx_bool, nx_str, nx_none, nx_tup, nx_lst, x_isC, x_fld, x_in, x_count, x_lstR, x_tupR, x_raise, x_star, bnd_thr, noX_ret, fld_x, exn_d, eSetO, Out.clear, List.zip_cons_cons, List.zip_nil_left, List.zip_nil_right, s_asg, s_par, s_own, s_parO, s_put, s_expr, s_ret, s_skip, s_seq, s_rel, x_asg, x_par, x_own, x_parO, x_put, x_expr, x_ret, x_retN, x_skip, x_rel, x_app, x_setI, x_sIf, x_for, x_brk, x_cnt, b_lenT, b_lenL, b_tupL, b_tupT, b_max2, b_min2, o_addL, o_addT, cut_ints, sum_ints, s_chk, s_for, s_brk, s_cnt, s_retN, t_bool, g_rng, g_le, List.length_map, is_integer_d h]
theorem err_loop {e0 : Ent} : ∀ (ds : List D) (i : Nat) (e1 e2 : Ent), (∀ d ∈ ds, noXn d = true) → ∃ o, forL (.tp [1, 2]) (sIf (tNot (tTru (eCall w_is_length_0 (aCons (eVar 2) (aNil))))) (sRet (eTup (aCons (eVar 1) (aCons (eCon (.str "length")) (aNil))))) (sSkip)) (pairs i ds) [e0, e1, e2] = ret o ∧
    ((∃ e1' e2', o = .nx [e0, e1', e2'] ∧ firstBad ds i = .none) ∨ o = .rt (firstBad ds i))
  | [], i, e1, e2, _ => ⟨_, rfl, .inl ⟨e1, e2, rfl, rfl⟩⟩
  | d :: ds, i, e1, e2, h => by
    show ∃ o, forL _ _ (.tuple [.int (i : Int), d] :: pairs ((i : Int) + 1) ds) _ = _ ∧ _
    rw [x_forc]
    try simp only [x_var, x_con, x_bin, x_neg, x_cmp, x_chain, x_tTru, x_tNot, x_tAnd, x_tOr, x_tBool, x_tYes, x_not, x_and, x_or, x_if, x_b1, x_b2, x_is, x_idx, x_oNone, x_oSome, x_cut, x_aNil, x_aCons, x_tup, x_lst, x_call, x_callS,
    x_iSeq, x_iRng1, x_iRng2, x_bor, x_tBor, x_put1, List.map_cons, List.map_nil, List.cons_append, List.nil_append, List.length_cons, List.length_nil, Nat.zero_add, Nat.reduceAdd, Nat.reduceSub, List.reduceReplicate, start,
    List.getElem?_cons_zero, List.getElem?_cons_succ, List.set_cons_zero, List.set_cons_succ, bnd_ret, bnd_assoc, bnd_grd, b1_if, bnd_ite, small, Nat.reduceLeDiff, grd_true, o_add, o_sub, o_neg, o_eq, o_ne, o_lt, o_le, o_gt, o_ge, o_eqS, o_neS,
    decide_eq_true_eq, reduceIte, decide_true, decide_false, Bool.not_true, Bool.not_false, Bool.false_eq_true, itemsOf, asInt, endOf, isTy,
    grd_tt, nx_int, nx_bool, nx_str, nx_none, nx_tup, nx_lst, x_isC, x_fld, x_in, x_count, x_lstR, x_tupR, x_raise, x_star, bnd_thr, noX_ret, fld_x, exn_d, eSetO, Out.clear, List.zip_cons_cons, List.zip_nil_left, List.zip_nil_right, s_asg, s_par, s_own, s_parO, s_put, s_expr, s_ret, s_skip, s_seq, s_rel, x_asg, x_par, x_own, x_parO, x_put, x_expr, x_ret, x_retN, x_skip, x_rel, x_app, x_setI, x_sIf, x_for, x_brk, x_cnt, b_lenT, b_lenL, b_tupL, b_tupT, b_max2, b_min2, o_addL, o_addT, cut_ints, sum_ints, s_chk, s_for, s_brk, s_cnt, s_retN, t_bool, g_rng, g_le, List.length_map, Tg.put, setAll, is_length_d (h d (.head _)), t_bool]
    unfold firstBad
    cases hd : intIn 1 60 d with
    | true =>
      try simp only [x_var, x_con, x_bin, x_neg, x_cmp, x_chain, x_tTru, x_tNot, x_tAnd, x_tOr, x_tBool, x_tYes, x_not, x_and, x_or, x_if, x_b1, x_b2, x_is, x_idx, x_oNone, x_oSome, x_cut, x_aNil, x_aCons, x_tup, x_lst, x_call, x_callS,
    x_iSeq, x_iRng1, x_iRng2, x_bor, x_tBor, x_put1, List.map_cons, List.map_nil, List.cons_append, List.nil_append, List.length_cons, List.length_nil, Nat.zero_add, Nat.reduceAdd, Nat.reduceSub, List.reduceReplicate, start,
    List.getElem?_cons_zero, List.getElem?_cons_succ, List.set_cons_zero, List.set_cons_succ, bnd_ret, bnd_assoc, bnd_grd, b1_if, bnd_ite, small, Nat.reduceLeDiff, grd_true, o_add, o_sub, o_neg, o_eq, o_ne, o_lt, o_le, o_gt, o_ge, o_eqS, o_neS,
    decide_eq_true_eq, reduceIte, decide_true, decide_false, Bool.not_true, Bool.not_false, Bool.false_eq_true, itemsOf, asInt, endOf, isTy,
    grd_tt, nx_int, nx_bool, nx_str, nx_none, nx_tup, nx_lst, x_isC, x_fld, x_in, x_count, x_lstR, x_tupR, x_raise, x_star, bnd_thr, noX_ret, fld_x, exn_d, eSetO, Out.clear, List.zip_cons_cons, List.zip_nil_left, List.zip_nil_right, s_asg, s_par, s_own, s_parO, s_put, s_expr, s_ret, s_skip, s_seq, s_rel, x_asg, x_par, x_own, x_parO, x_put, x_expr, x_ret, x_retN, x_skip, x_rel, x_app, x_setI, x_sIf, x_for, x_brk, x_cnt, b_lenT, b_lenL, b_tupL, b_tupT, b_max2, b_min2, o_addL, o_addT, cut_ints, sum_ints, s_chk, s_for, s_brk, s_cnt, s_retN, t_bool, g_rng, g_le, List.length_map]
      have := err_loop (e0 := e0) ds (i + 1) (.val (.int i)) (.val d) fun x hx => h x (.tail _ hx)
      rw [Int.natCast_add] at this
      exact this
    | false =>
      try simp only [x_var, x_con, x_bin, x_neg, x_cmp, x_chain, x_tTru, x_tNot, x_tAnd, x_tOr, x_tBool, x_tYes, x_not, x_and, x_or, x_if, x_b1, x_b2, x_is, x_idx, x_oNone, x_oSome, x_cut, x_aNil, x_aCons, x_tup, x_lst, x_call, x_callS,
    x_iSeq, x_iRng1, x_iRng2, x_bor, x_tBor, x_put1, List.map_cons, List.map_nil, List.cons_append, List.nil_append, List.length_cons, List.length_nil, Nat.zero_add, Nat.reduceAdd, Nat.reduceSub, List.reduceReplicate, start,
    List.getElem?_cons_zero, List.getElem?_cons_succ, List.set_cons_zero, List.set_cons_succ, bnd_ret, bnd_assoc, bnd_grd, b1_if, bnd_ite, small, Nat.reduceLeDiff, grd_true, o_add, o_sub, o_neg, o_eq, o_ne, o_lt, o_le, o_gt, o_ge, o_eqS, o_neS,
    decide_eq_true_eq, reduceIte, decide_true, decide_false, Bool.not_true, Bool.not_false, Bool.false_eq_true, itemsOf, asInt, endOf, isTy,
    grd_tt, nx_int, nx_bool, nx_str, nx_none, nx_tup, nx_lst, x_isC, x_fld, x_in, x_count, x_lstR, x_tupR, x_raise, x_star, bnd_thr, noX_ret, fld_x, exn_d, eSetO, Out.clear, List.zip_cons_cons, List.zip_nil_left, List.zip_nil_right, s_asg, s_par, s_own, s_parO, s_put, s_expr, s_ret, s_skip, s_seq, s_rel, x_asg, x_par, x_own, x_parO, x_put, x_expr, x_ret, x_retN, x_skip, x_rel, x_app, x_setI, x_sIf, x_for, x_brk, x_cnt, b_lenT, b_lenL, b_tupL, b_tupT, b_max2, b_min2, o_addL, o_addT, cut_ints, sum_ints, s_chk, s_for, s_brk, s_cnt, s_retN, t_bool, g_rng, g_le, List.length_map]
      exact ⟨_, rfl, .inr rfl⟩
theorem row_error_d {u : Nat} {d : D} (h : lf u d = true) : w_row_error_0 [d] = ret (rowErr d) := by
  unfold w_row_error_0
  refine (f_fn (by rfl)).trans ?_
  have nx := nx_plain (lf_plain h)
  cases d with
  | tuple ds =>
    have hA : lfAll u ds = true := by unfold lf at h; exact h
    try simp only [x_var, x_con, x_bin, x_neg, x_cmp, x_chain, x_tTru, x_tNot, x_tAnd, x_tOr, x_tBool, x_tYes, x_not, x_and, x_or, x_if, x_b1, x_b2, x_is, x_idx, x_oNone, x_oSome, x_cut, x_aNil, x_aCons, x_tup, x_lst, x_call, x_callS,
    x_iSeq, x_iRng1, x_iRng2, x_bor, x_tBor, x_put1, List.map_cons, List.map_nil, List.cons_append, List.nil_append, List.length_cons, List.length_nil, Nat.zero_add, Nat.reduceAdd, Nat.reduceSub, List.reduceReplicate, start,
    List.getElem?_cons_zero, List.getElem?_cons_succ, List.set_cons_zero, List.set_cons_succ, bnd_ret, bnd_assoc, bnd_grd, b1_if, bnd_ite, small, Nat.reduceLeDiff, grd_true, o_add, o_sub, o_neg, o_eq, o_ne, o_lt, o_le, o_gt, o_ge, o_eqS, o_neS,
    decide_eq_true_eq, reduceIte, decide_true, decide_false, Bool.not_true, Bool.not_false, Bool.false_eq_true, itemsOf, asInt, endOf, isTy,
    grd_tt, nx_int, nx_bool, nx_str, nx_none, nx_tup, nx_lst, x_isC, x_fld, x_in, x_count, x_lstR, x_tupR, x_raise, x_star, bnd_thr, noX_ret, fld_x, exn_d, eSetO, Out.clear, List.zip_cons_cons, List.zip_nil_left, List.zip_nil_right, s_asg, s_par, s_own, s_parO, s_put, s_expr, s_ret, s_skip, s_seq, s_rel, x_asg, x_par, x_own, x_parO, x_put, x_expr, x_ret, x_retN, x_skip, x_rel, x_app, x_setI, x_sIf, x_for, x_brk, x_cnt, b_lenT, b_lenL, b_tupL, b_tupT, b_max2, b_min2, o_addL, o_addT, cut_ints, sum_ints, s_chk, s_for, s_brk, s_cnt, s_retN, t_bool, g_rng, g_le, List.length_map, t_bool]
    unfold rowErr
    by_cases h0 : 1 ≤ ds.length
    · by_cases h1 : ds.length ≤ 24
      · simp only [show (1 : Int) ≤ (ds.length : Int) by omega, show (ds.length : Int) ≤ 24 by omega, x_var, x_con, x_bin, x_neg, x_cmp, x_chain, x_tTru, x_tNot, x_tAnd, x_tOr, x_tBool, x_tYes, x_not, x_and, x_or, x_if, x_b1, x_b2, x_is, x_idx, x_oNone, x_oSome, x_cut, x_aNil, x_aCons, x_tup, x_lst, x_call, x_callS,
    x_iSeq, x_iRng1, x_iRng2, x_bor, x_tBor, x_put1, List.map_cons, List.map_nil, List.cons_append, List.nil_append, List.length_cons, List.length_nil, Nat.zero_add, Nat.reduceAdd, Nat.reduceSub, List.reduceReplicate, start,
    List.getElem?_cons_zero, List.getElem?_cons_succ, List.set_cons_zero, List.set_cons_succ, bnd_ret, bnd_assoc, bnd_grd, b1_if, bnd_ite, small, Nat.reduceLeDiff, grd_true, o_add, o_sub, o_neg, o_eq, o_ne, o_lt, o_le, o_gt, o_ge, o_eqS, o_neS,
    decide_eq_true_eq, reduceIte, decide_true, decide_false, Bool.not_true, Bool.not_false, Bool.false_eq_true, itemsOf, asInt, endOf, isTy,
    grd_tt, nx_int, nx_bool, nx_str, nx_none, nx_tup, nx_lst, x_isC, x_fld, x_in, x_count, x_lstR, x_tupR, x_raise, x_star, bnd_thr, noX_ret, fld_x, exn_d, eSetO, Out.clear, List.zip_cons_cons, List.zip_nil_left, List.zip_nil_right, s_asg, s_par, s_own, s_parO, s_put, s_expr, s_ret, s_skip, s_seq, s_rel, x_asg, x_par, x_own, x_parO, x_put, x_expr, x_ret, x_retN, x_skip, x_rel, x_app, x_setI, x_sIf, x_for, x_brk, x_cnt, b_lenT, b_lenL, b_tupL, b_tupT, b_max2, b_min2, o_addL, o_addT, cut_ints, sum_ints, s_chk, s_for, s_brk, s_cnt, s_retN, t_bool, g_rng, g_le, List.length_map, x_iEnumC]
        rw [if_neg (by omega)]
        obtain ⟨o, e1, e2⟩ := err_loop (e0 := .val (.tuple ds)) ds 0 .unk .unk (lfA_nx hA)
        simp only [Int.natCast_zero] at e1
        rw [grd_pos (by decide), e1]
        rcases e2 with ⟨e1', e2', rfl, q⟩ | rfl
        · try simp only [x_var, x_con, x_bin, x_neg, x_cmp, x_chain, x_tTru, x_tNot, x_tAnd, x_tOr, x_tBool, x_tYes, x_not, x_and, x_or, x_if, x_b1, x_b2, x_is, x_idx, x_oNone, x_oSome, x_cut, x_aNil, x_aCons, x_tup, x_lst, x_call, x_callS,
    x_iSeq, x_iRng1, x_iRng2, x_bor, x_tBor, x_put1, List.map_cons, List.map_nil, List.cons_append, List.nil_append, List.length_cons, List.length_nil, Nat.zero_add, Nat.reduceAdd, Nat.reduceSub, List.reduceReplicate, start,
    List.getElem?_cons_zero, List.getElem?_cons_succ, List.set_cons_zero, List.set_cons_succ, bnd_ret, bnd_assoc, bnd_grd, b1_if, bnd_ite, small, Nat.reduceLeDiff, grd_true, o_add, o_sub, o_neg, o_eq, o_ne, o_lt, o_le, o_gt, o_ge, o_eqS, o_neS,
    decide_eq_true_eq, reduceIte, decide_true, decide_false, Bool.not_true, Bool.not_false, Bool.false_eq_true, itemsOf, asInt, endOf, isTy,
    grd_tt, nx_int, nx_bool, nx_str, nx_none, nx_tup, nx_lst, x_isC, x_fld, x_in, x_count, x_lstR, x_tupR, x_raise, x_star, bnd_thr, noX_ret, fld_x, exn_d, eSetO, Out.clear, List.zip_cons_cons, List.zip_nil_left, List.zip_nil_right, s_asg, s_par, s_own, s_parO, s_put, s_expr, s_ret, s_skip, s_seq, s_rel, x_asg, x_par, x_own, x_parO, x_put, x_expr, x_ret, x_retN, x_skip, x_rel, x_app, x_setI, x_sIf, x_for, x_brk, x_cnt, b_lenT, b_lenL, b_tupL, b_tupT, b_max2, b_min2, o_addL, o_addT, cut_ints, sum_ints, s_chk, s_for, s_brk, s_cnt, s_retN, t_bool, g_rng, g_le, List.length_map]
          rw [q]
        · try simp only [x_var, x_con, x_bin, x_neg, x_cmp, x_chain, x_tTru, x_tNot, x_tAnd, x_tOr, x_tBool, x_tYes, x_not, x_and, x_or, x_if, x_b1, x_b2, x_is, x_idx, x_oNone, x_oSome, x_cut, x_aNil, x_aCons, x_tup, x_lst, x_call, x_callS,
    x_iSeq, x_iRng1, x_iRng2, x_bor, x_tBor, x_put1, List.map_cons, List.map_nil, List.cons_append, List.nil_append, List.length_cons, List.length_nil, Nat.zero_add, Nat.reduceAdd, Nat.reduceSub, List.reduceReplicate, start,
    List.getElem?_cons_zero, List.getElem?_cons_succ, List.set_cons_zero, List.set_cons_succ, bnd_ret, bnd_assoc, bnd_grd, b1_if, bnd_ite, small, Nat.reduceLeDiff, grd_true, o_add, o_sub, o_neg, o_eq, o_ne, o_lt, o_le, o_gt, o_ge, o_eqS, o_neS,
    decide_eq_true_eq, reduceIte, decide_true, decide_false, Bool.not_true, Bool.not_false, Bool.false_eq_true, itemsOf, asInt, endOf, isTy,
    grd_tt, nx_int, nx_bool, nx_str, nx_none, nx_tup, nx_lst, x_isC, x_fld, x_in, x_count, x_lstR, x_tupR, x_raise, x_star, bnd_thr, noX_ret, fld_x, exn_d, eSetO, Out.clear, List.zip_cons_cons, List.zip_nil_left, List.zip_nil_right, s_asg, s_par, s_own, s_parO, s_put, s_expr, s_ret, s_skip, s_seq, s_rel, x_asg, x_par, x_own, x_parO, x_put, x_expr, x_ret, x_retN, x_skip, x_rel, x_app, x_setI, x_sIf, x_for, x_brk, x_cnt, b_lenT, b_lenL, b_tupL, b_tupT, b_max2, b_min2, o_addL, o_addT, cut_ints, sum_ints, s_chk, s_for, s_brk, s_cnt, s_retN, t_bool, g_rng, g_le, List.length_map]
      · simp only [show (1 : Int) ≤ (ds.length : Int) by omega, show ¬ (ds.length : Int) ≤ 24 by omega, x_var, x_con, x_bin, x_neg, x_cmp, x_chain, x_tTru, x_tNot, x_tAnd, x_tOr, x_tBool, x_tYes, x_not, x_and, x_or, x_if, x_b1, x_b2, x_is, x_idx, x_oNone, x_oSome, x_cut, x_aNil, x_aCons, x_tup, x_lst, x_call, x_callS,
    x_iSeq, x_iRng1, x_iRng2, x_bor, x_tBor, x_put1, List.map_cons, List.map_nil, List.cons_append, List.nil_append, List.length_cons, List.length_nil, Nat.zero_add, Nat.reduceAdd, Nat.reduceSub, List.reduceReplicate, start,
    List.getElem?_cons_zero, List.getElem?_cons_succ, List.set_cons_zero, List.set_cons_succ, bnd_ret, bnd_assoc, bnd_grd, b1_if, bnd_ite, small, Nat.reduceLeDiff, grd_true, o_add, o_sub, o_neg, o_eq, o_ne, o_lt, o_le, o_gt, o_ge, o_eqS, o_neS,
    decide_eq_true_eq, reduceIte, decide_true, decide_false, Bool.not_true, Bool.not_false, Bool.false_eq_true, itemsOf, asInt, endOf, isTy,
    grd_tt, nx_int, nx_bool, nx_str, nx_none, nx_tup, nx_lst, x_isC, x_fld, x_in, x_count, x_lstR, x_tupR, x_raise, x_star, bnd_thr, noX_ret, fld_x, exn_d, eSetO, Out.clear, List.zip_cons_cons, List.zip_nil_left, List.zip_nil_right, s_asg, s_par, s_own, s_parO, s_put, s_expr, s_ret, s_skip, s_seq, s_rel, x_asg, x_par, x_own, x_parO, x_put, x_expr, x_ret, x_retN, x_skip, x_rel, x_app, x_setI, x_sIf, x_for, x_brk, x_cnt, b_lenT, b_lenL, b_tupL, b_tupT, b_max2, b_min2, o_addL, o_addT, cut_ints, sum_ints, s_chk, s_for, s_brk, s_cnt, s_retN, t_bool, g_rng, g_le, List.length_map]
        rw [if_pos (by omega)]
    · simp only [show ¬ (1 : Int) ≤ (ds.length : Int) by omega, x_var, x_con, x_bin, x_neg, x_cmp, x_chain, x_tTru, x_tNot, x_tAnd, x_tOr, x_tBool, x_tYes, x_not, x_and, x_or, x_if, x_b1, x_b2, x_is, x_idx, x_oNone, x_oSome, x_cut, x_aNil, x_aCons, x_tup, x_lst, x_call, x_callS,
    x_iSeq, x_iRng1, x_iRng2, x_bor, x_tBor, x_put1, List.map_cons, List.map_nil, List.cons_append, List.nil_append, List.length_cons, List.length_nil, Nat.zero_add, Nat.reduceAdd, Nat.reduceSub, List.reduceReplicate, start,
    List.getElem?_cons_zero, List.getElem?_cons_succ, List.set_cons_zero, List.set_cons_succ, bnd_ret, bnd_assoc, bnd_grd, b1_if, bnd_ite, small, Nat.reduceLeDiff, grd_true, o_add, o_sub, o_neg, o_eq, o_ne, o_lt, o_le, o_gt, o_ge, o_eqS, o_neS,
    decide_eq_true_eq, reduceIte, decide_true, decide_false, Bool.not_true, Bool.not_false, Bool.false_eq_true, itemsOf, asInt, endOf, isTy,
    grd_tt, nx_int, nx_bool, nx_str, nx_none, nx_tup, nx_lst, x_isC, x_fld, x_in, x_count, x_lstR, x_tupR, x_raise, x_star, bnd_thr, noX_ret, fld_x, exn_d, eSetO, Out.clear, List.zip_cons_cons, List.zip_nil_left, List.zip_nil_right, s_asg, s_par, s_own, s_parO, s_put, s_expr, s_ret, s_skip, s_seq, s_rel, x_asg, x_par, x_own, x_parO, x_put, x_expr, x_ret, x_retN, x_skip, x_rel, x_app, x_setI, x_sIf, x_for, x_brk, x_cnt, b_lenT, b_lenL, b_tupL, b_tupT, b_max2, b_min2, o_addL, o_addT, cut_ints, sum_ints, s_chk, s_for, s_brk, s_cnt, s_retN, t_bool, g_rng, g_le, List.length_map]
      rw [if_pos (by omega)]
  | _ =>
    try simp only [x_var, x_con, x_bin, x_neg, x_cmp, x_chain, x_tTru, x_tNot, x_tAnd, x_tOr, x_tBool, x_tYes, x_not, x_and, x_or, x_if, x_b1, x_b2, x_is, x_idx, x_oNone, x_oSome, x_cut, x_aNil, x_aCons, x_tup, x_lst, x_call, x_callS,
    x_iSeq, x_iRng1, x_iRng2, x_bor, x_tBor, x_put1, List.map_cons, List.map_nil, List.cons_append, List.nil_append, List.length_cons, List.length_nil, Nat.zero_add, Nat.reduceAdd, Nat.reduceSub, List.reduceReplicate, start,
    List.getElem?_cons_zero, List.getElem?_cons_succ, List.set_cons_zero, List.set_cons_succ, bnd_ret, bnd_assoc, bnd_grd, b1_if, bnd_ite, small, Nat.reduceLeDiff, grd_true, o_add, o_sub, o_neg, o_eq, o_ne, o_lt, o_le, o_gt, o_ge, o_eqS, o_neS,
    decide_eq_true_eq, reduceIte, decide_true, decide_false, Bool.not_true, Bool.not_false, Bool.false_eq_true, itemsOf, asInt, endOf, isTy,
    grd_tt, nx_int, nx_bool, nx_str, nx_none, nx_tup, nx_lst, x_isC, x_fld, x_in, x_count, x_lstR, x_tupR, x_raise, x_star, bnd_thr, noX_ret, fld_x, exn_d, eSetO, Out.clear, List.zip_cons_cons, List.zip_nil_left, List.zip_nil_right, s_asg, s_par, s_own, s_parO, s_put, s_expr, s_ret, s_skip, s_seq, s_rel, x_asg, x_par, x_own, x_parO, x_put, x_expr, x_ret, x_retN, x_skip, x_rel, x_app, x_setI, x_sIf, x_for, x_brk, x_cnt, b_lenT, b_lenL, b_tupL, b_tupT, b_max2, b_min2, o_addL, o_addT, cut_ints, sum_ints, s_chk, s_for, s_brk, s_cnt, s_retN, t_bool, g_rng, g_le, List.length_map, nx]
    rfl
/-- what is told of a row is small -/
theorem firstBad_tame : ∀ (ds : List D) (i : Nat), i + ds.length < 10 ^ 40 → Tame 20 1 (firstBad ds i)
  | [], _, _ => tame_none.mono (by decide) (by decide)
  | d :: ds, i, h => by
    unfold firstBad
    simp only [List.length_cons] at h
    split
    · exact firstBad_tame ds (i + 1) (by omega)
    · exact (tame_tup (tame_cons (tame_int (by omega)) (tame_cons (tame_str (n := 6) (by decide +kernel) (by decide +kernel)) tame_nil))).mono (by decide) (by decide)
theorem rowT : Tame 20 1 (.tuple [.none, .str "row"]) := (tame_tup (tame_cons tame_none (tame_cons (tame_str (n := 3) (by decide +kernel) (by decide +kernel)) tame_nil))).mono (by decide) (by decide)
theorem rowErr_tame {d : D} : Tame 20 1 (rowErr d) := by
  cases d with
  | tuple ds =>
    simp only [rowErr]
    by_cases h : ds.length = 0 ∨ 24 < ds.length
    · rw [if_pos h]; exact rowT
    · rw [if_neg h]; exact firstBad_tame _ _ (by omega)
  | _ => exact rowT
end DL
end
section
namespace DL
open PySem
theorem max_long {ns : List Int} {m w : Int} (h : bi1 .max (.tuple (ns.map PyData.int)) = ret (.int m)) (hm : m ≤ w) : Long ns w none := .no fun j x hj => by
  have hx := List.mem_of_getElem? hj
  match ns, hx, h with
  | a :: r, hx, h =>
    have e : bi1 .max (.tuple ((a :: r).map PyData.int)) = ret (.int (greatest a r)) := by
      show bnd (intsOf (.tuple ((a :: r).map PyData.int))) _ = _
      simp only [intsOf, itemsOf, bnd_ret, ints?_map]
    rw [e] at h
    have e2 : PyData.int (greatest a r) = .int m := by
      have := congrFun (congrFun (congrFun h (.z 0)) fun d _ => d = .int m) fun _ _ => False
      exact this.mpr rfl
    have e3 : greatest a r = m := PyData.int.inj e2
    have go : ∀ (r : List Int) (a : Int), a ≤ r.foldl max a ∧ ∀ y ∈ r, y ≤ r.foldl max a := by
      intro r
      induction r with
      | nil => intro a; exact ⟨Int.le_refl _, fun y hy => by cases hy⟩
      | cons b r ih =>
        intro a
        obtain ⟨g1, g2⟩ := ih (max a b)
        refine ⟨Int.le_trans (Int.le_max_left a b) g1, fun y hy => ?_⟩
        cases hy with
        | head => exact Int.le_trans (Int.le_max_right a b) g1
        | tail _ hy => exact g2 y hy
    obtain ⟨g1, g2⟩ := go r a
    unfold greatest at e3
    rw [e3] at g1 g2
    cases hx with
    | head => omega
    | tail _ hx => have := g2 x hx; omega
/-- neighbours -/
def adjN : List Nat → List (Nat × Nat)
  | a :: b :: r => (a, b) :: adjN (b :: r)
  | _ => []
/-- each with what comes next, at last e -/
def endN (e : Nat) : List Nat → List (Nat × Nat)
  | [] => []
  | [a] => [(a, e)]
  | a :: b :: r => (a, b) :: endN e (b :: r)
theorem adj_mem : ∀ {l : List Nat} {q : Nat × Nat}, q ∈ adjN l → q.1 ∈ l ∧ q.2 ∈ l
  | a :: b :: r, q, h => by
    cases h with
    | head => exact ⟨.head _, .tail _ (.head _)⟩
    | tail _ h => exact ⟨.tail _ (adj_mem h).1, .tail _ (adj_mem h).2⟩
  | [_], q, h => by cases h
  | [], q, h => by cases h
theorem end_mem {e : Nat} : ∀ {l : List Nat} {q : Nat × Nat}, q ∈ endN e l → q.1 ∈ l ∧ (q.2 ∈ l ∨ q.2 = e)
  | a :: b :: r, q, h => by
    cases h with
    | head => exact ⟨.head _, .inl (.tail _ (.head _))⟩
    | tail _ h => exact ⟨.tail _ (end_mem h).1, (end_mem h).2.imp (fun z => .tail _ z) id⟩
  | [a], q, h => by
    cases h with
    | head => exact ⟨.head _, .inr rfl⟩
    | tail _ h => cases h
  | [], q, h => by cases h
/-- ascending -/
def ascN (l : List Nat) : Bool := (adjN l).all fun q => decide (q.1 < q.2)
theorem asc_adj {l : List Nat} (h : ascN l = true) {q : Nat × Nat} (hq : q ∈ adjN l) : q.1 < q.2 := by
  unfold ascN at h
  simpa using List.all_eq_true.mp h q hq
theorem asc_end {e : Nat} {l : List Nat} (h : ascN l = true) (he : ∀ a ∈ l, a < e) {q : Nat × Nat} (hq : q ∈ endN e l) : q.1 < q.2 := by
  match l, h, he, hq with
  | a :: b :: r, h, he, hq =>
    cases hq with
    | head => exact asc_adj h (.head _)
    | tail _ hq =>
      refine asc_end (l := b :: r) ?_ (fun x hx => he x (.tail _ hx)) hq
      unfold ascN at h ⊢
      simp only [adjN, List.all_cons, Bool.and_eq_true] at h
      exact h.2
  | [a], h, he, hq =>
    cases hq with
    | head => exact he a (.head _)
    | tail _ h => cases h
  | [], _, _, hq => cases hq
def fitN (ns : List Int) (w : Int) (l : List Nat) : Bool := (endN ns.length l).all fun q => decide (ext ns q.1 (q.2 - 1) ≤ w)
def barN (ns : List Int) (w : Int) (l : List Nat) : Bool := (adjN l).all fun q => decide (w < ext ns q.1 q.2)
theorem ext_sum {ns : List Int} {a b : Nat} (h : a < b) : ((ns.drop a).take (b - a)).sum + (b : Int) - (a : Int) - 1 = ext ns a (b - 1) := by
  unfold ext
  rw [show b - 1 + 1 - a = b - a by omega]
  omega
end DL
end
section
namespace DL
open PySem
/-- a tuple of few small ints -/
def FewI (d : D) : Prop := ∃ is : List Int, d = .tuple (is.map PyData.int) ∧ is.length ≤ 60 ∧ ∀ x ∈ is, 0 ≤ x ∧ x < 60
theorem FewI.bd {d : D} (h : FewI d) : Bd 0 60 1 d := by
  obtain ⟨is, rfl, h1, h2⟩ := h
  exact (bd_tup (bda_ints fun x hx => by have := h2 x hx; omega)).mono (Nat.le_refl _) h1 (by omega)
end DL
end
section
namespace DL
open PySem
end DL
end
section
namespace DL
open PySem
theorem ext_left {ns : List Int} {i j : Nat} (h : i < j) (hj : j < ns.length) : ext ns i j = ns[i] + 1 + ext ns (i + 1) j := by
  unfold ext
  rw [List.drop_eq_getElem_cons (by omega : i < ns.length), show j + 1 - i = (j - i) + 1 by omega, List.take_succ_cons, List.sum_cons, show j + 1 - (i + 1) = j - i by omega]
  omega
theorem ext_right {ns : List Int} {i j : Nat} (h : i ≤ j) (hj : j + 1 < ns.length) : ext ns i (j + 1) = ext ns i j + 1 + ns[j + 1] := ext_next h (List.getElem?_eq_getElem hj)
section
variable {ns : List Int} {w : Int}
theorem ext_mono_r (hp : ∀ x ∈ ns, 1 ≤ x) {i j : Nat} (h : i ≤ j) : ∀ k : Nat, j ≤ k → k < ns.length → ext ns i j ≤ ext ns i k
  | 0, hk, _ => by rw [show j = 0 by omega]; exact Int.le_refl _
  | k + 1, hk, hl => by
    by_cases e : j = k + 1
    · rw [e]; exact Int.le_refl _
    · have h1 := ext_mono_r hp h k (by omega) (by omega)
      have h2 := ext_right (ns := ns) (i := i) (j := k) (by omega) hl
      have := hp _ (List.getElem_mem hl)
      omega
theorem ext_mono_l (hp : ∀ x ∈ ns, 1 ≤ x) {j : Nat} (hj : j < ns.length) : ∀ (k i : Nat), i + k ≤ j → ext ns (i + k) j ≤ ext ns i j
  | 0, i, _ => Int.le_refl _
  | k + 1, i, h => by
    have h1 := ext_mono_l hp hj k (i + 1) (by omega)
    have h2 := ext_left (ns := ns) (i := i) (j := j) (by omega) hj
    have := hp _ (List.getElem_mem (show i < ns.length by omega))
    rw [show i + (k + 1) = i + 1 + k by omega]
    omega
theorem ext_one {i : Nat} (h : i < ns.length) : ext ns i i = ns[i] := ext_self (List.getElem?_eq_getElem h)
theorem nx_mono (hp : ∀ x ∈ ns, 1 ≤ x) {a b : Nat} (h : a ≤ b) (hb : b < ns.length) : nx ns w a ≤ nx ns w b := by
  obtain ⟨a1, a2, a3, a4⟩ := nx_spec (w := w) (show a < ns.length by omega)
  obtain ⟨b1, b2, b3, b4⟩ := nx_spec (w := w) hb
  by_cases e : nx ns w b = ns.length
  · omega
  · have h1 := b4 (by omega)
    have h2 := ext_mono_l hp (show nx ns w b < ns.length by omega) (b - a) a (by omega)
    rw [show a + (b - a) = b by omega] at h2
    by_cases h3 : nx ns w b < nx ns w a
    · have := a3 (nx ns w b) (by omega) h3
      omega
    · omega
/-- the greedy starts, one after another; behind the last one the row's end -/
def gr (ns : List Int) (w : Int) : Nat → Nat
  | 0 => 0
  | k + 1 => if gr ns w k < ns.length then nx ns w (gr ns w k) else ns.length
theorem gr_step {k : Nat} (h : gr ns w k < ns.length) : gr ns w (k + 1) = nx ns w (gr ns w k) := if_pos h
theorem gr_le : ∀ k, gr ns w k ≤ ns.length
  | 0 => Nat.zero_le _
  | k + 1 => by
    unfold gr
    split
    · exact nx_le _ _ _ ‹_›
    · exact Nat.le_refl _
theorem gr_lt {k : Nat} (h : gr ns w k < ns.length) : gr ns w k < gr ns w (k + 1) := by
  rw [gr_step h]
  exact nx_gt _ _ _
theorem gr_mono : ∀ {k j : Nat}, k ≤ j → gr ns w k ≤ gr ns w j
  | k, 0, h => by rw [show k = 0 by omega]; exact Nat.le_refl _
  | k, j + 1, h => by
    by_cases e : k = j + 1
    · rw [e]; exact Nat.le_refl _
    · refine Nat.le_trans (gr_mono (show k ≤ j by omega)) ?_
      by_cases hl : gr ns w j < ns.length
      · exact Nat.le_of_lt (gr_lt hl)
      · have := gr_le (ns := ns) (w := w) j
        have e2 : gr ns w (j + 1) = ns.length := if_neg hl
        omega
theorem chain_gr : ∀ (l : List Nat) (a k : Nat), Chain ns w (a :: l) → a = gr ns w k → (∀ i b, (a :: l)[i]? = some b → b = gr ns w (k + i) ∧ b < ns.length) ∧ gr ns w (k + l.length + 1) = ns.length
  | [], a, k, h, e => by
    obtain ⟨h1, h2⟩ := h
    refine ⟨fun i b hb => ?_, ?_⟩
    · cases i with
      | zero => cases hb; exact ⟨e, h1⟩
      | succ i => cases hb
    · show gr ns w (k + 1) = _
      rw [gr_step (by rw [← e]; exact h1), ← e, h2]
  | b :: r, a, k, h, e => by
    obtain ⟨h1, h2, h3⟩ := h
    have e2 : b = gr ns w (k + 1) := by rw [gr_step (by rw [← e]; exact h1), ← e, h2]
    obtain ⟨i1, i2⟩ := chain_gr r b (k + 1) h3 e2
    refine ⟨fun i c hc => ?_, ?_⟩
    · cases i with
      | zero => cases hc; exact ⟨e, h1⟩
      | succ i =>
        have := i1 i c hc
        rw [show k + (i + 1) = k + 1 + i by omega]
        exact this
    · rw [List.length_cons, show k + (r.length + 1) + 1 = k + 1 + r.length + 1 by omega]
      exact i2
/-- the number of greedy lines -/
def many (ns : List Int) (w : Int) : Nat := (starts ns w).length
theorem many_pos : 1 ≤ many ns w := by unfold many starts; simp
theorem starts_at {i b : Nat} (h1 : 0 < ns.length) (h : (starts ns w)[i]? = some b) : b = gr ns w i ∧ b < ns.length := by
  have := (chain_gr (restF ns w ns.length (nx ns w 0)) 0 0 (starts_chain w h1) rfl).1 i b h
  rwa [Nat.zero_add] at this
theorem gr_end (h1 : 0 < ns.length) : gr ns w (many ns w) = ns.length := by
  have := (chain_gr (restF ns w ns.length (nx ns w 0)) 0 0 (starts_chain w h1) rfl).2
  rw [Nat.zero_add] at this
  exact this
theorem gr_in (h1 : 0 < ns.length) {k : Nat} (hk : k < many ns w) : gr ns w k < ns.length := by
  have := (starts_at h1 (List.getElem?_eq_getElem (l := starts ns w) hk)).1
  have h2 := (starts_at h1 (List.getElem?_eq_getElem (l := starts ns w) hk)).2
  omega
theorem gr_in_iff (h1 : 0 < ns.length) {k : Nat} : gr ns w k < ns.length ↔ k < many ns w := by
  refine ⟨fun h => ?_, gr_in h1⟩
  by_cases e : k < many ns w
  · exact e
  · have := gr_mono (ns := ns) (w := w) (show many ns w ≤ k by omega)
    rw [gr_end h1] at this
    omega
theorem adj_at : ∀ {l : List Nat} {k a b : Nat}, l[k]? = some a → l[k + 1]? = some b → (a, b) ∈ adjN l
  | x :: y :: r, 0, a, b, h1, h2 => by cases h1; cases h2; exact .head _
  | x :: y :: r, k + 1, a, b, h1, h2 => .tail _ (adj_at (l := y :: r) (k := k) h1 h2)
  | [x], k, a, b, h1, h2 => by simp at h2
  | [], k, a, b, h1, h2 => by simp at h1
theorem end_at {e : Nat} : ∀ {l : List Nat} {k a b : Nat}, l[k]? = some a → l[k + 1]? = some b → (a, b) ∈ endN e l
  | x :: y :: r, 0, a, b, h1, h2 => by cases h1; cases h2; exact .head _
  | x :: y :: r, k + 1, a, b, h1, h2 => .tail _ (end_at (l := y :: r) (k := k) h1 h2)
  | [x], k, a, b, h1, h2 => by simp at h2
  | [], k, a, b, h1, h2 => by simp at h1
theorem end_last {e : Nat} : ∀ {l : List Nat} {k a : Nat}, l[k]? = some a → k + 1 = l.length → (a, e) ∈ endN e l
  | [x], k, a, h1, h2 => by
    have : k = 0 := by simpa using h2
    subst this
    cases h1
    exact .head _
  | x :: y :: r, 0, a, h1, h2 => by simp at h2
  | x :: y :: r, k + 1, a, h1, h2 => .tail _ (end_last (l := y :: r) (k := k) h1 (by simpa using h2))
  | [], k, a, h1, h2 => by simp at h1
theorem adj_ix : ∀ {l : List Nat} {q : Nat × Nat}, q ∈ adjN l → ∃ k, l[k]? = some q.1 ∧ l[k + 1]? = some q.2
  | a :: b :: r, q, h => by
    cases h with
    | head => exact ⟨0, rfl, rfl⟩
    | tail _ h => obtain ⟨k, h1, h2⟩ := adj_ix h; exact ⟨k + 1, h1, h2⟩
  | [_], q, h => by cases h
  | [], q, h => by cases h
theorem end_ix {e : Nat} : ∀ {l : List Nat} {q : Nat × Nat}, q ∈ endN e l → ∃ k, l[k]? = some q.1 ∧ (l[k + 1]? = some q.2 ∨ (k + 1 = l.length ∧ q.2 = e))
  | a :: b :: r, q, h => by
    cases h with
    | head => exact ⟨0, rfl, .inl rfl⟩
    | tail _ h =>
      obtain ⟨k, h1, h2⟩ := end_ix h
      exact ⟨k + 1, h1, h2.imp id fun z => ⟨by simpa using z.1, z.2⟩⟩
  | [a], q, h => by
    cases h with
    | head => exact ⟨0, rfl, .inr ⟨rfl, rfl⟩⟩
    | tail _ h => cases h
  | [], q, h => by cases h
/-- a breaking: starts from 0 on, ascending, lines that fit -/
structure Brk (ns : List Int) (w : Int) (l : List Nat) : Prop where
  ne : l ≠ []
  zero : l[0]? = some 0
  asc : ascN l = true
  lt : ∀ a ∈ l, a < ns.length
  fit : fitN ns w l = true
theorem Brk.fits {l : List Nat} (h : Brk ns w l) {q : Nat × Nat} (hq : q ∈ endN ns.length l) : q.1 < q.2 ∧ q.2 ≤ ns.length ∧ ext ns q.1 (q.2 - 1) ≤ w := by
  have h1 := asc_end h.asc h.lt hq
  refine ⟨h1, ?_, ?_⟩
  · rcases (end_mem hq).2 with z | z
    · exact Nat.le_of_lt (h.lt _ z)
    · omega
  · have := h.fit
    unfold fitN at this
    simpa using List.all_eq_true.mp this q hq
theorem Brk.len {l : List Nat} (h : Brk ns w l) : 1 ≤ l.length := List.length_pos_iff.mpr h.ne
/-- no start is later than the greedy one -/
theorem Brk.le (hp : ∀ x ∈ ns, 1 ≤ x) {l : List Nat} (h : Brk ns w l) : ∀ (k a : Nat), l[k]? = some a → a ≤ gr ns w k
  | 0, a, ha => by
    rw [h.zero] at ha
    cases ha
    exact Nat.zero_le _
  | k + 1, a, ha => by
    have hk : k < l.length := by have := (List.getElem?_eq_some_iff.mp ha).1; omega
    have hb := List.getElem?_eq_getElem hk
    have ih := Brk.le hp h k _ hb
    obtain ⟨f1, f2, f3⟩ := h.fits (end_at hb ha)
    have lt := h.lt _ (List.mem_of_getElem? ha)
    have ltb := h.lt _ (List.getElem_mem hk)
    obtain ⟨n1, n2, n3, n4⟩ := nx_spec (w := w) ltb
    have step : a ≤ nx ns w l[k] := by
      by_cases e : a ≤ nx ns w l[k]
      · exact e
      · have h4 := n4 (by omega)
        have h5 := ext_mono_r hp (i := l[k]) (j := nx ns w l[k]) (by omega) (a - 1) (by omega) (by omega)
        simp only at f3
        omega
    by_cases hg : gr ns w k < ns.length
    · rw [gr_step hg]
      exact Nat.le_trans step (nx_mono hp ih hg)
    · have e2 : gr ns w (k + 1) = ns.length := if_neg hg
      omega
/-- no breaking has fewer lines -/
theorem Brk.many (hp : ∀ x ∈ ns, 1 ≤ x) (h1 : 0 < ns.length) {l : List Nat} (h : Brk ns w l) : DL.many ns w ≤ l.length := by
  have hl := h.len
  have hk : l.length - 1 < l.length := by omega
  have hb := List.getElem?_eq_getElem hk
  have le := h.le hp _ _ hb
  obtain ⟨f1, f2, f3⟩ := h.fits (end_last hb (by omega))
  have ltb := h.lt _ (List.getElem_mem hk)
  by_cases e : DL.many ns w ≤ l.length
  · exact e
  · have hg := gr_in (w := w) h1 (k := l.length) (by omega)
    have hg0 : gr ns w (l.length - 1) < ns.length := gr_in h1 (show l.length - 1 < DL.many ns w by omega)
    have st := gr_step hg0
    rw [show l.length - 1 + 1 = l.length by omega] at st
    have mono := nx_mono (w := w) hp le hg0
    obtain ⟨n1, n2, n3, n4⟩ := nx_spec (w := w) ltb
    have h4 := n4 (by omega)
    have h5 := ext_mono_r hp (i := l[l.length - 1]) (j := nx ns w l[l.length - 1]) (by omega) (ns.length - 1) (by omega) (by omega)
    simp only at f3
    omega
/-- the greedy starts are a breaking of a row that fits -/
theorem brk_starts (h1 : 0 < ns.length) (hw : ∀ x ∈ ns, x ≤ w) : Brk ns w (starts ns w) := by
  have at_ : ∀ {i b}, (starts ns w)[i]? = some b → b = gr ns w i ∧ b < ns.length := fun h => DL.starts_at h1 h
  refine ⟨by unfold starts; simp, rfl, ?_, fun a ha => starts_lt h1 a ha, ?_⟩
  · unfold ascN
    refine List.all_eq_true.mpr fun q hq => ?_
    obtain ⟨k, h2, h3⟩ := adj_ix hq
    obtain ⟨e1, l1⟩ := at_ h2
    obtain ⟨e2, l2⟩ := at_ h3
    have := gr_lt (ns := ns) (w := w) (k := k) (by omega)
    simp
    omega
  · unfold fitN
    refine List.all_eq_true.mpr fun q hq => ?_
    obtain ⟨k, h2, h3⟩ := end_ix hq
    obtain ⟨e1, l1⟩ := at_ h2
    have nxe : q.2 = nx ns w q.1 := by
      rw [e1, ← gr_step (by omega)]
      rcases h3 with h3 | ⟨h3, h4⟩
      · exact (at_ h3).1
      · rw [h4, h3]
        exact (gr_end h1).symm
    obtain ⟨n1, n2, n3, n4⟩ := nx_spec (w := w) l1
    simp only [decide_eq_true_eq]
    rw [nxe]
    by_cases e : nx ns w q.1 - 1 = q.1
    · rw [e, ext_one l1]
      exact hw _ (List.getElem_mem l1)
    · exact n3 _ (by omega) (by omega)
/-- bars: ascending places, two neighbours of which do not fit one line -/
structure Bar (ns : List Int) (w : Int) (l : List Nat) : Prop where
  ne : l ≠ []
  asc : ascN l = true
  lt : ∀ a ∈ l, a < ns.length
  far : barN ns w l = true
theorem Bar.fars {l : List Nat} (h : Bar ns w l) {q : Nat × Nat} (hq : q ∈ adjN l) : q.1 < q.2 ∧ q.2 < ns.length ∧ w < ext ns q.1 q.2 := by
  refine ⟨asc_adj h.asc hq, h.lt _ (adj_mem hq).2, ?_⟩
  have := h.far
  unfold barN at this
  simpa using List.all_eq_true.mp this q hq
theorem Bar.ge (hp : ∀ x ∈ ns, 1 ≤ x) {l : List Nat} (h : Bar ns w l) : ∀ (k a : Nat), l[k]? = some a → gr ns w k ≤ a
  | 0, a, ha => Nat.zero_le _
  | k + 1, a, ha => by
    have hk : k < l.length := by have := (List.getElem?_eq_some_iff.mp ha).1; omega
    have hb := List.getElem?_eq_getElem hk
    have ih := Bar.ge hp h k _ hb
    obtain ⟨f1, f2, f3⟩ := h.fars (adj_at hb ha)
    simp only at f1 f2 f3
    have ltb := h.lt _ (List.getElem_mem hk)
    have hg : gr ns w k < ns.length := by omega
    rw [gr_step hg]
    refine Nat.le_trans (nx_mono hp ih ltb) ?_
    obtain ⟨n1, n2, n3, n4⟩ := nx_spec (w := w) ltb
    by_cases e : nx ns w l[k] ≤ a
    · exact e
    · have := n3 a f1 (by omega)
      omega
/-- no bars have more items than there are greedy lines -/
theorem Bar.many (hp : ∀ x ∈ ns, 1 ≤ x) (h1 : 0 < ns.length) {l : List Nat} (h : Bar ns w l) : l.length ≤ DL.many ns w := by
  have hl : 1 ≤ l.length := List.length_pos_iff.mpr h.ne
  have hk : l.length - 1 < l.length := by omega
  have := h.ge hp _ _ (List.getElem?_eq_getElem hk)
  have lt := h.lt _ (List.getElem_mem hk)
  have := (gr_in_iff (w := w) h1 (k := l.length - 1)).mp (by omega)
  omega
theorem bar_starts (h1 : 0 < ns.length) : Bar ns w (starts ns w) := by
  have at_ : ∀ {i b}, (starts ns w)[i]? = some b → b = gr ns w i ∧ b < ns.length := fun h => DL.starts_at h1 h
  refine ⟨by unfold starts; simp, ?_, fun a ha => starts_lt h1 a ha, ?_⟩
  · unfold ascN
    refine List.all_eq_true.mpr fun q hq => ?_
    obtain ⟨k, h2, h3⟩ := adj_ix hq
    obtain ⟨e1, l1⟩ := at_ h2
    obtain ⟨e2, l2⟩ := at_ h3
    have := gr_lt (ns := ns) (w := w) (k := k) (by omega)
    simp
    omega
  · unfold barN
    refine List.all_eq_true.mpr fun q hq => ?_
    obtain ⟨k, h2, h3⟩ := adj_ix hq
    obtain ⟨e1, l1⟩ := at_ h2
    obtain ⟨e2, l2⟩ := at_ h3
    obtain ⟨n1, n2, n3, n4⟩ := nx_spec (w := w) l1
    have e3 : q.2 = nx ns w q.1 := by rw [e1, ← gr_step (by omega)]; exact e2
    simp only [decide_eq_true_eq]
    rw [e3]
    exact n4 (by omega)
end
end DL
end
section
namespace DL
open PySem
theorem rng_natsD (n : Nat) : rng 0 (n : Int) = natsD (List.range n) := by
  unfold rng natsD
  rw [show ((n : Int) - 0).toNat = n by omega]
  refine List.map_congr_left fun a _ => ?_
  rw [Int.zero_add]
section
variable {ns : List Int} {w : Int}
theorem asc_of {l : List Nat} (h : ∀ (k a b : Nat), l[k]? = some a → l[k + 1]? = some b → a < b) : ascN l = true := by
  unfold ascN
  refine List.all_eq_true.mpr fun q hq => ?_
  obtain ⟨k, h2, h3⟩ := adj_ix hq
  exact decide_eq_true (h k _ _ h2 h3)
theorem Brk.of {l : List Nat} (h0 : l[0]? = some 0) (hl : ∀ a ∈ l, a < ns.length) (h : ∀ (k a b : Nat), l[k]? = some a → (l[k + 1]? = some b ∨ (k + 1 = l.length ∧ b = ns.length)) → a < b ∧ ext ns a (b - 1) ≤ w) : Brk ns w l := by
  refine ⟨(fun z => by rw [z] at h0; cases h0), h0, asc_of fun k a b h1 h2 => (h k a b h1 (.inl h2)).1, hl, ?_⟩
  unfold fitN
  refine List.all_eq_true.mpr fun q hq => ?_
  obtain ⟨k, h2, h3⟩ := end_ix hq
  exact decide_eq_true (h k _ _ h2 h3).2
theorem Bar.of {l : List Nat} (h0 : l ≠ []) (hl : ∀ a ∈ l, a < ns.length) (h : ∀ (k a b : Nat), l[k]? = some a → l[k + 1]? = some b → a < b ∧ w < ext ns a b) : Bar ns w l := by
  refine ⟨h0, asc_of fun k a b h1 h2 => (h k a b h1 h2).1, hl, ?_⟩
  unfold barN
  refine List.all_eq_true.mpr fun q hq => ?_
  obtain ⟨k, h2, h3⟩ := adj_ix hq
  exact decide_eq_true (h k _ _ h2 h3).2
theorem Bar.step {l : List Nat} (h : Bar ns w l) {k a b : Nat} (h1 : l[k]? = some a) (h2 : l[k + 1]? = some b) : a < b ∧ b < ns.length ∧ w < ext ns a b := h.fars (adj_at h1 h2)
/-- bars with one place left out are bars -/
theorem Bar.less (hp : ∀ x ∈ ns, 1 ≤ x) {l : List Nat} (h : Bar ns w l) (h2 : 1 < l.length) (r : Nat) (hr : r < l.length) : Bar ns w (l.take r ++ l.drop (r + 1)) := by
  have len : (l.take r ++ l.drop (r + 1)).length = l.length - 1 := by
    rw [List.length_append, List.length_take, List.length_drop]; omega
  have at_ : ∀ k, (l.take r ++ l.drop (r + 1))[k]? = if k < r then l[k]? else l[k + 1]? := fun k => by
    by_cases hk : k < r
    · rw [if_pos hk, List.getElem?_append_left (by rw [List.length_take]; omega), List.getElem?_take, if_pos hk]
    · rw [if_neg hk, List.getElem?_append_right (by rw [List.length_take]; omega), List.getElem?_drop, List.length_take]
      congr 1
      omega
  refine .of (fun z => by rw [z] at len; simp at len; omega) (fun a ha => ?_) fun k a b h3 h4 => ?_
  · rcases List.mem_append.mp ha with z | z
    · exact h.lt a (List.mem_of_mem_take z)
    · exact h.lt a (List.mem_of_mem_drop z)
  · rw [at_] at h3 h4
    by_cases c1 : k + 1 < r
    · rw [if_pos (by omega)] at h3
      rw [if_pos c1] at h4
      have := h.step h3 h4
      exact ⟨this.1, this.2.2⟩
    · rw [if_neg c1] at h4
      by_cases c2 : k < r
      · rw [if_pos c2] at h3
        have hm : k + 1 < l.length := by omega
        have s1 := h.step h3 (List.getElem?_eq_getElem hm)
        have s2 := h.step (List.getElem?_eq_getElem hm) h4
        have := ext_mono_r hp (i := a) (j := l[k + 1]) (by omega) b (by omega) s2.2.1
        exact ⟨by omega, by omega⟩
      · rw [if_neg c2] at h3
        have := h.step h3 h4
        exact ⟨this.1, this.2.2⟩
end
theorem comp_filtE {it : XA} {tg : Tg} {t : XT} {e : XE} {vs : List Nat} {E : Env} {ds : List D} {p : D → Bool} {f : D → D} (hit : it E = ret ds) (hl : ds.length ≤ 1000000)
    (hs : ∀ d ∈ ds, ∃ E1, tg.put d (wipeE E vs) = some E1 ∧ t E1 = ret (p d) ∧ (p d = true → e E1 = ret (f d))) : eComp it tg t e vs E = ret (.list ((ds.filter p).map f)) := by
  rw [x_comp, hit, bnd_ret, comp_filt p f ds [] (by simp only [List.length_nil]; omega) hs, noX_ret, bnd_ret, List.nil_append]
theorem comp_mapE {it : XA} {tg : Tg} {t : XT} {e : XE} {vs : List Nat} {E : Env} {ds : List D} {f : D → D} (hit : it E = ret ds) (hl : ds.length ≤ 1000000)
    (hs : ∀ d ∈ ds, ∃ E1, tg.put d (wipeE E vs) = some E1 ∧ t E1 = ret true ∧ e E1 = ret (f d)) : eComp it tg t e vs E = ret (.list (ds.map f)) := by
  rw [x_comp, hit, bnd_ret, comp_map f ds [] (by simp only [List.length_nil]; omega) hs, noX_ret, bnd_ret, List.nil_append]
theorem long_all {ns : List Int} {w : Int} (h : Long ns w none) : ∀ x ∈ ns, x ≤ w := fun x hx => by
  cases h with
  | no h =>
    obtain ⟨j, hj, e⟩ := List.getElem_of_mem hx
    exact h j x (by rw [List.getElem?_eq_getElem hj, e])
end DL
end
section
namespace DL
open PySem
theorem drop_appL {as bs : List Int} {i : Nat} (h : i ≤ as.length) : (as ++ bs).drop i = as.drop i ++ bs := by
  rw [List.drop_append, show i - as.length = 0 by omega, List.drop_zero]
theorem drop_appR (as bs : List Int) (i : Nat) : (as ++ bs).drop (as.length + i) = bs.drop i := by
  rw [List.drop_append, List.drop_eq_nil_of_le (by omega), show as.length + i - as.length = i by omega, List.nil_append]
theorem ext_appL {as bs : List Int} {i j : Nat} (h : i ≤ j) (hj : j < as.length) : ext (as ++ bs) i j = ext as i j := by
  unfold ext
  rw [drop_appL (by omega), List.take_append_of_le_length (by rw [List.length_drop]; omega)]
theorem ext_appR (as bs : List Int) (i j : Nat) : ext (as ++ bs) (as.length + i) (as.length + j) = ext bs i j := by
  unfold ext
  rw [drop_appR, show as.length + j + 1 - (as.length + i) = j + 1 - i by omega]
  omega
section
variable {as bs : List Int} {w : Int}
theorem app_at {l : List Nat} {m : List Nat} (k : Nat) : (l ++ m.map (as.length + ·))[k]? = if k < l.length then l[k]? else (m[k - l.length]?).map (as.length + ·) := by
  by_cases h : k < l.length
  · rw [if_pos h, List.getElem?_append_left h]
  · rw [if_neg h, List.getElem?_append_right (by omega), List.getElem?_map]
theorem Brk.last {ns : List Int} {l : List Nat} (h : Brk ns w l) {k a : Nat} (h1 : l[k]? = some a) (h2 : k + 1 = l.length) : a < ns.length ∧ ext ns a (ns.length - 1) ≤ w := by
  have := h.fits (end_last h1 h2)
  exact ⟨this.1, this.2.2⟩
theorem Brk.mid {ns : List Int} {l : List Nat} (h : Brk ns w l) {k a b : Nat} (h1 : l[k]? = some a) (h2 : l[k + 1]? = some b) : a < b ∧ b < ns.length ∧ ext ns a (b - 1) ≤ w := by
  have := h.fits (end_at h1 h2)
  exact ⟨this.1, h.lt b (List.mem_of_getElem? h2), this.2.2⟩
theorem Brk.app {l m : List Nat} (h : Brk as w l) (g : Brk bs w m) : Brk (as ++ bs) w (l ++ m.map (as.length + ·)) := by
  have l0 := h.len
  have m0 := g.len
  refine .of ?_ (fun a ha => ?_) fun k a b h1 h2 => ?_
  · rw [List.getElem?_append_left l0]; exact h.zero
  · rw [List.length_append]
    rcases List.mem_append.mp ha with z | z
    · have := h.lt a z; omega
    · obtain ⟨c, hc, rfl⟩ := List.mem_map.mp z
      have := g.lt c hc; omega
  · rw [List.length_append, List.length_append, List.length_map] at h2
    rw [app_at] at h1 h2
    by_cases c1 : k + 1 < l.length
    · rw [if_pos (by omega)] at h1
      rw [if_pos c1] at h2
      rcases h2 with h2 | h2
      · have := h.mid h1 h2
        exact ⟨this.1, by rw [ext_appL (by omega) (by omega)]; exact this.2.2⟩
      · omega
    · rw [if_neg c1] at h2
      by_cases c2 : k < l.length
      · rw [if_pos c2] at h1
        have e := h.last h1 (by omega)
        have eb : b = as.length := by
          rcases h2 with h2 | h2
          · rw [show k + 1 - l.length = 0 by omega, g.zero] at h2
            have : as.length + 0 = b := Option.some.inj h2
            omega
          · omega
        subst eb
        exact ⟨e.1, by rw [ext_appL (by omega) (by omega)]; exact e.2⟩
      · rw [if_neg c2] at h1
        cases e1 : m[k - l.length]? with
        | none => rw [e1] at h1; cases h1
        | some a' =>
          rw [e1] at h1
          have ea : as.length + a' = a := Option.some.inj h1
          rcases h2 with h2 | ⟨h2, h3⟩
          · rw [show k + 1 - l.length = k - l.length + 1 by omega] at h2
            cases e2 : m[k - l.length + 1]? with
            | none => rw [e2] at h2; cases h2
            | some b' =>
              rw [e2] at h2
              have eb : as.length + b' = b := Option.some.inj h2
              have := g.mid e1 e2
              exact ⟨by omega, by rw [← ea, show b - 1 = as.length + (b' - 1) by omega, ext_appR]; exact this.2.2⟩
          · have := g.last e1 (by omega)
            exact ⟨by omega, by rw [← ea, show b - 1 = as.length + (bs.length - 1) by omega, ext_appR]; exact this.2⟩
theorem Bar.app (hp : ∀ x ∈ as ++ bs, 1 ≤ x) {l m : List Nat} (h : Bar as w l) (g : Bar bs w m) (g0 : m[0]? = some 0) : Bar (as ++ bs) w (l ++ m.tail.map (as.length + ·)) := by
  refine .of (fun z => h.ne (List.append_eq_nil_iff.mp z).1) (fun a ha => ?_) fun k a b h1 h2 => ?_
  · rw [List.length_append]
    rcases List.mem_append.mp ha with z | z
    · have := h.lt a z; omega
    · obtain ⟨c, hc, rfl⟩ := List.mem_map.mp z
      have := g.lt c (List.mem_of_mem_tail hc); omega
  · rw [app_at] at h1 h2
    by_cases c1 : k + 1 < l.length
    · rw [if_pos (by omega)] at h1
      rw [if_pos c1] at h2
      have := h.step h1 h2
      exact ⟨this.1, by rw [ext_appL (by omega) (by omega)]; exact this.2.2⟩
    · rw [if_neg c1] at h2
      rw [List.getElem?_tail] at h2
      cases e2 : m[k + 1 - l.length + 1]? with
      | none => rw [e2] at h2; cases h2
      | some b' =>
        rw [e2] at h2
        have eb : as.length + b' = b := Option.some.inj h2
        by_cases c2 : k < l.length
        · rw [if_pos c2] at h1
          have la := h.lt a (List.mem_of_getElem? h1)
          rw [show k + 1 - l.length + 1 = 0 + 1 by omega] at e2
          have s := g.step g0 e2
          have e3 := ext_appR as bs 0 b'
          have e4 := ext_mono_l hp (j := as.length + b') (by rw [List.length_append]; omega) (as.length - a) a (by omega)
          rw [show a + (as.length - a) = as.length + 0 by omega, e3, eb] at e4
          exact ⟨by omega, by omega⟩
        · rw [if_neg c2, List.getElem?_tail] at h1
          cases e1 : m[k - l.length + 1]? with
          | none => rw [e1] at h1; cases h1
          | some a' =>
            rw [e1] at h1
            have ea : as.length + a' = a := Option.some.inj h1
            rw [show k + 1 - l.length + 1 = k - l.length + 1 + 1 by omega] at e2
            have s := g.step e1 e2
            exact ⟨by omega, by rw [← ea, ← eb, ext_appR]; exact s.2.2⟩
theorem nx_uniq {ns : List Int} (hp : ∀ x ∈ ns, 1 ≤ x) {a b : Nat} (h : a < b) (hb : b ≤ ns.length) (h1 : b = a + 1 ∨ ext ns a (b - 1) ≤ w) (h2 : b < ns.length → w < ext ns a b) : nx ns w a = b := by
  obtain ⟨n1, n2, n3, n4⟩ := nx_spec (w := w) (show a < ns.length by omega)
  by_cases c : nx ns w a < b
  · have e1 := n4 (by omega)
    have e2 := ext_mono_r hp (i := a) (j := nx ns w a) (by omega) (b - 1) (by omega) (by omega)
    rcases h1 with h1 | h1
    · omega
    · omega
  · by_cases c2 : b < nx ns w a
    · have := n3 b h c2
      have := h2 (by omega)
      omega
    · omega
end
end DL
end
section
namespace DL
open PySem
end DL
end
section
namespace DL
open PySem
section
variable {w : Int}
variable {ns : List Int}
theorem alone_line (hp : ∀ x ∈ ns, 1 ≤ x) (hw : ∀ x ∈ ns, x ≤ w) (h1 : 0 < ns.length) : many ns w = 1 ↔ ext ns 0 (ns.length - 1) ≤ w := by
  have e1 : gr ns w 1 = nx ns w 0 := gr_step (k := 0) h1
  have m1 := many_pos (ns := ns) (w := w)
  obtain ⟨n1, n2, n3, n4⟩ := nx_spec (w := w) h1
  constructor
  · intro h
    have := gr_end (w := w) h1
    rw [h, e1] at this
    by_cases c : ns.length = 1
    · have := ext_one h1
      rw [show ns.length - 1 = 0 by omega, this]
      exact hw _ (List.getElem_mem h1)
    · exact n3 _ (by omega) (by omega)
  · intro h
    have := nx_uniq (w := w) hp h1 (Nat.le_refl _) (.inr h) (fun z => absurd z (Nat.lt_irrefl _))
    have g := gr_in_iff (w := w) h1 (k := 1)
    omega
end
end DL
end
section
namespace DL
open PySem
/-- the first starts of a breaking -/
structure Pre (ns : List Int) (w : Int) (l : List Nat) : Prop where
  ne : l ≠ []
  zero : l[0]? = some 0
  lt : ∀ a ∈ l, a < ns.length
  len : ∀ (k a : Nat), l[k]? = some a → k ≤ a
  fit : ∀ (k a b : Nat), l[k]? = some a → l[k + 1]? = some b → a < b ∧ ext ns a (b - 1) ≤ w
section
variable {ns : List Int} {w : Int}
theorem Pre.push {l : List Nat} {a e : Nat} (h : Pre ns w (l ++ [a])) (h1 : a < e) (h2 : e < ns.length) (h3 : ext ns a (e - 1) ≤ w) : Pre ns w (l ++ [a] ++ [e]) := by
  have ha : (l ++ [a])[l.length]? = some a := by simp
  have hl := h.len _ _ ha
  refine ⟨by simp, ?_, ?_, ?_, ?_⟩
  · rw [List.getElem?_append_left (by simp)]; exact h.zero
  · intro x hx
    rcases List.mem_append.mp hx with z | z
    · exact h.lt x z
    · rw [List.mem_singleton] at z; omega
  · intro k x hx
    by_cases c : k < (l ++ [a]).length
    · rw [List.getElem?_append_left c] at hx; exact h.len _ _ hx
    · have hk := (List.getElem?_eq_some_iff.mp hx).1
      rw [List.length_append, List.length_singleton] at hk
      have : k = (l ++ [a]).length := by omega
      subst this
      simp at hx
      simp
      omega
  · intro k x y hx hy
    by_cases c : k + 1 < (l ++ [a]).length
    · rw [List.getElem?_append_left (by omega)] at hx
      rw [List.getElem?_append_left c] at hy
      exact h.fit _ _ _ hx hy
    · have hk := (List.getElem?_eq_some_iff.mp hy).1
      rw [List.length_append, List.length_singleton] at hk
      have e1 : k + 1 = (l ++ [a]).length := by omega
      rw [List.getElem?_append_left (by omega)] at hx
      have e2 : k = l.length := by rw [List.length_append, List.length_singleton] at e1; omega
      subst e2
      rw [ha] at hx
      rw [e1] at hy
      simp at hy
      cases hx
      subst hy
      exact ⟨h1, h3⟩
theorem Pre.brk {l : List Nat} {a : Nat} (h : Pre ns w (l ++ [a])) (h3 : ext ns a (ns.length - 1) ≤ w) : Brk ns w (l ++ [a]) := by
  have ha : (l ++ [a])[l.length]? = some a := by simp
  refine .of h.zero h.lt fun k x y hx hy => ?_
  rcases hy with hy | ⟨hy, rfl⟩
  · exact h.fit _ _ _ hx hy
  · rw [List.length_append, List.length_singleton] at hy
    have : k = l.length := by omega
    subst this
    rw [ha] at hx
    cases hx
    exact ⟨h.lt a (by simp), h3⟩
end
end DL
end
section
namespace DL
open PySem
section
variable {ns : List Int} {w : Int}
theorem Brk.wide {v : Int} {l : List Nat} (h : Brk ns w l) (hv : w ≤ v) : Brk ns v l := by
  refine .of h.zero h.lt fun k a b h1 h2 => ?_
  rcases h2 with h2 | ⟨h2, rfl⟩
  · have := h.mid h1 h2
    exact ⟨this.1, by omega⟩
  · have := h.last h1 h2
    exact ⟨this.1, by omega⟩
theorem Brk.ixs {l : List Nat} (h : Brk ns w l) : ∀ (k a : Nat), l[k]? = some a → k ≤ a
  | 0, _, _ => Nat.zero_le _
  | k + 1, b, hb => by
    have hk := (List.getElem?_eq_some_iff.mp hb).1
    have ha := List.getElem?_eq_getElem (l := l) (show k < l.length by omega)
    have := h.ixs k _ ha
    have := h.mid ha hb
    omega
theorem Brk.few {l : List Nat} (h : Brk ns w l) : l.length ≤ ns.length := by
  have l0 := h.len
  have ha := List.getElem?_eq_getElem (l := l) (show l.length - 1 < l.length by omega)
  have := h.ixs _ _ ha
  have := h.lt _ (List.mem_of_getElem? ha)
  omega
end
end DL
end
section
namespace DL
open PySem
theorem many_mono {ns : List Int} {v w : Int} (hp : ∀ x ∈ ns, 1 ≤ x) (h1 : 0 < ns.length) (hv : ∀ x ∈ ns, x ≤ v) (h : v ≤ w) : many ns w ≤ many ns v := ((brk_starts h1 hv).wide h).many hp h1
end DL
end
section
namespace DL
open PySem
def isI (i : Int) : D → Bool
  | .int v => decide (v = i)
  | _ => false
end DL
end
section
namespace DL
open PySem
section
variable {ns : List Int} {m : Int} {c k : Nat}
theorem Least.iff (h : Least ns m c k) (hp : ∀ x ∈ ns, 1 ≤ x) (h1 : 0 < ns.length) (hm : ∀ x ∈ ns, x ≤ m) {v : Int} (hv : m ≤ v) : many ns v ≤ c ↔ m + k ≤ v := by
  constructor
  · intro hc
    by_cases g : m + (k : Int) ≤ v
    · exact g
    · have := h.first (v - m).toNat (by omega)
      rw [show m + ((v - m).toNat : Int) = v by omega] at this
      unfold many at hc
      omega
  · intro g
    have a := many_mono (v := m + k) hp h1 (fun x hx => by have := hm x hx; omega) g
    have b := h.fits
    unfold many at *
    omega
theorem Least.zero (h : Least ns m c k) (hp : ∀ x ∈ ns, 1 ≤ x) (h1 : 0 < ns.length) (hm : ∀ x ∈ ns, x ≤ m) (hc : ns.length ≤ c) : k = 0 := by
  have := (brk_starts (w := m) h1 hm).few
  have := (h.iff hp h1 hm (v := m) (Int.le_refl _)).mp (by unfold many; omega)
  omega
theorem Least.one (h : Least ns m 1 k) (hp : ∀ x ∈ ns, 1 ≤ x) (h1 : 0 < ns.length) (hm : ∀ x ∈ ns, x ≤ m) (hin : m ∈ ns) : m + k = ext ns 0 (ns.length - 1) := by
  have al : ∀ v, m ≤ v → (many ns v ≤ 1 ↔ ext ns 0 (ns.length - 1) ≤ v) := fun v hv => by
    rw [← alone_line hp (fun x hx => Int.le_trans (hm x hx) hv) h1]
    have := many_pos (ns := ns) (w := v)
    omega
  have a := (al (m + k) (by omega)).mp ((h.iff hp h1 hm (by omega)).mpr (Int.le_refl _))
  obtain ⟨i, hi, e⟩ := List.getElem_of_mem hin
  have e1 := ext_one hi
  have e2 := ext_mono_r hp (i := i) (j := i) (Nat.le_refl _) (ns.length - 1) (by omega) (by omega)
  have e3 := ext_mono_l hp (j := ns.length - 1) (by omega) i 0 (by omega)
  rw [Nat.zero_add] at e3
  have b := (h.iff hp h1 hm (v := ext ns 0 (ns.length - 1)) (by omega)).mp ((al _ (by omega)).mpr (Int.le_refl _))
  omega
theorem Bar.take {w : Int} {l : List Nat} (h : Bar ns w l) {j : Nat} (hj : 1 ≤ j) : Bar ns w (l.take j) := by
  refine .of (fun z => ?_) (fun a ha => h.lt a (List.mem_of_mem_take ha)) fun i a b ha hb => ?_
  · have := congrArg List.length z
    rw [List.length_take, List.length_nil] at this
    have := List.length_pos_iff.mpr h.ne
    omega
  · rw [List.getElem?_take] at ha hb
    split at ha
    · split at hb
      · have := h.step ha hb
        exact ⟨this.1, this.2.2⟩
      · cases hb
    · cases ha
end
end DL
end
section
namespace DL
open PySem
theorem ne_self {d : D} (h : SeqAt.shaped d = true) (he : PyData.eqv d d = true) : opCmp .ne d d = ret false := by
  show bnd (opEq _ _) _ = _
  unfold opEq
  rw [grd_pos (eqOk_of h h), he]
  rfl
end DL
end
section
namespace DL
open PySem
structure RowM (ns : List Int) (m : Int) : Prop where
  pos : 0 < ns.length
  few : ns.length ≤ 24
  rng : ∀ x ∈ ns, 1 ≤ x ∧ x ≤ 60
  mx : ∀ x ∈ ns, x ≤ m
  mem : m ∈ ns
theorem RowM.m1 {ns : List Int} {m : Int} (h : RowM ns m) : 1 ≤ m ∧ m ≤ 60 := h.rng m h.mem
theorem RowM.sum {ns : List Int} {m : Int} (h : RowM ns m) : 0 ≤ ns.sum ∧ ns.sum ≤ 1440 := by
  have sb := sum_part (i := 0) (k := 24) h.rng h.few
  rwa [List.drop_zero, List.take_of_length_le h.few] at sb
end DL
end
section
namespace DL
open PySem
section
variable {ns bs : List Int} {m l : Int}
theorem RowM.max (R : RowM ns m) : bi1 .max (.tuple (ns.map PyData.int)) = ret (.int m) := by
  obtain ⟨k, e, hk⟩ := max_ints R.pos
  have h1 := R.mx k hk
  have h2 := long_all (max_long e (Int.le_refl k)) m R.mem
  rw [e, show k = m by omega]
end
theorem RowN.ex {ns : List Int} (h : RowN ns) : ∃ m, RowM ns m := by
  obtain ⟨m, e, hm⟩ := max_ints (ns := ns) (by have := h.one; omega)
  exact ⟨m, by have := h.one; omega, h.most, h.words, long_all (max_long e (Int.le_refl m)), hm⟩
end DL
end
section
namespace DL
open PySem
/-- word i of the row without an end -/
def aw (ns : List Int) (i : Nat) : Int := ns.getD (i % ns.length) 0
/-- how wide the m words from p on are -/
def us (ns : List Int) (p : Nat) : Nat → Int
  | 0 => -1
  | m + 1 => us ns p m + 1 + aw ns (p + m)
def wfF (ns : List Int) (w : Int) (p : Nat) : Nat → Nat → Nat
  | 0, m => m
  | f + 1, m => if us ns p (m + 1) ≤ w then wfF ns w p f (m + 1) else m
/-- how many words the line from p on takes -/
def wf (ns : List Int) (w : Int) (p : Nat) : Nat := wfF ns w p 1001 0
/-- where line k starts -/
def fs (ns : List Int) (w : Int) : Nat → Nat
  | 0 => 0
  | k + 1 => fs ns w k + wf ns w (fs ns w k)
/-- a row at a width that it fits -/
structure RowW (ns : List Int) (w : Int) : Prop where
  row : RowN ns
  fit : ∀ x ∈ ns, x ≤ w
  top : w ≤ 2000
section
variable {ns : List Int} {w : Int}
theorem RowW.pos (R : RowW ns w) : 0 < ns.length := by have := R.row.one; omega
theorem aw_mem (h : 0 < ns.length) (i : Nat) : aw ns i ∈ ns := by
  have hl := Nat.mod_lt i h
  unfold aw
  rw [List.getD_eq_getElem?_getD, List.getElem?_eq_getElem hl]
  exact List.getElem_mem hl
theorem RowW.aw (R : RowW ns w) (i : Nat) : 1 ≤ aw ns i ∧ DL.aw ns i ≤ 60 ∧ DL.aw ns i ≤ w :=
  have h := aw_mem R.pos i
  ⟨(R.row.words _ h).1, (R.row.words _ h).2, R.fit _ h⟩
theorem aw_mod (i j : Nat) (h : i % ns.length = j % ns.length) : aw ns i = aw ns j := by
  unfold aw
  rw [h]
theorem us_mod {p q : Nat} (h : p % ns.length = q % ns.length) : ∀ m, us ns p m = us ns q m
  | 0 => rfl
  | m + 1 => by
    unfold us
    rw [us_mod h m, aw_mod (p + m) (q + m) (by rw [Nat.add_mod, h, ← Nat.add_mod])]
theorem wfF_mod {p q : Nat} (h : p % ns.length = q % ns.length) : ∀ f m, wfF ns w p f m = wfF ns w q f m
  | 0, m => rfl
  | f + 1, m => by
    unfold wfF
    rw [us_mod h, wfF_mod h f (m + 1)]
theorem wf_mod {p q : Nat} (h : p % ns.length = q % ns.length) : wf ns w p = wf ns w q := wfF_mod h _ _
theorem us_low (R : RowW ns w) (p : Nat) : ∀ m : Nat, 2 * (m : Int) - 1 ≤ us ns p m
  | 0 => Int.le_refl _
  | m + 1 => by
    have h := us_low R p m
    have := (R.aw (p + m)).1
    unfold us
    omega
theorem wfF_spec (R : RowW ns w) (p : Nat) : ∀ f m, 1001 ≤ m + f → us ns p m ≤ w → us ns p (wfF ns w p f m) ≤ w ∧ w < us ns p (wfF ns w p f m + 1)
  | 0, m, hf, h => by
    have := us_low R p m
    have := R.top
    omega
  | f + 1, m, hf, h => by
    unfold wfF
    by_cases c : us ns p (m + 1) ≤ w
    · rw [if_pos c]
      exact wfF_spec R p f (m + 1) (by omega) c
    · rw [if_neg c]
      exact ⟨h, by omega⟩
theorem wf_spec (R : RowW ns w) (p : Nat) : us ns p (wf ns w p) ≤ w ∧ w < us ns p (wf ns w p + 1) := by
  refine wfF_spec R p 1001 0 (by omega) ?_
  have := R.aw 0
  show (-1 : Int) ≤ w
  omega
theorem wf_pos (R : RowW ns w) (p : Nat) : 1 ≤ wf ns w p := by
  by_cases c : wf ns w p = 0
  · have h := (wf_spec R p).2
    rw [c] at h
    have := R.aw (p + 0)
    unfold us us at h
    omega
  · omega
theorem fs_lt (R : RowW ns w) (k : Nat) : fs ns w k < fs ns w (k + 1) := by
  have := wf_pos R (fs ns w k)
  show fs ns w k < fs ns w k + _
  omega
theorem fs_mono (R : RowW ns w) {j : Nat} : ∀ {k : Nat}, j ≤ k → fs ns w j + (k - j) ≤ fs ns w k
  | 0, h => by
    have : j = 0 := by omega
    subst this
    exact Nat.le_refl _
  | k + 1, h => by
    by_cases c : j = k + 1
    · subst c
      omega
    · have := fs_mono R (k := k) (j := j) (by omega)
      have := fs_lt R k
      omega
theorem fs_lt' (R : RowW ns w) {j k : Nat} (h : j < k) : fs ns w j < fs ns w k := by have := fs_mono R (Nat.le_of_lt h); omega
theorem fs_ge (R : RowW ns w) (k : Nat) : k ≤ fs ns w k := by
  have := fs_mono R (Nat.zero_le k)
  omega
/-- from equal places on the lines go alike -/
theorem fs_round {i j : Nat} (hij : i ≤ j) (h : fs ns w i % ns.length = fs ns w j % ns.length) (hm : fs ns w i ≤ fs ns w j) : ∀ k, fs ns w (j + k) = fs ns w (i + k) + (fs ns w j - fs ns w i)
  | 0 => by simp only [Nat.add_zero]; omega
  | k + 1 => by
    have ih := fs_round hij h hm k
    have e : wf ns w (fs ns w (j + k)) = wf ns w (fs ns w (i + k)) := wf_mod (by
      rw [ih]
      have d : (fs ns w j - fs ns w i) % ns.length = 0 := Nat.sub_mod_eq_zero_of_mod_eq h.symm
      rw [Nat.add_mod, d, Nat.add_zero, Nat.mod_mod])
    show fs ns w (j + k) + wf ns w (fs ns w (j + k)) = fs ns w (i + k) + wf ns w (fs ns w (i + k)) + _
    rw [e, ih]
    omega
/-- the round: the first start that comes again within the row is b, first at line K -/
structure Rnd (ns : List Int) (w : Int) (b K : Nat) : Prop where
  lt : b < K
  same : fs ns w b % ns.length = fs ns w K % ns.length
  ne : ∀ i j, i < j → j < K → fs ns w i % ns.length ≠ fs ns w j % ns.length
theorem pigeon : ∀ (n : Nat) (f : Nat → Nat), (∀ i, i ≤ n → f i < n) → ∃ i j, i < j ∧ j ≤ n ∧ f i = f j
  | 0, f, h => absurd (h 0 (Nat.le_refl _)) (by omega)
  | n + 1, f, h => by
    by_cases c : ∃ i, i ≤ n ∧ f i = f (n + 1)
    · obtain ⟨i, h1, h2⟩ := c
      exact ⟨i, n + 1, by omega, Nat.le_refl _, h2⟩
    · have c : ∀ i, i ≤ n → f i ≠ f (n + 1) := fun i hi e => c ⟨i, hi, e⟩
      have hv := h (n + 1) (Nat.le_refl _)
      obtain ⟨i, j, h1, h2, h3⟩ := pigeon n (fun i => if f i > f (n + 1) then f i - 1 else f i) fun i hi => by
        have a := h i (by omega)
        have b := c i hi
        show (if f i > f (n + 1) then f i - 1 else f i) < n
        split <;> omega
      refine ⟨i, j, h1, by omega, ?_⟩
      have a := c i (by omega)
      have b := c j h2
      have h3 : (if f i > f (n + 1) then f i - 1 else f i) = (if f j > f (n + 1) then f j - 1 else f j) := h3
      split at h3 <;> split at h3 <;> omega
theorem Rnd.ex (R : RowW ns w) : ∃ b K, Rnd ns w b K ∧ K ≤ ns.length := by
  have step : ∀ k : Nat, (∃ b K, Rnd ns w b K ∧ K < k) ∨ ∀ i j, i < j → j < k → fs ns w i % ns.length ≠ fs ns w j % ns.length := by
    intro k
    induction k with
    | zero => exact .inr fun i j _ h => by omega
    | succ k ih =>
      rcases ih with ⟨b, K, h1, h2⟩ | ih
      · exact .inl ⟨b, K, h1, by omega⟩
      · by_cases c : ∃ i, i < k ∧ fs ns w i % ns.length = fs ns w k % ns.length
        · obtain ⟨i, h1, h2⟩ := c
          exact .inl ⟨i, k, ⟨h1, h2, ih⟩, by omega⟩
        · refine .inr fun i j hij hj => ?_
          by_cases c2 : j = k
          · rw [c2]
            exact fun e => c ⟨i, by omega, e⟩
          · exact ih i j hij (by omega)
  rcases step (ns.length + 1) with ⟨b, K, h1, h2⟩ | h
  · exact ⟨b, K, h1, by omega⟩
  · obtain ⟨i, j, h1, h2, h3⟩ := pigeon ns.length (fun i => fs ns w i % ns.length) fun i _ => Nat.mod_lt _ R.pos
    exact absurd h3 (h i j h1 (by omega))
variable {b K : Nat}
/-- so many words a round has -/
def rw' (ns : List Int) (w : Int) (b K : Nat) : Nat := fs ns w K - fs ns w b
theorem Rnd.next (R : RowW ns w) (r : Rnd ns w b K) {k : Nat} (h : b ≤ k) : fs ns w (k + (K - b)) = fs ns w k + rw' ns w b K := by
  have lt := fs_lt' R r.lt
  have := r.lt
  have e := fs_round (Nat.le_of_lt r.lt) r.same (Nat.le_of_lt lt) (k - b)
  rw [show K + (k - b) = k + (K - b) by omega, show b + (k - b) = k by omega] at e
  exact e
/-- n lines start before q -/
structure Bel (ns : List Int) (w : Int) (q n : Nat) : Prop where
  lo : ∀ k, k < n → fs ns w k < q
  hi : q ≤ fs ns w n
theorem Bel.ex (R : RowW ns w) (q : Nat) : ∃ n, Bel ns w q n ∧ n ≤ q := by
  have step : ∀ k : Nat, (∃ n, Bel ns w q n ∧ n ≤ k) ∨ ∀ i, i ≤ k → fs ns w i < q := by
    intro k
    induction k with
    | zero =>
      by_cases c : fs ns w 0 < q
      · exact .inr fun i hi => by rw [show i = 0 by omega]; exact c
      · exact .inl ⟨0, ⟨fun k h => by omega, by omega⟩, Nat.le_refl _⟩
    | succ k ih =>
      rcases ih with ⟨n, h1, h2⟩ | ih
      · exact .inl ⟨n, h1, by omega⟩
      · by_cases c : fs ns w (k + 1) < q
        · refine .inr fun i hi => ?_
          by_cases c2 : i = k + 1
          · rw [c2]; exact c
          · exact ih i (by omega)
        · exact .inl ⟨k + 1, ⟨fun i hi => ih i (by omega), by omega⟩, Nat.le_refl _⟩
  rcases step q with h | h
  · exact h
  · have := h q (Nat.le_refl _)
    have := fs_ge R q
    omega
theorem Bel.iff (R : RowW ns w) {q n : Nat} (h : Bel ns w q n) {k : Nat} : fs ns w k < q ↔ k < n := by
  constructor
  · intro a
    by_cases c : k < n
    · exact c
    · have := fs_mono R (j := n) (k := k) (by omega)
      have := h.hi
      omega
  · exact h.lo k
theorem Bel.mono (R : RowW ns w) {q p n m : Nat} (h : Bel ns w q n) (g : Bel ns w p m) (hq : q ≤ p) : n ≤ m := by
  by_cases c : n ≤ m
  · exact c
  · have := h.lo m (by omega)
    have := g.hi
    omega
theorem Bel.pos (R : RowW ns w) {q n : Nat} (h : Bel ns w q n) (hq : 0 < q) : 1 ≤ n := by
  have := (h.iff R (k := 0)).mp (by show 0 < q; exact hq)
  omega
end
end DL
end
section
namespace DL
open PySem
/-- a while that draws nothing and returns from within -/
inductive RunsR (t : XT) (s : XS) : Nat → Env → D → Prop
  | last {E : Env} {d : D} : t E = ret true → s E = ret (.rt d) → RunsR t s 0 E d
  | turn {k : Nat} {E E' : Env} {d : D} : t E = ret true → s E = ret (.nx E') → RunsR t s k E' d → RunsR t s (k + 1) E d
theorem RunsR.at_ {t : XT} {s : XS} : ∀ {k : Nat} {E : Env} {d : D}, RunsR t s k E d → ∀ n, whileL t s n E = if k < n then ret (.rt d) else stuck
  | _, _, _, _, 0 => by simp [whileL]
  | _, E, _, .last h h2, n + 1 => by
    show bnd (t E) _ = _
    rw [h, bnd_ret, if_pos rfl, h2, bnd_ret, if_pos (Nat.succ_pos n)]
  | _, E, _, .turn (k := k) (E' := E') h1 h2 r, n + 1 => by
    show bnd (t E) _ = _
    rw [h1, bnd_ret, if_pos rfl, h2, bnd_ret]
    show whileL t s n E' = _
    rw [RunsR.at_ r n]
    by_cases h : k < n
    · rw [if_pos h, if_pos (by omega)]
    · rw [if_neg h, if_neg (by omega)]
theorem RunsR.eq {t : XT} {s : XS} {k : Nat} {E : Env} {d : D} (r : RunsR t s k E d) : sWhile t s E = ret (.rt d) := by
  funext c P X
  show (∃ n, whileL t s n E c P X) = _
  refine propext ⟨fun ⟨n, h⟩ => ?_, fun h => ⟨k + 1, ?_⟩⟩
  · rw [r.at_ n] at h
    split at h
    · exact h
    · exact h.elim
  · rw [r.at_ (k + 1), if_pos (Nat.lt_succ_self k)]
    exact h
end DL
end
section
namespace DL
open PySem
theorem x_ixOf (a b : XE) (E : Env) : eIxOf a b E = bnd (a E) fun x => match x with | .list xs => bnd (b E) fun y => opIxOf (.list xs) y | _ => stuck := id rfl
end DL
end
section
namespace DL
open PySem
section
variable {ns : List Int} {w : Int}
theorem RowW.long (R : RowW ns w) : Long ns w none := .no fun j x hx => R.fit x (List.mem_of_getElem? hx)
theorem RowW.of (r : RowN ns) (h : Long ns w none) (hw : w ≤ 2000) : RowW ns w := ⟨r, long_all h, hw⟩
/-- where the line k lines behind p starts -/
def fp (ns : List Int) (w : Int) (p : Nat) : Nat → Nat
  | 0 => p
  | k + 1 => fp ns w p k + wf ns w (fp ns w p k)
def ad (ns : List Int) (w : Int) (p k : Nat) : Nat := fp ns w p k - p
end
end DL
end
section
namespace DL
open PySem
end DL
end
section
namespace DL
open PySem
end DL
end
section
namespace DL
open PySem
theorem RowN.tame {ns : List Int} (h : RowN ns) : Tame 30 1 (.tuple (ns.map PyData.int)) := (tame_tup (tame_ints fun x hx => by have := h.words x hx; omega)).mono (by have := h.most; omega) (by decide)
end DL
end
section
namespace DL
open PySem
end DL
end
section
namespace DL
open PySem
end DL
end
section
namespace DL
open PySem
def wr (ns : List Int) : D := wD (.tuple (ns.map PyData.int))
theorem x_held (a : XE) (E : Env) : eHeld a E = bnd (a E) heldOf := id rfl
theorem x_m1 (f : Fn) (a : XE) (E : Env) : eM1 f a E = bnd (a E) (onW f []) := id rfl
theorem x_p1 (f : Fn) (a : XE) (E : Env) : eP1 f a E = bnd (a E) fun x => noX (onW f [] x) := id rfl
theorem x_m2 (f : Fn) (a b : XE) (E : Env) : eM2 f a b E = bnd (a E) fun x => grd (isWr x = true) (bnd (b E) fun y => onW f [y] x) := id rfl
theorem x_o2 (f : Fn) (a b : XE) (E : Env) : eO2 f a b E = bnd (a E) fun x => bnd (b E) fun y => grd (okW y) (onW f [y] x) := id rfl
theorem x_inW (f : Fn) (a b : XE) (E : Env) : eInW f a b E = bnd (a E) fun x => bnd (b E) fun y => bnd (onW f [x] y) boolW := id rfl
theorem x_eqW (f : Fn) (a b : XE) (E : Env) : eEqW f a b E = bnd (a E) fun x => bnd (b E) fun y => grd (okW y) (bnd (onW f [y] x) boolW) := id rfl
theorem x_lenW (f : Fn) (a : XE) (E : Env) : eLenW f a E = bnd (a E) fun x => bnd (noX (onW f [] x)) lenW_ := id rfl
theorem x_strW (f : Fn) (a : XE) (E : Env) : eStrW f a E = bnd (a E) fun x => bnd (noX (onW f [] x)) strW_ := id rfl
theorem x_mkW (f : Fn) (a : XE) (E : Env) : eMkW f a E = bnd (a E) fun x => f [x] := id rfl
theorem x_ofW (f : Fn) (a : XA) (E : Env) : eOfW f a E = bnd (a E) fun xs => grd (small xs.length) (f [.tuple xs]) := id rfl
theorem x_isW (a : XE) (E : Env) : eIsW a E = bnd (a E) isWD := id rfl
theorem held_wr (ns : List Int) : heldOf (wr ns) = ret (.tuple (ns.map PyData.int)) := id rfl
theorem g_isW {α : Type} (ns : List Int) (m : W α) : grd (isWr (wr ns) = true) m = m := grd_pos rfl m
theorem g_okW {α : Type} (ns : List Int) (m : W α) : grd (okW (wr ns)) m = m := grd_pos (.inr rfl) m
theorem g_okI {α : Type} (i : Int) (m : W α) : grd (okW (.int i)) m = m := grd_pos (.inl rfl) m
theorem on_wr (f : Fn) (es : List D) (ns : List Int) : onW f es (wr ns) = f (wr ns :: es) := id rfl
theorem isWD_wr (ns : List Int) : isWD (wr ns) = ret (.bool true) := grd_pos (.inr rfl) _
theorem boolW_b (b : Bool) : boolW (.bool b) = ret (.bool b) := id rfl
theorem strW_s (x : Str) : strW_ (.str x) = ret (.str x) := id rfl
theorem mk_d {u : Nat} {d : D} (h : lf u d = true) : w_WR_init_0 [d] = if isNone (rowErr d) = true then ret (wD d) else thr ⟨"BadRow", [(Fl.s .error, rowErr d)]⟩ := by
  show bnd ((sSeq _ _) [.stm, .val d, .unk]) mkEnd = _
  simp only [x_var, x_con, x_bin, x_neg, x_cmp, x_chain, x_tTru, x_tNot, x_tAnd, x_tOr, x_tBool, x_tYes, x_not, x_and, x_or, x_if, x_b1, x_b2, x_is, x_idx, x_oNone, x_oSome, x_cut, x_aNil, x_aCons, x_tup, x_lst, x_call, x_callS,
    x_iSeq, x_iRng1, x_iRng2, x_bor, x_tBor, x_put1, List.map_cons, List.map_nil, List.cons_append, List.nil_append, List.length_cons, List.length_nil, Nat.zero_add, Nat.reduceAdd, Nat.reduceSub, List.reduceReplicate, start,
    List.getElem?_cons_zero, List.getElem?_cons_succ, List.set_cons_zero, List.set_cons_succ, bnd_ret, bnd_assoc, bnd_grd, b1_if, bnd_ite, small, Nat.reduceLeDiff, grd_true, o_add, o_sub, o_neg, o_eq, o_ne, o_lt, o_le, o_gt, o_ge, o_eqS, o_neS,
    decide_eq_true_eq, reduceIte, decide_true, decide_false, Bool.not_true, Bool.not_false, Bool.false_eq_true, itemsOf, asInt, bi2, endOf, isTy,
    grd_tt, nx_int, nx_bool, nx_str, nx_none, nx_tup, nx_lst, x_isC, x_fld, x_in, x_count, x_lstR, x_tupR, x_raise, x_star, bnd_thr, noX_ret, fld_x, exn_d, eSetO, Out.clear, List.zip_cons_cons, List.zip_nil_left, List.zip_nil_right, s_asg, s_par, s_own, s_parO, s_put, s_expr, s_ret, s_skip, s_seq, s_rel, x_asg, x_par, x_own, x_parO, x_put, x_expr, x_ret, x_retN, x_skip, x_rel, x_app, x_setI, x_sIf, x_for, x_brk, x_cnt, row_error_d h, o_notN]
  cases isNone (rowErr d) <;> rfl
theorem row_wr (ns : List Int) : w_WR_row_0 [wr ns] = ret (.tuple (ns.map PyData.int)) := by
  refine (f_fn (by rfl)).trans ?_
  simp only [x_var, x_con, x_bin, x_neg, x_cmp, x_chain, x_tTru, x_tNot, x_tAnd, x_tOr, x_tBool, x_tYes, x_not, x_and, x_or, x_if, x_b1, x_b2, x_is, x_idx, x_oNone, x_oSome, x_cut, x_aNil, x_aCons, x_tup, x_lst, x_call, x_callS,
    x_iSeq, x_iRng1, x_iRng2, x_bor, x_tBor, x_put1, List.map_cons, List.map_nil, List.cons_append, List.nil_append, List.length_cons, List.length_nil, Nat.zero_add, Nat.reduceAdd, Nat.reduceSub, List.reduceReplicate, start,
    List.getElem?_cons_zero, List.getElem?_cons_succ, List.set_cons_zero, List.set_cons_succ, bnd_ret, bnd_assoc, bnd_grd, b1_if, bnd_ite, small, Nat.reduceLeDiff, grd_true, o_add, o_sub, o_neg, o_eq, o_ne, o_lt, o_le, o_gt, o_ge, o_eqS, o_neS,
    decide_eq_true_eq, reduceIte, decide_true, decide_false, Bool.not_true, Bool.not_false, Bool.false_eq_true, itemsOf, asInt, bi2, endOf, isTy,
    grd_tt, nx_int, nx_bool, nx_str, nx_none, nx_tup, nx_lst, x_isC, x_fld, x_in, x_count, x_lstR, x_tupR, x_raise, x_star, bnd_thr, noX_ret, fld_x, exn_d, eSetO, Out.clear, List.zip_cons_cons, List.zip_nil_left, List.zip_nil_right, s_asg, s_par, s_own, s_parO, s_put, s_expr, s_ret, s_skip, s_seq, s_rel, x_asg, x_par, x_own, x_parO, x_put, x_expr, x_ret, x_retN, x_skip, x_rel, x_app, x_setI, x_sIf, x_for, x_brk, x_cnt, x_held, held_wr]
theorem len_wr (ns : List Int) : w_WR_len_0 [wr ns] = ret (.int ns.length) := by
  refine (f_fn (by rfl)).trans ?_
  try simp only [x_var, x_con, x_bin, x_neg, x_cmp, x_chain, x_tTru, x_tNot, x_tAnd, x_tOr, x_tBool, x_tYes, x_not, x_and, x_or, x_if, x_b1, x_b2, x_is, x_idx, x_oNone, x_oSome, x_cut, x_aNil, x_aCons, x_tup, x_lst, x_call, x_callS,
    x_iSeq, x_iRng1, x_iRng2, x_bor, x_tBor, x_put1, List.map_cons, List.map_nil, List.cons_append, List.nil_append, List.length_cons, List.length_nil, Nat.zero_add, Nat.reduceAdd, Nat.reduceSub, List.reduceReplicate, start,
    List.getElem?_cons_zero, List.getElem?_cons_succ, List.set_cons_zero, List.set_cons_succ, bnd_ret, bnd_assoc, bnd_grd, b1_if, bnd_ite, small, Nat.reduceLeDiff, grd_true, o_add, o_sub, o_neg, o_eq, o_ne, o_lt, o_le, o_gt, o_ge, o_eqS, o_neS,
    decide_eq_true_eq, reduceIte, decide_true, decide_false, Bool.not_true, Bool.not_false, Bool.false_eq_true, itemsOf, asInt, endOf, isTy,
    grd_tt, nx_int, nx_bool, nx_str, nx_none, nx_tup, nx_lst, x_isC, x_fld, x_in, x_count, x_lstR, x_tupR, x_raise, x_star, bnd_thr, noX_ret, fld_x, exn_d, eSetO, Out.clear, List.zip_cons_cons, List.zip_nil_left, List.zip_nil_right, s_asg, s_par, s_own, s_parO, s_put, s_expr, s_ret, s_skip, s_seq, s_rel, x_asg, x_par, x_own, x_parO, x_put, x_expr, x_ret, x_retN, x_skip, x_rel, x_app, x_setI, x_sIf, x_for, x_brk, x_cnt, b_lenT, b_lenL, b_tupL, b_tupT, b_max2, b_min2, o_addL, o_addT, cut_ints, sum_ints, s_chk, s_for, s_brk, s_cnt, s_retN, t_bool, g_rng, g_le, List.length_map, x_held, held_wr]
def repI (k : Int) (a : List Int) : List Int := (List.replicate k.toNat a).flatten
theorem repI_len (k : Int) (a : List Int) : (repI k a).length = k.toNat * a.length := by
  unfold repI
  rw [List.length_flatten, List.map_replicate, List.sum_replicate_nat]
theorem repI_mem {k : Int} {a : List Int} {x : Int} (h : x ∈ repI k a) : x ∈ a := by
  unfold repI at h
  obtain ⟨l, hl, hx⟩ := List.mem_flatten.mp h
  rw [(List.mem_replicate.mp hl).2] at hx
  exact hx
theorem RowN.rep {k : Int} {a : List Int} (h : RowN a) (hk : 1 ≤ k) (hm : k * a.length ≤ 24) : RowN (repI k a) := by
  have e := repI_len k a
  have e2 : ((k.toNat * a.length : Nat) : Int) = k * a.length := by
    rw [Int.natCast_mul, Int.toNat_of_nonneg (by omega)]
  refine ⟨?_, by omega, fun x hx => h.words x (repI_mem hx)⟩
  rw [e]
  exact Nat.mul_pos (by omega) h.one
theorem check_width_d {d : D} (h : noXn d = true) : w_check_width_0 [d] = if intIn 1 2000 d = true then ret .none else thr (xV "NoWidth" d) := by
  refine (f_fn (by rfl)).trans ?_
  simp only [x_var, x_con, x_bin, x_neg, x_cmp, x_chain, x_tTru, x_tNot, x_tAnd, x_tOr, x_tBool, x_tYes, x_not, x_and, x_or, x_if, x_b1, x_b2, x_is, x_idx, x_oNone, x_oSome, x_cut, x_aNil, x_aCons, x_tup, x_lst, x_call, x_callS,
    x_iSeq, x_iRng1, x_iRng2, x_bor, x_tBor, x_put1, List.map_cons, List.map_nil, List.cons_append, List.nil_append, List.length_cons, List.length_nil, Nat.zero_add, Nat.reduceAdd, Nat.reduceSub, List.reduceReplicate, start,
    List.getElem?_cons_zero, List.getElem?_cons_succ, List.set_cons_zero, List.set_cons_succ, bnd_ret, bnd_assoc, bnd_grd, b1_if, bnd_ite, small, Nat.reduceLeDiff, grd_true, o_add, o_sub, o_neg, o_eq, o_ne, o_lt, o_le, o_gt, o_ge, o_eqS, o_neS,
    decide_eq_true_eq, reduceIte, decide_true, decide_false, Bool.not_true, Bool.not_false, Bool.false_eq_true, itemsOf, asInt, bi2, endOf, isTy,
    grd_tt, nx_int, nx_bool, nx_str, nx_none, nx_tup, nx_lst, x_isC, x_fld, x_in, x_count, x_lstR, x_tupR, x_raise, x_star, bnd_thr, noX_ret, fld_x, exn_d, eSetO, Out.clear, List.zip_cons_cons, List.zip_nil_left, List.zip_nil_right, s_asg, s_par, s_own, s_parO, s_put, s_expr, s_ret, s_skip, s_seq, s_rel, x_asg, x_par, x_own, x_parO, x_put, x_expr, x_ret, x_retN, x_skip, x_rel, x_app, x_setI, x_sIf, x_for, x_brk, x_cnt, is_integer_d h]
  cases intIn 1 2000 d <;> rfl
theorem call_wr {a : List Int} {d : D} (hd : noXn d = true) : w_WR_call_0 [wr a, d] = if intIn 1 2000 d = true then w_starts_at_0 [.tuple (a.map PyData.int), d] else thr (xV "NoWidth" d) := by
  refine (f_fn (by rfl)).trans ?_
  rcases (show intIn 1 2000 d = true ∨ intIn 1 2000 d = false by cases intIn 1 2000 d <;> simp) with z | z
  · simp only [x_var, x_con, x_bin, x_neg, x_cmp, x_chain, x_tTru, x_tNot, x_tAnd, x_tOr, x_tBool, x_tYes, x_not, x_and, x_or, x_if, x_b1, x_b2, x_is, x_idx, x_oNone, x_oSome, x_cut, x_aNil, x_aCons, x_tup, x_lst, x_call, x_callS,
    x_iSeq, x_iRng1, x_iRng2, x_bor, x_tBor, x_put1, List.map_cons, List.map_nil, List.cons_append, List.nil_append, List.length_cons, List.length_nil, Nat.zero_add, Nat.reduceAdd, Nat.reduceSub, List.reduceReplicate, start,
    List.getElem?_cons_zero, List.getElem?_cons_succ, List.set_cons_zero, List.set_cons_succ, bnd_ret, bnd_assoc, bnd_grd, b1_if, bnd_ite, small, Nat.reduceLeDiff, grd_true, o_add, o_sub, o_neg, o_eq, o_ne, o_lt, o_le, o_gt, o_ge, o_eqS, o_neS,
    decide_eq_true_eq, reduceIte, decide_true, decide_false, Bool.not_true, Bool.not_false, Bool.false_eq_true, itemsOf, asInt, bi2, endOf, isTy,
    grd_tt, nx_int, nx_bool, nx_str, nx_none, nx_tup, nx_lst, x_isC, x_fld, x_in, x_count, x_lstR, x_tupR, x_raise, x_star, bnd_thr, noX_ret, fld_x, exn_d, eSetO, Out.clear, List.zip_cons_cons, List.zip_nil_left, List.zip_nil_right, s_asg, s_par, s_own, s_parO, s_put, s_expr, s_ret, s_skip, s_seq, s_rel, x_asg, x_par, x_own, x_parO, x_put, x_expr, x_ret, x_retN, x_skip, x_rel, x_app, x_setI, x_sIf, x_for, x_brk, x_cnt, s_expr, check_width_d hd, z, x_held, held_wr]
    exact bnd_id _
  · simp only [x_var, x_con, x_bin, x_neg, x_cmp, x_chain, x_tTru, x_tNot, x_tAnd, x_tOr, x_tBool, x_tYes, x_not, x_and, x_or, x_if, x_b1, x_b2, x_is, x_idx, x_oNone, x_oSome, x_cut, x_aNil, x_aCons, x_tup, x_lst, x_call, x_callS,
    x_iSeq, x_iRng1, x_iRng2, x_bor, x_tBor, x_put1, List.map_cons, List.map_nil, List.cons_append, List.nil_append, List.length_cons, List.length_nil, Nat.zero_add, Nat.reduceAdd, Nat.reduceSub, List.reduceReplicate, start,
    List.getElem?_cons_zero, List.getElem?_cons_succ, List.set_cons_zero, List.set_cons_succ, bnd_ret, bnd_assoc, bnd_grd, b1_if, bnd_ite, small, Nat.reduceLeDiff, grd_true, o_add, o_sub, o_neg, o_eq, o_ne, o_lt, o_le, o_gt, o_ge, o_eqS, o_neS,
    decide_eq_true_eq, reduceIte, decide_true, decide_false, Bool.not_true, Bool.not_false, Bool.false_eq_true, itemsOf, asInt, bi2, endOf, isTy,
    grd_tt, nx_int, nx_bool, nx_str, nx_none, nx_tup, nx_lst, x_isC, x_fld, x_in, x_count, x_lstR, x_tupR, x_raise, x_star, bnd_thr, noX_ret, fld_x, exn_d, eSetO, Out.clear, List.zip_cons_cons, List.zip_nil_left, List.zip_nil_right, s_asg, s_par, s_own, s_parO, s_put, s_expr, s_ret, s_skip, s_seq, s_rel, x_asg, x_par, x_own, x_parO, x_put, x_expr, x_ret, x_retN, x_skip, x_rel, x_app, x_setI, x_sIf, x_for, x_brk, x_cnt, s_expr, check_width_d hd, z]
theorem eq_wr (a b : List Int) : w_WR_eq_0 [wr a, wr b] = ret (.bool (decide (a = b))) := by
  refine (f_fn (by rfl)).trans ?_
  simp only [x_var, x_con, x_bin, x_neg, x_cmp, x_chain, x_tTru, x_tNot, x_tAnd, x_tOr, x_tBool, x_tYes, x_not, x_and, x_or, x_if, x_b1, x_b2, x_is, x_idx, x_oNone, x_oSome, x_cut, x_aNil, x_aCons, x_tup, x_lst, x_call, x_callS,
    x_iSeq, x_iRng1, x_iRng2, x_bor, x_tBor, x_put1, List.map_cons, List.map_nil, List.cons_append, List.nil_append, List.length_cons, List.length_nil, Nat.zero_add, Nat.reduceAdd, Nat.reduceSub, List.reduceReplicate, start,
    List.getElem?_cons_zero, List.getElem?_cons_succ, List.set_cons_zero, List.set_cons_succ, bnd_ret, bnd_assoc, bnd_grd, b1_if, bnd_ite, small, Nat.reduceLeDiff, grd_true, o_add, o_sub, o_neg, o_eq, o_ne, o_lt, o_le, o_gt, o_ge, o_eqS, o_neS,
    decide_eq_true_eq, reduceIte, decide_true, decide_false, Bool.not_true, Bool.not_false, Bool.false_eq_true, itemsOf, asInt, bi2, endOf, isTy,
    grd_tt, nx_int, nx_bool, nx_str, nx_none, nx_tup, nx_lst, x_isC, x_fld, x_in, x_count, x_lstR, x_tupR, x_raise, x_star, bnd_thr, noX_ret, fld_x, exn_d, eSetO, Out.clear, List.zip_cons_cons, List.zip_nil_left, List.zip_nil_right, s_asg, s_par, s_own, s_parO, s_put, s_expr, s_ret, s_skip, s_seq, s_rel, x_asg, x_par, x_own, x_parO, x_put, x_expr, x_ret, x_retN, x_skip, x_rel, x_app, x_setI, x_sIf, x_for, x_brk, x_cnt, x_isW, isWD_wr, t_bool, x_held, held_wr, o_eqT]
theorem RowN.app {a b : List Int} (ha : RowN a) (hb : RowN b) (h : a.length + b.length ≤ 24) : RowN (a ++ b) := ⟨by rw [List.length_append]; have := ha.one; omega, by rw [List.length_append]; omega, fun x hx => (List.mem_append.mp hx).elim (ha.words x) (hb.words x)⟩
theorem RowN.rev {a : List Int} (ha : RowN a) : RowN a.reverse := ⟨by rw [List.length_reverse]; exact ha.one, by rw [List.length_reverse]; exact ha.most, fun x hx => ha.words x (List.mem_reverse.mp hx)⟩
end DL
end
section
namespace DL
open PySem
section
variable {E : Env} {n k : Nat} {Q : Out → Prop} {b s : XS}
theorem Ok.par {i j : Nat} {x y : XE} {v w : D} (h : x E = DL.ret v) (h2 : y E = DL.ret w) (z : Ok (b ((E.set i (.val v)).set j (.val w))) n Q) : Ok (sSeq (sPar i j x y) b E) n Q := by
  rw [s_par, h, bnd_ret, h2, bnd_ret]
  exact z
theorem Ok.put {tg : Tg} {e : XE} {d : D} {E1 : Env} (h : e E = DL.ret d) (h2 : tg.put d E = some E1) (z : Ok (b E1) n Q) : Ok (sSeq (sPut tg e) b E) n Q := by
  have e1 : sPut tg e E = DL.ret (Out.nx E1) := by
    unfold sPut
    rw [h, bnd_ret, h2]
  rw [x_seq, e1, bnd_ret]
  exact z
/-- a test that fails -/
theorem Ok.no {t : XT} {a : XS} (h : t E = DL.ret false) (z : Ok (b E) n Q) : Ok (sSeq (sIf t a sSkip) b E) n Q := by
  rw [s_if, h, bnd_ret, if_neg (by decide), s_skip]
  exact z
theorem it_rng {a : Int} (h : 0 ≤ a ∧ a ≤ 1000000) : iRng1 (eCon (.int a)) E = DL.ret (rng 0 a) := by
  rw [x_iRng1, x_con, bnd_ret]
  exact grd_pos (by unfold rngOk; omega) _
theorem row_ok {most : Int} (h : 1 ≤ most ∧ most ≤ 24) : Ok (w__law_row_drawn_0 [.int most]) 60 fun d => ∃ ns : List Int, d = .tuple (ns.map PyData.int) ∧ RowN ns ∧ (ns.length : Int) ≤ most := by
  refine (row_drawn_0 h).imp ?_
  rintro r ⟨ns, rfl, a1, a2, hn⟩
  exact ⟨ns, rfl, ⟨by omega, by omega, hn⟩, a2⟩
end
end DL
end
section
namespace DL
open PySem
theorem name_BadLength (fs : List (Str × D)) : w__law_name_0 [xD "BadLength" fs] = ret (.str "BadLength") := by
  unfold w__law_name_0
  refine (f_fn (by rfl)).trans ?_
  have i0 : isC ["BadEdit"] (xD "BadLength" fs) = ret (.bool false) := by rw [isC_x (by decide)]; exact congrArg (fun z => ret (PyData.bool z)) (by decide : _ = false)
  have i1 : isC ["BadEdits"] (xD "BadLength" fs) = ret (.bool false) := by rw [isC_x (by decide)]; exact congrArg (fun z => ret (PyData.bool z)) (by decide : _ = false)
  have i2 : isC ["BadLength"] (xD "BadLength" fs) = ret (.bool true) := by rw [isC_x (by decide)]; exact congrArg (fun z => ret (PyData.bool z)) (by decide : _ = true)
  have i3 : isC ["BadRow"] (xD "BadLength" fs) = ret (.bool false) := by rw [isC_x (by decide)]; exact congrArg (fun z => ret (PyData.bool z)) (by decide : _ = false)
  have i4 : isC ["BadText"] (xD "BadLength" fs) = ret (.bool false) := by rw [isC_x (by decide)]; exact congrArg (fun z => ret (PyData.bool z)) (by decide : _ = false)
  have i5 : isC ["BadTimes"] (xD "BadLength" fs) = ret (.bool false) := by rw [isC_x (by decide)]; exact congrArg (fun z => ret (PyData.bool z)) (by decide : _ = false)
  have i6 : isC ["Busy"] (xD "BadLength" fs) = ret (.bool false) := by rw [isC_x (by decide)]; exact congrArg (fun z => ret (PyData.bool z)) (by decide : _ = false)
  have i7 : isC ["LastWord"] (xD "BadLength" fs) = ret (.bool false) := by rw [isC_x (by decide)]; exact congrArg (fun z => ret (PyData.bool z)) (by decide : _ = false)
  have i8 : isC ["NothingToUndo"] (xD "BadLength" fs) = ret (.bool false) := by rw [isC_x (by decide)]; exact congrArg (fun z => ret (PyData.bool z)) (by decide : _ = false)
  have i9 : isC ["Rejected"] (xD "BadLength" fs) = ret (.bool false) := by rw [isC_x (by decide)]; exact congrArg (fun z => ret (PyData.bool z)) (by decide : _ = false)
  have i10 : isC ["TooLong"] (xD "BadLength" fs) = ret (.bool false) := by rw [isC_x (by decide)]; exact congrArg (fun z => ret (PyData.bool z)) (by decide : _ = false)
  have i11 : isC ["TooMany"] (xD "BadLength" fs) = ret (.bool false) := by rw [isC_x (by decide)]; exact congrArg (fun z => ret (PyData.bool z)) (by decide : _ = false)
  have i12 : isC ["TooManyEdits"] (xD "BadLength" fs) = ret (.bool false) := by rw [isC_x (by decide)]; exact congrArg (fun z => ret (PyData.bool z)) (by decide : _ = false)
  have i13 : isC ["TooNarrow"] (xD "BadLength" fs) = ret (.bool false) := by rw [isC_x (by decide)]; exact congrArg (fun z => ret (PyData.bool z)) (by decide : _ = false)
  have i14 : isC ["NoPlace"] (xD "BadLength" fs) = ret (.bool false) := by rw [isC_x (by decide)]; exact congrArg (fun z => ret (PyData.bool z)) (by decide : _ = false)
  have i15 : isC ["NoVersion"] (xD "BadLength" fs) = ret (.bool false) := by rw [isC_x (by decide)]; exact congrArg (fun z => ret (PyData.bool z)) (by decide : _ = false)
  have i16 : isC ["NoWidth"] (xD "BadLength" fs) = ret (.bool false) := by rw [isC_x (by decide)]; exact congrArg (fun z => ret (PyData.bool z)) (by decide : _ = false)
  have i17 : isC ["WrapError"] (xD "BadLength" fs) = ret (.bool true) := by rw [isC_x (by decide)]; exact congrArg (fun z => ret (PyData.bool z)) (by decide : _ = true)
  have i18 : isC ["ValueError"] (xD "BadLength" fs) = ret (.bool true) := by rw [isC_x (by decide)]; exact congrArg (fun z => ret (PyData.bool z)) (by decide : _ = true)
  have i19 : isC ["LookupError"] (xD "BadLength" fs) = ret (.bool false) := by rw [isC_x (by decide)]; exact congrArg (fun z => ret (PyData.bool z)) (by decide : _ = false)
  have c : opCnt (.list [.bool false, .bool false, .bool true, .bool false, .bool false, .bool false, .bool false, .bool false, .bool false, .bool false, .bool false, .bool false, .bool false, .bool false, .bool false, .bool false, .bool false]) (.bool true) = ret (.int 1) := rfl
  have x : opIxOf (.list [.bool false, .bool false, .bool true, .bool false, .bool false, .bool false, .bool false, .bool false, .bool false, .bool false, .bool false, .bool false, .bool false, .bool false, .bool false, .bool false, .bool false]) (.bool true) = ret (.int 2) := rfl
  have q : opIdx (.list [.str "BadEdit", .str "BadEdits", .str "BadLength", .str "BadRow", .str "BadText", .str "BadTimes", .str "Busy", .str "LastWord", .str "NothingToUndo", .str "Rejected", .str "TooLong", .str "TooMany", .str "TooManyEdits", .str "TooNarrow", .str "NoPlace", .str "NoVersion", .str "NoWidth"]) (.int 2) = ret (.str "BadLength") := rfl
  have y : opIdx (.list [.list [.bool true, .bool true, .bool false], .list [.bool false, .bool false, .bool true]]) (.int 0) = ret (.list [.bool true, .bool true, .bool false]) := rfl
  have z : opCmp .ne (.list [.bool true, .bool true, .bool false]) (.list [.bool true, .bool true, .bool false]) = ret false := ne_self (by decide +kernel) (by decide +kernel)
  have g : decide ((13 : Int) < 2) = false := by decide
  have ib : bi1 .int (.bool false) = ret (.int 0) := rfl
  simp only [x_var, x_con, x_bin, x_neg, x_cmp, x_chain, x_tTru, x_tNot, x_tAnd, x_tOr, x_tBool, x_tYes, x_not, x_and, x_or, x_if, x_b1, x_b2, x_is, x_idx, x_oNone, x_oSome, x_cut, x_aNil, x_aCons, x_tup, x_lst, x_call, x_callS,
    x_iSeq, x_iRng1, x_iRng2, x_bor, x_tBor, x_put1, List.map_cons, List.map_nil, List.cons_append, List.nil_append, List.length_cons, List.length_nil, Nat.zero_add, Nat.reduceAdd, Nat.reduceSub, List.reduceReplicate, start,
    List.getElem?_cons_zero, List.getElem?_cons_succ, List.set_cons_zero, List.set_cons_succ, bnd_ret, bnd_assoc, bnd_grd, b1_if, bnd_ite, small, Nat.reduceLeDiff, grd_true, o_add, o_sub, o_neg, o_eq, o_ne, o_lt, o_le, o_gt, o_ge, o_eqS, o_neS,
    decide_eq_true_eq, reduceIte, decide_true, decide_false, Bool.not_true, Bool.not_false, Bool.false_eq_true, itemsOf, asInt, bi2, endOf, isTy,
    grd_tt, nx_int, nx_bool, nx_str, nx_none, nx_tup, nx_lst, x_isC, x_fld, x_in, x_count, x_lstR, x_tupR, x_raise, x_star, bnd_thr, noX_ret, fld_x, exn_d, eSetO, Out.clear, List.zip_cons_cons, List.zip_nil_left, List.zip_nil_right, s_asg, s_par, s_own, s_parO, s_put, s_expr, s_ret, s_skip, s_seq, s_rel, x_asg, x_par, x_own, x_parO, x_put, x_expr, x_ret, x_retN, x_skip, x_rel, x_app, x_setI, x_sIf, x_for, x_brk, x_cnt, s_chk, x_ixOf, i0, i1, i2, i3, i4, i5, i6, i7, i8, i9, i10, i11, i12, i13, i14, i15, i16, i17, i18, i19, c, x, q, y, z, g, ib, add_lst]
  all_goals rfl
theorem name_BadRow (fs : List (Str × D)) : w__law_name_0 [xD "BadRow" fs] = ret (.str "BadRow") := by
  unfold w__law_name_0
  refine (f_fn (by rfl)).trans ?_
  have i0 : isC ["BadEdit"] (xD "BadRow" fs) = ret (.bool false) := by rw [isC_x (by decide)]; exact congrArg (fun z => ret (PyData.bool z)) (by decide : _ = false)
  have i1 : isC ["BadEdits"] (xD "BadRow" fs) = ret (.bool false) := by rw [isC_x (by decide)]; exact congrArg (fun z => ret (PyData.bool z)) (by decide : _ = false)
  have i2 : isC ["BadLength"] (xD "BadRow" fs) = ret (.bool false) := by rw [isC_x (by decide)]; exact congrArg (fun z => ret (PyData.bool z)) (by decide : _ = false)
  have i3 : isC ["BadRow"] (xD "BadRow" fs) = ret (.bool true) := by rw [isC_x (by decide)]; exact congrArg (fun z => ret (PyData.bool z)) (by decide : _ = true)
  have i4 : isC ["BadText"] (xD "BadRow" fs) = ret (.bool false) := by rw [isC_x (by decide)]; exact congrArg (fun z => ret (PyData.bool z)) (by decide : _ = false)
  have i5 : isC ["BadTimes"] (xD "BadRow" fs) = ret (.bool false) := by rw [isC_x (by decide)]; exact congrArg (fun z => ret (PyData.bool z)) (by decide : _ = false)
  have i6 : isC ["Busy"] (xD "BadRow" fs) = ret (.bool false) := by rw [isC_x (by decide)]; exact congrArg (fun z => ret (PyData.bool z)) (by decide : _ = false)
  have i7 : isC ["LastWord"] (xD "BadRow" fs) = ret (.bool false) := by rw [isC_x (by decide)]; exact congrArg (fun z => ret (PyData.bool z)) (by decide : _ = false)
  have i8 : isC ["NothingToUndo"] (xD "BadRow" fs) = ret (.bool false) := by rw [isC_x (by decide)]; exact congrArg (fun z => ret (PyData.bool z)) (by decide : _ = false)
  have i9 : isC ["Rejected"] (xD "BadRow" fs) = ret (.bool false) := by rw [isC_x (by decide)]; exact congrArg (fun z => ret (PyData.bool z)) (by decide : _ = false)
  have i10 : isC ["TooLong"] (xD "BadRow" fs) = ret (.bool false) := by rw [isC_x (by decide)]; exact congrArg (fun z => ret (PyData.bool z)) (by decide : _ = false)
  have i11 : isC ["TooMany"] (xD "BadRow" fs) = ret (.bool false) := by rw [isC_x (by decide)]; exact congrArg (fun z => ret (PyData.bool z)) (by decide : _ = false)
  have i12 : isC ["TooManyEdits"] (xD "BadRow" fs) = ret (.bool false) := by rw [isC_x (by decide)]; exact congrArg (fun z => ret (PyData.bool z)) (by decide : _ = false)
  have i13 : isC ["TooNarrow"] (xD "BadRow" fs) = ret (.bool false) := by rw [isC_x (by decide)]; exact congrArg (fun z => ret (PyData.bool z)) (by decide : _ = false)
  have i14 : isC ["NoPlace"] (xD "BadRow" fs) = ret (.bool false) := by rw [isC_x (by decide)]; exact congrArg (fun z => ret (PyData.bool z)) (by decide : _ = false)
  have i15 : isC ["NoVersion"] (xD "BadRow" fs) = ret (.bool false) := by rw [isC_x (by decide)]; exact congrArg (fun z => ret (PyData.bool z)) (by decide : _ = false)
  have i16 : isC ["NoWidth"] (xD "BadRow" fs) = ret (.bool false) := by rw [isC_x (by decide)]; exact congrArg (fun z => ret (PyData.bool z)) (by decide : _ = false)
  have i17 : isC ["WrapError"] (xD "BadRow" fs) = ret (.bool true) := by rw [isC_x (by decide)]; exact congrArg (fun z => ret (PyData.bool z)) (by decide : _ = true)
  have i18 : isC ["ValueError"] (xD "BadRow" fs) = ret (.bool true) := by rw [isC_x (by decide)]; exact congrArg (fun z => ret (PyData.bool z)) (by decide : _ = true)
  have i19 : isC ["LookupError"] (xD "BadRow" fs) = ret (.bool false) := by rw [isC_x (by decide)]; exact congrArg (fun z => ret (PyData.bool z)) (by decide : _ = false)
  have c : opCnt (.list [.bool false, .bool false, .bool false, .bool true, .bool false, .bool false, .bool false, .bool false, .bool false, .bool false, .bool false, .bool false, .bool false, .bool false, .bool false, .bool false, .bool false]) (.bool true) = ret (.int 1) := rfl
  have x : opIxOf (.list [.bool false, .bool false, .bool false, .bool true, .bool false, .bool false, .bool false, .bool false, .bool false, .bool false, .bool false, .bool false, .bool false, .bool false, .bool false, .bool false, .bool false]) (.bool true) = ret (.int 3) := rfl
  have q : opIdx (.list [.str "BadEdit", .str "BadEdits", .str "BadLength", .str "BadRow", .str "BadText", .str "BadTimes", .str "Busy", .str "LastWord", .str "NothingToUndo", .str "Rejected", .str "TooLong", .str "TooMany", .str "TooManyEdits", .str "TooNarrow", .str "NoPlace", .str "NoVersion", .str "NoWidth"]) (.int 3) = ret (.str "BadRow") := rfl
  have y : opIdx (.list [.list [.bool true, .bool true, .bool false], .list [.bool false, .bool false, .bool true]]) (.int 0) = ret (.list [.bool true, .bool true, .bool false]) := rfl
  have z : opCmp .ne (.list [.bool true, .bool true, .bool false]) (.list [.bool true, .bool true, .bool false]) = ret false := ne_self (by decide +kernel) (by decide +kernel)
  have g : decide ((13 : Int) < 3) = false := by decide
  have ib : bi1 .int (.bool false) = ret (.int 0) := rfl
  simp only [x_var, x_con, x_bin, x_neg, x_cmp, x_chain, x_tTru, x_tNot, x_tAnd, x_tOr, x_tBool, x_tYes, x_not, x_and, x_or, x_if, x_b1, x_b2, x_is, x_idx, x_oNone, x_oSome, x_cut, x_aNil, x_aCons, x_tup, x_lst, x_call, x_callS,
    x_iSeq, x_iRng1, x_iRng2, x_bor, x_tBor, x_put1, List.map_cons, List.map_nil, List.cons_append, List.nil_append, List.length_cons, List.length_nil, Nat.zero_add, Nat.reduceAdd, Nat.reduceSub, List.reduceReplicate, start,
    List.getElem?_cons_zero, List.getElem?_cons_succ, List.set_cons_zero, List.set_cons_succ, bnd_ret, bnd_assoc, bnd_grd, b1_if, bnd_ite, small, Nat.reduceLeDiff, grd_true, o_add, o_sub, o_neg, o_eq, o_ne, o_lt, o_le, o_gt, o_ge, o_eqS, o_neS,
    decide_eq_true_eq, reduceIte, decide_true, decide_false, Bool.not_true, Bool.not_false, Bool.false_eq_true, itemsOf, asInt, bi2, endOf, isTy,
    grd_tt, nx_int, nx_bool, nx_str, nx_none, nx_tup, nx_lst, x_isC, x_fld, x_in, x_count, x_lstR, x_tupR, x_raise, x_star, bnd_thr, noX_ret, fld_x, exn_d, eSetO, Out.clear, List.zip_cons_cons, List.zip_nil_left, List.zip_nil_right, s_asg, s_par, s_own, s_parO, s_put, s_expr, s_ret, s_skip, s_seq, s_rel, x_asg, x_par, x_own, x_parO, x_put, x_expr, x_ret, x_retN, x_skip, x_rel, x_app, x_setI, x_sIf, x_for, x_brk, x_cnt, s_chk, x_ixOf, i0, i1, i2, i3, i4, i5, i6, i7, i8, i9, i10, i11, i12, i13, i14, i15, i16, i17, i18, i19, c, x, q, y, z, g, ib, add_lst]
  all_goals rfl
theorem name_LastWord (fs : List (Str × D)) : w__law_name_0 [xD "LastWord" fs] = ret (.str "LastWord") := by
  unfold w__law_name_0
  refine (f_fn (by rfl)).trans ?_
  have i0 : isC ["BadEdit"] (xD "LastWord" fs) = ret (.bool false) := by rw [isC_x (by decide)]; exact congrArg (fun z => ret (PyData.bool z)) (by decide : _ = false)
  have i1 : isC ["BadEdits"] (xD "LastWord" fs) = ret (.bool false) := by rw [isC_x (by decide)]; exact congrArg (fun z => ret (PyData.bool z)) (by decide : _ = false)
  have i2 : isC ["BadLength"] (xD "LastWord" fs) = ret (.bool false) := by rw [isC_x (by decide)]; exact congrArg (fun z => ret (PyData.bool z)) (by decide : _ = false)
  have i3 : isC ["BadRow"] (xD "LastWord" fs) = ret (.bool false) := by rw [isC_x (by decide)]; exact congrArg (fun z => ret (PyData.bool z)) (by decide : _ = false)
  have i4 : isC ["BadText"] (xD "LastWord" fs) = ret (.bool false) := by rw [isC_x (by decide)]; exact congrArg (fun z => ret (PyData.bool z)) (by decide : _ = false)
  have i5 : isC ["BadTimes"] (xD "LastWord" fs) = ret (.bool false) := by rw [isC_x (by decide)]; exact congrArg (fun z => ret (PyData.bool z)) (by decide : _ = false)
  have i6 : isC ["Busy"] (xD "LastWord" fs) = ret (.bool false) := by rw [isC_x (by decide)]; exact congrArg (fun z => ret (PyData.bool z)) (by decide : _ = false)
  have i7 : isC ["LastWord"] (xD "LastWord" fs) = ret (.bool true) := by rw [isC_x (by decide)]; exact congrArg (fun z => ret (PyData.bool z)) (by decide : _ = true)
  have i8 : isC ["NothingToUndo"] (xD "LastWord" fs) = ret (.bool false) := by rw [isC_x (by decide)]; exact congrArg (fun z => ret (PyData.bool z)) (by decide : _ = false)
  have i9 : isC ["Rejected"] (xD "LastWord" fs) = ret (.bool false) := by rw [isC_x (by decide)]; exact congrArg (fun z => ret (PyData.bool z)) (by decide : _ = false)
  have i10 : isC ["TooLong"] (xD "LastWord" fs) = ret (.bool false) := by rw [isC_x (by decide)]; exact congrArg (fun z => ret (PyData.bool z)) (by decide : _ = false)
  have i11 : isC ["TooMany"] (xD "LastWord" fs) = ret (.bool false) := by rw [isC_x (by decide)]; exact congrArg (fun z => ret (PyData.bool z)) (by decide : _ = false)
  have i12 : isC ["TooManyEdits"] (xD "LastWord" fs) = ret (.bool false) := by rw [isC_x (by decide)]; exact congrArg (fun z => ret (PyData.bool z)) (by decide : _ = false)
  have i13 : isC ["TooNarrow"] (xD "LastWord" fs) = ret (.bool false) := by rw [isC_x (by decide)]; exact congrArg (fun z => ret (PyData.bool z)) (by decide : _ = false)
  have i14 : isC ["NoPlace"] (xD "LastWord" fs) = ret (.bool false) := by rw [isC_x (by decide)]; exact congrArg (fun z => ret (PyData.bool z)) (by decide : _ = false)
  have i15 : isC ["NoVersion"] (xD "LastWord" fs) = ret (.bool false) := by rw [isC_x (by decide)]; exact congrArg (fun z => ret (PyData.bool z)) (by decide : _ = false)
  have i16 : isC ["NoWidth"] (xD "LastWord" fs) = ret (.bool false) := by rw [isC_x (by decide)]; exact congrArg (fun z => ret (PyData.bool z)) (by decide : _ = false)
  have i17 : isC ["WrapError"] (xD "LastWord" fs) = ret (.bool true) := by rw [isC_x (by decide)]; exact congrArg (fun z => ret (PyData.bool z)) (by decide : _ = true)
  have i18 : isC ["ValueError"] (xD "LastWord" fs) = ret (.bool true) := by rw [isC_x (by decide)]; exact congrArg (fun z => ret (PyData.bool z)) (by decide : _ = true)
  have i19 : isC ["LookupError"] (xD "LastWord" fs) = ret (.bool false) := by rw [isC_x (by decide)]; exact congrArg (fun z => ret (PyData.bool z)) (by decide : _ = false)
  have c : opCnt (.list [.bool false, .bool false, .bool false, .bool false, .bool false, .bool false, .bool false, .bool true, .bool false, .bool false, .bool false, .bool false, .bool false, .bool false, .bool false, .bool false, .bool false]) (.bool true) = ret (.int 1) := rfl
  have x : opIxOf (.list [.bool false, .bool false, .bool false, .bool false, .bool false, .bool false, .bool false, .bool true, .bool false, .bool false, .bool false, .bool false, .bool false, .bool false, .bool false, .bool false, .bool false]) (.bool true) = ret (.int 7) := rfl
  have q : opIdx (.list [.str "BadEdit", .str "BadEdits", .str "BadLength", .str "BadRow", .str "BadText", .str "BadTimes", .str "Busy", .str "LastWord", .str "NothingToUndo", .str "Rejected", .str "TooLong", .str "TooMany", .str "TooManyEdits", .str "TooNarrow", .str "NoPlace", .str "NoVersion", .str "NoWidth"]) (.int 7) = ret (.str "LastWord") := rfl
  have y : opIdx (.list [.list [.bool true, .bool true, .bool false], .list [.bool false, .bool false, .bool true]]) (.int 0) = ret (.list [.bool true, .bool true, .bool false]) := rfl
  have z : opCmp .ne (.list [.bool true, .bool true, .bool false]) (.list [.bool true, .bool true, .bool false]) = ret false := ne_self (by decide +kernel) (by decide +kernel)
  have g : decide ((13 : Int) < 7) = false := by decide
  have ib : bi1 .int (.bool false) = ret (.int 0) := rfl
  simp only [x_var, x_con, x_bin, x_neg, x_cmp, x_chain, x_tTru, x_tNot, x_tAnd, x_tOr, x_tBool, x_tYes, x_not, x_and, x_or, x_if, x_b1, x_b2, x_is, x_idx, x_oNone, x_oSome, x_cut, x_aNil, x_aCons, x_tup, x_lst, x_call, x_callS,
    x_iSeq, x_iRng1, x_iRng2, x_bor, x_tBor, x_put1, List.map_cons, List.map_nil, List.cons_append, List.nil_append, List.length_cons, List.length_nil, Nat.zero_add, Nat.reduceAdd, Nat.reduceSub, List.reduceReplicate, start,
    List.getElem?_cons_zero, List.getElem?_cons_succ, List.set_cons_zero, List.set_cons_succ, bnd_ret, bnd_assoc, bnd_grd, b1_if, bnd_ite, small, Nat.reduceLeDiff, grd_true, o_add, o_sub, o_neg, o_eq, o_ne, o_lt, o_le, o_gt, o_ge, o_eqS, o_neS,
    decide_eq_true_eq, reduceIte, decide_true, decide_false, Bool.not_true, Bool.not_false, Bool.false_eq_true, itemsOf, asInt, bi2, endOf, isTy,
    grd_tt, nx_int, nx_bool, nx_str, nx_none, nx_tup, nx_lst, x_isC, x_fld, x_in, x_count, x_lstR, x_tupR, x_raise, x_star, bnd_thr, noX_ret, fld_x, exn_d, eSetO, Out.clear, List.zip_cons_cons, List.zip_nil_left, List.zip_nil_right, s_asg, s_par, s_own, s_parO, s_put, s_expr, s_ret, s_skip, s_seq, s_rel, x_asg, x_par, x_own, x_parO, x_put, x_expr, x_ret, x_retN, x_skip, x_rel, x_app, x_setI, x_sIf, x_for, x_brk, x_cnt, s_chk, x_ixOf, i0, i1, i2, i3, i4, i5, i6, i7, i8, i9, i10, i11, i12, i13, i14, i15, i16, i17, i18, i19, c, x, q, y, z, g, ib, add_lst]
  all_goals rfl
theorem name_NothingToUndo (fs : List (Str × D)) : w__law_name_0 [xD "NothingToUndo" fs] = ret (.str "NothingToUndo") := by
  unfold w__law_name_0
  refine (f_fn (by rfl)).trans ?_
  have i0 : isC ["BadEdit"] (xD "NothingToUndo" fs) = ret (.bool false) := by rw [isC_x (by decide)]; exact congrArg (fun z => ret (PyData.bool z)) (by decide : _ = false)
  have i1 : isC ["BadEdits"] (xD "NothingToUndo" fs) = ret (.bool false) := by rw [isC_x (by decide)]; exact congrArg (fun z => ret (PyData.bool z)) (by decide : _ = false)
  have i2 : isC ["BadLength"] (xD "NothingToUndo" fs) = ret (.bool false) := by rw [isC_x (by decide)]; exact congrArg (fun z => ret (PyData.bool z)) (by decide : _ = false)
  have i3 : isC ["BadRow"] (xD "NothingToUndo" fs) = ret (.bool false) := by rw [isC_x (by decide)]; exact congrArg (fun z => ret (PyData.bool z)) (by decide : _ = false)
  have i4 : isC ["BadText"] (xD "NothingToUndo" fs) = ret (.bool false) := by rw [isC_x (by decide)]; exact congrArg (fun z => ret (PyData.bool z)) (by decide : _ = false)
  have i5 : isC ["BadTimes"] (xD "NothingToUndo" fs) = ret (.bool false) := by rw [isC_x (by decide)]; exact congrArg (fun z => ret (PyData.bool z)) (by decide : _ = false)
  have i6 : isC ["Busy"] (xD "NothingToUndo" fs) = ret (.bool false) := by rw [isC_x (by decide)]; exact congrArg (fun z => ret (PyData.bool z)) (by decide : _ = false)
  have i7 : isC ["LastWord"] (xD "NothingToUndo" fs) = ret (.bool false) := by rw [isC_x (by decide)]; exact congrArg (fun z => ret (PyData.bool z)) (by decide : _ = false)
  have i8 : isC ["NothingToUndo"] (xD "NothingToUndo" fs) = ret (.bool true) := by rw [isC_x (by decide)]; exact congrArg (fun z => ret (PyData.bool z)) (by decide : _ = true)
  have i9 : isC ["Rejected"] (xD "NothingToUndo" fs) = ret (.bool false) := by rw [isC_x (by decide)]; exact congrArg (fun z => ret (PyData.bool z)) (by decide : _ = false)
  have i10 : isC ["TooLong"] (xD "NothingToUndo" fs) = ret (.bool false) := by rw [isC_x (by decide)]; exact congrArg (fun z => ret (PyData.bool z)) (by decide : _ = false)
  have i11 : isC ["TooMany"] (xD "NothingToUndo" fs) = ret (.bool false) := by rw [isC_x (by decide)]; exact congrArg (fun z => ret (PyData.bool z)) (by decide : _ = false)
  have i12 : isC ["TooManyEdits"] (xD "NothingToUndo" fs) = ret (.bool false) := by rw [isC_x (by decide)]; exact congrArg (fun z => ret (PyData.bool z)) (by decide : _ = false)
  have i13 : isC ["TooNarrow"] (xD "NothingToUndo" fs) = ret (.bool false) := by rw [isC_x (by decide)]; exact congrArg (fun z => ret (PyData.bool z)) (by decide : _ = false)
  have i14 : isC ["NoPlace"] (xD "NothingToUndo" fs) = ret (.bool false) := by rw [isC_x (by decide)]; exact congrArg (fun z => ret (PyData.bool z)) (by decide : _ = false)
  have i15 : isC ["NoVersion"] (xD "NothingToUndo" fs) = ret (.bool false) := by rw [isC_x (by decide)]; exact congrArg (fun z => ret (PyData.bool z)) (by decide : _ = false)
  have i16 : isC ["NoWidth"] (xD "NothingToUndo" fs) = ret (.bool false) := by rw [isC_x (by decide)]; exact congrArg (fun z => ret (PyData.bool z)) (by decide : _ = false)
  have i17 : isC ["WrapError"] (xD "NothingToUndo" fs) = ret (.bool true) := by rw [isC_x (by decide)]; exact congrArg (fun z => ret (PyData.bool z)) (by decide : _ = true)
  have i18 : isC ["ValueError"] (xD "NothingToUndo" fs) = ret (.bool true) := by rw [isC_x (by decide)]; exact congrArg (fun z => ret (PyData.bool z)) (by decide : _ = true)
  have i19 : isC ["LookupError"] (xD "NothingToUndo" fs) = ret (.bool false) := by rw [isC_x (by decide)]; exact congrArg (fun z => ret (PyData.bool z)) (by decide : _ = false)
  have c : opCnt (.list [.bool false, .bool false, .bool false, .bool false, .bool false, .bool false, .bool false, .bool false, .bool true, .bool false, .bool false, .bool false, .bool false, .bool false, .bool false, .bool false, .bool false]) (.bool true) = ret (.int 1) := rfl
  have x : opIxOf (.list [.bool false, .bool false, .bool false, .bool false, .bool false, .bool false, .bool false, .bool false, .bool true, .bool false, .bool false, .bool false, .bool false, .bool false, .bool false, .bool false, .bool false]) (.bool true) = ret (.int 8) := rfl
  have q : opIdx (.list [.str "BadEdit", .str "BadEdits", .str "BadLength", .str "BadRow", .str "BadText", .str "BadTimes", .str "Busy", .str "LastWord", .str "NothingToUndo", .str "Rejected", .str "TooLong", .str "TooMany", .str "TooManyEdits", .str "TooNarrow", .str "NoPlace", .str "NoVersion", .str "NoWidth"]) (.int 8) = ret (.str "NothingToUndo") := rfl
  have y : opIdx (.list [.list [.bool true, .bool true, .bool false], .list [.bool false, .bool false, .bool true]]) (.int 0) = ret (.list [.bool true, .bool true, .bool false]) := rfl
  have z : opCmp .ne (.list [.bool true, .bool true, .bool false]) (.list [.bool true, .bool true, .bool false]) = ret false := ne_self (by decide +kernel) (by decide +kernel)
  have g : decide ((13 : Int) < 8) = false := by decide
  have ib : bi1 .int (.bool false) = ret (.int 0) := rfl
  simp only [x_var, x_con, x_bin, x_neg, x_cmp, x_chain, x_tTru, x_tNot, x_tAnd, x_tOr, x_tBool, x_tYes, x_not, x_and, x_or, x_if, x_b1, x_b2, x_is, x_idx, x_oNone, x_oSome, x_cut, x_aNil, x_aCons, x_tup, x_lst, x_call, x_callS,
    x_iSeq, x_iRng1, x_iRng2, x_bor, x_tBor, x_put1, List.map_cons, List.map_nil, List.cons_append, List.nil_append, List.length_cons, List.length_nil, Nat.zero_add, Nat.reduceAdd, Nat.reduceSub, List.reduceReplicate, start,
    List.getElem?_cons_zero, List.getElem?_cons_succ, List.set_cons_zero, List.set_cons_succ, bnd_ret, bnd_assoc, bnd_grd, b1_if, bnd_ite, small, Nat.reduceLeDiff, grd_true, o_add, o_sub, o_neg, o_eq, o_ne, o_lt, o_le, o_gt, o_ge, o_eqS, o_neS,
    decide_eq_true_eq, reduceIte, decide_true, decide_false, Bool.not_true, Bool.not_false, Bool.false_eq_true, itemsOf, asInt, bi2, endOf, isTy,
    grd_tt, nx_int, nx_bool, nx_str, nx_none, nx_tup, nx_lst, x_isC, x_fld, x_in, x_count, x_lstR, x_tupR, x_raise, x_star, bnd_thr, noX_ret, fld_x, exn_d, eSetO, Out.clear, List.zip_cons_cons, List.zip_nil_left, List.zip_nil_right, s_asg, s_par, s_own, s_parO, s_put, s_expr, s_ret, s_skip, s_seq, s_rel, x_asg, x_par, x_own, x_parO, x_put, x_expr, x_ret, x_retN, x_skip, x_rel, x_app, x_setI, x_sIf, x_for, x_brk, x_cnt, s_chk, x_ixOf, i0, i1, i2, i3, i4, i5, i6, i7, i8, i9, i10, i11, i12, i13, i14, i15, i16, i17, i18, i19, c, x, q, y, z, g, ib, add_lst]
  all_goals rfl
theorem name_TooMany (fs : List (Str × D)) : w__law_name_0 [xD "TooMany" fs] = ret (.str "TooMany") := by
  unfold w__law_name_0
  refine (f_fn (by rfl)).trans ?_
  have i0 : isC ["BadEdit"] (xD "TooMany" fs) = ret (.bool false) := by rw [isC_x (by decide)]; exact congrArg (fun z => ret (PyData.bool z)) (by decide : _ = false)
  have i1 : isC ["BadEdits"] (xD "TooMany" fs) = ret (.bool false) := by rw [isC_x (by decide)]; exact congrArg (fun z => ret (PyData.bool z)) (by decide : _ = false)
  have i2 : isC ["BadLength"] (xD "TooMany" fs) = ret (.bool false) := by rw [isC_x (by decide)]; exact congrArg (fun z => ret (PyData.bool z)) (by decide : _ = false)
  have i3 : isC ["BadRow"] (xD "TooMany" fs) = ret (.bool false) := by rw [isC_x (by decide)]; exact congrArg (fun z => ret (PyData.bool z)) (by decide : _ = false)
  have i4 : isC ["BadText"] (xD "TooMany" fs) = ret (.bool false) := by rw [isC_x (by decide)]; exact congrArg (fun z => ret (PyData.bool z)) (by decide : _ = false)
  have i5 : isC ["BadTimes"] (xD "TooMany" fs) = ret (.bool false) := by rw [isC_x (by decide)]; exact congrArg (fun z => ret (PyData.bool z)) (by decide : _ = false)
  have i6 : isC ["Busy"] (xD "TooMany" fs) = ret (.bool false) := by rw [isC_x (by decide)]; exact congrArg (fun z => ret (PyData.bool z)) (by decide : _ = false)
  have i7 : isC ["LastWord"] (xD "TooMany" fs) = ret (.bool false) := by rw [isC_x (by decide)]; exact congrArg (fun z => ret (PyData.bool z)) (by decide : _ = false)
  have i8 : isC ["NothingToUndo"] (xD "TooMany" fs) = ret (.bool false) := by rw [isC_x (by decide)]; exact congrArg (fun z => ret (PyData.bool z)) (by decide : _ = false)
  have i9 : isC ["Rejected"] (xD "TooMany" fs) = ret (.bool false) := by rw [isC_x (by decide)]; exact congrArg (fun z => ret (PyData.bool z)) (by decide : _ = false)
  have i10 : isC ["TooLong"] (xD "TooMany" fs) = ret (.bool false) := by rw [isC_x (by decide)]; exact congrArg (fun z => ret (PyData.bool z)) (by decide : _ = false)
  have i11 : isC ["TooMany"] (xD "TooMany" fs) = ret (.bool true) := by rw [isC_x (by decide)]; exact congrArg (fun z => ret (PyData.bool z)) (by decide : _ = true)
  have i12 : isC ["TooManyEdits"] (xD "TooMany" fs) = ret (.bool false) := by rw [isC_x (by decide)]; exact congrArg (fun z => ret (PyData.bool z)) (by decide : _ = false)
  have i13 : isC ["TooNarrow"] (xD "TooMany" fs) = ret (.bool false) := by rw [isC_x (by decide)]; exact congrArg (fun z => ret (PyData.bool z)) (by decide : _ = false)
  have i14 : isC ["NoPlace"] (xD "TooMany" fs) = ret (.bool false) := by rw [isC_x (by decide)]; exact congrArg (fun z => ret (PyData.bool z)) (by decide : _ = false)
  have i15 : isC ["NoVersion"] (xD "TooMany" fs) = ret (.bool false) := by rw [isC_x (by decide)]; exact congrArg (fun z => ret (PyData.bool z)) (by decide : _ = false)
  have i16 : isC ["NoWidth"] (xD "TooMany" fs) = ret (.bool false) := by rw [isC_x (by decide)]; exact congrArg (fun z => ret (PyData.bool z)) (by decide : _ = false)
  have i17 : isC ["WrapError"] (xD "TooMany" fs) = ret (.bool true) := by rw [isC_x (by decide)]; exact congrArg (fun z => ret (PyData.bool z)) (by decide : _ = true)
  have i18 : isC ["ValueError"] (xD "TooMany" fs) = ret (.bool true) := by rw [isC_x (by decide)]; exact congrArg (fun z => ret (PyData.bool z)) (by decide : _ = true)
  have i19 : isC ["LookupError"] (xD "TooMany" fs) = ret (.bool false) := by rw [isC_x (by decide)]; exact congrArg (fun z => ret (PyData.bool z)) (by decide : _ = false)
  have c : opCnt (.list [.bool false, .bool false, .bool false, .bool false, .bool false, .bool false, .bool false, .bool false, .bool false, .bool false, .bool false, .bool true, .bool false, .bool false, .bool false, .bool false, .bool false]) (.bool true) = ret (.int 1) := rfl
  have x : opIxOf (.list [.bool false, .bool false, .bool false, .bool false, .bool false, .bool false, .bool false, .bool false, .bool false, .bool false, .bool false, .bool true, .bool false, .bool false, .bool false, .bool false, .bool false]) (.bool true) = ret (.int 11) := rfl
  have q : opIdx (.list [.str "BadEdit", .str "BadEdits", .str "BadLength", .str "BadRow", .str "BadText", .str "BadTimes", .str "Busy", .str "LastWord", .str "NothingToUndo", .str "Rejected", .str "TooLong", .str "TooMany", .str "TooManyEdits", .str "TooNarrow", .str "NoPlace", .str "NoVersion", .str "NoWidth"]) (.int 11) = ret (.str "TooMany") := rfl
  have y : opIdx (.list [.list [.bool true, .bool true, .bool false], .list [.bool false, .bool false, .bool true]]) (.int 0) = ret (.list [.bool true, .bool true, .bool false]) := rfl
  have z : opCmp .ne (.list [.bool true, .bool true, .bool false]) (.list [.bool true, .bool true, .bool false]) = ret false := ne_self (by decide +kernel) (by decide +kernel)
  have g : decide ((13 : Int) < 11) = false := by decide
  have ib : bi1 .int (.bool false) = ret (.int 0) := rfl
  simp only [x_var, x_con, x_bin, x_neg, x_cmp, x_chain, x_tTru, x_tNot, x_tAnd, x_tOr, x_tBool, x_tYes, x_not, x_and, x_or, x_if, x_b1, x_b2, x_is, x_idx, x_oNone, x_oSome, x_cut, x_aNil, x_aCons, x_tup, x_lst, x_call, x_callS,
    x_iSeq, x_iRng1, x_iRng2, x_bor, x_tBor, x_put1, List.map_cons, List.map_nil, List.cons_append, List.nil_append, List.length_cons, List.length_nil, Nat.zero_add, Nat.reduceAdd, Nat.reduceSub, List.reduceReplicate, start,
    List.getElem?_cons_zero, List.getElem?_cons_succ, List.set_cons_zero, List.set_cons_succ, bnd_ret, bnd_assoc, bnd_grd, b1_if, bnd_ite, small, Nat.reduceLeDiff, grd_true, o_add, o_sub, o_neg, o_eq, o_ne, o_lt, o_le, o_gt, o_ge, o_eqS, o_neS,
    decide_eq_true_eq, reduceIte, decide_true, decide_false, Bool.not_true, Bool.not_false, Bool.false_eq_true, itemsOf, asInt, bi2, endOf, isTy,
    grd_tt, nx_int, nx_bool, nx_str, nx_none, nx_tup, nx_lst, x_isC, x_fld, x_in, x_count, x_lstR, x_tupR, x_raise, x_star, bnd_thr, noX_ret, fld_x, exn_d, eSetO, Out.clear, List.zip_cons_cons, List.zip_nil_left, List.zip_nil_right, s_asg, s_par, s_own, s_parO, s_put, s_expr, s_ret, s_skip, s_seq, s_rel, x_asg, x_par, x_own, x_parO, x_put, x_expr, x_ret, x_retN, x_skip, x_rel, x_app, x_setI, x_sIf, x_for, x_brk, x_cnt, s_chk, x_ixOf, i0, i1, i2, i3, i4, i5, i6, i7, i8, i9, i10, i11, i12, i13, i14, i15, i16, i17, i18, i19, c, x, q, y, z, g, ib, add_lst]
  all_goals rfl
theorem name_TooManyEdits (fs : List (Str × D)) : w__law_name_0 [xD "TooManyEdits" fs] = ret (.str "TooManyEdits") := by
  unfold w__law_name_0
  refine (f_fn (by rfl)).trans ?_
  have i0 : isC ["BadEdit"] (xD "TooManyEdits" fs) = ret (.bool false) := by rw [isC_x (by decide)]; exact congrArg (fun z => ret (PyData.bool z)) (by decide : _ = false)
  have i1 : isC ["BadEdits"] (xD "TooManyEdits" fs) = ret (.bool false) := by rw [isC_x (by decide)]; exact congrArg (fun z => ret (PyData.bool z)) (by decide : _ = false)
  have i2 : isC ["BadLength"] (xD "TooManyEdits" fs) = ret (.bool false) := by rw [isC_x (by decide)]; exact congrArg (fun z => ret (PyData.bool z)) (by decide : _ = false)
  have i3 : isC ["BadRow"] (xD "TooManyEdits" fs) = ret (.bool false) := by rw [isC_x (by decide)]; exact congrArg (fun z => ret (PyData.bool z)) (by decide : _ = false)
  have i4 : isC ["BadText"] (xD "TooManyEdits" fs) = ret (.bool false) := by rw [isC_x (by decide)]; exact congrArg (fun z => ret (PyData.bool z)) (by decide : _ = false)
  have i5 : isC ["BadTimes"] (xD "TooManyEdits" fs) = ret (.bool false) := by rw [isC_x (by decide)]; exact congrArg (fun z => ret (PyData.bool z)) (by decide : _ = false)
  have i6 : isC ["Busy"] (xD "TooManyEdits" fs) = ret (.bool false) := by rw [isC_x (by decide)]; exact congrArg (fun z => ret (PyData.bool z)) (by decide : _ = false)
  have i7 : isC ["LastWord"] (xD "TooManyEdits" fs) = ret (.bool false) := by rw [isC_x (by decide)]; exact congrArg (fun z => ret (PyData.bool z)) (by decide : _ = false)
  have i8 : isC ["NothingToUndo"] (xD "TooManyEdits" fs) = ret (.bool false) := by rw [isC_x (by decide)]; exact congrArg (fun z => ret (PyData.bool z)) (by decide : _ = false)
  have i9 : isC ["Rejected"] (xD "TooManyEdits" fs) = ret (.bool false) := by rw [isC_x (by decide)]; exact congrArg (fun z => ret (PyData.bool z)) (by decide : _ = false)
  have i10 : isC ["TooLong"] (xD "TooManyEdits" fs) = ret (.bool false) := by rw [isC_x (by decide)]; exact congrArg (fun z => ret (PyData.bool z)) (by decide : _ = false)
  have i11 : isC ["TooMany"] (xD "TooManyEdits" fs) = ret (.bool false) := by rw [isC_x (by decide)]; exact congrArg (fun z => ret (PyData.bool z)) (by decide : _ = false)
  have i12 : isC ["TooManyEdits"] (xD "TooManyEdits" fs) = ret (.bool true) := by rw [isC_x (by decide)]; exact congrArg (fun z => ret (PyData.bool z)) (by decide : _ = true)
  have i13 : isC ["TooNarrow"] (xD "TooManyEdits" fs) = ret (.bool false) := by rw [isC_x (by decide)]; exact congrArg (fun z => ret (PyData.bool z)) (by decide : _ = false)
  have i14 : isC ["NoPlace"] (xD "TooManyEdits" fs) = ret (.bool false) := by rw [isC_x (by decide)]; exact congrArg (fun z => ret (PyData.bool z)) (by decide : _ = false)
  have i15 : isC ["NoVersion"] (xD "TooManyEdits" fs) = ret (.bool false) := by rw [isC_x (by decide)]; exact congrArg (fun z => ret (PyData.bool z)) (by decide : _ = false)
  have i16 : isC ["NoWidth"] (xD "TooManyEdits" fs) = ret (.bool false) := by rw [isC_x (by decide)]; exact congrArg (fun z => ret (PyData.bool z)) (by decide : _ = false)
  have i17 : isC ["WrapError"] (xD "TooManyEdits" fs) = ret (.bool true) := by rw [isC_x (by decide)]; exact congrArg (fun z => ret (PyData.bool z)) (by decide : _ = true)
  have i18 : isC ["ValueError"] (xD "TooManyEdits" fs) = ret (.bool true) := by rw [isC_x (by decide)]; exact congrArg (fun z => ret (PyData.bool z)) (by decide : _ = true)
  have i19 : isC ["LookupError"] (xD "TooManyEdits" fs) = ret (.bool false) := by rw [isC_x (by decide)]; exact congrArg (fun z => ret (PyData.bool z)) (by decide : _ = false)
  have c : opCnt (.list [.bool false, .bool false, .bool false, .bool false, .bool false, .bool false, .bool false, .bool false, .bool false, .bool false, .bool false, .bool false, .bool true, .bool false, .bool false, .bool false, .bool false]) (.bool true) = ret (.int 1) := rfl
  have x : opIxOf (.list [.bool false, .bool false, .bool false, .bool false, .bool false, .bool false, .bool false, .bool false, .bool false, .bool false, .bool false, .bool false, .bool true, .bool false, .bool false, .bool false, .bool false]) (.bool true) = ret (.int 12) := rfl
  have q : opIdx (.list [.str "BadEdit", .str "BadEdits", .str "BadLength", .str "BadRow", .str "BadText", .str "BadTimes", .str "Busy", .str "LastWord", .str "NothingToUndo", .str "Rejected", .str "TooLong", .str "TooMany", .str "TooManyEdits", .str "TooNarrow", .str "NoPlace", .str "NoVersion", .str "NoWidth"]) (.int 12) = ret (.str "TooManyEdits") := rfl
  have y : opIdx (.list [.list [.bool true, .bool true, .bool false], .list [.bool false, .bool false, .bool true]]) (.int 0) = ret (.list [.bool true, .bool true, .bool false]) := rfl
  have z : opCmp .ne (.list [.bool true, .bool true, .bool false]) (.list [.bool true, .bool true, .bool false]) = ret false := ne_self (by decide +kernel) (by decide +kernel)
  have g : decide ((13 : Int) < 12) = false := by decide
  have ib : bi1 .int (.bool false) = ret (.int 0) := rfl
  simp only [x_var, x_con, x_bin, x_neg, x_cmp, x_chain, x_tTru, x_tNot, x_tAnd, x_tOr, x_tBool, x_tYes, x_not, x_and, x_or, x_if, x_b1, x_b2, x_is, x_idx, x_oNone, x_oSome, x_cut, x_aNil, x_aCons, x_tup, x_lst, x_call, x_callS,
    x_iSeq, x_iRng1, x_iRng2, x_bor, x_tBor, x_put1, List.map_cons, List.map_nil, List.cons_append, List.nil_append, List.length_cons, List.length_nil, Nat.zero_add, Nat.reduceAdd, Nat.reduceSub, List.reduceReplicate, start,
    List.getElem?_cons_zero, List.getElem?_cons_succ, List.set_cons_zero, List.set_cons_succ, bnd_ret, bnd_assoc, bnd_grd, b1_if, bnd_ite, small, Nat.reduceLeDiff, grd_true, o_add, o_sub, o_neg, o_eq, o_ne, o_lt, o_le, o_gt, o_ge, o_eqS, o_neS,
    decide_eq_true_eq, reduceIte, decide_true, decide_false, Bool.not_true, Bool.not_false, Bool.false_eq_true, itemsOf, asInt, bi2, endOf, isTy,
    grd_tt, nx_int, nx_bool, nx_str, nx_none, nx_tup, nx_lst, x_isC, x_fld, x_in, x_count, x_lstR, x_tupR, x_raise, x_star, bnd_thr, noX_ret, fld_x, exn_d, eSetO, Out.clear, List.zip_cons_cons, List.zip_nil_left, List.zip_nil_right, s_asg, s_par, s_own, s_parO, s_put, s_expr, s_ret, s_skip, s_seq, s_rel, x_asg, x_par, x_own, x_parO, x_put, x_expr, x_ret, x_retN, x_skip, x_rel, x_app, x_setI, x_sIf, x_for, x_brk, x_cnt, s_chk, x_ixOf, i0, i1, i2, i3, i4, i5, i6, i7, i8, i9, i10, i11, i12, i13, i14, i15, i16, i17, i18, i19, c, x, q, y, z, g, ib, add_lst]
  all_goals rfl
theorem name_NoPlace (fs : List (Str × D)) : w__law_name_0 [xD "NoPlace" fs] = ret (.str "NoPlace") := by
  unfold w__law_name_0
  refine (f_fn (by rfl)).trans ?_
  have i0 : isC ["BadEdit"] (xD "NoPlace" fs) = ret (.bool false) := by rw [isC_x (by decide)]; exact congrArg (fun z => ret (PyData.bool z)) (by decide : _ = false)
  have i1 : isC ["BadEdits"] (xD "NoPlace" fs) = ret (.bool false) := by rw [isC_x (by decide)]; exact congrArg (fun z => ret (PyData.bool z)) (by decide : _ = false)
  have i2 : isC ["BadLength"] (xD "NoPlace" fs) = ret (.bool false) := by rw [isC_x (by decide)]; exact congrArg (fun z => ret (PyData.bool z)) (by decide : _ = false)
  have i3 : isC ["BadRow"] (xD "NoPlace" fs) = ret (.bool false) := by rw [isC_x (by decide)]; exact congrArg (fun z => ret (PyData.bool z)) (by decide : _ = false)
  have i4 : isC ["BadText"] (xD "NoPlace" fs) = ret (.bool false) := by rw [isC_x (by decide)]; exact congrArg (fun z => ret (PyData.bool z)) (by decide : _ = false)
  have i5 : isC ["BadTimes"] (xD "NoPlace" fs) = ret (.bool false) := by rw [isC_x (by decide)]; exact congrArg (fun z => ret (PyData.bool z)) (by decide : _ = false)
  have i6 : isC ["Busy"] (xD "NoPlace" fs) = ret (.bool false) := by rw [isC_x (by decide)]; exact congrArg (fun z => ret (PyData.bool z)) (by decide : _ = false)
  have i7 : isC ["LastWord"] (xD "NoPlace" fs) = ret (.bool false) := by rw [isC_x (by decide)]; exact congrArg (fun z => ret (PyData.bool z)) (by decide : _ = false)
  have i8 : isC ["NothingToUndo"] (xD "NoPlace" fs) = ret (.bool false) := by rw [isC_x (by decide)]; exact congrArg (fun z => ret (PyData.bool z)) (by decide : _ = false)
  have i9 : isC ["Rejected"] (xD "NoPlace" fs) = ret (.bool false) := by rw [isC_x (by decide)]; exact congrArg (fun z => ret (PyData.bool z)) (by decide : _ = false)
  have i10 : isC ["TooLong"] (xD "NoPlace" fs) = ret (.bool false) := by rw [isC_x (by decide)]; exact congrArg (fun z => ret (PyData.bool z)) (by decide : _ = false)
  have i11 : isC ["TooMany"] (xD "NoPlace" fs) = ret (.bool false) := by rw [isC_x (by decide)]; exact congrArg (fun z => ret (PyData.bool z)) (by decide : _ = false)
  have i12 : isC ["TooManyEdits"] (xD "NoPlace" fs) = ret (.bool false) := by rw [isC_x (by decide)]; exact congrArg (fun z => ret (PyData.bool z)) (by decide : _ = false)
  have i13 : isC ["TooNarrow"] (xD "NoPlace" fs) = ret (.bool false) := by rw [isC_x (by decide)]; exact congrArg (fun z => ret (PyData.bool z)) (by decide : _ = false)
  have i14 : isC ["NoPlace"] (xD "NoPlace" fs) = ret (.bool true) := by rw [isC_x (by decide)]; exact congrArg (fun z => ret (PyData.bool z)) (by decide : _ = true)
  have i15 : isC ["NoVersion"] (xD "NoPlace" fs) = ret (.bool false) := by rw [isC_x (by decide)]; exact congrArg (fun z => ret (PyData.bool z)) (by decide : _ = false)
  have i16 : isC ["NoWidth"] (xD "NoPlace" fs) = ret (.bool false) := by rw [isC_x (by decide)]; exact congrArg (fun z => ret (PyData.bool z)) (by decide : _ = false)
  have i17 : isC ["WrapError"] (xD "NoPlace" fs) = ret (.bool false) := by rw [isC_x (by decide)]; exact congrArg (fun z => ret (PyData.bool z)) (by decide : _ = false)
  have i18 : isC ["ValueError"] (xD "NoPlace" fs) = ret (.bool false) := by rw [isC_x (by decide)]; exact congrArg (fun z => ret (PyData.bool z)) (by decide : _ = false)
  have i19 : isC ["LookupError"] (xD "NoPlace" fs) = ret (.bool true) := by rw [isC_x (by decide)]; exact congrArg (fun z => ret (PyData.bool z)) (by decide : _ = true)
  have c : opCnt (.list [.bool false, .bool false, .bool false, .bool false, .bool false, .bool false, .bool false, .bool false, .bool false, .bool false, .bool false, .bool false, .bool false, .bool false, .bool true, .bool false, .bool false]) (.bool true) = ret (.int 1) := rfl
  have x : opIxOf (.list [.bool false, .bool false, .bool false, .bool false, .bool false, .bool false, .bool false, .bool false, .bool false, .bool false, .bool false, .bool false, .bool false, .bool false, .bool true, .bool false, .bool false]) (.bool true) = ret (.int 14) := rfl
  have q : opIdx (.list [.str "BadEdit", .str "BadEdits", .str "BadLength", .str "BadRow", .str "BadText", .str "BadTimes", .str "Busy", .str "LastWord", .str "NothingToUndo", .str "Rejected", .str "TooLong", .str "TooMany", .str "TooManyEdits", .str "TooNarrow", .str "NoPlace", .str "NoVersion", .str "NoWidth"]) (.int 14) = ret (.str "NoPlace") := rfl
  have y : opIdx (.list [.list [.bool true, .bool true, .bool false], .list [.bool false, .bool false, .bool true]]) (.int 1) = ret (.list [.bool false, .bool false, .bool true]) := rfl
  have z : opCmp .ne (.list [.bool false, .bool false, .bool true]) (.list [.bool false, .bool false, .bool true]) = ret false := ne_self (by decide +kernel) (by decide +kernel)
  have g : decide ((13 : Int) < 14) = true := by decide
  have ib : bi1 .int (.bool true) = ret (.int 1) := rfl
  simp only [x_var, x_con, x_bin, x_neg, x_cmp, x_chain, x_tTru, x_tNot, x_tAnd, x_tOr, x_tBool, x_tYes, x_not, x_and, x_or, x_if, x_b1, x_b2, x_is, x_idx, x_oNone, x_oSome, x_cut, x_aNil, x_aCons, x_tup, x_lst, x_call, x_callS,
    x_iSeq, x_iRng1, x_iRng2, x_bor, x_tBor, x_put1, List.map_cons, List.map_nil, List.cons_append, List.nil_append, List.length_cons, List.length_nil, Nat.zero_add, Nat.reduceAdd, Nat.reduceSub, List.reduceReplicate, start,
    List.getElem?_cons_zero, List.getElem?_cons_succ, List.set_cons_zero, List.set_cons_succ, bnd_ret, bnd_assoc, bnd_grd, b1_if, bnd_ite, small, Nat.reduceLeDiff, grd_true, o_add, o_sub, o_neg, o_eq, o_ne, o_lt, o_le, o_gt, o_ge, o_eqS, o_neS,
    decide_eq_true_eq, reduceIte, decide_true, decide_false, Bool.not_true, Bool.not_false, Bool.false_eq_true, itemsOf, asInt, bi2, endOf, isTy,
    grd_tt, nx_int, nx_bool, nx_str, nx_none, nx_tup, nx_lst, x_isC, x_fld, x_in, x_count, x_lstR, x_tupR, x_raise, x_star, bnd_thr, noX_ret, fld_x, exn_d, eSetO, Out.clear, List.zip_cons_cons, List.zip_nil_left, List.zip_nil_right, s_asg, s_par, s_own, s_parO, s_put, s_expr, s_ret, s_skip, s_seq, s_rel, x_asg, x_par, x_own, x_parO, x_put, x_expr, x_ret, x_retN, x_skip, x_rel, x_app, x_setI, x_sIf, x_for, x_brk, x_cnt, s_chk, x_ixOf, i0, i1, i2, i3, i4, i5, i6, i7, i8, i9, i10, i11, i12, i13, i14, i15, i16, i17, i18, i19, c, x, q, y, z, g, ib, add_lst]
  all_goals rfl
theorem field_BadRow (d : D) : w__law_field_0 [xD "BadRow" [("error", d)]] = ret d := by
  unfold w__law_field_0
  refine (f_fn (by rfl)).trans ?_
  have i0 : isC ["BadLength", "BadTimes", "NoPlace", "NoVersion", "NoWidth"] (xD "BadRow" [("error", d)]) = ret (.bool false) := by rw [isC_x (by decide)]; exact congrArg (fun z => ret (PyData.bool z)) (by decide : _ = false)
  have i1 : isC ["BadEdit", "BadText", "Rejected"] (xD "BadRow" [("error", d)]) = ret (.bool false) := by rw [isC_x (by decide)]; exact congrArg (fun z => ret (PyData.bool z)) (by decide : _ = false)
  have i2 : isC ["TooLong", "TooNarrow"] (xD "BadRow" [("error", d)]) = ret (.bool false) := by rw [isC_x (by decide)]; exact congrArg (fun z => ret (PyData.bool z)) (by decide : _ = false)
  have i3 : isC ["TooMany"] (xD "BadRow" [("error", d)]) = ret (.bool false) := by rw [isC_x (by decide)]; exact congrArg (fun z => ret (PyData.bool z)) (by decide : _ = false)
  have i4 : isC ["BadRow"] (xD "BadRow" [("error", d)]) = ret (.bool true) := by rw [isC_x (by decide)]; exact congrArg (fun z => ret (PyData.bool z)) (by decide : _ = true)
  have fx : fldOf (Fl.s .error) (xD "BadRow" [("error", d)]) = ret d := fld_x _ _ _
  simp only [x_var, x_con, x_bin, x_neg, x_cmp, x_chain, x_tTru, x_tNot, x_tAnd, x_tOr, x_tBool, x_tYes, x_not, x_and, x_or, x_if, x_b1, x_b2, x_is, x_idx, x_oNone, x_oSome, x_cut, x_aNil, x_aCons, x_tup, x_lst, x_call, x_callS,
    x_iSeq, x_iRng1, x_iRng2, x_bor, x_tBor, x_put1, List.map_cons, List.map_nil, List.cons_append, List.nil_append, List.length_cons, List.length_nil, Nat.zero_add, Nat.reduceAdd, Nat.reduceSub, List.reduceReplicate, start,
    List.getElem?_cons_zero, List.getElem?_cons_succ, List.set_cons_zero, List.set_cons_succ, bnd_ret, bnd_assoc, bnd_grd, b1_if, bnd_ite, small, Nat.reduceLeDiff, grd_true, o_add, o_sub, o_neg, o_eq, o_ne, o_lt, o_le, o_gt, o_ge, o_eqS, o_neS,
    decide_eq_true_eq, reduceIte, decide_true, decide_false, Bool.not_true, Bool.not_false, Bool.false_eq_true, itemsOf, asInt, bi2, endOf, isTy,
    grd_tt, nx_int, nx_bool, nx_str, nx_none, nx_tup, nx_lst, x_isC, x_fld, x_in, x_count, x_lstR, x_tupR, x_raise, x_star, bnd_thr, noX_ret, fld_x, exn_d, eSetO, Out.clear, List.zip_cons_cons, List.zip_nil_left, List.zip_nil_right, s_asg, s_par, s_own, s_parO, s_put, s_expr, s_ret, s_skip, s_seq, s_rel, x_asg, x_par, x_own, x_parO, x_put, x_expr, x_ret, x_retN, x_skip, x_rel, x_app, x_setI, x_sIf, x_for, x_brk, x_cnt, s_chk, t_bool, tru, i0, i1, i2, i3, i4, fx]
  all_goals rfl
end DL
end
section
namespace DL
open PySem
end DL
end
section
namespace DL
open PySem
/-- the def key's table is there -/
def tabG {α : Type} (key : Str) (m : W α) : W α := fun c P X => (∃ t, c.mu t = some (.tab key)) ∧ m c P X
def OkT (ks : List Str) {α : Type} (m : W α) (n : Nat) (Q : α → Prop) : Prop := ∀ (c : Sx) (P : α → Sx → Prop) (X : Exn → Sx → Prop), c.n + n < 2 ^ 40 → (∀ x ∈ ks, ∃ t, c.mu t = some (.tab x)) → (∀ a c', (c'.n ≤ c.n + n ∧ c'.mu = c.mu) → Q a → P a c') → m c P X
section
variable {ks : List Str} {α β : Type} {m : W α} {n n' k : Nat} {Q R : α → Prop}
theorem Ok.t (h : Ok m n Q) : OkT ks m n Q := fun c P X hc _ k => h c P X hc k
theorem OkT.tab {key : Str} (hk : key ∈ ks) (h : OkT ks m n Q) : OkT ks (tabG key m) n Q := fun c P X hc ht k => ⟨ht key hk, h c P X hc ht k⟩
theorem bnd_tab {key : Str} (m : W α) (f : α → W β) : bnd (tabG key m) f = tabG key (bnd m f) := id rfl
theorem OkT.ret {a : α} (h : Q a) : OkT ks (DL.ret a) n Q := (Ok.ret h).t
theorem OkT.bnd {f : α → W β} {S : β → Prop} (h : OkT ks m n Q) (hf : ∀ a, Q a → OkT ks (f a) k S) : OkT ks (DL.bnd m f) (n + k) S := fun c P X hc ht kk =>
  h c _ X (by omega) ht fun a c' hc' q => hf a q c' P X (by have := hc'.1; omega) (by rw [hc'.2]; exact ht) fun b c'' h2 s => kk b c'' ⟨by have := hc'.1; have := h2.1; omega, h2.2.trans hc'.2⟩ s
theorem OkT.bnd' {f : α → W β} {S : β → Prop} (t : Nat) (h : OkT ks m n Q) (hn : n ≤ t) (hf : ∀ a, Q a → OkT ks (f a) (t - n) S) : OkT ks (DL.bnd m f) t S := by
  have := OkT.bnd h hf
  rw [Nat.add_sub_cancel' hn] at this
  exact this
theorem OkT.mono (h : OkT ks m n Q) (hn : n ≤ n') (hq : ∀ a, Q a → R a) : OkT ks m n' R := fun c P X hc ht kk => h c P X (by omega) ht fun a c' h1 h2 => kk a c' ⟨by have := h1.1; omega, h1.2⟩ (hq a h2)
theorem OkT.le (h : OkT ks m n Q) (hn : n ≤ n') : OkT ks m n' Q := h.mono hn fun _ h => h
theorem OkT.imp (h : OkT ks m n Q) (hq : ∀ a, Q a → R a) : OkT ks m n R := h.mono (Nat.le_refl _) hq
theorem OkT.grd {c : Prop} (hc : c) (h : OkT ks m n Q) : OkT ks (DL.grd c m) n Q := by rw [grd_pos hc]; exact h
theorem OkT.eq {m' : W α} (e : m = m') (h : OkT ks m' n Q) : OkT ks m n Q := by rw [e]; exact h
theorem OkT.run {m : XS} {E : Env} (h : OkT ks (m E) n fun o => o = .rt (.bool true)) (hn : n < 2 ^ 40) : MathT m E ks := fun mu h1 _ => h ⟨0, mu⟩ _ _ (by show 0 + n < _; omega) h1 fun a _ _ q => q
theorem OkT.drawB {many : Int} {f : D → W β} {S : β → Prop} (h0 : 0 < many) (h1 : many < 9223372036854775808) (hf : ∀ r : Int, 0 ≤ r → r < many → OkT ks (f (.int r)) n S) : OkT ks (DL.bnd (fDraw [.int many]) f) (n + 1) S := by
  refine OkT.bnd' (n + 1) (Ok.draw (n := 0) h0 h1).t (by omega) ?_
  rintro a ⟨r, rfl, h2, h3⟩
  exact hf r h2 h3
end
section
variable {ks : List Str}
theorem forLT_ok {tg : Tg} {s : XS} {b : Nat} {Q : Out → Prop} (I : Nat → Env → Prop) : ∀ (ds : List D) (i : Nat) (E : Env), I i E →
    (∀ j d E, ds[j]? = some d → I (i + j) E → ∃ E1, tg.put d E = some E1 ∧ OkT ks (s E1) b fun o => match o with | .nx E' => I (i + j + 1) E' | .ct E' => I (i + j + 1) E' | .bk E' => Q (.nx E') | .rt d => Q (.rt d)) →
    (∀ E, I (i + ds.length) E → Q (.nx E)) → OkT ks (forL tg s ds E) (ds.length * b) Q
  | [], i, E, h0, _, hd => by
    show OkT ks (ret (Out.nx E)) _ _
    exact OkT.ret (hd E h0)
  | d :: ds, i, E, h0, hs, hd => by
    obtain ⟨E1, e1, h1⟩ := hs 0 d E rfl h0
    show OkT ks (match tg.put d E with | none => stuck | some E1 => bnd (s E1) fun o => match o with
      | .nx E' => forL tg s ds E' | .ct E' => forL tg s ds E' | .bk E' => ret (.nx E') | .rt d => ret (.rt d)) _ _
    rw [e1, List.length_cons, Nat.succ_mul, Nat.add_comm]
    have rest : ∀ E', I (i + 1) E' → OkT ks (forL tg s ds E') (ds.length * b) Q := fun E' h' => forLT_ok I ds (i + 1) E' h'
      (fun j d E hj hI => by
        have e : i + 1 + j = i + (j + 1) := by omega
        rw [e] at hI ⊢
        exact hs (j + 1) d E hj hI)
      (fun E h => hd E (by
        have e : i + (d :: ds).length = i + 1 + ds.length := by rw [List.length_cons]; omega
        rw [e]; exact h))
    refine OkT.bnd h1 fun o ho => ?_
    cases o with
    | nx E' => exact rest E' ho
    | ct E' => exact rest E' ho
    | bk E' => exact OkT.ret ho
    | rt d => exact OkT.ret ho
theorem forT_ok {tg : Tg} {s : XS} {ds : List D} {E : Env} {b t : Nat} {Q : Out → Prop} (I : Nat → Env → Prop) (h0 : I 0 E) (ht : ds.length * b ≤ t)
    (hs : ∀ j d E, ds[j]? = some d → I j E → ∃ E1, tg.put d E = some E1 ∧ OkT ks (s E1) b fun o => match o with | .nx E' => I (j + 1) E' | .ct E' => I (j + 1) E' | .bk E' => Q (.nx E') | .rt d => Q (.rt d))
    (hd : ∀ E, I ds.length E → Q (.nx E)) : OkT ks (forL tg s ds E) t Q :=
  (forLT_ok (b := b) (Q := Q) I ds 0 E h0 (fun j d E h1 h2 => by rw [Nat.zero_add] at h2 ⊢; exact hs j d E h1 h2) fun E h => hd E (by rw [Nat.zero_add] at h; exact h)).le ht
end
section
variable {ks : List Str} {E : Env} {n k : Nat} {Q : Out → Prop} {b s : XS}
theorem OkT.seq {a b : XS} (t : Nat) (R : Env → Prop) (h : OkT ks (a E) n fun o => match o with | .nx E' => R E' | .rt d => Q (.rt d) | .bk E' => Q (.bk E') | .ct E' => Q (.ct E')) (hn : n ≤ t) (hb : ∀ E', R E' → OkT ks (b E') (t - n) Q) : OkT ks (sSeq a b E) t Q := by
  refine OkT.bnd' t h hn fun o ho => ?_
  cases o with
  | nx E' => exact hb E' ho
  | rt d => exact OkT.ret ho
  | bk E' => exact OkT.ret ho
  | ct E' => exact OkT.ret ho
theorem OkT.fn {s : XS} {Q : D → Prop} (h : OkT ks (s E) n fun o => match o with | .rt d => Q d | .nx _ => Q .none | _ => False) : OkT ks (DL.bnd (s E) endOf) n Q := by
  refine OkT.bnd' n h (Nat.le_refl _) fun o ho => ?_
  cases o with
  | nx E' => exact OkT.ret ho
  | rt d => exact OkT.ret ho
  | bk E' => exact ho.elim
  | ct E' => exact ho.elim
theorem OkT.asg {i : Nat} {e : XE} {v : D} (h : e E = DL.ret v) (z : OkT ks (b (E.set i (.val v))) n Q) : OkT ks (sSeq (sAsg i e) b E) n Q := by
  rw [s_asg, h, bnd_ret]
  exact z
theorem OkT.put {tg : Tg} {e : XE} {d : D} {E1 : Env} (h : e E = DL.ret d) (h2 : tg.put d E = some E1) (z : OkT ks (b E1) n Q) : OkT ks (sSeq (sPut tg e) b E) n Q := by
  have e1 : sPut tg e E = DL.ret (Out.nx E1) := by
    unfold sPut
    rw [h, bnd_ret, h2]
  rw [x_seq, e1, bnd_ret]
  exact z
theorem OkT.retV {e : XE} {v : D} (h : e E = DL.ret v) (z : Q (.rt v)) : OkT ks (sRet e E) n Q := by
  rw [x_ret, h, bnd_ret]
  exact OkT.ret z
theorem OkT.no {t : XT} {a : XS} (h : t E = DL.ret false) (z : OkT ks (b E) n Q) : OkT ks (sSeq (sIf t a sSkip) b E) n Q := by
  rw [s_if, h, bnd_ret, if_neg (by decide), s_skip]
  exact z
/-- .. where tables are asked for -/
theorem OkT.noG {key : Str} (hk : key ∈ ks) {t : XT} {a : XS} (h : t E = tabG key (DL.ret false)) (z : Q (.nx E)) : OkT ks (sIf t a sSkip E) n Q := by
  rw [x_sIf, h, bnd_tab, bnd_ret, if_neg (by decide), x_skip]
  exact .tab hk (.ret z)
theorem OkT.forS {it : XA} {tg : Tg} {ds : List D} (t : Nat) (I : Nat → Env → Prop) (c : Nat) (h : it E = DL.ret ds) (h0 : I 0 E) (hc : ds.length * c ≤ t) (ht : t ≤ n)
    (hs : ∀ j d E, ds[j]? = some d → I j E → ∃ E1, tg.put d E = some E1 ∧ OkT ks (s E1) c fun o => match o with | .nx E' => I (j + 1) E' | .ct E' => I (j + 1) E' | .bk _ => False | .rt d => Q (.rt d))
    (z : ∀ E, I ds.length E → OkT ks (b E) (n - t) Q) : OkT ks (sSeq (sFor it tg s) b E) n Q := by
  rw [s_for, h, bnd_ret]
  refine OkT.bnd' n (n := t) (Q := fun o => match o with | .nx E' => I ds.length E' | .rt d => Q (.rt d) | _ => False) (forT_ok I h0 hc (fun j d E hj hI => ?_) fun E hI => hI) ht fun o ho => ?_
  · obtain ⟨E1, e1, h1⟩ := hs j d E hj hI
    refine ⟨E1, e1, h1.imp fun o ho => ?_⟩
    cases o with
    | nx E' => exact ho
    | ct E' => exact ho
    | bk E' => exact ho.elim
    | rt d => exact ho
  · cases o with
    | nx E' => exact z E' ho
    | rt d => exact OkT.ret ho
    | bk E' => exact ho.elim
    | ct E' => exact ho.elim
theorem OkT.drawA {i : Nat} {f : Fn} {a : XA} {ds : List D} {q : Nat} {R : D → Prop} (h1 : E[1]? = some .stm) (h : a E = DL.ret ds) (hf : Ok (f ds) q R) (hq : q ≤ n) (z : ∀ d, R d → OkT ks (b (E.set i (.val d))) (n - q) Q) : OkT ks (sSeq (sAsg i (eCallS f 1 a)) b E) n Q := by
  rw [s_asg, x_callS, h1]
  show OkT ks (DL.bnd (DL.bnd (a E) f) _) _ _
  rw [h, bnd_ret]
  exact OkT.bnd' n hf.t hq z
end
theorem x_told {key : Str} {fn : Phi → Fn} {m : XE} {E : Env} {d : D} (h : ∀ (f : Fn) (a : Nat), f [] = m (hideE E) → fn (phi1 a f) [rD a] = ret d) : eTold key fn m E = tabG key (ret d) := by
  funext c P X
  unfold eTold tabG
  refine propext ⟨fun ⟨g, k⟩ => ⟨g, ?_⟩, fun ⟨g, k⟩ => ⟨g, fun a => ?_⟩⟩
  · have := k 0
    rw [h _ 0 rfl] at this
    exact this
  · rw [h _ a rfl]
    exact k
theorem x_callF0 {f : Fn} {a i : Nat} {E : Env} (h : E[i]? = some (.val (rD a))) : eCallF (phi1 a f) i aNil E = f [] := by
  unfold eCallF
  rw [h]
  show (match phi1 a f a with | some m => bnd (aNil E) m | none => stuck : W D) = _
  unfold phi1
  rw [if_pos rfl]
  rfl
section
variable {f : Fn} {a : Nat}
theorem told22_no {x : Exn} {nm : Str} {d : D} (h : f [] = thr x) (hx : x = ⟨nm, x.fs⟩) (hs : (["WrapError"] : List Str).any (subC nm) = true) (h1 : w__law_name_0 [x.d] = ret (.str nm)) (h2 : w__law_field_0 [x.d] = ret d) : w__law_told_22 (phi1 a f) [rD a] = ret (.list [.str nm, d]) := by
  unfold w__law_told_22
  refine (f_fn (by rfl)).trans ?_
  show bnd (sTry _ _ _ [.val (rD a), .unk]) endOf = _
  rw [try_exn (x := x), hd_yes (by rw [hx]; exact hs)]
  · have e : eSetO (some 1) (.val x.d) [.val (rD a), .unk] = [.val (rD a), .val x.d] := rfl
    simp only [e, x_var, x_con, x_bin, x_neg, x_cmp, x_chain, x_tTru, x_tNot, x_tAnd, x_tOr, x_tBool, x_tYes, x_not, x_and, x_or, x_if, x_b1, x_b2, x_is, x_idx, x_oNone, x_oSome, x_cut, x_aNil, x_aCons, x_tup, x_lst, x_call, x_callS,
    x_iSeq, x_iRng1, x_iRng2, x_bor, x_tBor, x_put1, List.map_cons, List.map_nil, List.cons_append, List.nil_append, List.length_cons, List.length_nil, Nat.zero_add, Nat.reduceAdd, Nat.reduceSub, List.reduceReplicate, start,
    List.getElem?_cons_zero, List.getElem?_cons_succ, List.set_cons_zero, List.set_cons_succ, bnd_ret, bnd_assoc, bnd_grd, b1_if, bnd_ite, small, Nat.reduceLeDiff, grd_true, o_add, o_sub, o_neg, o_eq, o_ne, o_lt, o_le, o_gt, o_ge, o_eqS, o_neS,
    decide_eq_true_eq, reduceIte, decide_true, decide_false, Bool.not_true, Bool.not_false, Bool.false_eq_true, itemsOf, asInt, bi2, endOf, isTy,
    grd_tt, nx_int, nx_bool, nx_str, nx_none, nx_tup, nx_lst, x_isC, x_fld, x_in, x_count, x_lstR, x_tupR, x_raise, x_star, bnd_thr, noX_ret, fld_x, exn_d, eSetO, Out.clear, List.zip_cons_cons, List.zip_nil_left, List.zip_nil_right, x_ret, h1, h2]
  · simp only [x_var, x_con, x_bin, x_neg, x_cmp, x_chain, x_tTru, x_tNot, x_tAnd, x_tOr, x_tBool, x_tYes, x_not, x_and, x_or, x_if, x_b1, x_b2, x_is, x_idx, x_oNone, x_oSome, x_cut, x_aNil, x_aCons, x_tup, x_lst, x_call, x_callS,
    x_iSeq, x_iRng1, x_iRng2, x_bor, x_tBor, x_put1, List.map_cons, List.map_nil, List.cons_append, List.nil_append, List.length_cons, List.length_nil, Nat.zero_add, Nat.reduceAdd, Nat.reduceSub, List.reduceReplicate, start,
    List.getElem?_cons_zero, List.getElem?_cons_succ, List.set_cons_zero, List.set_cons_succ, bnd_ret, bnd_assoc, bnd_grd, b1_if, bnd_ite, small, Nat.reduceLeDiff, grd_true, o_add, o_sub, o_neg, o_eq, o_ne, o_lt, o_le, o_gt, o_ge, o_eqS, o_neS,
    decide_eq_true_eq, reduceIte, decide_true, decide_false, Bool.not_true, Bool.not_false, Bool.false_eq_true, itemsOf, asInt, bi2, endOf, isTy,
    grd_tt, nx_int, nx_bool, nx_str, nx_none, nx_tup, nx_lst, x_isC, x_fld, x_in, x_count, x_lstR, x_tupR, x_raise, x_star, bnd_thr, noX_ret, fld_x, exn_d, eSetO, Out.clear, List.zip_cons_cons, List.zip_nil_left, List.zip_nil_right, x_callF0, h, x_p1]
theorem told22_ok {d : D} (h : ∃ ns, f [] = ret (wr ns) ∧ d = .tuple (ns.map PyData.int)) : w__law_told_22 (phi1 a f) [rD a] = ret (.list [.str "row", d]) := by
  obtain ⟨ns, h, rfl⟩ := h
  unfold w__law_told_22
  refine (f_fn (by rfl)).trans ?_
  show bnd (sTry _ _ _ [.val (rD a), .unk]) endOf = _
  rw [try_val (d := .list [.str "row", .tuple (ns.map PyData.int)])]
  · rfl
  · simp only [x_var, x_con, x_bin, x_neg, x_cmp, x_chain, x_tTru, x_tNot, x_tAnd, x_tOr, x_tBool, x_tYes, x_not, x_and, x_or, x_if, x_b1, x_b2, x_is, x_idx, x_oNone, x_oSome, x_cut, x_aNil, x_aCons, x_tup, x_lst, x_call, x_callS,
    x_iSeq, x_iRng1, x_iRng2, x_bor, x_tBor, x_put1, List.map_cons, List.map_nil, List.cons_append, List.nil_append, List.length_cons, List.length_nil, Nat.zero_add, Nat.reduceAdd, Nat.reduceSub, List.reduceReplicate, start,
    List.getElem?_cons_zero, List.getElem?_cons_succ, List.set_cons_zero, List.set_cons_succ, bnd_ret, bnd_assoc, bnd_grd, b1_if, bnd_ite, small, Nat.reduceLeDiff, grd_true, o_add, o_sub, o_neg, o_eq, o_ne, o_lt, o_le, o_gt, o_ge, o_eqS, o_neS,
    decide_eq_true_eq, reduceIte, decide_true, decide_false, Bool.not_true, Bool.not_false, Bool.false_eq_true, itemsOf, asInt, bi2, endOf, isTy,
    grd_tt, nx_int, nx_bool, nx_str, nx_none, nx_tup, nx_lst, x_isC, x_fld, x_in, x_count, x_lstR, x_tupR, x_raise, x_star, bnd_thr, noX_ret, fld_x, exn_d, eSetO, Out.clear, List.zip_cons_cons, List.zip_nil_left, List.zip_nil_right, x_callF0, h, x_held, x_m1, x_p1, x_m2, x_o2, x_inW, x_eqW, x_lenW, x_strW, x_mkW, x_ofW, x_isW, g_isW, g_okW, g_okI, on_wr, isWD_wr, boolW_b, strW_s, row_wr, len_wr, eq_wr]
end
end DL
end
section
namespace DL
open PySem
end DL
end
section
namespace DL
open PySem
theorem RowN.ne {a : List Int} (h : RowN a) : a ≠ [] := fun e => by
  have := h.one
  rw [e] at this
  exact absurd this (by decide)
end DL
end
section
namespace DL
open PySem
end DL
end
section
namespace DL
open PySem
end DL
end
section
namespace DL
open PySem
mutual
def sharp : D → Bool
  | .none => true
  | .int _ => true
  | .str _ => true
  | .list xs => sharpAll xs
  | .tuple xs => sharpAll xs
  | _ => false
def sharpAll : List D → Bool
  | [] => true
  | x :: xs => sharp x && sharpAll xs
end
/-- what is compared as it is written; how deep -/
structure Shx (k : Nat) (d : D) : Prop extends Shp k d where
  sh : sharp d = true
theorem Shx.mono {k k' : Nat} {d : D} (h : Shx k d) (hk : k ≤ k') : Shx k' d := ⟨h.toShp.mono hk, h.sh⟩
end DL
end
section
namespace DL
open PySem
end DL
end
section
namespace DL
open PySem
/-- (u, v, m): column v is at most m greater than column u -/
abbrev Bnd := Nat × Nat × Int
abbrev Cols := Nat → Int
def Sol (bs : List Bnd) (y : Cols) : Prop := ∀ b ∈ bs, y b.2.1 ≤ y b.1 + b.2.2
/-- nodes below n; the bounds are between them -/
def In (n : Nat) (bs : List Bnd) : Prop := ∀ b ∈ bs, b.1 < n ∧ b.2.1 < n
end DL
end
section
namespace DL
open PySem
end DL
end
section
namespace DL
open PySem
end DL
end
section
namespace DL
open PySem
def fb1 (p : Nat) : List Bnd := [(p, p + 1, 61), (p + 1, p, -2)]
def fb2 (w : Int) (p : Nat) : Bnd := (p, p + 1, w + 1)
def fb3 (L : Nat) (w : Int) (e : Nat × Nat) : List Bnd := (e.1, e.2, w + 1) :: if e.2 < L then [(e.2 + 1, e.1, -2 - w)] else []
def fbQ (L : Nat) (q : Int × List Nat) : List Bnd := (List.range L).map (fb2 q.1) ++ (endN L q.2).flatMap (fb3 L q.1)
def bndsOf (L : Nat) (qs : List (Int × List Nat)) : List Bnd := (List.range L).flatMap fb1 ++ qs.flatMap (fbQ L)
end DL
end
section
namespace DL
open PySem
/-- how far the first k words reach, with a space behind each -/
def pre (ns : List Int) (k : Nat) : Int := (ns.take k).sum + k
theorem pre_ext {ns : List Int} {a b : Nat} (h : a < b) : ext ns a (b - 1) = pre ns b - pre ns a - 1 := by
  rw [← ext_sum h]
  unfold pre
  have e : (ns.take b).sum = (ns.take a).sum + ((ns.drop a).take (b - a)).sum := by
    have : ns.take b = ns.take a ++ (ns.drop a).take (b - a) := by
      rw [← List.take_add, Nat.add_sub_cancel' (Nat.le_of_lt h)]
    rw [this, List.sum_append]
  omega
theorem pre_succ {ns : List Int} {k : Nat} (h : k < ns.length) : pre ns (k + 1) = pre ns k + ns[k] + 1 := by
  unfold pre
  rw [List.take_succ_eq_append_getElem h, List.sum_append]
  simp
  omega
/-- looks of a row, as sightings -/
def looks (ns : List Int) (ws : List Int) : List (Int × List Nat) := ws.map fun w => (w, starts ns w)
theorem end_adj {L : Nat} : ∀ {l : List Nat} {e : Nat × Nat}, e ∈ endN L l → e.2 ∈ l ∨ e.2 = L → e.2 < L → e ∈ adjN l
  | [a], e, h, _, lt => by
    have : e = (a, L) := by simpa [endN] using h
    rw [this] at lt
    exact absurd lt (Nat.lt_irrefl _)
  | a :: b :: r, e, h, m, lt => by
    have h' : e ∈ (a, b) :: endN L (b :: r) := h
    rcases List.mem_cons.mp h' with rfl | h'
    · exact .head _
    · exact .tail _ (end_adj h' (end_mem h').2 lt)
/-- a row that was seen keeps the bounds -/
theorem sol_row {ns : List Int} {ws : List Int} (h1 : 0 < ns.length) (hn : ∀ x ∈ ns, 1 ≤ x ∧ x ≤ 60) (hw : ∀ w ∈ ws, ∀ x ∈ ns, x ≤ w) : Sol (bndsOf ns.length (looks ns ws)) fun k => pre ns k - pre ns ns.length := fun b hb => by
  have stp : ∀ p (h : p < ns.length), pre ns (p + 1) = pre ns p + ns[p] + 1 := fun p h => pre_succ h
  show pre ns b.2.1 - pre ns ns.length ≤ pre ns b.1 - pre ns ns.length + b.2.2
  unfold bndsOf at hb
  rcases List.mem_append.mp hb with hb | hb
  · obtain ⟨p, hp, hb⟩ := List.mem_flatMap.mp hb
    have hp := List.mem_range.mp hp
    have s := stp p hp
    have r := hn _ (List.getElem_mem hp)
    simp only [fb1, List.mem_cons, List.not_mem_nil, or_false] at hb
    rcases hb with rfl | rfl
    · show pre ns (p + 1) - _ ≤ pre ns p - _ + 61
      omega
    · show pre ns p - _ ≤ pre ns (p + 1) - _ + -2
      omega
  · obtain ⟨q, hq, hb⟩ := List.mem_flatMap.mp hb
    obtain ⟨w, hww, rfl⟩ := List.mem_map.mp hq
    unfold fbQ at hb
    rcases List.mem_append.mp hb with hb | hb
    · obtain ⟨p, hp, rfl⟩ := List.mem_map.mp hb
      have hp := List.mem_range.mp hp
      have s := stp p hp
      have r := hw w hww _ (List.getElem_mem hp)
      show pre ns (p + 1) - _ ≤ pre ns p - _ + (w + 1)
      omega
    · obtain ⟨e, he, hb⟩ := List.mem_flatMap.mp hb
      have bf := (brk_starts (w := w) h1 (hw w hww)).fits he
      have pe := pre_ext (ns := ns) bf.1
      unfold fb3 at hb
      rcases List.mem_cons.mp hb with rfl | hb
      · show pre ns e.2 - _ ≤ pre ns e.1 - _ + (w + 1)
        omega
      · split at hb
        · rename_i lt
          rw [List.mem_singleton.mp hb]
          have fa := (bar_starts (w := w) h1).fars (end_adj he (end_mem he).2 lt)
          have pe2 := pre_ext (ns := ns) (a := e.1) (b := e.2 + 1) (by omega)
          rw [Nat.add_sub_cancel] at pe2
          show pre ns e.1 - _ ≤ pre ns (e.2 + 1) - _ + (-2 - w)
          omega
        · cases hb
end DL
end
section
namespace DL
open PySem
end DL
end
section
namespace DL
open PySem
end DL
end
section
namespace DL
open PySem
/-- the least and the greatest extent of a stretch in all columns that keep the bounds -/
structure Rng (L : Nat) (qs : List (Int × List Nat)) (a b : Nat) (lo hi : Int) : Prop where
  all : ∀ u : Cols, Sol (bndsOf L qs) u → lo ≤ u (b + 1) - u a - 1 ∧ u (b + 1) - u a - 1 ≤ hi
  low : ∃ u : Cols, Sol (bndsOf L qs) u ∧ u (b + 1) - u a - 1 = lo
  high : ∃ u : Cols, Sol (bndsOf L qs) u ∧ u (b + 1) - u a - 1 = hi
end DL
end
section
namespace DL
open PySem
section
variable {ns ws : List Int} {a b c : Nat} {lo hi : Int}
theorem Rng.row (R : Rng ns.length (looks ns ws) a b lo hi) (h1 : 0 < ns.length) (hn : ∀ x ∈ ns, 1 ≤ x ∧ x ≤ 60) (hw : ∀ w ∈ ws, ∀ x ∈ ns, x ≤ w) (hab : a ≤ b) : lo ≤ ext ns a b ∧ ext ns a b ≤ hi := by
  have h := R.all _ (sol_row h1 hn hw)
  have pe := pre_ext (ns := ns) (a := a) (b := b + 1) (by omega)
  rw [Nat.add_sub_cancel] at pe
  omega
theorem Rng.one (R : Rng ns.length (looks ns ws) a a lo hi) (ha : a < ns.length) : 1 ≤ lo ∧ hi ≤ 60 := by
  have f1 : ∀ u, Sol (bndsOf ns.length (looks ns ws)) u → u (a + 1) ≤ u a + 61 ∧ u a ≤ u (a + 1) - 2 := fun u so => by
    have m : ∀ x ∈ fb1 a, x ∈ bndsOf ns.length (looks ns ws) := fun x hx => List.mem_append.mpr (.inl (List.mem_flatMap.mpr ⟨a, List.mem_range.mpr ha, hx⟩))
    have p : u (a + 1) ≤ u a + 61 := so _ (m (a, a + 1, 61) (.head _))
    have q : u a ≤ u (a + 1) + -2 := so _ (m (a + 1, a, -2) (.tail _ (.head _)))
    omega
  obtain ⟨u, u1, u2⟩ := R.low
  obtain ⟨v, v1, v2⟩ := R.high
  have p := f1 u u1
  have q := f1 v v1
  omega
theorem Rng.parts {lo1 hi1 lo2 hi2 : Int} (R : Rng ns.length (looks ns ws) a b lo hi) (A : Rng ns.length (looks ns ws) a c lo1 hi1) (B : Rng ns.length (looks ns ws) (c + 1) b lo2 hi2) : lo1 + lo2 + 1 ≤ lo ∧ hi ≤ hi1 + hi2 + 1 := by
  obtain ⟨u, u1, u2⟩ := R.low
  obtain ⟨v, v1, v2⟩ := R.high
  have p1 := A.all u u1
  have p2 := B.all u u1
  have q1 := A.all v v1
  have q2 := B.all v v1
  omega
end
end DL
end
section
namespace DL
open PySem
section
variable {ns : List Int} {m : Int}
theorem Bar.low {v w : Int} {l : List Nat} (h : Bar ns w l) (hv : v ≤ w) : Bar ns v l := by
  refine .of h.ne h.lt fun k a b h1 h2 => ?_
  have := h.fars (adj_at h1 h2)
  exact ⟨this.1, by have := this.2.2; simp at this; omega⟩
end
end DL
end
section
namespace DL
open PySem
def Itm (q : Int × List Int) : Prop := 1 ≤ q.1 ∧ q.1 ≤ 2000 ∧ q.2.length ≤ 30 ∧ ∀ x ∈ q.2, 0 ≤ x ∧ x < 24
theorem set_pair {qs : List (Int × List Int)} {i : Nat} {q : Int × List Int} : (qs.map pairD).set i (pairD q) = (qs.set i q).map pairD := List.map_set.symm
theorem itm_set {qs : List (Int × List Int)} {i : Nat} {q : Int × List Int} (h : ∀ q ∈ qs, Itm q) (hq : Itm q) : ∀ x ∈ qs.set i q, Itm x := fun x hx => by
  rcases List.mem_or_eq_of_mem_set hx with h1 | rfl
  · exact h x h1
  · exact hq
def SgI (x1 row : D) (way : Int) (L : Nat) (i : Int) (E : Env) : Prop := ∃ (qs : List (Int × List Int)) (w : Int) (ss : List Int) (e9 e10 e11 e12 : Ent),
  E = [.stm, .val x1, .val row, .val (.int way), .own (qs.map pairD), .val (.int (L : Int)), .val (.int i), .val (.int w), .val (.tuple (ss.map PyData.int)), e9, e10, e11, e12] ∧
    (0 ≤ i ∧ i < qs.length) ∧ qs.length ≤ 6 ∧ (∀ q ∈ qs, Itm q) ∧ (1 ≤ w ∧ w ≤ 2000) ∧ ss.length ≤ 25 ∧ ∀ x ∈ ss, 0 ≤ x ∧ x < 24
section
variable {x1 row : D} {way : Int} {L : Nat} {i : Int} {E : Env}
theorem SgI.mk' {qs : List (Int × List Int)} {w : Int} {ss : List Int} {e9 e10 e11 e12 : Ent} (h1 : 0 ≤ i ∧ i < qs.length) (h2 : qs.length ≤ 6) (h3 : ∀ q ∈ qs, Itm q) (h4 : 1 ≤ w ∧ w ≤ 2000) (h5 : ss.length ≤ 25) (h6 : ∀ x ∈ ss, 0 ≤ x ∧ x < 24) :
    SgI x1 row way L i [.stm, .val x1, .val row, .val (.int way), .own (qs.map pairD), .val (.int (L : Int)), .val (.int i), .val (.int w), .val (.tuple (ss.map PyData.int)), e9, e10, e11, e12] := ⟨qs, w, ss, e9, e10, e11, e12, rfl, h1, h2, h3, h4, h5, h6⟩
theorem SgI.put {qs : List (Int × List Int)} {j : Nat} {q : Int × List Int} {w : Int} {ss : List Int} {e9 e10 e11 e12 : Ent} (h1 : 0 ≤ i ∧ i < qs.length) (h2 : qs.length ≤ 6) (h3 : ∀ q ∈ qs, Itm q) (hq : Itm q) (h4 : 1 ≤ w ∧ w ≤ 2000) (h5 : ss.length ≤ 25) (h6 : ∀ x ∈ ss, 0 ≤ x ∧ x < 24) :
    SgI x1 row way L i [.stm, .val x1, .val row, .val (.int way), .own ((qs.map pairD).set j (pairD q)), .val (.int (L : Int)), .val (.int i), .val (.int w), .val (.tuple (ss.map PyData.int)), e9, e10, e11, e12] := by
  rw [set_pair]
  exact SgI.mk' ⟨h1.1, by rw [List.length_set]; exact h1.2⟩ (by rw [List.length_set]; exact h2) (itm_set h3 hq) h4 h5 h6
end
end DL
end
section
namespace DL
open PySem
section
variable {ns : List Int} {m w : Int}
theorem RowM.n {ns : List Int} {m : Int} (R : RowM ns m) : RowN ns := ⟨R.pos, R.few, R.rng⟩
theorem RowM.long {ns : List Int} {m w : Int} (R : RowM ns m) (h : m ≤ w) : Long ns w none := .no fun j x hj => Int.le_trans (R.mx x (List.mem_of_getElem? hj)) h
theorem RowM.starts_at {ns : List Int} {m w : Int} (R : RowM ns m) (h : m ≤ w) : w_starts_at_0 [.tuple (ns.map PyData.int), .int w] = ret (.tuple (natsD (starts ns w))) := starts_at_0 (R.long h) R.pos (by have := R.few; omega)
theorem intIn_yes {a b i : Int} (h : a ≤ i) (h2 : i ≤ b) : intIn a b (.int i) = true := by
  simp [intIn]
  omega
theorem RowM.call {ns : List Int} {m w : Int} (R : RowM ns m) (h : m ≤ w) (h2 : w ≤ 2000) : w_WR_call_0 [wr ns, .int w] = ret (.tuple (natsD (starts ns w))) := by
  have := R.m1
  rw [call_wr rfl, if_pos (intIn_yes (by omega) h2), R.starts_at h]
end
end DL
end
section
namespace DL
open PySem
end DL
end
section
namespace DL
open PySem
section
variable {α β : Type} {c c1 c2 : Sx} {a : Nat}
theorem at_bnd {m : W α} {f : α → W β} {x : α} (h : m c = ret x c1) : bnd m f c = f x c1 := by
  show (fun P X => m c (fun y c' => f y c' P X) X) = _
  rw [h]
  rfl
end
end DL
end
section
namespace DL
open PySem
section
variable {α β : Type} {c c1 c2 : Sx} {a : Nat} {E E1 : Env}
theorem at_seq {s t : XS} (h : s E c = ret (.nx E1) c1) : sSeq s t E c = t E1 c1 := by
  unfold sSeq
  rw [at_bnd h]
end
def pgF (row : D) (st dn : List D) (w : D) : List (Str × D) := [("now", row), ("states", .tuple st), ("done", .tuple dn), ("wanted", w), ("is_busy", .bool false)]
def T (ns : List Int) : D := .tuple (ns.map PyData.int)
end DL
end
section
namespace DL
open PySem
inductive Ed where
  | put (p l : D)
  | cut (p : D)
  | resize (p l : D)
  | turn
def Ed.d : Ed → List D
  | .put p l => [.str "put", p, l]
  | .cut p => [.str "cut", p]
  | .resize p l => [.str "resize", p, l]
  | .turn => [.str "turn"]
/-- no objects within -/
def Ed.plain : Ed → Prop
  | .put p l => noXn p = true ∧ noXn l = true
  | .cut p => noXn p = true
  | .resize p l => noXn p = true ∧ noXn l = true
  | .turn => True
/-- what an edit does to a row -/
def evE (ns : List Int) : Ed → Exn ⊕ List Int
  | .put p l => if intIn 0 ns.length p = true then (if intIn 1 60 l = true then (if ns.length = 24 then .inl ⟨"TooMany", [("limit", .int 24)]⟩ else .inr (insI ns p l)) else .inl (xV "BadLength" l)) else .inl (xV "NoPlace" p)
  | .cut p => if intIn 0 (ns.length - 1) p = true then (if ns.length = 1 then .inl ⟨"LastWord", []⟩ else .inr (takI ns p)) else .inl (xV "NoPlace" p)
  | .resize p l => if intIn 0 (ns.length - 1) p = true then (if intIn 1 60 l = true then .inr (setI ns p l) else .inl (xV "BadLength" l)) else .inl (xV "NoPlace" p)
  | .turn => .inr ns.reverse
theorem evE_flat {ns r : List Int} {e : Ed} (h : evE ns e = .inr r) : flatAll e.d = true ∧ e.plain := by
  have yes : ∀ {lo hi : Int} {d : D}, intIn lo hi d = true → ∃ i, d = .int i := fun {lo hi d} q => by
    cases d with
    | int i => exact ⟨i, rfl⟩
    | _ => cases q
  cases e with
  | put p l =>
    simp only [evE] at h
    by_cases h1 : intIn 0 ns.length p = true
    · rw [if_pos h1] at h
      by_cases h2 : intIn 1 60 l = true
      · obtain ⟨i, rfl⟩ := yes h1
        obtain ⟨j, rfl⟩ := yes h2
        exact ⟨rfl, rfl, rfl⟩
      · rw [if_neg h2] at h; cases h
    · rw [if_neg h1] at h; cases h
  | cut p =>
    simp only [evE] at h
    by_cases h1 : intIn 0 (ns.length - 1) p = true
    · obtain ⟨i, rfl⟩ := yes h1
      exact ⟨rfl, rfl⟩
    · rw [if_neg h1] at h; cases h
  | resize p l =>
    simp only [evE] at h
    by_cases h1 : intIn 0 (ns.length - 1) p = true
    · rw [if_pos h1] at h
      by_cases h2 : intIn 1 60 l = true
      · obtain ⟨i, rfl⟩ := yes h1
        obtain ⟨j, rfl⟩ := yes h2
        exact ⟨rfl, rfl, rfl⟩
      · rw [if_neg h2] at h; cases h
    · rw [if_neg h1] at h; cases h
  | turn => exact ⟨rfl, True.intro⟩
theorem flat_T (ns : List Int) : flat (T ns) = true := by
  have : ∀ l : List Int, flatAll (l.map PyData.int) = true := by
    intro l
    induction l with
    | nil => rfl
    | cons x l ih => simp [flatAll, flat, ih]
  exact this ns
end DL
end
section
namespace DL
open PySem
end DL
end
section
namespace DL
open PySem
end DL
end
section
namespace DL
open PySem
end DL
end
section
namespace DL
open PySem
section
variable {c : Sx} {a : Nat} {E : Env}
/-- the model: its lists at s and d -/
structure Mdl (c : Sx) (mo s d : Nat) (b : Bool) (st dn : List D) : Prop where
  m_ : c.mu mo = some (.lst [rD s, rD d, .bool b])
  s_ : c.mu s = some (.lst st)
  d_ : c.mu d = some (.lst dn)
  sd : s ≠ d
variable {mo s d : Nat} {b : Bool} {s1 dn : List D} {rs : List D}
end
end DL
end
section
namespace DL
open PySem
end DL
end
section
namespace DL
open PySem
/-- an error's field, as the law tells it -/
def fldX (x : Exn) : D := match x.fs with
  | [] => .none
  | (_, d) :: _ => d
/-- the errors of edits -/
inductive EdX : Exn → Prop
  | many : EdX ⟨"TooMany", [("limit", .int 24)]⟩
  | last : EdX ⟨"LastWord", []⟩
  | len (d : D) : EdX (xV "BadLength" d)
  | place (d : D) : EdX (xV "NoPlace" d)
  | edits : EdX ⟨"TooManyEdits", []⟩
  | none : EdX ⟨"NothingToUndo", []⟩
theorem EdX.name {x : Exn} (h : EdX x) : w__law_name_0 [x.d] = ret (.str x.cls) := by
  cases h with
  | many => exact name_TooMany _
  | last => exact name_LastWord _
  | len d => exact name_BadLength _
  | place d => exact name_NoPlace _
  | edits => exact name_TooManyEdits _
  | none => exact name_NothingToUndo _
theorem subE_all : (["TooMany", "LastWord", "BadLength", "NoPlace", "TooManyEdits", "NothingToUndo"] : List Str).all (fun n => ([("WrapError" : Str), ("NoPlace" : Str)]).any (subC n)) = true := by decide +kernel
theorem subE (n : Str) (h : n ∈ (["TooMany", "LastWord", "BadLength", "NoPlace", "TooManyEdits", "NothingToUndo"] : List Str)) : ([("WrapError" : Str), ("NoPlace" : Str)]).any (subC n) = true := List.all_eq_true.mp subE_all n h
theorem EdX.sub {x : Exn} (h : EdX x) : ([("WrapError" : Str), ("NoPlace" : Str)]).any (subC x.cls) = true := by
  cases h with
  | many => exact subE "TooMany" (by decide)
  | last => exact subE "LastWord" (by decide)
  | len d => exact subE "BadLength" (by decide)
  | place d => exact subE "NoPlace" (by decide)
  | edits => exact subE "TooManyEdits" (by decide)
  | none => exact subE "NothingToUndo" (by decide)
end DL
end
section
namespace DL
open PySem
end DL
end
section
namespace DL
open PySem
end DL
end
section
namespace DL
open PySem
end DL
end
section
namespace DL
open PySem
end DL
end
section
namespace DL
open PySem
def edD (e : Ed) : D := .tuple e.d
/-- an edit that went through -/
def EdG (e : Ed) : Prop := ∃ ns r, evE ns e = .inr r ∧ ns.length ≤ 24
theorem tame_nm : ∀ z ∈ (["put", "cut", "resize", "turn"] : List Str), z.cps.toList.all (fun c => decide (c < 16 ^ 8)) = true ∧ z.cps.size ≤ 6 := by decide +kernel
theorem tame_of (z : Str) (h : z ∈ (["put", "cut", "resize", "turn"] : List Str)) : Tame 6 0 (.str z) := tame_str (tame_nm z h).1 (tame_nm z h).2
theorem EdG.plain {e : Ed} (h : EdG e) : e.plain := by
  obtain ⟨ns, r, h, _⟩ := h
  exact (evE_flat h).2
theorem EdG.tame {e : Ed} (h : EdG e) : Tame 20 1 (edD e) := by
  obtain ⟨ns, r, h, hl⟩ := h
  have ti : ∀ {lo hi i : Int}, lo ≤ i → i ≤ hi → 0 ≤ lo → hi ≤ 1000 → Tame 0 0 (.int i) := fun {lo hi i} a b c d => tame_int (by
    have : i.natAbs ≤ 1000 := by omega
    exact Nat.lt_of_le_of_lt this (by decide))
  cases e with
  | put p l =>
    simp only [evE] at h
    split at h
    · rename_i h1
      split at h
      · rename_i h3
        obtain ⟨i, rfl, i0, i1⟩ := intIn_of h1
        obtain ⟨x, rfl, x0, x1⟩ := intIn_of h3
        exact (tame_tup (tame_cons (tame_of "put" (by decide)) (tame_cons (ti i0 i1 (by omega) (by omega)) (tame_cons (ti x0 x1 (by omega) (by omega)) tame_nil)))).mono (by decide) (by decide)
      · cases h
    · cases h
  | cut p =>
    simp only [evE] at h
    split at h
    · rename_i h1
      obtain ⟨i, rfl, i0, i1⟩ := intIn_of h1
      exact (tame_tup (tame_cons (tame_of "cut" (by decide)) (tame_cons (ti i0 i1 (by omega) (by omega)) tame_nil))).mono (by decide) (by decide)
    · cases h
  | resize p l =>
    simp only [evE] at h
    split at h
    · rename_i h1
      split at h
      · rename_i h3
        obtain ⟨i, rfl, i0, i1⟩ := intIn_of h1
        obtain ⟨x, rfl, x0, x1⟩ := intIn_of h3
        exact (tame_tup (tame_cons (tame_of "resize" (by decide)) (tame_cons (ti i0 i1 (by omega) (by omega)) (tame_cons (ti x0 x1 (by omega) (by omega)) tame_nil)))).mono (by decide) (by decide)
      · cases h
    · cases h
  | turn => exact (tame_tup (tame_cons (tame_of "turn" (by decide)) tame_nil)).mono (by decide) (by decide)
theorem flat_each : ∀ {l : List D}, (∀ d ∈ l, flat d = true) → flatAll l = true
  | [], _ => rfl
  | d :: l, h => by
    simp only [flatAll, Bool.and_eq_true]
    exact ⟨h d (.head _), flat_each fun x hx => h x (.tail _ hx)⟩
/-- what has been done to a page, so far: the rows before, the edits -/
structure Hist (ns : List Int) (rs : List (List Int)) (es : List Ed) : Prop where
  ln : rs.length = es.length
  le : es.length ≤ 60
  old : ∀ r ∈ rs, RowN r
  now : RowN ns
  eds : ∀ e ∈ es, EdG e
def stD (ns : List Int) (rs : List (List Int)) : List D := rs.map T ++ [T ns]
def dnD (es : List Ed) : List D := es.map edD
section
variable {ns : List Int} {rs : List (List Int)} {es : List Ed}
theorem Hist.fs (h : Hist ns rs es) : flatAll (stD ns rs) = true := flat_each fun d hd => by
  unfold stD at hd
  rcases List.mem_append.mp hd with hd | hd
  · obtain ⟨r, _, rfl⟩ := List.mem_map.mp hd
    exact flat_T r
  · rw [List.mem_singleton.mp hd]; exact flat_T ns
theorem Hist.tame (h : Hist ns rs es) : Tame 1300 2 (.tuple (dnD es)) := by
  have h1 := tame_all (n := 20) (k := 1) (dnD es) fun d hd => by
    obtain ⟨e, he, rfl⟩ := List.mem_map.mp hd
    exact (h.eds e he).tame
  have h2 := tame_tup h1
  have h3 : (dnD es).length ≤ 60 := by rw [dnD, List.length_map]; exact h.le
  exact h2.mono (by omega) (by omega)
end
/-- the page at a, its model at mo -/
structure Inv (c : Sx) (a mo s d : Nat) (ns : List Int) (rs : List (List Int)) (es : List Ed) (w : D) : Prop where
  pg : c.mu a = some (.ins "Page" (pgF (T ns) (stD ns rs) (dnD es) w))
  md : Mdl c mo s d false (stD ns rs) (dnD es)
  hs : Hist ns rs es
section
variable {c : Sx} {a mo s d : Nat} {ns : List Int} {rs : List (List Int)} {es : List Ed} {w : D}
theorem Inv.mu {c' : Sx} (h : Inv c a mo s d ns rs es w) (e : c'.mu = c.mu) : Inv c' a mo s d ns rs es w :=
  ⟨by rw [e]; exact h.pg, ⟨by rw [e]; exact h.md.m_, by rw [e]; exact h.md.s_, by rw [e]; exact h.md.d_, h.md.sd⟩, h.hs⟩
end
end DL
end
section
namespace DL
open PySem
theorem Ed.nm (e : Ed) : ∃ (z : Str) (xs : List D), e.d = .str z :: xs ∧ z ≠ "undo" := by
  cases e with
  | put p l => exact ⟨"put", _, rfl, by decide⟩
  | cut p => exact ⟨"cut", _, rfl, by decide⟩
  | resize p l => exact ⟨"resize", _, rfl, by decide⟩
  | turn => exact ⟨"turn", _, rfl, by decide⟩
theorem EdX.row {x : Exn} (h : EdX x) : x.cls ≠ "row" := by
  cases h with
  | many => show ("TooMany" : Str) ≠ "row"; decide
  | last => show ("LastWord" : Str) ≠ "row"; decide
  | len d => show ("BadLength" : Str) ≠ "row"; decide
  | place d => show ("NoPlace" : Str) ≠ "row"; decide
  | edits => show ("TooManyEdits" : Str) ≠ "row"; decide
  | none => show ("NothingToUndo" : Str) ≠ "row"; decide
end DL
end
section
namespace DL
open PySem
/-- m goes well from where I holds, with at most n draws, and then Q holds -/
def OkS {α : Type} (m : W α) (n : Nat) (I : Sx → Prop) (Q : α → Sx → Prop) : Prop := ∀ (c : Sx) (P : α → Sx → Prop) (X : Exn → Sx → Prop), c.n + n < 2 ^ 40 → I c → (∀ a c', c'.n ≤ c.n + n → Q a c' → P a c') → m c P X
section
variable {α β : Type} {m : W α} {n n' k : Nat} {I J : Sx → Prop} {Q R : α → Sx → Prop}
theorem OkS.bnd (t : Nat) {f : α → W β} {S : β → Sx → Prop} (h : OkS m n I Q) (hn : n ≤ t) (hf : ∀ a, OkS (f a) (t - n) (Q a) S) : OkS (DL.bnd m f) t I S := fun c P X hc hI kk =>
  h c _ X (by omega) hI fun a c' hc' q => hf a c' P X (by omega) q fun b c'' h2 s => kk b c'' (by omega) s
theorem OkS.mono (h : OkS m n I Q) (hn : n ≤ n') (hq : ∀ a c, Q a c → R a c) : OkS m n' I R := fun c P X hc hI kk => h c P X (by omega) hI fun a c' h1 h2 => kk a c' (by omega) (hq a c' h2)
theorem OkS.le (h : OkS m n I Q) (hn : n ≤ n') : OkS m n' I Q := h.mono hn fun _ _ h => h
theorem OkS.imp (h : OkS m n I Q) (hq : ∀ a c, Q a c → R a c) : OkS m n I R := h.mono (Nat.le_refl _) hq
theorem OkS.ex {γ : Type} {I : γ → Sx → Prop} (h : ∀ x, OkS m n (I x) Q) : OkS m n (fun c => ∃ x, I x c) Q := fun c P X hc ⟨x, hI⟩ kk => h x c P X hc hI kk
theorem OkS.eq {m' : W α} (e : m = m') (h : OkS m' n I Q) : OkS m n I Q := by rw [e]; exact h
theorem OkS.ret {a : α} (h : ∀ c, I c → Q a c) : OkS (DL.ret a) n I Q := fun c P X _ hI k => k a c (by omega) (h c hI)
theorem OkS.at (h : ∀ c, I c → ∃ x c1, m c = DL.ret x c1 ∧ c1.n = c.n ∧ Q x c1) : OkS m n I Q := fun c P X hc hI kk => by
  obtain ⟨x, c1, e, hn, q⟩ := h c hI
  rw [e]
  exact kk x c1 (by omega) q
theorem OkS.ok {Q : α → Prop} (h : Ok m n Q) (hi : ∀ c c' : Sx, c'.mu = c.mu → I c → I c') : OkS m n I fun a c => Q a ∧ I c := fun c P X hc hI kk =>
  h c P X hc fun a c' h1 q => kk a c' h1.1 ⟨q, hi c c' h1.2 hI⟩
theorem OkS.run {P : α → Prop} {X : Exn → Sx → Prop} (h : OkS m n I Q) (hn : n < 2 ^ 40) (hI : I (.z 0)) (hq : ∀ a c, Q a c → P a) : m (.z 0) (fun a _ => P a) X := h (.z 0) _ X (by show 0 + n < _; omega) hI fun a c _ q => hq a c q
end
section
variable {n k : Nat} {I : Sx → Prop} {Q : Out → Sx → Prop} {E : Env}
theorem OkS.seq (t : Nat) {a b : XS} (J : Env → Sx → Prop) (h : OkS (a E) n I fun o c => match o with | .nx E' => J E' c | o => Q o c) (hn : n ≤ t) (hb : ∀ E', OkS (b E') (t - n) (J E') Q) : OkS (sSeq a b E) t I Q := by
  refine OkS.bnd t h hn fun o => ?_
  cases o with
  | nx E' => exact hb E'
  | rt d => exact OkS.ret fun c h => h
  | bk E' => exact OkS.ret fun c h => h
  | ct E' => exact OkS.ret fun c h => h
/-- one step, that only changes names -/
theorem OkS.step {a b : XS} {t : Nat} (E1 : Env) (h : ∀ c, I c → a E c = DL.ret (.nx E1) c) (hb : OkS (b E1) t I Q) : OkS (sSeq a b E) t I Q := fun c P X hc hI kk => by
  rw [at_seq (h c hI)]
  exact hb c P X hc hI kk
end
/-- an edit of odd parts -/
def Ed.odd : Ed → Prop
  | .put p l => Odd p ∧ Odd l
  | .cut p => Odd p
  | .resize p l => Odd p ∧ Odd l
  | .turn => True
theorem Ed.odd.plain {e : Ed} (h : e.odd) : e.plain := by
  cases e with
  | put p l => exact ⟨h.1.nx, h.2.nx⟩
  | cut p => exact Odd.nx h
  | resize p l => exact ⟨h.1.nx, h.2.nx⟩
  | turn => exact True.intro
theorem Ed.odd.tame {e : Ed} (h : e.odd) : Tame 40 3 (edD e) := by
  cases e with
  | put p l => exact (tame_tup (tame_cons (tame_of "put" (by decide)) (tame_cons h.1 (tame_cons h.2 tame_nil)))).mono (by decide) (by decide)
  | cut p => exact (tame_tup (tame_cons (tame_of "cut" (by decide)) (tame_cons (show Tame 8 2 p from h) tame_nil))).mono (by decide) (by decide)
  | resize p l => exact (tame_tup (tame_cons (tame_of "resize" (by decide)) (tame_cons h.1 (tame_cons h.2 tame_nil)))).mono (by decide) (by decide)
  | turn => exact (tame_tup (tame_cons (tame_of "turn" (by decide)) tame_nil)).mono (by decide) (by decide)
theorem EdX.odd {x : Exn} (h : EdX x) (hf : Odd (fldX x)) : showOk (.list [.str x.cls, fldX x]) := by
  have tn : ∀ z ∈ (["TooMany", "LastWord", "BadLength", "NoPlace", "TooManyEdits", "NothingToUndo"] : List Str), z.cps.toList.all (fun c => decide (c < 16 ^ 8)) = true ∧ z.cps.size ≤ 20 := by decide +kernel
  have ts : ∀ z ∈ (["TooMany", "LastWord", "BadLength", "NoPlace", "TooManyEdits", "NothingToUndo"] : List Str), Tame 20 0 (.str z) := fun z hz => tame_str (tn z hz).1 (tn z hz).2
  have tc : Tame 20 0 (.str x.cls) := by
    cases h with
    | many => exact ts "TooMany" (by decide)
    | last => exact ts "LastWord" (by decide)
    | len d => exact ts "BadLength" (by decide)
    | place d => exact ts "NoPlace" (by decide)
    | edits => exact ts "TooManyEdits" (by decide)
    | none => exact ts "NothingToUndo" (by decide)
  exact (tame_lst (tame_cons tc (tame_cons hf tame_nil))).show (by decide) (by decide)
end DL
end
section
namespace DL
open PySem
end DL
end
section
namespace DL
open PySem
end DL
end
section
namespace DL
open PySem
def badAt (ds : List D) (i : Nat) : Bool := !intIn 1 60 (ds.getD i .none)
theorem fb_filter : ∀ (ds : List D) (i : Nat), firstBad ds i = match (List.range ds.length).filter (badAt ds) with
    | [] => .none
    | x :: _ => .tuple [.int ((i + x : Nat) : Int), .str "length"]
  | [], i => rfl
  | d :: ds, i => by
    unfold firstBad
    rw [List.length_cons, List.range_succ_eq_map, List.filter_cons]
    have b0 : badAt (d :: ds) 0 = !intIn 1 60 d := rfl
    rw [b0]
    cases h : intIn 1 60 d with
    | false =>
      simp only [Bool.not_false, if_true]
      rw [if_neg (by decide)]
      rfl
    | true =>
      simp only [Bool.not_true, if_true]
      rw [if_neg (by decide), fb_filter ds (i + 1), List.filter_map]
      have e : (badAt (d :: ds)) ∘ Nat.succ = badAt ds := by
        funext k
        rfl
      rw [e]
      cases (List.range ds.length).filter (badAt ds) with
      | nil => rfl
      | cons x r =>
        show PyData.tuple [.int ((i + 1 + x : Nat) : Int), .str "length"] = PyData.tuple [.int ((i + Nat.succ x : Nat) : Int), .str "length"]
        rw [show i + 1 + x = i + Nat.succ x by omega]
theorem law_reason_0 {u : Nat} {d : D} (h : lf u d = true) : w__law_reason_0 [d] = ret (rowErr d) := by
  unfold w__law_reason_0
  refine (f_fn (by rfl)).trans ?_
  have nx : noXn d = true := nx_plain (lf_plain h)
  have s3 : start 3 ([d].map Ent.val) = [.val d, .unk, .unk] := rfl
  rw [s3]
  cases d with
  | tuple ds =>
    have hA := lfA_nx (u := u) (ds := ds) (by unfold DL.lf at h; exact h)
    by_cases h1 : (1 : Int) ≤ (ds.length : Int)
    · by_cases h2 : (ds.length : Int) ≤ 24
      · have e : rowErr (.tuple ds) = firstBad ds 0 := by
          show (if _ then _ else _) = _
          rw [if_neg (by omega)]
        have c : eComp (iRng1 (eB1 .len (eVar 0))) (.nm 2) (tNot (tTru (eCall w__law_is_int_0 (aCons (eIdx (eVar 0) (eVar 2)) (aCons (eCon (.int 1)) (aCons (eCon (.int 60)) (aNil))))))) (eVar 2) [2] [.val (.tuple ds), .unk, .unk] = ret (.list (natsD ((List.range ds.length).filter (badAt ds)))) := by
          refine (comp_filtE (ds := rng 0 ds.length) (p := fun d => match d with | .int i => badAt ds i.toNat | _ => false) (f := id) ?_ (by rw [rng_len]; omega) fun d hd => ?_).trans ?_
          · try simp (disch := omega) only [x_var, x_con, x_bin, x_neg, x_cmp, x_chain, x_tTru, x_tNot, x_tAnd, x_tOr, x_tBool, x_tYes, x_not, x_and, x_or, x_if, x_b1, x_b2, x_is, x_idx, x_oNone, x_oSome, x_cut, x_aNil, x_aCons, x_tup, x_lst, x_call, x_callS,
    x_iSeq, x_iRng1, x_iRng2, x_bor, x_tBor, x_put1, List.map_cons, List.map_nil, List.cons_append, List.nil_append, List.length_cons, List.length_nil, Nat.zero_add, Nat.reduceAdd, Nat.reduceSub, List.reduceReplicate, start,
    List.getElem?_cons_zero, List.getElem?_cons_succ, List.set_cons_zero, List.set_cons_succ, bnd_ret, bnd_assoc, bnd_grd, b1_if, bnd_ite, small, Nat.reduceLeDiff, grd_true, o_add, o_sub, o_neg, o_eq, o_ne, o_lt, o_le, o_gt, o_ge, o_eqS, o_neS,
    decide_eq_true_eq, reduceIte, decide_true, decide_false, Bool.not_true, Bool.not_false, Bool.false_eq_true, itemsOf, asInt, endOf, isTy,
    grd_tt, nx_int, nx_bool, nx_str, nx_none, nx_tup, nx_lst, x_isC, x_fld, x_in, x_count, x_lstR, x_tupR, x_raise, x_star, bnd_thr, noX_ret, fld_x, exn_d, eSetO, Out.clear, List.zip_cons_cons, List.zip_nil_left, List.zip_nil_right, s_asg, s_par, s_own, s_parO, s_put, s_expr, s_ret, s_skip, s_seq, s_rel, x_asg, x_par, x_own, x_parO, x_put, x_expr, x_ret, x_retN, x_skip, x_rel, x_app, x_setI, x_sIf, x_for, x_brk, x_cnt, b_lenT, b_lenL, b_tupL, b_tupT, b_max2, b_min2, o_addL, o_addT, cut_ints, sum_ints, s_chk, s_for, s_brk, s_cnt, s_retN, t_bool, g_rng, g_le, List.length_map]
          · obtain ⟨i, hi⟩ := List.mem_iff_getElem?.mp hd
            obtain ⟨rfl, h3⟩ := rng_at hi
            refine ⟨_, rfl, ?_, fun _ => rfl⟩
            have hl : i < ds.length := by omega
            have e1 : opIdx (.tuple ds) (.int (0 + (i : Int))) = ret ds[i] := by
              rw [idx_tup (by omega) (by omega)]
              congr 2
              omega
            have e2 : ds.getD ((0 : Int) + (i : Int)).toNat .none = ds[i] := by
              rw [show ((0 : Int) + (i : Int)).toNat = i by omega, List.getD_eq_getElem?_getD, List.getElem?_eq_getElem hl]
              rfl
            have nxi := hA _ (List.getElem_mem hl)
            try simp only [x_var, x_con, x_bin, x_neg, x_cmp, x_chain, x_tTru, x_tNot, x_tAnd, x_tOr, x_tBool, x_tYes, x_not, x_and, x_or, x_if, x_b1, x_b2, x_is, x_idx, x_oNone, x_oSome, x_cut, x_aNil, x_aCons, x_tup, x_lst, x_call, x_callS,
    x_iSeq, x_iRng1, x_iRng2, x_bor, x_tBor, x_put1, List.map_cons, List.map_nil, List.cons_append, List.nil_append, List.length_cons, List.length_nil, Nat.zero_add, Nat.reduceAdd, Nat.reduceSub, List.reduceReplicate, start,
    List.getElem?_cons_zero, List.getElem?_cons_succ, List.set_cons_zero, List.set_cons_succ, bnd_ret, bnd_assoc, bnd_grd, b1_if, bnd_ite, small, Nat.reduceLeDiff, grd_true, o_add, o_sub, o_neg, o_eq, o_ne, o_lt, o_le, o_gt, o_ge, o_eqS, o_neS,
    decide_eq_true_eq, reduceIte, decide_true, decide_false, Bool.not_true, Bool.not_false, Bool.false_eq_true, itemsOf, asInt, endOf, isTy,
    grd_tt, nx_int, nx_bool, nx_str, nx_none, nx_tup, nx_lst, x_isC, x_fld, x_in, x_count, x_lstR, x_tupR, x_raise, x_star, bnd_thr, noX_ret, fld_x, exn_d, eSetO, Out.clear, List.zip_cons_cons, List.zip_nil_left, List.zip_nil_right, s_asg, s_par, s_own, s_parO, s_put, s_expr, s_ret, s_skip, s_seq, s_rel, x_asg, x_par, x_own, x_parO, x_put, x_expr, x_ret, x_retN, x_skip, x_rel, x_app, x_setI, x_sIf, x_for, x_brk, x_cnt, b_lenT, b_lenL, b_tupL, b_tupT, b_max2, b_min2, o_addL, o_addT, cut_ints, sum_ints, s_chk, s_for, s_brk, s_cnt, s_retN, t_bool, g_rng, g_le, List.length_map, wipeE, e1, law_is_int_0 nxi]
            show _ = ret (badAt ds _)
            unfold badAt
            rw [e2]
          · rw [List.map_id, rng_natsD]
            unfold natsD
            rw [List.filter_map]
            rfl
        rw [e, fb_filter ds 0]
        generalize (List.range ds.length).filter (badAt ds) = l at c ⊢
        have i0 : ∀ x r, opIdx (.list (natsD (x :: r))) (.int 0) = ret (.int ((x : Nat) : Int)) := fun x r => idx_list (by decide) (by rw [natsD_len, List.length_cons]; omega)
        cases l with
        | nil =>
          try simp only [x_var, x_con, x_bin, x_neg, x_cmp, x_chain, x_tTru, x_tNot, x_tAnd, x_tOr, x_tBool, x_tYes, x_not, x_and, x_or, x_if, x_b1, x_b2, x_is, x_idx, x_oNone, x_oSome, x_cut, x_aNil, x_aCons, x_tup, x_lst, x_call, x_callS,
    x_iSeq, x_iRng1, x_iRng2, x_bor, x_tBor, x_put1, List.map_cons, List.map_nil, List.cons_append, List.nil_append, List.length_cons, List.length_nil, Nat.zero_add, Nat.reduceAdd, Nat.reduceSub, List.reduceReplicate, start,
    List.getElem?_cons_zero, List.getElem?_cons_succ, List.set_cons_zero, List.set_cons_succ, bnd_ret, bnd_assoc, bnd_grd, b1_if, bnd_ite, small, Nat.reduceLeDiff, grd_true, o_add, o_sub, o_neg, o_eq, o_ne, o_lt, o_le, o_gt, o_ge, o_eqS, o_neS,
    decide_eq_true_eq, reduceIte, decide_true, decide_false, Bool.not_true, Bool.not_false, Bool.false_eq_true, itemsOf, asInt, endOf, isTy,
    grd_tt, nx_int, nx_bool, nx_str, nx_none, nx_tup, nx_lst, x_isC, x_fld, x_in, x_count, x_lstR, x_tupR, x_raise, x_star, bnd_thr, noX_ret, fld_x, exn_d, eSetO, Out.clear, List.zip_cons_cons, List.zip_nil_left, List.zip_nil_right, s_asg, s_par, s_own, s_parO, s_put, s_expr, s_ret, s_skip, s_seq, s_rel, x_asg, x_par, x_own, x_parO, x_put, x_expr, x_ret, x_retN, x_skip, x_rel, x_app, x_setI, x_sIf, x_for, x_brk, x_cnt, b_lenT, b_lenL, b_tupL, b_tupT, b_max2, b_min2, o_addL, o_addT, cut_ints, sum_ints, s_chk, s_for, s_brk, s_cnt, s_retN, t_bool, g_rng, g_le, List.length_map, h1, h2, c, o_neNil0]
          rfl
        | cons x r =>
          have ne : (natsD (x :: r)).isEmpty = false := rfl
          try simp only [x_var, x_con, x_bin, x_neg, x_cmp, x_chain, x_tTru, x_tNot, x_tAnd, x_tOr, x_tBool, x_tYes, x_not, x_and, x_or, x_if, x_b1, x_b2, x_is, x_idx, x_oNone, x_oSome, x_cut, x_aNil, x_aCons, x_tup, x_lst, x_call, x_callS,
    x_iSeq, x_iRng1, x_iRng2, x_bor, x_tBor, x_put1, List.map_cons, List.map_nil, List.cons_append, List.nil_append, List.length_cons, List.length_nil, Nat.zero_add, Nat.reduceAdd, Nat.reduceSub, List.reduceReplicate, start,
    List.getElem?_cons_zero, List.getElem?_cons_succ, List.set_cons_zero, List.set_cons_succ, bnd_ret, bnd_assoc, bnd_grd, b1_if, bnd_ite, small, Nat.reduceLeDiff, grd_true, o_add, o_sub, o_neg, o_eq, o_ne, o_lt, o_le, o_gt, o_ge, o_eqS, o_neS,
    decide_eq_true_eq, reduceIte, decide_true, decide_false, Bool.not_true, Bool.not_false, Bool.false_eq_true, itemsOf, asInt, endOf, isTy,
    grd_tt, nx_int, nx_bool, nx_str, nx_none, nx_tup, nx_lst, x_isC, x_fld, x_in, x_count, x_lstR, x_tupR, x_raise, x_star, bnd_thr, noX_ret, fld_x, exn_d, eSetO, Out.clear, List.zip_cons_cons, List.zip_nil_left, List.zip_nil_right, s_asg, s_par, s_own, s_parO, s_put, s_expr, s_ret, s_skip, s_seq, s_rel, x_asg, x_par, x_own, x_parO, x_put, x_expr, x_ret, x_retN, x_skip, x_rel, x_app, x_setI, x_sIf, x_for, x_brk, x_cnt, b_lenT, b_lenL, b_tupL, b_tupT, b_max2, b_min2, o_addL, o_addT, cut_ints, sum_ints, s_chk, s_for, s_brk, s_cnt, s_retN, t_bool, g_rng, g_le, List.length_map, h1, h2, c, o_neNil0, ne, i0]
      · have e : rowErr (.tuple ds) = .tuple [.none, .str "row"] := by
          show (if _ then _ else _) = _
          rw [if_pos (by omega)]
        rw [e]
        try simp only [x_var, x_con, x_bin, x_neg, x_cmp, x_chain, x_tTru, x_tNot, x_tAnd, x_tOr, x_tBool, x_tYes, x_not, x_and, x_or, x_if, x_b1, x_b2, x_is, x_idx, x_oNone, x_oSome, x_cut, x_aNil, x_aCons, x_tup, x_lst, x_call, x_callS,
    x_iSeq, x_iRng1, x_iRng2, x_bor, x_tBor, x_put1, List.map_cons, List.map_nil, List.cons_append, List.nil_append, List.length_cons, List.length_nil, Nat.zero_add, Nat.reduceAdd, Nat.reduceSub, List.reduceReplicate, start,
    List.getElem?_cons_zero, List.getElem?_cons_succ, List.set_cons_zero, List.set_cons_succ, bnd_ret, bnd_assoc, bnd_grd, b1_if, bnd_ite, small, Nat.reduceLeDiff, grd_true, o_add, o_sub, o_neg, o_eq, o_ne, o_lt, o_le, o_gt, o_ge, o_eqS, o_neS,
    decide_eq_true_eq, reduceIte, decide_true, decide_false, Bool.not_true, Bool.not_false, Bool.false_eq_true, itemsOf, asInt, endOf, isTy,
    grd_tt, nx_int, nx_bool, nx_str, nx_none, nx_tup, nx_lst, x_isC, x_fld, x_in, x_count, x_lstR, x_tupR, x_raise, x_star, bnd_thr, noX_ret, fld_x, exn_d, eSetO, Out.clear, List.zip_cons_cons, List.zip_nil_left, List.zip_nil_right, s_asg, s_par, s_own, s_parO, s_put, s_expr, s_ret, s_skip, s_seq, s_rel, x_asg, x_par, x_own, x_parO, x_put, x_expr, x_ret, x_retN, x_skip, x_rel, x_app, x_setI, x_sIf, x_for, x_brk, x_cnt, b_lenT, b_lenL, b_tupL, b_tupT, b_max2, b_min2, o_addL, o_addT, cut_ints, sum_ints, s_chk, s_for, s_brk, s_cnt, s_retN, t_bool, g_rng, g_le, List.length_map, h1, h2]
    · have e : rowErr (.tuple ds) = .tuple [.none, .str "row"] := by
        show (if _ then _ else _) = _
        rw [if_pos (by omega)]
      rw [e]
      try simp only [x_var, x_con, x_bin, x_neg, x_cmp, x_chain, x_tTru, x_tNot, x_tAnd, x_tOr, x_tBool, x_tYes, x_not, x_and, x_or, x_if, x_b1, x_b2, x_is, x_idx, x_oNone, x_oSome, x_cut, x_aNil, x_aCons, x_tup, x_lst, x_call, x_callS,
    x_iSeq, x_iRng1, x_iRng2, x_bor, x_tBor, x_put1, List.map_cons, List.map_nil, List.cons_append, List.nil_append, List.length_cons, List.length_nil, Nat.zero_add, Nat.reduceAdd, Nat.reduceSub, List.reduceReplicate, start,
    List.getElem?_cons_zero, List.getElem?_cons_succ, List.set_cons_zero, List.set_cons_succ, bnd_ret, bnd_assoc, bnd_grd, b1_if, bnd_ite, small, Nat.reduceLeDiff, grd_true, o_add, o_sub, o_neg, o_eq, o_ne, o_lt, o_le, o_gt, o_ge, o_eqS, o_neS,
    decide_eq_true_eq, reduceIte, decide_true, decide_false, Bool.not_true, Bool.not_false, Bool.false_eq_true, itemsOf, asInt, endOf, isTy,
    grd_tt, nx_int, nx_bool, nx_str, nx_none, nx_tup, nx_lst, x_isC, x_fld, x_in, x_count, x_lstR, x_tupR, x_raise, x_star, bnd_thr, noX_ret, fld_x, exn_d, eSetO, Out.clear, List.zip_cons_cons, List.zip_nil_left, List.zip_nil_right, s_asg, s_par, s_own, s_parO, s_put, s_expr, s_ret, s_skip, s_seq, s_rel, x_asg, x_par, x_own, x_parO, x_put, x_expr, x_ret, x_retN, x_skip, x_rel, x_app, x_setI, x_sIf, x_for, x_brk, x_cnt, b_lenT, b_lenL, b_tupL, b_tupT, b_max2, b_min2, o_addL, o_addT, cut_ints, sum_ints, s_chk, s_for, s_brk, s_cnt, s_retN, t_bool, g_rng, g_le, List.length_map, h1]
  | _ =>
    try simp only [x_var, x_con, x_bin, x_neg, x_cmp, x_chain, x_tTru, x_tNot, x_tAnd, x_tOr, x_tBool, x_tYes, x_not, x_and, x_or, x_if, x_b1, x_b2, x_is, x_idx, x_oNone, x_oSome, x_cut, x_aNil, x_aCons, x_tup, x_lst, x_call, x_callS,
    x_iSeq, x_iRng1, x_iRng2, x_bor, x_tBor, x_put1, List.map_cons, List.map_nil, List.cons_append, List.nil_append, List.length_cons, List.length_nil, Nat.zero_add, Nat.reduceAdd, Nat.reduceSub, List.reduceReplicate, start,
    List.getElem?_cons_zero, List.getElem?_cons_succ, List.set_cons_zero, List.set_cons_succ, bnd_ret, bnd_assoc, bnd_grd, b1_if, bnd_ite, small, Nat.reduceLeDiff, grd_true, o_add, o_sub, o_neg, o_eq, o_ne, o_lt, o_le, o_gt, o_ge, o_eqS, o_neS,
    decide_eq_true_eq, reduceIte, decide_true, decide_false, Bool.not_true, Bool.not_false, Bool.false_eq_true, itemsOf, asInt, endOf, isTy,
    grd_tt, nx_int, nx_bool, nx_str, nx_none, nx_tup, nx_lst, x_isC, x_fld, x_in, x_count, x_lstR, x_tupR, x_raise, x_star, bnd_thr, noX_ret, fld_x, exn_d, eSetO, Out.clear, List.zip_cons_cons, List.zip_nil_left, List.zip_nil_right, s_asg, s_par, s_own, s_parO, s_put, s_expr, s_ret, s_skip, s_seq, s_rel, x_asg, x_par, x_own, x_parO, x_put, x_expr, x_ret, x_retN, x_skip, x_rel, x_app, x_setI, x_sIf, x_for, x_brk, x_cnt, b_lenT, b_lenL, b_tupL, b_tupT, b_max2, b_min2, o_addL, o_addT, cut_ints, sum_ints, s_chk, s_for, s_brk, s_cnt, s_retN, t_bool, g_rng, g_le, List.length_map, nx]
    rfl
def expD (d : D) : D := if isNone (rowErr d) = true then .list [.str "row", d] else .list [.str "BadRow", rowErr d]
theorem expected_0 {u : Nat} {d : D} (h : lf u d = true) : w__law_expected_0 [d] = ret (expD d) := by
  unfold w__law_expected_0
  refine (f_fn (by rfl)).trans ?_
  have s2 : start 2 ([d].map Ent.val) = [.val d, .unk] := rfl
  rw [s2]
  unfold expD
  try simp only [x_var, x_con, x_bin, x_neg, x_cmp, x_chain, x_tTru, x_tNot, x_tAnd, x_tOr, x_tBool, x_tYes, x_not, x_and, x_or, x_if, x_b1, x_b2, x_is, x_idx, x_oNone, x_oSome, x_cut, x_aNil, x_aCons, x_tup, x_lst, x_call, x_callS,
    x_iSeq, x_iRng1, x_iRng2, x_bor, x_tBor, x_put1, List.map_cons, List.map_nil, List.cons_append, List.nil_append, List.length_cons, List.length_nil, Nat.zero_add, Nat.reduceAdd, Nat.reduceSub, List.reduceReplicate, start,
    List.getElem?_cons_zero, List.getElem?_cons_succ, List.set_cons_zero, List.set_cons_succ, bnd_ret, bnd_assoc, bnd_grd, b1_if, bnd_ite, small, Nat.reduceLeDiff, grd_true, o_add, o_sub, o_neg, o_eq, o_ne, o_lt, o_le, o_gt, o_ge, o_eqS, o_neS,
    decide_eq_true_eq, reduceIte, decide_true, decide_false, Bool.not_true, Bool.not_false, Bool.false_eq_true, itemsOf, asInt, endOf, isTy,
    grd_tt, nx_int, nx_bool, nx_str, nx_none, nx_tup, nx_lst, x_isC, x_fld, x_in, x_count, x_lstR, x_tupR, x_raise, x_star, bnd_thr, noX_ret, fld_x, exn_d, eSetO, Out.clear, List.zip_cons_cons, List.zip_nil_left, List.zip_nil_right, s_asg, s_par, s_own, s_parO, s_put, s_expr, s_ret, s_skip, s_seq, s_rel, x_asg, x_par, x_own, x_parO, x_put, x_expr, x_ret, x_retN, x_skip, x_rel, x_app, x_setI, x_sIf, x_for, x_brk, x_cnt, b_lenT, b_lenL, b_tupL, b_tupT, b_max2, b_min2, o_addL, o_addT, cut_ints, sum_ints, s_chk, s_for, s_brk, s_cnt, s_retN, t_bool, g_rng, g_le, List.length_map, law_reason_0 h, o_isN]
  cases isNone (rowErr d) <;> rfl
theorem fb_ints : ∀ (ds : List D) (i : Nat), firstBad ds i = .none → ∃ ns : List Int, ds = ns.map PyData.int ∧ ∀ x ∈ ns, 1 ≤ x ∧ x ≤ 60
  | [], _, _ => ⟨[], rfl, fun _ h => by cases h⟩
  | d :: ds, i, h => by
    unfold firstBad at h
    split at h
    · rename_i c
      obtain ⟨k, rfl, k1, k2⟩ := intIn_of c
      obtain ⟨ns, rfl, hn⟩ := fb_ints ds (i + 1) h
      refine ⟨k :: ns, rfl, fun x hx => ?_⟩
      rcases List.mem_cons.mp hx with rfl | hx
      · exact ⟨k1, k2⟩
      · exact hn x hx
    · cases h
theorem isNone_of {d : D} (h : isNone d = true) : d = .none := by
  cases d <;> first | rfl | cases h
theorem row_of {d : D} (h : isNone (rowErr d) = true) : ∃ ns : List Int, d = .tuple (ns.map PyData.int) ∧ RowN ns := by
  have h := isNone_of h
  cases d with
  | tuple ds =>
    have h : (if ds.length = 0 ∨ 24 < ds.length then PyData.tuple [.none, .str "row"] else firstBad ds 0) = .none := h
    split at h
    · cases h
    · obtain ⟨ns, rfl, hn⟩ := fb_ints ds 0 h
      rename_i c
      rw [List.length_map] at c
      exact ⟨ns, rfl, by omega, by omega, hn⟩
  | _ => cases h
theorem told_mk {u : Nat} {d : D} (hd : lf u d = true) {f : Fn} {a : Nat} (h : f [] = w_WR_init_0 [d]) : w__law_told_22 (phi1 a f) [rD a] = ret (expD d) := by
  rw [mk_d hd] at h
  unfold expD
  by_cases c : isNone (rowErr d) = true
  · rw [if_pos c] at h ⊢
    obtain ⟨ns, rfl, R⟩ := row_of c
    exact told22_ok ⟨ns, h, rfl⟩
  · rw [if_neg c] at h ⊢
    exact told22_no (x := ⟨"BadRow", [(Fl.s .error, rowErr d)]⟩) (nm := "BadRow") h rfl (by decide) (name_BadRow _) (field_BadRow _)
theorem tame_tag63 {s : Str} {d : D} {n k : Nat} (hs : s.cps.toList.all (fun c => decide (c < 16 ^ 8)) = true) (hl : s.cps.size ≤ 20) (h : Tame n k d) : Tame (n + 30) (k + 1) (.list [.str s, d]) :=
  (tame_lst (tame_cons (tame_str hs hl) (tame_cons h tame_nil))).mono (by omega) (by omega)
theorem expD_tame {d : D} (h : Bd 2 1000 12 d) : Tame 1030 13 (expD d) := by
  unfold expD
  split
  · exact tame_tag63 (by decide +kernel) (by decide +kernel) (h.tame (by decide))
  · exact (tame_tag63 (by decide +kernel) (by decide +kernel) (rowErr_tame (d := d))).mono (by decide) (by decide)
theorem ne_same63 (x : Str) : opCmp .ne (.str x) (.str x) = ret false := by
  rw [o_neS]
  simp
theorem val_test {d : D} (h : Bd 2 1000 12 d) {x : Str} (hx : x = PyData.shown d) {e2 e3 e4 e5 e6 e7 : Ent} :
    (DL.tOr (tBool (eCmp .ne (eB1 .repr (eTold "law" w__law_told_22 (eMkW w_WR_init_0 (eVar 9)))) (eB1 .repr (eCall w__law_expected_0 (aCons (eVar 9) (aNil)))))) (tBool (eCmp .ne (eB1 .repr (eVar 9)) (eVar 8))))
      [.unk, .stm, e2, e3, e4, e5, e6, e7, .val (.str x), .val d] = tabG "law" (ret false) := by
  subst hx
  have to : eTold "law" w__law_told_22 (eMkW w_WR_init_0 (eVar 9)) [.unk, .stm, e2, e3, e4, e5, e6, e7, .val (.str (PyData.shown d)), .val d] = tabG "law" (ret (expD d)) :=
    x_told fun f a hf => told_mk h.lf (by rw [hf]; simp only [hideE, x_var, x_con, x_bin, x_neg, x_cmp, x_chain, x_tTru, x_tNot, x_tAnd, x_tOr, x_tBool, x_tYes, x_not, x_and, x_or, x_if, x_b1, x_b2, x_is, x_idx, x_oNone, x_oSome, x_cut, x_aNil, x_aCons, x_tup, x_lst, x_call, x_callS,
    x_iSeq, x_iRng1, x_iRng2, x_bor, x_tBor, x_put1, List.map_cons, List.map_nil, List.cons_append, List.nil_append, List.length_cons, List.length_nil, Nat.zero_add, Nat.reduceAdd, Nat.reduceSub, List.reduceReplicate, start,
    List.getElem?_cons_zero, List.getElem?_cons_succ, List.set_cons_zero, List.set_cons_succ, bnd_ret, bnd_assoc, bnd_grd, b1_if, bnd_ite, small, Nat.reduceLeDiff, grd_true, o_add, o_sub, o_neg, o_eq, o_ne, o_lt, o_le, o_gt, o_ge, o_eqS, o_neS,
    decide_eq_true_eq, reduceIte, decide_true, decide_false, Bool.not_true, Bool.not_false, Bool.false_eq_true, itemsOf, asInt, bi2, endOf, isTy,
    grd_tt, nx_int, nx_bool, nx_str, nx_none, nx_tup, nx_lst, x_isC, x_fld, x_in, x_count, x_lstR, x_tupR, x_raise, x_star, bnd_thr, noX_ret, fld_x, exn_d, eSetO, Out.clear, List.zip_cons_cons, List.zip_nil_left, List.zip_nil_right, x_mkW])
  have r := x_repr (expD_tame h) (by decide) (by decide)
  have r2 := x_repr (h.tame (by decide)) (by decide) (by decide)
  have ex := expected_0 h.lf
  simp only [x_var, x_con, x_bin, x_neg, x_cmp, x_chain, x_tTru, x_tNot, x_tAnd, x_tOr, x_tBool, x_tYes, x_not, x_and, x_or, x_if, x_b1, x_b2, x_is, x_idx, x_oNone, x_oSome, x_cut, x_aNil, x_aCons, x_tup, x_lst, x_call, x_callS,
    x_iSeq, x_iRng1, x_iRng2, x_bor, x_tBor, x_put1, List.map_cons, List.map_nil, List.cons_append, List.nil_append, List.length_cons, List.length_nil, Nat.zero_add, Nat.reduceAdd, Nat.reduceSub, List.reduceReplicate, start,
    List.getElem?_cons_zero, List.getElem?_cons_succ, List.set_cons_zero, List.set_cons_succ, bnd_ret, bnd_assoc, bnd_grd, b1_if, bnd_ite, small, Nat.reduceLeDiff, grd_true, o_add, o_sub, o_neg, o_eq, o_ne, o_lt, o_le, o_gt, o_ge, o_eqS, o_neS,
    decide_eq_true_eq, reduceIte, decide_true, decide_false, Bool.not_true, Bool.not_false, Bool.false_eq_true, itemsOf, asInt, bi2, endOf, isTy,
    grd_tt, nx_int, nx_bool, nx_str, nx_none, nx_tup, nx_lst, x_isC, x_fld, x_in, x_count, x_lstR, x_tupR, x_raise, x_star, bnd_thr, noX_ret, fld_x, exn_d, eSetO, Out.clear, List.zip_cons_cons, List.zip_nil_left, List.zip_nil_right, to, bnd_tab, r, r2, ex, ne_same63]
section
variable {ks : List Str} {E : Env} {n : Nat} {Q : Out → Prop} {b s : XS} {key : Str}
theorem OkT.ownG {i : Nat} {e : XE} {ds : List D} (hk : key ∈ ks) (h : e E = tabG key (DL.ret (.list ds))) (z : OkT ks (b (E.set i (.own ds))) n Q) : OkT ks (sSeq (sOwn i e) b E) n Q := by
  rw [s_own, h, bnd_tab, bnd_ret]
  exact .tab hk z
theorem OkT.appG {i : Nat} {e : XE} {d : D} {ds : List D} (hk : key ∈ ks) (h : E[i]? = some (.own ds)) (hl : ds.length ≤ 1000000) (h2 : e E = tabG key (DL.ret d)) (z : OkT ks (b (E.set i (.own (ds ++ [d])))) n Q) : OkT ks (sSeq (sApp i e) b E) n Q := by
  rw [s_app i e b h, h2, bnd_tab, bnd_ret, grd_pos (show small ds.length from hl)]
  exact .tab hk z
end
theorem told_of63 {ds : List D} {u : Nat} (h : lfAll u ds = true) (hl : ds.length ≤ 100) {E : Env} {ma : XA} (e : ma (hideE E) = ret ds) : eTold "_law_of_right" w__law_told_22 (eOfW w_WR_init_0 ma) E = tabG "_law_of_right" (ret (expD (.tuple ds))) :=
  x_told fun f a hf => told_mk (u := u) (by unfold DL.lf; exact h) (by rw [hf, x_ofW, e, bnd_ret, grd_pos (show small ds.length by unfold small; omega)])
theorem of_right_0 : OkT ["_law_of_right", "law"] (w__law_of_right_0 []) 5 (fun d => d = .bool true) := by
  unfold w__law_of_right_0
  rw [x_fnS]
  refine OkT.grd rfl (OkT.fn ?_)
  have s7 : start 7 (.stm :: ([] : List D).map Ent.val) = [.stm, .unk, .unk, .unk, .unk, .unk, .unk] := rfl
  have key : ("_law_of_right" : Str) ∈ (["_law_of_right", "law"] : List Str) := List.mem_cons_self
  rw [s7, s_put]
  have e0 : (eTup (aCons (eIdx (eLst (aCons (eCallS w__law_odd_0 0 (aNil)) (aCons (eBin .add (eCon (.int 1)) (eCallS fDraw 0 (aCons (eCon (.int 60)) (aNil)))) (aNil)))) (eCallS fDraw 0 (aCons (eCon (.int 2)) (aNil)))) (aCons (eCallS w__law_odd_0 0 (aNil)) (aNil)))) [.stm, .unk, .unk, .unk, .unk, .unk, .unk] =
      bnd (w__law_odd_0 []) fun d1 => bnd (fDraw [.int 60]) fun x => bnd (opBin .add (.int 1) x) fun y => bnd (fDraw [.int 2]) fun v => bnd (opIdx (.list [d1, y]) v) fun one => bnd (w__law_odd_0 []) fun two => ret (.tuple [one, two]) := by
    simp only [x_var, x_con, x_bin, x_neg, x_cmp, x_chain, x_tTru, x_tNot, x_tAnd, x_tOr, x_tBool, x_tYes, x_not, x_and, x_or, x_if, x_b1, x_b2, x_is, x_idx, x_oNone, x_oSome, x_cut, x_aNil, x_aCons, x_tup, x_lst, x_call, x_callS,
    x_iSeq, x_iRng1, x_iRng2, x_bor, x_tBor, x_put1, List.map_cons, List.map_nil, List.cons_append, List.nil_append, List.length_cons, List.length_nil, Nat.zero_add, Nat.reduceAdd, Nat.reduceSub, List.reduceReplicate, start,
    List.getElem?_cons_zero, List.getElem?_cons_succ, List.set_cons_zero, List.set_cons_succ, bnd_ret, bnd_assoc, bnd_grd, b1_if, bnd_ite, small, Nat.reduceLeDiff, grd_true, o_add, o_sub, o_neg, o_eq, o_ne, o_lt, o_le, o_gt, o_ge, o_eqS, o_neS,
    decide_eq_true_eq, reduceIte, decide_true, decide_false, Bool.not_true, Bool.not_false, Bool.false_eq_true, itemsOf, asInt, bi2, endOf, isTy,
    grd_tt, nx_int, nx_bool, nx_str, nx_none, nx_tup, nx_lst, x_isC, x_fld, x_in, x_count, x_lstR, x_tupR, x_raise, x_star, bnd_thr, noX_ret, fld_x, exn_d, eSetO, Out.clear, List.zip_cons_cons, List.zip_nil_left, List.zip_nil_right]
  rw [e0, bnd_assoc]
  refine OkT.bnd' 5 odd_b.t (by decide) fun d1 h1 => ?_
  rw [bnd_assoc]
  refine OkT.drawB (n := 3) (by omega) (by omega) fun x x0 x1 => ?_
  rw [o_add, bnd_ret, bnd_assoc]
  refine OkT.drawB (n := 2) (by omega) (by omega) fun v v0 v1 => ?_
  have one : ∃ one, opIdx (.list [d1, .int (1 + x)]) (.int v) = ret one ∧ Bd 0 8 2 one := by
    obtain rfl | rfl : v = 0 ∨ v = 1 := by omega
    · exact ⟨d1, rfl, h1⟩
    · exact ⟨_, rfl, (bd_int (u := 0) (by omega)).mono (by decide) (by decide) (by decide)⟩
  obtain ⟨one, o1, o2⟩ := one
  rw [o1, bnd_ret, bnd_assoc]
  refine OkT.bnd' 2 odd_b.t (by decide) fun two t2 => ?_
  show OkT _ (sSeq (sAsg 4 _) _ [.stm, .unk, .unk, .val one, .unk, .val two, .unk]) 1 _
  rw [s_asg]
  have e1 : (eBin .add (eCon (.int 1)) (eCallS fDraw 0 (aCons (eCon (.int 60)) (aNil)))) [.stm, .unk, .unk, .val one, .unk, .val two, .unk] = bnd (fDraw [.int 60]) fun x => opBin .add (.int 1) x := by
    simp only [x_var, x_con, x_bin, x_neg, x_cmp, x_chain, x_tTru, x_tNot, x_tAnd, x_tOr, x_tBool, x_tYes, x_not, x_and, x_or, x_if, x_b1, x_b2, x_is, x_idx, x_oNone, x_oSome, x_cut, x_aNil, x_aCons, x_tup, x_lst, x_call, x_callS,
    x_iSeq, x_iRng1, x_iRng2, x_bor, x_tBor, x_put1, List.map_cons, List.map_nil, List.cons_append, List.nil_append, List.length_cons, List.length_nil, Nat.zero_add, Nat.reduceAdd, Nat.reduceSub, List.reduceReplicate, start,
    List.getElem?_cons_zero, List.getElem?_cons_succ, List.set_cons_zero, List.set_cons_succ, bnd_ret, bnd_assoc, bnd_grd, b1_if, bnd_ite, small, Nat.reduceLeDiff, grd_true, o_add, o_sub, o_neg, o_eq, o_ne, o_lt, o_le, o_gt, o_ge, o_eqS, o_neS,
    decide_eq_true_eq, reduceIte, decide_true, decide_false, Bool.not_true, Bool.not_false, Bool.false_eq_true, itemsOf, asInt, bi2, endOf, isTy,
    grd_tt, nx_int, nx_bool, nx_str, nx_none, nx_tup, nx_lst, x_isC, x_fld, x_in, x_count, x_lstR, x_tupR, x_raise, x_star, bnd_thr, noX_ret, fld_x, exn_d, eSetO, Out.clear, List.zip_cons_cons, List.zip_nil_left, List.zip_nil_right]
  rw [e1, bnd_assoc]
  refine OkT.drawB (n := 0) (by omega) (by omega) fun z z0 z1 => ?_
  rw [o_add, bnd_ret]
  have b3 : Bd 0 8 2 (.int (1 + z)) := (bd_int (u := 0) (by omega)).mono (by decide) (by decide) (by decide)
  generalize (1 : Int) + z = w at b3 ⊢
  show OkT _ (sSeq (sOwn 1 _) _ [.stm, .unk, .unk, .val one, .val (.int w), .val two, .unk]) 0 _
  have l0 : lfAll 0 [] = true := rfl
  have c1 : BdA 0 9 2 [one] := bda_cons o2 bda_nil
  have c2 : BdA 0 18 2 [.int w, one] := bda_cons b3 (bda_cons o2 bda_nil)
  have c3 : BdA 0 18 2 [one, two] := bda_cons o2 (bda_cons t2 bda_nil)
  have c4 : BdA 0 36 2 [.int w, .int w, one, .int w] := bda_cons b3 (bda_cons b3 (bda_cons o2 (bda_cons b3 bda_nil)))
  refine OkT.ownG key (ds := [expD (.tuple [])]) ?_ ?_
  · have t := told_of63 l0 (by decide) (E := [.stm, .unk, .unk, .val one, .val (.int w), .val two, .unk]) (ma := aNil) rfl
    simp only [x_var, x_con, x_bin, x_neg, x_cmp, x_chain, x_tTru, x_tNot, x_tAnd, x_tOr, x_tBool, x_tYes, x_not, x_and, x_or, x_if, x_b1, x_b2, x_is, x_idx, x_oNone, x_oSome, x_cut, x_aNil, x_aCons, x_tup, x_lst, x_call, x_callS,
    x_iSeq, x_iRng1, x_iRng2, x_bor, x_tBor, x_put1, List.map_cons, List.map_nil, List.cons_append, List.nil_append, List.length_cons, List.length_nil, Nat.zero_add, Nat.reduceAdd, Nat.reduceSub, List.reduceReplicate, start,
    List.getElem?_cons_zero, List.getElem?_cons_succ, List.set_cons_zero, List.set_cons_succ, bnd_ret, bnd_assoc, bnd_grd, b1_if, bnd_ite, small, Nat.reduceLeDiff, grd_true, o_add, o_sub, o_neg, o_eq, o_ne, o_lt, o_le, o_gt, o_ge, o_eqS, o_neS,
    decide_eq_true_eq, reduceIte, decide_true, decide_false, Bool.not_true, Bool.not_false, Bool.false_eq_true, itemsOf, asInt, bi2, endOf, isTy,
    grd_tt, nx_int, nx_bool, nx_str, nx_none, nx_tup, nx_lst, x_isC, x_fld, x_in, x_count, x_lstR, x_tupR, x_raise, x_star, bnd_thr, noX_ret, fld_x, exn_d, eSetO, Out.clear, List.zip_cons_cons, List.zip_nil_left, List.zip_nil_right, t, bnd_tab]
  refine OkT.appG key (ds := [expD (.tuple [])]) (d := expD (.tuple [one])) rfl (by simp) (told_of63 c1.lf (by simp only [List.length_cons, List.length_nil]; omega) rfl) ?_
  refine OkT.appG key (ds := [expD (.tuple []), expD (.tuple [one])]) (d := expD (.tuple [.int w, one])) rfl (by simp) (told_of63 c2.lf (by simp only [List.length_cons, List.length_nil]; omega) rfl) ?_
  refine OkT.appG key (ds := [expD (.tuple []), expD (.tuple [one]), expD (.tuple [.int w, one])]) (d := expD (.tuple [one, two])) rfl (by simp) (told_of63 c3.lf (by simp only [List.length_cons, List.length_nil]; omega) rfl) ?_
  refine OkT.appG key (ds := [expD (.tuple []), expD (.tuple [one]), expD (.tuple [.int w, one]), expD (.tuple [one, two])]) (d := expD (.tuple [.int w, .int w, one, .int w])) rfl (by simp) (told_of63 c4.lf (by simp only [List.length_cons, List.length_nil]; omega) rfl) ?_
  show OkT _ (sSeq (sAsg 2 _) _ [.stm, .own [expD (.tuple []), expD (.tuple [one]), expD (.tuple [.int w, one]), expD (.tuple [one, two]), expD (.tuple [.int w, .int w, one, .int w])], .unk, .val one, .val (.int w), .val two, .unk]) 0 _
  refine OkT.asg (v := .list [.tuple [], .tuple [one], .tuple [.int w, one], .tuple [one, two], .tuple [.int w, .int w, one, .int w]]) ?_ ?_
  · simp only [x_var, x_con, x_bin, x_neg, x_cmp, x_chain, x_tTru, x_tNot, x_tAnd, x_tOr, x_tBool, x_tYes, x_not, x_and, x_or, x_if, x_b1, x_b2, x_is, x_idx, x_oNone, x_oSome, x_cut, x_aNil, x_aCons, x_tup, x_lst, x_call, x_callS,
    x_iSeq, x_iRng1, x_iRng2, x_bor, x_tBor, x_put1, List.map_cons, List.map_nil, List.cons_append, List.nil_append, List.length_cons, List.length_nil, Nat.zero_add, Nat.reduceAdd, Nat.reduceSub, List.reduceReplicate, start,
    List.getElem?_cons_zero, List.getElem?_cons_succ, List.set_cons_zero, List.set_cons_succ, bnd_ret, bnd_assoc, bnd_grd, b1_if, bnd_ite, small, Nat.reduceLeDiff, grd_true, o_add, o_sub, o_neg, o_eq, o_ne, o_lt, o_le, o_gt, o_ge, o_eqS, o_neS,
    decide_eq_true_eq, reduceIte, decide_true, decide_false, Bool.not_true, Bool.not_false, Bool.false_eq_true, itemsOf, asInt, bi2, endOf, isTy,
    grd_tt, nx_int, nx_bool, nx_str, nx_none, nx_tup, nx_lst, x_isC, x_fld, x_in, x_count, x_lstR, x_tupR, x_raise, x_star, bnd_thr, noX_ret, fld_x, exn_d, eSetO, Out.clear, List.zip_cons_cons, List.zip_nil_left, List.zip_nil_right]
  show OkT _ (sRel 1 _ [.stm, .own [expD (.tuple []), expD (.tuple [one]), expD (.tuple [.int w, one]), expD (.tuple [one, two]), expD (.tuple [.int w, .int w, one, .int w])], .val (.list [.tuple [], .tuple [one], .tuple [.int w, one], .tuple [one, two], .tuple [.int w, .int w, one, .int w]]), .val one, .val (.int w), .val two, .unk]) 0 _
  rw [x_rel]
  show OkT _ (sRet _ [.stm, .val (.list [expD (.tuple []), expD (.tuple [one]), expD (.tuple [.int w, one]), expD (.tuple [one, two]), expD (.tuple [.int w, .int w, one, .int w])]), .val (.list [.tuple [], .tuple [one], .tuple [.int w, one], .tuple [one, two], .tuple [.int w, .int w, one, .int w]]), .val one, .val (.int w), .val two, .unk]) 0 _
  have B0 : Bd 2 1000 12 (.tuple []) := (bd_tup (u := 0) bda_nil).mono (by decide) (by decide) (by decide)
  have B1 : Bd 2 1000 12 (.tuple [one]) := (bd_tup c1).mono (by decide) (by decide) (by decide)
  have B2 : Bd 2 1000 12 (.tuple [.int w, one]) := (bd_tup c2).mono (by decide) (by decide) (by decide)
  have B3 : Bd 2 1000 12 (.tuple [one, two]) := (bd_tup c3).mono (by decide) (by decide) (by decide)
  have B4 : Bd 2 1000 12 (.tuple [.int w, .int w, one, .int w]) := (bd_tup c4).mono (by decide) (by decide) (by decide)
  generalize PyData.tuple [] = q0 at B0 ⊢
  generalize PyData.tuple [one] = q1 at B1 ⊢
  generalize PyData.tuple [.int w, one] = q2 at B2 ⊢
  generalize PyData.tuple [one, two] = q3 at B3 ⊢
  generalize PyData.tuple [.int w, .int w, one, .int w] = q4 at B4 ⊢
  have cm : ∀ a b c d e : Ent, eComp (iSeq (eVar 2)) (.nm 6) (tYes) (eCall w__law_expected_0 (aCons (eVar 6) (aNil))) [6] [a, b, .val (.list [q0, q1, q2, q3, q4]), c, d, e, .unk] = ret (.list ([q0, q1, q2, q3, q4].map expD)) := fun a b c d e => by
    refine comp_mapE (ds := [q0, q1, q2, q3, q4]) rfl (by simp) fun x hx => ⟨_, rfl, rfl, ?_⟩
    have hb : Bd 2 1000 12 x := by
      simp only [List.mem_cons, List.not_mem_nil, or_false] at hx
      rcases hx with rfl | rfl | rfl | rfl | rfl <;> assumption
    simp only [x_var, x_con, x_bin, x_neg, x_cmp, x_chain, x_tTru, x_tNot, x_tAnd, x_tOr, x_tBool, x_tYes, x_not, x_and, x_or, x_if, x_b1, x_b2, x_is, x_idx, x_oNone, x_oSome, x_cut, x_aNil, x_aCons, x_tup, x_lst, x_call, x_callS,
    x_iSeq, x_iRng1, x_iRng2, x_bor, x_tBor, x_put1, List.map_cons, List.map_nil, List.cons_append, List.nil_append, List.length_cons, List.length_nil, Nat.zero_add, Nat.reduceAdd, Nat.reduceSub, List.reduceReplicate, start,
    List.getElem?_cons_zero, List.getElem?_cons_succ, List.set_cons_zero, List.set_cons_succ, bnd_ret, bnd_assoc, bnd_grd, b1_if, bnd_ite, small, Nat.reduceLeDiff, grd_true, o_add, o_sub, o_neg, o_eq, o_ne, o_lt, o_le, o_gt, o_ge, o_eqS, o_neS,
    decide_eq_true_eq, reduceIte, decide_true, decide_false, Bool.not_true, Bool.not_false, Bool.false_eq_true, itemsOf, asInt, bi2, endOf, isTy,
    grd_tt, nx_int, nx_bool, nx_str, nx_none, nx_tup, nx_lst, x_isC, x_fld, x_in, x_count, x_lstR, x_tupR, x_raise, x_star, bnd_thr, noX_ret, fld_x, exn_d, eSetO, Out.clear, List.zip_cons_cons, List.zip_nil_left, List.zip_nil_right, wipeE, expected_0 hb.lf]
  have r := x_repr ((tame_lst (tame_cons (expD_tame B0) (tame_cons (expD_tame B1) (tame_cons (expD_tame B2) (tame_cons (expD_tame B3) (tame_cons (expD_tame B4) tame_nil)))))).mono (show _ ≤ 6000 by decide) (show _ ≤ 15 by decide)) (by decide) (by decide)
  refine OkT.retV (v := .bool true) ?_ rfl
  simp only [x_var, x_con, x_bin, x_neg, x_cmp, x_chain, x_tTru, x_tNot, x_tAnd, x_tOr, x_tBool, x_tYes, x_not, x_and, x_or, x_if, x_b1, x_b2, x_is, x_idx, x_oNone, x_oSome, x_cut, x_aNil, x_aCons, x_tup, x_lst, x_call, x_callS,
    x_iSeq, x_iRng1, x_iRng2, x_bor, x_tBor, x_put1, List.map_cons, List.map_nil, List.cons_append, List.nil_append, List.length_cons, List.length_nil, Nat.zero_add, Nat.reduceAdd, Nat.reduceSub, List.reduceReplicate, start,
    List.getElem?_cons_zero, List.getElem?_cons_succ, List.set_cons_zero, List.set_cons_succ, bnd_ret, bnd_assoc, bnd_grd, b1_if, bnd_ite, small, Nat.reduceLeDiff, grd_true, o_add, o_sub, o_neg, o_eq, o_ne, o_lt, o_le, o_gt, o_ge, o_eqS, o_neS,
    decide_eq_true_eq, reduceIte, decide_true, decide_false, Bool.not_true, Bool.not_false, Bool.false_eq_true, itemsOf, asInt, bi2, endOf, isTy,
    grd_tt, nx_int, nx_bool, nx_str, nx_none, nx_tup, nx_lst, x_isC, x_fld, x_in, x_count, x_lstR, x_tupR, x_raise, x_star, bnd_thr, noX_ret, fld_x, exn_d, eSetO, Out.clear, List.zip_cons_cons, List.zip_nil_left, List.zip_nil_right, cm, r]
def valB63 : XS := (sSeq (sAsg 8 (eB1 .repr (eVar 9)))
    (sIf (DL.tOr (tBool (eCmp .ne (eB1 .repr (eTold "law" w__law_told_22 (eMkW w_WR_init_0 (eVar 9)))) (eB1 .repr (eCall w__law_expected_0 (aCons (eVar 9) (aNil)))))) (tBool (eCmp .ne (eB1 .repr (eVar 9)) (eVar 8)))) (sRet (eCon (.bool false))) (sSkip)))
def bentB63 : XS := (sSeq (sAsg 7 (eCallS w__law_bent_0 1 (aCons (eVar 4) (aCons (eCon (.int 2)) (aNil)))))
    (sAsg 5 (eBin .add (eVar 5) (eLst (aCons (eVar 7) (aCons (eCallS w__law_bent_0 1 (aCons (eVar 7) (aCons (eCon (.int 2)) (aNil)))) (aNil)))))))
theorem bent_step63 {ns : List Int} (R : RowN ns) {vs : List D} (hl : vs.length ≤ 1000) (hv : ∀ d ∈ vs, Bd 2 1000 12 d) {e2 e3 e6 e7 e8 e9 : Ent} :
    Ok (bentB63 [.unk, .stm, e2, e3, .val (.tuple (ns.map PyData.int)), .val (.list vs), e6, e7, e8, e9]) 16 fun o => ∃ ws e7, o = .nx [.unk, .stm, e2, e3, .val (.tuple (ns.map PyData.int)), .val (.list ws), e6, e7, e8, e9] ∧ ws.length = vs.length + 2 ∧ ∀ d ∈ ws, Bd 2 1000 12 d := by
  have b1 : Bd 0 24 1 (.tuple (ns.map PyData.int)) := (bd_tup (bda_ints fun x hx => by have := R.words x hx; omega)).mono (Nat.le_refl _) (by have := R.most; omega) (by decide)
  have e1 : (eCallS w__law_bent_0 1 (aCons (eVar 4) (aCons (eCon (.int 2)) (aNil)))) [.unk, .stm, e2, e3, .val (.tuple (ns.map PyData.int)), .val (.list vs), e6, e7, e8, e9] = w__law_bent_0 [.tuple (ns.map PyData.int), .int 2] := by simp only [x_var, x_con, x_bin, x_neg, x_cmp, x_chain, x_tTru, x_tNot, x_tAnd, x_tOr, x_tBool, x_tYes, x_not, x_and, x_or, x_if, x_b1, x_b2, x_is, x_idx, x_oNone, x_oSome, x_cut, x_aNil, x_aCons, x_tup, x_lst, x_call, x_callS,
    x_iSeq, x_iRng1, x_iRng2, x_bor, x_tBor, x_put1, List.map_cons, List.map_nil, List.cons_append, List.nil_append, List.length_cons, List.length_nil, Nat.zero_add, Nat.reduceAdd, Nat.reduceSub, List.reduceReplicate, start,
    List.getElem?_cons_zero, List.getElem?_cons_succ, List.set_cons_zero, List.set_cons_succ, bnd_ret, bnd_assoc, bnd_grd, b1_if, bnd_ite, small, Nat.reduceLeDiff, grd_true, o_add, o_sub, o_neg, o_eq, o_ne, o_lt, o_le, o_gt, o_ge, o_eqS, o_neS,
    decide_eq_true_eq, reduceIte, decide_true, decide_false, Bool.not_true, Bool.not_false, Bool.false_eq_true, itemsOf, asInt, bi2, endOf, isTy,
    grd_tt, nx_int, nx_bool, nx_str, nx_none, nx_tup, nx_lst, x_isC, x_fld, x_in, x_count, x_lstR, x_tupR, x_raise, x_star, bnd_thr, noX_ret, fld_x, exn_d, eSetO, Out.clear, List.zip_cons_cons, List.zip_nil_left, List.zip_nil_right]
  unfold bentB63
  rw [s_asg, e1]
  refine Ok.bnd' 16 (bent_0 (j := 2) (by decide) (by decide) (by decide) b1) (by decide) fun d1 h1 => ?_
  show Ok (sAsg 5 _ [.unk, .stm, e2, e3, .val (.tuple (ns.map PyData.int)), .val (.list vs), e6, .val d1, e8, e9]) 8 _
  have e2 : (eBin .add (eVar 5) (eLst (aCons (eVar 7) (aCons (eCallS w__law_bent_0 1 (aCons (eVar 7) (aCons (eCon (.int 2)) (aNil)))) (aNil))))) [.unk, .stm, e2, e3, .val (.tuple (ns.map PyData.int)), .val (.list vs), e6, .val d1, e8, e9] = bnd (w__law_bent_0 [d1, .int 2]) fun d2 => grd (small (vs.length + 2)) (ret (.list (vs ++ [d1, d2]))) := by simp only [x_var, x_con, x_bin, x_neg, x_cmp, x_chain, x_tTru, x_tNot, x_tAnd, x_tOr, x_tBool, x_tYes, x_not, x_and, x_or, x_if, x_b1, x_b2, x_is, x_idx, x_oNone, x_oSome, x_cut, x_aNil, x_aCons, x_tup, x_lst, x_call, x_callS,
    x_iSeq, x_iRng1, x_iRng2, x_bor, x_tBor, x_put1, List.map_cons, List.map_nil, List.cons_append, List.nil_append, List.length_cons, List.length_nil, Nat.zero_add, Nat.reduceAdd, Nat.reduceSub, List.reduceReplicate, start,
    List.getElem?_cons_zero, List.getElem?_cons_succ, List.set_cons_zero, List.set_cons_succ, bnd_ret, bnd_assoc, bnd_grd, b1_if, bnd_ite, small, Nat.reduceLeDiff, grd_true, o_add, o_sub, o_neg, o_eq, o_ne, o_lt, o_le, o_gt, o_ge, o_eqS, o_neS,
    decide_eq_true_eq, reduceIte, decide_true, decide_false, Bool.not_true, Bool.not_false, Bool.false_eq_true, itemsOf, asInt, bi2, endOf, isTy,
    grd_tt, nx_int, nx_bool, nx_str, nx_none, nx_tup, nx_lst, x_isC, x_fld, x_in, x_count, x_lstR, x_tupR, x_raise, x_star, bnd_thr, noX_ret, fld_x, exn_d, eSetO, Out.clear, List.zip_cons_cons, List.zip_nil_left, List.zip_nil_right, add_lst]
  rw [x_asg, e2, bnd_assoc]
  refine Ok.bnd' 8 (bent_0 (j := 2) (by decide) (by decide) (by decide) h1) (by decide) fun d2 h2 => ?_
  rw [grd_pos (show small (vs.length + 2) by unfold small; omega), bnd_ret]
  refine Ok.ret ⟨vs ++ [d1, d2], _, rfl, by simp, fun d hd => ?_⟩
  rcases List.mem_append.mp hd with h | h
  · exact hv d h
  · simp only [List.mem_cons, List.not_mem_nil, or_false] at h
    rcases h with rfl | rfl
    · exact h1.mono (by decide) (by decide) (by decide)
    · exact h2.mono (by decide) (by decide) (by decide)
def w63 : List D := [.tuple [], .tuple [.int 0], .tuple [.int 1], .tuple [.int 60], .tuple [.int 61], .tuple [.bool true], .tuple (rep 24 [.int 1]), .tuple (rep 25 [.int 1]), .list [.int 1], .tuple [.int 1, .int 0, .int 61], .tuple [.int 61, .int 0], .tuple [.int 1, .none], .str "row"]
theorem w63_ok : ∀ d ∈ w63, Bd 2 1000 12 d := by
  have go : (w63.all (bdB 2 1000 12)) = true := by decide +kernel
  exact fun d hd => bdB_ok (List.all_eq_true.mp go d hd)
theorem w63_len : w63.length = 13 := rfl
open Wk63 in
theorem math_k63 : MathT m_law (lawE 10 1) ks := by
  refine OkT.run (n := 3000) ?_ (by decide)
  have e : lawE 10 1 = [.unk, .stm, .unk, .unk, .unk, .unk, .unk, .unk, .unk, .unk] := rfl
  have key : ("law" : Str) ∈ ks := List.mem_cons_of_mem _ (List.mem_singleton.mpr rfl)
  have p24 : opBin .mul (.tuple [.int 1]) (.int 24) = ret (.tuple (rep 24 [.int 1])) := grd_pos (by simp) _
  have p25 : opBin .mul (.tuple [.int 1]) (.int 25) = ret (.tuple (rep 25 [.int 1])) := grd_pos (by simp) _
  rw [e]
  unfold m_law
  refine OkT.asg (v := .list w63) ?_ ?_
  · simp only [x_var, x_con, x_bin, x_neg, x_cmp, x_chain, x_tTru, x_tNot, x_tAnd, x_tOr, x_tBool, x_tYes, x_not, x_and, x_or, x_if, x_b1, x_b2, x_is, x_idx, x_oNone, x_oSome, x_cut, x_aNil, x_aCons, x_tup, x_lst, x_call, x_callS,
    x_iSeq, x_iRng1, x_iRng2, x_bor, x_tBor, x_put1, List.map_cons, List.map_nil, List.cons_append, List.nil_append, List.length_cons, List.length_nil, Nat.zero_add, Nat.reduceAdd, Nat.reduceSub, List.reduceReplicate, start,
    List.getElem?_cons_zero, List.getElem?_cons_succ, List.set_cons_zero, List.set_cons_succ, bnd_ret, bnd_assoc, bnd_grd, b1_if, bnd_ite, small, Nat.reduceLeDiff, grd_true, o_add, o_sub, o_neg, o_eq, o_ne, o_lt, o_le, o_gt, o_ge, o_eqS, o_neS,
    decide_eq_true_eq, reduceIte, decide_true, decide_false, Bool.not_true, Bool.not_false, Bool.false_eq_true, itemsOf, asInt, bi2, endOf, isTy,
    grd_tt, nx_int, nx_bool, nx_str, nx_none, nx_tup, nx_lst, x_isC, x_fld, x_in, x_count, x_lstR, x_tupR, x_raise, x_star, bnd_thr, noX_ret, fld_x, exn_d, eSetO, Out.clear, List.zip_cons_cons, List.zip_nil_left, List.zip_nil_right, p24, p25]
    rfl
  refine OkT.forS 3000 (fun _ E => ∃ e3 e4 e5 e6 e7 e8 e9, E = [.unk, .stm, .val (.list w63), e3, e4, e5, e6, e7, e8, e9]) 300 (it_rng (by decide)) ⟨_, _, _, _, _, _, _, rfl⟩ (by rw [rng_len]; decide) (by decide) ?_ ?_
  · rintro j d E hj ⟨e3, e4, e5, e6, e7, e8, e9, rfl⟩
    obtain ⟨rfl, hj2⟩ := rng_at hj
    refine ⟨_, rfl, ?_⟩
    show OkT ks (sSeq _ _ [.unk, .stm, .val (.list w63), .val (.int (0 + (j : Int))), e4, e5, e6, e7, e8, e9]) _ _
    refine OkT.drawA (ds := [.int 24]) (q := 60) rfl rfl (row_ok (by decide)) (by decide) ?_
    rintro _ ⟨ns, rfl, R, ln⟩
    have one := R.one
    show OkT ks (sSeq _ _ [.unk, .stm, .val (.list w63), .val (.int (0 + (j : Int))), .val (.tuple (ns.map PyData.int)), e5, e6, e7, e8, e9]) 240 _
    have i1 : (eBin .add (eVar 2) (eLst (aCons (eVar 4) (aCons (eB1 .list (eVar 4)) (aCons (eTup (aCons (eVar 4) (aNil))) (aCons (eBin .add (eVar 4) (eTup (aCons (eCon (.int 1)) (aNil)))) (aCons (eCallS w__law_odd_0 1 (aNil)) (aCons (eTup (aCons (eCallS w__law_odd_0 1 (aNil)) (aCons (eCon (.int 3)) (aNil)))) (aNil))))))))) [.unk, .stm, .val (.list w63), .val (.int (0 + (j : Int))), .val (.tuple (ns.map PyData.int)), e5, e6, e7, e8, e9] =
        bnd (w__law_odd_0 []) fun d1 => bnd (w__law_odd_0 []) fun d2 => ret (.list (w63 ++ [.tuple (ns.map PyData.int), .list (ns.map PyData.int), .tuple [.tuple (ns.map PyData.int)], .tuple (ns.map PyData.int ++ [.int 1]), d1, .tuple [d2, .int 3]])) := by
      have g1 : ∀ {α : Type} (m : W α), grd (ns.length ≤ 999999) m = m := fun m => grd_pos (by omega) m
      have g2 : ∀ {α : Type} (m : W α), grd (w63.length ≤ 999994) m = m := fun m => grd_pos (by rw [w63_len]; decide) m
      simp only [x_var, x_con, x_bin, x_neg, x_cmp, x_chain, x_tTru, x_tNot, x_tAnd, x_tOr, x_tBool, x_tYes, x_not, x_and, x_or, x_if, x_b1, x_b2, x_is, x_idx, x_oNone, x_oSome, x_cut, x_aNil, x_aCons, x_tup, x_lst, x_call, x_callS,
    x_iSeq, x_iRng1, x_iRng2, x_bor, x_tBor, x_put1, List.map_cons, List.map_nil, List.cons_append, List.nil_append, List.length_cons, List.length_nil, Nat.zero_add, Nat.reduceAdd, Nat.reduceSub, List.reduceReplicate, start,
    List.getElem?_cons_zero, List.getElem?_cons_succ, List.set_cons_zero, List.set_cons_succ, bnd_ret, bnd_assoc, bnd_grd, b1_if, bnd_ite, small, Nat.reduceLeDiff, grd_true, o_add, o_sub, o_neg, o_eq, o_ne, o_lt, o_le, o_gt, o_ge, o_eqS, o_neS,
    decide_eq_true_eq, reduceIte, decide_true, decide_false, Bool.not_true, Bool.not_false, Bool.false_eq_true, itemsOf, asInt, bi2, endOf, isTy,
    grd_tt, nx_int, nx_bool, nx_str, nx_none, nx_tup, nx_lst, x_isC, x_fld, x_in, x_count, x_lstR, x_tupR, x_raise, x_star, bnd_thr, noX_ret, fld_x, exn_d, eSetO, Out.clear, List.zip_cons_cons, List.zip_nil_left, List.zip_nil_right, list_tup, o_addT, add_lst, List.length_map, g1, g2]
    rw [s_asg, i1, bnd_assoc]
    refine OkT.bnd' 240 odd_b.t (by decide) fun d1 h1 => ?_
    rw [bnd_assoc]
    refine OkT.bnd' 239 odd_b.t (by decide) fun d2 h2 => ?_
    rw [bnd_ret]
    have i0 : ∀ x ∈ ns, x.natAbs ≤ 10 ^ 39 + 0 := fun x hx => by have := R.words x hx; omega
    have b1 : Bd 0 24 1 (.tuple (ns.map PyData.int)) := (bd_tup (bda_ints i0)).mono (Nat.le_refl _) (by omega) (by decide)
    have hv : ∀ d ∈ w63 ++ [.tuple (ns.map PyData.int), .list (ns.map PyData.int), .tuple [.tuple (ns.map PyData.int)], .tuple (ns.map PyData.int ++ [.int 1]), d1, .tuple [d2, .int 3]], Bd 2 1000 12 d := by
      intro d hd
      rcases List.mem_append.mp hd with h | h
      · exact w63_ok d h
      · simp only [List.mem_cons, List.not_mem_nil, or_false] at h
        rcases h with rfl | rfl | rfl | rfl | rfl | rfl
        · exact b1.mono (by decide) (by decide) (by decide)
        · exact (bd_lst (bda_ints i0)).mono (by decide) (by omega) (by decide)
        · exact (bd_tup (bda_cons b1 bda_nil)).mono (by decide) (by decide) (by decide)
        · exact (bd_tup ((bda_ints i0).app (bda_cons (bd_int (by decide)) bda_nil))).mono (by decide) (by omega) (by decide)
        · exact h1.mono (by decide) (by decide) (by decide)
        · exact (bd_tup (bda_cons h2 (bda_cons (bd_int (by decide)) bda_nil))).mono (by decide) (by decide) (by decide)
    have hl : (w63 ++ [PyData.tuple (ns.map PyData.int), .list (ns.map PyData.int), .tuple [.tuple (ns.map PyData.int)], .tuple (ns.map PyData.int ++ [.int 1]), d1, .tuple [d2, .int 3]]).length = 19 := by
      rw [List.length_append, w63_len]
      rfl
    revert hv hl
    generalize (w63 ++ [PyData.tuple (ns.map PyData.int), .list (ns.map PyData.int), .tuple [.tuple (ns.map PyData.int)], .tuple (ns.map PyData.int ++ [.int 1]), d1, .tuple [d2, .int 3]]) = vs
    intro hv hl
    show OkT ks (sSeq (sFor _ _ bentB63) _ [.unk, .stm, .val (.list w63), .val (.int (0 + (j : Int))), .val (.tuple (ns.map PyData.int)), .val (.list vs), e6, e7, e8, e9]) 238 _
    refine OkT.forS 96 (fun i E => ∃ ws e6 e7, E = [.unk, .stm, .val (.list w63), .val (.int (0 + (j : Int))), .val (.tuple (ns.map PyData.int)), .val (.list ws), e6, e7, e8, e9] ∧ ws.length = 19 + 2 * i ∧ ∀ d ∈ ws, Bd 2 1000 12 d) 16 (it_rng (by decide)) ⟨vs, _, _, rfl, hl, hv⟩ (by rw [rng_len]; decide) (by decide) ?_ ?_
    · rintro i d E hi ⟨ws, e6, e7, rfl, wl, wv⟩
      obtain ⟨rfl, hi2⟩ := rng_at hi
      refine ⟨_, rfl, ?_⟩
      refine (bent_step63 (e2 := .val (.list w63)) (e3 := .val (.int (0 + (j : Int)))) (e6 := .val (.int (0 + (i : Int)))) R (vs := ws) (by omega) wv).t.imp ?_
      rintro o ⟨us, e7, rfl, ul, uv⟩
      exact ⟨us, _, _, rfl, by omega, uv⟩
    rintro E ⟨ws, e6, e7, rfl, wl, wv⟩
    show OkT ks (sSeq (sFor _ _ valB63) _ [.unk, .stm, .val (.list w63), .val (.int (0 + (j : Int))), .val (.tuple (ns.map PyData.int)), .val (.list ws), e6, e7, e8, e9]) 142 _
    refine OkT.forS (ds := ws) 0 (fun _ E => ∃ e8 e9, E = [.unk, .stm, .val (.list w63), .val (.int (0 + (j : Int))), .val (.tuple (ns.map PyData.int)), .val (.list ws), e6, e7, e8, e9]) 0 rfl ⟨_, _, rfl⟩ (Nat.le_refl 0) (by decide) ?_ ?_
    · rintro i d E hd ⟨e8, e9, rfl⟩
      have hb := wv d (List.mem_of_getElem? hd)
      refine ⟨[.unk, .stm, .val (.list w63), .val (.int (0 + (j : Int))), .val (.tuple (ns.map PyData.int)), .val (.list ws), e6, e7, e8, .val d], rfl, ?_⟩
      unfold valB63
      have rd := x_repr (hb.tame (by decide)) (by decide) (by decide)
      refine OkT.asg (v := .str (PyData.shown d)) ?_ ?_
      · simp only [x_var, x_con, x_bin, x_neg, x_cmp, x_chain, x_tTru, x_tNot, x_tAnd, x_tOr, x_tBool, x_tYes, x_not, x_and, x_or, x_if, x_b1, x_b2, x_is, x_idx, x_oNone, x_oSome, x_cut, x_aNil, x_aCons, x_tup, x_lst, x_call, x_callS,
    x_iSeq, x_iRng1, x_iRng2, x_bor, x_tBor, x_put1, List.map_cons, List.map_nil, List.cons_append, List.nil_append, List.length_cons, List.length_nil, Nat.zero_add, Nat.reduceAdd, Nat.reduceSub, List.reduceReplicate, start,
    List.getElem?_cons_zero, List.getElem?_cons_succ, List.set_cons_zero, List.set_cons_succ, bnd_ret, bnd_assoc, bnd_grd, b1_if, bnd_ite, small, Nat.reduceLeDiff, grd_true, o_add, o_sub, o_neg, o_eq, o_ne, o_lt, o_le, o_gt, o_ge, o_eqS, o_neS,
    decide_eq_true_eq, reduceIte, decide_true, decide_false, Bool.not_true, Bool.not_false, Bool.false_eq_true, itemsOf, asInt, bi2, endOf, isTy,
    grd_tt, nx_int, nx_bool, nx_str, nx_none, nx_tup, nx_lst, x_isC, x_fld, x_in, x_count, x_lstR, x_tupR, x_raise, x_star, bnd_thr, noX_ret, fld_x, exn_d, eSetO, Out.clear, List.zip_cons_cons, List.zip_nil_left, List.zip_nil_right, rd]
      exact OkT.noG key (val_test hb rfl) ⟨_, _, rfl⟩
    rintro E ⟨e8, e9, rfl⟩
    show OkT ks (sIf _ _ _ [.unk, .stm, .val (.list w63), .val (.int (0 + (j : Int))), .val (.tuple (ns.map PyData.int)), .val (.list ws), e6, e7, e8, e9]) 142 _
    have tt : (tNot (tTru (eCallS w__law_of_right_0 1 (aNil)))) [.unk, .stm, .val (.list w63), .val (.int (0 + (j : Int))), .val (.tuple (ns.map PyData.int)), .val (.list ws), e6, e7, e8, e9] = bnd (w__law_of_right_0 []) fun d => bnd (tru d) fun b => ret (!b) := by
      simp only [x_var, x_con, x_bin, x_neg, x_cmp, x_chain, x_tTru, x_tNot, x_tAnd, x_tOr, x_tBool, x_tYes, x_not, x_and, x_or, x_if, x_b1, x_b2, x_is, x_idx, x_oNone, x_oSome, x_cut, x_aNil, x_aCons, x_tup, x_lst, x_call, x_callS,
    x_iSeq, x_iRng1, x_iRng2, x_bor, x_tBor, x_put1, List.map_cons, List.map_nil, List.cons_append, List.nil_append, List.length_cons, List.length_nil, Nat.zero_add, Nat.reduceAdd, Nat.reduceSub, List.reduceReplicate, start,
    List.getElem?_cons_zero, List.getElem?_cons_succ, List.set_cons_zero, List.set_cons_succ, bnd_ret, bnd_assoc, bnd_grd, b1_if, bnd_ite, small, Nat.reduceLeDiff, grd_true, o_add, o_sub, o_neg, o_eq, o_ne, o_lt, o_le, o_gt, o_ge, o_eqS, o_neS,
    decide_eq_true_eq, reduceIte, decide_true, decide_false, Bool.not_true, Bool.not_false, Bool.false_eq_true, itemsOf, asInt, bi2, endOf, isTy,
    grd_tt, nx_int, nx_bool, nx_str, nx_none, nx_tup, nx_lst, x_isC, x_fld, x_in, x_count, x_lstR, x_tupR, x_raise, x_star, bnd_thr, noX_ret, fld_x, exn_d, eSetO, Out.clear, List.zip_cons_cons, List.zip_nil_left, List.zip_nil_right]
    rw [x_sIf, tt, bnd_assoc]
    refine OkT.bnd' 142 of_right_0 (by decide) ?_
    rintro _ rfl
    rw [t_bool, bnd_ret, bnd_ret]
    exact OkT.ret ⟨_, _, _, _, _, _, _, rfl⟩
  · rintro E ⟨e3, e4, e5, e6, e7, e8, e9, rfl⟩
    exact OkT.retV (v := .bool true) rfl rfl
end DL
end
theorem PySem.Challenge.cw_wrapwidths_k63_word_rows_constructed_holds : PySem.Challenge.rw_wrapwidths_k63_word_rows_constructed.Holds :=
  Wk63.end_ DL.math_k63
