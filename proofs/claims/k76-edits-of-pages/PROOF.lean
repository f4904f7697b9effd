import PyProof.Rows.All
import Wide.All
import OpenK.AllK
import Wide.FinOn
import HandS.ForMost
import HandS.HeadHook1
import HandS.HeadHook2
import KE.KExcInit
import KE.KExcIs
import HandS.ExcIs
import HandS.IsInst
import HandS.ForExc
import HandS.Walk
import HandS.Conv
import HandS.Flow
import HandS.TupAny
import HandS.TupMul
import HandS.Style
import HandS.Wide
import KE.KTupSum
import KE.DataMinMax
import HandS.NoneIn
import HandS.Defaults
import HandS.CallSlots
import HandS.EndBits
import KE.GoesEnum
import KE.GoesMore
import HandS.Star
import HandS.RaiseMore
import KE.KExcHand
import KE.KTryMore
import HandS.HeadEnd
import HandS.Head0
import HandS.Head1
import HandS.Head2
import HandS.More
import PyProof.MaxThree
import HandS.Zip
import HandS.Strs
import HandS.Iter
import HandS.Text
import HandS.SortInts
import HandS.FStr
import KE.KUnpack
import PyProof.CollectIter
import HandS.Property
import OpenK.KOps
import OpenK.KMeth
import KE.KOpsOwn
import KE.KCallOwn
import HandS.ClsMeth
import HandS.HeadNt
import KE.KUnpackStar
import PySem.Challenge.RW_wrapwidths_k76_edits_of_pages
import PyProof.Rows.StrCase
import PyProof.Rows.ReprOcc
import PyProof.P3Eq
import PyProof.StrLaws
set_option Elab.async false
set_option linter.all false
set_option maxRecDepth 100000
set_option maxHeartbeats 0
section
namespace DL
open PySem
abbrev D := PyData
/-- an error: its class by name, its fields by name -/
structure Exn where
  cls : Str
  fs : List (Str × D)
/-- what stands in a cell: a list that is changed, an object with fields -/
inductive Cell where
  | lst (ds : List D)
  | ins (cls : Str) (fs : List (Str × D))
/-- the fields that objects with cells have -/
def fldN : List Str := ["now", "states", "done", "wanted", "is_busy", "rows", "page", "pairs"]
/-- where a run stands: how many draws were made so far; the cells -/
structure Sx where
  n : Nat
  mu : Nat → Option Cell
/-- one draw more -/
def Sx.up (c : Sx) : Sx := ⟨c.n + 1, c.mu⟩
/-- no cell -/
def Sx.z (n : Nat) : Sx := ⟨n, fun _ => none⟩
abbrev W (α : Type) := Sx → (α → Sx → Prop) → (Exn → Sx → Prop) → Prop
def ret {α : Type} (a : α) : W α := fun n P _ => P a n
def bnd {α β : Type} (m : W α) (f : α → W β) : W β := fun n P X => m n (fun a n' => f a n' P X) X
def stuck {α : Type} : W α := fun _ _ _ => False
def grd {α : Type} (c : Prop) (m : W α) : W α := fun n P X => c ∧ m n P X
def thr {α : Type} (e : Exn) : W α := fun n _ X => X e n
@[simp] theorem bnd_ret {α β : Type} (a : α) (f : α → W β) : bnd (ret a) f = f a := id rfl
@[simp] theorem bnd_stuck {α β : Type} (f : α → W β) : bnd stuck f = stuck := rfl
@[simp] theorem bnd_thr {α β : Type} (e : Exn) (f : α → W β) : bnd (thr e) f = thr e := id rfl
theorem grd_pos {α : Type} {c : Prop} (h : c) (m : W α) : grd c m = m := by
  funext n P X
  exact propext ⟨fun q => q.2, fun q => ⟨h, q⟩⟩
@[simp] theorem grd_true {α : Type} (m : W α) : grd True m = m := grd_pos True.intro m
theorem bnd_grd {α β : Type} {c : Prop} (m : W α) (f : α → W β) : bnd (grd c m) f = grd c (bnd m f) := rfl
/-- what a slot is known to hold: nothing, a value, a list of its own, the stream -/
inductive Ent where
  | unk
  | val (d : D)
  | own (ds : List D)
  | stm
  | scr (ns : List Int)
abbrev Env := List Ent
mutual
/-- no list, no dict within -/
def flat : D → Bool
  | .none => true
  | .bool _ => true
  | .int _ => true
  | .str _ => true
  | .tuple xs => flatAll xs
  | .list _ => false
  | .dict [(.none, .bool true), (.none, .int _)] => true
  | .dict _ => false
def flatAll : List D → Bool
  | [] => true
  | x :: xs => flat x && flatAll xs
end
mutual
/-- what may be shown: no exception within; dicts of at most one entry -/
def plain : D → Bool
  | .none => true
  | .bool _ => true
  | .int _ => true
  | .str _ => true
  | .tuple xs => plainAll xs
  | .list xs => plainAll xs
  | .dict [] => true
  | .dict [(.str _, d)] => plain d
  | .dict _ => false
def plainAll : List D → Bool
  | [] => true
  | x :: xs => plain x && plainAll xs
end
/-- an exception as data: its class by name, its fields -/
def xD (n : Str) (fs : List (Str × D)) : D := .dict ((.none, .str n) :: fs.map fun q => (.str q.1, q.2))
/-- an instance of WordRow as data: what it holds -/
def wD (d : D) : D := .dict [(.none, .int 0), (.str "held", d)]
/-- a cell's place, as data -/
def rD (a : Nat) : D := .dict [(.none, .bool true), (.none, .int (a : Int))]
/-- not an exception, no instance -/
def noXn : D → Bool
  | .dict ((.none, _) :: _) => false
  | _ => true
/-- sizes that the machine lets pass -/
def small (n : Nat) : Prop := n ≤ 1000000
def mulOk (i j : Int) : Prop := (-(2 ^ 64) < i ∧ i < 2 ^ 64) ∨ (-(2 ^ 64) < j ∧ j < 2 ^ 64)
def rep (k : Int) (xs : List D) : List D := (List.replicate k.toNat xs).flatten
def b2i (b : Bool) : Int := if b = true then 1 else 0
def opAdd : D → D → W D
  | .int a, .int b => ret (.int (a + b))
  | .bool a, .int b => ret (.int (b2i a + b))
  | .tuple xs, .tuple ys => grd (small (xs.length + ys.length)) (ret (.tuple (xs ++ ys)))
  | .list xs, .list ys => grd (small (xs.length + ys.length)) (ret (.list (xs ++ ys)))
  | .str x, .str y => grd (x.length + y.length ≤ 1000000) (ret (.str (x ++ y)))
  | _, _ => stuck
def opSub : D → D → W D
  | .int a, .int b => ret (.int (a - b))
  | .bool a, .int b => ret (.int (b2i a - b))
  | _, _ => stuck
def opMul : D → D → W D
  | .int a, .int b => grd (mulOk a b) (ret (.int (a * b)))
  | .tuple xs, .int k => grd (xs ≠ [] ∧ 0 ≤ k ∧ k ≤ 1000 ∧ xs.length ≤ 1000) (ret (.tuple (rep k xs)))
  | .list xs, .int k => grd (0 ≤ k ∧ k ≤ 1000 ∧ xs.length ≤ 1000) (ret (.list (rep k xs)))
  | _, _ => stuck
def opFdiv : D → D → W D
  | .int a, .int b => grd (0 < b ∧ b < 9223372036854775808) (ret (.int (a / b)))
  | _, _ => stuck
def opMod : D → D → W D
  | .int a, .int b => grd (0 < b) (ret (.int (a % b)))
  | _, _ => stuck
def opPow : D → D → W D
  | .int a, .int b => grd (0 ≤ b ∧ b ≤ 1000 ∧ a.natAbs < 2 ^ 64) (ret (.int (a ^ b.toNat)))
  | _, _ => stuck
def opShl : D → D → W D
  | .int a, .int b => grd (0 ≤ b ∧ b ≤ 1000 ∧ a.natAbs < 2 ^ 64) (ret (.int (a * 2 ^ b.toNat)))
  | _, _ => stuck
def opNeg : D → W D
  | .int a => ret (.int (-a))
  | _ => stuck
/-- truth -/
def tru : D → W Bool
  | .none => ret false
  | .bool b => ret b
  | .int i => ret (i != 0)
  | .str x => grd (x.length ≤ 1000000) (ret ((x.length : Int) != 0))
  | .tuple xs => ret (!xs.isEmpty)
  | .list xs => ret (!xs.isEmpty)
  | .dict _ => stuck
/-- a list or a small dict against the empty tuple -/
def vsNil : D → D → Bool
  | .list _, .tuple [] => true
  | .dict [], .tuple [] => true
  | .dict [(.str _, _)], .tuple [] => true
  | _, _ => false
def eqOk : D → D → Prop
  | .str _, .str _ => True
  | .list _, .list [] => True
  | .tuple _, .tuple [] => True
  | a, b => vsNil a b = true ∨ (SeqAt.shaped a = true ∧ SeqAt.shaped b = true)
def opEq (a b : D) : W Bool := grd (eqOk a b) (ret (PyData.eqv a b))
theorem eqOk_of {a b : D} (h : SeqAt.shaped a = true) (h2 : SeqAt.shaped b = true) : eqOk a b := by
  unfold eqOk
  split
  · exact True.intro
  · exact True.intro
  · exact True.intro
  · exact .inr ⟨h, h2⟩
def opLt : D → D → W Bool
  | .int a, .int b => ret (decide (a < b))
  | _, _ => stuck
def opLe : D → D → W Bool
  | .int a, .int b => ret (decide (a ≤ b))
  | _, _ => stuck
def isNone : D → Bool
  | .none => true
  | _ => false
/-- is: against None, or two bools -/
def isOpOk : D → D → Prop
  | .bool _, .bool _ => True
  | _, b => b = .none
def isOpV : D → D → Bool
  | .bool a, .bool b => decide (a = b)
  | a, _ => isNone a
theorem isOpOk_none (a : D) : isOpOk a .none := by
  cases a <;> rfl
theorem isOpV_none (a : D) : isOpV a .none = isNone a := by
  cases a <;> rfl
inductive Cmp where
  | eq | ne | lt | le | gt | ge | isN | notN
def opCmp : Cmp → D → D → W Bool
  | .eq, a, b => opEq a b
  | .ne, a, b => bnd (opEq a b) fun c => ret (!c)
  | .lt, a, b => opLt a b
  | .le, a, b => opLe a b
  | .gt, a, b => opLt b a
  | .ge, a, b => opLe b a
  | .isN, a, b => grd (isOpOk a b) (ret (isOpV a b))
  | .notN, a, b => grd (isOpOk a b) (ret (!isOpV a b))
inductive Op where
  | add | sub | mul | fdiv | mod | pow | shl
theorem notN_none (a : D) : opCmp .notN a .none = ret (!isNone a) := by
  show grd (isOpOk a .none) (ret (!isOpV a .none)) = _
  rw [grd_pos (isOpOk_none a), isOpV_none]
def opBin : Op → D → D → W D
  | .add => opAdd
  | .sub => opSub
  | .mul => opMul
  | .fdiv => opFdiv
  | .mod => opMod
  | .pow => opPow
  | .shl => opShl
/-- the items of a sequence -/
def itemsOf : D → W (List D)
  | .tuple xs => ret xs
  | .list xs => ret xs
  | _ => stuck
def opIdx : D → D → W D
  | .tuple xs, .int i => match L2.atI xs i with | some d => ret d | none => stuck
  | .list xs, .int i => match L2.atI xs i with | some d => ret d | none => stuck
  | _, _ => stuck
/-- a part's bound: an int, or none written -/
def sIx (n d : Nat) : Option Int → Nat := HT.sIx n d
def cut (xs : List D) (lo hi : Option Int) : List D := (xs.drop (HT.sIx xs.length 0 lo)).take (HT.sIx xs.length xs.length hi - HT.sIx xs.length 0 lo)
def opCut : D → Option Int → Option Int → W D
  | .tuple xs, lo, hi => ret (.tuple (cut xs lo hi))
  | .list xs, lo, hi => ret (.list (cut xs lo hi))
  | .str x, lo, hi => grd (x.length ≤ 1000000) (ret (.str (L2.cutS x lo hi)))
  | _, _, _ => stuck
def asInt : D → W Int
  | .int i => ret i
  | _ => stuck
/-- the ints of a list of ints -/
def ints? : List D → Option (List Int)
  | [] => some []
  | .int i :: r => (ints? r).map (i :: ·)
  | _ :: _ => none
def bools? : List D → Option (List Bool)
  | [] => some []
  | .bool i :: r => (bools? r).map (i :: ·)
  | _ :: _ => none
theorem ints?_map (ns : List Int) : ints? (ns.map PyData.int) = some ns := by
  induction ns with
  | nil => rfl
  | cons a r ih => simp [ints?, ih]
theorem ints?_eq : ∀ {ds : List D} {ns : List Int}, ints? ds = some ns → ds = ns.map PyData.int
  | [], ns, h => by simp [ints?] at h; subst h; rfl
  | .int i :: r, ns, h => by
    simp only [ints?, Option.map_eq_some_iff] at h
    obtain ⟨l, h1, rfl⟩ := h
    rw [ints?_eq h1]; rfl
  | .none :: r, ns, h => by simp [ints?] at h
  | .bool _ :: r, ns, h => by simp [ints?] at h
  | .str _ :: r, ns, h => by simp [ints?] at h
  | .list _ :: r, ns, h => by simp [ints?] at h
  | .tuple _ :: r, ns, h => by simp [ints?] at h
  | .dict _ :: r, ns, h => by simp [ints?] at h
theorem bools?_map (ns : List Bool) : bools? (ns.map PyData.bool) = some ns := by
  induction ns with
  | nil => rfl
  | cons a r ih => simp [bools?, ih]
theorem bools?_eq : ∀ {ds : List D} {ns : List Bool}, bools? ds = some ns → ds = ns.map PyData.bool
  | [], ns, h => by simp [bools?] at h; subst h; rfl
  | .bool i :: r, ns, h => by
    simp only [bools?, Option.map_eq_some_iff] at h
    obtain ⟨l, h1, rfl⟩ := h
    rw [bools?_eq h1]; rfl
  | .none :: r, ns, h => by simp [bools?] at h
  | .int _ :: r, ns, h => by simp [bools?] at h
  | .str _ :: r, ns, h => by simp [bools?] at h
  | .list _ :: r, ns, h => by simp [bools?] at h
  | .tuple _ :: r, ns, h => by simp [bools?] at h
  | .dict _ :: r, ns, h => by simp [bools?] at h
def greatest (a : Int) (l : List Int) : Int := l.foldl max a
def least (a : Int) (l : List Int) : Int := l.foldl min a
inductive B1 where
  | len | sum | max | min | abs | repr | str | tuple | list | all | any | sorted | bool | int
def showOk (d : D) : Prop := PyData.showable d = true ∧ PyData.depth d ≤ 40 ∧ (PyData.shown d).length ≤ 1000000 ∧ plain d = true
def intsOf (d : D) : W (List Int) := bnd (itemsOf d) fun xs => match ints? xs with | some ns => ret ns | none => stuck
def bi1 : B1 → D → W D
  | .len, .tuple xs => ret (.int xs.length)
  | .len, .list xs => ret (.int xs.length)
  | .len, .str x => grd (x.length ≤ 1000000) (ret (.int x.length))
  | .len, _ => stuck
  | .sum, d => bnd (intsOf d) fun ns => ret (.int ns.sum)
  | .max, d => bnd (intsOf d) fun ns => match ns with | [] => stuck | a :: r => ret (.int (greatest a r))
  | .min, d => bnd (intsOf d) fun ns => match ns with | [] => stuck | a :: r => ret (.int (least a r))
  | .abs, .int i => ret (.int (if i < 0 then -i else i))
  | .abs, _ => stuck
  | .repr, d => grd (showOk d) (ret (.str (PyData.shown d)))
  | .str, .int i => grd (i.natAbs.log2 < 1920) (ret (.str (toString i)))
  | .str, .str x => ret (.str x)
  | .str, .bool b => ret (.str (if b = true then "True" else "False" : String))
  | .str, _ => stuck
  | .tuple, d => bnd (itemsOf d) fun xs => ret (.tuple xs)
  | .list, d => bnd (itemsOf d) fun xs => ret (.list xs)
  | .all, .list xs => match bools? xs with | some bs => ret (.bool (bs.all id)) | none => stuck
  | .all, _ => stuck
  | .any, .list xs => match bools? xs with | some bs => ret (.bool (bs.any id)) | none => stuck
  | .any, _ => stuck
  | .sorted, _ => stuck
  | .bool, _ => stuck
  | .int, .int i => ret (.int i)
  | .int, .bool b => ret (.int (if b then 1 else 0))
  | .int, _ => stuck
inductive B2 where
  | max | min
def bi2 : B2 → D → D → W D
  | .max, .int i, .int j => ret (.int (if j > i then j else i))
  | .min, .int i, .int j => ret (.int (if j < i then j else i))
  | _, _, _ => stuck
/-- isinstance by a built-in type's name -/
def tyName : D → String
  | .none => "NoneType"
  | .bool _ => "bool"
  | .int _ => "int"
  | .str _ => "str"
  | .tuple _ => "tuple"
  | .list _ => "list"
  | .dict _ => "dict"
inductive Ty where
  | int | bool | tuple | str | list | dict
def isTy : Ty → D → Bool
  | .int, .int _ => true
  | .int, .bool _ => true
  | .bool, .bool _ => true
  | .tuple, .tuple _ => true
  | .str, .str _ => true
  | .list, .list _ => true
  | .dict, .dict _ => true
  | _, _ => false
abbrev XE := Env → W D
abbrev XT := Env → W Bool
abbrev XA := Env → W (List D)
def eVar (i : Nat) : XE := fun E => match E[i]? with | some (.val d) => ret d | _ => stuck
def eCon (d : D) : XE := fun _ => ret d
def eBin (o : Op) (a b : XE) : XE := fun E => bnd (a E) fun x => bnd (b E) fun y => opBin o x y
def eNeg (a : XE) : XE := fun E => bnd (a E) opNeg
def eCmp (o : Cmp) (a b : XE) : XE := fun E => bnd (a E) fun x => bnd (b E) fun y => bnd (opCmp o x y) fun c => ret (.bool c)
/-- a o b o' c, o(a, b) first -/
def eChain (o o' : Cmp) (a b c : XE) : XE := fun E => bnd (a E) fun x => bnd (b E) fun y => bnd (opCmp o x y) fun k => if k = true then bnd (c E) fun z => bnd (opCmp o' y z) fun k' => ret (.bool k') else ret (.bool false)
/-- a test: the truth of a value -/
def tTru (a : XE) : XT := fun E => bnd (a E) tru
def tNot (t : XT) : XT := fun E => bnd (t E) fun c => ret (!c)
def tAnd (t u : XT) : XT := fun E => bnd (t E) fun c => if c = true then u E else ret false
def tOr (t u : XT) : XT := fun E => bnd (t E) fun c => if c = true then ret true else u E
/-- .. as values -/
def eNot (a : XE) : XE := fun E => bnd (a E) fun x => bnd (tru x) fun c => ret (.bool (!c))
def eAnd (a b : XE) : XE := fun E => bnd (a E) fun x => bnd (tru x) fun c => if c = true then b E else ret x
def eOr (a b : XE) : XE := fun E => bnd (a E) fun x => bnd (tru x) fun c => if c = true then ret x else b E
def eIf (t : XT) (a b : XE) : XE := fun E => bnd (t E) fun c => if c = true then a E else b E
def eB1 (f : B1) (a : XE) : XE := fun E => bnd (a E) (bi1 f)
def eB2 (f : B2) (a b : XE) : XE := fun E => bnd (a E) fun x => bnd (b E) fun y => bi2 f x y
def eIs (t : Ty) (a : XE) : XE := fun E => bnd (a E) fun x => grd (noXn x = true) (ret (.bool (isTy t x)))
def eIdx (a b : XE) : XE := fun E => bnd (a E) fun x => bnd (b E) fun y => opIdx x y
abbrev XO := Env → W (Option Int)
def oNone : XO := fun _ => ret none
def oSome (a : XE) : XO := fun E => bnd (a E) fun x => bnd (asInt x) fun i => ret (some i)
def eCut (a : XE) (lo hi : XO) : XE := fun E => bnd (a E) fun x => bnd (lo E) fun l => bnd (hi E) fun h => opCut x l h
def opRev : D → W D
  | .tuple xs => ret (.tuple xs.reverse)
  | .list xs => ret (.list xs.reverse)
  | _ => stuck
def eRev (a : XE) : XE := fun E => bnd (a E) opRev
def aNil : XA := fun _ => ret []
def aCons (a : XE) (r : XA) : XA := fun E => bnd (a E) fun x => bnd (r E) fun xs => ret (x :: xs)
/-- *a, .. -/
def aStar (a : XE) (r : XA) : XA := fun E => bnd (a E) fun x => bnd (itemsOf x) fun ys => bnd (r E) fun xs => ret (ys ++ xs)
def eTup (a : XA) : XE := fun E => bnd (a E) fun xs => grd (small xs.length) (ret (.tuple xs))
def eLst (a : XA) : XE := fun E => bnd (a E) fun xs => grd (small xs.length) (ret (.list xs))
/-- a call of a def: what it does of its arguments -/
abbrev Fn := List D → W D
def eCall (f : Fn) (a : XA) : XE := fun E => bnd (a E) f
/-- a call whose first argument is the stream -/
def eCallS (f : Fn) (s : Nat) (a : XA) : XE := fun E => match E[s]? with | some .stm => bnd (a E) f | _ => stuck
/-- a draw -/
def draw (many : Int) : W D := fun n P _ => (0 < many ∧ many < 9223372036854775808 ∧ n.n < 2 ^ 40) ∧ ∀ r : Int, 0 ≤ r → r < many → P (.int r) n.up
def fDraw : Fn := fun ds => match ds with
  | [.int many] => draw many
  | _ => stuck
/-- what a loop walks -/
def iScr (i : Nat) : XA := fun E => match E[i]? with | some (.scr ns) => ret (ns.map PyData.int) | _ => stuck
def iSeq (a : XE) : XA := fun E => bnd (a E) itemsOf
def rng (a b : Int) : List D := (List.range (b - a).toNat).map fun (i : Nat) => PyData.int (a + (i : Int))
def rngOk (a b : Int) : Prop := -(2 ^ 60) < a ∧ a < 2 ^ 60 ∧ -(2 ^ 60) < b ∧ b < 2 ^ 60
def iRng1 (a : XE) : XA := fun E => bnd (a E) fun x => bnd (asInt x) fun n => grd (rngOk 0 n) (ret (rng 0 n))
def iRng2 (a b : XE) : XA := fun E => bnd (a E) fun x => bnd (b E) fun y => bnd (asInt x) fun n => bnd (asInt y) fun m => grd (rngOk n m) (ret (rng n m))
/-- list(range(..)), tuple(range(..)) -/
def eLstR (a : XA) : XE := fun E => bnd (a E) fun xs => grd (small xs.length) (ret (.list xs))
def eTupR (a : XA) : XE := fun E => bnd (a E) fun xs => grd (small xs.length) (ret (.tuple xs))
/-- a target: a name, names -/
inductive Tg where
  | nm (i : Nat)
  | tp (is : List Nat)
  | pr (a b : Tg)
def setAll : List Nat → List D → Env → Option Env
  | [], [], E => some E
  | i :: is, d :: ds, E => setAll is ds (E.set i (.val d))
  | _, _, _ => none
def Tg.put : Tg → D → Env → Option Env
  | .nm i, d, E => some (E.set i (.val d))
  | .tp is, .tuple ds, E => setAll is ds E
  | .tp is, .list ds, E => setAll is ds E
  | .tp _, _, _ => none
  | .pr a b, .tuple [d, e], E => match a.put d E with
    | some E1 => b.put e E1
    | none => none
  | .pr _ _, _, _ => none
/-- a list comprehension: its own names at vs; no error may leave it -/
def wipeE (E : Env) : List Nat → Env
  | [] => E
  | v :: vs => (wipeE E vs).set v .unk
def noX {α : Type} (m : W α) : W α := fun n P _ => m n P fun _ _ => False
@[simp] theorem noX_ret {α : Type} (a : α) : noX (ret a) = ret a := rfl
def compL (tg : Tg) (t : XT) (e : XE) : List D → List D → Env → W (List D)
  | [], acc, _ => ret acc
  | d :: ds, acc, E => match tg.put d E with
    | none => stuck
    | some E1 => bnd (t E1) fun c => if c = true then bnd (e E1) fun y => grd (small acc.length) (compL tg t e ds (acc ++ [y]) E) else compL tg t e ds acc E
def eComp (it : XA) (tg : Tg) (t : XT) (e : XE) (vs : List Nat) : XE := fun E => bnd (it E) fun ds => bnd (noX (compL tg t e ds [] (wipeE E vs))) fun ys => ret (.list ys)
def tYes : XT := fun _ => ret true
/-- an expression that reads the own list at i: what comes has no list within -/
def eBor (i : Nat) (e : XE) : XE := fun E => match E[i]? with
  | some (.own ds) => bnd (e (E.set i (.val (.list ds)))) fun d => grd (flat d = true) (ret d)
  | _ => e E
def tBor (i : Nat) (t : XT) : XT := fun E => match E[i]? with
  | some (.own ds) => t (E.set i (.val (.list ds)))
  | _ => t E
inductive Out where
  | nx (E : Env)
  | rt (d : D)
  | bk (E : Env)
  | ct (E : Env)
abbrev XS := Env → W Out
def sSeq (a b : XS) : XS := fun E => bnd (a E) fun o => match o with
  | .nx E' => b E'
  | o => ret o
def sSkip : XS := fun E => ret (.nx E)
def sAsg (i : Nat) (e : XE) : XS := fun E => bnd (e E) fun d => ret (.nx (E.set i (.val d)))
def sPut (tg : Tg) (e : XE) : XS := fun E => bnd (e E) fun d => match tg.put d E with
  | some E' => ret (.nx E')
  | none => stuck
/-- a, b = x, y -/
def sPar (i j : Nat) (a b : XE) : XS := fun E => bnd (a E) fun x => bnd (b E) fun y => ret (.nx ((E.set i (.val x)).set j (.val y)))
/-- name = a new list -/
def sOwn (i : Nat) (e : XE) : XS := fun E => bnd (e E) fun d => match d with
  | .list ds => ret (.nx (E.set i (.own ds)))
  | _ => stuck
/-- the own list at i is from here on a value -/
def sRel (i : Nat) (s : XS) : XS := fun E => match E[i]? with
  | some (.own ds) => s (E.set i (.val (.list ds)))
  | _ => s E
def sApp (i : Nat) (e : XE) : XS := fun E => match E[i]? with
  | some (.own ds) => bnd (e E) fun d => grd (small ds.length) (ret (.nx (E.set i (.own (ds ++ [d])))))
  | _ => stuck
/-- xs[k] = e at the own list at i -/
def sSet (i : Nat) (k e : XE) : XS := fun E => match E[i]? with
  | some (.own ds) => bnd (e E) fun d => bnd (k E) fun n => match n with
    | .int z => match L2.ixN ds.length z with
      | some j => ret (.nx (E.set i (.own (ds.set j d))))
      | none => stuck
    | _ => stuck
  | _ => stuck
def sIf (t : XT) (a b : XS) : XS := fun E => bnd (t E) fun c => if c = true then a E else b E
def forL (tg : Tg) (s : XS) : List D → XS
  | [], E => ret (.nx E)
  | d :: ds, E => match tg.put d E with
    | none => stuck
    | some E1 => bnd (s E1) fun o => match o with
      | .nx E' => forL tg s ds E'
      | .ct E' => forL tg s ds E'
      | .bk E' => ret (.nx E')
      | .rt d => ret (.rt d)
def sFor (it : XA) (tg : Tg) (s : XS) : XS := fun E => bnd (it E) fun ds => forL tg s ds E
def whileL (t : XT) (s : XS) : Nat → XS
  | 0, _ => stuck
  | n + 1, E => bnd (t E) fun c => if c = true then bnd (s E) fun o => match o with
      | .nx E' => whileL t s n E'
      | .ct E' => whileL t s n E'
      | .bk E' => ret (.nx E')
      | .rt d => ret (.rt d)
    else ret (.nx E)
def sWhile (t : XT) (s : XS) : XS := fun E c P X => ∃ n, whileL t s n E c P X
def sRet (e : XE) : XS := fun E => bnd (e E) fun d => ret (.rt d)
def sRetN : XS := fun _ => ret (.rt .none)
def sExpr (e : XE) : XS := fun E => bnd (e E) fun _ => ret (.nx E)
def sBreak : XS := fun E => ret (.bk E)
def sCont : XS := fun E => ret (.ct E)
/-- raise C(f = e) -/
def sRaise (cls : Str) (fs : List Str) (a : XA) : XS := fun E => bnd (a E) fun xs => thr ⟨cls, fs.zip xs⟩
/-- a def: so many parameters, so many slots, its body -/
def endOf : Out → W D
  | .rt d => ret d
  | .nx _ => ret .none
  | _ => stuck
def start (n : Nat) (E : Env) : Env := E ++ List.replicate (n - E.length) .unk
def fn (k n : Nat) (s : XS) : Fn := fun ds => grd (ds.length = k) (bnd (s (start n (ds.map .val))) endOf)
/-- .. whose first parameter is the stream -/
def fnS (k n : Nat) (s : XS) : Fn := fun ds => grd (ds.length + 1 = k) (bnd (s (start n (.stm :: ds.map .val))) endOf)
end DL
end
section
namespace DL
open PySem PySem.Spec PyProof.Rows L2
/-- the fields' names -/
inductive Fl where
  | limit | place | value | error | index
def Fl.s : Fl → Str
  | .limit => "limit"
  | .place => "place"
  | .value => "value"
  | .error => "error"
  | .index => "index"
def Fl.all : List Fl := [.limit, .place, .value, .error, .index]
theorem Fl.mem : ∀ f : Fl, f ∈ Fl.all := fun f => by cases f <;> simp [Fl.all]
def wrapN : List Str := ["NoStretch", "NoRows", "TooMany", "TooNarrow", "NoBreaking", "NoCount", "Contradictory", "BadLength", "LastWord", "BadRow", "BadTimes", "TooLong", "TooManyEdits", "NothingToUndo", "BadEdits", "BadEdit", "Rejected", "Busy", "BadText"]
def lookN : List Str := ["NoPlace", "NoLine", "NoWidth", "NoVersion"]
def isBlt (m : Str) : Bool := m == "ValueError" || m == "LookupError"
/-- is an error of the class n one of the class m -/
def subC (n m : Str) : Bool := n == m || ((m == "WrapError" || m == "ValueError") && wrapN.contains n) || (m == "LookupError" && lookN.contains n)
def allN : List Str := "WrapError" :: "ValueError" :: "LookupError" :: (wrapN ++ lookN)
/-- a class's name as a value -/
def clsV (K : PySem.W.Frag) (m : Str) : Value := if m == "ValueError" then .type "ValueError" else if m == "LookupError" then .type "LookupError" else .ref (He.ga K m)
/-- the module has it -/
def here (K : PySem.W.Frag) (m : Str) : Bool := isBlt m || (He.Fa.glo m).ok K
def knB (K : PySem.W.Frag) (n m : Str) : Bool := !here K m || (decide (PySem.W.exmOne K (.ref (He.ga K n)) (clsV K m) = some (subC n m)) && decide (PySem.W.kitOne K (.ref (He.ga K n)) (clsV K m) = some (subC n m)))
/-- what the written part says of a class of errors -/
structure ErrC (K : PySem.W.Frag) (n : Str) : Prop where
  cl : (PySem.W.clsIn K (He.ga K n)).isSome = true
  ga : PySem.W.findIn K (.ref (He.ga K n)) "__getattribute__" = some (some (.builtin "BaseException.__getattribute__"))
  gg : PySem.W.findIn K (.ref (He.ga K n)) "__getattr__" = some none
  kC : PySem.W.keepIn K (.ref (He.ga K n)) = true
  exC : PySem.W.subIn K (.ref (He.ga K n)) (.type "BaseException") = some true
  tyC : PySem.W.typeIn K (.ref (He.ga K n)) = some (.type "type")
  hdC : PySem.W.hasDictIn K (He.ga K n) = true
  ha : PySem.W.findIn K (.ref (He.ga K n)) "__class__" = some (some (.builtin "object.__class__"))
  hn : PySem.W.specialIn K (.builtin "object.__class__") "__get__" = some (some (.builtin "getset_descriptor.__get__"))
  ht : PySem.W.takesIn K (.builtin "object.__class__") = some true
  hm : PySem.W.mroIn K (He.ga K n) (.type "object") = some true
  nof : ∀ f : Fl, PySem.W.findIn K (.ref (He.ga K n)) f.s = some none
  kn : ∀ m ∈ allN, here K m = true → PySem.W.exmOne K (.ref (He.ga K n)) (clsV K m) = some (subC n m) ∧ PySem.W.kitOne K (.ref (He.ga K n)) (clsV K m) = some (subC n m)
def errB (K : PySem.W.Frag) (n : Str) : Bool :=
  (PySem.W.clsIn K (He.ga K n)).isSome && (decide (PySem.W.findIn K (.ref (He.ga K n)) "__getattribute__" = some (some (.builtin "BaseException.__getattribute__"))) && (decide (PySem.W.findIn K (.ref (He.ga K n)) "__getattr__" = some none) &&
    (PySem.W.keepIn K (.ref (He.ga K n)) && (decide (PySem.W.subIn K (.ref (He.ga K n)) (.type "BaseException") = some true) && (decide (PySem.W.typeIn K (.ref (He.ga K n)) = some (.type "type")) && (PySem.W.hasDictIn K (He.ga K n) &&
    (decide (PySem.W.findIn K (.ref (He.ga K n)) "__class__" = some (some (.builtin "object.__class__"))) && (decide (PySem.W.specialIn K (.builtin "object.__class__") "__get__" = some (some (.builtin "getset_descriptor.__get__"))) &&
    (decide (PySem.W.takesIn K (.builtin "object.__class__") = some true) && (decide (PySem.W.mroIn K (He.ga K n) (.type "object") = some true) && ((Fl.all.all fun f => decide (PySem.W.findIn K (.ref (He.ga K n)) f.s = some none)) && allN.all fun m => knB K n m)))))))))))
theorem errB_ok {K : PySem.W.Frag} {n : Str} (h : errB K n = true) : ErrC K n := by
  unfold errB at h
  simp only [Bool.and_eq_true, decide_eq_true_eq, List.all_eq_true] at h
  obtain ⟨h1, h2, h3, h4, h5, h6, h7, h8, h9, h10, h11, h12, h13⟩ := h
  refine ⟨h1, h2, h3, h4, h5, h6, h7, h8, h9, h10, h11, fun f => h12 f (Fl.mem f), fun m hm hh => ?_⟩
  have := h13 m hm
  unfold knB at this
  rw [hh] at this
  simpa using this
/-- the built-in class below -/
inductive Bs where
  | ve | le
def Bs.nm : Bs → String
  | .ve => "ValueError"
  | .le => "LookupError"
def Bs.tl : Bs → List Value
  | .ve => [.type "ValueError", .type "Exception", .type "BaseException", .type "object"]
  | .le => [.type "LookupError", .type "Exception", .type "BaseException", .type "object"]
def Bs.new : Bs → String
  | .ve => "ValueError.__new__"
  | .le => "LookupError.__new__"
def Bs.ini : Bs → String
  | .ve => "ValueError.__init__"
  | .le => "LookupError.__init__"
theorem Bs.fb : ∀ b : Bs, ExcBaseFacts b.nm b.new b.ini b.tl
  | .ve => PySem.F.excBase_ValueError
  | .le => PySem.F.excBase_LookupError
theorem Bs.sf : ∀ b : Bs, StoreFacts b.nm b.tl "object.__setattr__" "object"
  | .ve => PySem.F.store_ValueError
  | .le => PySem.F.store_LookupError
/-- of a class without fields -/
structure ErrZ (K : PySem.W.Frag) (n : Str) (b : Bs) : Prop where
  c : ErrC K n
  ex : PySem.W.excIn K (He.ga K n) b.tl b.new = true
def errZB (K : PySem.W.Frag) (n : Str) (b : Bs) : Bool := errB K n && PySem.W.excIn K (He.ga K n) b.tl b.new
theorem errZ_ok {K : PySem.W.Frag} {n : Str} {b : Bs} (h : errZB K n b = true) : ErrZ K n b := by
  unfold errZB at h
  rw [Bool.and_eq_true] at h
  exact ⟨errB_ok h.1, h.2⟩
/-- the text of __init__ -/
def iniA (f : Str) (p1 p2 : Pos) : Arguments := { posonlyargs := [], args := [{ arg := "self", annotation := none, pos := p1 }, { arg := f, annotation := none, pos := p2 }], vararg := none, kwonlyargs := [], kw_defaults := [], kwarg := none, defaults := [] }
def iniB (f : Str) (q1 q2 q3 q4 : Pos) : List Stmt := [.Assign [.Attribute (.Name "self" q1) f q2] (.Name f q3) q4]
def iniS (f : Str) : Scope := { kind := .function, names := [("self", .local), (f, .local)], isGenerator := false, isCoroutine := false, more := [] }
/-- of a class with one field -/
structure ErrT (K : PySem.W.Frag) (n : Str) (f : Fl) (b : Bs) : Prop where
  c : ErrC K n
  ini : PySem.W.excInitIn K (He.ga K n) b.tl b.new = true
  ov : PySem.W.excOver K (He.ga K n) b.tl = true
  sa : PySem.W.findIn K (.ref (He.ga K n)) "__setattr__" = some (some (.builtin "object.__setattr__"))
  iC : PySem.W.findIn K (.ref (He.ga K n)) "__init__" = some (some (.ref (He.ma K (He.ga K n) "__init__")))
  tC : PySem.W.typeIn K (.ref (He.ma K (He.ga K n) "__init__")) = some (.type "function")
  fn : ∃ (q : Str) (p1 p2 q1 q2 q3 q4 : Pos) (fd : FuncData), FunD K "__init__" q (iniA f.s p1 p2) (iniB f.s q1 q2 q3 q4) (iniS f.s) [] [] (He.ma K (He.ga K n) "__init__") fd
def errTB (K : PySem.W.Frag) (n : Str) (b : Bs) : Bool := errB K n && (PySem.W.excInitIn K (He.ga K n) b.tl b.new && (PySem.W.excOver K (He.ga K n) b.tl && (decide (PySem.W.findIn K (.ref (He.ga K n)) "__setattr__" = some (some (.builtin "object.__setattr__"))) &&
  (decide (PySem.W.findIn K (.ref (He.ga K n)) "__init__" = some (some (.ref (He.ma K (He.ga K n) "__init__")))) && decide (PySem.W.typeIn K (.ref (He.ma K (He.ga K n) "__init__")) = some (.type "function"))))))
theorem errT_ok {K : PySem.W.Frag} {n : Str} {f : Fl} {b : Bs} (h : errTB K n b = true) (fn : ∃ (q : Str) (p1 p2 q1 q2 q3 q4 : Pos) (fd : FuncData), FunD K "__init__" q (iniA f.s p1 p2) (iniB f.s q1 q2 q3 q4) (iniS f.s) [] [] (He.ma K (He.ga K n) "__init__") fd) : ErrT K n f b := by
  unfold errTB at h
  simp only [Bool.and_eq_true, decide_eq_true_eq] at h
  obtain ⟨h1, h2, h3, h4, h5, h6⟩ := h
  exact ⟨errB_ok h1, h2, h3, h4, h5, h6, fn⟩
end DL
end
section
namespace DL
open PySem PySem.Spec PyProof.Rows L2
/-- the exception's object at a -/
def xob (a : Addr) (o : Obj) : HO := .ext fun h => h.get? a = some o
/-- what is known of it -/
structure XOb (K : PySem.W.Frag) (o : Obj) (n : Str) (d : Option Addr) : Prop where
  cls : o.cls = .ref (He.ga K n)
  dict : o.dict = d
  data : ∃ vs, o.data = .fields vs
  er : ErrC K n
mutual
/-- the value is that data; B: places that may change, no list of the data stands there -/
inductive Rep (K : PySem.W.Frag) (B : Addr → Prop) (H : Hp) : V → PyData → Prop
  | non : Rep K B H .non .none
  | bl (b : Bool) : Rep K B H (.bl b) (.bool b)
  | int (i : Int) : Rep K B H (.int i) (.int i)
  | str (x : Str) : Rep K B H (.str x) (.str x)
  | lst {a : Addr} {xs : List V} {ds : List PyData} : H a = some (.lst xs) → ¬ B a → Reps K B H xs ds → Rep K B H (.ref a) (.list ds)
  | tup {a : Addr} {xs : List V} {ds : List PyData} : SqT K H a xs → Reps K B H xs ds → Rep K B H (.ref a) (.tuple ds)
  | dct0 {a : Addr} : H a = some (.dK []) → ¬ B a → Rep K B H (.ref a) (.dict [])
  | dct1 {a : Addr} {x : Str} {v : V} {d : PyData} : H a = some (.dK [(.inr x, v)]) → ¬ B a → Rep K B H v d → Rep K B H (.ref a) (.dict [(.str x, d)])
  | exn0 {a : Addr} {o : Obj} {n : Str} : H a = some (xob a o) → ¬ B a → XOb K o n none → Rep K B H (.ref a) (xD n [])
  | exn1 {a dd : Addr} {o : Obj} {n f : Str} {v : V} {d : PyData} : H a = some (xob a o) → ¬ B a → XOb K o n (some dd) → H dd = some (.xd [(f, v)]) → ¬ B dd → Rep K B H v d → Rep K B H (.ref a) (xD n [(f, d)])
  | rf (a : Addr) : Rep K B H (.ref a) (rD a)
  | wr {a dx : Addr} {v : V} {d : PyData} : H a = some (.ins (He.ga K "WordRow") dx [("held", v)]) → ¬ B a → Rep K B H v d → Rep K B H (.ref a) (wD d)
inductive Reps (K : PySem.W.Frag) (B : Addr → Prop) (H : Hp) : List V → List PyData → Prop
  | nil : Reps K B H [] []
  | cons {v : V} {vs : List V} {d : PyData} {ds : List PyData} : Rep K B H v d → Reps K B H vs ds → Reps K B H (v :: vs) (d :: ds)
end
/-- what is kept for good: tuples, locked things -/
def Imm : HO → Prop
  | .tup _ => True
  | .frz _ _ => True
  | _ => False
/-- all is kept but what stands at places of B -/
structure Ext (B : Addr → Prop) (H H' : Hp) : Prop where
  keep : ∀ a o, H a = some o → ¬ B a → H' a = some o
  imm : ∀ a o, H a = some o → Imm o → H' a = some o
  dom : ∀ a, H a ≠ none → H' a ≠ none
abbrev All (H H' : Hp) : Prop := ∀ a o, H a = some o → H' a = some o
section
variable {K : PySem.W.Frag} {B B' B'' : Addr → Prop} {H H' H'' : Hp}
theorem All.ext (h : All H H') : Ext B H H' := ⟨fun a o e _ => h a o e, fun a o e _ => h a o e, fun a n => by
  cases e : H a with
  | none => exact absurd e n
  | some o => rw [h a o e]; exact fun z => nomatch z⟩
theorem All.refl : All H H := fun _ _ e => e
theorem All.trans (h : All H H') (h' : All H' H'') : All H H'' := fun a o e => h' a o (h a o e)
theorem All.new {p : Addr} {o : HO} (h : H p = none) : All H (upd H p o) := fun a u e => by
  rw [upd_ne (ne_of_none e h)]; exact e
theorem Ext.refl : Ext B H H := All.refl.ext
theorem Ext.trans (h : Ext B H H') (h' : Ext B H' H'') : Ext B H H'' :=
  ⟨fun a o e n => h'.keep a o (h.keep a o e n) n, fun a o e i => h'.imm a o (h.imm a o e i) i, fun a n => h'.dom a (h.dom a n)⟩
theorem Ext.more (h : Ext B H H') (s : ∀ a, B a → B' a) : Ext B' H H' :=
  ⟨fun a o e n => h.keep a o e fun z => n (s a z), h.imm, h.dom⟩
theorem some_ne {a : Addr} {o : HO} (e : H a = some o) : H a ≠ none := by rw [e]; exact fun z => nomatch z
theorem Ext.sqT (h : Ext B H H') {a : Addr} {xs : List V} (q : SqT K H a xs) : SqT K H' a xs := by
  rcases q with (q | ⟨o, q⟩) | q
  · exact .inl (.inl (h.imm a _ q True.intro))
  · exact .inl (.inr ⟨o, h.imm a _ q True.intro⟩)
  · exact .inr q
mutual
theorem Rep.mono (h : Ext B H H') : ∀ {v : V} {d : PyData}, Rep K B H v d → Rep K B H' v d
  | _, _, .non => .non
  | _, _, .bl b => .bl b
  | _, _, .int i => .int i
  | _, _, .str x => .str x
  | _, _, .lst e n r => .lst (h.keep _ _ e n) n (Reps.mono h r)
  | _, _, .tup e r => .tup (h.sqT e) (Reps.mono h r)
  | _, _, .dct0 e n => .dct0 (h.keep _ _ e n) n
  | _, _, .dct1 e n r => .dct1 (h.keep _ _ e n) n (Rep.mono h r)
  | _, _, .exn0 e n x => .exn0 (h.keep _ _ e n) n x
  | _, _, .exn1 e n x e2 n2 r => .exn1 (h.keep _ _ e n) n x (h.keep _ _ e2 n2) n2 (Rep.mono h r)
  | _, _, .rf a => .rf a
  | _, _, .wr e n r => .wr (h.keep _ _ e n) n (Rep.mono h r)
theorem Reps.mono (h : Ext B H H') : ∀ {vs : List V} {ds : List PyData}, Reps K B H vs ds → Reps K B H' vs ds
  | _, _, .nil => .nil
  | _, _, .cons r t => .cons (Rep.mono h r) (Reps.mono h t)
end
mutual
/-- other places: none of the data's lists stands at one -/
theorem Rep.grow (h : ∀ a, B' a → H a ≠ none → B a) : ∀ {v : V} {d : PyData}, Rep K B H v d → Rep K B' H v d
  | _, _, .non => .non
  | _, _, .bl b => .bl b
  | _, _, .int i => .int i
  | _, _, .str x => .str x
  | _, _, .lst e n r => .lst e (fun z => n (h _ z (some_ne e))) (Reps.grow h r)
  | _, _, .tup e r => .tup e (Reps.grow h r)
  | _, _, .dct0 e n => .dct0 e (fun z => n (h _ z (some_ne e)))
  | _, _, .dct1 e n r => .dct1 e (fun z => n (h _ z (some_ne e))) (Rep.grow h r)
  | _, _, .exn0 e n x => .exn0 e (fun z => n (h _ z (some_ne e))) x
  | _, _, .exn1 e n x e2 n2 r => .exn1 e (fun z => n (h _ z (some_ne e))) x e2 (fun z => n2 (h _ z (some_ne e2))) (Rep.grow h r)
  | _, _, .rf a => .rf a
  | _, _, .wr e n r => .wr e (fun z => n (h _ z (some_ne e))) (Rep.grow h r)
theorem Reps.grow (h : ∀ a, B' a → H a ≠ none → B a) : ∀ {vs : List V} {ds : List PyData}, Reps K B H vs ds → Reps K B' H vs ds
  | _, _, .nil => .nil
  | _, _, .cons r t => .cons (Rep.grow h r) (Reps.grow h t)
end
theorem Rep.less (h : ∀ a, B' a → B a) {v : V} {d : PyData} (r : Rep K B H v d) : Rep K B' H v d := r.grow fun a z _ => h a z
theorem Reps.less (h : ∀ a, B' a → B a) {vs : List V} {ds : List PyData} (r : Reps K B H vs ds) : Reps K B' H vs ds := r.grow fun a z _ => h a z
mutual
theorem Rep.flat : ∀ {v : V} {d : PyData}, DL.flat d = true → Rep K B H v d → Rep K B' H v d
  | _, _, _, .non => .non
  | _, _, _, .bl b => .bl b
  | _, _, _, .int i => .int i
  | _, _, _, .str x => .str x
  | _, _, h, .lst _ _ _ => by simp [DL.flat] at h
  | _, _, h, .tup e r => .tup e (Reps.flat (by simpa [DL.flat] using h) r)
  | _, _, h, .dct0 _ _ => by simp [DL.flat] at h
  | _, _, h, .dct1 _ _ _ => by simp [DL.flat] at h
  | _, _, h, .exn0 _ _ _ => by simp [DL.flat, xD] at h
  | _, _, h, .exn1 _ _ _ _ _ _ => by simp [DL.flat, xD] at h
  | _, _, _, .rf a => .rf a
  | _, _, h, .wr _ _ _ => by simp [DL.flat, wD] at h
theorem Reps.flat : ∀ {vs : List V} {ds : List PyData}, DL.flatAll ds = true → Reps K B H vs ds → Reps K B' H vs ds
  | _, _, _, .nil => .nil
  | _, _, h, .cons r t => by
    simp only [DL.flatAll, Bool.and_eq_true] at h
    exact .cons (Rep.flat h.1 r) (Reps.flat h.2 t)
end
mutual
theorem Rep.dp : ∀ {v : V} {d : PyData}, PyData.canLay0 d = true → Rep K B H v d → Dp K H v d
  | _, _, _, .non => .non
  | _, _, _, .bl b => .bl b
  | _, _, _, .int i => .int i
  | _, _, _, .str x => .str x
  | _, _, h, .lst e _ r => .lst (SqL.of e) (Reps.dp (by simpa [PyData.canLay0] using h) r)
  | _, _, h, .tup e r => .tup e (Reps.dp (by simpa [PyData.canLay0] using h) r)
  | _, _, h, .dct0 _ _ => by simp [PyData.canLay0] at h
  | _, _, h, .dct1 _ _ _ => by simp [PyData.canLay0] at h
  | _, _, h, .exn0 _ _ _ => by simp [PyData.canLay0, xD] at h
  | _, _, h, .exn1 _ _ _ _ _ _ => by simp [PyData.canLay0, xD] at h
  | _, _, h, .rf _ => by simp [PyData.canLay0, rD] at h
  | _, _, h, .wr _ _ _ => by simp [PyData.canLay0, wD] at h
theorem Reps.dp : ∀ {vs : List V} {ds : List PyData}, PyData.canLayAll0 ds = true → Reps K B H vs ds → DpAll K H vs ds
  | _, _, _, .nil => .nil
  | _, _, h, .cons r t => by
    simp only [PyData.canLayAll0, Bool.and_eq_true] at h
    exact .cons (Rep.dp h.1 r) (Reps.dp h.2 t)
end
theorem Reps.length : ∀ {vs : List V} {ds : List PyData}, Reps K B H vs ds → vs.length = ds.length
  | _, _, .nil => rfl
  | _, _, .cons _ t => by simp [Reps.length t]
theorem Reps.get : ∀ {vs : List V} {ds : List PyData}, Reps K B H vs ds → ∀ {i : Nat} {d : PyData}, ds[i]? = some d → ∃ v, vs[i]? = some v ∧ Rep K B H v d
  | _, _, .nil, i, d, e => by simp at e
  | _, _, .cons r t, 0, d, e => by
    have e' : _ = d := Option.some.inj e
    subst e'
    exact ⟨_, rfl, r⟩
  | _, _, .cons r t, i + 1, d, e => Reps.get t (i := i) e
theorem Reps.append : ∀ {vs ws : List V} {ds es : List PyData}, Reps K B H vs ds → Reps K B H ws es → Reps K B H (vs ++ ws) (ds ++ es)
  | _, _, _, _, .nil, s => s
  | _, _, _, _, .cons r t, s => .cons r (Reps.append t s)
theorem Reps.drop : ∀ (n : Nat) {vs : List V} {ds : List PyData}, Reps K B H vs ds → Reps K B H (vs.drop n) (ds.drop n)
  | 0, _, _, r => r
  | _ + 1, _, _, .nil => .nil
  | n + 1, _, _, .cons _ t => Reps.drop n t
theorem Reps.take : ∀ (n : Nat) {vs : List V} {ds : List PyData}, Reps K B H vs ds → Reps K B H (vs.take n) (ds.take n)
  | 0, _, _, _ => .nil
  | _ + 1, _, _, .nil => .nil
  | n + 1, _, _, .cons r t => .cons r (Reps.take n t)
theorem Reps.set {v : V} {d : PyData} (r : Rep K B H v d) : ∀ (n : Nat) {vs : List V} {ds : List PyData}, Reps K B H vs ds → Reps K B H (vs.set n v) (ds.set n d)
  | _, _, _, .nil => .nil
  | 0, _, _, .cons _ t => .cons r t
  | n + 1, _, _, .cons q t => .cons q (Reps.set r n t)
theorem Reps.reverse {vs : List V} {ds : List PyData} (r : Reps K B H vs ds) : Reps K B H vs.reverse ds.reverse := by
  induction r using Reps.rec (motive_1 := fun _ _ _ => True) <;> try trivial
  case nil => exact .nil
  case cons r _ _ ih =>
    rw [List.reverse_cons, List.reverse_cons]
    exact ih.append (.cons r .nil)
theorem Reps.rep {vs : List V} {ds : List PyData} (r : Reps K B H vs ds) : ∀ n : Nat, Reps K B H (List.replicate n vs).flatten (List.replicate n ds).flatten
  | 0 => .nil
  | n + 1 => by
    rw [List.replicate_succ, List.replicate_succ, List.flatten_cons, List.flatten_cons]
    exact r.append (Reps.rep r n)
theorem Reps.ints : ∀ {vs : List V} {ds : List PyData} {ns : List Int}, Reps K B H vs ds → ints? ds = some ns → vs = ns.map V.int
  | _, _, ns, .nil, h => by simp [ints?] at h; subst h; rfl
  | _, _, ns, .cons r t, h => by
    have e := ints?_eq h
    cases ns with
    | nil => cases e
    | cons a b =>
      injection e with e1 e2
      subst e1
      cases r with
      | int i =>
        subst e2
        rw [Reps.ints t (ints?_map b)]
        rfl
theorem Reps.bools : ∀ {vs : List V} {ds : List PyData} {ns : List Bool}, Reps K B H vs ds → bools? ds = some ns → vs = ns.map V.bl
  | _, _, ns, .nil, h => by simp [bools?] at h; subst h; rfl
  | _, _, ns, .cons r t, h => by
    have e := bools?_eq h
    cases ns with
    | nil => cases e
    | cons a b =>
      injection e with e1 e2
      subst e1
      cases r with
      | bl i =>
        subst e2
        rw [Reps.bools t (bools?_map b)]
        rfl
theorem Reps.of_ints : ∀ (ns : List Int), Reps K B H (ns.map V.int) (ns.map PyData.int)
  | [] => .nil
  | a :: r => .cons (.int a) (Reps.of_ints r)
end
/-- from a state to another: B may change, what is new is new -/
structure Tr (B : Addr → Prop) (H : Hp) (B' : Addr → Prop) (H' : Hp) : Prop where
  ext : Ext B H H'
  old : ∀ a, B' a → H a ≠ none → B a
/-- the body's own: what may change besides (the stream, the cells), its state, the entry's heap and state, the caller's places, what is wanted of errors -/
structure Par where
  B0 : Sx → Addr → Prop
  SI : Sx → Hp → Prop
  S : Addr
  H0 : Hp
  c0 : Sx
  Bc : Addr → Prop
  XP : Exn → Sx → Prop
  EK : L2.St → XK
  /-- within a try's body: where it began -/
  fx : Option (L2.St × Sx × Hp × (Addr → Prop)) := none
  /-- lists that were handed in: where the name at a place stands -/
  pin : Nat → Option Addr := fun _ => none
/-- the places of the frame and those of the state -/
def bm (p : Par) (B : Addr → Prop) (c : Sx) : Addr → Prop := fun a => B a ∨ p.B0 c a
/-- an error behind a call: its class, its fields -/
def ExRep (K : PySem.W.Frag) (mg : Str → Option Value) (B : Addr → Prop) (H : Hp) (x : Exn) (c : Value) (d : Option Addr) : Prop :=
  c = .ref (He.ga K x.cls) ∧ ErrC K x.cls ∧ match x.fs with
    | [] => d = none
    | [(f, y)] => ∃ (dd : Addr) (v : V), d = some dd ∧ H dd = some (.xd [(f, v)]) ∧ ¬ B dd ∧ Rep K B H v y
    | _ => False
/-- what may change: places of the state; new places are new -/
structure EvB (Z : Sx → Addr → Prop) (c : Sx) (H : Hp) (c' : Sx) (H' : Hp) : Prop where
  ext : Ext (Z c) H H'
  up : ∀ a, Z c a → Z c' a
  old : ∀ a, Z c' a → H a ≠ none → Z c a
  dom : (∀ a, Z c a → H a ≠ none) → ∀ a, Z c' a → H' a ≠ none
abbrev Ev (p : Par) (c : Sx) (H : Hp) (c' : Sx) (H' : Hp) : Prop := EvB p.B0 c H c' H'
structure St0 (p : Par) (n : Sx) (B : Addr → Prop) (H : Hp) : Prop where
  subc : ∀ a, p.Bc a → bm p B n a
  trk : ∀ a, bm p B n a → H a ≠ none
  si : p.SI n H
  ext : Ev p p.c0 p.H0 n H
/-- the slots and places are those of the try's start -/
def Fix (p : Par) (n : Sx) (B : Addr → Prop) (H : Hp) (σ : L2.St) : Prop := ∀ f, p.fx = some f → σ = f.1 ∧ Ev p f.2.1 f.2.2.1 n H ∧ B = f.2.2.2
theorem EvB.refl {Z : Sx → Addr → Prop} {c : Sx} {H : Hp} : EvB Z c H c H := ⟨Ext.refl, fun _ h => h, fun _ h _ => h, fun h => h⟩
theorem All.ev {Z : Sx → Addr → Prop} {c : Sx} {H H' : Hp} (h : All H H') : EvB Z c H c H' := ⟨h.ext, fun _ h => h, fun _ h _ => h, fun q a z => (h.ext (B := fun _ => False)).dom a (q a z)⟩
theorem EvB.trans {Z : Sx → Addr → Prop} {c c' c'' : Sx} {H H' H'' : Hp} (a : EvB Z c H c' H') (b : EvB Z c' H' c'' H'') : EvB Z c H c'' H'' where
  ext := ⟨fun x o e n => b.ext.keep x o (a.ext.keep x o e n) fun z => n (a.old x z (some_ne e)), fun x o e i => b.ext.imm x o (a.ext.imm x o e i) i, fun x n => b.ext.dom x (a.ext.dom x n)⟩
  up := fun x h => b.up x (a.up x h)
  old := fun x z n => a.old x (b.old x z (a.ext.dom x n)) n
  dom := fun q => b.dom (a.dom q)
theorem Ev.refl {p : Par} {c : Sx} {H : Hp} : Ev p c H c H := EvB.refl
theorem Ev.trans {p : Par} {c c' c'' : Sx} {H H' H'' : Hp} (a : Ev p c H c' H') (b : Ev p c' H' c'' H'') : Ev p c H c'' H'' := EvB.trans a b
theorem Fix.no {p : Par} {n : Sx} {B : Addr → Prop} {H : Hp} {σ : L2.St} (h : p.fx = none) : Fix p n B H σ := fun f e => by rw [h] at e; cases e
theorem Fix.go {p : Par} {n n' : Sx} {B : Addr → Prop} {H H' : Hp} {σ : L2.St} (h : Fix p n B H σ) (e : Ev p n H n' H') : Fix p n' B H' σ := fun f q => let ⟨a, b, c⟩ := h f q; ⟨a, b.trans e, c⟩
structure Par.Ok (K : PySem.W.Frag) (mg : Str → Option Value) (p : Par) : Prop where
  stab : ∀ n H H', p.SI n H → (∀ a o, p.B0 n a → H a = some o → H' a = some o) → (∀ a o, H a = some o → Imm o → H' a = some o) → p.SI n H'
  exc : ∀ n n' x c d B H H' σ, St0 p n B H → Fix p n B H σ → p.XP x n' → p.SI n' H' → Ev p n H n' H' → ExRep K mg (bm p B n') H' x c d → p.EK σ c d H'
inductive Slot (K : PySem.W.Frag) (p : Par) (n : Sx) (B : Addr → Prop) (H : Hp) : Option V → Ent → Prop
  | unk (s : Option V) : Slot K p n B H s .unk
  | val {v : V} {d : D} : Rep K (bm p B n) H v d → Slot K p n B H (some v) (.val d)
  | own {a : Addr} {xs : List V} {ds : List D} : B a → ¬ p.B0 n a → ¬ p.Bc a → p.H0 a = none → H a = some (.lst xs) → Reps K (bm p B n) H xs ds → Slot K p n B H (some (.ref a)) (.own ds)
  | stm : Slot K p n B H (some (.ref p.S)) .stm
  | scr {a : Addr} {ns : List Int} : (∀ H' : Hp, (∀ o, H a = some o → Imm o → H' a = some o) → SqL K H' a (ns.map V.int)) → Slot K p n B H (some (.ref a)) (.scr ns)
structure EnvR (K : PySem.W.Frag) (p : Par) (n : Sx) (B : Addr → Prop) (H : Hp) (σ : L2.St) (E : Env) : Prop where
  len : σ.length = E.length
  at_ : ∀ (i : Nat) (e : Ent), E[i]? = some e → ∃ s, σ[i]? = some s ∧ Slot K p n B H s e
  nd : ∀ (i j : Nat) (a : Addr) (xs ys : List D), E[i]? = some (.own xs) → E[j]? = some (.own ys) → σ[i]? = some (some (.ref a)) → σ[j]? = some (some (.ref a)) → i = j
  fx : Fix p n B H σ
  pn : ∀ (i : Nat) (a : Addr) (xs : List D), p.pin i = some a → E[i]? = some (.own xs) → σ[i]? = some (some (.ref a))
theorem Tr.refl {B : Addr → Prop} {H : Hp} : Tr B H B H := ⟨Ext.refl, fun _ b _ => b⟩
theorem Tr.trans {B B' B'' : Addr → Prop} {H H' H'' : Hp} (a : Tr B H B' H') (b : Tr B' H' B'' H'') : Tr B H B'' H'' where
  ext := ⟨fun x o e n => b.ext.keep x o (a.ext.keep x o e n) fun z => n (a.old x z (some_ne e)), fun x o e i => b.ext.imm x o (a.ext.imm x o e i) i, fun x n => b.ext.dom x (a.ext.dom x n)⟩
  old := fun x z n => a.old x (b.old x z (a.ext.dom x n)) n
theorem Tr.of {B : Addr → Prop} {H H' : Hp} (e : Ext B H H') : Tr B H B H' := ⟨e, fun _ b _ => b⟩
section
variable {K : PySem.W.Frag} {mg : Str → Option Value} {p : Par} {B B' B'' : Addr → Prop} {H H' H'' : Hp} {σ : L2.St} {E : Env} {n n' : Sx}
mutual
/-- data that was known stays known -/
theorem Rep.tr (t : Tr B H B' H') : ∀ {v : V} {d : PyData}, Rep K B H v d → Rep K B' H' v d
  | _, _, .non => .non
  | _, _, .bl b => .bl b
  | _, _, .int i => .int i
  | _, _, .str x => .str x
  | _, _, .lst e n r => .lst (t.ext.keep _ _ e n) (fun z => n (t.old _ z (some_ne e))) (Reps.tr t r)
  | _, _, .tup e r => .tup (t.ext.sqT e) (Reps.tr t r)
  | _, _, .dct0 e n => .dct0 (t.ext.keep _ _ e n) (fun z => n (t.old _ z (some_ne e)))
  | _, _, .dct1 e n r => .dct1 (t.ext.keep _ _ e n) (fun z => n (t.old _ z (some_ne e))) (Rep.tr t r)
  | _, _, .exn0 e n x => .exn0 (t.ext.keep _ _ e n) (fun z => n (t.old _ z (some_ne e))) x
  | _, _, .exn1 e n x e2 n2 r => .exn1 (t.ext.keep _ _ e n) (fun z => n (t.old _ z (some_ne e))) x (t.ext.keep _ _ e2 n2) (fun z => n2 (t.old _ z (some_ne e2))) (Rep.tr t r)
  | _, _, .rf a => .rf a
  | _, _, .wr e n r => .wr (t.ext.keep _ _ e n) (fun z => n (t.old _ z (some_ne e))) (Rep.tr t r)
theorem Reps.tr (t : Tr B H B' H') : ∀ {vs : List V} {ds : List PyData}, Reps K B H vs ds → Reps K B' H' vs ds
  | _, _, .nil => .nil
  | _, _, .cons r u => .cons (Rep.tr t r) (Reps.tr t u)
end
section
variable {K : PySem.W.Frag} {mg : Str → Option Value} {p : Par} {B B' B'' : Addr → Prop} {H H' H'' : Hp} {σ : L2.St} {E : Env} {n n' : Sx}
theorem bm_more (h : ∀ a, p.B0 n a → p.B0 n' a) : ∀ a, bm p B n a → bm p B n' a := fun a z => z.imp id (h a)
/-- an expression, as a step -/
theorem EvB.tr (e : EvB p.B0 n H n' H') : Tr (bm p B n) H (bm p B n') H' :=
  ⟨e.ext.more fun _ z => .inr z, fun a z h => z.elim .inl fun z => .inr (e.old a z h)⟩
theorem St0.up (_ : St0 p n B H) (e : Ev p n H n' H') : Tr (bm p B n) H (bm p B n') H' := e.tr
theorem St0.go (s : St0 p n B H) (e : Ev p n H n' H') (si : p.SI n' H') : St0 p n' B H' :=
  ⟨fun a z => bm_more e.up a (s.subc a z), fun a b => b.elim (fun z => e.ext.dom a (s.trk a (.inl z))) fun z => e.dom (fun x y => s.trk x (.inr y)) a z, si, s.ext.trans e⟩
theorem St0.all (ok : p.Ok K mg) (s : St0 p n B H) (e : All H H') : p.SI n H' := ok.stab n H H' s.si (fun a o _ q => e a o q) fun a o q _ => e a o q
/-- the caller's places and the state's are known -/
theorem St0.bc (s : St0 p n B H) : ∀ a, bm p p.Bc n a → bm p B n a := fun a z => z.elim (s.subc a) .inr
theorem Slot.go (e : Ev p n H n' H') {x : Option V} {y : Ent} (h : Slot K p n B H x y) : Slot K p n' B H' x y := by
  cases h with
  | unk _ => exact .unk _
  | val r => exact .val (r.tr e.tr)
  | own b nb nc h0 hl r => exact .own b (fun z => nb (e.old _ z (some_ne hl))) nc h0 (e.ext.keep _ _ hl nb) (r.tr e.tr)
  | stm => exact .stm
  | scr q => exact .scr fun H2 hk => q H2 fun o ho hi => hk o (e.ext.imm _ o ho hi) hi
theorem EnvR.go (r : EnvR K p n B H σ E) (_ : St0 p n B H) (e : Ev p n H n' H') : EnvR K p n' B H' σ E :=
  ⟨r.len, fun i x q => let ⟨s', h1, h2⟩ := r.at_ i x q; ⟨s', h1, h2.go e⟩, r.nd, r.fx.go e, r.pn⟩
end
end
end DL
end
section
namespace DL
open PySem PySem.Spec PyProof.Rows L2
theorem dict_declines (l b : Addr) (o : Obj) (items2 : Array Value) (n2 : Nat) (dd2 : Option Addr) (sl2 : Array (Option Value)) :
    Meets (Builtin.«dict.__eq__» ⟨[.ref l, .ref b], []⟩) (fun _ R s => s.heap.get? l = some o ∧ o.cls = .type "dict" ∧ s.heap.get? b = some { cls := .type "tuple", dict := dd2, data := .seq items2 n2, slots := sl2 } ∧ R (.ok (.ret .notImplemented)) s) :=
  .of_wp fun prog w A R s h => by
    obtain ⟨hl, hc, hb, h⟩ := h
    have t1 : s.TypeIs (.ref l) "dict" := ⟨_, hl, hc⟩
    have t2 : s.TypeIs (.ref b) "tuple" := ⟨_, hb, rfl⟩
    show wpAny _ _ (Builtin.Dict.dictSlotArgs "__eq__" ⟨[.ref l, .ref b], []⟩ >>= _) _ _ s
    refine wpAny_bind ?_
    unfold Builtin.Dict.dictSlotArgs
    refine wpAny_bind (PySem.wpAny_notOrdered_dict t1 ?_)
    show wpAny _ _ (pure (Value.ref l, Value.ref b)) _ _ s
    refine wpAny_pure ?_
    refine wpAny_bind (wpAny_isInstance (T := "tuple") (U := "dict") (b := false) t2 PySem.F.sub_tuple_dict ?_)
    simp only [Bool.not_false, if_true]
    exact wpAny_bind (wpAny_rule (wpAny_pure ⟨_, rfl, h⟩))
theorem tuple_declines (l b : Addr) (o : Obj) (items : Array Value) (n : Nat) (dd : Option Addr) (sl : Array (Option Value)) :
    Meets (Builtin.«tuple.__eq__» ⟨[.ref l, .ref b], []⟩) (fun _ R s => s.heap.get? l = some { cls := .type "tuple", dict := dd, data := .seq items n, slots := sl } ∧ s.heap.get? b = some o ∧ o.cls = .type "dict" ∧ R (.ok (.ret .notImplemented)) s) :=
  .of_wp fun prog w A R s h => by
    obtain ⟨hp, g, d, tk, os⟩ := s
    obtain ⟨hl, hb, hc, h⟩ := h
    obtain ⟨oc, od, oda, os2⟩ := o
    simp only at hc
    subst hc
    have f1 := PySem.F.sub_dict_tuple
    wp_walk using wpAny_loadPart' hl, wpAny_loadPart' hb
    exact ⟨_, rfl, h⟩
section
variable {A : Around} {s : Shared}
theorem rc_dict_tuple {l b : Addr} {o : Obj} {items2 : Array Value} (hl : s.heap.get? l = some o) (hc : o.cls = .type "dict") (hb : s.heap.IsTuple b items2) (hu : A.units < cLine) : SeqAt.RcAt A s (.ref l) (.ref b) false := fun prog w E Q h => by
  obtain ⟨⟨cls2, dd2, data2, sl2⟩, ho2, hc2, n2, hd2⟩ := id hb
  simp only at hc2 hd2
  subst hc2 hd2
  have hne : l ≠ b := fun z => by
    subst z
    rw [hl] at ho2
    cases ho2
    exact absurd hc (by simp)
  exact (PySem.SeqAt.rc_eq_decline_or (k := false) ⟨_, hl, hc⟩ ⟨_, ho2, rfl⟩ (by decide) PySem.F.sub_tuple_dict PySem.F.slot_dict_eq PySem.F.slot_tuple_eq_refl
    (fun _ hq => call_meets PySem.F.slot_dict_eq ⟨_, hl, hc⟩ PySem.F.entry_dict_eq (PySem.F.args_dict_eq_2 _ _) (dict_declines l b o items2 n2 dd2 sl2) ⟨hl, hc, ho2, hq⟩)
    (fun _ hq => call_meets PySem.F.slot_tuple_eq_refl ⟨_, ho2, rfl⟩ PySem.F.entry_tuple_eq (PySem.F.args_tuple_eq_2 _ _) (tuple_declines b l o items2 n2 dd2 sl2) ⟨ho2, hl, hc, hq⟩)
    (fun _ hq => wpAny_isSame_ref_other hne hl ho2 (by rw [hc]; simp) hq) (.inr hu) h)
end
theorem dict_declines_ne (l b : Addr) (o : Obj) (items2 : Array Value) (n2 : Nat) (dd2 : Option Addr) (sl2 : Array (Option Value)) :
    Meets (Builtin.«dict.__ne__» ⟨[.ref l, .ref b], []⟩) (fun _ R s => s.heap.get? l = some o ∧ o.cls = .type "dict" ∧ s.heap.get? b = some { cls := .type "tuple", dict := dd2, data := .seq items2 n2, slots := sl2 } ∧ R (.ok (.ret .notImplemented)) s) :=
  .of_wp fun prog w A R s h => by
    obtain ⟨hl, hc, hb, h⟩ := h
    have t1 : s.TypeIs (.ref l) "dict" := ⟨_, hl, hc⟩
    have t2 : s.TypeIs (.ref b) "tuple" := ⟨_, hb, rfl⟩
    show wpAny _ _ (Builtin.Dict.dictSlotArgs "__ne__" ⟨[.ref l, .ref b], []⟩ >>= _) _ _ s
    refine wpAny_bind ?_
    unfold Builtin.Dict.dictSlotArgs
    refine wpAny_bind (PySem.wpAny_notOrdered_dict t1 ?_)
    show wpAny _ _ (pure (Value.ref l, Value.ref b)) _ _ s
    refine wpAny_pure ?_
    refine wpAny_bind (wpAny_isInstance (T := "tuple") (U := "dict") (b := false) t2 PySem.F.sub_tuple_dict ?_)
    simp only [Bool.not_false, if_true]
    exact wpAny_bind (wpAny_rule (wpAny_pure ⟨_, rfl, h⟩))
theorem tuple_declines_ne (l b : Addr) (o : Obj) (items : Array Value) (n : Nat) (dd : Option Addr) (sl : Array (Option Value)) :
    Meets (Builtin.«tuple.__ne__» ⟨[.ref l, .ref b], []⟩) (fun _ R s => s.heap.get? l = some { cls := .type "tuple", dict := dd, data := .seq items n, slots := sl } ∧ s.heap.get? b = some o ∧ o.cls = .type "dict" ∧ R (.ok (.ret .notImplemented)) s) :=
  .of_wp fun prog w A R s h => by
    obtain ⟨hp, g, d, tk, os⟩ := s
    obtain ⟨hl, hb, hc, h⟩ := h
    obtain ⟨oc, od, oda, os2⟩ := o
    simp only at hc
    subst hc
    have f1 := PySem.F.sub_dict_tuple
    wp_walk using wpAny_loadPart' hl, wpAny_loadPart' hb
    exact ⟨_, rfl, h⟩
section
variable {A : Around} {s : Shared}
theorem rc_dict_tuple_ne {l b : Addr} {o : Obj} {items2 : Array Value} (hl : s.heap.get? l = some o) (hc : o.cls = .type "dict") (hb : s.heap.IsTuple b items2) (hu : A.units < cLine) : SeqAt.RcNeAt A s (.ref l) (.ref b) true := fun prog w E Q h => by
  obtain ⟨⟨cls2, dd2, data2, sl2⟩, ho2, hc2, n2, hd2⟩ := id hb
  simp only at hc2 hd2
  subst hc2 hd2
  have hne : l ≠ b := fun z => by
    subst z
    rw [hl] at ho2
    cases ho2
    exact absurd hc (by simp)
  exact (PySem.SeqAt.rc_ne_decline_or (k := false) ⟨_, hl, hc⟩ ⟨_, ho2, rfl⟩ (by decide) PySem.F.sub_tuple_dict PySem.F.slot_dict_ne PySem.F.slot_tuple_ne_refl
    (fun _ hq => call_meets PySem.F.slot_dict_ne ⟨_, hl, hc⟩ PySem.F.entry_dict_ne (PySem.F.args_dict_ne_2 _ _) (dict_declines_ne l b o items2 n2 dd2 sl2) ⟨hl, hc, ho2, hq⟩)
    (fun _ hq => call_meets PySem.F.slot_tuple_ne_refl ⟨_, ho2, rfl⟩ PySem.F.entry_tuple_ne (PySem.F.args_tuple_ne_2 _ _) (tuple_declines_ne b l o items2 n2 dd2 sl2) ⟨ho2, hl, hc, hq⟩)
    (fun _ hq => wpAny_isSame_ref_other hne hl ho2 (by rw [hc]; simp) hq) (.inr hu) h)
end
end DL
end
section
namespace DL
open PySem PySem.Spec PyProof.Rows L2
theorem tuple_once (l : Addr) (items : Array Value) (n : Nat) (dd : Option Addr) (sl : Array (Option Value)) (u : Tok) :
    Meets (Builtin.«tuple.__mul__» ⟨[.ref l, .int 1 u], []⟩) (fun _ R s => s.heap.get? l = some { cls := .type "tuple", dict := dd, data := .seq items n, slots := sl } ∧
      R (.ok (.ret (Value.ref l))) s) :=
  .of_wp fun prog w A R s h => by
    obtain ⟨hp, g, d, tk, os⟩ := s
    obtain ⟨hl, h⟩ := h
    have f1 := AutoSeq1.idx_int
    have c1 : (items.isEmpty || (1 : Int) == 1) = true := by simp
    wp_walk using wpAny_loadPart' hl
    repeat (first
      | (refine wpAny_ite_true (decide_eq_true c1) ?_; wp_walk using wpAny_loadPart' hl)
      | (refine wpAny_ite_true c1 ?_; wp_walk using wpAny_loadPart' hl))
    exact ⟨_, rfl, h⟩
section
variable {X : Cx}
theorem op_once {pins : List (Addr × Obj)} {s : Shared} {σ : L2.St} {H : Hp} {v u : Value} {Q : VK} {l : Addr} {xs : List V} (I : Inv X pins σ H s) (rx : RelV (.ref l) v) (ry : RelV (.int 1) u) (hT : SqT X.K H l xs) (q : Q (.ref l) H) : wpAny (model X.prog X.w) X.A (binaryOp .Mult v u) (EP X pins σ Q) X.xe s := by
  cases rx
  obtain ⟨t, rfl⟩ := ry
  obtain ⟨its, r, ⟨⟨cls, dd, data, sl⟩, ho, hc, n, hd⟩, hs⟩ := I.tuple hT
  simp only at hc hd
  subst hc hd
  refine wpAny_binaryOp_repeat_ref (T := "tuple") (U := "int") (by decide) ⟨_, ho, rfl⟩ (fun s' => typeIs_int s' 1 t) noFill_tuple_mul PySem.F.fills_int_mul PySem.F.slot_int_rmul repeat_tuple PySem.F.slot_int_index.lookup
    (call_meets PySem.F.slot_int_rmul (typeIs_int s 1 t) PySem.F.entry_int_rmul (PySem.F.args_int_rmul_2 _ _) (int_rmul_tuple 1 t l its.toArray n dd sl)
      ⟨ho, rfl, ⟨_, ho, rfl⟩, call_meets PySem.F.slot_tuple_mul ⟨_, ho, rfl⟩ PySem.F.entry_tuple_mul (PySem.F.args_tuple_mul_2 _ _) (tuple_once l its.toArray n dd sl t) ⟨ho, ?_⟩⟩)
  exact ⟨.ref l, H, I, rfl, q⟩
end
theorem rep_once (ds : List PyData) : rep 1 ds = ds := by
  simp [rep]
end DL
end
section
namespace DL
open PySem PySem.Spec PyProof.Rows L2
theorem tuple_never (l : Addr) (items : Array Value) (n : Nat) (dd : Option Addr) (sl : Array (Option Value)) (u : Tok) (c1 : items.isEmpty = false) :
    Meets (Builtin.«tuple.__mul__» ⟨[.ref l, .int 0 u], []⟩) (fun _ R s => s.heap.get? l = some { cls := .type "tuple", dict := dd, data := .seq items n, slots := sl } ∧
      R (.ok (.ret (Value.ref s.heap.objs.size))) { s with heap := s.heap.push { cls := Value.type "tuple", data := Data.seq #[] }, toks := s.toks }) :=
  .of_wp fun prog w A R s h => by
    obtain ⟨hp, g, d, tk, os⟩ := s
    obtain ⟨hl, h⟩ := h
    have f1 := AutoSeq1.idx_int
    have c2 : (items.isEmpty || (0 : Int) == 1) = false := by rw [c1]; rfl
    wp_walk using wpAny_loadPart' hl
    repeat (first
      | (refine wpAny_ite_false (decide_eq_false (by rw [c2]; exact Bool.false_ne_true)) ?_; wp_walk using wpAny_loadPart' hl)
      | (refine wpAny_ite_false (by rw [c2]; exact Bool.false_ne_true) ?_; wp_walk using wpAny_loadPart' hl))
    exact ⟨_, rfl, h⟩
section
variable {X : Cx}
theorem op_never {pins : List (Addr × Obj)} {s : Shared} {σ : L2.St} {H : Hp} {v u : Value} {Q : VK} {l : Addr} {xs : List V} (I : Inv X pins σ H s) (rx : RelV (.ref l) v) (ry : RelV (.int 0) u) (hT : SqT X.K H l xs) (hne : xs ≠ []) (q : ∀ p, H p = none → Q (.ref p) (upd H p (.tup []))) : wpAny (model X.prog X.w) X.A (binaryOp .Mult v u) (EP X pins σ Q) X.xe s := by
  cases rx
  obtain ⟨t, rfl⟩ := ry
  obtain ⟨its, r, ⟨⟨cls, dd, data, sl⟩, ho, hc, n, hd⟩, hs⟩ := I.tuple hT
  simp only at hc hd
  subst hc hd
  have hi : its.toArray.isEmpty = false := by
    cases its with
    | nil => exact absurd (List.eq_nil_of_length_eq_zero r.length) hne
    | cons a b => rfl
  refine wpAny_binaryOp_repeat_ref (T := "tuple") (U := "int") (by decide) ⟨_, ho, rfl⟩ (fun s' => typeIs_int s' 0 t) noFill_tuple_mul PySem.F.fills_int_mul PySem.F.slot_int_rmul repeat_tuple PySem.F.slot_int_index.lookup
    (call_meets PySem.F.slot_int_rmul (typeIs_int s 0 t) PySem.F.entry_int_rmul (PySem.F.args_int_rmul_2 _ _) (int_rmul_tuple 0 t l its.toArray n dd sl)
      ⟨ho, rfl, ⟨_, ho, rfl⟩, call_meets PySem.F.slot_tuple_mul ⟨_, ho, rfl⟩ PySem.F.entry_tuple_mul (PySem.F.args_tuple_mul_2 _ _) (tuple_never l its.toArray n dd sl t hi) ⟨ho, ?_⟩⟩)
  refine ⟨.ref s.heap.objs.size, _, I.laid (t' := s.toks) (o := .tup []) (fun b ob q => Heap.get?_push_of_some _ q) (Nat.le_refl _) ?_, rfl, q _ (I.hok.fresh (Nat.le_refl _))⟩
  exact ⟨by rw [sizeLine_eq]; decide, _, .nil, IsTup.new _ _⟩
end
end DL
end
section
namespace DL
open PySem PySem.Spec PyProof.Rows L2
/-- the place of sys.modules is of the base -/
def HasSm (base : Heap) : Prop := ∃ o, base.get? sysModules = some o
/-- room for calls; cb: nothing is handled -/
structure RoomB (cb : Bool) (k : Nat) (A : Around) : Prop where
  hd_ : cb = true → A.handled = none
  dp : A.depth + 3 * k + 5 < recursionLimit
  un : A.units + 16 * k + 200 < cLine
theorem RoomB.of {k : Nat} {A : Around} (r : Room k A) : RoomB true k A := ⟨fun _ => r.hd, r.dp, r.un⟩
theorem RoomB.mono {cb : Bool} {j k : Nat} {A : Around} (r : RoomB cb k A) (h : j ≤ k) : RoomB cb j A := ⟨r.hd_, by have := r.dp; omega, by have := r.un; omega⟩
theorem RoomB.deeper {cb : Bool} {k : Nat} {A : Around} (r : RoomB cb (k + 1) A) (env : PySem.Env) : RoomB cb k (A.deeper env) :=
  ⟨r.hd_, by have := r.dp; show A.depth + 1 + 3 * k + 5 < _; omega, by have := r.un; show A.units + 3 + 16 * k + 200 < _; omega⟩
theorem RoomB.depth {cb : Bool} {k : Nat} {A : Around} (r : RoomB cb k A) : A.depth < recursionLimit := by have := r.dp; omega
theorem RoomB.units {cb : Bool} {k : Nat} {A : Around} (r : RoomB cb k A) : A.units + 64 < cLine := by have := r.un; omega
/-- what is known of the body that runs; cb: not within an except suite; vb: not within a try's body -/
structure SitB (cb vb : Bool) (X : Cx) (p : Par) (k : Nat) : Prop where
  calm_ : cb = true → X.calm = true
  gd : X.A.guards = some []
  rm : RoomB cb k X.A
  nd : X.N.Nodup
  ok : p.Ok X.K X.mg
  po : PassesOwn (model X.prog X.w) X.A X.env X.xe
  tk : Takes X (fun c d σ H => p.EK σ c d H)
  nf_ : vb = true → p.fx = none
  sm : HasSm X.base
abbrev Sit (X : Cx) (p : Par) (k : Nat) : Prop := SitB true true X p k
theorem SitB.ps {cb vb : Bool} {X : Cx} {p : Par} {k : Nat} (S : SitB cb vb X p k) (σ : L2.St) : PassesAt (L2.CX X.prog X.w) X σ (p.EK σ) := passAt S.tk σ
theorem SitB.calm {vb : Bool} {X : Cx} {p : Par} {k : Nat} (S : SitB true vb X p k) : X.calm = true := S.calm_ rfl
theorem SitB.nf {cb : Bool} {X : Cx} {p : Par} {k : Nat} (S : SitB cb true X p k) : p.fx = none := S.nf_ rfl
def EvR (K : PySem.W.Frag) (p : Par) (te : TE) (m : XE) : Prop :=
  ∀ (B : Addr → Prop) (H : Hp) (σ : L2.St) (E : Env) (c : Sx) (P : D → Sx → Prop) (Q : VK), St0 p c B H → EnvR K p c B H σ E → m E c P p.XP →
    (∀ d c' v H', P d c' → Ev p c H c' H' → p.SI c' H' → Rep K (bm p B c') H' v d → Q v H') → te σ H Q
def EvT (K : PySem.W.Frag) (p : Par) (tt : TT) (m : XT) : Prop :=
  ∀ (B : Addr → Prop) (H : Hp) (σ : L2.St) (E : Env) (c : Sx) (P : Bool → Sx → Prop) (Q : Bool → Hp → Prop), St0 p c B H → EnvR K p c B H σ E → m E c P p.XP →
    (∀ b c' H', P b c' → Ev p c H c' H' → p.SI c' H' → Q b H') → tt σ H Q
def EvA (K : PySem.W.Frag) (p : Par) (ta : TA) (m : XA) : Prop :=
  ∀ (B : Addr → Prop) (H : Hp) (σ : L2.St) (E : Env) (c : Sx) (P : List D → Sx → Prop) (Q : List V → Hp → Prop), St0 p c B H → EnvR K p c B H σ E → m E c P p.XP →
    (∀ ds c' vs H', P ds c' → Ev p c H c' H' → p.SI c' H' → Reps K (bm p B c') H' vs ds → Q vs H') → ta σ H Q
structure PD (X : Cx) (p : Par) (e : Expr) (m : XE) : Prop where
  ex : ∃ te, PE X e te ∧ EvR X.K p te m
structure PDT (X : Cx) (p : Par) (e : Expr) (m : XT) : Prop where
  ex : ∃ tt, PT X e tt ∧ EvT X.K p tt m
structure PDW (X : Cx) (p : Par) (e : Expr) (m : XT) : Prop where
  ex : ∃ tt, PW X e tt ∧ EvT X.K p tt m
structure PDA (X : Cx) (p : Par) (es : List Expr) (m : XA) : Prop where
  ex : ∃ ta, PA X es ta ∧ EvA X.K p ta m
section
variable {X : Cx} {p : Par} {k : Nat} {K : PySem.W.Frag}
theorem pd_var (i : Nat) {x : Str} {pos : Pos} (hN : X.N[i]? = some x := by rfl) (hv : Vis X.env.scope x := by first | exact Or.inl rfl | exact Or.inr (Or.inl rfl) | exact Or.inr (Or.inr rfl))
    (hd : (x == ("__debug__" : Str)) = false := by decide) (hcd : (x == ("__classdict__" : Str)) = false := by decide) : PD X p (.Name x pos) (eVar i) := by
  refine ⟨tVar i, pe_var hN hv hd hcd, fun B H σ E c P Q s r m k => ?_⟩
  unfold eVar at m
  cases e : E[i]? with
  | none => rw [e] at m; exact m.elim
  | some y =>
    rw [e] at m
    obtain ⟨z, h1, h2⟩ := r.at_ i y e
    cases h2 with
    | unk _ => exact m.elim
    | val q => exact ⟨_, h1, k _ _ _ H m Ev.refl s.si q⟩
    | own _ _ _ _ _ _ => exact m.elim
    | stm => exact m.elim
    | scr _ => exact m.elim
theorem ev_con {v : V} {d : D} (h : ∀ B H, Rep K B H v d) : EvR K p (tC v) (eCon d) := fun B H σ E c P Q s r m k => k d _ v H m Ev.refl s.si (h _ H)
theorem pd_int {i j pos} : PD X p (.Constant (.int i) j pos) (eCon (.int i)) := ⟨_, pe_int, ev_con fun _ _ => .int i⟩
theorem pd_bl {b j pos} : PD X p (.Constant (.bool b) j pos) (eCon (.bool b)) := ⟨_, pe_bl, ev_con fun _ _ => .bl b⟩
theorem pd_non {j pos} : PD X p (.Constant .none j pos) (eCon .none) := ⟨_, pe_non, ev_con fun _ _ => .non⟩
theorem pd_str {x j pos} : PD X p (.Constant (.str x) j pos) (eCon (.str x)) := ⟨_, pe_str, ev_con fun _ _ => .str x⟩
/-- a constant of the module -/
theorem pd_glob {x : Str} {i : Int} {pos : Pos} (hm : ∃ t, X.mg x = some (.int i t)) (hg : Gl X x := by rfl) (hd : (x == ("__debug__" : Str)) = false := by decide) : PD X p (.Name x pos) (eCon (.int i)) := by
  obtain ⟨t, hm⟩ := hm
  exact ⟨_, pe_glob (v := .int i) hg hm ⟨t, rfl⟩ hd, ev_con fun _ _ => .int i⟩
/-- a two-place operation on values that are data -/
def rD2 (K : PySem.W.Frag) (f : D → D → W D) : R2 := fun x y H Q => ∃ (B : Addr → Prop) (d e : D) (c : Sx) (P : D → Sx → Prop) (Xp : Exn → Sx → Prop),
  (∀ a, B a → H a ≠ none) ∧ Rep K B H x d ∧ Rep K B H y e ∧ f d e c P Xp ∧ ∀ z v H', P z c → All H H' → Rep K B H' v z → Q v H'
def rD1 (K : PySem.W.Frag) (f : D → W D) : V → Hp → VK → Prop := fun x H Q => ∃ (B : Addr → Prop) (d : D) (c : Sx) (P : D → Sx → Prop) (Xp : Exn → Sx → Prop),
  (∀ a, B a → H a ≠ none) ∧ Rep K B H x d ∧ f d c P Xp ∧ ∀ z v H', P z c → All H H' → Rep K B H' v z → Q v H'
def rC1 (K : PySem.W.Frag) (f : D → W D) : List V → Hp → VK → Prop := fun xs H Q => ∃ x, xs = [x] ∧ rD1 K f x H Q
def rC2 (K : PySem.W.Frag) (f : D → D → W D) : List V → Hp → VK → Prop := fun xs H Q => ∃ x y, xs = [x, y] ∧ rD2 K f x y H Q
theorem ev_bnd {ta tb : TE} {ma mb : XE} {r : R2} {f : D → D → W D} (ok : p.Ok K X.mg) (hr : ∀ x y H Q, rD2 K f x y H Q → r x y H Q) (ha : EvR K p ta ma) (hb : EvR K p tb mb) :
    EvR K p (tOp r ta tb) (fun E => bnd (ma E) fun x => bnd (mb E) fun y => f x y) := by
  intro B H σ E c P Q s re m k
  refine ha B H σ E _ _ _ s re m fun d c1 v H1 m1 e1 s1 r1 => ?_
  have st1 := s.go e1 s1
  refine hb B H1 σ E _ _ _ st1 (re.go s e1) m1 fun d2 c2' v2 H2 m2 e2 s2 r2 => ?_
  have st2 := st1.go e2 s2
  refine hr _ _ _ _ ⟨_, d, d2, _, P, p.XP, st2.trk, r1.tr (st1.up e2), r2, m2, fun z v3 H3 pz a3 r3 => ?_⟩
  exact k z _ v3 H3 pz (e1.trans (e2.trans a3.ev)) (st2.all ok a3) r3
theorem ev_bnd1 {ta : TE} {ma : XE} {r : V → Hp → VK → Prop} {f : D → W D} (ok : p.Ok K X.mg) (hr : ∀ x H Q, rD1 K f x H Q → r x H Q) (ha : EvR K p ta ma) :
    EvR K p (tUn r ta) (fun E => bnd (ma E) f) := by
  intro B H σ E c P Q s re m k
  refine ha B H σ E _ _ _ s re m fun d c1 v H1 m1 e1 s1 r1 => ?_
  have st1 := s.go e1 s1
  exact hr _ _ _ ⟨_, d, _, P, p.XP, st1.trk, r1, m1, fun z v3 H3 pz a3 r3 => k z _ v3 H3 pz (e1.trans a3.ev) (st1.all ok a3) r3⟩
theorem lay_of {d : D} (h : SeqAt.shaped d = true) : PyData.canLay0 d = true := by
  unfold SeqAt.shaped at h
  exact (Bool.and_eq_true_iff.mp h).1
/-- fresh tuples, fresh lists -/
theorem rep_tup {B : Addr → Prop} {H : Hp} {q : Addr} {xs : List V} {ds : List D} (hq : H q = none) (r : Reps K B H xs ds) : Rep K B (upd H q (.tup xs)) (.ref q) (.tuple ds) :=
  .tup (SqT.of upd_same) (r.mono (All.new hq).ext)
theorem rep_lst {B : Addr → Prop} {H : Hp} {q : Addr} {xs : List V} {ds : List D} (hb : ∀ a, B a → H a ≠ none) (hq : H q = none) (r : Reps K B H xs ds) : Rep K B (upd H q (.lst xs)) (.ref q) (.list ds) :=
  .lst upd_same (fun z => hb q z hq) (r.mono (All.new hq).ext)
theorem small_line {n : Nat} (h : small n) : n ≤ sizeLine := Nat.le_trans h (by rw [sizeLine_eq]; decide)
theorem small_lt {n : Nat} (h : small n) : n < sizeLine := Nat.lt_of_le_of_lt h (by rw [sizeLine_eq]; decide)
theorem op_addD : OpR X (binaryOp .Add) (rD2 X.K opAdd) := by
  intro pins s σ H x y v u Q I rx ry h
  obtain ⟨_, d, e, c, P, Xp, hb, r1, r2, m, k⟩ := h
  cases r1 with
  | int i =>
    cases r2 with
    | int j => exact op_add pins s σ H _ _ v u Q I rx ry ⟨i, j, rfl, rfl, k _ _ H m All.refl (.int _)⟩
    | _ => exact m.elim
  | bl i =>
    cases r2 with
    | int j =>
      obtain ⟨tk, rfl⟩ := ry
      cases rx
      exact PySem.IntBool.add_bool_int ⟨.int (DL.b2i i + j), H, I.tok _, ⟨_, rfl⟩, k _ _ H m All.refl (.int _)⟩
    | _ => exact m.elim
  | str i =>
    cases r2 with
    | str j =>
      obtain ⟨hz, m⟩ := m
      exact op_add_str pins s σ H _ _ v u Q I rx ry ⟨i, j, rfl, rfl, small_line hz, k _ _ H m All.refl (.str _)⟩
    | _ => exact m.elim
  | tup q1 s1 =>
    cases r2 with
    | tup q2 s2 =>
      obtain ⟨hz, m⟩ := m
      have l1 := s1.length
      have l2 := s2.length
      refine op_catA pins s σ H _ _ v u Q I rx ry ⟨_, _, _, _, rfl, rfl, q1, q2, by rw [l1, l2]; exact small_line hz, fun z => ?_, fun n z => ?_, fun n n2 q hq => ?_⟩
      · subst z
        cases s1
        exact k _ _ H m All.refl (.tup q2 s2)
      · subst z
        cases s2
        rw [List.append_nil] at m
        exact k _ _ H m All.refl (.tup q1 s1)
      · exact k _ _ _ m (All.new hq) (rep_tup hq (s1.append s2))
    | _ => exact m.elim
  | lst q1 b1 s1 =>
    cases r2 with
    | lst q2 b2 s2 =>
      obtain ⟨hz, m⟩ := m
      have l1 := s1.length
      have l2 := s2.length
      exact op_cat pins s σ H _ _ v u Q I rx ry ⟨_, _, _, _, rfl, rfl, q1, q2, by rw [l1, l2]; exact small_line hz, fun q hq => k _ _ _ m (All.new hq) (rep_lst hb hq (s1.append s2))⟩
    | _ => exact m.elim
  | _ => exact m.elim
theorem op_subD : OpR X (binaryOp .Sub) (rD2 X.K opSub) := by
  intro pins s σ H x y v u Q I rx ry h
  obtain ⟨_, d, e, c, P, Xp, hb, r1, r2, m, k⟩ := h
  cases r1 with
  | int i =>
    cases r2 with
    | int j => exact op_sub pins s σ H _ _ v u Q I rx ry ⟨i, j, rfl, rfl, k _ _ H m All.refl (.int _)⟩
    | _ => exact m.elim
  | bl i =>
    cases r2 with
    | int j =>
      obtain ⟨tk, rfl⟩ := ry
      cases rx
      exact PySem.IntBool.sub_bool_int ⟨.int (DL.b2i i - j), H, I.tok _, ⟨_, rfl⟩, k _ _ H m All.refl (.int _)⟩
    | _ => exact m.elim
  | _ => exact m.elim
theorem op_mulD : OpR X (binaryOp .Mult) (rD2 X.K opMul) := by
  intro pins s σ H x y v u Q I rx ry h
  obtain ⟨_, d, e, c, P, Xp, hb, r1, r2, m, k⟩ := h
  cases r1 with
  | int i =>
    cases r2 with
    | int j => exact op_mul pins s σ H _ _ v u Q I rx ry ⟨i, j, rfl, rfl, m.1, k _ _ H m.2 All.refl (.int _)⟩
    | _ => exact m.elim
  | tup q1 s1 =>
    cases r2 with
    | int j =>
      obtain ⟨⟨h0, h1, h2, h3⟩, m⟩ := m
      have l1 := s1.length
      by_cases hj : j = 1
      · subst hj
        rw [rep_once] at m
        exact op_once I rx ry q1 (k _ _ H m All.refl (.tup q1 s1))
      by_cases hj0 : j = 0
      · subst hj0
        exact op_never I rx ry q1 (fun z => by subst z; cases s1; exact h0 rfl) (fun q hq => k _ _ _ m (All.new hq) (rep_tup hq .nil))
      refine op_repT pins s σ H _ _ v u Q I rx ry ⟨_, j, _, rfl, rfl, q1, fun z => ?_, by omega, h2, by rw [l1]; exact h3, fun q hq => k _ _ _ m (All.new hq) (rep_tup hq (s1.rep _))⟩
      subst z
      cases s1
      exact h0 rfl
    | _ => exact m.elim
  | lst q1 b1 s1 =>
    cases r2 with
    | int j =>
      obtain ⟨⟨h0, h1, h2⟩, m⟩ := m
      have l1 := s1.length
      have hj : j.toNat ≤ 1000 := by omega
      have hm : (_ : List V).length * j.toNat ≤ 1000 * 1000 := Nat.mul_le_mul (by rw [l1]; exact h2) hj
      exact op_rep pins s σ H _ _ v u Q I rx ry ⟨_, j, _, rfl, rfl, q1, by omega, by omega, Nat.le_trans hm (by rw [sizeLine_eq]; decide), fun q hq => k _ _ _ m (All.new hq) (rep_lst hb hq (s1.rep _))⟩
    | _ => exact m.elim
  | _ => exact m.elim
theorem op_fdivD : OpR X (binaryOp .FloorDiv) (rD2 X.K opFdiv) := by
  intro pins s σ H x y v u Q I rx ry h
  obtain ⟨_, d, e, c, P, Xp, hb, r1, r2, m, k⟩ := h
  cases r1 with
  | int i =>
    cases r2 with
    | int j => exact op_fdivW pins s σ H _ _ v u Q I rx ry ⟨i, j, rfl, rfl, ⟨m.1.1, (Nat.log2_lt (by have := m.1.1; omega)).mpr (Nat.lt_of_lt_of_le (show j.natAbs < 2 ^ 63 by have := m.1.2; have := m.1.1; omega) (Nat.pow_le_pow_right (by decide) (by decide)))⟩, k _ _ H m.2 All.refl (.int _)⟩
    | _ => exact m.elim
  | _ => exact m.elim
theorem op_modD : OpR X (binaryOp .Mod) (rD2 X.K opMod) := by
  intro pins s σ H x y v u Q I rx ry h
  obtain ⟨_, d, e, c, P, Xp, hb, r1, r2, m, k⟩ := h
  cases r1 with
  | int i =>
    cases r2 with
    | int j => exact op_mod pins s σ H _ _ v u Q I rx ry ⟨i, j, rfl, rfl, m.1, k _ _ H m.2 All.refl (.int _)⟩
    | _ => exact m.elim
  | _ => exact m.elim
theorem op_powD : OpR X (binaryOp .Pow) (rD2 X.K opPow) := by
  intro pins s σ H x y v u Q I rx ry h
  obtain ⟨_, d, e, c, P, Xp, hb, r1, r2, m, k⟩ := h
  cases r1 with
  | int i =>
    cases r2 with
    | int j => exact op_pow pins s σ H _ _ v u Q I rx ry ⟨i, j, rfl, rfl, ⟨m.1.1, Int.le_trans m.1.2.1 (by decide), m.1.2.2⟩, k _ _ H m.2 All.refl (.int _)⟩
    | _ => exact m.elim
  | _ => exact m.elim
theorem op_shlD : OpR X (binaryOp .LShift) (rD2 X.K opShl) := by
  intro pins s σ H x y v u Q I rx ry h
  obtain ⟨_, d, e, c, P, Xp, hb, r1, r2, m, k⟩ := h
  cases r1 with
  | int i =>
    cases r2 with
    | int j => exact op_shl pins s σ H _ _ v u Q I rx ry ⟨i, j, rfl, rfl, ⟨m.1.1, Int.le_trans m.1.2.1 (by decide), m.1.2.2⟩, k _ _ H m.2 All.refl (.int _)⟩
    | _ => exact m.elim
  | _ => exact m.elim
def opS : Op → Operator
  | .add => .Add
  | .sub => .Sub
  | .mul => .Mult
  | .fdiv => .FloorDiv
  | .mod => .Mod
  | .pow => .Pow
  | .shl => .LShift
theorem op_binD : ∀ o : Op, OpR X (binaryOp (opS o)) (rD2 X.K (opBin o))
  | .add => op_addD
  | .sub => op_subD
  | .mul => op_mulD
  | .fdiv => op_fdivD
  | .mod => op_modD
  | .pow => op_powD
  | .shl => op_shlD
theorem pd_bin {cb vb : Bool} (S : SitB cb vb X p k) (o : Op) {a b : Expr} {ma mb : XE} {pos : Pos} (ha : PD X p a ma) (hb : PD X p b mb) : PD X p (.BinOp a (opS o) b pos) (eBin o ma mb) := by
  obtain ⟨ta, a1, a2⟩ := ha.ex
  obtain ⟨tb, b1, b2⟩ := hb.ex
  exact ⟨_, pe_op (op_binD o) a1 b1, ev_bnd S.ok (fun _ _ _ _ h => h) a2 b2⟩
theorem un_negD : UnR X (unaryOp .USub) (rD1 X.K opNeg) := by
  intro pins s σ H x v Q I rx h
  obtain ⟨_, d, c, P, Xp, hb, r1, m, k⟩ := h
  cases r1 with
  | int i => exact un_neg pins s σ H _ v Q I rx ⟨i, rfl, k _ _ H m All.refl (.int _)⟩
  | _ => exact m.elim
theorem pd_neg {cb vb : Bool} (S : SitB cb vb X p k) {a : Expr} {ma : XE} {pos : Pos} (ha : PD X p a ma) : PD X p (.UnaryOp .USub a pos) (eNeg ma) := by
  obtain ⟨ta, a1, a2⟩ := ha.ex
  exact ⟨_, pe_un un_negD a1, ev_bnd1 S.ok (fun _ _ _ h => h) a2⟩
def cmpD (o : Cmp) (x y : D) : W D := bnd (opCmp o x y) fun c => ret (.bool c)
def cmpS : Cmp → CmpOp
  | .eq => .Eq
  | .ne => .NotEq
  | .lt => .Lt
  | .le => .LtE
  | .gt => .Gt
  | .ge => .GtE
  | .isN => .Is
  | .notN => .IsNot
theorem rep_non {B : Addr → Prop} {H : Hp} {v : V} {d : D} (r : Rep K B H v d) : decide (v = .non) = isNone d := by
  cases r <;> rfl
theorem nil_sizes {B : Addr → Prop} {pins : List (Addr × Obj)} {σ : L2.St} {H : Hp} {s : Shared} {x y : V} {v u : Value} {ds : List D} (I : Inv X pins σ H s) (rx : RelV x v) (ry : RelV y u) (r1 : Rep X.K B H x (.list ds)) (r2 : Rep X.K B H y (.list [])) :
    ∃ a b its its2, v = .ref a ∧ u = .ref b ∧ s.heap.IsList a its ∧ s.heap.IsList b its2 ∧ its.size = ds.length ∧ its2.size = 0 := by
  cases r1 with
  | lst e1 n1 q1 =>
    cases r2 with
    | lst e2 n2 q2 =>
      obtain ⟨its, v1, p1, _⟩ := I.list (.inl (.inl e1))
      obtain ⟨its2, v2, p2, _⟩ := I.list (.inl (.inl e2))
      refine ⟨_, _, its.toArray, its2.toArray, rx, ry, p1.isList, p2.isList, ?_, ?_⟩
      · rw [List.size_toArray, ← v1.length, q1.length]
      · rw [List.size_toArray, ← v2.length, q2.length]
        rfl
theorem eq_nilA {B : Addr → Prop} {pins : List (Addr × Obj)} {σ : L2.St} {H : Hp} {s : Shared} {x y : V} {v u : Value} {ds : List D} {Q : VK} (I : Inv X pins σ H s) (rx : RelV x v) (ry : RelV y u) (r1 : Rep X.K B H x (.list ds)) (r2 : Rep X.K B H y (.list [])) (hu : X.A.units < cLine)
    (q : Q (.bl (PyData.eqv (.list ds) (.list []))) H) : wpAny (model X.prog X.w) X.A (compareOp .Eq v u) (EP X pins σ Q) X.xe s := by
  obtain ⟨a, b, its, its2, rfl, rfl, i1, i2, z1, z2⟩ := nil_sizes I rx ry r1 r2
  cases ds with
  | nil => exact SeqAt.RcAt.lists (e := fun _ => true) i1 i2 (by rw [z1, z2]; rfl) hu (fun j h1 _ => absurd h1 (by rw [z1]; exact Nat.not_lt_zero j)) _ _ _ _ ⟨.bl true, H, I, by rw [z1]; rfl, q⟩
  | cons d ds => exact SeqAt.RcAt.lists_lengths i1 i2 (by rw [z1, z2]; rfl) hu _ _ _ _ ⟨.bl false, H, I, rfl, q⟩
theorem ne_nilA {B : Addr → Prop} {pins : List (Addr × Obj)} {σ : L2.St} {H : Hp} {s : Shared} {x y : V} {v u : Value} {ds : List D} {Q : VK} (I : Inv X pins σ H s) (rx : RelV x v) (ry : RelV y u) (r1 : Rep X.K B H x (.list ds)) (r2 : Rep X.K B H y (.list [])) (hu : X.A.units < cLine)
    (q : Q (.bl (!PyData.eqv (.list ds) (.list []))) H) : wpAny (model X.prog X.w) X.A (compareOp .NotEq v u) (EP X pins σ Q) X.xe s := by
  obtain ⟨a, b, its, its2, rfl, rfl, i1, i2, z1, z2⟩ := nil_sizes I rx ry r1 r2
  cases ds with
  | nil => exact SeqAt.RcNeAt.lists (e := fun _ => true) i1 i2 (by rw [z1, z2]; rfl) hu (fun j h1 _ => absurd h1 (by rw [z1]; exact Nat.not_lt_zero j)) _ _ _ _ ⟨.bl false, H, I, by rw [z1]; rfl, q⟩
  | cons d ds => exact SeqAt.RcNeAt.lists_lengths i1 i2 (by rw [z1, z2]; rfl) hu _ _ _ _ ⟨.bl true, H, I, rfl, q⟩
theorem nilT_sizes {B : Addr → Prop} {pins : List (Addr × Obj)} {σ : L2.St} {H : Hp} {s : Shared} {x y : V} {v u : Value} {ds : List D} (I : Inv X pins σ H s) (rx : RelV x v) (ry : RelV y u) (r1 : Rep X.K B H x (.tuple ds)) (r2 : Rep X.K B H y (.tuple [])) :
    ∃ a b its its2, v = .ref a ∧ u = .ref b ∧ IsTup s.heap a its ∧ IsTup s.heap b its2 ∧ its.size = ds.length ∧ its2.size = 0 := by
  cases r1 with
  | tup e1 q1 =>
    cases r2 with
    | tup e2 q2 =>
      obtain ⟨its, v1, p1, _⟩ := I.tuple e1
      obtain ⟨its2, v2, p2, _⟩ := I.tuple e2
      refine ⟨_, _, its.toArray, its2.toArray, rx, ry, p1, p2, ?_, ?_⟩
      · rw [List.size_toArray, ← v1.length, q1.length]
      · rw [List.size_toArray, ← v2.length, q2.length]
        rfl
theorem eqv_nilT (ds : List D) : PyData.eqv (.tuple ds) (.tuple []) = (ds.length == 0) := by
  cases ds <;> rfl
theorem eq_nilTA {B : Addr → Prop} {pins : List (Addr × Obj)} {σ : L2.St} {H : Hp} {s : Shared} {x y : V} {v u : Value} {ds : List D} {Q : VK} (I : Inv X pins σ H s) (rx : RelV x v) (ry : RelV y u) (r1 : Rep X.K B H x (.tuple ds)) (r2 : Rep X.K B H y (.tuple [])) (hu : X.A.units < cLine)
    (q : Q (.bl (PyData.eqv (.tuple ds) (.tuple []))) H) : wpAny (model X.prog X.w) X.A (compareOp .Eq v u) (EP X pins σ Q) X.xe s := by
  obtain ⟨a, b, its, its2, rfl, rfl, i1, i2, z1, z2⟩ := nilT_sizes I rx ry r1 r2
  refine SeqAt.RcAt.tuples (e := fun _ => true) i1 i2 hu (fun j _ h2 => absurd h2 (by rw [z2]; exact Nat.not_lt_zero j)) _ _ _ _ ⟨_, H, I, ?_, q⟩
  rw [eqv_nilT, z1, z2]
  simp
  rfl
theorem ne_nilTA {B : Addr → Prop} {pins : List (Addr × Obj)} {σ : L2.St} {H : Hp} {s : Shared} {x y : V} {v u : Value} {ds : List D} {Q : VK} (I : Inv X pins σ H s) (rx : RelV x v) (ry : RelV y u) (r1 : Rep X.K B H x (.tuple ds)) (r2 : Rep X.K B H y (.tuple [])) (hu : X.A.units < cLine)
    (q : Q (.bl (!PyData.eqv (.tuple ds) (.tuple []))) H) : wpAny (model X.prog X.w) X.A (compareOp .NotEq v u) (EP X pins σ Q) X.xe s := by
  obtain ⟨a, b, its, its2, rfl, rfl, i1, i2, z1, z2⟩ := nilT_sizes I rx ry r1 r2
  refine SeqAt.RcNeAt.tuples (e := fun _ => true) i1 i2 hu (fun j _ h2 => absurd h2 (by rw [z2]; exact Nat.not_lt_zero j)) _ _ _ _ ⟨_, H, I, ?_, q⟩
  rw [eqv_nilT, z1, z2]
  simp
  rfl
theorem eq_vsNil {B : Addr → Prop} {pins : List (Addr × Obj)} {σ : L2.St} {H : Hp} {s : Shared} {x y : V} {v u : Value} {d e : D} {Q : VK} (I : Inv X pins σ H s) (rx : RelV x v) (ry : RelV y u) (r1 : Rep X.K B H x d) (r2 : Rep X.K B H y e) (hu : X.A.units < cLine) (hv : vsNil d e = true)
    (q : Q (.bl (PyData.eqv d e)) H) : wpAny (model X.prog X.w) X.A (compareOp .Eq v u) (EP X pins σ Q) X.xe s := by
  unfold vsNil at hv
  split at hv
  · cases r1 with
    | lst e1 n1 q1 =>
      cases r2 with
      | tup e2 q2 =>
        obtain ⟨its, v1, p1, _⟩ := I.list (.inl (.inl e1))
        obtain ⟨its2, v2, p2, _⟩ := I.tuple e2
        cases (show v = _ from rx)
        cases (show u = _ from ry)
        exact SeqAt.RcAt.list_tuple p1.isList p2 hu _ _ _ _ ⟨.bl false, H, I, rfl, q⟩
  · cases r1 with
    | dct0 e1 n1 =>
      cases r2 with
      | tup e2 q2 =>
        obtain ⟨_, sm, vs, kv, o, es, ep, ho, ex, hd, _, pr, _⟩ := dk_of I.hok e1
        obtain ⟨its2, v2, p2, _⟩ := I.tuple e2
        cases (show v = _ from rx)
        cases (show u = _ from ry)
        exact rc_dict_tuple ho ex.1 p2 hu _ _ _ _ ⟨.bl false, H, I, rfl, q⟩
  · cases r1 with
    | dct1 e1 n1 q1 =>
      cases r2 with
      | tup e2 q2 =>
        obtain ⟨_, sm, vs, kv, o, es, ep, ho, ex, hd, _, pr, _⟩ := dk_of I.hok e1
        obtain ⟨its2, v2, p2, _⟩ := I.tuple e2
        cases (show v = _ from rx)
        cases (show u = _ from ry)
        exact rc_dict_tuple ho ex.1 p2 hu _ _ _ _ ⟨.bl false, H, I, rfl, q⟩
  · cases hv
theorem ne_vsNil {B : Addr → Prop} {pins : List (Addr × Obj)} {σ : L2.St} {H : Hp} {s : Shared} {x y : V} {v u : Value} {d e : D} {Q : VK} (I : Inv X pins σ H s) (rx : RelV x v) (ry : RelV y u) (r1 : Rep X.K B H x d) (r2 : Rep X.K B H y e) (hu : X.A.units < cLine) (hv : vsNil d e = true)
    (q : Q (.bl (!PyData.eqv d e)) H) : wpAny (model X.prog X.w) X.A (compareOp .NotEq v u) (EP X pins σ Q) X.xe s := by
  unfold vsNil at hv
  split at hv
  · cases r1 with
    | lst e1 n1 q1 =>
      cases r2 with
      | tup e2 q2 =>
        obtain ⟨its, v1, p1, _⟩ := I.list (.inl (.inl e1))
        obtain ⟨its2, v2, p2, _⟩ := I.tuple e2
        cases (show v = _ from rx)
        cases (show u = _ from ry)
        exact SeqAt.RcNeAt.list_tuple p1.isList p2 hu _ _ _ _ ⟨.bl true, H, I, rfl, q⟩
  · cases r1 with
    | dct0 e1 n1 =>
      cases r2 with
      | tup e2 q2 =>
        obtain ⟨_, sm, vs, kv, o, es, ep, ho, ex, hd, _, pr, _⟩ := dk_of I.hok e1
        obtain ⟨its2, v2, p2, _⟩ := I.tuple e2
        cases (show v = _ from rx)
        cases (show u = _ from ry)
        exact rc_dict_tuple_ne ho ex.1 p2 hu _ _ _ _ ⟨.bl true, H, I, rfl, q⟩
  · cases r1 with
    | dct1 e1 n1 q1 =>
      cases r2 with
      | tup e2 q2 =>
        obtain ⟨_, sm, vs, kv, o, es, ep, ho, ex, hd, _, pr, _⟩ := dk_of I.hok e1
        obtain ⟨its2, v2, p2, _⟩ := I.tuple e2
        cases (show v = _ from rx)
        cases (show u = _ from ry)
        exact rc_dict_tuple_ne ho ex.1 p2 hu _ _ _ _ ⟨.bl true, H, I, rfl, q⟩
  · cases hv
theorem op_cmpD (hu : X.A.units + 64 < cLine) : ∀ o : Cmp, OpR X (compareOp (cmpS o)) (rD2 X.K (cmpD o))
  | .eq => by
    intro pins s σ H x y v u Q I rx ry h
    obtain ⟨_, d, e, c, P, Xp, hb, r1, r2, ⟨hok, m⟩, k⟩ := h
    by_cases hs : ∃ a b, d = .str a ∧ e = .str b
    · obtain ⟨a, b, rfl, rfl⟩ := hs
      cases r1
      cases r2
      have es : decide (V.str a = V.str b) = (a == b) := by
        rw [Bool.eq_iff_iff]
        simp
      refine op_eq pins s σ H _ _ v u Q I rx ry ⟨rfl, ?_⟩
      rw [es]
      exact k _ _ H m All.refl (.bl _)
    · by_cases hz : ∃ ds, d = .list ds ∧ e = .list []
      · obtain ⟨ds, rfl, rfl⟩ := hz
        exact eq_nilA I rx ry r1 r2 (by omega) (k _ _ H m All.refl (.bl _))
      by_cases hy : ∃ ds, d = .tuple ds ∧ e = .tuple []
      · obtain ⟨ds, rfl, rfl⟩ := hy
        exact eq_nilTA I rx ry r1 r2 (by omega) (k _ _ H m All.refl (.bl _))
      have hh : vsNil d e = true ∨ (SeqAt.shaped d = true ∧ SeqAt.shaped e = true) := by
        unfold eqOk at hok
        split at hok
        · exact absurd ⟨_, _, rfl, rfl⟩ hs
        · exact absurd ⟨_, rfl, rfl⟩ hz
        · exact absurd ⟨_, rfl, rfl⟩ hy
        · exact hok
      rcases hh with hh | hh
      · exact eq_vsNil I rx ry r1 r2 (by omega) hh (k _ _ H m All.refl (.bl _))
      exact op_eqD hu pins s σ H _ _ v u Q I rx ry ⟨d, e, r1.dp (lay_of hh.1), r2.dp (lay_of hh.2), hh.1, hh.2, k _ _ H m All.refl (.bl _)⟩
  | .ne => by
    intro pins s σ H x y v u Q I rx ry h
    obtain ⟨_, d, e, c, P, Xp, hb, r1, r2, ⟨hok, m⟩, k⟩ := h
    by_cases hs : ∃ a b, d = .str a ∧ e = .str b
    · obtain ⟨a, b, rfl, rfl⟩ := hs
      cases r1
      cases r2
      have es : decide (V.str a = V.str b) = (a == b) := by
        rw [Bool.eq_iff_iff]
        simp
      refine op_ne pins s σ H _ _ v u Q I rx ry ⟨rfl, ?_⟩
      rw [es]
      exact k _ _ H m All.refl (.bl _)
    · by_cases hz : ∃ ds, d = .list ds ∧ e = .list []
      · obtain ⟨ds, rfl, rfl⟩ := hz
        exact ne_nilA I rx ry r1 r2 (by omega) (k _ _ H m All.refl (.bl _))
      by_cases hy : ∃ ds, d = .tuple ds ∧ e = .tuple []
      · obtain ⟨ds, rfl, rfl⟩ := hy
        exact ne_nilTA I rx ry r1 r2 (by omega) (k _ _ H m All.refl (.bl _))
      have hh : vsNil d e = true ∨ (SeqAt.shaped d = true ∧ SeqAt.shaped e = true) := by
        unfold eqOk at hok
        split at hok
        · exact absurd ⟨_, _, rfl, rfl⟩ hs
        · exact absurd ⟨_, rfl, rfl⟩ hz
        · exact absurd ⟨_, rfl, rfl⟩ hy
        · exact hok
      rcases hh with hh | hh
      · exact ne_vsNil I rx ry r1 r2 (by omega) hh (k _ _ H m All.refl (.bl _))
      exact op_neD hu pins s σ H _ _ v u Q I rx ry ⟨d, e, r1.dp (lay_of hh.1), r2.dp (lay_of hh.2), hh.1, hh.2, k _ _ H m All.refl (.bl _)⟩
  | .lt => by
    intro pins s σ H x y v u Q I rx ry h
    obtain ⟨_, d, e, c, P, Xp, hb, r1, r2, m, k⟩ := h
    cases r1 with
    | int i =>
      cases r2 with
      | int j => exact op_lt pins s σ H _ _ v u Q I rx ry ⟨i, j, rfl, rfl, k _ _ H m All.refl (.bl _)⟩
      | _ => exact m.elim
    | _ => exact m.elim
  | .le => by
    intro pins s σ H x y v u Q I rx ry h
    obtain ⟨_, d, e, c, P, Xp, hb, r1, r2, m, k⟩ := h
    cases r1 with
    | int i =>
      cases r2 with
      | int j => exact op_le pins s σ H _ _ v u Q I rx ry ⟨i, j, rfl, rfl, k _ _ H m All.refl (.bl _)⟩
      | _ => exact m.elim
    | _ => exact m.elim
  | .gt => by
    intro pins s σ H x y v u Q I rx ry h
    obtain ⟨_, d, e, c, P, Xp, hb, r1, r2, m, k⟩ := h
    cases r1 with
    | int i =>
      cases r2 with
      | int j => exact op_gt pins s σ H _ _ v u Q I rx ry ⟨i, j, rfl, rfl, k _ _ H m All.refl (.bl _)⟩
      | _ => exact m.elim
    | _ => cases r2 <;> exact m.elim
  | .ge => by
    intro pins s σ H x y v u Q I rx ry h
    obtain ⟨_, d, e, c, P, Xp, hb, r1, r2, m, k⟩ := h
    cases r1 with
    | int i =>
      cases r2 with
      | int j => exact op_ge pins s σ H _ _ v u Q I rx ry ⟨i, j, rfl, rfl, k _ _ H m All.refl (.bl _)⟩
      | _ => exact m.elim
    | _ => cases r2 <;> exact m.elim
  | .isN => by
    intro pins s σ H x y v u Q I rx ry h
    obtain ⟨_, d, e, c, P, Xp, hb, r1, r2, ⟨h1, m⟩, k⟩ := h
    by_cases hb2 : ∃ a b, d = .bool a ∧ e = .bool b
    · obtain ⟨a, b, rfl, rfl⟩ := hb2
      cases r1
      cases r2
      exact op_isBl pins s σ H _ _ v u Q I rx ry ⟨_, _, rfl, rfl, k _ _ H m All.refl (.bl _)⟩
    have h1 : e = .none := by
      unfold isOpOk at h1
      split at h1
      · exact absurd ⟨_, _, rfl, rfl⟩ hb2
      · exact h1
    subst h1
    cases r2
    refine op_isN pins s σ H _ _ v u Q I rx ry ⟨rfl, ?_⟩
    rw [rep_non r1, ← isOpV_none d]
    exact k _ _ H m All.refl (.bl _)
  | .notN => by
    intro pins s σ H x y v u Q I rx ry h
    obtain ⟨_, d, e, c, P, Xp, hb, r1, r2, ⟨h1, m⟩, k⟩ := h
    by_cases hb2 : ∃ a b, d = .bool a ∧ e = .bool b
    · obtain ⟨a, b, rfl, rfl⟩ := hb2
      cases r1
      cases r2
      exact op_notBl pins s σ H _ _ v u Q I rx ry ⟨_, _, rfl, rfl, k _ _ H m All.refl (.bl _)⟩
    have h1 : e = .none := by
      unfold isOpOk at h1
      split at h1
      · exact absurd ⟨_, _, rfl, rfl⟩ hb2
      · exact h1
    subst h1
    cases r2
    refine op_notN pins s σ H _ _ v u Q I rx ry ⟨rfl, ?_⟩
    rw [rep_non r1, ← isOpV_none d]
    exact k _ _ H m All.refl (.bl _)
theorem SitB.un {cb vb : Bool} (S : SitB cb vb X p k) : X.A.units + 64 < cLine := S.rm.units
theorem cmpS_mark (o : Cmp) (b : Expr) : behindInMarks (cmpS o) b = false := by cases o <;> exact nomark b
theorem pd_cmp {cb vb : Bool} (S : SitB cb vb X p k) (o : Cmp) {a b : Expr} {ma mb : XE} {pos : Pos} (ha : PD X p a ma) (hb : PD X p b mb) : PD X p (.Compare a [cmpS o] [b] pos) (eCmp o ma mb) := by
  obtain ⟨ta, a1, a2⟩ := ha.ex
  obtain ⟨tb, b1, b2⟩ := hb.ex
  exact ⟨_, pe_cmpR (op_cmpD S.un o) a1 b1 (cmpS_mark o b), ev_bnd S.ok (f := cmpD o) (fun _ _ _ _ h => h) a2 b2⟩
/-- a test from a value that is a bool -/
theorem et_bool {te : TE} {m : XE} (h : EvR K p te m) : EvT K p (tTest te) (fun E => bnd (m E) fun d => match d with | .bool b => ret b | _ => stuck) := by
  intro B H σ E c P Q s re mm k
  refine h B H σ E _ _ _ s re mm fun d c1 v H1 m1 e1 s1 r1 => ?_
  cases r1 with
  | bl b => exact ⟨b, rfl, k b _ H1 m1 e1 s1⟩
  | _ => exact m1.elim
def tBool (a : XE) : XT := fun E => bnd (a E) fun d => match d with | .bool b => ret b | _ => stuck
theorem pt_cmpD {cb vb : Bool} (S : SitB cb vb X p k) (o : Cmp) {a b : Expr} {ma mb : XE} {pos : Pos} (ha : PD X p a ma) (hb : PD X p b mb) : PDT X p (.Compare a [cmpS o] [b] pos) (tBool (eCmp o ma mb)) := by
  obtain ⟨ta, a1, a2⟩ := ha.ex
  obtain ⟨tb, b1, b2⟩ := hb.ex
  exact ⟨_, pt_cmpR (op_cmpD S.un o) a1 b1 (cmpS_mark o b), et_bool (m := eCmp o ma mb) (ev_bnd S.ok (f := cmpD o) (fun _ _ _ _ h => h) a2 b2)⟩
theorem ev_chain {ta tb tc : TE} {ma mb mc : XE} {r r' : R2} {o o' : Cmp} (ok : p.Ok K X.mg) (hr : ∀ x y H Q, rD2 K (cmpD o) x y H Q → r x y H Q) (hr' : ∀ x y H Q, rD2 K (cmpD o') x y H Q → r' x y H Q)
    (ha : EvR K p ta ma) (hb : EvR K p tb mb) (hc : EvR K p tc mc) : EvR K p (tChain r r' ta tb tc) (eChain o o' ma mb mc) := by
  intro B H σ E c P Q s re m k
  refine ha B H σ E _ _ _ s re m fun d c1 v H1 m1 e1 s1 r1 => ?_
  have st1 := s.go e1 s1
  have re1 := re.go s e1
  refine hb B H1 σ E _ _ _ st1 re1 m1 fun d2 c2' v2 H2 m2 e2 s2 r2 => ?_
  have st2 := st1.go e2 s2
  have re2 := re1.go st1 e2
  refine hr _ _ _ _ ⟨_, d, d2, c2', (fun z n => ∃ c : Bool, z = .bool c ∧ (if c = true then bnd (mc E) fun z => bnd (opCmp o' d2 z) fun k' => ret (.bool k') else ret (.bool false)) n P p.XP), p.XP, st2.trk, r1.tr (st1.up e2), r2, ?_, fun z v3 H3 pz a3 r3 => ?_⟩
  · have e : (cmpD o d d2) = bnd (opCmp o d d2) fun c => ret (.bool c) := rfl
    rw [e]
    have q : ∀ (n : Sx) (P1 P2 : Bool → Sx → Prop) (Xp : Exn → Sx → Prop), (∀ b, P1 b n → P2 b n) → opCmp o d d2 n P1 Xp → opCmp o d d2 n P2 Xp := by
      intro n P1 P2 Xp hh h
      cases o with
      | eq => exact ⟨h.1, hh _ h.2⟩
      | ne => exact ⟨h.1, hh _ h.2⟩
      | lt => cases d <;> first | exact h.elim | (cases d2 <;> first | exact h.elim | exact hh _ h)
      | le => cases d <;> first | exact h.elim | (cases d2 <;> first | exact h.elim | exact hh _ h)
      | gt => cases d2 <;> first | exact h.elim | (cases d <;> first | exact h.elim | exact hh _ h)
      | ge => cases d2 <;> first | exact h.elim | (cases d <;> first | exact h.elim | exact hh _ h)
      | isN => exact ⟨h.1, hh _ h.2⟩
      | notN => exact ⟨h.1, hh _ h.2⟩
    exact q _ _ _ _ (fun b hb => ⟨b, rfl, hb⟩) m2
  · obtain ⟨c, rfl, mc'⟩ := pz
    have st3 := st2.go a3.ev (st2.all ok a3)
    have re3 := re2.go st2 a3.ev
    have e3 : Ev p _ H c2' H3 := e1.trans (e2.trans a3.ev)
    cases r3
    refine ⟨c, rfl, ?_⟩
    cases c with
    | true =>
      refine hc B H3 σ E _ _ _ st3 re3 mc' fun d4 c4' v4 H4 m4 e4 s4 r4 => ?_
      have st4 := st3.go e4 s4
      refine hr' _ _ _ _ ⟨_, d2, d4, _, P, p.XP, st4.trk, (r2.tr (st2.up a3.ev)).tr (st3.up e4), r4, m4, fun z v5 H5 pz a5 r5 => ?_⟩
      exact k z _ v5 H5 pz (e3.trans (e4.trans a5.ev)) (st4.all ok a5) r5
    | false => exact k _ _ _ H3 mc' e3 st3.si (.bl false)
theorem pd_chain {cb vb : Bool} (S : SitB cb vb X p k) (o o' : Cmp) {a b c : Expr} {ma mb mc : XE} {pos : Pos} (ha : PD X p a ma) (hb : PD X p b mb) (hc : PD X p c mc) : PD X p (.Compare a [cmpS o, cmpS o'] [b, c] pos) (eChain o o' ma mb mc) := by
  obtain ⟨ta, a1, a2⟩ := ha.ex
  obtain ⟨tb, b1, b2⟩ := hb.ex
  obtain ⟨tc, c1, c2⟩ := hc.ex
  exact ⟨_, pe_chain (op_cmpD S.un o) (op_cmpD S.un o') a1 b1 c1 (cmpS_mark o' c), ev_chain S.ok (fun _ _ _ _ h => h) (fun _ _ _ _ h => h) a2 b2 c2⟩
theorem pt_chainD {cb vb : Bool} (S : SitB cb vb X p k) (o o' : Cmp) {a b c : Expr} {ma mb mc : XE} {pos : Pos} (ha : PD X p a ma) (hb : PD X p b mb) (hc : PD X p c mc) : PDT X p (.Compare a [cmpS o, cmpS o'] [b, c] pos) (tBool (eChain o o' ma mb mc)) := by
  obtain ⟨ta, a1, a2⟩ := ha.ex
  obtain ⟨tb, b1, b2⟩ := hb.ex
  obtain ⟨tc, c1, c2⟩ := hc.ex
  exact ⟨_, pt_chain (op_cmpD S.un o) (op_cmpD S.un o') a1 b1 c1 (cmpS_mark o' c), et_bool (ev_chain S.ok (fun _ _ _ _ h => h) (fun _ _ _ _ h => h) a2 b2 c2)⟩
end
end DL
end
section
namespace DL
open PySem PySem.Spec PyProof.Rows L2
section
variable {X : Cx} {p : Par} {k : Nat} {K : PySem.W.Frag}
theorem isEmpty_reps {B : Addr → Prop} {H : Hp} {vs : List V} {ds : List D} (r : Reps K B H vs ds) : (!vs.isEmpty) = !ds.isEmpty := by
  cases r <;> rfl
theorem tru_of {B : Addr → Prop} {H : Hp} {v : V} {d : D} {n : Sx} {P : Bool → Sx → Prop} {Xp : Exn → Sx → Prop} (r : Rep K B H v d) (m : tru d n P Xp) : ∃ c, TruV K v H c ∧ P c n := by
  cases r with
  | non => exact ⟨false, rfl, m⟩
  | bl b => exact ⟨b, rfl, m⟩
  | int i => exact ⟨_, rfl, m⟩
  | str x => exact ⟨_, ⟨small_line m.1, rfl⟩, m.2⟩
  | lst e n s => exact ⟨_, Or.inl ⟨_, SqL.of e, rfl⟩, by rw [isEmpty_reps s]; exact m⟩
  | tup e s => exact ⟨_, Or.inr (Or.inl ⟨_, e, rfl⟩), by rw [isEmpty_reps s]; exact m⟩
  | _ => exact (show False from m).elim
theorem pt_tru {a : Expr} {ma : XE} (ha : PD X p a ma) (he : ∀ whole, isTrue a X.env whole = (do let v ← whole; standAt a.pos; holding [v] (truthy v)) := by intro _; rfl) : PDT X p a (tTru ma) := by
  obtain ⟨ta, a1, a2⟩ := ha.ex
  refine ⟨_, pt_truth a1 he, fun B H σ E c P Q s re m k => ?_⟩
  refine a2 B H σ E _ _ _ s re m fun d c1 v H1 m1 e1 s1 r1 => ?_
  obtain ⟨c, h1, h2⟩ := tru_of r1 m1
  exact ⟨c, h1, k c _ H1 h2 e1 s1⟩
theorem pt_notD {a : Expr} {t : XT} {pos : Pos} (ha : PDT X p a t) : PDT X p (.UnaryOp .Not a pos) (tNot t) := by
  obtain ⟨ta, a1, a2⟩ := ha.ex
  exact ⟨_, pt_not a1, fun B H σ E c P Q s re m k => a2 B H σ E _ _ _ s re m fun b c1 H1 m1 e1 s1 => k _ _ H1 m1 e1 s1⟩
theorem pd_not {a : Expr} {m : XE} {pos : Pos} (ha : PD X p a m) : PD X p (.UnaryOp .Not a pos) (eNot m) := by
  obtain ⟨ta, a1, a2⟩ := ha.ex
  refine ⟨_, pe_notT a1, fun B H σ E c P Q s re m k => ?_⟩
  refine a2 B H σ E _ _ _ s re m fun d c1 v H1 m1 e1 s1 r1 => ?_
  obtain ⟨c, h1, h2⟩ := tru_of r1 m1
  exact ⟨c, h1, k _ _ _ H1 h2 e1 s1 (.bl _)⟩
theorem et_and {t u : TT} {mt mu : XT} (h1 : EvT K p t mt) (h2 : EvT K p u mu) : EvT K p (L2.tAnd t u) (tAnd mt mu) := by
  intro B H σ E c P Q s re m k
  refine h1 B H σ E _ _ _ s re m fun b c1 H1 m1 e1 s1 => ?_
  cases b with
  | true => exact h2 B H1 σ E _ _ _ (s.go e1 s1) (re.go s e1) m1 fun b2 c2' H2 m2 e2 s2 => k b2 _ H2 m2 (e1.trans e2) s2
  | false => exact k false _ H1 m1 e1 s1
theorem et_or {t u : TT} {mt mu : XT} (h1 : EvT K p t mt) (h2 : EvT K p u mu) : EvT K p (L2.tOr t u) (tOr mt mu) := by
  intro B H σ E c P Q s re m k
  refine h1 B H σ E _ _ _ s re m fun b c1 H1 m1 e1 s1 => ?_
  cases b with
  | false => exact h2 B H1 σ E _ _ _ (s.go e1 s1) (re.go s e1) m1 fun b2 c2' H2 m2 e2 s2 => k b2 _ H2 m2 (e1.trans e2) s2
  | true => exact k true _ H1 m1 e1 s1
theorem pw_and1D {a : Expr} {t : XT} {pos : Pos} (ha : PDT X p a t) : PDW X p (.BoolOp .And [a] pos) t := by
  obtain ⟨ta, a1, a2⟩ := ha.ex
  exact ⟨_, pw_and1 a1, a2⟩
theorem pw_or1D {a : Expr} {t : XT} {pos : Pos} (ha : PDT X p a t) : PDW X p (.BoolOp .Or [a] pos) t := by
  obtain ⟨ta, a1, a2⟩ := ha.ex
  exact ⟨_, pw_or1 a1, a2⟩
theorem pw_andD {a b : Expr} {rest : List Expr} {t u : XT} {pos : Pos} (ha : PDT X p a t) (hb : PDW X p (.BoolOp .And (b :: rest) pos) u) : PDW X p (.BoolOp .And (a :: b :: rest) pos) (tAnd t u) := by
  obtain ⟨ta, a1, a2⟩ := ha.ex
  obtain ⟨tb, b1, b2⟩ := hb.ex
  exact ⟨_, pw_and a1 b1, et_and a2 b2⟩
theorem pw_orD {a b : Expr} {rest : List Expr} {t u : XT} {pos : Pos} (ha : PDT X p a t) (hb : PDW X p (.BoolOp .Or (b :: rest) pos) u) : PDW X p (.BoolOp .Or (a :: b :: rest) pos) (tOr t u) := by
  obtain ⟨ta, a1, a2⟩ := ha.ex
  obtain ⟨tb, b1, b2⟩ := hb.ex
  exact ⟨_, pw_or a1 b1, et_or a2 b2⟩
theorem PDW.pt {e : Expr} {t : XT} (h : PDW X p e t) : PDT X p e t := by
  obtain ⟨ta, a1, a2⟩ := h.ex
  exact ⟨_, a1.pt, a2⟩
theorem pd_one {op} {a : Expr} {m : XE} {pos : Pos} (ha : PD X p a m) : PD X p (.BoolOp op [a] pos) m := by
  obtain ⟨ta, a1, a2⟩ := ha.ex
  exact ⟨_, pe_one a1, a2⟩
theorem pd_and {a b : Expr} {rest : List Expr} {ma mb : XE} {pos : Pos} (ha : PD X p a ma) (hb : PD X p (.BoolOp .And (b :: rest) pos) mb) : PD X p (.BoolOp .And (a :: b :: rest) pos) (eAnd ma mb) := by
  obtain ⟨ta, a1, a2⟩ := ha.ex
  obtain ⟨tb, b1, b2⟩ := hb.ex
  refine ⟨_, pe_andT a1 b1, fun B H σ E c P Q s re m k => ?_⟩
  refine a2 B H σ E _ _ _ s re m fun d c1 v H1 m1 e1 s1 r1 => ?_
  obtain ⟨c, h1, h2⟩ := tru_of r1 m1
  refine ⟨c, h1, ?_⟩
  cases c with
  | true => exact b2 B H1 σ E _ _ _ (s.go e1 s1) (re.go s e1) h2 fun d2 c2' v2 H2 m2 e2 s2 r2 => k d2 _ v2 H2 m2 (e1.trans e2) s2 r2
  | false => exact k d _ v H1 h2 e1 s1 r1
theorem pd_if {c a b : Expr} {t : XT} {ma mb : XE} {pos : Pos} (hc : PDT X p c t) (ha : PD X p a ma) (hb : PD X p b mb) : PD X p (.IfExp c a b pos) (eIf t ma mb) := by
  obtain ⟨tc, c1, c2⟩ := hc.ex
  obtain ⟨ta, a1, a2⟩ := ha.ex
  obtain ⟨tb, b1, b2⟩ := hb.ex
  refine ⟨_, pe_ifExp c1 a1 b1, fun B H σ E c P Q s re m k => ?_⟩
  refine c2 B H σ E _ _ _ s re m fun b c1 H1 m1 e1 s1 => ?_
  cases b with
  | true => exact a2 B H1 σ E _ _ _ (s.go e1 s1) (re.go s e1) m1 fun d2 c2' v2 H2 m2 e2 s2 r2 => k d2 _ v2 H2 m2 (e1.trans e2) s2 r2
  | false => exact b2 B H1 σ E _ _ _ (s.go e1 s1) (re.go s e1) m1 fun d2 c2' v2 H2 m2 e2 s2 r2 => k d2 _ v2 H2 m2 (e1.trans e2) s2 r2
theorem pda_nil : PDA X p [] aNil := ⟨_, pa_nil, fun B H σ E c P Q s re m k => k [] _ [] H m Ev.refl s.si .nil⟩
theorem pda_cons {e : Expr} {es : List Expr} {m : XE} {r : XA} (he : PD X p e m) (hr : PDA X p es r) (hs : starEach (e :: es) X.env = (false, eval e X.env) :: starEach es X.env := by rfl) : PDA X p (e :: es) (aCons m r) := by
  obtain ⟨ta, a1, a2⟩ := he.ex
  obtain ⟨tb, b1, b2⟩ := hr.ex
  refine ⟨_, pa_cons a1 b1 hs, fun B H σ E c P Q s re m k => ?_⟩
  refine a2 B H σ E _ _ _ s re m fun d c1 v H1 m1 e1 s1 r1 => ?_
  refine b2 B H1 σ E _ _ _ (s.go e1 s1) (re.go s e1) m1 fun ds c2' vs H2 m2 e2 s2 r2 => ?_
  exact k _ _ _ H2 m2 (e1.trans e2) s2 (.cons (r1.tr ((s.go e1 s1).up e2)) r2)
theorem pd_tup {cb : Bool} {vb : Bool} (S : SitB cb vb X p k) {es : List Expr} {x1} {pos : Pos} {m : XA} (h : PDA X p es m) : PD X p (.Tuple es x1 pos) (eTup m) := by
  obtain ⟨ta, a1, a2⟩ := h.ex
  refine ⟨_, pe_tup a1, fun B H σ E c P Q s re m k => ?_⟩
  refine a2 B H σ E _ _ _ s re m fun ds c1 vs H1 m1 e1 s1 r1 => ?_
  have st1 := s.go e1 s1
  refine ⟨by rw [r1.length]; exact small_line m1.1, fun q hq => ?_⟩
  exact k _ _ _ _ m1.2 (e1.trans (All.new hq).ev) (st1.all S.ok (All.new hq)) (rep_tup hq r1)
theorem pd_lst {cb : Bool} {vb : Bool} (S : SitB cb vb X p k) {es : List Expr} {pos : Pos} {m : XA} (h : PDA X p es m) : PD X p (.List es pos) (eLst m) := by
  obtain ⟨ta, a1, a2⟩ := h.ex
  refine ⟨_, pe_lst a1, fun B H σ E c P Q s re m k => ?_⟩
  refine a2 B H σ E _ _ _ s re m fun ds c1 vs H1 m1 e1 s1 r1 => ?_
  have st1 := s.go e1 s1
  refine ⟨by rw [r1.length]; exact small_line m1.1, fun q hq => ?_⟩
  exact k _ _ _ _ m1.2 (e1.trans (All.new hq).ev) (st1.all S.ok (All.new hq)) (rep_lst st1.trk hq r1)
theorem pd_call1 {cb : Bool} {vb : Bool} (S : SitB cb vb X p k) {x : Str} {id : String} {f : D → W D} {a : Expr} {m : XE} {pn pos : Pos} (hc : CallR X (.builtin id) (rC1 X.K f)) (hm : X.mg x = none) (ha : PD X p a m) (hg : Gl X x := by rfl) (hv : bootBuiltins x = some (.builtin id) := by decide +kernel)
    (hn : x ≠ "__name__" := by decide) (hdb : (x == ("__debug__" : Str)) = false := by decide) (hs : starEach [a] X.env = (false, eval a X.env) :: starEach [] X.env := by rfl) : PD X p (.Call (.Name x pn) [a] [] pos) (fun E => bnd (m E) f) := by
  obtain ⟨ta, a1, a2⟩ := ha.ex
  refine ⟨_, pe_callB hc hg hm hv (pa_cons a1 pa_nil hs) hn hdb hs (by rfl), fun B H σ E c P Q s re m k => ?_⟩
  refine a2 B H σ E _ _ _ s re m fun d c1 v H1 m1 e1 s1 r1 => ?_
  have st1 := s.go e1 s1
  exact ⟨v, rfl, _, d, _, P, p.XP, st1.trk, r1, m1, fun z v3 H3 pz a3 r3 => k z _ v3 H3 pz (e1.trans a3.ev) (st1.all S.ok a3) r3⟩
theorem pd_callT1 {cb : Bool} {vb : Bool} (S : SitB cb vb X p k) {x : Str} {id : String} {f : D → W D} {a : Expr} {m : XE} {pn pos : Pos} (hc : CallR X (.type id) (rC1 X.K f)) (hm : X.mg x = none) (ha : PD X p a m) (hg : Gl X x := by rfl) (hv : bootBuiltins x = some (.type id) := by decide +kernel)
    (hn : x ≠ "__name__" := by decide) (hdb : (x == ("__debug__" : Str)) = false := by decide) (hs : starEach [a] X.env = (false, eval a X.env) :: starEach [] X.env := by rfl) : PD X p (.Call (.Name x pn) [a] [] pos) (fun E => bnd (m E) f) := by
  obtain ⟨ta, a1, a2⟩ := ha.ex
  refine ⟨_, pe_callTy hc hg hm hv (pa_cons a1 pa_nil hs) hn hdb hs (by rfl), fun B H σ E c P Q s re m k => ?_⟩
  refine a2 B H σ E _ _ _ s re m fun d c1 v H1 m1 e1 s1 r1 => ?_
  have st1 := s.go e1 s1
  exact ⟨v, rfl, _, d, _, P, p.XP, st1.trk, r1, m1, fun z v3 H3 pz a3 r3 => k z _ v3 H3 pz (e1.trans a3.ev) (st1.all S.ok a3) r3⟩
theorem pd_call2 {cb : Bool} {vb : Bool} (S : SitB cb vb X p k) {x : Str} {id : String} {f : D → D → W D} {a b : Expr} {m n : XE} {pn pos : Pos} (hc : CallR X (.builtin id) (rC2 X.K f)) (hm : X.mg x = none) (ha : PD X p a m) (hb : PD X p b n) (hg : Gl X x := by rfl) (hv : bootBuiltins x = some (.builtin id) := by decide +kernel)
    (hn : x ≠ "__name__" := by decide) (hdb : (x == ("__debug__" : Str)) = false := by decide) (hs : starEach [a, b] X.env = (false, eval a X.env) :: starEach [b] X.env := by rfl) (hs2 : starEach [b] X.env = (false, eval b X.env) :: starEach [] X.env := by rfl) (hpl : (backTo pos (starEach [b] X.env)).any (·.1) = false := by rfl) :
    PD X p (.Call (.Name x pn) [a, b] [] pos) (fun E => bnd (m E) fun x => bnd (n E) fun y => f x y) := by
  obtain ⟨ta, a1, a2⟩ := ha.ex
  obtain ⟨tb, b1, b2⟩ := hb.ex
  refine ⟨_, pe_callB hc hg hm hv (pa_cons a1 (pa_cons b1 pa_nil hs2) hs) hn hdb hs hpl, fun B H σ E c P Q s re m k => ?_⟩
  refine a2 B H σ E _ _ _ s re m fun d c1 v H1 m1 e1 s1 r1 => ?_
  have st1 := s.go e1 s1
  refine b2 B H1 σ E _ _ _ st1 (re.go s e1) m1 fun d2 c2' v2 H2 m2 e2 s2 r2 => ?_
  have st2 := st1.go e2 s2
  exact ⟨v, v2, rfl, _, d, d2, _, P, p.XP, st2.trk, r1.tr (st1.up e2), r2, m2, fun z v3 H3 pz a3 r3 => k z _ v3 H3 pz (e1.trans (e2.trans a3.ev)) (st2.all S.ok a3) r3⟩
theorem c_len : CallR X (.builtin "len") (rC1 X.K (bi1 .len)) := by
  intro pins s σ H xs us Q I r h
  obtain ⟨x, rfl, B, d, c, P, Xp, hb, r1, m, k⟩ := h
  cases r1 with
  | lst e n t =>
    refine call_len_seq pins s σ H _ us Q I r ⟨_, _, rfl, .inl (SqL.of e), ?_⟩
    rw [t.length]
    exact k _ _ H m All.refl (.int _)
  | tup e t =>
    refine call_len_seq pins s σ H _ us Q I r ⟨_, _, rfl, .inr e, ?_⟩
    rw [t.length]
    exact k _ _ H m All.refl (.int _)
  | str x => exact call_len_str pins s σ H _ us Q I r ⟨x, rfl, small_line m.1, k _ _ H m.2 All.refl (.int _)⟩
  | _ => exact m.elim
theorem c_abs : CallR X (.builtin "abs") (rC1 X.K (bi1 .abs)) := by
  intro pins s σ H xs us Q I r h
  obtain ⟨x, rfl, B, d, c, P, Xp, hb, r1, m, k⟩ := h
  cases r1 with
  | int i => exact call_abs pins s σ H _ us Q I r ⟨i, rfl, k _ _ H m All.refl (.int _)⟩
  | _ => exact m.elim
theorem c_min2 (hc : X.calm = true) : CallR X (.builtin "min") (rC2 X.K (bi2 .min)) := by
  intro pins s σ H xs us Q I r h
  obtain ⟨x, y, rfl, B, d, e, c, P, Xp, hb, r1, r2, m, k⟩ := h
  cases r1 with
  | int i =>
    cases r2 with
    | int j => exact call_min2 hc pins s σ H _ us Q I r ⟨i, j, rfl, k _ _ H m All.refl (.int _)⟩
    | _ => exact m.elim
  | _ => cases r2 <;> exact m.elim
theorem depth_ints : ∀ ns : List Int, PyData.depthAll (ns.map PyData.int) = 0
  | [] => by simp [PyData.depthAll]
  | a :: r => by simp [PyData.depthAll, PyData.depth, depth_ints r]
theorem sm_none {pins : List (Addr × Obj)} {σ : L2.St} {H : Hp} {s : Shared} (sm : HasSm X.base) (I : Inv X pins σ H s) : H sysModules = none := by
  obtain ⟨o, e⟩ := sm
  exact (I.bs _ _ e).2
section
variable {pins : List (Addr × Obj)} {σ : L2.St} {H : Hp} {s : Shared}
mutual
theorem rep_reads {B : Addr → Prop} (I : Inv X pins σ H s) (hn : H sysModules = none) : ∀ {v : V} {d : D} {u : Value}, plain d = true → Rep X.K B H v d → RelV v u → ∃ as, Reads s.heap u d as ∧ sysModules ∉ as
  | _, _, _, _, .non, r => by cases r; exact ⟨_, .none, by simp⟩
  | _, _, _, _, .bl b, r => by cases r; exact ⟨_, .bool b, by simp⟩
  | _, _, _, _, .int i, r => by obtain ⟨t, rfl⟩ := r; exact ⟨_, .int i t, by simp⟩
  | _, _, _, _, .str x, r => by obtain ⟨t, rfl⟩ := r; exact ⟨_, .str x t, by simp⟩
  | _, _, _, h, .lst (a := a) e n q, r => by
    cases r
    obtain ⟨its, rv, ⟨o, n, ho, hc, _, hd⟩, _⟩ := I.list (SqL.of e)
    obtain ⟨as, hr, hs⟩ := reps_reads I hn (by simpa [plain] using h) q rv
    refine ⟨_, .list ho hc hd hr, fun z => ?_⟩
    rcases List.mem_cons.mp z with z | z
    · subst z
      rw [hn] at e
      cases e
    · exact hs z
  | _, _, _, h, .tup e q, r => by
    cases r
    obtain ⟨its, rv, ⟨o, ho, hc, n, hd⟩, _⟩ := I.tuple e
    obtain ⟨as, hr, hs⟩ := reps_reads I hn (by simpa [plain] using h) q rv
    exact ⟨_, .tuple ho hc hd hr, hs⟩
  | _, _, _, _, .dct0 (a := a) e _, r => by
    cases r
    obtain ⟨_, sm, vs, kv, o, es, ep, ho, ex, hd, _, pr, _⟩ := dk_of I.hok e
    cases kv
    have h0 : es.toList = [] := by cases pr' : es.toList with | nil => rfl | cons a b => rw [pr'] at pr; cases pr
    refine ⟨_, .dict (as := []) (bs := []) ho ex.1 hd (by rw [h0]; exact .nil) (by rw [h0]; exact .nil), fun z => ?_⟩
    have : sysModules = a := by simpa using z
    rw [← this] at sm
    simp at sm
  | .ref a, .dict [(.str x, _)], _, h, .dct1 e _ q, r => by
    cases r
    obtain ⟨_, sm, vs, kv, o, es, ep, ho, ex, hd, _, pr, _⟩ := dk_of I.hok e
    cases kv with
    | @cons _ kk _ vs' hk hr =>
      cases hr
      obtain ⟨hk1, hk2⟩ := hk
      obtain ⟨as, hr, hs⟩ := rep_reads I hn (by simpa [plain] using h) q hk2
      cases pr' : es.toList with
      | nil => rw [pr'] at pr; cases pr
      | cons en rest =>
        rw [pr'] at pr
        cases pr with
        | cons p1 p2 p3 =>
          cases p3
          have hk : keyIs (.inr x) en.key = true := by
            have e2 : (Sum.inr x : Key) = kk.1 := hk1
            rw [e2]; exact p1
          have hkey : ∃ t, en.key = .str x t := by
            rcases keyIs_shape hk with ⟨i, t, z, _⟩ | ⟨y, t, z, ek⟩
            · cases z
            · cases z; exact ⟨t, ek⟩
          obtain ⟨t, ek⟩ := hkey
          refine ⟨_, .dict (as := [] ++ []) (bs := as ++ []) ho ex.1 hd (by rw [pr']; simp only [List.map_cons, List.map_nil, ek]; exact .cons (.str x t) .nil) (by rw [pr']; simp only [List.map_cons, List.map_nil, p2]; exact .cons hr .nil), fun z => ?_⟩
          simp only [List.append_nil, List.cons_append, List.nil_append, List.mem_cons] at z
          rcases z with z | z
          · rw [← z] at sm
            simp at sm
          · exact hs z
  | _, _, _, h, .exn0 _ _ _, _ => by simp [plain, xD] at h
  | _, _, _, h, .exn1 _ _ _ _ _ _, _ => by simp [plain, xD] at h
theorem reps_reads {B : Addr → Prop} (I : Inv X pins σ H s) (hn : H sysModules = none) : ∀ {vs : List V} {ds : List D} {us : List Value}, plainAll ds = true → Reps X.K B H vs ds → Vals vs us → ∃ as, ReadsAll s.heap us ds as ∧ sysModules ∉ as
  | _, _, _, _, .nil, r => by cases r; exact ⟨_, .nil, by simp⟩
  | _, _, _, h, .cons q t, r => by
    cases r with
    | cons r1 r2 =>
      simp only [plainAll, Bool.and_eq_true] at h
      obtain ⟨as, a1, a2⟩ := rep_reads I hn h.1 q r1
      obtain ⟨bs, b1, b2⟩ := reps_reads I hn h.2 t r2
      exact ⟨_, .cons a1 b1, by simp [a2, b2]⟩
end
end
theorem c_repr {cb vb : Bool} (S : SitB cb vb X p k) : CallR X (.builtin "repr") (rC1 X.K (bi1 .repr)) := by
  intro pins s σ H xs us Q I r h
  obtain ⟨x, rfl, B, d, c, P, Xp, hb, r1, ⟨⟨hs, hd, hz, hpl⟩, m⟩, kk⟩ := h
  obtain ⟨u, rfl, ru⟩ := vals1 r
  obtain ⟨as, rd, hsm⟩ := rep_reads I (sm_none S.sm I) hpl r1 ru
  have hz' : d.shown.length ≤ sizeLine := small_line hz
  have fin : ∀ (h' : Heap) (t tk : Nat), (∀ b o, s.heap.get? b = some o → h'.get? b = some o) → EP X pins σ Q (.str d.shown t) { s with heap := h', toks := tk } := fun h' t tk hk =>
    ⟨.str d.shown, H, I.kept hk, ⟨_, rfl⟩, kk _ _ H m All.refl (.str _)⟩
  cases rd with
  | none => exact PySem.P.repr_of_none (by simpa [PyData.shown] using fin s.heap s.toks (s.toks + 1) fun _ _ e => e)
  | bool b => exact PySem.P.repr_of_bool (by simpa [PyData.shown] using fin s.heap s.toks (s.toks + 1) fun _ _ e => e)
  | int i t => exact PySem.P.repr_of_int (by simpa [PyData.showable] using hs) (by simpa [PyData.shown] using fin s.heap s.toks (s.toks + 1) fun _ _ e => e)
  | str x t => exact PySem.P.repr_of_str (by simpa [PyData.shown] using fin s.heap s.toks (s.toks + 1) fun _ _ e => e) (by simpa [PyData.shown] using hz')
  | list h1 h2 h3 h4 => exact repr_of_reads' (.list h1 h2 h3 h4) hs (fun _ => hsm) S.gd (by have := S.un; omega) (fun _ _ e => e) (fun h' t tk hk => fin h' t tk hk) hz'
  | tuple h1 h2 h3 h4 => exact repr_of_reads' (.tuple h1 h2 h3 h4) hs (fun _ => hsm) S.gd (by have := S.un; omega) (fun _ _ e => e) (fun h' t tk hk => fin h' t tk hk) hz'
  | dict h1 h2 h3 h4 h5 => exact repr_of_reads' (.dict h1 h2 h3 h4 h5) hs (fun _ => hsm) S.gd (by have := S.un; omega) (fun _ _ e => e) (fun h' t tk hk => fin h' t tk hk) hz'
theorem c_str : CallR X (.type "str") (rC1 X.K (bi1 .str)) := by
  intro pins s σ H xs us Q I r h
  obtain ⟨x, rfl, B, d, c, P, Xp, hb, r1, m, k⟩ := h
  cases r1 with
  | int i => exact call_str_int pins s σ H _ us Q I r ⟨i, rfl, m.1, k _ _ H m.2 All.refl (.str _)⟩
  | str x =>
    obtain ⟨u, rfl, t, rfl⟩ := vals1 r
    exact PySem.P.str_of_str ⟨.str x, H, I, ⟨t, rfl⟩, k _ _ H m All.refl (.str _)⟩
  | bl b =>
    obtain ⟨u, rfl, ru⟩ := vals1 r
    cases ru
    exact PySem.P.str_of_bool ⟨.str (if b = true then "True" else "False" : String), H, I.tok _, ⟨_, by cases b <;> rfl⟩, k _ _ H m All.refl (.str _)⟩
  | _ => exact m.elim
theorem c_int : CallR X (.type "int") (rC1 X.K (bi1 .int)) := by
  intro pins s σ H xs us Q I r h
  obtain ⟨x, rfl, B, d, c, P, Xp, hb, r1, m, k⟩ := h
  cases r1 with
  | int i => exact call_int1 pins s σ H _ us Q I r (.inl ⟨i, rfl, k _ _ H m All.refl (.int _)⟩)
  | bl b => exact call_int1 pins s σ H _ us Q I r (.inr ⟨b, rfl, k _ _ H m All.refl (.int _)⟩)
  | _ => exact m.elim
theorem c_tuple : CallR X (.type "tuple") (rC1 X.K (bi1 .tuple)) := by
  intro pins s σ H xs us Q I r h
  obtain ⟨x, rfl, B, d, c, P, Xp, hb, r1, m, k⟩ := h
  cases r1 with
  | lst e n t => exact call_tuple_of pins s σ H _ us Q I r ⟨_, _, rfl, .inl ⟨SqL.of e, fun q hq => k _ _ _ m (All.new hq) (rep_tup hq t)⟩⟩
  | tup e t => exact call_tuple_of pins s σ H _ us Q I r ⟨_, _, rfl, .inr ⟨e, k _ _ H m All.refl (.tup e t)⟩⟩
  | _ => exact m.elim
def tyS : Ty → String
  | .int => "int"
  | .bool => "bool"
  | .tuple => "tuple"
  | .str => "str"
  | .list => "list"
  | .dict => "dict"
theorem sq_ty {H : Hp} {a : Addr} {xs : List V} (h : SqT K H a xs) : TyX K H (.ref a) (.type "tuple") := by
  rcases h with (h | ⟨o, h⟩) | ⟨o, its, n, h, hc, _⟩
  · exact .base (.tup h)
  · exact .fTuple h
  · exact .kTuple h hc
theorem ty_of {B : Addr → Prop} {H : Hp} {v : V} {d : D} (h : noXn d = true) (r : Rep K B H v d) : TyX K H v (.type (tyName d)) := by
  cases r with
  | non => exact .base .non
  | bl b => exact .base (.bl b)
  | int i => exact .base (.int i)
  | str x => exact .base (.str x)
  | lst e n t => exact .base (.lst e)
  | tup e t => exact sq_ty e
  | dct0 e _ => exact .base (.dK e)
  | dct1 e _ _ => exact .base (.dK e)
  | _ => exact absurd h (by simp [noXn, xD, wD, rD])
theorem kt_none : ∀ t : Ty, kitB "NoneType" (tyS t) = some (isTy t .none) := fun t => by cases t <;> decide +kernel
theorem kt_bool : ∀ t : Ty, kitB "bool" (tyS t) = some (isTy t (.bool true)) := fun t => by cases t <;> decide +kernel
theorem kt_int : ∀ t : Ty, kitB "int" (tyS t) = some (isTy t (.int 0)) := fun t => by cases t <;> decide +kernel
theorem kt_str : ∀ t : Ty, kitB "str" (tyS t) = some (isTy t (.str Str.empty)) := fun t => by cases t <;> decide +kernel
theorem kt_list : ∀ t : Ty, kitB "list" (tyS t) = some (isTy t (.list [])) := fun t => by cases t <;> decide +kernel
theorem kt_tuple : ∀ t : Ty, kitB "tuple" (tyS t) = some (isTy t (.tuple [])) := fun t => by cases t <;> decide +kernel
theorem kt_dict : ∀ t : Ty, kitB "dict" (tyS t) = some (isTy t (.dict [])) := fun t => by cases t <;> decide +kernel
theorem kit_isTy (t : Ty) (d : D) : kitB (tyName d) (tyS t) = some (isTy t d) := by
  cases d with
  | none => exact kt_none t
  | bool b => exact (kt_bool t).trans (by cases t <;> rfl)
  | int b => exact (kt_int t).trans (by cases t <;> rfl)
  | str b => exact (kt_str t).trans (by cases t <;> rfl)
  | list b => exact (kt_list t).trans (by cases t <;> rfl)
  | tuple b => exact (kt_tuple t).trans (by cases t <;> rfl)
  | dict b => exact (kt_dict t).trans (by cases t <;> rfl)
theorem pd_is {cb : Bool} {vb : Bool} (S : SitB cb vb X p k) (t : Ty) {a : Expr} {m : XE} {pn pq pos : Pos} (ha : PD X p a m) (hm : X.mg "isinstance" = none) (hmt : X.mg (tyS t : Str) = none) (hg : Gl X "isinstance" := by rfl) (hgt : Gl X (tyS t : Str) := by rfl)
    (hs : starEach [a, .Name (tyS t : Str) pq] X.env = (false, eval a X.env) :: starEach [.Name (tyS t : Str) pq] X.env := by rfl)
    (hs2 : starEach [.Name (tyS t : Str) pq] X.env = (false, eval (.Name (tyS t : Str) pq) X.env) :: starEach [] X.env := by rfl) (hpl : (backTo pos (starEach [.Name (tyS t : Str) pq] X.env)).any (·.1) = false := by rfl) :
    PD X p (.Call (.Name "isinstance" pn) [a, .Name (tyS t : Str) pq] [] pos) (eIs t m) := by
  obtain ⟨ta, a1, a2⟩ := ha.ex
  have hv : bootBuiltins (tyS t : Str) = some (.type (tyS t)) := by cases t <;> decide +kernel
  have hn : (tyS t : Str) ≠ "__name__" := by cases t <;> decide
  have hdb : ((tyS t : Str) == ("__debug__" : Str)) = false := by cases t <;> decide
  have hT : PE X (.Name (tyS t : Str) pq) (tC (.ty (tyS t))) := pe_bltn hgt hmt hv rfl hn hdb
  refine ⟨_, pe_callB call_isi hg hm (by decide +kernel) (pa_cons a1 (pa_cons hT pa_nil hs2) hs) (by decide) (by decide) hs hpl, fun B H σ E c P Q s re m k => ?_⟩
  refine a2 B H σ E _ _ _ s re m fun d c1 v H1 m1 e1 s1 r1 => ?_
  exact ⟨v, .ty (tyS t), _, _, isTy t d, rfl, .ty _, ty_of m1.1 r1, kit_ty (kit_isTy t d), k _ _ _ H1 m1.2 e1 s1 (.bl _)⟩
theorem atI_rep {B : Addr → Prop} {H : Hp} {xs : List V} {ds : List D} (t : Reps K B H xs ds) {i : Int} {d : D} (h : atI ds i = some d) : ∃ v, atI xs i = some v ∧ Rep K B H v d := by
  unfold atI at h ⊢
  rw [t.length]
  cases e : ixN ds.length i with
  | none => rw [e] at h; cases h
  | some j =>
    rw [e] at h
    exact t.get h
theorem ix_D : IxR X (rD2 X.K opIdx) := by
  intro value slice pins s σ H x y v u Q I rx ry h hs
  obtain ⟨_, d, e, c, P, Xp, hb, r1, r2, m, k⟩ := h
  cases r1 with
  | @tup a xs ds q t =>
    cases r2 with
    | int i =>
      have m' : (match L2.atI ds i with | some d => ret d | none => stuck) c P Xp := m
      cases ea : atI ds i with
      | none => rw [ea] at m'; exact m'.elim
      | some z =>
        rw [ea] at m'
        obtain ⟨w, h1, h2⟩ := atI_rep t ea
        exact ix_tup value slice pins s σ H _ _ v u Q I rx ry ⟨a, xs, i, w, rfl, rfl, q, h1, k _ _ H m' All.refl h2⟩ hs
    | _ => exact m.elim
  | @lst a xs ds q n t =>
    cases r2 with
    | int i =>
      have m' : (match L2.atI ds i with | some d => ret d | none => stuck) c P Xp := m
      cases ea : atI ds i with
      | none => rw [ea] at m'; exact m'.elim
      | some z =>
        rw [ea] at m'
        obtain ⟨w, h1, h2⟩ := atI_rep t ea
        exact ix_list value slice pins s σ H _ _ v u Q I rx ry ⟨a, xs, i, w, rfl, rfl, SqL.of q, h1, k _ _ H m' All.refl h2⟩ hs
    | _ => exact m.elim
  | _ => exact m.elim
theorem pd_ix {cb : Bool} {vb : Bool} (S : SitB cb vb X p k) {a b : Expr} {ma mb : XE} {pos : Pos} (ha : PD X p a ma) (hb : PD X p b mb) (hs : PlainIx b := by exact fun _ _ => rfl) : PD X p (.Subscript a b pos) (eIdx ma mb) := by
  obtain ⟨ta, a1, a2⟩ := ha.ex
  obtain ⟨tb, b1, b2⟩ := hb.ex
  exact ⟨_, pe_ix ix_D a1 b1 hs, ev_bnd S.ok (fun _ _ _ _ h => h) a2 b2⟩
structure PDO (X : Cx) (p : Par) (e : Option Expr) (m : XO) : Prop where
  ex : ∃ t, PO X e t ∧ ∀ (B : Addr → Prop) (H : Hp) (σ : L2.St) (E : Env) (c : Sx) (P : Option Int → Sx → Prop) (Q : Option Int → Hp → Prop), St0 p c B H → EnvR X.K p c B H σ E → m E c P p.XP → (∀ o c' H', P o c' → Ev p c H c' H' → p.SI c' H' → Q o H') → t σ H Q
theorem pdo_none : PDO X p none oNone := ⟨_, po_none, fun B H σ E c P Q s re m k => k none _ H m Ev.refl s.si⟩
theorem pdo_some {a : Expr} {m : XE} (ha : PD X p a m) : PDO X p (some a) (oSome m) := by
  obtain ⟨ta, a1, a2⟩ := ha.ex
  refine ⟨_, po_some a1, fun B H σ E c P Q s re m k => ?_⟩
  refine a2 B H σ E _ _ _ s re m fun d c1 v H1 m1 e1 s1 r1 => ?_
  cases r1 with
  | int i => exact ⟨i, rfl, k _ _ H1 m1 e1 s1⟩
  | _ => exact m1.elim
theorem Reps.cut {B : Addr → Prop} {H : Hp} {xs : List V} {ds : List D} (t : Reps K B H xs ds) (lo hi : Option Int) : Reps K B H (cutV xs lo hi) (DL.cut ds lo hi) := by
  unfold cutV DL.cut
  rw [t.length]
  exact (t.drop _).take _
theorem cut_whole (ds : List D) (lo hi : Option Int) (h1 : HT.sIx ds.length 0 lo = 0) (h2 : HT.sIx ds.length ds.length hi = ds.length) : DL.cut ds lo hi = ds := by
  unfold DL.cut
  rw [h1, h2]
  simp
def rCut (K : PySem.W.Frag) : V → Option Int → Option Int → Hp → VK → Prop := fun x lo hi H Q => rD1 K (fun d => opCut d lo hi) x H Q
theorem sl_D : SlR X (rCut X.K) := by
  intro pins s σ H x v vl vu lo hi sl Q I rx hs pl pu h
  obtain ⟨_, d, c, P, Xp, hb, r1, m, k⟩ := h
  cases r1 with
  | @tup a xs ds q t =>
    refine sl_tupA pins s σ H _ v vl vu lo hi sl Q I rx hs pl pu ⟨a, xs, rfl, q, fun ⟨h1, h2⟩ => ?_, fun _ w hw => k _ _ _ m (All.new hw) (rep_tup hw (t.cut lo hi))⟩
    rw [t.length] at h1 h2
    refine k _ _ H m All.refl ?_
    rw [cut_whole ds lo hi h1 h2]
    exact .tup q t
  | @lst a xs ds q n t =>
    exact sl_list pins s σ H _ v vl vu lo hi sl Q I rx hs pl pu ⟨a, xs, rfl, SqL.of q, fun w hw => k _ _ _ m (All.new hw) (rep_lst hb hw (t.cut lo hi))⟩
  | str x => exact sl_str pins s σ H _ v vl vu lo hi sl Q I rx hs pl pu ⟨x, rfl, small_line m.1, k _ _ H m.2 All.refl (.str _)⟩
  | _ => exact m.elim
theorem pd_cut {cb : Bool} {vb : Bool} (S : SitB cb vb X p k) {e : Expr} {lo hi : Option Expr} {m : XE} {ml mh : XO} {p2 pos : Pos} (he : PD X p e m) (hl : PDO X p lo ml) (hh : PDO X p hi mh) : PD X p (.Subscript e (.Slice lo hi none p2) pos) (eCut m ml mh) := by
  obtain ⟨ta, a1, a2⟩ := he.ex
  obtain ⟨tl, l1, l2⟩ := hl.ex
  obtain ⟨th, h1, h2⟩ := hh.ex
  refine ⟨_, pe_slice sl_D a1 l1 h1, fun B H σ E c P Q s re m k => ?_⟩
  refine a2 B H σ E _ _ _ s re m fun d c1 v H1 m1 e1 s1 r1 => ?_
  have st1 := s.go e1 s1
  refine l2 B H1 σ E _ _ _ st1 (re.go s e1) m1 fun o1 c2' H2 m2 e2 s2 => ?_
  have st2 := st1.go e2 s2
  refine h2 B H2 σ E _ _ _ st2 ((re.go s e1).go st1 e2) m2 fun o2 c3' H3 m3 e3 s3 => ?_
  have st3 := st2.go e3 s3
  exact ⟨_, d, _, P, p.XP, st3.trk, (r1.tr (st1.up e2)).tr (st2.up e3), m3, fun z v3 H4 pz a3 r3 => k z _ v3 H4 pz (e1.trans (e2.trans (e3.trans a3.ev))) (st3.all S.ok a3) r3⟩
end
end DL
end
section
namespace DL
open PySem PySem.Spec PyProof.Rows L2
section
variable {K : PySem.W.Frag} {p : Par} {B B' : Addr → Prop} {H H' : Hp} {σ : L2.St} {E : Env} {n : Sx}
theorem getElem?_set_cases {α : Type} {l : List α} {i j : Nat} {a b : α} (h : (l.set i a)[j]? = some b) : (i = j ∧ j < l.length ∧ a = b) ∨ (i ≠ j ∧ l[j]? = some b) := by
  by_cases e : i = j
  · subst e
    by_cases hl : i < l.length
    · rw [List.getElem?_set_self hl] at h
      exact .inl ⟨rfl, hl, Option.some.inj h⟩
    · rw [List.getElem?_eq_none (by rw [List.length_set]; omega)] at h
      cases h
  · rw [List.getElem?_set_ne e] at h
    exact .inr ⟨e, h⟩
theorem EnvR.put (r : EnvR K p n B H σ E) (hf : p.fx = none) (i : Nat) {s : Option V} {e : Ent} (h : Slot K p n B H s e) (no : ∀ ds, e ≠ .own ds) : EnvR K p n B H (σ.set i s) (E.set i e) := by
  refine ⟨by rw [List.length_set, List.length_set]; exact r.len, fun j e' q => ?_, fun a b x xs ys h1 h2 h3 h4 => ?_, .no hf, fun j a xs hp hj => ?_⟩
  · rcases getElem?_set_cases q with ⟨rfl, hl, rfl⟩ | ⟨ne, q⟩
    · exact ⟨s, List.getElem?_set_self (by rw [r.len]; exact hl), h⟩
    · rw [List.getElem?_set_ne ne]
      exact r.at_ j e' q
  · rcases getElem?_set_cases h1 with ⟨_, _, z⟩ | ⟨n1, h1⟩
    · exact absurd z (no xs)
    · rcases getElem?_set_cases h2 with ⟨_, _, z⟩ | ⟨n2, h2⟩
      · exact absurd z (no ys)
      · rw [List.getElem?_set_ne n1] at h3
        rw [List.getElem?_set_ne n2] at h4
        exact r.nd a b x xs ys h1 h2 h3 h4
  · rcases getElem?_set_cases hj with ⟨_, _, z⟩ | ⟨n1, hj⟩
    · exact absurd z (no xs)
    · rw [List.getElem?_set_ne n1]
      exact r.pn j a xs hp hj
theorem EnvR.unk (r : EnvR K p n B H σ E) (hf : p.fx = none) (i : Nat) (s : Option V) : EnvR K p n B H (σ.set i s) (E.set i .unk) := r.put hf i (.unk s) fun _ z => nomatch z
theorem EnvR.val (r : EnvR K p n B H σ E) (hf : p.fx = none) (i : Nat) {v : V} {d : D} (h : Rep K (bm p B n) H v d) : EnvR K p n B H (σ.set i (some v)) (E.set i (.val d)) := r.put hf i (.val h) fun _ z => nomatch z
theorem EnvR.wipe (r : EnvR K p n B H σ E) (hf : p.fx = none) : ∀ vs : List Nat, EnvR K p n B H (L2.wipe σ vs) (wipeE E vs)
  | [] => r
  | v :: vs => (r.wipe hf vs).unk hf v none
/-- other places -/
theorem Slot.grow (h : ∀ a, B' a → H a ≠ none → B a) (k : ∀ a, B a → B' a) {x : Option V} {y : Ent} (s : Slot K p n B H x y) : Slot K p n B' H x y := by
  cases s with
  | unk _ => exact .unk _
  | val r => exact .val (r.grow fun a z q => z.imp (fun z => h a z q) id)
  | own b n nc h0 hl r => exact .own (k _ b) n nc h0 hl (r.grow fun a z q => z.imp (fun z => h a z q) id)
  | stm => exact .stm
  | scr q => exact .scr q
theorem EnvR.grow (r : EnvR K p n B H σ E) (hf : p.fx = none) (h : ∀ a, B' a → H a ≠ none → B a) (k : ∀ a, B a → B' a) : EnvR K p n B' H σ E :=
  ⟨r.len, fun i e q => let ⟨s, h1, h2⟩ := r.at_ i e q; ⟨s, h1, h2.grow h k⟩, r.nd, .no hf, r.pn⟩
/-- the own list at i is a value from here on: its place is no more of B -/
def less (B : Addr → Prop) (q : Addr) : Addr → Prop := fun a => B a ∧ a ≠ q
theorem EnvR.rel (r : EnvR K p n B H σ E) (hf : p.fx = none) (st : St0 p n B H) {i : Nat} {ds : List D} (h : E[i]? = some (.own ds)) :
    ∃ q, EnvR K p n (less B q) H σ (E.set i (.val (.list ds))) ∧ St0 p n (less B q) H ∧ ¬ p.B0 n q ∧ ¬ p.Bc q ∧ B q := by
  obtain ⟨s, h1, h2⟩ := r.at_ i _ h
  have ls : ∀ q a, bm p (less B q) n a → bm p B n a := fun q a z => z.imp (fun z => z.1) id
  cases h2 with
  | @own q xs _ b nb nc h0 hl rs =>
    refine ⟨q, ⟨by rw [List.length_set]; exact r.len, fun j e he => ?_, fun a b x xs ys g1 g2 g3 g4 => ?_, .no hf, fun j a xs hp hj => ?_⟩, ⟨fun a z => (st.subc a z).imp (fun b => ⟨b, fun e => nc (e ▸ z)⟩) id, fun a z => st.trk a (ls q a z), st.si, st.ext⟩, nb, nc, b⟩
    · rcases getElem?_set_cases he with ⟨rfl, _, rfl⟩ | ⟨ne, he⟩
      · exact ⟨_, h1, .val (.lst hl (fun z => z.elim (fun z => z.2 rfl) nb) (rs.less (ls q)))⟩
      · obtain ⟨s', g1, g2⟩ := r.at_ j e he
        refine ⟨s', g1, ?_⟩
        cases g2 with
        | unk _ => exact .unk _
        | val z => exact .val (z.less (ls q))
        | own b' n' nc' h0' hl' rs' => exact .own ⟨b', fun z => ne (r.nd i j q _ _ h he h1 (z ▸ g1))⟩ n' nc' h0' hl' (rs'.less (ls q))
        | stm => exact .stm
        | scr q => exact .scr q
    · rcases getElem?_set_cases g1 with ⟨_, _, z⟩ | ⟨n1, g1⟩
      · cases z
      · rcases getElem?_set_cases g2 with ⟨_, _, z⟩ | ⟨n2, g2⟩
        · cases z
        · exact r.nd a b x xs ys g1 g2 g3 g4
    · rcases getElem?_set_cases hj with ⟨_, _, z⟩ | ⟨n1, hj⟩
      · cases z
      · exact r.pn j a xs hp hj
/-- a new list is owned -/
def more (B : Addr → Prop) (q : Addr) : Addr → Prop := fun a => B a ∨ a = q
theorem EnvR.own (r : EnvR K p n B H σ E) (hp : ∀ i, p.pin i = none) (hf : p.fx = none) (st : St0 p n B H) (i : Nat) {q : Addr} {xs : List V} {ds : List D} (hq : H q = some (.lst xs)) (nb : ¬ B q) (nb0 : ¬ p.B0 n q) (h0 : p.H0 q = none) (fr : ∀ a, B a → a ≠ q) (rs : Reps K (bm p (more B q) n) H xs ds)
    (old : ∀ (j : Nat) (v : V) (d : D), E[j]? = some (.val d) → j ≠ i → σ[j]? = some (some v) → Rep K (bm p (more B q) n) H v d)
    (olo : ∀ (j : Nat) (a : Addr) (ys : List V) (es : List D), E[j]? = some (.own es) → σ[j]? = some (some (.ref a)) → H a = some (.lst ys) → Reps K (bm p (more B q) n) H ys es) :
    EnvR K p n (more B q) H (σ.set i (some (.ref q))) (E.set i (.own ds)) ∧ St0 p n (more B q) H := by
  refine ⟨⟨by rw [List.length_set, List.length_set]; exact r.len, fun j e he => ?_, fun a b x xs' ys g1 g2 g3 g4 => ?_, .no hf, fun j a xs h _ => by rw [hp j] at h; cases h⟩, ⟨fun a z => (st.subc a z).imp .inl id, fun a z => ?_, st.si, st.ext⟩⟩
  · rcases getElem?_set_cases he with ⟨rfl, hl, rfl⟩ | ⟨ne, he⟩
    · exact ⟨_, List.getElem?_set_self (by rw [r.len]; exact hl), .own (.inr rfl) nb0 (fun z => (st.subc _ z).elim nb nb0) h0 hq rs⟩
    · rw [List.getElem?_set_ne ne]
      obtain ⟨s, g1, g2⟩ := r.at_ j e he
      refine ⟨s, g1, ?_⟩
      cases g2 with
      | unk _ => exact .unk _
      | val z => exact .val (old j _ _ he (Ne.symm ne) g1)
      | own b' n' nc' h0' hl' rs' => exact .own (.inl b') n' nc' h0' hl' (olo j _ _ _ he g1 hl')
      | stm => exact .stm
      | scr q => exact .scr q
  · rcases getElem?_set_cases g1 with ⟨e1, l1, z1⟩ | ⟨n1, g1⟩
    · rcases getElem?_set_cases g2 with ⟨e2, l2, z2⟩ | ⟨n2, g2⟩
      · rw [← e1, ← e2]
      · subst e1
        rw [List.getElem?_set_self (by rw [r.len]; exact l1)] at g3
        rw [List.getElem?_set_ne n2] at g4
        have ex : q = x := by
          have := Option.some.inj (Option.some.inj g3)
          cases this
          rfl
        subst ex
        obtain ⟨s, k1, k2⟩ := r.at_ b _ g2
        rw [g4] at k1
        cases k1
        cases k2 with
        | own b' _ _ _ _ _ => exact absurd b' nb
    · rcases getElem?_set_cases g2 with ⟨e2, l2, z2⟩ | ⟨n2, g2⟩
      · subst e2
        rw [List.getElem?_set_self (by rw [r.len]; exact l2)] at g4
        rw [List.getElem?_set_ne n1] at g3
        have ex : q = x := by
          have := Option.some.inj (Option.some.inj g4)
          cases this
          rfl
        subst ex
        obtain ⟨s, k1, k2⟩ := r.at_ a _ g1
        rw [g3] at k1
        cases k1
        cases k2 with
        | own b' _ _ _ _ _ => exact absurd b' nb
      · rw [List.getElem?_set_ne n1] at g3
        rw [List.getElem?_set_ne n2] at g4
        exact r.nd a b x xs' ys g1 g2 g3 g4
  · rcases z with (z | z) | z
    · exact st.trk a (.inl z)
    · rw [z, hq]
      exact fun z => nomatch z
    · exact st.trk a (.inr z)
end
def SR (K : PySem.W.Frag) (p : Par) (ts : TS) (m : XS) : Prop :=
  ∀ (B : Addr → Prop) (H : Hp) (σ : L2.St) (E : Env) (c : Sx) (P : Out → Sx → Prop) (Dn : Ends), St0 p c B H → EnvR K p c B H σ E → m E c P p.XP →
    (∀ E' c' B' σ' H', P (.nx E') c' → St0 p c' B' H' → Tr (bm p B c) H (bm p B' c') H' → EnvR K p c' B' H' σ' E' → Dn.nx σ' H') →
    (∀ d c' v H', P (.rt d) c' → p.SI c' H' → Ev p p.c0 p.H0 c' H' → Rep K (bm p p.Bc c') H' v d → Dn.rt v H') →
    (∀ E' c' B' σ' H', P (.bk E') c' → St0 p c' B' H' → Tr (bm p B c) H (bm p B' c') H' → EnvR K p c' B' H' σ' E' → Dn.bk σ' H') →
    (∀ E' c' B' σ' H', P (.ct E') c' → St0 p c' B' H' → Tr (bm p B c) H (bm p B' c') H' → EnvR K p c' B' H' σ' E' → Dn.ct σ' H') → ts Dn σ H
structure PSD (X : Cx) (p : Par) (st : Stmt) (m : XS) : Prop where
  ex : ∃ ts, PS X st ts ∧ SR X.K p ts m
structure PSSD (X : Cx) (p : Par) (sts : List Stmt) (m : XS) : Prop where
  ex : ∃ ts, PSs X sts ts ∧ SR X.K p ts m
section
variable {X : Cx} {p : Par} {k : Nat} {K : PySem.W.Frag}
theorem ssd_nil : PSSD X p [] sSkip := ⟨_, pss_nil, fun B H σ E c P Dn st r m nx rt bk ct => nx E _ B σ H m st .refl r⟩
theorem sr_seq {t u : TS} {a b : XS} (h1 : SR K p t a) (h2 : SR K p u b) : SR K p (tSeq t u) (sSeq a b) := by
  intro B H σ E c P Dn st r m nx rt bk ct
  refine h1 B H σ E _ _ _ st r m (fun E' c1 B' σ' H' m1 st1 t1 r1 => ?_) (fun d c1 v H' m1 => rt d c1 v H' m1) (fun E' c1 B' σ' H' m1 => bk E' c1 B' σ' H' m1) (fun E' c1 B' σ' H' m1 => ct E' c1 B' σ' H' m1)
  refine h2 B' H' σ' E' _ P Dn st1 r1 m1 (fun E2 c2' B2 σ2 H2 m2 st2 t2 r2 => nx E2 c2' B2 σ2 H2 m2 st2 (t1.trans t2) r2) rt (fun E2 c2' B2 σ2 H2 m2 st2 t2 r2 => bk E2 c2' B2 σ2 H2 m2 st2 (t1.trans t2) r2) (fun E2 c2' B2 σ2 H2 m2 st2 t2 r2 => ct E2 c2' B2 σ2 H2 m2 st2 (t1.trans t2) r2)
theorem ssd_cons {st : Stmt} {rest : List Stmt} {a b : XS} (h1 : PSD X p st a) (h2 : PSSD X p rest b) : PSSD X p (st :: rest) (sSeq a b) := by
  obtain ⟨t1, a1, a2⟩ := h1.ex
  obtain ⟨t2, b1, b2⟩ := h2.ex
  exact ⟨_, pss_cons a1 b1, sr_seq a2 b2⟩
theorem ssd_one {st : Stmt} {a : XS} (h1 : PSD X p st a) : PSSD X p [st] a := by
  obtain ⟨t1, a1, a2⟩ := h1.ex
  exact ⟨_, pss_one a1, a2⟩
theorem sd_pass {pos : Pos} : PSD X p (.Pass pos) sSkip := ⟨_, ps_pass, fun B H σ E c P Dn st r m nx rt bk ct => nx E _ B σ H m st .refl r⟩
theorem sd_ret {e : Expr} {m : XE} {pos : Pos} (he : PD X p e m) : PSD X p (.Return (some e) pos) (sRet m) := by
  obtain ⟨te, a1, a2⟩ := he.ex
  refine ⟨_, ps_ret a1, fun B H σ E c P Dn st r m nx rt bk ct => ?_⟩
  exact a2 B H σ E _ _ _ st r m fun d c1 v H1 m1 e1 s1 r1 => rt d _ v H1 m1 s1 (st.ext.trans e1) (r1.less (st.go e1 s1).bc)
theorem sd_expr {e : Expr} {m : XE} {pos : Pos} (he : PD X p e m) (hs : swapsWith e none pos.line X.env = pure false := by rfl) : PSD X p (.Expr e pos) (sExpr m) := by
  obtain ⟨te, a1, a2⟩ := he.ex
  refine ⟨_, ps_expr a1 hs, fun B H σ E c P Dn st r m nx rt bk ct => ?_⟩
  exact a2 B H σ E _ _ _ st r m fun d c1 v H1 m1 e1 s1 r1 => nx E _ B σ H1 m1 (st.go e1 s1) (st.up e1) (r.go st e1)
theorem sd_if {c : Expr} {a b : List Stmt} {t : XT} {ma mb : XS} {pos : Pos} (hc : PDT X p c t) (ha : PSSD X p a ma) (hb : PSSD X p b mb) : PSD X p (.If c a b pos) (sIf t ma mb) := by
  obtain ⟨tc, c1, c2⟩ := hc.ex
  obtain ⟨ta, a1, a2⟩ := ha.ex
  obtain ⟨tb, b1, b2⟩ := hb.ex
  refine ⟨_, ps_if c1 a1 b1, fun B H σ E c P Dn st r m nx rt bk ct => ?_⟩
  refine c2 B H σ E _ _ _ st r m fun b c1 H1 m1 e1 s1 => ?_
  have st1 := st.go e1 s1
  have t1 : Tr (bm p B c) H (bm p B c1) H1 := st.up e1
  have r1 := r.go st e1
  cases b with
  | true => exact a2 B H1 σ E _ P Dn st1 r1 m1 (fun E2 c2' B2 σ2 H2 m2 st2 t2 r2 => nx E2 c2' B2 σ2 H2 m2 st2 (t1.trans t2) r2) rt (fun E2 c2' B2 σ2 H2 m2 st2 t2 r2 => bk E2 c2' B2 σ2 H2 m2 st2 (t1.trans t2) r2) (fun E2 c2' B2 σ2 H2 m2 st2 t2 r2 => ct E2 c2' B2 σ2 H2 m2 st2 (t1.trans t2) r2)
  | false => exact b2 B H1 σ E _ P Dn st1 r1 m1 (fun E2 c2' B2 σ2 H2 m2 st2 t2 r2 => nx E2 c2' B2 σ2 H2 m2 st2 (t1.trans t2) r2) rt (fun E2 c2' B2 σ2 H2 m2 st2 t2 r2 => bk E2 c2' B2 σ2 H2 m2 st2 (t1.trans t2) r2) (fun E2 c2' B2 σ2 H2 m2 st2 t2 r2 => ct E2 c2' B2 σ2 H2 m2 st2 (t1.trans t2) r2)
theorem sr_asg {te : TE} {m : XE} {i : Nat} (nf : p.fx = none) (h : EvR K p te m) : SR K p (tAsg te (gName i)) (sAsg i m) := by
  intro B H σ E c P Dn st r m nx rt bk ct
  exact h B H σ E _ _ _ st r m fun d c1 v H1 m1 e1 s1 r1 => nx _ _ B _ H1 m1 (st.go e1 s1) (st.up e1) ((r.go st e1).val nf i r1)
theorem sd_set {cb : Bool} (S : SitB cb true X p k) {i : Nat} {x : Str} {e : Expr} {m : XE} {pos pos' : Pos} (hi : X.N[i]? = some x) (hx : Loc X.env.scope x) (he : PD X p e m) (hs : swapsWith e (some (.Name x pos')) pos.line X.env = pure false := by rfl)
    (hf : X.fn x = true ∨ X.env.scope.names.lookup x = some .local := by first | exact .inl rfl | exact .inr rfl) : PSD X p (.Assign [.Name x pos'] e pos) (sAsg i m) := by
  obtain ⟨te, a1, a2⟩ := he.ex
  exact ⟨_, ps_set S.nd hi hx a1 hs hf, sr_asg S.nf a2⟩
end
end DL
end
section
namespace DL
open PySem PySem.Spec PyProof.Rows L2
def gNs : List Nat → TGs
  | [] => gNil
  | i :: is => gCons (gName i) (gNs is)
/-- (a, b, ..) = a tuple or a list of that length -/
def gTL (K : PySem.W.Frag) (n : Nat) (t : TGs) : TG := fun v σ H Q => gTup K n t v σ H Q ∨ gUnl K n t v σ H Q
theorem pg_tl {X : Cx} {pos : Pos} {es : List Expr} {k : Nat} {t : TGs} {n : Nat} (hc : X.calm = true) (h : PGs X es t)
    (hn : (assignEach es X.env).length = n := by rfl) (hst : (assignEach es X.env).findIdx? (·.1) = none := by rfl) : PG X (.Tuple es k pos) (gTL X.K n t) :=
  ⟨fun pins s σ H v u Q I r hw => hw.elim (fun q => (pg_tup hc h hn hst).run pins s σ H v u Q I r q) fun q => (pg_unl hc h hn hst).run pins s σ H v u Q I r q⟩
def gOf (K : PySem.W.Frag) : Tg → TG
  | .nm i => gName i
  | .tp is => gTL K is.length (gNs is)
  | .pr a b => gTL K 2 (gCons (gOf K a) (gCons (gOf K b) gNil))
def Tg.ix : Tg → List Nat
  | .nm i => [i]
  | .tp is => is
  | .pr a b => a.ix ++ b.ix
section
variable {K : PySem.W.Frag} {p : Par} {B B' : Addr → Prop} {H H' : Hp} {σ : L2.St} {E E' : Env} {n : Sx}
theorem gNs_put (nf : p.fx = none) : ∀ (is : List Nat) (vs : List V) (ds : List D) (σ : L2.St) (E : Env), EnvR K p n B H σ E → Reps K (bm p B n) H vs ds → setAll is ds E = some E' →
    ∀ Q : L2.St → Hp → Prop, (∀ σ', EnvR K p n B H σ' E' → σ'.length = σ.length → (∀ j, j ∉ is → σ'[j]? = σ[j]?) → Q σ' H) → gNs is vs σ H Q
  | [], vs, ds, σ, E, r, rs, h, Q, q => by
    cases rs with
    | nil =>
      have e : E = E' := Option.some.inj h
      subst e
      exact ⟨rfl, q σ r rfl fun _ _ => rfl⟩
    | cons _ _ => cases h
  | i :: is, vs, ds, σ, E, r, rs, h, Q, q => by
    cases rs with
    | nil => cases h
    | cons r1 rs =>
      refine ⟨_, _, rfl, gNs_put nf is _ _ _ _ (r.val nf i r1) rs h Q fun σ' g1 g2 g3 => q σ' g1 (by rw [g2, List.length_set]) fun j hj => ?_⟩
      rw [List.mem_cons, not_or] at hj
      rw [g3 j hj.2, List.getElem?_set_ne (Ne.symm hj.1)]
theorem gOf_put (nf : p.fx = none) {t : Tg} {v : V} {d : D} (r : EnvR K p n B H σ E) (rv : Rep K (bm p B n) H v d) (h : t.put d E = some E') (Q : L2.St → Hp → Prop)
    (q : ∀ σ', EnvR K p n B H σ' E' → σ'.length = σ.length → (∀ j, j ∉ t.ix → σ'[j]? = σ[j]?) → Q σ' H) : gOf K t v σ H Q := by
  induction t generalizing v d σ E E' Q with
  | nm i =>
    have e : E.set i (.val d) = E' := Option.some.inj h
    subst e
    exact q _ (r.val nf i rv) (List.length_set ..) fun j hj => List.getElem?_set_ne fun e => hj (by simp [Tg.ix, e])
  | tp is =>
    have hl : ∀ (is : List Nat) (ds : List D) (E E' : Env), setAll is ds E = some E' → ds.length = is.length := by
      intro is
      induction is with
      | nil => intro ds E E' h; cases ds with
        | nil => rfl
        | cons _ _ => cases h
      | cons i is ih => intro ds E E' h; cases ds with
        | nil => cases h
        | cons d ds => simp [ih ds _ _ h]
    cases rv with
    | @tup a xs ds hs rs =>
      have h' : setAll is ds E = some E' := h
      exact .inl ⟨a, xs, rfl, hs, by rw [rs.length]; exact hl _ _ _ _ h', gNs_put nf is xs ds σ E r rs h' Q q⟩
    | @lst a xs ds hs nb rs =>
      have h' : setAll is ds E = some E' := h
      exact .inr ⟨a, xs, rfl, SqL.of hs, by rw [rs.length]; exact hl _ _ _ _ h', gNs_put nf is xs ds σ E r rs h' Q q⟩
    | _ => exact nomatch (show none = some E' from h)
  | pr a b iha ihb =>
    cases rv with
    | @tup ad xs ds hs rs =>
      cases rs with
      | nil => exact nomatch (show none = some E' from h)
      | @cons v1 xs1 d1 ds1 r1 rs1 =>
        cases rs1 with
        | nil => exact nomatch (show none = some E' from h)
        | @cons v2 xs2 d2 ds2 r2 rs2 =>
          cases rs2 with
          | cons _ _ => exact nomatch (show none = some E' from h)
          | nil =>
            have h' : (match a.put d1 E with
              | some E1 => b.put d2 E1
              | none => none) = some E' := h
            cases h1 : a.put d1 E with
            | none => rw [h1] at h'; cases h'
            | some E1 =>
              rw [h1] at h'
              refine .inl ⟨ad, [v1, v2], rfl, hs, rfl, v1, [v2], rfl, iha r r1 h1 _ fun σ1 g1 g2 g3 => ?_⟩
              refine ⟨v2, [], rfl, ihb g1 r2 h' _ fun σ2 k1 k2 k3 => ?_⟩
              refine ⟨rfl, q σ2 k1 (k2.trans g2) fun j hj => ?_⟩
              have hj2 : j ∉ a.ix ++ b.ix := hj
              rw [List.mem_append, not_or] at hj2
              rw [k3 j hj2.2, g3 j hj2.1]
    | _ => exact nomatch (show none = some E' from h)
theorem wipe_get (σ : L2.St) : ∀ (vs : List Nat) (j : Nat), (L2.wipe σ vs)[j]? = if j ∈ vs then (if j < σ.length then some none else none) else σ[j]?
  | [], j => by simp [L2.wipe]
  | v :: vs, j => by
    unfold L2.wipe
    by_cases e : v = j
    · subst e
      rw [if_pos (List.mem_cons_self)]
      by_cases hl : v < σ.length
      · rw [if_pos hl, List.getElem?_set_self (by rw [L2.wipe_length]; exact hl)]
      · rw [if_neg hl, List.getElem?_eq_none (by rw [List.length_set, L2.wipe_length]; omega)]
    · rw [List.getElem?_set_ne e, wipe_get σ vs j]
      by_cases hm : j ∈ vs
      · rw [if_pos hm, if_pos (List.mem_cons_of_mem _ hm)]
      · rw [if_neg hm, if_neg fun z => by
          rcases List.mem_cons.mp z with z | z
          · exact e z.symm
          · exact hm z]
theorem wipe_same {σ σ' : L2.St} {vs : List Nat} (hl : σ'.length = σ.length) (h : ∀ j, j ∉ vs → σ'[j]? = σ[j]?) : L2.wipe σ' vs = L2.wipe σ vs := by
  apply List.ext_getElem?
  intro j
  rw [wipe_get, wipe_get, hl]
  by_cases hm : j ∈ vs
  · rw [if_pos hm, if_pos hm]
  · rw [if_neg hm, if_neg hm]
    exact h j hm
theorem wipe_wipe (σ : L2.St) (vs : List Nat) : L2.wipe (L2.wipe σ vs) vs = L2.wipe σ vs :=
  wipe_same (L2.wipe_length σ vs) fun j hj => by rw [wipe_get, if_neg hj]
end
structure WalkD (K : PySem.W.Frag) (B : Addr → Prop) (Hs : Hp) (J : It) (ds : List D) : Prop where
  ex : ∃ G : Hp → Prop, G Hs ∧ (∀ B1 H1, Tr B Hs B1 H1 → G H1) ∧
    Walk J ds.length G (fun i H x H' => All H H' ∧ ∀ B1, Tr B Hs B1 H → (∀ a, B1 a → H a ≠ none) → ∃ d, ds[i]? = some d ∧ Rep K B1 H' x d)
structure PDI (X : Cx) (p : Par) (tg e : Expr) (m : XA) : Prop where
  ex : ∃ wi, PI X tg e wi ∧ ∀ (B : Addr → Prop) (H : Hp) (σ : L2.St) (E : Env) (c : Sx) (P : List D → Sx → Prop) (R : It → Hp → Prop), St0 p c B H → EnvR X.K p c B H σ E → m E c P p.XP →
    (∀ ds c' J H', P ds c' → Ev p c H c' H' → p.SI c' H' → WalkD X.K (bm p B c') H' J ds → R J H') → wi σ H R
section
variable {X : Cx} {p : Par} {k : Nat} {K : PySem.W.Frag} {tg : Expr}
theorem Reps.at' {B : Addr → Prop} {H : Hp} : ∀ {vs : List V} {ds : List D}, Reps K B H vs ds → ∀ {i : Nat} {v : V}, vs[i]? = some v → ∃ d, ds[i]? = some d ∧ Rep K B H v d
  | _, _, .nil, i, v, e => by simp at e
  | _, _, .cons r t, 0, v, e => by
    have e' : _ = v := Option.some.inj e
    subst e'
    exact ⟨_, rfl, r⟩
  | _, _, .cons r t, i + 1, v, e => Reps.at' t (i := i) e
theorem walkD_list {B : Addr → Prop} {H : Hp} {a : Addr} {xs : List V} {ds : List D} (hl : H a = some (.lst xs)) (nb : ¬ B a) (rs : Reps K B H xs ds) : WalkD K B H (Itl K a) ds := by
  refine ⟨fun H => SqL K H a xs, SqL.of hl, fun B1 H1 t => SqL.of (t.ext.keep _ _ hl nb), ?_⟩
  rw [← rs.length]
  refine walk_list.mono (fun _ h => h) fun i H1 x H' hi hg y => ⟨fun b o e => by rw [y.1]; exact e, fun B1 t _ => ?_⟩
  obtain ⟨d, h1, h2⟩ := rs.at' y.2
  exact ⟨d, h1, by rw [y.1]; exact h2.tr t⟩
theorem walkD_tup {B : Addr → Prop} {H : Hp} {a : Addr} {xs : List V} {ds : List D} (hl : SqT K H a xs) (rs : Reps K B H xs ds) : WalkD K B H (Itt K a) ds := by
  refine ⟨fun H => SqT K H a xs, hl, fun B1 H1 t => t.ext.sqT hl, ?_⟩
  rw [← rs.length]
  refine walk_tup.mono (fun _ h => h) fun i H1 x H' hi hg y => ⟨fun b o e => by rw [y.1]; exact e, fun B1 t _ => ?_⟩
  obtain ⟨d, h1, h2⟩ := rs.at' y.2
  exact ⟨d, h1, by rw [y.1]; exact h2.tr t⟩
theorem rng_length (a b : Int) : (rng a b).length = (b - a).toNat := by
  unfold rng
  rw [List.length_map, List.length_range]
theorem rng_get (a b : Int) {i : Nat} (h : i < (b - a).toNat) : (rng a b)[i]? = some (.int (a + (i : Int))) := by
  unfold rng
  rw [List.getElem?_map, List.getElem?_range h]
  rfl
theorem walkD_rng {B : Addr → Prop} {H : Hp} {a b : Int} : WalkD K B H (Itr a (b - a).toNat) (rng a b) := by
  refine ⟨fun _ => True, True.intro, fun _ _ _ => True.intro, ?_⟩
  rw [rng_length]
  refine walk_range.mono (fun _ h => h) fun i H1 x H' hi hg y => ⟨fun b o e => by rw [y.1]; exact e, fun B1 t _ => ?_⟩
  refine ⟨_, rng_get a b hi, ?_⟩
  rw [y.2]
  exact .int _
def iLst (a : XE) : XA := fun E => bnd (a E) fun d => match d with | .list xs => ret xs | _ => stuck
theorem pi_lstD {e : Expr} {m : XE} (he : PD X p e m) : PDI X p tg e (iLst m) := by
  obtain ⟨te, a1, a2⟩ := he.ex
  refine ⟨_, pi_list a1, fun B H σ E c P R st r m k => ?_⟩
  refine a2 B H σ E _ _ _ st r m fun d c1 v H1 m1 e1 s1 r1 => ?_
  cases r1 with
  | lst q n t => exact ⟨_, rfl, ⟨_, SqL.of q⟩, k _ _ _ H1 m1 e1 s1 (walkD_list q n t)⟩
  | _ => exact m1.elim
theorem pi_rng1D {a : Expr} {m : XE} {pn pos : Pos} (ha : PD X p a m) (hm : X.mg "range" = none) (hg : Gl X "range" := by rfl) (hs : starEach [a] X.env = [(false, eval a X.env)] := by rfl) : PDI X p tg (.Call (.Name "range" pn) [a] [] pos) (iRng1 m) := by
  obtain ⟨ta, a1, a2⟩ := ha.ex
  refine ⟨_, pi_range1 hg hm (pa_cons a1 pa_nil (by rw [hs] <;> rfl)) hs, fun B H σ E c P R st r m k => ?_⟩
  refine a2 B H σ E _ _ _ st r m fun d c1 v H1 m1 e1 s1 r1 => ?_
  cases r1 with
  | int n =>
    obtain ⟨⟨h1, h2, h3, h4⟩, m1⟩ := m1
    refine ⟨n, rfl, by omega, by omega, k _ _ _ H1 m1 e1 s1 ?_⟩
    have w := walkD_rng (K := X.K) (B := bm p B c1) (H := H1) (a := 0) (b := n)
    rw [Int.sub_zero] at w
    exact w
  | _ => exact m1.elim
theorem forL_drop {t : Tg} {s : XS} {ds : List D} {i : Nat} {d : D} (h : ds[i]? = some d) (E : Env) : forL t s (ds.drop i) E = match t.put d E with
    | none => stuck
    | some E1 => bnd (s E1) fun o => match o with
      | .nx E' => forL t s (ds.drop (i + 1)) E'
      | .ct E' => forL t s (ds.drop (i + 1)) E'
      | .bk E' => ret (.nx E')
      | .rt d => ret (.rt d) := by
  obtain ⟨hl, e⟩ := List.getElem?_eq_some_iff.mp h
  rw [List.drop_eq_getElem_cons hl, e]
  rfl
theorem sd_for (S : SitB true true X p k) {iter : Expr} {body : List Stmt} {mi : XA} {t : Tg} {mb : XS} {pos : Pos} (hi : PDI X p tg iter mi) (hg : PG X tg (gOf X.K t)) (hb : PSSD X p body mb)
    (hs : ∀ x, foldedSetIterable iter X.env x = pure x := by intro _; rfl) : PSD X p (.For tg iter body [] pos) (sFor mi t mb) := by
  obtain ⟨wi, a1, a2⟩ := hi.ex
  obtain ⟨tb, b1, b2⟩ := hb.ex
  refine ⟨_, ps_for S.po S.calm a1 hg b1 hs, fun B H σ E c P Dn st r m nx rt bk ct => ?_⟩
  refine a2 B H σ E _ _ _ st r m fun ds c1 J H1 m1 e1 s1 w => ?_
  obtain ⟨G, g0, g1, wk⟩ := w.ex
  have st1 := st.go e1 s1
  refine for_it wk (fun i σ' H' => ∃ B' E' c', St0 p c' B' H' ∧ Tr (bm p B c1) H1 (bm p B' c') H' ∧ EnvR X.K p c' B' H' σ' E' ∧ forL t mb (ds.drop i) E' c' P p.XP) ⟨B, E, _, st1, .refl, r.go st e1, m1⟩ (fun i σ' H' _ ⟨B', E', _, _, t', _, _⟩ => g1 _ H' t') ?_ ?_
  · rintro i x σ' H' H'' hi' ⟨B', E', c', st', t', r', m'⟩ ⟨al, y⟩
    obtain ⟨d, hd, rd⟩ := y _ t' st'.trk
    rw [forL_drop hd] at m'
    cases hp : t.put d E' with
    | none => rw [hp] at m'; exact m'.elim
    | some E1 =>
      rw [hp] at m'
      have st2 : St0 p c' B' H'' := st'.go al.ev (st'.all S.ok al)
      have r2 := r'.go st' al.ev
      refine gOf_put S.nf r2 rd hp _ fun σ2 r3 _ _ => ?_
      have t2 : Tr (bm p B' c') H' (bm p B' c') H'' := .of al.ext
      refine b2 B' H'' σ2 E1 _ _ _ st2 r3 m' (fun E3 c3' B3 σ3 H3 m3 st3 t3 r3 => ?_) (fun d c3' v H3 m3 => rt d c3' v H3 m3) (fun E3 c3' B3 σ3 H3 m3 st3 t3 r3 => ?_) (fun E3 c3' B3 σ3 H3 m3 st3 t3 r3 => ?_)
      · exact ⟨B3, E3, _, st3, (t'.trans t2).trans t3, r3, m3⟩
      · exact nx E3 _ B3 σ3 H3 m3 st3 ((((st.up e1).trans t').trans t2).trans t3) r3
      · exact ⟨B3, E3, _, st3, (t'.trans t2).trans t3, r3, m3⟩
  · rintro σ' H' ⟨B', E', c', st', t', r', m'⟩
    rw [List.drop_length] at m'
    exact nx E' _ B' σ' H' m' st' ((st.up e1).trans t') r'
end
end DL
end
section
namespace DL
open PySem PySem.Spec PyProof.Rows L2
def teOf (K : PySem.W.Frag) (p : Par) (m : XE) : TE := fun σ H Q => ∃ (B : Addr → Prop) (E : Env) (c : Sx) (P : D → Sx → Prop), St0 p c B H ∧ EnvR K p c B H σ E ∧ m E c P p.XP ∧
  ∀ d c' v H', P d c' → Ev p c H c' H' → p.SI c' H' → Rep K (bm p B c') H' v d → Q v H'
def ttOf (K : PySem.W.Frag) (p : Par) (m : XT) : TT := fun σ H Q => ∃ (B : Addr → Prop) (E : Env) (c : Sx) (P : Bool → Sx → Prop), St0 p c B H ∧ EnvR K p c B H σ E ∧ m E c P p.XP ∧
  ∀ b c' H', P b c' → Ev p c H c' H' → p.SI c' H' → Q b H'
section
variable {X : Cx} {p : Par} {k : Nat} {K : PySem.W.Frag}
theorem PD.pe {e : Expr} {m : XE} (h : PD X p e m) : PE X e (teOf X.K p m) := by
  obtain ⟨te, a1, a2⟩ := h.ex
  exact ⟨fun pins s σ H Q I ⟨B, E, c, P, st, r, mm, kk⟩ => a1.run pins s σ H Q I (a2 B H σ E c P Q st r mm kk)⟩
theorem PDT.pt {e : Expr} {m : XT} (h : PDT X p e m) : PT X e (ttOf X.K p m) := by
  obtain ⟨te, a1, a2⟩ := h.ex
  exact ⟨fun pins s σ H Q I ⟨B, E, c, P, st, r, mm, kk⟩ => a1.run pins s σ H Q I (a2 B H σ E c P Q st r mm kk)⟩
structure PDTs (X : Cx) (p : Par) (ifs : List Expr) (m : XT) : Prop where
  pts : PTs X ifs (ttOf X.K p m)
theorem pdts_nil : PDTs X p [] tYes := ⟨⟨fun pins s σ H Q I ⟨B, E, c, P, st, r, mm, kk⟩ => pts_nil.run pins s σ H Q I (kk true c H mm Ev.refl st.si)⟩⟩
theorem pdts_one {e : Expr} {m : XT} (h : PDT X p e m) : PDTs X p [e] m := ⟨pts_one h.pt⟩
/-- as EvR, of a list that is just made -/
def EvF (K : PySem.W.Frag) (p : Par) (te : TE) (m : XE) : Prop :=
  ∀ (B : Addr → Prop) (H : Hp) (σ : L2.St) (E : Env) (c : Sx) (P : D → Sx → Prop) (Q : VK), St0 p c B H → EnvR K p c B H σ E → m E c P p.XP →
    (∀ ds c' q xs H', P (.list ds) c' → Ev p c H c' H' → p.SI c' H' → (H q = none ∧ ¬ p.B0 c' q) → H' q = some (.lst xs) → Reps K (bm p (more B q) c') H' xs ds → Q (.ref q) H') → te σ H Q
structure PDF (X : Cx) (p : Par) (e : Expr) (m : XE) : Prop where
  ex : ∃ te, PE X e te ∧ EvF X.K p te m
theorem EvF.ev {te : TE} {m : XE} (h : EvF K p te m) : EvR K p te m := fun B H σ E c P Q st r mm kk =>
  h B H σ E c P Q st r mm fun ds c' q xs H' m1 e1 s1 hq h1 rs => kk _ c' _ H' m1 e1 s1 (.lst h1 (fun z => z.elim (fun z => st.trk q (.inl z) hq.1) hq.2) (rs.less fun _ z => z.imp .inl id))
theorem q_new {B : Addr → Prop} {c c1 : Sx} {H H1 : Hp} {q : Addr} (st1 : St0 p c1 B H1) (e1 : Ev p c H c1 H1) (hq : H1 q = none) : H q = none ∧ ¬ p.B0 c1 q :=
  ⟨by
    cases x : H q with
    | none => rfl
    | some o => exact absurd hq (e1.ext.dom q (some_ne x)), fun z => st1.trk q (.inr z) hq⟩
theorem ext_none {B : Addr → Prop} {H H' : Hp} (e : Ext B H H') {q : Addr} (h : H' q = none) : H q = none := by
  cases x : H q with
  | none => rfl
  | some o => exact absurd h (e.dom q (some_ne x))
theorem bm_new {B : Addr → Prop} {n : Sx} {H : Hp} {q : Addr} (hq : H q = none) : ∀ a, bm p (more B q) n a → H a ≠ none → bm p B n a := fun a z nn => by
  rcases z with (z | z) | z
  · exact .inl z
  · exact absurd (z ▸ hq) nn
  · exact .inr z
theorem reps_more {B : Addr → Prop} {n : Sx} {H : Hp} {q : Addr} {xs : List V} {ds : List D} (hq : H q = none) (r : Reps K (bm p B n) H xs ds) : Reps K (bm p (more B q) n) H xs ds := r.grow (bm_new hq)
theorem rep_more {B : Addr → Prop} {n : Sx} {H : Hp} {q : Addr} {v : V} {d : D} (hq : H q = none) (r : Rep K (bm p B n) H v d) : Rep K (bm p (more B q) n) H v d := r.grow (bm_new hq)
/-- name = a new list, owned -/
theorem own_put {B : Addr → Prop} {H H' : Hp} {σ : L2.St} {E : Env} {n n' : Sx} {q : Addr} {xs : List V} {ds : List D} (hp : ∀ i, p.pin i = none) (nf : p.fx = none) (i : Nat) (r : EnvR K p n B H σ E) (st : St0 p n B H) (e : Ev p n H n' H') (si : p.SI n' H') (hq : H q = none ∧ ¬ p.B0 n' q) (h1 : H' q = some (.lst xs)) (rs : Reps K (bm p (more B q) n') H' xs ds) :
    EnvR K p n' (more B q) H' (σ.set i (some (.ref q))) (E.set i (.own ds)) ∧ St0 p n' (more B q) H' ∧ Tr (bm p B n) H (bm p (more B q) n') H' := by
  have st1 := st.go e si
  have r1 := r.go st e
  have nb : ¬ B q := fun z => st.trk q (.inl z) hq.1
  have em : Tr (bm p (more B q) n) H (bm p (more B q) n') H' := e.tr
  obtain ⟨g1, g2⟩ := r1.own hp nf st1 i h1 nb hq.2 (ext_none st.ext.ext hq.1) (fun a z e => nb (e ▸ z)) rs
    (fun j v d hj _ hs => by
      obtain ⟨s, k1, k2⟩ := r.at_ j _ hj
      rw [hs] at k1
      cases k1
      cases k2 with
      | val z => exact (rep_more hq.1 z).tr em)
    (fun j a ys es hj hs hl => by
      obtain ⟨s, k1, k2⟩ := r.at_ j _ hj
      rw [hs] at k1
      cases k1
      cases k2 with
      | own b n' nc h0 hl' z =>
        have := e.ext.keep _ _ hl' n'
        rw [hl] at this
        cases this
        exact (reps_more hq.1 z).tr em)
  refine ⟨g1, g2, (st.up e).ext, fun a z nn => ?_⟩
  rcases z with (z | z) | z
  · exact .inl z
  · exact absurd (z ▸ hq.1) nn
  · exact .inr (e.old a z nn)
theorem sd_own {cb : Bool} (S : SitB cb true X p k) {i : Nat} {x : Str} {e : Expr} {m : XE} {pos pos' : Pos} (hi : X.N[i]? = some x) (hx : Loc X.env.scope x) (he : PDF X p e m) (hs : swapsWith e (some (.Name x pos')) pos.line X.env = pure false := by rfl)
    (hf : X.fn x = true ∨ X.env.scope.names.lookup x = some .local := by first | exact .inl rfl | exact .inr rfl)  (hp : ∀ i, p.pin i = none := by assumption): PSD X p (.Assign [.Name x pos'] e pos) (sOwn i m) := by
  obtain ⟨te, a1, a2⟩ := he.ex
  refine ⟨_, ps_set S.nd hi hx a1 hs hf, fun B H σ E c P Dn st r m nx rt bk ct => ?_⟩
  refine a2 B H σ E _ _ _ st r m fun ds c1 q xs H1 m1 e1 s1 hq h1 rs => ?_
  obtain ⟨g1, g2, g3⟩ := own_put hp S.nf i r st e1 s1 hq h1 rs
  exact nx _ _ _ _ H1 m1 g2 g3 g1
/-- a, b = x, y -/
theorem sd_par (S : SitB true true X p k) {i j : Nat} {x y : Str} {a b : Expr} {ma mb : XE} {px py pt pos : Pos} {kt k2 pt2} (hi : X.N[i]? = some x) (hj : X.N[j]? = some y) (hij : i ≠ j) (hx : X.env.scope.names.lookup x = some .local) (hy : X.env.scope.names.lookup y = some .local)
    (ha : PD X p a ma) (hb : PD X p b mb) (hw : swappedStores [.Tuple [.Name x px, .Name y py] kt pt] (.Tuple [a, b] k2 pt2) X.env = pure (some [x, y])) (hs : swapsWithSole [.Tuple [.Name x px, .Name y py] kt pt] (.Tuple [a, b] k2 pt2) pos.line X.env = pure false := by rfl)
    (h1 : starEach [a, b] X.env = (false, eval a X.env) :: starEach [b] X.env := by rfl) (h2 : starEach [b] X.env = (false, eval b X.env) :: starEach [] X.env := by rfl) :
    PSD X p (.Assign [.Tuple [.Name x px, .Name y py] kt pt] (.Tuple [a, b] k2 pt2) pos) (sPar i j ma mb) := by
  obtain ⟨ta, a1, a2⟩ := ha.ex
  obtain ⟨tb, b1, b2⟩ := hb.ex
  refine ⟨_, ps_par S.calm S.nd hi hj hij hx hy (pa_cons a1 (pa_cons b1 pa_nil h2) h1) hw hs, fun B H σ E c P Dn st r m nx rt bk ct => ?_⟩
  refine a2 B H σ E _ _ _ st r m fun d c1 v H1 m1 e1 s1 r1 => ?_
  have st1 := st.go e1 s1
  refine b2 B H1 σ E _ _ _ st1 (r.go st e1) m1 fun d2 c2' v2 H2 m2 e2 s2 r2 => ?_
  have st2 := st1.go e2 s2
  exact ⟨v, v2, rfl, nx _ _ B _ H2 m2 st2 (st.up (e1.trans e2)) ((((r.go st e1).go st1 e2).val S.nf i (r1.tr (st1.up e2))).val S.nf j r2)⟩
/-- a, b = [..], y: the first one owned -/
def sParO (i j : Nat) (a b : XE) : XS := fun E => bnd (a E) fun x => bnd (b E) fun y => match x with
  | .list ds => ret (.nx ((E.set i (.own ds)).set j (.val y)))
  | _ => stuck
end
section
variable {X : Cx} {p : Par} {k : Nat} {K : PySem.W.Frag}
/-- the own list at q is another one -/
theorem own_upd {B : Addr → Prop} {H : Hp} {σ : L2.St} {E : Env} {n : Sx} {i : Nat} {q : Addr} {xs ys : List V} {ds es : List D} (nf : p.fx = none) (ok : p.Ok K X.mg) (r : EnvR K p n B H σ E) (st : St0 p n B H) (hi : E[i]? = some (.own ds)) (hs : σ[i]? = some (some (.ref q))) (hq : H q = some (.lst xs))
    (rs : Reps K (bm p B n) H ys es) : EnvR K p n B (upd H q (.lst ys)) σ (E.set i (.own es)) ∧ St0 p n B (upd H q (.lst ys)) ∧ Tr (bm p B n) H (bm p B n) (upd H q (.lst ys)) := by
  obtain ⟨s, k1, k2⟩ := r.at_ i _ hi
  rw [hs] at k1
  cases k1
  cases k2 with
  | own b n' nc h0 hl z =>
    have ex : Ext (bm p B n) H (upd H q (.lst ys)) := by
      refine ⟨fun a o e nb => ?_, fun a o e im => ?_, fun a nn => ?_⟩
      · have ne : a ≠ q := fun z => nb (by rw [z]; exact .inl b)
        rw [upd_ne ne]
        exact e
      · have ne : a ≠ q := fun z => by
          subst z
          rw [hq] at e
          cases e
          exact im
        rw [upd_ne ne]
        exact e
      · by_cases z : a = q
        · rw [z, upd_same]
          exact fun z => nomatch z
        · rw [upd_ne z]
          exact nn
    refine ⟨⟨by rw [List.length_set]; exact r.len, fun j e he => ?_, fun a b' x zs ws g1 g2 g3 g4 => ?_, .no nf, fun j a zs hp hj => ?_⟩, ⟨st.subc, fun a z => ex.dom a (st.trk a z), ?_, ?_⟩, .of ex⟩
    · rcases getElem?_set_cases he with ⟨rfl, hl', rfl⟩ | ⟨ne, he⟩
      · exact ⟨_, hs, .own b n' nc h0 upd_same (rs.mono ex)⟩
      · obtain ⟨s', g1, g2⟩ := r.at_ j e he
        refine ⟨s', g1, ?_⟩
        cases g2 with
        | unk _ => exact .unk _
        | val z => exact .val (z.mono ex)
        | @own a2 _ _ b2 n2 nc2 h02 hl2 z2 =>
          have na : a2 ≠ q := fun z => ne (r.nd i j q _ _ hi he hs (by rw [← z]; exact g1))
          exact .own b2 n2 nc2 h02 (by rw [upd_ne na]; exact hl2) (z2.mono ex)
        | stm => exact .stm
        | scr z => exact .scr fun H2 hk => z H2 fun o ho him => hk o (ex.imm _ o ho him) him
    · rcases getElem?_set_cases g1 with ⟨rfl, _, _⟩ | ⟨n1, g1⟩
      · rcases getElem?_set_cases g2 with ⟨rfl, _, _⟩ | ⟨n2, g2⟩
        · rfl
        · exact r.nd _ _ x _ _ hi g2 g3 g4
      · rcases getElem?_set_cases g2 with ⟨rfl, _, _⟩ | ⟨n2, g2⟩
        · exact r.nd _ _ x _ _ g1 hi g3 g4
        · exact r.nd _ _ x _ _ g1 g2 g3 g4
    · rcases getElem?_set_cases hj with ⟨rfl, _, _⟩ | ⟨n1, hj⟩
      · exact r.pn _ a _ hp hi
      · exact r.pn j a zs hp hj
    · refine ok.stab n H _ st.si (fun a o ha e => ?_) ex.imm
      have na : a ≠ q := fun z => n' (by rw [← z]; exact ha)
      rw [upd_ne na]
      exact e
    · refine ⟨⟨fun a o e nb => ?_, fun a o e im => ex.imm a o (st.ext.ext.imm a o e im) im, fun a nn => ex.dom a (st.ext.ext.dom a nn)⟩, st.ext.up, st.ext.old, fun g a z => ex.dom a (st.ext.dom g a z)⟩
      have na : a ≠ q := fun z => by
        subst z
        rw [h0] at e
        cases e
      rw [upd_ne na]
      exact st.ext.ext.keep a o e nb
theorem own_at {B : Addr → Prop} {n : Sx} {H : Hp} {σ : L2.St} {E : Env} {i : Nat} {ds : List D} (r : EnvR K p n B H σ E) (hi : E[i]? = some (.own ds)) : ∃ q xs, σ[i]? = some (some (.ref q)) ∧ B q ∧ ¬ p.B0 n q ∧ H q = some (.lst xs) ∧ Reps K (bm p B n) H xs ds := by
  obtain ⟨s, k1, k2⟩ := r.at_ i _ hi
  cases k2 with
  | own b n nc h0 hl z => exact ⟨_, _, k1, b, n, hl, z⟩
end
end DL
end
section
namespace DL
open PySem PySem.Spec PyProof.Rows L2
section
variable {X : Cx} {p : Par} {k : Nat} {K : PySem.W.Frag}
theorem sd_setI {cb : Bool} (S : SitB cb true X p k) (i : Nat) {x : Str} {a e : Expr} {ma me : XE} {px pt pos : Pos} (hg : PG X (.Subscript (.Name x px) a pt) (gSub (tVar i) (teOf X.K p ma) rSetL)) (he : PD X p e me)
    (hs : swapsWithSole [.Subscript (.Name x px) a pt] e pos.line X.env = pure false := by rfl) (hw : swappedStores [.Subscript (.Name x px) a pt] e X.env = pure none := by rfl) :
    PSD X p (.Assign [.Subscript (.Name x px) a pt] e pos) (sSet i ma me) := by
  obtain ⟨te, b1, b2⟩ := he.ex
  refine ⟨_, ps_asg b1 hg hs hw, fun B H σ E c P Dn st r m nx rt bk ct => ?_⟩
  have m' : (match E[i]? with | some (.own ds) => bnd (me E) fun d => bnd (ma E) fun n => (match n with | .int z => (match L2.ixN ds.length z with | some j => ret (Out.nx (E.set i (.own (ds.set j d)))) | none => stuck) | _ => stuck) | _ => stuck) c P p.XP := m
  cases h : E[i]? with
  | none => rw [h] at m'; exact m'.elim
  | some y =>
    rw [h] at m'
    cases y with
    | own ds =>
      obtain ⟨q, xs, hsq, hb, hn, hl, rs⟩ := own_at r h
      refine b2 B H σ E _ _ _ st r m' fun d c1 v H1 m1 e1 s1 r1 => ?_
      have st1 := st.go e1 s1
      refine ⟨.ref q, hsq, ?_⟩
      refine ⟨B, E, c1, _, st1, r.go st e1, m1, fun d2 c2' v2 H2 m2 e2 s2 r2 => ?_⟩
      have st2 := st1.go e2 s2
      cases r2 with
      | int z =>
        have m2' : (match L2.ixN ds.length z with | some j => ret (Out.nx (E.set i (.own (ds.set j d)))) | none => stuck) c2' P p.XP := m2
        cases hj : L2.ixN ds.length z with
        | none => rw [hj] at m2'; exact m2'.elim
        | some j =>
          rw [hj] at m2'
          have hl1 := e1.ext.keep _ _ hl hn
          have hl2 := e2.ext.keep _ _ hl1 fun z => hn (e1.old _ z (some_ne hl))
          have rs2 := (rs.tr (st.up e1)).tr (st1.up e2)
          obtain ⟨g1, g2, g3⟩ := own_upd (ys := xs.set j v) (es := ds.set j d) S.nf S.ok ((r.go st e1).go st1 e2) st2 h hsq hl2 (Reps.set (r1.tr (st1.up e2)) j rs2)
          exact ⟨q, xs, z, j, rfl, rfl, hl2, by rw [rs.length]; exact hj, nx _ _ _ _ _ m2' g2 ((st.up (e1.trans e2)).trans g3) g1⟩
      | _ => exact m2.elim
    | _ => exact m'.elim
theorem less_tr {B : Addr → Prop} {n : Sx} {H : Hp} {q : Addr} : Tr (bm p B n) H (bm p (less B q) n) H := ⟨Ext.refl, fun a z _ => z.imp (fun z => z.1) id⟩
theorem sd_rel {cb : Bool} (S : SitB cb true X p k) (i : Nat) {s : Stmt} {m : XS} (h : PSD X p s m) : PSD X p s (sRel i m) := by
  obtain ⟨ts, a1, a2⟩ := h.ex
  refine ⟨ts, a1, fun B H σ E c P Dn st r mm nx rt bk ct => ?_⟩
  have m' : (match E[i]? with | some (.own ds) => m (E.set i (.val (.list ds))) | _ => m E) c P p.XP := mm
  cases q : E[i]? with
  | none => rw [q] at m'; exact a2 B H σ E _ P Dn st r m' nx rt bk ct
  | some y =>
    rw [q] at m'
    cases y with
    | own ds =>
      obtain ⟨w, r1, st1, _, _, _⟩ := r.rel S.nf st q
      exact a2 (less B w) H σ _ _ P Dn st1 r1 m' (fun E2 c2' B2 σ2 H2 m2 st2 t2 r2 => nx E2 c2' B2 σ2 H2 m2 st2 (less_tr.trans t2) r2) rt (fun E2 c2' B2 σ2 H2 m2 st2 t2 r2 => bk E2 c2' B2 σ2 H2 m2 st2 (less_tr.trans t2) r2) (fun E2 c2' B2 σ2 H2 m2 st2 t2 r2 => ct E2 c2' B2 σ2 H2 m2 st2 (less_tr.trans t2) r2)
    | _ => exact a2 B H σ E _ P Dn st r m' nx rt bk ct
/-- within a comprehension: no error may leave -/
def Par.quiet (p : Par) : Par := { p with XP := fun _ _ => False, EK := fun _ _ _ _ => False, fx := none }
theorem EvB.quiet {c c' : Sx} {H H' : Hp} (e : Ev p c H c' H') : Ev p.quiet c H c' H' := ⟨e.ext, e.up, e.old, e.dom⟩
theorem EvB.loud {c c' : Sx} {H H' : Hp} (e : Ev p.quiet c H c' H') : Ev p c H c' H' := ⟨e.ext, e.up, e.old, e.dom⟩
theorem St0.quiet {n : Sx} {B : Addr → Prop} {H : Hp} (s : St0 p n B H) : St0 p.quiet n B H := ⟨s.subc, s.trk, s.si, s.ext.quiet⟩
theorem St0.loud {n : Sx} {B : Addr → Prop} {H : Hp} (s : St0 p.quiet n B H) : St0 p n B H := ⟨s.subc, s.trk, s.si, s.ext.loud⟩
theorem Slot.quiet {n : Sx} {B : Addr → Prop} {H : Hp} {x : Option V} {y : Ent} (s : Slot K p n B H x y) : Slot K p.quiet n B H x y := by
  cases s with
  | unk _ => exact .unk _
  | val r => exact .val r
  | own b n nc h0 hl r => exact .own b n nc h0 hl r
  | stm => exact .stm (p := p.quiet)
  | scr q => exact .scr q
theorem EnvR.quiet {n : Sx} {B : Addr → Prop} {H : Hp} {σ : L2.St} {E : Env} (r : EnvR K p n B H σ E) : EnvR K p.quiet n B H σ E :=
  ⟨r.len, fun i e q => let ⟨s, h1, h2⟩ := r.at_ i e q; ⟨s, h1, h2.quiet⟩, r.nd, .no rfl, r.pn⟩
theorem SitB.quiet {cb vb : Bool} (S : SitB cb vb X p k) {s : Shared} {H : Hp} {scope : Scope} {cenv : PySem.Env} {fp : List Addr} : SitB cb true (X.blk s H scope cenv fp) p.quiet k :=
  ⟨S.calm_, S.gd, S.rm, S.nd, ⟨S.ok.stab, fun _ _ _ _ _ _ _ _ _ _ _ h => h.elim⟩, PassesOwn.never, takes0, fun _ => rfl, S.sm⟩
theorem compL_drop {t : Tg} {mt : XT} {me : XE} {ds acc : List D} {i : Nat} {d : D} (h : ds[i]? = some d) (E : Env) : compL t mt me (ds.drop i) acc E = match t.put d E with
    | none => stuck
    | some E1 => bnd (mt E1) fun c => if c = true then bnd (me E1) fun y => grd (small acc.length) (compL t mt me (ds.drop (i + 1)) (acc ++ [y]) E) else compL t mt me (ds.drop (i + 1)) acc E := by
  obtain ⟨hl, e⟩ := List.getElem?_eq_some_iff.mp h
  rw [List.drop_eq_getElem_cons hl, e]
  rfl
/-- the state's places and one new place -/
def plusQ (p : Par) (n : Sx) (q : Addr) : Addr → Prop := fun a => p.B0 n a ∨ a = q
structure EvQ (p : Par) (q : Addr) (n : Sx) (H : Hp) (n' : Sx) (H' : Hp) : Prop where
  ext : Ext (plusQ p n q) H H'
  up : ∀ a, p.B0 n a → p.B0 n' a
  old : ∀ a, p.B0 n' a → H a ≠ none → p.B0 n a
  dom : (∀ a, p.B0 n a → H a ≠ none) → ∀ a, p.B0 n' a → H' a ≠ none
theorem EvB.q {n n' : Sx} {H H' : Hp} {q : Addr} (e : Ev p n H n' H') : EvQ p q n H n' H' := ⟨e.ext.more fun a z => .inl z, e.up, e.old, e.dom⟩
theorem EvQ.trans {c c' c'' : Sx} {H H' H'' : Hp} {q : Addr} (a : EvQ p q c H c' H') (b : EvQ p q c' H' c'' H'') : EvQ p q c H c'' H'' where
  ext := ⟨fun x o e n => b.ext.keep x o (a.ext.keep x o e n) fun z => n (z.imp (fun z => a.old x z (some_ne e)) id), fun x o e i => b.ext.imm x o (a.ext.imm x o e i) i, fun x n => b.ext.dom x (a.ext.dom x n)⟩
  up := fun x h => b.up x (a.up x h)
  old := fun x z n => a.old x (b.old x z (a.ext.dom x n)) n
  dom := fun q => b.dom (a.dom q)
theorem EvQ.of {n : Sx} {H H' : Hp} {q : Addr} (e : Ext (plusQ p n q) H H') : EvQ p q n H n H' := ⟨e, fun _ z => z, fun _ z _ => z, fun g a z => e.dom a (g a z)⟩
theorem EvQ.ev {n n' : Sx} {H H' : Hp} {q : Addr} (hq : H q = none) (e : EvQ p q n H n' H') : Ev p n H n' H' :=
  ⟨⟨fun a o h n => e.ext.keep a o h (fun z => z.elim n (fun z => absurd (z ▸ h) (by rw [hq]; exact fun z => nomatch z))), e.ext.imm, e.ext.dom⟩, e.up, e.old, e.dom⟩
theorem tr_q {n n' : Sx} {B : Addr → Prop} {H H' : Hp} {q : Addr} (_ : St0 p n B H) (hq : H q = none) (e : EvQ p q n H n' H') : Tr (bm p B n) H (bm p (more B q) n') H' :=
  ⟨(e.ev hq).tr.ext, fun a z nn => by
    rcases z with (z | z) | z
    · exact .inl z
    · exact absurd (z ▸ hq) nn
    · exact .inr (e.old a z nn)⟩
theorem st_q {n n' : Sx} {B : Addr → Prop} {H H' : Hp} {q : Addr} (st : St0 p n B H) (hq : H q = none) (e : EvQ p q n H n' H') (si : p.SI n' H') (hn : H' q ≠ none) : St0 p n' (more B q) H' := by
  have s' := st.go (e.ev hq) si
  refine ⟨fun a z => (s'.subc a z).imp .inl id, fun a z => ?_, si, s'.ext⟩
  rcases z with (z | z) | z
  · exact s'.trk a (.inl z)
  · rw [z]
    exact hn
  · exact s'.trk a (.inr z)
theorem env_q0 (nf : p.fx = none) {n n' : Sx} {B : Addr → Prop} {H H' : Hp} {q : Addr} {σ : L2.St} {E : Env} (r : EnvR K p n B H σ E) (st : St0 p n B H) (hq : H q = none) (e : EvQ p q n H n' H') : EnvR K p n' (more B q) H' σ E := by
  have em : Tr (bm p (more B q) n) H (bm p (more B q) n') H' := (e.ev hq).tr
  refine ⟨r.len, fun i x h => ?_, r.nd, .no nf, r.pn⟩
  obtain ⟨s, k1, k2⟩ := r.at_ i x h
  refine ⟨s, k1, ?_⟩
  cases k2 with
  | unk _ => exact .unk _
  | val z => exact .val ((rep_more hq z).tr em)
  | own b n' nc h0 hl z => exact .own (.inl b) (fun z => n' (e.old _ z (some_ne hl))) nc h0 ((e.ev hq).ext.keep _ _ hl n') ((reps_more hq z).tr em)
  | stm => exact .stm
  | scr z => exact .scr fun H2 hk => z H2 fun o ho hi => hk o (e.ext.imm _ o ho hi) hi
theorem env_q {n n' : Sx} {B : Addr → Prop} {H H' : Hp} {q : Addr} {σ : L2.St} {E : Env} (r : EnvR K p n B H σ E) (st : St0 p n B H) (hq : H q = none) (e : EvQ p q n H n' H') : EnvR K p.quiet n' (more B q) H' σ E :=
  env_q0 (p := p.quiet) rfl r.quiet st.quiet hq ⟨e.ext, e.up, e.old, e.dom⟩
theorem upd_q {B : Addr → Prop} {H : Hp} {q : Addr} {xs ys : List V} (b : B q) (hq : H q = some (.lst xs)) : Ext B H (upd H q (.lst ys)) := by
  refine ⟨fun a o e nb => ?_, fun a o e im => ?_, fun a nn => ?_⟩
  · have ne : a ≠ q := fun z => nb (by rw [z]; exact b)
    rw [upd_ne ne]
    exact e
  · have ne : a ≠ q := fun z => by
      subst z
      rw [hq] at e
      cases e
      exact im
    rw [upd_ne ne]
    exact e
  · by_cases z : a = q
    · rw [z, upd_same]
      exact fun z => nomatch z
    · rw [upd_ne z]
      exact nn
theorem ev_comp {cb : Bool} {vb : Bool} (S : SitB cb vb X p k) {wi : TI} {t : Tg} {mi : XA} {mt : XT} {me : XE} {vs : List Nat}
    (hi : ∀ (B : Addr → Prop) (H : Hp) (σ : L2.St) (E : Env) (c : Sx) (P : List D → Sx → Prop) (R : It → Hp → Prop), St0 p c B H → EnvR X.K p c B H σ E → mi E c P p.XP →
      (∀ ds c' J H', P ds c' → Ev p c H c' H' → p.SI c' H' → WalkD X.K (bm p B c') H' J ds → R J H') → wi σ H R) (hx : ∀ j ∈ t.ix, j ∈ vs) :
    EvF X.K p (tLc wi (gOf X.K t) (ttOf X.K p.quiet mt) (teOf X.K p.quiet me) vs) (eComp mi t mt me vs) := by
  intro B H σ E c P Q st r m kk
  refine hi B H σ E _ _ _ st r m fun ds c1 J H1 m1 e1 s1 w => ?_
  have st1 := st.go e1 s1
  intro q hq
  have q0 := q_new st1 e1 hq
  obtain ⟨G, g0, g1, wk⟩ := w.ex
  have r1 := r.go st e1
  have x0 : EvQ p q c1 H1 c1 (upd H1 q (.lst [])) := .of (All.new hq).ext
  refine lc_it wk (fun i H' => ∃ acc accD c', H' q = some (.lst acc) ∧ Reps X.K (bm p (more B q) c') H' acc accD ∧ p.SI c' H' ∧ (¬ p.B0 c' q ∧ EvQ p q c1 H1 c' H') ∧ compL t mt me (ds.drop i) accD (wipeE E vs) c' (fun ys n => P (.list ys) n) (fun _ _ => False))
    ⟨[], [], c1, upd_same, .nil, st1.all S.ok (All.new hq), ⟨q0.2, x0⟩, m1⟩ (fun i H' _ ⟨acc, accD, c', h1, h2, h3, h4, h5⟩ => g1 _ H' (tr_q st1 hq h4.2)) ?_ ?_
  · rintro i x H' H'' hi' ⟨acc, accD, c', h1, h2, h3, ⟨nq, h4⟩, h5⟩ ⟨al, y⟩
    have stq := st_q st1 hq h4 h3 (by rw [h1]; exact fun z => nomatch z)
    obtain ⟨d, hd, rd⟩ := y _ (tr_q st1 hq h4) stq.trk
    rw [compL_drop hd] at h5
    cases hp : t.put d (wipeE E vs) with
    | none => rw [hp] at h5; exact h5.elim
    | some E1 =>
      rw [hp] at h5
      have h4' : EvQ p q c1 H1 c' H'' := h4.trans (All.ev (Z := p.B0) al).q
      have s'' : p.SI c' H'' := stq.all S.ok al
      have hq'' : H'' q = some (.lst acc) := al q _ h1
      have stq2 := st_q st1 hq h4' s'' (by rw [hq'']; exact fun z => nomatch z)
      have rq2 := env_q r1 st1 hq h4'
      refine gOf_put rfl (rq2.wipe rfl vs) rd hp _ fun σ2 g2 gl gx => ?_
      refine ⟨?_, ?_⟩
      · exact (wipe_same gl fun j hj => gx j fun z => hj (hx j z)).trans (wipe_wipe σ vs)
      · refine ⟨more B q, E1, c', _, stq2.quiet, g2, h5, fun b c2 H3 m3 e3 s3 => ?_⟩
        have h43 : EvQ p q c1 H1 c2 H3 := h4'.trans e3.loud.q
        have nq3 : ¬ p.B0 c2 q := fun z => nq (e3.old q z (some_ne hq''))
        have hq3 : H3 q = some (.lst acc) := e3.ext.keep q _ hq'' nq
        have rs3 : Reps X.K (bm p (more B q) c2) H3 acc accD := (h2.mono al.ext).tr (stq2.up e3.loud)
        cases b with
        | false => exact ⟨acc, accD, c2, hq3, rs3, s3, ⟨nq3, h43⟩, m3⟩
        | true =>
          have stq3 := st_q st1 hq h43 s3 (by rw [hq3]; exact fun z => nomatch z)
          refine ⟨more B q, E1, c2, _, stq3.quiet, g2.go stq2.quiet e3, m3, fun y c4 v H4 m4 e4 s4 r4 => ?_⟩
          have h44 : EvQ p q c1 H1 c4 H4 := h43.trans e4.loud.q
          have nq4 : ¬ p.B0 c4 q := fun z => nq3 (e4.old q z (some_ne hq3))
          have hq4 : H4 q = some (.lst acc) := e4.ext.keep q _ hq3 nq3
          have rs4 := rs3.tr (stq3.up e4.loud)
          have x5 : Ext (plusQ p c4 q) H4 (upd H4 q (.lst (acc ++ [v]))) := upd_q (.inr rfl) hq4
          have x5' : Ext (bm p (more B q) c4) H4 (upd H4 q (.lst (acc ++ [v]))) := upd_q (.inl (.inr rfl)) hq4
          refine ⟨acc, hq4, by rw [rs4.length]; exact small_lt m4.1, acc ++ [v], accD ++ [y], c4, upd_same, (rs4.append (.cons r4 .nil)).mono x5', ?_, ⟨nq4, h44.trans (.of x5)⟩, m4.2⟩
          refine S.ok.stab c4 H4 _ s4 (fun a o ha e => ?_) x5.imm
          have na : a ≠ q := fun z => nq4 (by rw [← z]; exact ha)
          rw [upd_ne na]
          exact e
  · rintro H' ⟨acc, accD, c', h1, h2, h3, ⟨nq, h4⟩, h5⟩
    rw [List.drop_length] at h5
    exact kk accD c' q acc H' h5 (e1.trans (h4.ev hq)) h3 ⟨q0.1, nq⟩ h1 h2
theorem pf_comp {vb : Bool} (S : SitB true vb X p k) {elt tg iter : Expr} {ifs : List Expr} {scope : Scope} {pos : Pos} {t : Tg} {mi : XA} {mt : XT} {me : XE} (own : List (Str × Nat)) (hi : PDI X p tg iter mi) (ok : BlkOk X.N X.env.scope scope own) (hx : ∀ j ∈ t.ix, j ∈ own.map (·.2))
    (hg : ∀ (s : Shared) (H : Hp) (C : Addr) (cl : List (Str × Addr)) (fp : List Addr), PG (X.blk s H scope (compEnvC scope cl C X.env) fp) tg (gOf X.K t))
    (ht : ∀ (s : Shared) (H : Hp) (C : Addr) (cl : List (Str × Addr)) (fp : List Addr), Sit (X.blk s H scope (compEnvC scope cl C X.env) fp) p.quiet k → PDTs (X.blk s H scope (compEnvC scope cl C X.env) fp) p.quiet ifs mt)
    (he : ∀ (s : Shared) (H : Hp) (C : Addr) (cl : List (Str × Addr)) (fp : List Addr), Sit (X.blk s H scope (compEnvC scope cl C X.env) fp) p.quiet k → PD (X.blk s H scope (compEnvC scope cl C X.env) fp) p.quiet elt me)
    (hs : ∀ x, foldedSetIterable iter X.env x = pure x := by intro _; rfl) : PDF X p (.ListComp elt [⟨tg, iter, ifs, 0⟩] scope pos) (eComp mi t mt me (own.map (·.2))) := by
  obtain ⟨wi, a1, a2⟩ := hi.ex
  exact ⟨_, pe_lc (tt := ttOf X.K p.quiet mt) (te := teOf X.K p.quiet me) S.calm S.nd a1 ok hg (fun s H C cl fp => (ht s H C cl fp S.quiet).pts) (fun s H C cl fp => (he s H C cl fp S.quiet).pe) hs, ev_comp S a2 hx⟩
/-- name = [..]: the name a local; w: owned -/
theorem sd_comp (S : SitB true true X p k) {i : Nat} {y : Str} {py spos : Pos} {elt tg iter : Expr} {ifs : List Expr} {scope : Scope} {pos : Pos} {t : Tg} {mi : XA} {mt : XT} {me : XE} (own : List (Str × Nat)) (hy : X.N[i]? = some y) (hyl : X.env.scope.names.lookup y = some .local)
    (hsw : swapsWith (.ListComp elt [⟨tg, iter, ifs, 0⟩] scope pos) (some (.Name y py)) spos.line X.env = pure true) (hi : PDI X p tg iter mi) (ok : BlkOk X.N X.env.scope scope own) (hx : ∀ j ∈ t.ix, j ∈ own.map (·.2))
    (hg : ∀ (s : Shared) (H : Hp) (C : Addr) (cl : List (Str × Addr)) (fp : List Addr), PG (X.blk s H scope (compEnvC scope cl C X.env) fp) tg (gOf X.K t))
    (ht : ∀ (s : Shared) (H : Hp) (C : Addr) (cl : List (Str × Addr)) (fp : List Addr), Sit (X.blk s H scope (compEnvC scope cl C X.env) fp) p.quiet k → PDTs (X.blk s H scope (compEnvC scope cl C X.env) fp) p.quiet ifs mt)
    (he : ∀ (s : Shared) (H : Hp) (C : Addr) (cl : List (Str × Addr)) (fp : List Addr), Sit (X.blk s H scope (compEnvC scope cl C X.env) fp) p.quiet k → PD (X.blk s H scope (compEnvC scope cl C X.env) fp) p.quiet elt me)
    (hs : ∀ x, foldedSetIterable iter X.env x = pure x := by intro _; rfl) : PSD X p (.Assign [.Name y py] (.ListComp elt [⟨tg, iter, ifs, 0⟩] scope pos) spos) (sAsg i (eComp mi t mt me (own.map (·.2)))) := by
  obtain ⟨wi, a1, a2⟩ := hi.ex
  exact ⟨_, ps_setLc (tt := ttOf X.K p.quiet mt) (te := teOf X.K p.quiet me) S.calm S.nd hy hyl hsw a1 ok hg (fun s H C cl fp => (ht s H C cl fp S.quiet).pts) (fun s H C cl fp => (he s H C cl fp S.quiet).pe) hs, sr_asg S.nf (ev_comp S a2 hx).ev⟩
end
end DL
end
section
namespace DL
open PySem PySem.Spec PyProof.Rows L2
/-- a def of the module, without defaults -/
abbrev FnP (K : PySem.W.Frag) (x qual : Str) (st : Stmt) (f : Addr) (fd : FuncData) : Prop := FunD K x qual (defArgs st) (defBody st) (defScope st) [] [] f fd
/-- a def keeps its promise wherever no repr is under way -/
structure FnG (cb : Bool) (P : Program) (w : World) (K : PySem.W.Frag) (mg : Str → Option Value) (base : Heap) (k : Nat) (f : Addr) (fd : FuncData) (ps : List Str) (sp : Sp) : Prop where
  len : ∀ vs H Q E, sp vs H Q E → vs.length = ps.length
  go : ∀ (A : Around) (outer : List PySem.Env) (s : Shared) (H : Hp) (args : Args) (us : List Value) (vs : List V) (Q : VK) (E : XK), RoomB cb k A → A.guards = some [] → Env0 P w K mg base A outer s H →
    BindsTo s fd args (ps.zip us) → Vals vs us → sp vs H Q E → codeAny (model P w) A (.call (.ref f) args) (CR (L2.CX P w) outer P w H s Q E) s
section
variable {P : Program} {w : World} {K : PySem.W.Frag} {mg : Str → Option Value} {base : Heap} {cb : Bool}
theorem FnG.mono {j k : Nat} {f : Addr} {fd : FuncData} {ps : List Str} {sp : Sp} (F : FnG cb P w K mg base j f fd ps sp) (h : j ≤ k) : FnG cb P w K mg base k f fd ps sp :=
  ⟨F.len, fun A outer s H args us vs Q E hr => F.go A outer s H args us vs Q E (hr.mono h)⟩
/-- a body's context; cb: nothing is handled -/
abbrev bodyX (cb : Bool) (P : Program) (w : World) (K : PySem.W.Frag) (mg : Str → Option Value) (base : Heap) (N : List Str) (qual : Str) (st : Stmt) (f : Addr) (cdv : Value) (A : Around) (outer : List PySem.Env) (s : Shared) (H : Hp) (E : XK) : Cx :=
  { cxOf (L2.CX P w) P w K mg base N qual (defScope st) f cdv A outer s H E with calm := cb }
/-- .. at its start, also where something is handled -/
theorem inv_cool {cb : Bool} {A A' : Around} {N : List Str} {qual : Str} {st : Stmt} {f : Addr} {cdv : Value} {outer : List PySem.Env} {s s1 : Shared} {H : Hp} {E : XK} {σ : L2.St} (hc : cb = true → A.handled = none) (hf : A.frames = A'.frames)
    (I : Inv (cxOf (L2.CX P w) P w K mg base N qual (defScope st) f cdv A' outer s H E) [] σ H s1) : Inv (bodyX cb P w K mg base N qual st f cdv A outer s H E) [] σ H s1 := by
  have k := I.ok
  have fr : (A.deeper (envOfC qual (defScope st) s.heap.objs.size f cdv)).frames = some (envOfC qual (defScope st) s.heap.objs.size f cdv :: outer) := by
    have e1 : (A'.deeper (envOfC qual (defScope st) s.heap.objs.size f cdv)).frames = some (envOfC qual (defScope st) s.heap.objs.size f cdv :: outer) := k.frames
    have e2 : ∀ B : Around, (B.deeper (envOfC qual (defScope st) s.heap.objs.size f cdv)).frames = B.frames.map (envOfC qual (defScope st) s.heap.objs.size f cdv :: ·) := fun B => rfl
    rw [e2] at e1 ⊢
    rw [hf]
    exact e1
  exact ⟨⟨k.mod, k.kind, k.glob, k.blt, k.above, k.inj, k.has, k.cab, hc, fr, k.stk, k.exf, k.bs, k.bsz, k.noex, k.exfs, k.funs, k.frf⟩, I.os, I.bare, I.base, I.loc, I.cell, I.free, I.freeC, I.pin, I.hok, I.len⟩
/-- a def by its body -/
theorem fnG_body {x qual : Str} {st : Stmt} {f : Addr} {fd : FuncData} {N ps : List Str} {k : Nat} {sp : Sp} (F : FnP K x qual st f fd) (S : FnScope N ps (defScope st)) (len : ∀ vs H Q E, sp vs H Q E → vs.length = ps.length)
    (body : ∀ (cdv : Value) (A : Around) (outer : List PySem.Env) (s : Shared) (H : Hp) (vs : List V) (Q : VK) (E : XK), RoomB cb k (A.deeper (envOfC qual (defScope st) s.heap.objs.size f cdv)) → (A.deeper (envOfC qual (defScope st) s.heap.objs.size f cdv)).guards = some [] → sp vs H Q E →
      ∃ t, PSs (bodyX cb P w K mg base N qual st f cdv A outer s H E) (defBody st) t ∧ t { nx := fun _ H' => Q .non H', rt := Q } (L2.start N vs) H) : FnG cb P w K mg base (k + 1) f fd ps sp := by
  obtain ⟨oc, od, dV, kV, doc, pm, an, cdv, ct, osl, rfl, lk, hcd, _, _⟩ := F.ex
  refine ⟨len, fun A outer s H args us vs Q E hr hgd e0 hb rv hsp => ?_⟩
  have lengths := len vs H Q E hsp
  have inHeap : K.In s.heap := e0.mod.kin.keeps (fun b o q => (e0.bs b o q).1)
  have noLimit : s.heap.NoLimit := e0.mod.nolimit.keeps (fun b o q => (e0.bs b o q).1)
  refine codeAny_call_function hr.depth (inHeap f _ lk) rfl S.co S.gen rfl (PySem.W.codeRec_of inHeap hcd) (hb _ _ _ _ ?_)
  refine wpAny_newFunctionEnv_cells S.kind (fun y hy => ?_) (fun env henv s1 entered => ?_)
  · obtain ⟨n, v⟩ := y
    rcases S.par n (List.of_mem_zip hy).1 with hl | hc
    · exact Or.inl hl
    · exact Or.inr ⟨hc, PySem.W.cellsFrom_some _ _ _ (Or.inl hc)⟩
  · subst henv
    refine ⟨noLimit.keeps entered.toInCall.keep, codeAny_func ?_⟩
    obtain ⟨t, ht, hq⟩ := body cdv A outer s H vs Q E (hr.deeper _) hgd hsp
    have e1 : Env0 P w K mg base ({ A with handled := none }) outer s H := ⟨e0.frames, e0.mod, e0.bs, e0.bsz, e0.funs, e0.frf, e0.hok, e0.bare⟩
    have J0 := inv_cool (A := A) (cb := cb) hr.hd_ rfl (A' := { A with handled := none }) (inv_start (A := { A with handled := none }) (CX := L2.CX P w) (P := P) (w := w) (mg := mg) (base := base) (E := E) S rfl e1 lengths rv entered)
    refine wpAny_mono (ht.run [] s1 (L2.start N vs) H _ J0 hq) (fun fl s' done => ?_) (fun _ _ left => left)
    cases fl with
    | brk => obtain ⟨_, _, _, no⟩ := done; exact no.elim
    | cont => obtain ⟨_, _, _, no⟩ := done; exact no.elim
    | next =>
      obtain ⟨σ', H', J, q⟩ := done
      exact ⟨V.non, H', J.os, J.bare, J.base, J.hok, rfl, q⟩
    | ret u =>
      obtain ⟨v, σ', H', J, r, q⟩ := done
      exact ⟨v, H', J.os, J.bare, J.base, J.hok, r, q⟩
end
section
variable {X : Cx} {p : Par} {k : Nat} {cb vb : Bool}
/-- the callee runs; what it may let out is taken -/
theorem run_G {pins : List (Addr × Obj)} {σ : L2.St} {H : Hp} {s : Shared} {Q : VK} {us : List Value} {vs : List V} {f : Addr} {fd : FuncData} {ps : List Str} {sp : Sp} {E : XK} (F : FnG cb X.prog X.w X.K X.mg X.base k f fd ps sp) (hr : RoomB cb k X.A) (hg : X.A.guards = some []) (hb : Binds X.K fd ps [])
    (hx : PassesAt (L2.CX X.prog X.w) X σ E) (I : Inv X pins σ H s) (r : Vals vs us) (h : sp vs H Q E) : wpAny (model X.prog X.w) X.A (call (.ref f) us) (EP X pins σ Q) X.xe s := by
  have hl : us.length = ps.length := r.length.symm.trans (F.len vs H Q E h)
  have bound := hb s us I.kIn (by rw [List.append_nil]; exact hl)
  rw [List.append_nil] at bound
  refine wpAny_call (codeAny_mono (F.go X.A X.stack s H ⟨us, []⟩ us vs Q E hr hg I.env0 bound r h) (fun res s' hq => ?_))
  match res, hq with
  | .error e, hq => exact hx pins H s e s' I hq
  | .ok (.ret u), hq => exact I.after hq
  | .ok .next, hq => exact hq.elim
  | .ok .brk, hq => exact hq.elim
  | .ok .cont, hq => exact hq.elim
theorem pe_G {f : Addr} {fd : FuncData} {ps : List Str} {sp : Sp} {E : L2.St → XK} {x : Str} {pn pos : Pos} {e : Expr} {es : List Expr} {t : TA} (F : FnG cb X.prog X.w X.K X.mg X.base k f fd ps sp) (hr : RoomB cb k X.A) (hgd : X.A.guards = some []) (hm : X.mg x = some (.ref f)) (hk : PySem.W.keepIn X.K (.ref f) = true)
    (hb : Binds X.K fd ps []) (hx : ∀ σ, PassesAt (L2.CX X.prog X.w) X σ (E σ)) (ha : PA X (e :: es) t) (hg : Gl X x := by rfl) (hdb : (x == ("__debug__" : Str)) = false := by decide) (he : starEach (e :: es) X.env = (false, eval e X.env) :: starEach es X.env := by rfl)
    (hpl : (backTo pos (starEach es X.env)).any (·.1) = false := by rfl) : PE X (.Call (.Name x pn) (e :: es) [] pos) (tCallSD sp [] E t) := by
  refine ⟨fun pins s σ H Q I h => wpAny_Call_Name_kw (ld_glob I hg hm ?_ hdb)⟩
  refine PySem.W.callWith_K (h₀ := X.base) I.ok.mod.kin hk (thn (ha.run pos pins s σ H _ I h) ?_) he hpl
  rintro us s1 ⟨vs, H1, I1, r1, q1⟩
  rw [List.append_nil] at q1
  exact ⟨I1.kIn, run_G F hr hgd hb (hx σ) I1 r1 q1⟩
end
theorem exrep_go {K : PySem.W.Frag} {mg : Str → Option Value} {B B' : Addr → Prop} {H : Hp} {x : Exn} {c : Value} {d : Option Addr} (h : ∀ a, B' a → B a) (r : ExRep K mg B H x c d) : ExRep K mg B' H x c d := by
  obtain ⟨h1, h2, h3⟩ := r
  refine ⟨h1, h2, ?_⟩
  obtain ⟨xc, xf⟩ := x
  match xf, h3 with
  | [], h3 => exact h3
  | [(f, y)], ⟨dd, v, e1, e2, e4, e3⟩ => exact ⟨dd, v, e1, e2, fun z => e4 (h _ z), e3.less h⟩
  | _ :: _ :: _, h3 => exact h3
/-- a def that draws nothing: it does what m does of its arguments -/
def spF (K : PySem.W.Frag) (mg : Str → Option Value) (m : Fn) : Sp := fun vs H Q EK => ∃ (B : Addr → Prop) (ds : List D) (c : Sx) (P : D → Sx → Prop) (XP : Exn → Sx → Prop),
  (∀ a, B a → H a ≠ none) ∧ Reps K B H vs ds ∧ m ds c P XP ∧ (∀ d v H', P d c → All H H' → Rep K B H' v d → Q v H') ∧ ∀ x cl dd H', XP x c → All H H' → ExRep K mg B H' x cl dd → EK cl dd H'
/-- the stream at S: its large cells at L, its cells at C -/
def strB (S L C : Addr) : Addr → Prop := fun a => a = S ∨ a = L ∨ a = C
structure StrI (S L C : Addr) (c : Nat) (H : Hp) : Prop where
  sl : S ≠ L
  sc : S ≠ C
  lc : L ≠ C
  ex : ∃ (ls cs : List Int) (t : Nat), t ≤ c ∧ H S = some (.lst [.ref L, .ref C, .int t]) ∧ H L = some (.lst (ls.map V.int)) ∧ H C = some (.lst (cs.map V.int)) ∧ cs ≠ [] ∧ (∀ x ∈ ls, 0 ≤ x) ∧ (∀ x ∈ cs, 0 ≤ x) ∧ cs.length ≤ 1000
theorem StrI.at_ {S L C a : Addr} {c : Nat} {H : Hp} (h : StrI S L C c H) (b : strB S L C a) : H a ≠ none := by
  obtain ⟨ls, cs, t, _, h1, h2, h3, _⟩ := h.ex
  rcases b with rfl | rfl | rfl
  · rw [h1]; exact fun z => nomatch z
  · rw [h2]; exact fun z => nomatch z
  · rw [h3]; exact fun z => nomatch z
/-- what the text must say of a class whose objects have cells -/
structure ClsP (K : PySem.W.Frag) (n : Str) : Prop where
  cls : Cls K (He.ga K n)
  nat : ∀ f ∈ fldN, NoAttr K (He.ga K n) f
/-- what a cell is in the heap: its data holds no lists but cells -/
inductive CellAt (K : PySem.W.Frag) (H : Hp) (a : Addr) : Cell → Prop
  | lst {xs : List V} {ds : List D} : H a = some (.lst xs) → flatAll ds = true → Reps K (fun _ => False) H xs ds → CellAt K H a (.lst ds)
  | ins {n : Str} {dx : Addr} {xs : List (Str × V)} {fs : List (Str × D)} : ClsP K n → (∀ f ∈ fs.map (·.1), f ∈ fldN) → (fs.map (·.1)).Nodup → H a = some (.ins (He.ga K n) dx xs) → xs.map (·.1) = fs.map (·.1) → flatAll (fs.map (·.2)) = true → Reps K (fun _ => False) H (xs.map (·.2)) (fs.map (·.2)) → CellAt K H a (.ins n fs)
/-- the places of the state: the stream's, the cells -/
def cB (S L C : Addr) (c : Sx) : Addr → Prop := fun a => strB S L C a ∨ c.mu a ≠ none
structure StI (K : PySem.W.Frag) (S L C : Addr) (c : Sx) (H : Hp) : Prop where
  str : StrI S L C c.n H
  at_ : ∀ a x, c.mu a = some x → ¬ strB S L C a ∧ CellAt K H a x
theorem CellAt.there {K : PySem.W.Frag} {H : Hp} {a : Addr} {x : Cell} (h : CellAt K H a x) : H a ≠ none := by
  cases h with
  | lst e _ _ => exact some_ne e
  | ins _ _ _ e _ _ _ => exact some_ne e
theorem StI.there {K : PySem.W.Frag} {S L C a : Addr} {c : Sx} {H : Hp} (h : StI K S L C c H) (b : cB S L C c a) : H a ≠ none := by
  rcases b with b | b
  · exact h.str.at_ b
  · cases e : c.mu a with
    | none => exact absurd e b
    | some x => exact (h.at_ a x e).2.there
/-- data that holds no lists: what is locked is kept -/
def Kept (H H' : Hp) : Prop := ∀ a o, H a = some o → Imm o → H' a = some o
theorem Kept.sqT {K : PySem.W.Frag} {H H' : Hp} (h : Kept H H') {a : Addr} {xs : List V} (q : SqT K H a xs) : SqT K H' a xs := by
  rcases q with (q | ⟨o, q⟩) | q
  · exact .inl (.inl (h a _ q True.intro))
  · exact .inl (.inr ⟨o, h a _ q True.intro⟩)
  · exact .inr q
mutual
theorem Rep.kept {K : PySem.W.Frag} {B B' : Addr → Prop} {H H' : Hp} (h : Kept H H') : ∀ {v : V} {d : PyData}, DL.flat d = true → Rep K B H v d → Rep K B' H' v d
  | _, _, _, .non => .non
  | _, _, _, .bl b => .bl b
  | _, _, _, .int i => .int i
  | _, _, _, .str x => .str x
  | _, _, h, .lst _ _ _ => by simp [DL.flat] at h
  | _, _, g, .tup e r => .tup (h.sqT e) (Reps.kept h (by simpa [DL.flat] using g) r)
  | _, _, h, .dct0 _ _ => by simp [DL.flat] at h
  | _, _, h, .dct1 _ _ _ => by simp [DL.flat] at h
  | _, _, h, .exn0 _ _ _ => by simp [DL.flat, xD] at h
  | _, _, h, .exn1 _ _ _ _ _ _ => by simp [DL.flat, xD] at h
  | _, _, _, .rf a => .rf a
  | _, _, h, .wr _ _ _ => by simp [DL.flat, wD] at h
theorem Reps.kept {K : PySem.W.Frag} {B B' : Addr → Prop} {H H' : Hp} (h : Kept H H') : ∀ {vs : List V} {ds : List PyData}, DL.flatAll ds = true → Reps K B H vs ds → Reps K B' H' vs ds
  | _, _, _, .nil => .nil
  | _, _, g, .cons r t => by
    simp only [DL.flatAll, Bool.and_eq_true] at g
    exact .cons (Rep.kept h g.1 r) (Reps.kept h g.2 t)
end
theorem CellAt.go {K : PySem.W.Frag} {H H' : Hp} {a : Addr} {x : Cell} (h : CellAt K H a x) (k : Kept H H') (same : ∀ o, H a = some o → H' a = some o) : CellAt K H' a x := by
  cases h with
  | lst e f r => exact .lst (same _ e) f (r.kept k f)
  | ins h1 h2 h3 e q f r => exact .ins h1 h2 h3 (same _ e) q f (r.kept k f)
theorem StrI.same {S L C : Addr} {c : Nat} {H H' : Hp} (h : StrI S L C c H) (k : ∀ a o, strB S L C a → H a = some o → H' a = some o) : StrI S L C c H' := by
  obtain ⟨ls, cs, t, ht, h1, h2, h3, h4⟩ := h.ex
  exact ⟨h.sl, h.sc, h.lc, ls, cs, t, ht, k _ _ (.inl rfl) h1, k _ _ (.inr (.inl rfl)) h2, k _ _ (.inr (.inr rfl)) h3, h4⟩
theorem StI.same {K : PySem.W.Frag} {S L C : Addr} {c : Sx} {H H' : Hp} (h : StI K S L C c H) (k : ∀ a o, cB S L C c a → H a = some o → H' a = some o) (im : Kept H H') : StI K S L C c H' :=
  ⟨h.str.same fun a o b e => k a o (.inl b) e, fun a x e => ⟨(h.at_ a x e).1, (h.at_ a x e).2.go im fun o q => k a o (.inr (by rw [e]; exact fun z => nomatch z)) q⟩⟩
/-- the places of a caller and those of the state -/
def bc (B : Addr → Prop) (S L C : Addr) (c : Sx) : Addr → Prop := fun a => B a ∨ cB S L C c a
/-- a def that goes on from one state to another; the stream is its first argument (st), or it is not handed over -/
def spG (st : Bool) (K : PySem.W.Frag) (mg : Str → Option Value) (m : Fn) : Sp := fun vs H Q EK => ∃ (S L C : Addr) (ws : List V) (B : Addr → Prop) (ds : List D) (c : Sx) (P : D → Sx → Prop) (XP : Exn → Sx → Prop),
  vs = (if st = true then [.ref S] else []) ++ ws ∧ (∀ a, bc B S L C c a → H a ≠ none) ∧ StI K S L C c H ∧ Reps K (bc B S L C c) H ws ds ∧ m ds c P XP ∧
  (∀ d c' v H', P d c' → EvB (cB S L C) c H c' H' → StI K S L C c' H' → Rep K (bc B S L C c') H' v d → Q v H') ∧
  ∀ x c' cl dd H', XP x c' → EvB (cB S L C) c H c' H' → StI K S L C c' H' → ExRep K mg (bc B S L C c') H' x cl dd → EK cl dd H'
/-- a def whose first argument is the stream -/
abbrev spS := spG true
/-- a def that is not handed the stream -/
abbrev spC := spG false
section
variable {P : Program} {w : World} {K : PySem.W.Frag} {mg : Str → Option Value} {base : Heap} {cb : Bool}
/-- the body's par: a def that draws nothing -/
def parF (H : Hp) (B : Addr → Prop) (c : Sx) (XP : Exn → Sx → Prop) (EK : XK) : Par := ⟨fun _ _ => False, fun c' _ => c' = c, 0, H, c, B, XP, fun _ => EK, none, fun _ => none⟩
def parS (K : PySem.W.Frag) (S L C : Addr) (H : Hp) (c : Sx) (B : Addr → Prop) (XP : Exn → Sx → Prop) (EK : XK) : Par := ⟨cB S L C, StI K S L C, S, H, c, B, XP, fun _ => EK, none, fun _ => none⟩
theorem sit_body {qual : Str} {st : Stmt} {f : Addr} {N ps : List Str} {k : Nat} {p : Par} {cdv : Value} {A : Around} {outer : List PySem.Env} {s : Shared} {H : Hp} {E : XK} (S : FnScope N ps (defScope st))
    (hr : RoomB cb k (A.deeper (envOfC qual (defScope st) s.heap.objs.size f cdv))) (hg : (A.deeper (envOfC qual (defScope st) s.heap.objs.size f cdv)).guards = some []) (ok : p.Ok K mg) (hE : ∀ σ c d H, p.EK σ c d H → E c d H) (nf : p.fx = none) (sm : HasSm base) :
    SitB cb true (bodyX cb P w K mg base N qual st f cdv A outer s H E) p k where
  calm_ := fun h => h
  gd := hg
  rm := hr
  nd := S.nd
  ok := ok
  po := passes_of rfl
  tk := (takes_of (E := E) rfl rfl rfl rfl).imp fun c d σ H h => hE σ c d H h
  nf_ := fun _ => nf
  sm := sm
theorem env_start {p : Par} {n : Sx} {B : Addr → Prop} {H : Hp} {vs : List V} {E : Env} {N : List Str} (hl : vs.length ≤ N.length) (hE : vs.length = E.length) (r : ∀ (i : Nat) (e : Ent), E[i]? = some e → ∃ v, vs[i]? = some v ∧ Slot K p n B H (some v) e) (no : ∀ (i : Nat) (ds : List D), E[i]? ≠ some (.own ds)) (nf : p.fx = none) :
    EnvR K p n B H (L2.start N vs) (DL.start N.length E) := by
  have l1 : (L2.start N vs).length = N.length := by
    unfold L2.start
    rw [List.length_append, List.length_map, List.length_replicate]
    omega
  have l2 : (DL.start N.length E).length = N.length := by
    unfold DL.start
    rw [List.length_append, List.length_replicate]
    omega
  have own : ∀ (i : Nat) (ds : List D), (DL.start N.length E)[i]? ≠ some (.own ds) := by
    intro i ds h
    unfold DL.start at h
    by_cases hi : i < E.length
    · rw [List.getElem?_append_left hi] at h
      exact no i ds h
    · rw [List.getElem?_append_right (by omega), List.getElem?_replicate] at h
      split at h <;> cases h
  refine ⟨l1.trans l2.symm, fun i e h => ?_, fun i j a xs ys h => absurd h (own i xs), .no nf, fun i a xs _ h => absurd h (own i xs)⟩
  unfold DL.start at h
  by_cases hi : i < E.length
  · rw [List.getElem?_append_left hi] at h
    obtain ⟨v, h1, h2⟩ := r i e h
    refine ⟨some v, ?_, h2⟩
    unfold L2.start
    rw [List.getElem?_append_left (by rw [List.length_map]; omega), List.getElem?_map, h1]
    rfl
  · rw [List.getElem?_append_right (by omega), List.getElem?_replicate] at h
    split at h
    · cases h
      have : i < (L2.start N vs).length := by rw [l1]; omega
      exact ⟨_, List.getElem?_eq_getElem this, .unk _⟩
    · cases h
theorem vals_at {n : Sx} {B : Addr → Prop} {H : Hp} {p : Par} {vs : List V} {ds : List D} (r : Reps K (bm p B n) H vs ds) (i : Nat) (e : Ent) (h : (ds.map Ent.val)[i]? = some e) : ∃ v, vs[i]? = some v ∧ Slot K p n B H (some v) e := by
  rw [List.getElem?_map] at h
  cases q : ds[i]? with
  | none => rw [q] at h; cases h
  | some d =>
    rw [q] at h
    cases h
    obtain ⟨v, h1, h2⟩ := r.get q
    exact ⟨v, h1, .val h2⟩
theorem all_of {H H' : Hp} (e : Ext (fun _ => False) H H') : All H H' := fun a o h => e.keep a o h fun z => z
theorem bmF {H : Hp} {B B2 : Addr → Prop} {c c' : Sx} {XP : Exn → Sx → Prop} {EK : XK} : ∀ a, bm (parF H B c XP EK) B2 c' a → B2 a := fun a z => z.elim id fun z => z.elim
/-- a def that draws nothing, by its body's words -/
theorem fn_pure (sm : HasSm base) {x qual : Str} {st : Stmt} {f : Addr} {fd : FuncData} {N ps : List Str} {k : Nat} {m : XS} (F : FnP K x qual st f fd) (S : FnScope N ps (defScope st)) (hl : ps.length ≤ N.length)
    (body : ∀ (cdv : Value) (A : Around) (outer : List PySem.Env) (s : Shared) (H : Hp) (E : XK) (p : Par), SitB cb true (bodyX cb P w K mg base N qual st f cdv A outer s H E) p k → (∀ n n' H H', p.SI n H → p.SI n' H' → p.SI n H') → (∀ i, p.pin i = none) → PSSD (bodyX cb P w K mg base N qual st f cdv A outer s H E) p (defBody st) m) :
    FnG cb P w K mg base (k + 1) f fd ps (spF K mg (fn ps.length N.length m)) := by
  refine fnG_body F S (fun vs H Q E ⟨_, _, _, _, _, _, rs, mm, _⟩ => rs.length.trans mm.1) (fun cdv A outer s H vs Q E hr hg hsp => ?_)
  obtain ⟨B, ds, c, Pd, XP, trk, rs, ⟨hn, mm⟩, kq, ke⟩ := hsp
  have ok : (parF H B c XP E).Ok K mg := ⟨fun _ _ _ h _ _ => h, fun n n' x cl d B1 H1 H' σ st _ hx hs he hr => by
    have hc : n' = c := hs
    subst hc
    exact ke x cl d H' hx (all_of (st.ext.trans he).ext) (exrep_go (fun a z => bm_more he.up a (st.subc a z)) hr)⟩
  have S' := sit_body (P := P) (w := w) (base := base) (mg := mg) (f := f) (outer := outer) (H := H) (p := parF H B c XP E) (E := E) S hr hg ok (fun _ _ _ _ h => h) rfl sm
  obtain ⟨ts, a1, a2⟩ := (body cdv A outer s H E _ S' (fun n n' H1 H2 (h1 : n = c) _ => h1) fun _ => rfl).ex
  refine ⟨ts, a1, a2 B H _ (DL.start N.length (ds.map Ent.val)) c (fun o c' => endOf o c' Pd XP) _ ⟨fun _ z => .inl z, fun a z => trk a (bmF a z), rfl, Ev.refl⟩ ?_ mm ?_ ?_ ?_ ?_⟩
  · refine env_start (by rw [rs.length]; omega) (by rw [List.length_map]; exact rs.length) (fun i e h => vals_at (rs.less bmF) i e h) (fun i es h => ?_) rfl
    rw [List.getElem?_map] at h
    cases q : ds[i]? with
    | none => rw [q] at h; cases h
    | some d => rw [q] at h; cases h
  · intro E' c' B' σ' H' m1 st1 t1 r1
    have hc : c' = c := st1.si
    subst hc
    exact kq .none .non H' m1 (all_of st1.ext.ext) .non
  · intro d c' v H' m1 s1 e1 r1
    have hc : c' = c := s1
    subst hc
    exact kq d v H' m1 (all_of e1.ext) (r1.less fun _ z => .inl z)
  · intro E' c' B' σ' H' m1
    exact m1.elim
  · intro E' c' B' σ' H' m1
    exact m1.elim
/-- a def that goes on from one state to another, by its body's words; b: the stream is its first argument -/
def fnGo (b : Bool) (k n : Nat) (s : XS) : Fn := if b = true then fnS k n s else fn k n s
theorem fn_go {b : Bool} (sm : HasSm base) {x qual : Str} {st : Stmt} {f : Addr} {fd : FuncData} {N ps : List Str} {k : Nat} {m : XS} (F : FnP K x qual st f fd) (S : FnScope N ps (defScope st)) (hl : ps.length ≤ N.length)
    (body : ∀ (cdv : Value) (A : Around) (outer : List PySem.Env) (s : Shared) (H : Hp) (E : XK) (p : Par), SitB cb true (bodyX cb P w K mg base N qual st f cdv A outer s H E) p k → (∃ S L C, p.B0 = cB S L C ∧ p.SI = StI K S L C ∧ p.S = S) → (∀ i, p.pin i = none) → PSSD (bodyX cb P w K mg base N qual st f cdv A outer s H E) p (defBody st) m) :
    FnG cb P w K mg base (k + 1) f fd ps (spG b K mg (fnGo b ps.length N.length m)) := by
  have hlen : ∀ vs H Q E, spG b K mg (fnGo b ps.length N.length m) vs H Q E → vs.length = ps.length := by
    rintro vs H Q E ⟨_, _, _, ws, _, _, _, _, _, e, _, _, rs, mm, _⟩
    cases b with
    | true => rw [e, List.length_append, rs.length, Nat.add_comm]; exact mm.1
    | false => rw [e, List.length_append, rs.length, Nat.add_comm]; exact mm.1
  refine fnG_body F S hlen (fun cdv A outer s H vs Q E hr hg hsp => ?_)
  have hvl := hlen vs H Q E hsp
  obtain ⟨S1, L1, C1, ws, B, ds, c, Pd, XP, rfl, trk, si, rs, mm, kq, ke⟩ := hsp
  have hlw := rs.length
  have ok : (parS K S1 L1 C1 H c B XP E).Ok K mg :=
    ⟨fun n H1 H2 h hk im => StI.same h hk im, fun n n' x cl d B1 H1 H' σ st _ hx hs he hr => ke x n' cl d H' hx (st.ext.trans he) hs (exrep_go (fun a z => z.elim (fun z => bm_more he.up a (st.subc a z)) .inr) hr)⟩
  have S' := sit_body (P := P) (w := w) (base := base) (mg := mg) (f := f) (outer := outer) (H := H) (p := parS K S1 L1 C1 H c B XP E) (E := E) S hr hg ok (fun _ _ _ _ h => h) rfl sm
  obtain ⟨ts, a1, a2⟩ := (body cdv A outer s H E _ S' ⟨S1, L1, C1, rfl, rfl, rfl⟩ fun _ => rfl).ex
  have e0 : ((if b = true then [Ent.stm] else []) ++ ds.map Ent.val).length = ((if b = true then [V.ref S1] else []) ++ ws).length := by
    cases b <;> simp [hlw]
  have mm' : (m (DL.start N.length ((if b = true then [Ent.stm] else []) ++ ds.map Ent.val))) c (fun o c' => endOf o c' Pd XP) XP := by
    cases b with
    | true => exact mm.2
    | false => exact mm.2
  refine ⟨ts, a1, a2 B H _ (DL.start N.length ((if b = true then [Ent.stm] else []) ++ ds.map Ent.val)) c (fun o c' => endOf o c' Pd XP) _ ⟨fun _ z => .inl z, trk, si, Ev.refl⟩ ?_ mm' ?_ ?_ ?_ ?_⟩
  · refine env_start (by omega) e0.symm (fun i e h => ?_) (fun i es h => ?_) rfl
    · cases b with
      | true =>
        cases i with
        | zero =>
          cases h
          exact ⟨_, rfl, .stm (p := parS K S1 L1 C1 H c B XP E)⟩
        | succ i => exact vals_at rs i e h
      | false => exact vals_at rs i e h
    · have no : ∀ i, (ds.map Ent.val)[i]? ≠ some (Ent.own es) := fun i h' => by
        rw [List.getElem?_map] at h'
        cases q : ds[i]? with
        | none => rw [q] at h'; cases h'
        | some d => rw [q] at h'; cases h'
      cases b with
      | true =>
        cases i with
        | zero => cases h
        | succ i => exact no i h
      | false => exact no i h
  · intro E' c' B' σ' H' m1 st1 t1 r1
    exact kq .none c' .non H' m1 st1.ext st1.si .non
  · intro d c' v H' m1 s1 e1 r1
    exact kq d c' v H' m1 e1 s1 r1
  · intro E' c' B' σ' H' m1
    exact m1.elim
  · intro E' c' B' σ' H' m1
    exact m1.elim
/-- a def whose first argument is the stream -/
theorem fn_str (sm : HasSm base) {x qual : Str} {st : Stmt} {f : Addr} {fd : FuncData} {N ps : List Str} {k : Nat} {m : XS} (F : FnP K x qual st f fd) (S : FnScope N ps (defScope st)) (hl : ps.length ≤ N.length)
    (body : ∀ (cdv : Value) (A : Around) (outer : List PySem.Env) (s : Shared) (H : Hp) (E : XK) (p : Par), SitB cb true (bodyX cb P w K mg base N qual st f cdv A outer s H E) p k → (∃ S L C, p.B0 = cB S L C ∧ p.SI = StI K S L C ∧ p.S = S) → (∀ i, p.pin i = none) → PSSD (bodyX cb P w K mg base N qual st f cdv A outer s H E) p (defBody st) m) :
    FnG cb P w K mg base (k + 1) f fd ps (spS K mg (fnS ps.length N.length m)) := fn_go (b := true) sm F S hl body
/-- a def that is not handed the stream and knows the cells -/
theorem fn_cel (sm : HasSm base) {x qual : Str} {st : Stmt} {f : Addr} {fd : FuncData} {N ps : List Str} {k : Nat} {m : XS} (F : FnP K x qual st f fd) (S : FnScope N ps (defScope st)) (hl : ps.length ≤ N.length)
    (body : ∀ (cdv : Value) (A : Around) (outer : List PySem.Env) (s : Shared) (H : Hp) (E : XK) (p : Par), SitB cb true (bodyX cb P w K mg base N qual st f cdv A outer s H E) p k → (∃ S L C, p.B0 = cB S L C ∧ p.SI = StI K S L C ∧ p.S = S) → (∀ i, p.pin i = none) → PSSD (bodyX cb P w K mg base N qual st f cdv A outer s H E) p (defBody st) m) :
    FnG cb P w K mg base (k + 1) f fd ps (spC K mg (fn ps.length N.length m)) := fn_go (b := false) sm F S hl body
end
section
variable {X : Cx} {p : Par} {k : Nat} {cb vb : Bool}
/-- what the caller knows of a def: where it stands, how it is called -/
structure Def (K : PySem.W.Frag) (mg : Str → Option Value) (x : Str) (f : Addr) (fd : FuncData) (ps : List Str) : Prop where
  mg : mg x = some (.ref f)
  kp : PySem.W.keepIn K (.ref f) = true
  bd : Binds K fd ps []
theorem pd_fn (S : SitB cb vb X p k) {j : Nat} {x : Str} {f : Addr} {fd : FuncData} {ps : List Str} {m : Fn} {e : Expr} {es : List Expr} {ma : XA} {pn pos : Pos} (F : FnG cb X.prog X.w X.K X.mg X.base j f fd ps (spF X.K X.mg m)) (hj : j ≤ k) (D : Def X.K X.mg x f fd ps) (ha : PDA X p (e :: es) ma)
    (hg : Gl X x := by rfl) (hdb : (x == ("__debug__" : Str)) = false := by decide) (he : starEach (e :: es) X.env = (false, eval e X.env) :: starEach es X.env := by rfl) (hpl : (backTo pos (starEach es X.env)).any (·.1) = false := by rfl) : PD X p (.Call (.Name x pn) (e :: es) [] pos) (eCall m ma) := by
  obtain ⟨ta, a1, a2⟩ := ha.ex
  refine ⟨_, pe_G F (S.rm.mono hj) S.gd D.mg D.kp D.bd S.ps a1 hg hdb he hpl, fun B H σ E c P Q st r mm kk => ?_⟩
  refine a2 B H σ E _ _ _ st r mm fun ds c1 vs H1 m1 e1 s1 r1 => ?_
  have st1 := st.go e1 s1
  rw [List.append_nil]
  refine ⟨_, ds, c1, P, p.XP, st1.trk, r1, m1, fun d v H2 pd al rd => kk d c1 v H2 pd (e1.trans al.ev) (st1.all S.ok al) rd, fun y cl dd H2 hx al hr => ?_⟩
  exact S.ok.exc c1 c1 y cl dd B H1 H2 σ st1 (r.go st e1).fx hx (st1.all S.ok al) al.ev hr
/-- the stream is what p says -/
def IsStr (K : PySem.W.Frag) (p : Par) : Prop := ∃ S L C, p.B0 = cB S L C ∧ p.SI = StI K S L C ∧ p.S = S
/-- what a callee that goes on from a state wants, of what the caller wants -/
theorem go_of {b : Bool} (S : SitB cb vb X p k) (Z : IsStr X.K p) {m : Fn} {B : Addr → Prop} {H H0 : Hp} {σ : L2.St} {c c0 : Sx} {P : D → Sx → Prop} {vs : List V} {ds : List D} {Q : VK} (st : St0 p c B H) (fx : Fix p c B H σ) (e0 : Ev p c0 H0 c H) (rs : Reps X.K (bm p B c) H vs ds) (mm : m ds c P p.XP)
    (kk : ∀ d c' v H', P d c' → Ev p c0 H0 c' H' → p.SI c' H' → Rep X.K (bm p B c') H' v d → Q v H') : spG b X.K X.mg m ((if b = true then [V.ref p.S] else []) ++ vs) H Q (p.EK σ) := by
  obtain ⟨S1, L1, C1, z1, z2, z3⟩ := Z
  have zb : ∀ c, bm p B c = bc B S1 L1 C1 c := fun c => by unfold bm bc; rw [z1]
  have si := st.si
  rw [z2] at si
  refine ⟨S1, L1, C1, vs, B, ds, c, P, p.XP, by rw [z3], by rw [← zb]; exact st.trk, si, by rw [← zb]; exact rs, mm, fun d c2 v H2 pd al s2 rd => ?_, fun y c2 cl dd H2 hx al s2 hr => ?_⟩
  · rw [← z1] at al
    rw [← z2] at s2
    rw [← zb] at rd
    exact kk d c2 v H2 pd (e0.trans al) s2 rd
  · rw [← z1] at al
    rw [← z2] at s2
    rw [← zb] at hr
    exact S.ok.exc c c2 y cl dd B H H2 σ st fx hx s2 al hr
theorem pd_fnS (S : SitB cb vb X p k) (Z : IsStr X.K p) {j i : Nat} {x y : Str} {f : Addr} {fd : FuncData} {ps : List Str} {m : Fn} {es : List Expr} {ma : XA} {py pn pos : Pos} (F : FnG cb X.prog X.w X.K X.mg X.base j f fd ps (spS X.K X.mg m)) (hj : j ≤ k) (D : Def X.K X.mg x f fd ps) (hy : PE X (.Name y py) (tVar i)) (ha : PDA X p es ma)
    (hg : Gl X x := by rfl) (hdb : (x == ("__debug__" : Str)) = false := by decide) (he : starEach (.Name y py :: es) X.env = (false, eval (.Name y py) X.env) :: starEach es X.env := by rfl) (hpl : (backTo pos (starEach es X.env)).any (·.1) = false := by rfl) : PD X p (.Call (.Name x pn) (.Name y py :: es) [] pos) (eCallS m i ma) := by
  obtain ⟨ta, a1, a2⟩ := ha.ex
  refine ⟨_, pe_G F (S.rm.mono hj) S.gd D.mg D.kp D.bd S.ps (pa_cons hy a1 he) hg hdb he hpl, fun B H σ E c P Q st r mm kk => ?_⟩
  have m' : (match E[i]? with | some .stm => bnd (ma E) m | _ => stuck) c P p.XP := mm
  cases h : E[i]? with
  | none => rw [h] at m'; exact m'.elim
  | some e =>
    rw [h] at m'
    cases e with
    | stm =>
      obtain ⟨s, h1, h2⟩ := r.at_ i _ h
      cases h2
      refine ⟨_, h1, ?_⟩
      refine a2 B H σ E _ _ _ st r m' fun ds c1 vs H1 m1 e1 s1 r1 => ?_
      have st1 := st.go e1 s1
      show spS X.K X.mg m ((V.ref p.S :: vs) ++ []) H1 Q (p.EK σ)
      rw [List.append_nil]
      exact go_of (b := true) S Z st1 (r.go st e1).fx e1 r1 m1 kk
    | _ => exact m'.elim
/-- a def that is not handed the stream -/
theorem pd_fnC (S : SitB cb vb X p k) (Z : IsStr X.K p) {j : Nat} {x : Str} {f : Addr} {fd : FuncData} {ps : List Str} {m : Fn} {e : Expr} {es : List Expr} {ma : XA} {pn pos : Pos} (F : FnG cb X.prog X.w X.K X.mg X.base j f fd ps (spC X.K X.mg m)) (hj : j ≤ k) (D : Def X.K X.mg x f fd ps) (ha : PDA X p (e :: es) ma)
    (hg : Gl X x := by rfl) (hdb : (x == ("__debug__" : Str)) = false := by decide) (he : starEach (e :: es) X.env = (false, eval e X.env) :: starEach es X.env := by rfl) (hpl : (backTo pos (starEach es X.env)).any (·.1) = false := by rfl) : PD X p (.Call (.Name x pn) (e :: es) [] pos) (eCall m ma) := by
  obtain ⟨ta, a1, a2⟩ := ha.ex
  refine ⟨_, pe_G F (S.rm.mono hj) S.gd D.mg D.kp D.bd S.ps a1 hg hdb he hpl, fun B H σ E c P Q st r mm kk => ?_⟩
  refine a2 B H σ E _ _ _ st r mm fun ds c1 vs H1 m1 e1 s1 r1 => ?_
  rw [List.append_nil]
  exact go_of (b := false) S Z (st.go e1 s1) (r.go st e1).fx e1 r1 m1 kk
end
end DL
end
section
namespace DL
open PySem PySem.Spec PyProof.Rows L2
/-- the stream with its lists told -/
structure StrL (S L C : Addr) (ls cs : List Int) (t : Nat) (H : Hp) : Prop where
  sl : S ≠ L
  sc : S ≠ C
  lc : L ≠ C
  hs : H S = some (.lst [.ref L, .ref C, .int t])
  hl : H L = some (.lst (ls.map V.int))
  hc : H C = some (.lst (cs.map V.int))
  nc : cs ≠ []
  pl : ∀ x ∈ ls, 0 ≤ x
  pc : ∀ x ∈ cs, 0 ≤ x
  few : cs.length ≤ 1000
theorem StrL.str {S L C : Addr} {ls cs : List Int} {t c : Nat} {H : Hp} (h : StrL S L C ls cs t H) (ht : t ≤ c) : StrI S L C c H :=
  ⟨h.sl, h.sc, h.lc, ls, cs, t, ht, h.hs, h.hl, h.hc, h.nc, h.pl, h.pc, h.few⟩
theorem StrI.told {S L C : Addr} {c : Nat} {H : Hp} (h : StrI S L C c H) : ∃ (ls cs : List Int) (t : Nat), t ≤ c ∧ StrL S L C ls cs t H := by
  obtain ⟨ls, cs, t, ht, h1, h2, h3, h4, h5, h6, h7⟩ := h.ex
  exact ⟨ls, cs, t, ht, h.sl, h.sc, h.lc, h1, h2, h3, h4, h5, h6, h7⟩
theorem StrL.all {S L C : Addr} {ls cs : List Int} {t : Nat} {H H' : Hp} (h : StrL S L C ls cs t H) (e : All H H') : StrL S L C ls cs t H' :=
  ⟨h.sl, h.sc, h.lc, e _ _ h.hs, e _ _ h.hl, e _ _ h.hc, h.nc, h.pl, h.pc, h.few⟩
theorem upd_strB {S L C : Addr} {H : Hp} {a : Addr} {xs ys : List V} (b : strB S L C a) (hq : H a = some (.lst xs)) : Ext (strB S L C) H (upd H a (.lst ys)) := upd_q b hq
/-- no place may change -/
abbrev nB : Addr → Prop := fun _ => False
section
variable {K : PySem.W.Frag}
def tS (K : PySem.W.Frag) (i : Int) : TE := tOp (rIxL K) (tVar 0) (tC (.int i))
def tOpD (K : PySem.W.Frag) (o : Op) (a b : TE) : TE := tOp (rD2 K (opBin o)) a b
def tDrawTest (K : PySem.W.Frag) : TT := tTest (tOp (rD2 K (cmpD .ne)) (tS K 0) (tLst tNil))
def tDrawTurn (K : PySem.W.Frag) : TS := tSeq (tAsg (tOp (rD2 K opIdx) (tS K 0) (tC (.int 0))) (gName 2)) (tSeq (tIfS (tTest (tOp (rD2 K (cmpD .gt)) (tVar 2) (tC (.int 0))))
  (tSeq (tAsg (tOpD K .fdiv (tVar 2) (tVar 1)) (gSub (tS K 0) (tC (.int 0)) rSetL)) (tRet (tOpD K .mod (tVar 2) (tVar 1)))) tNext)
  (tDrop (tBM K "list" rPopAt (tS K 0) (tCons (tC (.int 0)) tNil))))
theorem s_at {S L C : Addr} {ls cs : List Int} {t : Nat} {H : Hp} {i : Int} {v : V} {Q : VK} {σ : L2.St} (h : StrL S L C ls cs t H) (h0 : σ[0]? = some (some (.ref S))) (hi : atI [V.ref L, V.ref C, V.int t] i = some v) (q : Q v H) : tS K i σ H Q :=
  ⟨_, h0, S, _, i, v, rfl, rfl, SqL.of h.hs, hi, q⟩
theorem rep_ints {B : Addr → Prop} {H : Hp} {a : Addr} {ns : List Int} (h : H a = some (.lst (ns.map V.int))) (hb : ¬ B a) : Rep K B H (.ref a) (.list (ns.map PyData.int)) :=
  .lst h hb (Reps.of_ints ns)
theorem ne_nil_int (x : Int) (ls : List Int) : PyData.eqv (.list (((x :: ls) : List Int).map PyData.int)) (.list []) = false := by rfl
theorem nil_nil_int : PyData.eqv (.list (([] : List Int).map PyData.int)) (.list []) = true := by rfl
theorem lay_ints : ∀ ns : List Int, PyData.canLayAll0 (ns.map PyData.int) = true
  | [] => rfl
  | a :: r => by
    show (PyData.canLay0 (.int a) && PyData.canLayAll0 (r.map PyData.int)) = true
    rw [lay_ints r]
    rfl
theorem shaped_ints (ns : List Int) : SeqAt.shaped (.list (ns.map PyData.int)) = true := by
  have e : PyData.depth (.list (ns.map PyData.int)) ≤ 64 := by
    simp only [PyData.depth, depth_ints]
    decide
  unfold SeqAt.shaped
  rw [decide_eq_true e, Bool.and_true]
  exact lay_ints ns
theorem ixN_zero (n : Nat) : ixN (n + 1) 0 = some 0 := by
  unfold ixN
  rw [if_pos (Int.le_refl 0), if_pos (by omega)]
  rfl
theorem atI_zero {α : Type} (x : α) (xs : List α) : atI (x :: xs) 0 = some x := by
  show (ixN (xs.length + 1) 0).bind _ = _
  rw [ixN_zero]
  rfl
theorem opIdx_zero (x : D) (xs : List D) (c : Sx) (P : D → Sx → Prop) (Xp : Exn → Sx → Prop) (h : P x c) : opIdx (.list (x :: xs)) (.int 0) c P Xp := by
  show (match L2.atI (x :: xs) 0 with | some d => ret d | none => stuck) c P Xp
  rw [atI_zero]
  exact h
theorem draw_while {S L C : Addr} {cs : List Int} {t : Nat} {many : Int} {H0 : Hp} {D : Ends} {x3 x4 x5 : Option V} (hm : 0 < many ∧ many < 9223372036854775808)
    (nx : ∀ x2 H, Ext (strB S L C) H0 H → StrL S L C [] cs t H → D.nx [some (.ref S), some (.int many), x2, x3, x4, x5] H)
    (rt : ∀ (r : Int) ls H, Ext (strB S L C) H0 H → StrL S L C ls cs t H → 0 ≤ r → r < many → D.rt (.int r) H)
    {x2 : Option V} {ls : List Int} (hS : StrL S L C ls cs t H0) : tWhile (tDrawTest K) (tDrawTurn K) D [some (.ref S), some (.int many), x2, x3, x4, x5] H0 := by
  refine ⟨fun n σ H => ∃ (x2 : Option V) (ls : List Int), σ = [some (.ref S), some (.int many), x2, x3, x4, x5] ∧ ls.length = n ∧ Ext (strB S L C) H0 H ∧ StrL S L C ls cs t H, ⟨_, x2, ls, rfl, rfl, Ext.refl, hS⟩, ?_⟩
  rintro n σ H ⟨x2, ls, rfl, hn, e, hL⟩
  refine s_at hL rfl rfl ⟨Nat.zero_le _, fun q hq => ?_⟩
  have h1 := hL.all (All.new (o := .lst []) hq)
  have e1 : Ext (strB S L C) H0 (upd H q (.lst [])) := e.trans (All.new hq).ext
  refine ⟨nB, .list (ls.map PyData.int), .list [], .z 0, fun d _ => d = .bool (!(PyData.eqv (.list (ls.map PyData.int)) (.list []))), fun _ _ => False, fun _ z => z.elim, rep_ints h1.hl id, .lst upd_same id .nil, ⟨eqOk_of (shaped_ints ls) rfl, rfl⟩, ?_⟩
  rintro z v H2 rfl a2 rv
  cases rv
  refine ⟨_, rfl, ?_⟩
  have h2 := h1.all a2
  have e2 := e1.trans (a2.ext (B := strB S L C))
  cases ls with
  | nil =>
    rw [nil_nil_int]
    exact nx x2 H2 e2 h2
  | cons x ls =>
    rw [ne_nil_int]
    refine (if_pos rfl).mpr ?_
    refine ⟨fun σ H => ∃ (x2 : Option V) (ls' : List Int), σ = [some (.ref S), some (.int many), x2, x3, x4, x5] ∧ ls' = ls ∧ Ext (strB S L C) H0 H ∧ StrL S L C ls' cs t H, ?_, ?_⟩
    · rintro σ' H' ⟨x2', ls', rfl, rfl, e', h'⟩
      exact ⟨ls'.length, by rw [← hn]; exact Nat.lt_succ_self _, x2', ls', rfl, rfl, e', h'⟩
    · refine s_at h2 rfl rfl ⟨nB, .list ((x :: ls).map PyData.int), .int 0, .z 0, fun d _ => d = .int x, fun _ _ => False, fun _ z => z.elim, rep_ints h2.hl id, .int 0, opIdx_zero _ _ _ _ _ rfl, ?_⟩
      rintro z v H3 rfl a3 rv
      cases rv
      have h3 := h2.all a3
      have e3 := e2.trans (a3.ext (B := strB S L C))
      refine ⟨_, rfl, nB, .int x, .int 0, .z 0, fun d _ => d = .bool (decide (0 < x)), fun _ _ => False, fun _ z => z.elim, .int _, .int _, rfl, ?_⟩
      rintro z v H4 rfl a4 rv
      cases rv
      have h4 := h3.all a4
      have e4 := e3.trans (a4.ext (B := strB S L C))
      refine ⟨_, rfl, ?_⟩
      by_cases hx : 0 < x
      · rw [decide_eq_true hx]
        refine (if_pos rfl).mpr ?_
        refine ⟨_, rfl, _, rfl, nB, .int x, .int many, .z 0, fun d _ => d = .int (x / many), fun _ _ => False, fun _ z => z.elim, .int _, .int _, ⟨hm, rfl⟩, ?_⟩
        rintro z v H5 rfl a5 rv
        cases rv
        have h5 := h4.all a5
        have e5 := e4.trans (a5.ext (B := strB S L C))
        refine s_at h5 rfl rfl ⟨L, _, 0, 0, rfl, rfl, h5.hl, ixN_zero _, ?_⟩
        have h6 : StrL S L C ((x / many) :: ls) cs t (upd H5 L (.lst (((x / many) :: ls).map V.int))) := by
          refine ⟨h5.sl, h5.sc, h5.lc, ?_, upd_same, ?_, h5.nc, fun y hy => ?_, h5.pc, h5.few⟩
          · rw [upd_ne h5.sl]; exact h5.hs
          · rw [upd_ne h5.lc.symm]; exact h5.hc
          · rcases List.mem_cons.mp hy with rfl | hy
            · exact Int.ediv_nonneg (Int.le_of_lt hx) (Int.le_of_lt hm.1)
            · exact h5.pl y (.tail _ hy)
        have e6 := e5.trans (upd_strB (ys := ((x / many) :: ls).map V.int) (.inr (.inl rfl)) h5.hl)
        refine ⟨_, rfl, _, rfl, nB, .int x, .int many, .z 0, fun d _ => d = .int (x % many), fun _ _ => False, fun _ z => z.elim, .int _, .int _, ⟨hm.1, rfl⟩, ?_⟩
        rintro z v H7 rfl a7 rv
        cases rv
        exact rt _ _ H7 (e6.trans a7.ext) (h6.all a7) (Int.emod_nonneg _ (by omega)) (Int.emod_lt_of_pos _ hm.1)
      · rw [decide_eq_false hx]
        refine (if_neg (by decide)).mpr ?_
        refine s_at h4 rfl rfl ⟨.inl ⟨rfl, _, SqL.of h4.hl⟩, ?_⟩
        refine ⟨L, _, 0, 0, V.int x, rfl, rfl, h4.hl, by decide, by decide, ?_, rfl, ?_⟩
        · simp [PySem.seqIndex?]
        · refine ⟨some (.int x), ls, rfl, rfl, e4.trans (upd_strB (.inr (.inl rfl)) h4.hl), ?_⟩
          refine ⟨h4.sl, h4.sc, h4.lc, ?_, upd_same, ?_, h4.nc, fun y hy => h4.pl y (.tail _ hy), h4.pc, h4.few⟩
          · rw [upd_ne h4.sl]; exact h4.hs
          · rw [upd_ne h4.lc.symm]; exact h4.hc
/-- in every later heap it gives that value, and makes at most new things -/
def Gives (te : TE) (σ : L2.St) (H : Hp) (v : V) : Prop := ∀ H1, All H H1 → ∀ Q : VK, (∀ H', All H1 H' → Q v H') → te σ H1 Q
variable {σ : L2.St} {H : Hp}
theorem gives_var {i : Nat} {v : V} (h : σ[i]? = some (some v)) : Gives (tVar i) σ H v := fun H1 _ Q q => ⟨v, h, q H1 All.refl⟩
theorem gives_c {v : V} : Gives (tC v) σ H v := fun H1 _ Q q => q H1 All.refl
theorem gives_op {ta tb : TE} {a b r : Int} (o : Op) (ha : Gives ta σ H (.int a)) (hb : Gives tb σ H (.int b)) (h : ∀ c (P : D → Sx → Prop) Xp, P (.int r) c → opBin o (.int a) (.int b) c P Xp) : Gives (tOpD K o ta tb) σ H (.int r) := by
  intro H1 e1 Q q
  refine ha H1 e1 _ fun H2 e2 => hb H2 (e1.trans e2) _ fun H3 e3 => ?_
  refine ⟨nB, .int a, .int b, .z 0, fun d _ => d = .int r, fun _ _ => False, fun _ z => z.elim, .int _, .int _, h _ _ _ rfl, ?_⟩
  rintro z v H4 rfl a4 rv
  cases rv
  exact q H4 (e2.trans (e3.trans a4))
theorem gives_s {S L C : Addr} {ls cs : List Int} {t : Nat} {i : Int} {v : V} (h : StrL S L C ls cs t H) (h0 : σ[0]? = some (some (.ref S))) (hi : atI [V.ref L, V.ref C, V.int t] i = some v) : Gives (tS K i) σ H v :=
  fun H1 e1 Q q => s_at (h.all e1) h0 hi (q H1 All.refl)
theorem gives_len {te : TE} {a : Addr} {ns : List Int} (h : Gives te σ H (.ref a)) (ha : H a = some (.lst (ns.map V.int))) : Gives (tCB (rC1 K (bi1 .len)) (tCons te tNil)) σ H (.int ns.length) := by
  intro H1 e1 Q q
  refine h H1 e1 _ fun H2 e2 => ?_
  refine ⟨_, rfl, nB, .list (ns.map PyData.int), .z 0, fun d _ => d = .int ns.length, fun _ _ => False, fun _ z => z.elim, rep_ints (e2 _ _ (e1 _ _ ha)) id, ?_, ?_⟩
  · show (.int ((ns.map PyData.int).length : Int) : D) = .int ns.length
    rw [List.length_map]
  · rintro z v H4 rfl a4 rv
    cases rv
    exact q H4 (e2.trans a4)
theorem gives_ix {ta tb : TE} {a : Addr} {ns : List Int} {i x : Int} (h : Gives ta σ H (.ref a)) (hb : Gives tb σ H (.int i)) (ha : H a = some (.lst (ns.map V.int))) (hx : atI ns i = some x) : Gives (tOp (rD2 K opIdx) ta tb) σ H (.int x) := by
  intro H1 e1 Q q
  refine h H1 e1 _ fun H2 e2 => hb H2 (e1.trans e2) _ fun H3 e3 => ?_
  refine ⟨nB, .list (ns.map PyData.int), .int i, .z 0, fun d _ => d = .int x, fun _ _ => False, fun _ z => z.elim, rep_ints (e3 _ _ (e2 _ _ (e1 _ _ ha))) id, .int _, ?_, ?_⟩
  · show (match L2.atI (ns.map PyData.int) i with | some d => ret d | none => stuck) (.z 0) _ _
    have e : L2.atI (ns.map PyData.int) i = some (.int x) := by
      unfold atI at hx ⊢
      rw [List.length_map]
      cases q : ixN ns.length i with
      | none => rw [q] at hx; cases hx
      | some j =>
        rw [q] at hx
        have hx' : ns[j]? = some x := hx
        show (ns.map PyData.int)[j]? = _
        rw [List.getElem?_map, hx']
        rfl
    rw [e]
    rfl
  · rintro z v H4 rfl a4 rv
    cases rv
    exact q H4 (e2.trans (e3.trans a4))
theorem asg_gives {te : TE} {i : Nat} {v : V} {D : Ends} (h : Gives te σ H v) (q : ∀ H', All H H' → D.nx (σ.set i (some v)) H') : tAsg te (gName i) D σ H := h H All.refl _ fun H' e => q H' e
def tDrawRest (K : PySem.W.Frag) : TS := tSeq (tAsg (tOpD K .add (tS K 2) (tC (.int 1))) (gName 3)) (tSeq (tAsg (tVar 3) (gSub (tVar 0) (tC (.int 2)) rSetL))
  (tSeq (tAsg (tOpD K .mod (tOp (rD2 K opIdx) (tS K 1) (tOpD K .mod (tVar 3) (tCB (rC1 K (bi1 .len)) (tCons (tS K 1) tNil)))) (tC (.int 2147483587))) (gName 4))
  (tSeq (tAsg (tOpD K .mod (tOpD K .add (tOpD K .add (tOpD K .mul (tVar 4) (tOpD K .add (tC (.int 16807)) (tOpD K .mul (tC (.int 69621)) (tVar 3)))) (tOpD K .mul (tOpD K .mul (tC (.int 40692)) (tVar 3)) (tVar 3))) (tC (.int 53))) (tC (.int 2147483647))) (gName 5))
  (tRet (tOpD K .mod (tOpD K .fdiv (tOpD K .mod (tOpD K .mul (tVar 5) (tVar 5)) (tC (.int 2147483629))) (tC (.int 16))) (tVar 1))))))
theorem g_add {ta tb : TE} {a b : Int} (ha : Gives ta σ H (.int a)) (hb : Gives tb σ H (.int b)) : Gives (tOpD K .add ta tb) σ H (.int (a + b)) := gives_op .add ha hb fun _ _ _ h => h
theorem g_mul {ta tb : TE} {a b : Int} (ha : Gives ta σ H (.int a)) (hb : Gives tb σ H (.int b)) (h : mulOk a b) : Gives (tOpD K .mul ta tb) σ H (.int (a * b)) := gives_op .mul ha hb fun _ _ _ q => ⟨h, q⟩
theorem g_mod {ta tb : TE} {a b : Int} (ha : Gives ta σ H (.int a)) (hb : Gives tb σ H (.int b)) (h : 0 < b) : Gives (tOpD K .mod ta tb) σ H (.int (a % b)) := gives_op .mod ha hb fun _ _ _ q => ⟨h, q⟩
theorem g_fdiv {ta tb : TE} {a b : Int} (ha : Gives ta σ H (.int a)) (hb : Gives tb σ H (.int b)) (h : 0 < b ∧ b < 9223372036854775808) : Gives (tOpD K .fdiv ta tb) σ H (.int (a / b)) := gives_op .fdiv ha hb fun _ _ _ q => ⟨h, q⟩
theorem draw_rest {S L C : Addr} {ls cs : List Int} {t : Nat} {many : Int} {H0 : Hp} {D : Ends} {x2 x3 x4 x5 : Option V} (hm : 0 < many ∧ many < 9223372036854775808) (ht : t < 2 ^ 40)
    (rt : ∀ (r : Int) H, Ext (strB S L C) H0 H → StrL S L C ls cs (t + 1) H → 0 ≤ r → r < many → D.rt (.int r) H)
    (hS : StrL S L C ls cs t H0) : tDrawRest K D [some (.ref S), some (.int many), x2, x3, x4, x5] H0 := by
  have ht' : (t : Int) < 2 ^ 40 := by exact_mod_cast ht
  have t0 : (0 : Int) ≤ t := Int.natCast_nonneg t
  refine asg_gives (g_add (gives_s hS rfl rfl) gives_c) fun H1 e1 => ?_
  have h1 := hS.all e1
  refine ⟨_, rfl, _, rfl, S, _, 2, 2, rfl, rfl, h1.hs, rfl, ?_⟩
  have x2' := (e1.ext (B := strB S L C)).trans (upd_strB (S := S) (L := L) (C := C) (ys := [.ref L, .ref C, .int ((t : Int) + 1)]) (.inl rfl) h1.hs)
  have h2 : StrL S L C ls cs (t + 1) (upd H1 S (.lst [.ref L, .ref C, .int ((t : Int) + 1)])) := by
    refine ⟨h1.sl, h1.sc, h1.lc, upd_same, ?_, ?_, h1.nc, h1.pl, h1.pc, h1.few⟩
    · rw [upd_ne h1.sl.symm]; exact h1.hl
    · rw [upd_ne h1.sc.symm]; exact h1.hc
  show tSeq _ _ D _ (upd H1 S (.lst [.ref L, .ref C, .int ((t : Int) + 1)]))
  generalize upd H1 S (.lst [.ref L, .ref C, .int ((t : Int) + 1)]) = H2 at x2' h2
  have hlen : 0 < cs.length := List.length_pos_iff.mpr h2.nc
  have hi0 : 0 ≤ ((t : Int) + 1) % (cs.length : Int) := Int.emod_nonneg _ (by omega)
  have hi1 : ((t : Int) + 1) % (cs.length : Int) < cs.length := Int.emod_lt_of_pos _ (by omega)
  obtain ⟨x, hx⟩ : ∃ x, atI cs (((t : Int) + 1) % (cs.length : Int)) = some x := by
    unfold atI ixN
    rw [if_pos hi0, if_pos hi1]
    exact ⟨_, List.getElem?_eq_getElem (by omega)⟩
  refine asg_gives (g_mod (gives_ix (gives_s h2 rfl rfl) (g_mod (gives_var rfl) (gives_len (gives_s h2 rfl rfl) h2.hc) (by omega)) h2.hc hx) gives_c (by decide)) fun H3 e3 => ?_
  have h3 := h2.all e3
  have c0 : 0 ≤ x % 2147483587 := Int.emod_nonneg _ (by decide)
  have c1 : x % 2147483587 < 2147483587 := Int.emod_lt_of_pos _ (by decide)
  refine asg_gives (g_mod (g_add (g_add (g_mul (gives_var rfl) (g_add gives_c (g_mul gives_c (gives_var rfl) (.inl (by decide)))) (.inl ⟨by omega, by omega⟩)) (g_mul (g_mul gives_c (gives_var rfl) (.inl (by decide))) (gives_var rfl) (.inr ⟨by omega, by omega⟩))) gives_c) gives_c (by decide)) fun H4 e4 => ?_
  have h4 := h3.all e4
  refine g_mod (g_fdiv (g_mod (g_mul (gives_var rfl) (gives_var rfl) (.inl ⟨?_, ?_⟩)) gives_c (by decide)) gives_c (by decide)) (gives_var rfl) hm.1 H4 All.refl _ fun H5 e5 => ?_
  · exact Int.lt_of_lt_of_le (by decide) (Int.emod_nonneg _ (by decide))
  · exact Int.lt_trans (Int.emod_lt_of_pos _ (by decide)) (by decide)
  · exact rt _ H5 (x2'.trans ((e3.trans (e4.trans e5)).ext)) (h4.all e5) (Int.emod_nonneg _ (by omega)) (Int.emod_lt_of_pos _ hm.1)
/-- the draw's body does what the draw says -/
theorem draw_sem {S L C : Addr} {c : Nat} {many : Int} {H0 : Hp} {D : Ends} (hm : 0 < many ∧ many < 9223372036854775808) (hc : c < 2 ^ 40) (hS : StrI S L C c H0)
    (rt : ∀ (r : Int) H, Ext (strB S L C) H0 H → StrI S L C (c + 1) H → 0 ≤ r → r < many → D.rt (.int r) H) :
    tSeq (tWhile (tDrawTest K) (tDrawTurn K)) (tDrawRest K) D [some (.ref S), some (.int many), none, none, none, none] H0 := by
  obtain ⟨ls, cs, t, ht, hL⟩ := hS.told
  show tWhile (tDrawTest K) (tDrawTurn K) { D with nx := tDrawRest K D } _ _
  refine draw_while (D := { D with nx := tDrawRest K D }) hm (fun x2 H e h => ?_) (fun r ls' H e h a b => rt r H e (h.str (by omega)) a b) hL
  exact draw_rest hm (by omega) (fun r H' e' h' a b => rt r H' (e.trans e') (h'.str (by omega)) a b) h
end
section
variable {P : Program} {w : World} {K : PySem.W.Frag} {mg : Str → Option Value} {base : Heap}
theorem fdraw_told {ds : List D} {c : Sx} {P : D → Sx → Prop} {XP : Exn → Sx → Prop} (h : fDraw ds c P XP) : ∃ many : Int, ds = [.int many] ∧ (0 < many ∧ many < 9223372036854775808 ∧ c.n < 2 ^ 40) ∧ ∀ r : Int, 0 ≤ r → r < many → P (.int r) c.up := by
  unfold fDraw at h
  split at h
  · rename_i many
    exact ⟨many, rfl, h.1, h.2⟩
  · exact h.elim
theorem fn_draw (sm : HasSm base) {x qual : Str} {st : Stmt} {f : Addr} {fd : FuncData} {N : List Str} {x0 x1 : Str} {k : Nat} (F : FnP K x qual st f fd) (S : FnScope N [x0, x1] (defScope st)) (hl : N.length = 6)
    (body : ∀ (cdv : Value) (A : Around) (outer : List PySem.Env) (s : Shared) (H : Hp) (E : XK) (p : Par), Sit (bodyX true P w K mg base N qual st f cdv A outer s H E) p k → PSs (bodyX true P w K mg base N qual st f cdv A outer s H E) (defBody st) (tSeq (tWhile (tDrawTest K) (tDrawTurn K)) (tDrawRest K))) :
    FnG true P w K mg base (k + 1) f fd [x0, x1] (spS K mg fDraw) := by
  refine fnG_body F S (fun vs H Q E ⟨_, _, _, ws, _, _, _, _, _, e, _, _, rs, mm, _⟩ => by
    obtain ⟨many, e2, _⟩ := fdraw_told mm
    rw [e, List.length_append, rs.length, e2]
    rfl) (fun cdv A outer s H vs Q E hr hg hsp => ?_)
  obtain ⟨S1, L1, C1, ws, B, ds, c, Pd, XP, rfl, trk, si, rs, mm, kq, ke⟩ := hsp
  obtain ⟨many, rfl, ⟨m1, m2, hc⟩, mr⟩ := fdraw_told mm
  have ok : (parS K S1 L1 C1 H c B XP E).Ok K mg :=
    ⟨fun n H1 H2 h hk im => StI.same h hk im, fun n n' x cl d B1 H1 H' σ st _ hx hs he hr => ke x n' cl d H' hx (st.ext.trans he) hs (exrep_go (fun a z => z.elim (fun z => bm_more he.up a (st.subc a z)) .inr) hr)⟩
  have S' := sit_body (P := P) (w := w) (base := base) (mg := mg) (f := f) (outer := outer) (H := H) (p := parS K S1 L1 C1 H c B XP E) (E := E) S hr hg ok (fun _ _ _ _ h => h) rfl sm
  refine ⟨_, body cdv A outer s H E _ S', ?_⟩
  cases rs with
  | cons r t =>
    cases t
    cases r
    have e : L2.start N ((if true = true then [V.ref S1] else []) ++ [V.int many]) = [some (.ref S1), some (.int many), none, none, none, none] := by
      show L2.start N [V.ref S1, V.int many] = _
      unfold L2.start
      rw [hl]
      rfl
    rw [e]
    refine draw_sem ⟨m1, m2⟩ hc si.str fun r H' e h a b => kq (.int r) c.up _ H' (mr r a b) ⟨e.more fun _ z => .inl z, fun _ z => z, fun _ z _ => z, fun g a z => e.dom a (g a z)⟩ ⟨h, fun a x q => ?_⟩ (.int r)
    have q1 := si.at_ a x q
    exact ⟨q1.1, q1.2.go e.imm fun o ho => e.keep a o ho q1.1⟩
end
section
variable {P : Program} {w : World} {K : PySem.W.Frag} {mg : Str → Option Value} {base : Heap} {X : Cx} {p : Par} {k : Nat}
/-- the script, walked -/
theorem pi_scr (i : Nat) {tg e : Expr} (he : PE X e (tVar i)) : PDI X p tg e (iScr i) := by
  refine ⟨_, pi_list he, fun B H σ E c P R st r m kk => ?_⟩
  have m' : (match E[i]? with | some (.scr ns) => ret (ns.map PyData.int) | _ => stuck) c P p.XP := m
  cases h : E[i]? with
  | none => rw [h] at m'; exact m'.elim
  | some y =>
    rw [h] at m'
    cases y with
    | scr ns =>
      obtain ⟨s, h1, h2⟩ := r.at_ i _ h
      cases h2 with
      | scr q =>
        rename_i a
        refine ⟨_, h1, a, rfl, ⟨_, q H fun o ho _ => ho⟩, kk _ c _ H m' Ev.refl st.si ?_⟩
        refine ⟨fun H' => SqL X.K H' a (ns.map V.int), q H fun o ho _ => ho, fun B1 H1 t => q H1 fun o ho hi => t.ext.imm a o ho hi, ?_⟩
        have wk := walk_list (K := X.K) (a := a) (xs := ns.map V.int)
        rw [List.length_map] at wk ⊢
        refine wk.mono (fun _ h => h) fun i H1 x H' hi hg y => ⟨fun b o e => by rw [y.1]; exact e, fun B1 t _ => ?_⟩
        obtain ⟨n, hn, rfl⟩ : ∃ n, ns[i]? = some n ∧ x = V.int n := by
          have y2 := y.2
          rw [List.getElem?_map] at y2
          cases e : ns[i]? with
          | none => rw [e] at y2; cases y2
          | some n => rw [e] at y2; exact ⟨n, rfl, (Option.some.inj y2).symm⟩
        exact ⟨.int n, by rw [List.getElem?_map, hn]; rfl, .int n⟩
    | _ => exact m'.elim
def spMake (K : PySem.W.Frag) : Sp := fun vs H Q EK => ∃ (a : Addr) (ns : List Int), vs = [.ref a] ∧ ns.length ≤ 63 ∧ (∀ H' : Hp, (∀ o, H a = some o → Imm o → H' a = some o) → SqL K H' a (ns.map V.int)) ∧
  ∀ (S L C : Addr) (H' : Hp), All H H' → StrI S L C 0 H' → Q (.ref S) H'
end
end DL
end
section
namespace DL
open PySem PySem.Spec PyProof.Rows L2
section
variable {P : Program} {w : World} {K : PySem.W.Frag} {mg : Str → Option Value} {base : Heap} {X : Cx} {p : Par} {k : Nat}
/-- the words of the stream's def -/
def mCells : XE := eComp (iScr 0) (.nm 2) tYes (eB1 .abs (eVar 2)) [2]
def mLarge : XE := eComp (iLst (eVar 1)) (.nm 2) (tBool (eCmp .ge (eVar 2) (eBin .pow (eCon (.int 10)) (eCon (.int 18))))) (eVar 2) [2]
def mSmall : XE := eIf (tBool (eCmp .ne (eVar 1) (eLst aNil))) (eVar 1) (eLst (aCons (eCon (.int 41)) aNil))
def absI (i : Int) : Int := if i < 0 then -i else i
theorem comp_abs (E : Env) (h : E.length = 3) : ∀ (ns : List Int) (acc : List D), acc.length + ns.length ≤ 1000 → compL (.nm 2) tYes (eB1 .abs (eVar 2)) (ns.map PyData.int) acc E = ret (acc ++ (ns.map absI).map PyData.int)
  | [], acc, _ => by simp [compL]
  | n :: ns, acc, hl => by
    simp only [List.length_cons] at hl
    have e : (E.set 2 (Ent.val (.int n)))[2]? = some (Ent.val (.int n)) := by rw [List.getElem?_set_self (by omega)]
    have hs : small acc.length := by unfold small; omega
    show bnd (tYes (E.set 2 (Ent.val (.int n)))) _ = _
    simp only [tYes, bnd_ret, if_true, eB1, eVar, e, bi1]
    rw [grd_pos hs, comp_abs E h ns _ (by rw [List.length_append]; simp only [List.length_singleton]; omega)]
    simp [absI]
theorem comp_large (E : Env) (h : E.length = 3) : ∀ (ns : List Int) (acc : List D), acc.length + ns.length ≤ 1000 → compL (.nm 2) (tBool (eCmp .ge (eVar 2) (eBin .pow (eCon (.int 10)) (eCon (.int 18))))) (eVar 2) (ns.map PyData.int) acc E =
      ret (acc ++ (ns.filter fun n => decide (10 ^ 18 ≤ n)).map PyData.int)
  | [], acc, _ => by simp [compL]
  | n :: ns, acc, hl => by
    simp only [List.length_cons] at hl
    have e : (E.set 2 (Ent.val (.int n)))[2]? = some (Ent.val (.int n)) := by rw [List.getElem?_set_self (by omega)]
    have hs : small acc.length := by unfold small; omega
    have hp : opPow (.int 10) (.int 18) = ret (.int (10 ^ 18)) := by
      show grd _ _ = _
      rw [grd_pos (by decide)]
      rfl
    show bnd (tBool _ (E.set 2 (Ent.val (.int n)))) _ = _
    simp only [tBool, eCmp, eBin, eCon, eVar, e, bnd_ret, opBin, hp, opCmp, opLe]
    by_cases hn : (10 : Int) ^ 18 ≤ n
    · rw [decide_eq_true hn, if_pos rfl, grd_pos hs, comp_large E h ns _ (by rw [List.length_append]; simp only [List.length_singleton]; omega), List.filter_cons_of_pos (by simpa using hn)]
      simp
    · rw [decide_eq_false hn, if_neg (by decide), comp_large E h ns _ (by omega), List.filter_cons_of_neg (by simpa using hn)]
/-- the body's par: a def that knows no state -/
def parN (H : Hp) (Q : XK) : Par := ⟨fun _ _ => False, fun _ _ => True, 0, H, .z 0, nB, fun _ _ => False, fun _ => Q, none, fun _ => none⟩
theorem bmN {H : Hp} {Q : XK} {B : Addr → Prop} {c : Sx} : ∀ a, bm (parN H Q) B c a → B a := fun a z => z.elim id fun z => z.elim
theorem st_triv {Q : XK} {H : Hp} : St0 (parN H Q) (.z 0) nB H := ⟨fun _ z => .inl z, fun a z => (bmN a z).elim, True.intro, Ev.refl⟩
theorem absI_nonneg (i : Int) : 0 ≤ absI i := by unfold absI; split <;> omega
theorem stream_sem {EK : XK} {H0 : Hp} {ts1 : TS} {te1 te2 : TE} {a : Addr} {ns : List Int} {D : Ends} (hl : ns.length ≤ 63) (hq : ∀ H' : Hp, (∀ o, H0 a = some o → Imm o → H' a = some o) → SqL K H' a (ns.map V.int))
    (a2 : SR K (parN H0 EK) ts1 (sAsg 1 mCells)) (b2 : EvF K (parN H0 EK) te1 mLarge) (c2 : EvR K (parN H0 EK) te2 mSmall)
    (q : ∀ (S L C : Addr) (H' : Hp), All H0 H' → StrI S L C 0 H' → D.rt (.ref S) H') :
    tSeq ts1 (tRet (tLst (tCons te1 (tCons te2 (tCons (tC (.int 0)) tNil))))) D [some (.ref a), none, none] H0 := by
  refine a2 nB H0 _ [.scr ns, .unk, .unk] (.z 0) (fun o _ => o = .nx [.scr ns, .val (.list ((ns.map absI).map PyData.int)), .unk]) _ st_triv ?_ ?_ ?_ ?_ ?_ ?_
  · refine ⟨rfl, fun i e h => ?_, fun i j b xs ys h => ?_, .no rfl, fun j a xs z _ => by cases z⟩
    · match i, h with
      | 0, h => cases h; exact ⟨_, rfl, .scr hq⟩
      | 1, h => cases h; exact ⟨_, rfl, .unk _⟩
      | 2, h => cases h; exact ⟨_, rfl, .unk _⟩
    · match i, h with
      | 0, h => cases h
      | 1, h => cases h
      | 2, h => cases h
  · show bnd (eComp (iScr 0) (.nm 2) tYes (eB1 .abs (eVar 2)) [2] [.scr ns, .unk, .unk]) _ (.z 0) _ _
    show bnd (bnd (ret (ns.map PyData.int)) _) _ (.z 0) _ _
    simp only [bnd_ret]
    rw [comp_abs _ rfl ns [] (by simp only [List.length_nil]; omega)]
    rfl
  · rintro E' c' B' σ' H' hE st' tr' r'
    cases hE
    refine b2 B' H' σ' _ c' (fun d _ => d = .list (((ns.map absI).filter fun n => decide (10 ^ 18 ≤ n)).map PyData.int)) _ st' r' ?_ ?_
    · show bnd (bnd (ret _) _) _ c' _ _
      show bnd (noX (compL (.nm 2) (tBool (eCmp .ge (eVar 2) (eBin .pow (eCon (.int 10)) (eCon (.int 18))))) (eVar 2) ((ns.map absI).map PyData.int) [] _)) _ c' _ _
      rw [comp_large _ rfl (ns.map absI) [] (by simp only [List.length_nil, List.length_map]; omega)]
      rfl
    · rintro ds c1 L xs H1 hds e1 _ hL h1 rs
      cases hds
      have hxs := rs.ints (ints?_map _)
      subst hxs
      have st1 := st_q st' hL.1 e1.q True.intro (some_ne h1) (n' := c1)
      have r1 := env_q0 rfl r' st' hL.1 e1.q
      refine c2 _ H1 σ' _ c1 (fun d _ => d = .list ((if ns = [] then [41] else ns.map absI).map PyData.int)) _ st1 r1 ?_ ?_
      · have he : opEq (.list ((ns.map absI).map PyData.int)) (.list []) = ret (decide (ns = [])) := by
          unfold opEq
          rw [grd_pos (eqOk_of (shaped_ints _) rfl)]
          cases ns with
          | nil => rfl
          | cons n r => rfl
        have g0 : small ([] : List PyData).length := Nat.zero_le _
        have g1 : small [PyData.int 41].length := by show 1 ≤ 1000000; omega
        simp only [mSmall, eIf, tBool, eCmp, eVar, eLst, aNil, aCons, eCon, List.getElem?_cons_succ, List.getElem?_cons_zero, bnd_ret, grd_pos g0, grd_pos g1, opCmp, he]
        by_cases hn : ns = []
        · rw [hn]
          rfl
        · rw [decide_eq_false hn, if_neg hn]
          rfl
      · rintro d c3 v H2 rfl e2 _ rv
        cases rv with
        | lst h2 nb rs2 =>
          rename_i C ys
          have hys := rs2.ints (ints?_map _)
          subst hys
          have hLC : L ≠ C := fun z => nb (.inl (.inr z.symm))
          have h1' : H2 L = some (.lst (((ns.map absI).filter fun n => decide (10 ^ 18 ≤ n)).map V.int)) := e2.ext.keep _ _ h1 fun z => z
          refine ⟨by rw [sizeLine_eq]; show 3 ≤ _; decide, fun S hS => ?_⟩
          have nL : S ≠ L := fun z => by rw [z, h1'] at hS; cases hS
          have nC : S ≠ C := fun z => by rw [z, h2] at hS; cases hS
          refine q S L C _ ((all_of st'.ext.ext).trans ((all_of e1.ext).trans ((all_of e2.ext).trans (All.new hS)))) ⟨nL, nC, hLC, (ns.map absI).filter fun n => decide (10 ^ 18 ≤ n), if ns = [] then [41] else ns.map absI, 0, Nat.le_refl 0, upd_same, ?_, ?_, ?_, ?_, ?_, ?_⟩
          · rw [upd_ne nL.symm]; exact h1'
          · rw [upd_ne nC.symm]; exact h2
          · split
            · exact fun z => nomatch z
            · rename_i hn
              exact fun z => hn (List.map_eq_nil_iff.mp z)
          · intro x hx
            obtain ⟨y, _, rfl⟩ := List.mem_map.mp (List.mem_filter.mp hx).1
            exact absI_nonneg y
          · intro x hx
            split at hx
            · rw [List.mem_singleton.mp hx]; decide
            · obtain ⟨y, _, rfl⟩ := List.mem_map.mp hx
              exact absI_nonneg y
          · split
            · decide
            · rw [List.length_map]; omega
  · rintro d c' v H' h; cases h
  · rintro E' c' B' σ' H' h; cases h
  · rintro E' c' B' σ' H' h; cases h
end
section
variable {P : Program} {w : World} {K : PySem.W.Frag} {mg : Str → Option Value} {base : Heap}
/-- the stream's def -/
theorem fn_stream (sm : HasSm base) {x qual : Str} {st : Stmt} {f : Addr} {fd : FuncData} {N : List Str} {x0 : Str} {k : Nat} (F : FnP K x qual st f fd) (S : FnScope N [x0] (defScope st)) (hl : N.length = 3)
    (body : ∀ (cdv : Value) (A : Around) (outer : List PySem.Env) (s : Shared) (H : Hp) (E : XK) (p : Par), Sit (bodyX true P w K mg base N qual st f cdv A outer s H E) p k →
      ∃ (s1 : Stmt) (e1 e2 : Expr), (∀ t1 te1 te2, PS (bodyX true P w K mg base N qual st f cdv A outer s H E) s1 t1 → PE (bodyX true P w K mg base N qual st f cdv A outer s H E) e1 te1 → PE (bodyX true P w K mg base N qual st f cdv A outer s H E) e2 te2 →
          PSs (bodyX true P w K mg base N qual st f cdv A outer s H E) (defBody st) (tSeq t1 (tRet (tLst (tCons te1 (tCons te2 (tCons (tC (.int 0)) tNil))))))) ∧
        PSD (bodyX true P w K mg base N qual st f cdv A outer s H E) p s1 (sAsg 1 mCells) ∧ PDF (bodyX true P w K mg base N qual st f cdv A outer s H E) p e1 mLarge ∧ PD (bodyX true P w K mg base N qual st f cdv A outer s H E) p e2 mSmall) :
    FnG true P w K mg base (k + 1) f fd [x0] (spMake K) := by
  refine fnG_body F S (fun vs H Q E ⟨_, _, e, _⟩ => by rw [e]; rfl) (fun cdv A outer s H vs Q E hr hg hsp => ?_)
  obtain ⟨a, ns, rfl, hn, hS, kq⟩ := hsp
  have ok : (parN H E).Ok K mg := ⟨fun _ _ _ _ _ _ => True.intro, fun _ _ _ _ _ _ _ _ _ _ _ z => z.elim⟩
  have S' := sit_body (P := P) (w := w) (base := base) (mg := mg) (f := f) (outer := outer) (H := H) (p := parN H E) (E := E) S hr hg ok (fun _ _ _ _ h => h) rfl sm
  obtain ⟨s1, e1, e2, mk, h1, h2, h3⟩ := body cdv A outer s H E _ S'
  obtain ⟨t1, a1, a2⟩ := h1.ex
  obtain ⟨t2, b1, b2⟩ := h2.ex
  obtain ⟨t3, c1, c2⟩ := h3.ex
  refine ⟨_, mk t1 t2 t3 a1 b1 c1, ?_⟩
  have e : L2.start N [V.ref a] = [some (.ref a), none, none] := by
    unfold L2.start
    rw [hl]
    rfl
  rw [e]
  exact stream_sem hn hS a2 b2 c2 fun S L C H' al si => kq S L C H' al si
theorem pss_any {X : Cx} {ss : List Stmt} : PSs X ss (fun D σ H => ∃ ts, PSs X ss ts ∧ ts D σ H) := ⟨fun pins s σ H D I ⟨_, h, q⟩ => h.run pins s σ H D I q⟩
/-- what the law is asked -/
def spLaw (K : PySem.W.Frag) : Sp := fun vs H Q _ => ∃ (a : Addr) (ns : List Int), vs = [.ref a] ∧ ns.length ≤ 63 ∧ (∀ H' : Hp, (∀ o, H a = some o → Imm o → H' a = some o) → SqL K H' a (ns.map V.int)) ∧ ∀ H', Q (.bl true) H'
/-- the law's own environment: the stream at i -/
def lawE (n i : Nat) : Env := (List.replicate n Ent.unk).set i .stm
theorem fn_law (sm : HasSm base) {x qual : Str} {st : Stmt} {f fM : Addr} {fd fdM : FuncData} {N : List Str} {x0 : Str} {j k i : Nat} {m : XS} (F : FnP K x qual st f fd) (S : FnScope N [x0] (defScope st)) (hi : i < N.length) (h0 : 0 < N.length)
    (G : FnG true P w K mg base j fM fdM [x0] (spMake K)) (hj : j ≤ k)
    (body : ∀ (cdv : Value) (A : Around) (outer : List PySem.Env) (s : Shared) (H : Hp) (E : XK), ∃ rest,
      (∀ ts, (RoomB true k (bodyX true P w K mg base N qual st f cdv A outer s H E).A → (bodyX true P w K mg base N qual st f cdv A outer s H E).A.guards = some [] → (∀ σ, PassesAt (L2.CX P w) (bodyX true P w K mg base N qual st f cdv A outer s H E) σ E) → PSs (bodyX true P w K mg base N qual st f cdv A outer s H E) rest ts →
        PSs (bodyX true P w K mg base N qual st f cdv A outer s H E) (defBody st) (tSeq (tAsg (tCallSD (spMake K) [] (fun _ => E) (tCons (tVar 0) tNil)) (gName i)) ts))) ∧
      ∀ (p : Par), Sit (bodyX true P w K mg base N qual st f cdv A outer s H E) p k → IsStr K p → (∀ i, p.pin i = none) → PSSD (bodyX true P w K mg base N qual st f cdv A outer s H E) p rest m)
    (math : m (lawE N.length i) (.z 0) (fun o _ => o = .rt (.bool true)) fun _ _ => False) : FnG true P w K mg base (k + 1) f fd [x0] (spLaw K) := by
  refine fnG_body F S (fun vs H Q E ⟨_, _, e, _⟩ => by rw [e]; rfl) (fun cdv A outer s H vs Q E hr hg hsp => ?_)
  obtain ⟨a, ns, rfl, hn, hS, kq⟩ := hsp
  obtain ⟨rest, mk, hb⟩ := body cdv A outer s H E
  refine ⟨_, mk _ hr hg (fun σ pins H s e s' I h => passes_call (E := E) (takes_of rfl rfl rfl rfl) (fun _ _ _ _ h => h) pins σ H s e s' I h) pss_any, ?_⟩
  have e0 : (L2.start N [V.ref a])[0]? = some (some (.ref a)) := rfl
  refine ⟨.ref a, e0, a, ns, rfl, hn, hS, fun S1 L1 C1 H1 al si => ?_⟩
  have okp : (parS K S1 L1 C1 H1 (.z 0) nB (fun _ _ => False) E).Ok K mg :=
    ⟨fun n Ha Hb h hk im => StI.same h hk im, fun _ _ _ _ _ _ _ _ _ _ _ z => z.elim⟩
  have sti : StI K S1 L1 C1 (.z 0) H1 := ⟨si, fun a x e => by cases e⟩
  have S' := sit_body (P := P) (w := w) (base := base) (mg := mg) (f := f) (outer := outer) (H := H) (p := parS K S1 L1 C1 H1 (.z 0) nB (fun _ _ => False) E) (E := E) S hr hg okp (fun _ _ _ _ h => h) rfl sm
  obtain ⟨ts, t1, t2⟩ := (hb _ S' ⟨S1, L1, C1, rfl, rfl, rfl⟩ fun _ => rfl).ex
  refine ⟨ts, t1, ?_⟩
  have l1 : (L2.start N [V.ref a]).length = N.length := by
    unfold L2.start
    rw [List.length_append, List.length_map, List.length_replicate, List.length_singleton]
    omega
  refine t2 nB H1 _ (lawE N.length i) (.z 0) (fun o _ => o = .rt (.bool true)) _ ⟨fun _ z => .inl z, fun a z => z.elim (fun z => z.elim) fun z => sti.there z, sti, Ev.refl⟩ ⟨?_, fun q e h => ?_, fun q r b xs ys h => ?_, .no rfl, fun j a xs z _ => by cases z⟩ math ?_ ?_ ?_ ?_
  · unfold lawE
    rw [List.length_set, List.length_set, l1, List.length_replicate]
  · unfold lawE at h
    rw [List.getElem?_set] at h ⊢
    by_cases hq : i = q
    · rw [if_pos hq] at h ⊢
      rw [List.length_replicate, if_pos hi] at h
      rw [l1, if_pos hi]
      cases h
      exact ⟨_, rfl, .stm (p := parS K S1 L1 C1 H1 (.z 0) nB (fun _ _ => False) E)⟩
    · rw [if_neg hq] at h ⊢
      rw [List.getElem?_replicate] at h
      split at h
      · cases h
        rename_i hlt
        exact ⟨_, List.getElem?_eq_getElem (by rw [l1]; exact hlt), .unk _⟩
      · cases h
  · unfold lawE at h
    rw [List.getElem?_set] at h
    by_cases hq : i = q
    · rw [if_pos hq] at h
      split at h <;> cases h
    · rw [if_neg hq, List.getElem?_replicate] at h
      split at h <;> cases h
  · rintro E' c' B' σ' H' h; cases h
  · intro d c' v H' h _ _ rv
    cases h
    cases rv
    exact kq H'
  · rintro E' c' B' σ' H' h; cases h
  · rintro E' c' B' σ' H' h; cases h
end
section
variable {P : Program} {w : World} {K : PySem.W.Frag} {mg mb : Str → Option Value}
theorem enter_law {k : Nat} {f a : Addr} {fd : FuncData} {x : Str} {s : Shared} {us : List Value} {ns : List Int} (inK : K.In s.heap) (g : s.heap.Ns mainGlobals mg) (b : s.heap.Ns builtinsNs mb) (bb : ∀ y : Str, y ≠ "__name__" → mb y = bootBuiltins y)
    (lim : s.heap.NoLimit) (noGens : s.gens = #[]) (hObj : s.heap.get? a = some { cls := .type "list", data := .seq us.toArray }) (isI : IntsAre us ns) (few : ns.length ≤ 63) (room : Room k callerA)
    (G : ∀ bh : Heap, K.In bh → bh.Ns mainGlobals mg → FnG true P w K mg bh k f fd [x] (spLaw K)) (binds : ∀ (t : Shared) (u : Value), BindsTo t fd ⟨[u], []⟩ [(x, u)]) :
    codeAny (model P w) callerA (.call (.ref f) ⟨[.ref a], []⟩) (fun r t => r = .ok (.ret (.bool true)) ∧ OldK s.heap t.heap ∧ t.os = s.os ∧ AllBare t.gens) s := by
  have vals := vals_ints isI
  have fewL : ns.length ≤ sizeLine := Nat.le_trans few (by rw [sizeLine_eq]; decide)
  have lens := isI.length
  classical
  let fz : HO := .frz { cls := .type "list", data := .seq us.toArray } (.lst (ns.map V.int))
  let H : Hp := fun c => if c = a ∧ K.lookup a = none then some fz else none
  have Hin : ∀ c o, H c = some o → c = a ∧ K.lookup a = none ∧ o = fz := fun c o h => by
    by_cases hc : c = a ∧ K.lookup a = none
    · have z := (if_pos hc).symm.trans h
      cases z
      exact ⟨hc.1, hc.2, rfl⟩
    · have z := (if_neg hc).symm.trans h
      cases z
  have Hno : ∀ c, (c ≠ a ∨ K.lookup a ≠ none) → H c = none := fun c h => if_neg fun z => h.elim (fun q => q z.1) fun q => q z.2
  have seqA : ∀ H' : Hp, (∀ o, H a = some o → Imm o → H' a = some o) → SqL K H' a (ns.map V.int) := by
    intro H' hk
    cases q : K.lookup a with
    | none => exact .inl (.inr ⟨_, hk fz (if_pos ⟨rfl, q⟩) True.intro⟩)
    | some o =>
      have e := inK a o q
      rw [hObj] at e
      cases e
      exact .inr ⟨_, us.toArray, _, q, rfl, rfl, rfl, by rw [List.size_toArray, lens]; exact fewL, by simpa using vals⟩
  have kept : ∀ {c : Addr} {o : Obj}, s.heap.get? c = some o → H c = none → (hidT s.heap H).get? c = some o := fun h1 h2 => hidT_get h1 h2
  have dictNo : ∀ {c : Addr} {o : Obj} {es : Array DictEntry} {n : Nat}, s.heap.get? c = some o → o.data = .dict es n → H c = none := fun {c o es n} h1 h2 => Hno c (.inl fun z => by
    rw [z, hObj] at h1
    cases h1
    have h3 : Data.seq us.toArray _ = Data.dict es n := h2
    cases h3)
  have nsTo : ∀ {c : Addr} {m : Str → Option Value}, s.heap.Ns c m → (hidT s.heap H).Ns c m := fun {c m} ⟨o, es, n, h1, h2, h3⟩ => ⟨o, es, n, kept h1 (dictNo h1 h2), h2, h3⟩
  have inB : K.In (hidT s.heap H) := fun c o h => kept (inK c o h) (Hno c (by
    by_cases z : c = a
    · exact .inr (by rw [← z, h]; exact fun q => nomatch q)
    · exact .inl z))
  have md : Mod K mg (hidT s.heap H) := ⟨inB, nsTo g, ⟨mb, nsTo b, bb⟩, let ⟨m2, y1, y2⟩ := lim; ⟨m2, nsTo y1, y2⟩⟩
  have good : HOk P w H s.heap := fun c o h => by
    obtain ⟨rfl, _, rfl⟩ := Hin c o h
    exact ⟨hObj, by rw [List.length_map]; exact fewL, us, _, vals, hObj⟩
  have start0 : Env0 P w K mg (hidT s.heap H) callerA [] s H := ⟨rfl, md, fun c o h => of_hidT h, Nat.le_of_eq (hidT_size _ _), trivial, fun c hc => (nomatch hc), good, .of_eq noGens⟩
  have asked : spLaw K [.ref a] H (fun v _ => v = .bl true) fun _ _ _ => False := ⟨a, ns, rfl, few, seqA, fun _ => rfl⟩
  have ran := (G _ inB (nsTo g)).go callerA [] s H ⟨[.ref a], []⟩ [.ref a] [.ref a] _ _ (.of room) rfl start0 (binds s (.ref a)) (.cons rfl .nil) asked
  refine codeAny_mono ran fun r t h => ?_
  match r, h with
  | .error e, h =>
    obtain ⟨_, _, _, _, _, _, _, _, _, _, _, _, no⟩ := h
    exact no.elim
  | .ok (.ret u), h =>
    obtain ⟨v, H2, os2, bare2, un2, ok2, rel2, veq⟩ := h
    have veq' : v = .bl true := veq
    rw [veq'] at rel2
    have ueq : u = Value.bool true := rel2
    rw [ueq]
    refine ⟨rfl, OldK.of_keep fun c o hc => ?_, os2, bare2⟩
    cases q : H c with
    | none => exact un2.keep c o hc q (fun z => (nomatch z)) (fun z => (nomatch z))
    | some o2 =>
      obtain ⟨rfl, _, rfl⟩ := Hin c o2 q
      obtain ⟨g1, _⟩ := good c _ q
      obtain ⟨g2, _⟩ := ok2 c _ (un2.frzs c _ _ q)
      rw [hc] at g1
      cases g1
      exact g2
  | .ok .next, h => exact h.elim
  | .ok .brk, h => exact h.elim
  | .ok .cont, h => exact h.elim
end
theorem walk_law {l : PySem.W.OpenLaw} {k : Nat} {q : Program} {loose : List Str} {XP : (Str → Option Value) → Heap → Prop} {YP : World → Heap → Prop} {d : DefRec} {x : Str} (hn : l.most = some 63) (hdf : d.params.defaults = []) (room : Room k callerA)
    (F : ∀ (w : World) (mg : Str → Option Value) (f : Addr) (h : Heap), YP w h → h.Ns mainGlobals mg → mg d.name = some (.ref f) →
      ∃ (K : PySem.W.Frag) (fd : FuncData), K.In h ∧ (∀ (t : Shared) (u : Value), BindsTo t fd ⟨[u], []⟩ [(x, u)]) ∧ ∀ bh : Heap, K.In bh → bh.Ns mainGlobals mg → FnG true l.prog w K mg bh k f fd [x] (spLaw K)) :
    PySem.W.WalkO q loose XP YP l.row.toRowW d [] (fun f vs => PySem.call f vs) := by
  refine Att.attach_call hn hdf fun w s0 s mg mb f o pm cd doc a us ns gr Y _ _ _ hmg hObj isI few noGens => ?_
  obtain ⟨K, fd, inK, bd, G⟩ := F w mg f _ Y gr.T.g hmg
  exact enter_law inK gr.T.g gr.T.b gr.T.builtins gr.T.nolimit noGens hObj isI few room G bd
end DL
end
section
namespace DL
open PySem PySem.Spec PyProof.Rows L2
section
variable {X : Cx} {p : Par} {k : Nat} {tg : Expr}
def wAny (K : PySem.W.Frag) (te : TE) : TI := fun σ H R => te σ H fun x H1 => ∃ a, x = .ref a ∧ ((∃ xs, SqL K H1 a xs ∧ R (Itl K a) H1) ∨ (∃ xs, SqT K H1 a xs ∧ R (Itt K a) H1))
theorem pi_any {e : Expr} {te : TE} (he : PE X e te) : PI X tg e (wAny X.K te) := by
  constructor
  intro pins s σ H R I h
  refine thn (he.run pins s σ H _ I h) fun v s2 ⟨x, H2, I2, rel, a, xe, alt⟩ => ?_
  subst xe
  cases rel
  have youngest : ∀ c, c ∈ [s2.heap.objs.size] → FpOk X pins H2 c := fun c hc => by
    rw [List.mem_singleton.mp hc]
    exact I2.fpOk (Nat.le_refl _) (I2.hok.fresh (Nat.le_refl _))
  rcases alt with ⟨xs, sq, r⟩ | ⟨xs, sq, r⟩
  · obtain ⟨its, vals, isl, _⟩ := I2.list sq
    exact wpAny_pyIter_list isl.isList ⟨s2.heap.objs.size, [s2.heap.objs.size], _, _, H2, rfl, I2.kept (t' := s2.toks) fun c o h => Heap.get?_push_of_some _ h, turn_list a _, ⟨_, Heap.get?_push_size _ rfl, rfl, rfl⟩, youngest, r⟩
  · obtain ⟨its, vals, ist, _⟩ := I2.tuple sq
    exact wpAny_pyIter_tuple (show s2.heap.IsTuple a its.toArray from ist) ⟨s2.heap.objs.size, [s2.heap.objs.size], _, _, H2, rfl, I2.kept (t' := s2.toks) fun c o h => Heap.get?_push_of_some _ h, turn_tuple a _, ⟨_, Heap.get?_push_size _ rfl, rfl, rfl⟩, youngest, r⟩
theorem pi_seq {e : Expr} {m : XE} (he : PD X p e m) : PDI X p tg e (iSeq m) := by
  obtain ⟨te, a1, a2⟩ := he.ex
  refine ⟨_, pi_any a1, fun B H σ E c P R st r m k => ?_⟩
  refine a2 B H σ E _ _ _ st r m fun d c1 v H1 m1 e1 s1 r1 => ?_
  cases r1 with
  | lst q n t => exact ⟨_, rfl, .inl ⟨_, SqL.of q, k _ _ _ H1 m1 e1 s1 (walkD_list q n t)⟩⟩
  | tup q t => exact ⟨_, rfl, .inr ⟨_, q, k _ _ _ H1 m1 e1 s1 (walkD_tup q t)⟩⟩
  | _ => exact m1.elim
/-- names = e -/
theorem sd_put {cb : Bool} (S : SitB cb true X p k) {e : Expr} {m : XE} {t : Tg} {pos : Pos} (hg : PG X tg (gOf X.K t)) (he : PD X p e m) (hs : swapsWithSole [tg] e pos.line X.env = pure false := by rfl) (hw : swappedStores [tg] e X.env = pure none := by rfl)
    (h1 : (assignEach [tg] X.env).map (·.2) = [assign tg X.env] := by rfl) : PSD X p (.Assign [tg] e pos) (sPut t m) := by
  obtain ⟨te, a1, a2⟩ := he.ex
  refine ⟨_, ps_asg a1 hg hs hw h1, fun B H σ E c P Dn st r m nx rt bk ct => ?_⟩
  refine a2 B H σ E _ _ _ st r m fun d c1 v H1 m1 e1 s1 r1 => ?_
  have m1' : (match t.put d E with | some E' => ret (Out.nx E') | none => stuck) c1 P p.XP := m1
  cases h : t.put d E with
  | none => rw [h] at m1'; exact m1'.elim
  | some E' =>
    rw [h] at m1'
    exact gOf_put S.nf (r.go st e1) r1 h _ fun σ' g _ _ => nx _ _ B _ H1 m1' (st.go e1 s1) ((st.up e1)) g
end
end DL
end
section
namespace DL
open PySem PySem.Spec PyProof.Rows L2
/-- a sequence, by its kind: a tuple, a list -/
def SqX (K : PySem.W.Frag) (t : Bool) (H : Hp) (a : Addr) (xs : List V) : Prop := if t = true then SqT K H a xs else SqL K H a xs
def ItX (t : Bool) (h : Heap) (it a : Addr) (i : Nat) : Prop := if t = true then h.IsTupleIter it a i else h.IsListIter it a i
def ObX (t : Bool) (h : Heap) (a : Addr) (its : List Value) : Prop := if t = true then h.IsTuple a its.toArray else h.IsList a its.toArray
def cellX (t : Bool) (a : Addr) : Obj := if t = true then { cls := .type "tuple_iterator", data := .fields #[.ref a, .int 0 0] } else { cls := .type "list_iterator", data := .fields #[.ref a, .int 0 0] }
theorem ItX.at_ {t : Bool} {h h' : Heap} {it a : Addr} {i : Nat} (x : ItX t h it a i) (e : ∀ o, h.get? it = some o → h'.get? it = some o) : ItX t h' it a i := by
  cases t
  · exact Heap.IsListIter.at (h := h) x e
  · exact Heap.IsTupleIter.at (h := h) x e
theorem ItX.get {t : Bool} {h : Heap} {it a : Addr} {i : Nat} (x : ItX t h it a i) : ∃ o vs, h.get? it = some o ∧ o.data = .fields vs := by
  cases t
  · obtain ⟨o, e, _, d⟩ := (show h.IsListIter it a i from x); exact ⟨o, _, e, d⟩
  · obtain ⟨o, e, _, d⟩ := (show h.IsTupleIter it a i from x); exact ⟨o, _, e, d⟩
theorem drawsX {P : Program} {w : World} {A : Around} (hh : A.handled = none) (t : Bool) (it a : Addr) (hne : a ≠ it) (its : List Value) :
    Draws P w A it [it, a] its.length (fun i v => its[i]? = some v) (fun i h => ItX t h it a i ∧ ObX t h a its) := by
  cases t
  · have := Draws.list (prog := P) (w := w) hh it a hne its.toArray
    simpa [ItX, ObX] using this
  · have := Draws.tuple (prog := P) (w := w) hh it a hne its.toArray
    simpa [ItX, ObX] using this
section
variable {X : Cx} {pins : List (Addr × Obj)} {σ : L2.St} {H : Hp} {s : Shared}
theorem inv_X {t : Bool} {a : Addr} {xs : List V} (I : Inv X pins σ H s) (h : SqX X.K t H a xs) : ∃ its : List Value, Vals xs its ∧ ObX t s.heap a its := by
  cases t
  · obtain ⟨its, r, p, _⟩ := I.list (show SqL X.K H a xs from h)
    exact ⟨its, r, p.isList⟩
  · obtain ⟨its, r, p, _⟩ := I.tuple (show SqT X.K H a xs from h)
    exact ⟨its, r, (show s.heap.IsTuple a its.toArray from p)⟩
theorem inj_X {t : Bool} {a : Addr} {xs ys : List V} (I : Inv X pins σ H s) (h : SqX X.K t H a xs) (h' : SqX X.K t H a ys) : xs = ys := by
  cases t
  · exact I.list_inj h h'
  · exact I.tuple_inj h h'
end
theorem obX_ne {t : Bool} {h : Heap} {a it : Addr} {its : List Value} {o : Obj} {vs : Array Value} (x : ObX t h a its) (e : h.get? it = some o) (d : o.data = .fields vs) : a ≠ it := by
  rintro rfl
  cases t
  · obtain ⟨o', e', _, n, d'⟩ := (show h.IsList a its.toArray from x)
    rw [e] at e'
    cases e'
    rw [d] at d'
    cases d'
  · obtain ⟨o', e', _, n, d'⟩ := (show h.IsTuple a its.toArray from x)
    rw [e] at e'
    cases e'
    rw [d] at d'
    cases d'
theorem obX_dict {t : Bool} {h : Heap} {a e it : Addr} {c : Int} {old : Value} {its : List Value} (x : ObX t h a its) (he : IsEnum h e it c old) : a ≠ e := obX_ne x he rfl
/-- the sequence at a as it stands at each turn, each item in a new pair with its number, from c on -/
def IteX (K : PySem.W.Frag) (t : Bool) (c : Int) (a : Addr) : It :=
  ⟨fun i H => ∃ (xs : List V) (x : V), SqX K t H a xs ∧ xs[i]? = some x,
   fun i H v H' => ∃ T x, v = .ref T ∧ H T = none ∧ H' = upd H T (.tup [.int (c + (i : Int)), x]) ∧ ∀ xs, SqX K t H a xs → xs[i]? = some x,
   fun i H => ∃ xs : List V, SqX K t H a xs ∧ xs.length = i⟩
theorem turn_enumX {P : Program} {w : World} {K : PySem.W.Frag} {elts : List Expr} {kk : Nat} {tpos : Pos} (t : Bool) (c : Int) (a e it : Addr) :
    Turn P w K (.Tuple elts kk tpos) (IteX K t c a) [e, it] e (fun i h => (∃ old, IsEnum h e it (c + (i : Int)) old) ∧ ItX t h it a i ∧ e ≠ it) where
  mem := List.mem_cons_self ..
  obj := fun i h st b hb => by
    obtain ⟨⟨old, he⟩, hi, _⟩ := st
    rcases List.mem_cons.mp hb with rfl | hb
    · exact ⟨_, he, fun v q => nomatch q⟩
    · rw [List.mem_singleton.mp hb]
      obtain ⟨o, vs, ho, hd⟩ := hi.get
      exact ⟨o, ho, fun v q => by rw [hd] at q; cases q⟩
  keep := fun i h h' st k => by
    obtain ⟨⟨old, he⟩, hi, hne⟩ := st
    exact ⟨⟨old, k e (List.mem_cons_self ..) _ he⟩, hi.at_ fun o q => k it (.tail _ (List.mem_singleton.mpr rfl)) o q, hne⟩
  item := by
    intro X hP hw hK calm i pins s σ H E I fresh st going
    subst hP hw hK
    obtain ⟨⟨old, he⟩, hi, hne⟩ := st
    obtain ⟨xs, x, sq, hx⟩ := going
    obtain ⟨its, vals, ob⟩ := inv_X I sq
    obtain ⟨u, hu, ru⟩ := vals.get hx
    obtain ⟨io, ivs, hio, hid⟩ := hi.get
    have ai : a ≠ it := obX_ne ob hio hid
    have ae : a ≠ e := obX_dict ob he
    have eLt : e < s.heap.objs.size := Heap.lt_size he
    have iLt : it < s.heap.objs.size := Heap.lt_size hio
    have nh : X.A.in1.handled = none := I.ok.hd calm
    refine wpAny_pyNext_enum_itemC (drawsX nh t it a ai its) he ⟨hi, ob⟩ (List.getElem?_eq_some_iff.mp hu).1 hne (fun z => by
      rcases List.mem_cons.mp z with z | z
      · exact hne z
      · exact ae (List.mem_singleton.mp z).symm) fun y h2 tk hy out st2 hT hsz kept => ?_
    have hyu : y = u := Option.some.inj (hy.symm.trans hu)
    subst hyu
    refine ⟨_, rfl, wpAny_letOwnedTupleGo_enum (s := { s with heap := h2, toks := tk + 1 }) out fun h3 he3 same => ?_⟩
    have hT3 : h3.get? s.heap.objs.size = some { cls := .type "tuple", data := .seq #[.int (c + (i : Int)) tk, y] } := (same.2 _ (Nat.ne_of_gt eLt)).trans hT
    have made : ObjOk X.prog X.w (upd H s.heap.objs.size (.tup [.int (c + (i : Int)), x])) h3 s.heap.objs.size (.tup [.int (c + (i : Int)), x]) :=
      ⟨by show 2 ≤ sizeLine; rw [sizeLine_eq]; decide, [.int (c + (i : Int)) tk, y], .cons ⟨_, rfl⟩ (.cons ru .nil), ⟨_, hT3, rfl, _, rfl⟩⟩
    have I3 : Inv X pins σ (upd H s.heap.objs.size (.tup [.int (c + (i : Int)), x])) { s with heap := h3, toks := tk + 1 } :=
      I.turnedNew (ch := [e, it]) (fun b ob2 hb q => (same.2 b (fun z => hb (by rw [z]; exact List.mem_cons_self ..))).trans (kept b ob2 (fun z => hb (by rw [z]; exact List.mem_cons_self ..)) (fun z => hb (by rw [z]; exact .tail _ (List.mem_singleton.mpr rfl))) q)) fresh (Nat.le_refl _) made
    refine ⟨.ref s.heap.objs.size, _, I3, rfl, ⟨_, x, rfl, I.hok.fresh (Nat.le_refl _), rfl, fun ys hys => by rw [inj_X I hys sq]; exact hx⟩, ⟨⟨y, ?_⟩, st2.1.at_ fun o q => (same.2 it (Ne.symm hne)).trans q, hne⟩, fun b hb => ?_⟩
    · rw [show c + ((i + 1 : Nat) : Int) = c + (i : Int) + 1 by omega]
      exact he3
    · have bLt : b < s.heap.objs.size := by
        rcases List.mem_cons.mp hb with rfl | hb
        · exact eLt
        · rw [List.mem_singleton.mp hb]; exact iLt
      rw [upd_ne (Nat.ne_of_lt bLt)]
      exact (fresh b hb).1
  done := by
    intro X hP hw hK calm i pins s σ H E I fresh st ending
    subst hP hw hK
    obtain ⟨⟨old, he⟩, hi, hne⟩ := st
    obtain ⟨xs, sq, hx⟩ := ending
    obtain ⟨its, vals, ob⟩ := inv_X I sq
    obtain ⟨io, ivs, hio, hid⟩ := hi.get
    have ai : a ≠ it := obX_ne ob hio hid
    have nh : X.A.in1.handled = none := I.ok.hd calm
    have len := vals.length
    obtain ⟨f0, f1, f2, f3, f4, f5⟩ := fresh it (.tail _ (List.mem_singleton.mpr rfl))
    have at_end : ItX t s.heap it a its.length ∧ ObX t s.heap a its := by
      rw [← len, hx]
      exact ⟨hi, ob⟩
    exact wpAny_pyNext_enum_endD (drawsX nh t it a ai its) he at_end fun h2 ext => ⟨rfl, I.turned (t' := s.toks) (fun b o hb q => ext b o hb q) f0 f1 f3 f4 f5⟩
  self := fun A i s Q E st h => by
    obtain ⟨⟨_, he⟩, _⟩ := st
    exact wpAny_pyIter_enum he h
theorem meets_enumB {v : Value} {o : Obj} {Hh : Heap → Prop} (B : Begins v o Hh) :
    Meets (Builtin.«enumerate.__new__» ⟨[.type "enumerate", v], []⟩) (fun _ R s => Hh s.heap ∧ R (.ok (.ret (.ref (s.heap.push o).objs.size)))
      { s with heap := (s.heap.push o).push { cls := .type "enumerate", data := .fields #[.none, .bool false, .ref s.heap.objs.size, rawInt 0, .none, .none] } }) :=
  .of_wp fun P w A R s h => by
    obtain ⟨heap, gens, drawn, toks, os⟩ := s
    obtain ⟨there, h⟩ := h
    have below := sub_enumerate
    have walk : ∀ {A2 : Around} {E : Value → Shared → Prop} {Q : Value → Shared → Prop}, Q (.ref heap.objs.size) ⟨heap.push o, gens, drawn, toks, os⟩ → wpAny (model P w) A2 (pyIter v) Q E ⟨heap, gens, drawn, toks, os⟩ :=
      fun q => B.iter P w _ _ ⟨heap, gens, drawn, toks, os⟩ _ there q
    wp_walk using walk
    refine wpAny_stack_any fun frames => wpAny_pure ?_
    split
    · rename_i k _ _ _ _ _
      cases (k == Value.type "enumerate") <;> (wp_walk using walk; exact ⟨_, rfl, h⟩)
    · wp_walk using walk
      exact ⟨_, rfl, h⟩
theorem enum_new {P : Program} {w : World} {A : Around} {E : Value → Shared → Prop} {s : Shared} {v : Value} {o : Obj} {Hh : Heap → Prop} {Q : Value → Shared → Prop} (B : Begins v o Hh) (there : Hh s.heap)
    (h : ∀ h', IsEnum h' (s.heap.objs.size + 1) s.heap.objs.size 0 .none → h'.get? s.heap.objs.size = some o → (∀ b u, s.heap.get? b = some u → h'.get? b = some u) → Q (.ref (s.heap.objs.size + 1)) { s with heap := h' }) :
    wpAny (model P w) A (call (.type "enumerate") [v]) Q E s := by
  refine callType_new F.called_enumerate (by decide) (F.typeCall_enumerate_1 _) (F.newCall_enumerate_1 _) (fun obj => F.args_object_init_2 obj _) F.entry_enumerate_new (meets_enumB B) ⟨there, ?_⟩
  have sz : (s.heap.push o).objs.size = s.heap.objs.size + 1 := Heap.size_push ..
  show _ ∧ _
  rw [sz]
  have is : IsEnum ((s.heap.push o).push { cls := .type "enumerate", data := .fields #[.none, .bool false, .ref s.heap.objs.size, rawInt 0, .none, .none] }) (s.heap.objs.size + 1) s.heap.objs.size 0 .none := by
    have at_ := Heap.get?_push_size (s.heap.push o) (o := { cls := .type "enumerate", data := .fields #[.none, .bool false, .ref s.heap.objs.size, rawInt 0, .none, .none] }) rfl
    rw [sz] at at_
    exact at_
  exact ⟨⟨_, is, rfl⟩, h _ is (Heap.get?_push_of_some _ (Heap.get?_push_size _ B.free)) fun b u q => Heap.get?_push_of_some _ (Heap.get?_push_of_some _ q)⟩
theorem beginsX (t : Bool) (a : Addr) (its : List Value) : Begins (.ref a) (cellX t a) fun h => ObX t h a its := by
  cases t
  · exact begins_list a its.toArray
  · exact begins_tuple a its.toArray
theorem itX_new {t : Bool} {h : Heap} {it a : Addr} (e : h.get? it = some (cellX t a)) : ItX t h it a 0 := by
  cases t <;> exact ⟨_, e, rfl, rfl⟩
section
variable {X : Cx} {p : Par} {k : Nat}
def qEnum (K : PySem.W.Frag) (R : It → Hp → Prop) (c : Int) (x : V) (H1 : Hp) : Prop := (-(2 ^ 63) ≤ c ∧ c < 2 ^ 63) ∧ ∃ a t xs, x = .ref a ∧ SqX K t H1 a xs ∧ R (IteX K t c a) H1
def wEnum (K : PySem.W.Frag) (c : Int) (te : TE) : TI := fun σ H R => te σ H fun x H1 => qEnum K R c x H1
theorem enum_ends {pins : List (Addr × Obj)} {σ : L2.St} {H : Hp} {s : Shared} {R : It → Hp → Prop} {elts : List Expr} {kk : Nat} {tpos : Pos} {t : Bool} {c : Int} {a : Addr} {h' : Heap} (I : Inv X pins σ H s)
    (he : IsEnum h' (s.heap.objs.size + 1) s.heap.objs.size c .none) (hi : h'.get? s.heap.objs.size = some (cellX t a)) (kept : ∀ b u, s.heap.get? b = some u → h'.get? b = some u) (r : R (IteX X.K t c a) H) :
    wpAny (model X.prog X.w) X.A (pyIter (.ref (s.heap.objs.size + 1))) (PIE X pins σ (.Tuple elts kk tpos) R) X.xe { s with heap := h' } := by
  refine wpAny_pyIter_enum he ?_
  have I2 : Inv X pins σ H { s with heap := h' } := I.kept (t' := s.toks) kept
  refine ⟨s.heap.objs.size + 1, [s.heap.objs.size + 1, s.heap.objs.size], _, _, H, rfl, I2, turn_enumX t c a (s.heap.objs.size + 1) s.heap.objs.size, ⟨⟨.none, ?_⟩, itX_new hi, Nat.succ_ne_self _⟩, fun b hb => ?_, r⟩
  · show IsEnum h' _ _ (c + ((0 : Nat) : Int)) _
    rw [show c + ((0 : Nat) : Int) = c by omega]
    exact he
  · have above : s.heap.objs.size ≤ b := by
      rcases List.mem_cons.mp hb with rfl | hb
      · exact Nat.le_succ _
      · rw [List.mem_singleton.mp hb]; exact Nat.le_refl _
    exact I.fpOk above (I.hok.fresh above)
end
end DL
end
section
namespace DL
open PySem PySem.Spec PyProof.Rows L2
section
variable {X : Cx} {p : Par} {k : Nat}
theorem pi_enum1 {e : Expr} {te : TE} {pn pos tpos : Pos} {elts : List Expr} {kk : Nat} (he : PE X e te) (hm : X.mg "enumerate" = none) (hg : Gl X "enumerate" := by rfl) (hs : starEach [e] X.env = [(false, eval e X.env)] := by rfl) :
    PI X (.Tuple elts kk tpos) (.Call (.Name "enumerate" pn) [e] [] pos) (wEnum X.K 0 te) := by
  constructor
  intro pins s σ H R I h
  have arg : PA X [e] (tCons te tNil) := pa_cons he pa_nil (by rw [hs] <;> rfl)
  let Q1 : List V → Hp → Prop := fun vs H1 => match vs with | [x] => qEnum X.K R 0 x H1 | _ => False
  have h1 : tCons te tNil σ H Q1 := h
  refine Call_ (ld_blt I hg hm boot_enumerate (PyProof.Rows.callWith_type1 (thn (arg.run pos pins s σ H _ I h1) fun us s1 ⟨vs, H1, I1, r1, q1⟩ => ?_) hs rfl))
  match vs, r1, q1 with
  | [x], .cons r .nil, q1 =>
    obtain ⟨_, a, t, xs, rfl, sq, q⟩ := (show qEnum X.K R 0 x H1 from q1)
    cases r
    obtain ⟨its, _, ob⟩ := inv_X I1 sq
    exact enum_new (beginsX t a its) ob fun h' he hi kept => enum_ends I1 he hi kept q
  | [], _, q1 => exact q1.elim
  | _ :: _ :: _, _, q1 => exact q1.elim
/-- the pairs -/
def pairs (c : Int) : List D → List D
  | [] => []
  | d :: ds => .tuple [.int c, d] :: pairs (c + 1) ds
theorem pairs_get : ∀ (ds : List D) (c : Int) (i : Nat) (d : D), ds[i]? = some d → (pairs c ds)[i]? = some (.tuple [.int (c + (i : Int)), d])
  | [], _, _, _, h => by simp at h
  | x :: ds, c, 0, d, h => by
    cases h
    show some _ = some _
    rw [show c + ((0 : Nat) : Int) = c by omega]
  | x :: ds, c, i + 1, d, h => by
    have e := pairs_get ds (c + 1) i d h
    show (pairs (c + 1) ds)[i]? = _
    rw [e, show c + 1 + (i : Int) = c + ((i + 1 : Nat) : Int) by omega]
theorem pairs_len : ∀ (ds : List D) (c : Int), (pairs c ds).length = ds.length
  | [], _ => rfl
  | _ :: ds, c => by
    show (pairs (c + 1) ds).length + 1 = _
    rw [pairs_len ds (c + 1)]
    rfl
def iEnumC (c : Int) (a : XE) : XA := fun E => bnd (a E) fun d => bnd (itemsOf d) fun xs => grd (-(2 ^ 63) ≤ c ∧ c < 2 ^ 63) (ret (pairs c xs))
theorem walkD_enum {K : PySem.W.Frag} {B : Addr → Prop} {H : Hp} {a : Addr} {t : Bool} {c : Int} {xs : List V} {ds : List D} (sq : SqX K t H a xs) (kept : ∀ B1 H1, Tr B H B1 H1 → SqX K t H1 a xs) (rs : Reps K B H xs ds) : WalkD K B H (IteX K t c a) (pairs c ds) := by
  refine ⟨fun H => SqX K t H a xs, sq, kept, ?_⟩
  rw [pairs_len, ← rs.length]
  refine ⟨fun i _ hi q => ⟨xs, xs[i], q, List.getElem?_eq_getElem hi⟩, fun _ q => ⟨xs, q, rfl⟩, fun i H1 v H2 hi q y => ?_⟩
  obtain ⟨T, x, rfl, hT, rfl, hx⟩ := y
  refine ⟨All.new hT, fun B1 tr _ => ?_⟩
  obtain ⟨d, hd, rd⟩ := rs.at' (hx xs q)
  exact ⟨_, pairs_get ds c i d hd, rep_tup hT (.cons (.int _) (.cons (rd.tr tr) .nil))⟩
theorem pi_enum1D {e : Expr} {m : XE} {pn pos tpos : Pos} {elts : List Expr} {kk : Nat} (he : PD X p e m) (hm : X.mg "enumerate" = none) (hg : Gl X "enumerate" := by rfl) (hs : starEach [e] X.env = [(false, eval e X.env)] := by rfl) :
    PDI X p (.Tuple elts kk tpos) (.Call (.Name "enumerate" pn) [e] [] pos) (iEnumC 0 m) := by
  obtain ⟨te, a1, a2⟩ := he.ex
  refine ⟨_, pi_enum1 a1 hm hg hs, fun B H σ E c P R st r m k => ?_⟩
  refine a2 B H σ E _ _ _ st r m fun d c1 v H1 m1 e1 s1 r1 => ?_
  cases r1 with
  | lst q n t => exact ⟨m1.1, _, false, _, rfl, SqL.of q, k _ _ _ H1 m1.2 e1 s1 (walkD_enum (SqL.of q) (fun B1 H2 tr => SqL.of (tr.ext.keep _ _ q n)) t)⟩
  | tup q t => exact ⟨m1.1, _, true, _, rfl, q, k _ _ _ H1 m1.2 e1 s1 (walkD_enum (t := true) q (fun B1 H2 tr => tr.ext.sqT q) t)⟩
  | _ => exact m1.elim
end
end DL
end
section
namespace DL
open PySem PySem.Spec PyProof.Rows L2
end DL
end
section
namespace DL
open PySem PySem.Spec PyProof.Rows L2
section
variable {X : Cx} {p : Par} {k : Nat}
theorem pda_star {e : Expr} {es : List Expr} {m : XE} {r : XA} {ps : Pos} (he : PD X p e m) (hr : PDA X p es r) (hs : starEach (.Starred e ps :: es) X.env = (true, eval e X.env) :: starEach es X.env := by rfl) : PDA X p (.Starred e ps :: es) (aStar m r) := by
  obtain ⟨te, a1, a2⟩ := he.ex
  obtain ⟨tr, b1, b2⟩ := hr.ex
  refine ⟨_, StX.pa_star a1 b1 hs, fun B H σ E c P Q st re mm kk => ?_⟩
  refine a2 B H σ E _ _ _ st re mm fun d c1 v H1 m1 e1 s1 r1 => ?_
  have st1 := st.go e1 s1
  have go : ∀ (a : Addr) (xs : List V) (ds : List D), itemsOf d = ret ds → Reps X.K (bm p B c1) H1 xs ds → (SqT X.K H1 a xs ∨ SqL X.K H1 a xs) → ∃ a' xs', V.ref a = V.ref a' ∧ (SqT X.K H1 a' xs' ∨ SqL X.K H1 a' xs') ∧ tr σ H1 fun vs H2 => Q (xs' ++ vs) H2 := by
    intro a xs ds hd rs sq
    have m1' : bnd (itemsOf d) (fun ys => bnd (r E) fun zs => ret (ys ++ zs)) c1 P p.XP := m1
    rw [hd, bnd_ret] at m1'
    refine ⟨a, xs, rfl, sq, ?_⟩
    exact b2 B H1 σ E _ _ _ st1 (re.go st e1) m1' fun es2 c2' vs H2 m2 e2 s2 r2 => kk _ c2' _ H2 m2 (e1.trans e2) s2 ((rs.tr (st1.up e2)).append r2)
  cases r1 with
  | lst q n t => exact go _ _ _ rfl t (.inr (SqL.of q))
  | tup q t => exact go _ _ _ rfl t (.inl q)
  | _ => exact m1.elim
end
end DL
end
section
namespace DL
open PySem PySem.Spec PyProof.Rows L2
end DL
end
section
namespace DL
open PySem PySem.Spec PyProof.Rows L2
/-- the exception that is made: its object, its own dict -/
structure Made1 (h h' : Heap) (e C d : Addr) (f : Str) (v : Value) : Prop where
  keep : ∀ b o, h.get? b = some o → h'.get? b = some o
  new : h.objs.size ≤ e
  obj : ∃ t1 : Addr, h'.get? e = some { cls := .ref C, dict := some d, data := .fields #[.ref t1, .none, .none, .none, .bool false, .none] }
  dbig : h.objs.size ≤ d
  dne : d ≠ e
  ns : h'.Ns1 d (fun y => if y = f then some v else none)
section
variable {prog : Program} {w : World} {A : Around} {E : Value → Shared → Prop} {R : Result → Shared → Prop} {K : PySem.W.Frag} {C L : Addr}
/-- the first field of a fresh exception -/
theorem put_field {hp : Heap} {g : Array GenState} {dr : Drawn} {t : Nat} {os : OsState} {name : Str} {tk : Tok} {v : Value} {x t1 : Addr} (b : Bs) (X : K.In hp) (hx : hp.get? x = some (PySem.HandSPX.excO C t1)) (ov : PySem.W.excOver K C b.tl = true) (hh : PySem.W.hasDictIn K C = true) (ha : PySem.W.findIn K (.ref C) name = some none)
    (hq : ∀ h' tk' dx, (∀ b o, b ≠ x → hp.get? b = some o → h'.get? b = some o) → hp.objs.size ≤ dx → dx ≠ x → h'.get? x = some { cls := .ref C, dict := some dx, data := .fields #[.ref t1, .none, .none, .none, .bool false, .none] } →
      h'.Ns1 dx (fun y => if y = name then some v else none) → R (.ok (.ret .none)) ⟨h', g, dr, tk', os⟩) :
    codeAny (model prog w) A (.call (.builtin "object.__setattr__") ⟨[.ref x, .str name tk, v], []⟩) R ⟨hp, g, dr, t, os⟩ := by
  have hxs : x < hp.objs.size := Heap.lt_size hx
  refine PySem.W.osa_openX (s := ⟨hp, g, dr, t, os⟩) (od := none) (r := none) b.sf X ⟨hx, rfl, rfl, trivial⟩ ov ?_ fun bb => ?_
  · show (PySem.W.findIn K (.ref C) name).bind _ = _
    rw [ha]
    rfl
  · obtain ⟨cd, hc, hd'⟩ := PySem.W.any_some hh
    refine wpAny_bind (wpAny_pure (wpAny_bind (PySem.W.instanceDict_exc (s := ⟨hp, g, dr, t, os⟩) (c2 := .none) hx (PySem.W.looks_clsIn X hc) hd' ?_)))
    show wpAny _ _ (Builtin.ObjectAttr.storeInDict hp.objs.size (.str name tk) name v) _ _ _
    have ne : hp.objs.size ≠ x := Nat.ne_of_gt hxs
    refine PySem.HandSPX.store_in_new (hp := (hp.push (PySem.W.dictOf [] 0)).update x fun o => { o with dict := some hp.objs.size }) ⟨_, #[], _, (Heap.get?_update_ne _ _ _ _ ne).trans (Heap.get?_push_at rfl rfl), rfl, fun e he => absurd he (by simp), fun _ => rfl⟩ fun h' tk' hn' hs => ?_
    have hx1 : (hp.push (PySem.W.dictOf [] 0)).get? x = some (PySem.HandSPX.excO C t1) := Heap.get?_push_of_some _ hx
    refine hq h' tk' hp.objs.size (fun b o hb ho => ?_) (Nat.le_refl _) ne ?_ hn'
    · exact (hs.2 b (Nat.ne_of_lt (Heap.lt_size ho))).trans ((Heap.get?_update_ne _ _ _ _ hb).trans (Heap.get?_push_of_some _ ho))
    · exact (hs.2 x ne.symm).trans (Heap.get?_update_self _ hx1 rfl)
end
theorem one_line (v : Value) : [v].length ≤ sizeLine := by
  rw [sizeLine_eq]
  exact (by decide : 1 ≤ 16777216)
/-- a name of __init__'s frame -/
theorem ini_name {M : Model} {s : Shared} {q : Str} {sc : Scope} {L a : Addr} {cd : Value} {m : Str → Option Value} {x : Str} {pos : Pos} {v : Value} {Q : Value → Shared → Prop} {A : Around} {E : Value → Shared → Prop} (hn : s.heap.Ns L m) (hv : m x = some v) (hk : sc.kind = .function)
    (hl : (envOfC q sc L a cd).kindOf x = some .local) (hd : (x == ("__debug__" : Str)) = false) (h : Q v s) : wpAny M A (eval (.Name x pos) (envOfC q sc L a cd)) Q E s := wpAny_Name (wpAny_loadName_local hk hl hn hv h) hd
section
variable {prog : Program} {w : World} {A : Around} {E : Value → Shared → Prop} {R : Result → Shared → Prop} {s : Shared} {K : PySem.W.Frag} {n : Str}
/-- what __init__ leaves of a fresh exception -/
theorem run_init {f : Fl} {b : Bs} (T : ErrT K n f b) {x t0 : Addr} {v : Value} (X : K.In s.heap) (hlim : s.heap.NoLimit) (hx : s.heap.get? x = some (PySem.HandSPX.excO (He.ga K n) t0)) (hroom : A.depth < recursionLimit)
    (hq : ∀ h' tk dx, (∀ b o, b ≠ x → s.heap.get? b = some o → h'.get? b = some o) → h'.get? x = some { cls := .ref (He.ga K n), dict := some dx, data := .fields #[.ref t0, .none, .none, .none, .bool false, .none] } → s.heap.objs.size ≤ dx → dx ≠ x →
      h'.Ns1 dx (fun y => if y = f.s then some v else none) → R (.ok (.ret .none)) { s with heap := h', toks := tk }) :
    codeAny (model prog w) A (.call (.ref (He.ma K (He.ga K n) "__init__")) ⟨[.ref x, v], []⟩) R s := by
  obtain ⟨q, p1, p2, q1, q2, q3, q4, fd, F⟩ := T.fn
  have bd : BindsTo s fd ⟨[.ref x, v], []⟩ [("self", .ref x), (f.s, v)] := by
    cases f <;> exact L2.FunD.bindsA (ps := ["self", _]) F (fun _ _ _ _ _ _ us hl => match us, hl with | [_, _], _ => rfl) s [.ref x, v] rfl
  obtain ⟨oc, od, dV, kV, doc, pm, an, cdv, ct, osl, rfl, ho, hcd, dv, kv⟩ := F.ex
  refine Att.call_fn (binds := [("self", .ref x), (f.s, v)]) X hlim ho hcd hroom bd (by cases f <;> rfl) (fun s₁ IC => ?_) rfl rfl rfl
  obtain ⟨h₁, tk₁, rfl⟩ := IC.toInCall.same
  have k : ∀ b o, s.heap.get? b = some o → h₁.get? b = some o := IC.toInCall.keep
  have hn := IC.toInCall.ns
  have X₁ : K.In h₁ := X.keeps k
  have hx₁ := k _ _ hx
  have hk1 : (envOfC q (iniS f.s) s.heap.objs.size (He.ma K (He.ga K n) "__init__") cdv).kindOf f.s = some .local := by cases f <;> rfl
  have hk2 : (envOfC q (iniS f.s) s.heap.objs.size (He.ma K (He.ga K n) "__init__") cdv).kindOf "self" = some .local := rfl
  show wpAny _ _ (execs _ _) _ _ _
  refine wpAny_execs_cons (plainObj_wpAny_Assign_Attribute ?_)
  refine ini_name hn (v := v) (by cases f <;> rfl) rfl hk1 (by cases f <;> rfl) ?_
  refine ini_name hn (v := .ref x) (by cases f <;> rfl) rfl hk2 rfl ?_
  refine PySem.W.set_plain X₁ (ox := PySem.HandSPX.excO (He.ga K n) t0) (od := none) ⟨hx₁, rfl, rfl, trivial⟩ T.sa ?_
  refine put_field b X₁ hx₁ T.ov T.c.hdC (T.c.nof f) fun h₃ tk₃ dx k₃ dn dne hx₃ hn₃ => ?_
  show wpAny _ _ (execs _ _) _ _ _
  have z : s.heap.objs.size < h₁.objs.size := hn.lt
  exact wpAny_execs_nil (hq h₃ tk₃ dx (fun b o hb e => k₃ b o hb (k b o e)) hx₃ (Nat.le_of_lt (Nat.lt_of_lt_of_le z dn)) dne hn₃)
/-- C(v) -/
theorem run_made {f : Fl} {b : Bs} (T : ErrT K n f b) {v : Value} (X : K.In s.heap) (hlim : s.heap.NoLimit) (hroom : A.depth + 1 < recursionLimit)
    (hq : ∀ h' tk e d, Made1 s.heap h' e (He.ga K n) d f.s v → R (.ok (.ret (.ref e))) { s with heap := h', toks := tk }) : codeAny (model prog w) A (.call (.ref (He.ga K n)) ⟨[v], []⟩) R s := by
  obtain ⟨nm, N, q, bs, bm, hdct, sn, sub, ab, col, dd, k0, k1, k2, k3, k5, hC, hT⟩ := PySem.W.excInit_of X T.ini
  obtain ⟨hp, g, dr, tk, os⟩ := s
  have k : ∀ b o, hp.get? b = some o → ((hp.push (PySem.W.kdv_tup [v])).push (PySem.HandSPX.excO (He.ga K n) hp.objs.size)).get? b = some o := fun b o e => Heap.get?_push_of_some _ (Heap.get?_push_of_some _ e)
  have hget : ((hp.push (PySem.W.kdv_tup [v])).push (PySem.HandSPX.excO (He.ga K n) hp.objs.size)).get? (hp.objs.size + 1) = some (PySem.HandSPX.excO (He.ga K n) hp.objs.size) := by heap_get
  refine PySem.HandSPX.call_own b.fb hT hC (PySem.W.looks_findIn X T.iC) (fun self => PySem.W.bind_fn X self T.tC) (one_line v) ?_
  refine run_init (s := ⟨(hp.push (PySem.W.kdv_tup [v])).push (PySem.HandSPX.excO (He.ga K n) hp.objs.size), g, dr, tk, os⟩) T (X.keeps k) (hlim.keeps k) hget ?_ fun h' tk' dx k' hx dn dne hns => ?_
  · show A.depth + 1 < recursionLimit
    exact hroom
  · have z : hp.objs.size + 1 + 1 ≤ dx := by
      first
        | (simpa only [Heap.size_push] using dn)
        | exact dn
        | (have q := dn; rw [Heap.size_push, Heap.size_push] at q; exact q)
    exact ⟨rfl, hq h' tk' (hp.objs.size + 1) dx ⟨fun b o e => k' b o (Nat.ne_of_lt (Nat.lt_succ_of_lt (Heap.lt_size e))) (k b o e), Nat.le_succ _, ⟨_, hx⟩, Nat.le_trans (Nat.le_trans (Nat.le_succ _) (Nat.le_succ _)) z, dne, hns⟩⟩
end
theorem relO_field {v : V} {v' : Value} (r : RelV v v') (g f : Str) : RelO (List.lookup f [(g, v)]) (if f = g then some v' else none) := by
  by_cases h : f = g
  · subst h
    have e : List.lookup f [(f, v)] = some v := by simp [List.lookup]
    rw [if_pos rfl, e]
    exact r
  · have e : (f == g) = false := by simpa using h
    have e2 : List.lookup f [(g, v)] = none := by simp [List.lookup, e]
    rw [if_neg h, e2]
    trivial
section
variable {X : Cx} {n : Str}
/-- C(e) -/
def tMk1 (C : Addr) (f : Str) (ta : TA) : L2.St → Hp → XK → Prop := fun σ H Q => ta σ H fun vs H1 => ∃ v, vs = [v] ∧ ∀ d, H1 d = none → Q (.ref C) (some d) (upd H1 d (.xd [(f, v)]))
theorem pmk1 {f : Fl} {b : Bs} {a : Expr} {ta : TA} {p pos : Pos} (T : ErrT X.K n f b) (gC : X.mg n = some (.ref (He.ga X.K n))) (hr : X.A.depth + 1 < recursionLimit) (ha : PA X [a] ta) (hg : Gl X n) (hdb : (n == ("__debug__" : Str)) = false)
    (he : starEach (a :: []) X.env = (false, eval a X.env) :: starEach [] X.env := by rfl) (hpl : (backTo pos (starEach [] X.env)).any (·.1) = false := by rfl) : PMk X (.Call (.Name n p) [a] [] pos) (tMk1 (He.ga X.K n) f.s ta) := by
  intro pins s σ H Q I h
  refine wpAny_Call_Name_kw (ld_glob I hg gC ?_ hdb)
  refine PySem.W.callWith_K (h₀ := X.base) I.ok.mod.kin T.c.kC (thn (ha.run pos pins s σ H _ I h) fun us s1 hh => ?_) he hpl
  obtain ⟨vs, H1, I1, r1, v, ev, q1⟩ := hh
  subst ev
  refine ⟨I1.kIn, ?_⟩
  cases r1 with
  | @cons _ v' _ us' rv rn =>
    cases rn
    show wpAny _ _ (call (.ref (He.ga X.K n)) [v']) _ _ _
    have hlim := I1.nolimit
    obtain ⟨hp, g, dr, tk, os⟩ := s1
    refine wpAny_call (run_made T I1.kIn hlim hr fun h' tk' e d M => ?_)
    show MkP X pins σ Q (.ref e) ⟨h', g, dr, tk', os⟩
    obtain ⟨t1, hoe⟩ := M.obj
    obtain ⟨G', g1, g2⟩ := restrict h' fun b => decide (b ≠ e)
    have gk : ∀ b, b ≠ e → G'.get? b = h'.get? b := fun b hb => g1 b (decide_eq_true hb)
    have ge : G'.get? e = none := g2 e (by simp)
    have old : ∀ b o, hp.get? b = some o → G'.get? b = some o := fun b o q => (gk b (Nat.ne_of_lt (Nat.lt_of_lt_of_le (Heap.lt_size q) M.new))).trans (M.keep b o q)
    have ob : ObjOk X.prog X.w (upd H1 d (.xd [(f.s, v)])) G' d (.xd [(f.s, v)]) := ⟨_, M.ns.at (fun o q => (gk d M.dne).trans q), fun g => relO_field rv f.s g⟩
    have J : Inv X pins σ (upd H1 d (.xd [(f.s, v)])) ⟨G', g, dr, tk', os⟩ := I1.laid (t' := tk') old M.dbig ob
    refine ⟨e, _, _, ⟨G', g, dr, tk', os⟩, _, .ref (He.ga X.K n), some d, rfl, J, fun b o q => ?_, ge, hoe, ⟨rfl, rfl⟩, rfl, rfl, ?_, rfl, I1.bare, raises_own T.c.exC T.c.tyC, q1 d (I1.hok.fresh M.dbig)⟩
    · by_cases hb : b = e
      · rw [hb] at q
        exact absurd (q.symm.trans ge) (by simp)
      · exact (gk b hb).symm.trans q
    · rw [upd_ne (Ne.symm M.dne)]
      exact I1.hok.fresh M.new
/-- C() -/
theorem pmk0 {b : Bs} {p pos : Pos} (T : ErrZ X.K n b) (gC : X.mg n = some (.ref (He.ga X.K n))) (hg : Gl X n) (hdb : (n == ("__debug__" : Str)) = false) : PMk X (.Call (.Name n p) [] [] pos) (fun _ H Q => Q (.ref (He.ga X.K n)) none H) := by
  intro pins s σ H Q I h
  refine wpAny_Call_Name_kw (ld_glob I hg gC ?_ hdb)
  refine PySem.W.callWith_K0 I.kIn T.c.kC ?_
  obtain ⟨bm, N, nm, qn, bs, hdct, sn, sub, ab, col, dd, k0, k1, k2, k3, k5, mN, hC, hN, hni, TT⟩ := exc_obj I.kIn T.ex
  obtain ⟨hp, g, dr, tk, os⟩ := s
  exact wpAny_call_exc_subT b.fb TT hC hN hni (fun h' e hm => mk_of I hm (raises_own T.c.exC T.c.tyC) h (I.hok.gone hm.new)) (Nat.zero_le _)
end
section
variable {X : Cx} {p : Par} {k : Nat} {n : Str}
theorem sd_raise0 {vb : Bool} (S : SitB true vb X p k) {b : Bs} (T : ErrZ X.K n b) (gC : X.mg n = some (.ref (He.ga X.K n))) {pn pos pos2 : Pos} (hg : Gl X n := by rfl) (hdb : (n == ("__debug__" : Str)) = false := by decide) : PSD X p (.Raise (some (.Call (.Name n pn) [] [] pos)) none pos2) (sRaise n [] aNil) := by
  refine ⟨_, ps_raise S.calm S.tk (pmk0 T gC hg hdb), fun B H σ E c P Dn st r m nx rt bk ct => ?_⟩
  exact S.ok.exc c c _ _ _ B H H σ st r.fx (show p.XP ⟨n, []⟩ c from m) st.si Ev.refl ⟨rfl, T.c, rfl⟩
theorem sd_raise1 {vb : Bool} (S : SitB true vb X p k) {f : Fl} {b : Bs} (T : ErrT X.K n f b) (gC : X.mg n = some (.ref (He.ga X.K n))) {a : Expr} {m : XE} {pn pos pos2 : Pos} (ha : PD X p a m) (hg : Gl X n := by rfl) (hdb : (n == ("__debug__" : Str)) = false := by decide)
    (he : starEach (a :: []) X.env = (false, eval a X.env) :: starEach [] X.env := by rfl) (hpl : (backTo pos (starEach [] X.env)).any (·.1) = false := by rfl) : PSD X p (.Raise (some (.Call (.Name n pn) [a] [] pos)) none pos2) (sRaise n [f.s] (aCons m aNil)) := by
  obtain ⟨ta, a1, a2⟩ := ha.ex
  refine ⟨_, ps_raise S.calm S.tk (pmk1 T gC (by have := S.rm.dp; omega) (pa_cons a1 pa_nil he) hg hdb he hpl), fun B H σ E c P Dn st r mm nx rt bk ct => ?_⟩
  refine a2 B H σ E _ _ _ st r mm fun d c1 v H1 m1 e1 s1 r1 => ?_
  refine ⟨v, rfl, fun dx hd => ?_⟩
  have st1 := st.go e1 s1
  have al : All H1 (upd H1 dx (.xd [(f.s, v)])) := All.new hd
  exact S.ok.exc c1 c1 ⟨n, [(f.s, d)]⟩ _ _ B H1 _ σ st1 (r.go st e1).fx m1 (st1.all S.ok al) al.ev ⟨rfl, T.c, dx, v, rfl, upd_same, fun z => st1.trk dx z hd, r1.mono al.ext⟩
end
end DL
end
section
namespace DL
open PySem PySem.Spec PyProof.Rows L2
/-- what the clause's classes answer -/
def tstV (K : PySem.W.Frag) (cls : Value) : List Value → Option Bool
  | [c] => PySem.W.exmOne K cls c
  | [a, b] => PySem.W.exmAny K cls [a, b]
  | [a, b, c] => PySem.W.exmAny K cls [a, b, c]
  | _ => none
/-- names of classes, one after the other -/
inductive Nms (X : Cx) : List Expr → List Value → Prop
  | nil : Nms X [] []
  | cons {x : Str} {np : Pos} {c : Value} {es : List Expr} {cs : List Value} (hc : Names X x c) (he : starEach (.Name x np :: es) X.env = (false, eval (.Name x np) X.env) :: starEach es X.env) (r : Nms X es cs) : Nms X (.Name x np :: es) (c :: cs)
/-- a clause's expression -/
inductive ClE (X : Cx) : Expr → List Value → Prop
  | one {x : Str} {np : Pos} {c : Value} (hc : Names X x c) : ClE X (.Name x np) [c]
  | two {es : List Expr} {k0 : _} {pos : Pos} {a b : Value} (h : Nms X es [a, b]) : ClE X (.Tuple es k0 pos) [a, b]
  | three {es : List Expr} {k0 : _} {pos : Pos} {a b c : Value} (h : Nms X es [a, b, c]) : ClE X (.Tuple es k0 pos) [a, b, c]
def setO (oi : Option Nat) (v : Option V) (σ : L2.St) : L2.St := match oi with
  | none => σ
  | some i => σ.set i v
/-- behind a suite the name is gone -/
def endO (oi : Option Nat) (D : Ends) : Ends := { nx := fun σ H => D.nx (setO oi none σ) H, rt := D.rt, bk := fun σ H => D.bk (setO oi none σ) H, ct := fun σ H => D.ct (setO oi none σ) H }
/-- what the clauses wish of an exception of the body, one after the other; the exception stands in the heap from then on -/
def wTry (K : PySem.W.Frag) (Wout : WX) (D : Ends) : List (List Value × Option Nat × (Addr → TS)) → WX
  | [] => Wout
  | (cs, oi, ts) :: r => fun cls d σ H => ∃ b, tstV K cls cs = some b ∧ (b = true → ∀ (a : Addr) (oe : Obj), H a = none → Zc cls d oe → (∃ vs, oe.data = .fields vs) → ts a (endO oi D) (setO oi (some (.ref a)) σ) (upd H a (xob a oe))) ∧ (b = false → wTry K Wout D r cls d σ H)
inductive Clauses (X : Cx) : List ExceptHandler → List (List Value × Option Nat × (Addr → TS)) → Prop
  | nil : Clauses X [] []
  | bare {t : Expr} {cs : List Value} {ts : Addr → TS} {b₀ : Stmt} {suite : List Stmt} {pos : Pos} {hds : List ExceptHandler} {l : List (List Value × Option Nat × (Addr → TS))} (ht : ClE X t cs) (hs : ∀ (a : Addr) (pn : List (Addr × Obj)), PSs (X.suite a pn) (b₀ :: suite) (ts a)) (r : Clauses X hds l) :
      Clauses X (.ExceptHandler (some t) none (b₀ :: suite) pos :: hds) ((cs, none, ts) :: l)
  | named {t : Expr} {n : Str} {i : Nat} {cs : List Value} {ts : Addr → TS} {b₀ : Stmt} {suite : List Stmt} {pos : Pos} {hds : List ExceptHandler} {l : List (List Value × Option Nat × (Addr → TS))} (hi : X.N[i]? = some n) (hl : X.env.kindOf n = some .local) (ht : ClE X t cs)
      (hs : ∀ (a : Addr) (pn : List (Addr × Obj)), PSs (X.suite a pn) (b₀ :: suite) (ts a)) (r : Clauses X hds l) : Clauses X (.ExceptHandler (some t) (some n) (b₀ :: suite) pos :: hds) ((cs, some i, ts) :: l)
section
variable {X : Cx} {pins : List (Addr × Obj)} {σ : L2.St} {H : Hp} {s : Shared}
/-- an object that stands in the state is tracked from here on, within a suite -/
theorem inv_hot {a : Addr} {oe : Obj} {vs : Array Value} (I : Inv X pins σ H s) (ha : s.heap.get? a = some oe) (hd : oe.data = .fields vs) (na : H a = none) (nL : a ≠ X.env.locals) (nF : a ∉ X.fs) (n0 : X.s_0.heap.get? a = none) (np : ∀ q ∈ X.pn ++ pins, q.1 ≠ a) :
    Inv (X.suite a (X.pn ++ pins)) [] σ (upd H a (xob a oe)) s := by
  have old : ∀ {b : Addr} {o : HO}, H b = some o → upd H a (xob a oe) b = some o := fun {b o} e => by
    rw [upd_ne (fun z => by rw [z, na] at e; cases e)]
    exact e
  have new : ∀ {b : Addr}, b ≠ a → H b = none → upd H a (xob a oe) b = none := fun {b} hb e => by rw [upd_ne hb]; exact e
  refine ⟨I.ok.suite _ _, I.os, I.bare, ⟨I.base.keep, I.base.slot, fun b o e n x => new (fun z => by rw [z, n0] at e; cases e) (I.base.free b o e n x), I.base.there, fun b xs e => old (I.base.tups b xs e), fun b o u e => old (I.base.frzs b o u e), fun b ps e => ?_⟩, I.loc, I.cell, new nL.symm I.free, fun x c e => new (fun z => ?_) (I.freeC x c e), fun q hq => ?_, fun b o e => ?_, I.len⟩
  · obtain ⟨more, e2⟩ := I.base.tbls b ps e
    exact ⟨more, old e2⟩
  · obtain ⟨v, o, h1, h2⟩ := I.cell x c e
    rw [z, ha] at h1
    cases h1
    rw [hd] at h2
    cases h2
  · have hq' : q ∈ X.pn ++ pins := by rw [List.append_nil] at hq; exact hq
    obtain ⟨e1, e2, e3, e4, e5⟩ := I.pin q hq'
    exact ⟨e1, new (np q hq') e2, e3, e4, e5⟩
  · by_cases hb : b = a
    · subst hb
      rw [upd_same] at e
      cases e
      exact ⟨ha, ⟨oe, ha⟩, fun h1 h2 e1 k => k _ e1⟩
    · rw [upd_ne hb] at e
      exact (I.hok b o e).stay (fun c v hc y => y) (fun c hc => old hc) (fun c xs hc => old hc)
theorem inv_cold {a : Addr} {pn' : List (Addr × Obj)} (I : Inv (X.suite a (X.pn ++ pins)) pn' σ H s) (ok : X.Ok) : Inv X pins σ H s :=
  ⟨ok, I.os, I.bare, I.base, I.loc, I.cell, I.free, I.freeC, fun q hq => I.pin q (List.mem_append_left _ hq), I.hok, I.len⟩
/-- the exception a is looked at: sI is the state without it -/
structure Aloft (X : Cx) (pins : List (Addr × Obj)) (σ : L2.St) (H : Hp) (a : Addr) (cls : Value) (d : Option Addr) (B : Heap) (sI s : Shared) : Prop where
  J : Inv X pins σ H sI
  nb : ∀ b o, sI.heap.get? b = some o → b ∉ frs X.stack → B.get? b = some o
  up : sI.heap.UpToSlots s.heap
  fl : PySem.HandSPX.FlyingZ B (X.env :: X.outer) a (Zc cls d) s.heap
  na : H a = none
  os : s.os = sI.os
  ag : AllBare s.gens
section
variable {a : Addr} {cls : Value} {d : Option Addr} {B : Heap} {sI : Shared}
theorem Aloft.inv (q : Aloft X pins σ H a cls d B sI s) : Inv X pins σ H s := q.J.landed q.nb q.fl.1 q.up q.os q.ag
/-- more objects -/
theorem Aloft.grow {h' : Heap} {tk : Nat} (q : Aloft X pins σ H a cls d B sI s) (k : ∀ b o, s.heap.get? b = some o → h'.get? b = some o) : Aloft X pins σ H a cls d B sI { s with heap := h', toks := tk } := by
  obtain ⟨f1, f2, f3, oe, vs, T, oT, ts, e1, e2, e3, e4, e5, e6, e7, e8, e9⟩ := q.fl
  exact ⟨q.J, q.nb, q.up.trans (Heap.UpToSlots.of_keeps k), ⟨fun b o e => k b o (f1 b o e), f2, Heap.FunFrames.of_keeps (fun b o e _ => ⟨o, k b o e, rfl⟩) f3, oe, vs, T, oT, ts, k _ _ e1, e2, e3, e4, e5, e6, k _ _ e7, e8, e9⟩, q.na, q.os, q.ag⟩
theorem Aloft.set {h' : Heap} (q : Aloft X pins σ H a cls d B sI s) (f : PySem.HandSPX.FlyingZ B (X.env :: X.outer) a (Zc cls d) h') (up : s.heap.UpToSlots h') : Aloft X pins σ H a cls d B sI { s with heap := h' } :=
  ⟨q.J, q.nb, q.up.trans up, f, q.na, q.os, q.ag⟩
/-- .. tracked, in a suite -/
theorem Aloft.hot (q : Aloft X pins σ H a cls d B sI s) (hs : X.stack = X.env :: X.outer) (hf : X.env.frame = some X.env.locals) (hex : X.ex = []) : ∃ oe : Obj, s.heap.get? a = some oe ∧ Zc cls d oe ∧ (∃ vs, oe.data = .fields vs) ∧ Inv (X.suite a (X.pn ++ pins)) [] σ (upd H a (xob a oe)) s := by
  obtain ⟨oe, vs, he, hz, hd⟩ := q.fl.there
  have nfr : a ∉ frs (X.env :: X.outer) := fun hm => by
    obtain ⟨_, o', e', hnf⟩ := q.fl.2.2.1.mem hm
    rw [he] at e'
    cases e'
    exact hnf _ hd
  have nL : a ≠ X.env.locals := fun z => nfr (List.mem_filterMap.mpr ⟨X.env, List.mem_cons_self, by rw [hf, z]⟩)
  have nF : a ∉ X.fs := fun hm => by
    obtain ⟨e, h1, h2⟩ := List.mem_filterMap.mp hm
    exact nfr (List.mem_filterMap.mpr ⟨e, List.mem_cons_of_mem _ h1, h2⟩)
  have fresh : ∀ o, sI.heap.get? a ≠ some o := fun o e => by
    have z := q.nb a o e (by rw [hs]; exact nfr)
    rw [q.fl.2.1] at z
    cases z
  refine ⟨oe, he, hz, ⟨vs, hd⟩, inv_hot q.inv he hd q.na nL nF ?_ fun p hp z => ?_⟩
  · cases e : X.s_0.heap.get? a with
    | none => rfl
    | some o =>
      obtain ⟨o', e'⟩ := q.J.base.there a o e (by rw [hex]; simp)
      exact absurd e' (fresh o')
  · obtain ⟨e1, _⟩ := q.J.pin p hp
    rw [z] at e1
    exact fresh _ e1
/-- a clause's classes are read -/
theorem read_name {pn pins' : List (Addr × Obj)} {σ' : L2.St} {H' : Hp} {E : Value → Shared → Prop} {Q : Value → Shared → Prop} {x : Str} {np : Pos} {c : Value} (I : Inv (X.suite a pn) pins' σ' H' s) (hc : Names X x c) (q : Q c s) : wpAny (model X.prog X.w) (X.A.mark (some (.ref a))) (eval (.Name x np) X.env) Q E s := by
  obtain ⟨hg, hdb, hm | ⟨hm, hv, hn⟩⟩ := hc
  · exact ld_glob (X := X.suite a pn) I hg hm q hdb
  · exact ld_blt (X := X.suite a pn) I hg hm hv q hn hdb
theorem read_names {pn pins' : List (Addr × Obj)} {σ' : L2.St} {H' : Hp} {E : Value → Shared → Prop} {pos : Pos} : ∀ {es : List Expr} {cs : List Value} {Q : List Value → Shared → Prop}, Inv (X.suite a pn) pins' σ' H' s → Nms X es cs → Q cs s →
    wpAny (model X.prog X.w) (X.A.mark (some (.ref a))) (spliced (backTo pos (starEach es X.env))) Q E s
  | _, _, _, _, .nil, q => PyProof.Rows.spliced_none q
  | _, _, _, I, .cons hc he r, q => PyProof.Rows.spliced_more (read_name I hc (read_names I r q)) he
theorem read_cls {E : Value → Shared → Prop} {Q : Value → Shared → Prop} {t : Expr} {cs : List Value} {b : Bool} (hs : X.stack = X.env :: X.outer) (hf : X.env.frame = some X.env.locals) (hex : X.ex = []) (q : Aloft X pins σ H a cls d B sI s) (ht : ClE X t cs) (hb : tstV X.K cls cs = some b)
    (k : ∀ (c : Value) (h' : Heap) (tk : Nat), Aloft X pins σ H a cls d B sI { s with heap := h', toks := tk } → PySem.W.Looks (model X.prog X.w) h' (excMatches (.ref a) c) b → Q c { s with heap := h', toks := tk }) :
    wpAny (model X.prog X.w) (X.A.mark (some (.ref a))) (eval t X.env) Q E s := by
  obtain ⟨_, _, _, _, I⟩ := q.hot hs hf hex
  obtain ⟨oe, vs, he, hz, hd⟩ := q.fl.there
  have LT : PySem.W.Looks (model X.prog X.w) s.heap (typeOf (.ref a)) cls := fun A Q E s k q => wpAny_typeOf_ref (k _ _ he) (by rw [hz.1]; exact q)
  have pushed : ∀ (cs : List Value), (∀ b o, s.heap.get? b = some o → (s.heap.push { cls := .type "tuple", data := .seq cs.toArray }).get? b = some o) := fun cs b o e => Heap.get?_push_of_some _ e
  have kin : ∀ (cs : List Value), X.K.In (s.heap.push { cls := .type "tuple", data := .seq cs.toArray }) := fun cs => I.kIn.keeps (pushed cs)
  cases ht with
  | one hc => exact read_name I hc (k _ s.heap s.toks q (PySem.W.exm_one I.kIn LT hb))
  | two h =>
    refine wpAny_Tuple_spliced (read_names I h ⟨by rw [sizeLine_eq]; simp, ?_⟩)
    exact k _ _ s.toks (q.grow (pushed _)) (PySem.W.exm_tup2 (kin _) (LT.keeps (pushed _)) (Heap.get?_push_size _ rfl) hb)
  | three h =>
    refine wpAny_Tuple_spliced (read_names I h ⟨by rw [sizeLine_eq]; simp, ?_⟩)
    exact k _ _ s.toks (q.grow (pushed _)) (PySem.W.exm_tup3 (kin _) (LT.keeps (pushed _)) (Heap.get?_push_size _ rfl) hb)
/-- the clauses, one after the other -/
theorem run_clauses {Wout : WX} {D : Ends} (hs : X.stack = X.env :: X.outer) (hf : X.env.frame = some X.env.locals) (hex : X.ex = []) (hN : X.N.Nodup) (tk : Takes X Wout) : ∀ {hds : List ExceptHandler} {l : List (List Value × Option Nat × (Addr → TS))} {s : Shared}, Clauses X hds l → Aloft X pins σ H a cls d B sI s →
    wTry X.K Wout D l cls d σ H → wpAny (model X.prog X.w) X.A (handleBy (.ref a) X.env hds) (SP X pins D) X.xe s
  | _, _, s, .nil, q, w => by
    refine wpAny_handleBy_nil ?_
    obtain ⟨f1, f2, f3, oe, vs, T, oT, ts, e1, e2, e3, e4, e5⟩ := q.fl
    have up : wpAny (model X.prog X.w) X.A (setFlight (.ref a) X.env.frame) (fun _ s4 => wpAny (model X.prog X.w) X.A (throw (.ref a) : Sem Flow) (SP X pins D) X.xe s4) X.xe s := by
      rw [hf]
      refine PySem.HandSPX.setFlight_upZ q.fl fun h4 hh4 up4 => wpAny_throw (tk _ _ ⟨a, B, sI, pins, σ, H, cls, d, rfl, q.J, q.nb, q.up.trans up4, .inr (.inr (by rw [hs]; exact hh4)), q.na, q.os, q.ag, w⟩)
    unfold PySem.passOn
    refine wpAny_bind (wpAny_field e1 e3 e4 ?_)
    rw [if_neg (show ¬ ((Value.ref T == Value.none) = true) from by simp)]
    first
      | exact wpAny_bind (wpAny_pure (wpAny_bind up))
      | exact wpAny_bind up
  | _, _, s, .bare ht hsu r, q, w => by
    obtain ⟨b, hb, yes, no⟩ := w
    refine PySem.W.exc_clause (read_cls hs hf hex q ht hb fun c h' tk' q' L => ⟨b, L, ?_⟩)
    cases b with
    | true =>
      show wpAny _ _ _ _ _ _
      refine PySem.HandSPX.lands_againZ q'.fl fun h4 f4 up4 => ?_
      obtain ⟨oe, he, hz, hv, I⟩ := (q'.set f4 up4).hot hs hf hex
      refine wpAny_mono ((hsu a (X.pn ++ pins)).run [] _ _ _ _ I (yes rfl a oe q.na hz hv)) (fun f s6 sp => ?_) fun _ _ z => z.elim
      cases f with
      | next => obtain ⟨σ6, H6, I6, q6⟩ := sp; exact ⟨σ6, H6, inv_cold I6 q.J.ok, q6⟩
      | brk => obtain ⟨σ6, H6, I6, q6⟩ := sp; exact ⟨σ6, H6, inv_cold I6 q.J.ok, q6⟩
      | cont => obtain ⟨σ6, H6, I6, q6⟩ := sp; exact ⟨σ6, H6, inv_cold I6 q.J.ok, q6⟩
      | ret u => obtain ⟨v6, σ6, H6, I6, r6, q6⟩ := sp; exact ⟨v6, σ6, H6, inv_cold I6 q.J.ok, r6, q6⟩
    | false =>
      show wpAny _ _ _ _ _ _
      exact run_clauses hs hf hex hN tk r q' (no rfl)
  | _, _, s, @Clauses.named _ _ n i _ _ _ _ ps _ _ hi hl ht hsu r, q, w => by
    obtain ⟨b, hb, yes, no⟩ := w
    refine PySem.W.exc_clause_as (read_cls hs hf hex q ht hb fun c h' tk' q' L => ⟨b, L, ?_⟩)
    cases b with
    | true =>
      show wpAny _ _ _ _ _ _
      refine PySem.HandSPX.lands_againZ q'.fl fun h4 f4 up4 => ?_
      obtain ⟨oe, he, hz, hv, I⟩ := (q'.set f4 up4).hot hs hf hex
      refine store_ok (X := X.suite a (X.pn ++ pins)) (v := .ref a) I hN hi (.inl hl) rfl (fun s5 I5 => ?_) (.inr hl)
      refine wpAny_mono ((hsu a (X.pn ++ pins)).run [] _ _ _ _ I5 (yes rfl a oe q.na hz hv)) (fun f s6 sp => ?_) fun _ _ z => z.elim
      have gone : ∀ {σ6 : L2.St} {H6 : Hp} {Q : Shared → Prop}, Inv (X.suite a (X.pn ++ pins)) [] σ6 H6 s6 → (∀ s7, Inv X pins (σ6.set i none) H6 s7 → Q s7) →
          wpAny (model X.prog X.w) X.A (do bindName X.env n .none; unbindBehindTheSuite X.env n ps) (fun _ s7 => Q s7) X.xe s6 := fun {σ6 H6 Q} I6 hq => gone_ok (inv_cold I6 q.J.ok) hN hi hl hq
      cases f with
      | next => obtain ⟨σ6, H6, I6, q6⟩ := sp; exact gone I6 fun s7 I7 => ⟨_, H6, I7, q6⟩
      | brk => obtain ⟨σ6, H6, I6, q6⟩ := sp; exact gone I6 fun s7 I7 => ⟨_, H6, I7, q6⟩
      | cont => obtain ⟨σ6, H6, I6, q6⟩ := sp; exact gone I6 fun s7 I7 => ⟨_, H6, I7, q6⟩
      | ret u => obtain ⟨v6, σ6, H6, I6, r6, q6⟩ := sp; exact gone I6 fun s7 I7 => ⟨v6, _, H6, I7, r6, q6⟩
    | false =>
      show wpAny _ _ _ _ _ _
      exact run_clauses hs hf hex hN tk r q' (no rfl)
end
end
/-- try: body / except ..: .. -/
theorem ps_tryC {X : Cx} {body : List Stmt} {h₀ : ExceptHandler} {hds : List ExceptHandler} {l : List (List Value × Option Nat × (Addr → TS))} {Wout : WX} {tb : WX → TS} {pos : Pos} (hs : X.stack = X.env :: X.outer) (hf : X.env.frame = some X.env.locals) (hex : X.ex = []) (hN : X.N.Nodup) (tk : Takes X Wout)
    (hb : ∀ (W : WX) (pn : List (Addr × Obj)) (xe : Value → Shared → Prop), Takes (X.tr pn xe) W → PassesOwn (model X.prog X.w) X.A X.env xe → PSs (X.tr pn xe) body (tb W)) (hh : Clauses X (h₀ :: hds) l) :
    PS X (.Try body (h₀ :: hds) [] [] pos) (fun D σ H => tb (wTry X.K Wout D l) D σ H) := by
  refine ⟨fun pins s σ H D I h => ?_⟩
  have ok := I.ok
  refine wpAny_Try_except (wpAny_mono ((hb (wTry X.K Wout D l) (X.pn ++ pins) (fun e s₁ => wpAny (model X.prog X.w) X.A (noteFrame e X.env) (fun _ s₂ => wpAny (model X.prog X.w) X.A (setFlight e none) (fun _ s₃ =>
    wpAny (model X.prog X.w) X.A (handleBy e X.env (h₀ :: hds)) (SP X pins D) X.xe s₃) X.xe s₂) X.xe s₁) (fun u s' xx => ?_) PassesOwn.looking).run [] s σ H D (I.toTry _) h) (fun f s1 sp => ?_) fun _ _ z => z)
  · obtain ⟨a, B, sI, pins', σ', H', cls, d, rfl, J', nb, up, sky, na, os, ag, w⟩ := xx
    have sky' : Sky B (X.env :: X.outer) a (Zc cls d) X.env.locals s'.heap := by rw [← hs]; exact sky
    exact Sky.land Zc.steady (by rw [ok.frames, hs]) hf sky' fun h3 fl3 up3 => run_clauses hs hf hex hN tk hh ⟨J'.ofTry ok, nb, up.trans up3, fl3, na, os, ag⟩ w
  · cases f with
    | next => obtain ⟨σ', H', I', q⟩ := sp; exact wpAny_execs_nil ⟨σ', H', I'.ofTry ok, q⟩
    | brk => obtain ⟨σ', H', I', q⟩ := sp; exact ⟨σ', H', I'.ofTry ok, q⟩
    | cont => obtain ⟨σ', H', I', q⟩ := sp; exact ⟨σ', H', I'.ofTry ok, q⟩
    | ret u => obtain ⟨v, σ', H', I', r, q⟩ := sp; exact ⟨v, σ', H', I'.ofTry ok, r, q⟩
end DL
end
section
namespace DL
open PySem PySem.Spec PyProof.Rows L2
def xnOf : D → Option Str
  | .dict ((.none, .str n) :: _) => some n
  | _ => none
def fldOf (f : Str) : D → W D
  | .dict [(.none, .str _), (.str g, d)] => if f = g then ret d else stuck
  | _ => stuck
/-- e.f of an error -/
def eFld (a : XE) (f : Str) : XE := fun E => bnd (a E) (fldOf f)
def tyOf? (m : Str) : Option Ty :=
  if m == "int" then some .int else if m == "bool" then some .bool else if m == "tuple" then some .tuple else if m == "str" then some .str else if m == "list" then some .list else if m == "dict" then some .dict else none
def isTm (d : D) (m : Str) : Bool := match tyOf? m with | some t => isTy t d | none => false
/-- isinstance(a, classes) -/
def isC (ms : List Str) (d : D) : W D := match xnOf d with
  | some n => grd (ms.all (fun m => allN.contains m) = true) (ret (.bool (ms.any (subC n))))
  | none => grd (noXn d = true ∧ ms.all (fun m => (tyOf? m).isSome) = true) (ret (.bool (ms.any (isTm d))))
def eIsC (ms : List Str) (a : XE) : XE := fun E => bnd (a E) (isC ms)
/-- an error as data -/
def Exn.d (x : Exn) : D := xD x.cls x.fs
def eSetO (oi : Option Nat) (e : Ent) (E : Env) : Env := match oi with
  | none => E
  | some i => E.set i e
def Out.clear (oi : Option Nat) : Out → Out
  | .nx E => .nx (eSetO oi .unk E)
  | .bk E => .bk (eSetO oi .unk E)
  | .ct E => .ct (eSetO oi .unk E)
  | .rt d => .rt d
/-- the clauses: classes, name, suite -/
def hdL : List (List Str × Option Nat × XS) → Exn → XS
  | [], x => fun _ => thr x
  | (ns, oi, s) :: r, x => if ns.any (subC x.cls) = true then fun E => bnd (noX (s (eSetO oi (.val x.d) E))) fun o => ret (o.clear oi) else hdL r x
/-- try: e, then k of its value (which raises nothing) -/
def sTry (e : XE) (k : D → XS) (hd : Exn → XS) : XS := fun E n P X => e E n (fun d n' => noX (k d E) n' P fun _ _ => False) fun x n' => hd x E n' P X
def kRet : D → XS := fun d _ => ret (.rt d)
/-- an expression that names a class m -/
structure NmC (X : Cx) (m : Str) : Prop where
  all : allN.contains m = true
  here : here X.K m = true
  nm : Names X m (clsV X.K m)
inductive ClN (X : Cx) : Expr → List Str → Prop
  | one {m : Str} {np : Pos} (h : NmC X m) : ClN X (.Name m np) [m]
  | two {m1 m2 : Str} {p1 p2 pos : Pos} {k0 : _} (h1 : NmC X m1) (h2 : NmC X m2) (e1 : starEach [.Name m1 p1, .Name m2 p2] X.env = (false, eval (.Name m1 p1) X.env) :: starEach [.Name m2 p2] X.env) (e2 : starEach [.Name m2 p2] X.env = (false, eval (.Name m2 p2) X.env) :: starEach [] X.env) :
      ClN X (.Tuple [.Name m1 p1, .Name m2 p2] k0 pos) [m1, m2]
  | three {m1 m2 m3 : Str} {p1 p2 p3 pos : Pos} {k0 : _} (h1 : NmC X m1) (h2 : NmC X m2) (h3 : NmC X m3) (e1 : starEach [.Name m1 p1, .Name m2 p2, .Name m3 p3] X.env = (false, eval (.Name m1 p1) X.env) :: starEach [.Name m2 p2, .Name m3 p3] X.env)
      (e2 : starEach [.Name m2 p2, .Name m3 p3] X.env = (false, eval (.Name m2 p2) X.env) :: starEach [.Name m3 p3] X.env) (e3 : starEach [.Name m3 p3] X.env = (false, eval (.Name m3 p3) X.env) :: starEach [] X.env) : ClN X (.Tuple [.Name m1 p1, .Name m2 p2, .Name m3 p3] k0 pos) [m1, m2, m3]
section
variable {X : Cx}
theorem NmC.one {m n : Str} (h : NmC X m) (c : ErrC X.K n) : PySem.W.exmOne X.K (.ref (He.ga X.K n)) (clsV X.K m) = some (subC n m) ∧ PySem.W.kitOne X.K (.ref (He.ga X.K n)) (clsV X.K m) = some (subC n m) :=
  c.kn m (by simpa using h.all) h.here
theorem ClN.cle {t : Expr} {ms : List Str} (h : ClN X t ms) : ClE X t (ms.map (clsV X.K)) := by
  cases h with
  | one h => exact .one h.nm
  | two h1 h2 e1 e2 => exact .two (.cons h1.nm e1 (.cons h2.nm e2 .nil))
  | three h1 h2 h3 e1 e2 e3 => exact .three (.cons h1.nm e1 (.cons h2.nm e2 (.cons h3.nm e3 .nil)))
theorem ClN.tst {t : Expr} {ms : List Str} (h : ClN X t ms) {n : Str} (c : ErrC X.K n) : tstV X.K (.ref (He.ga X.K n)) (ms.map (clsV X.K)) = some (ms.any (subC n)) := by
  cases h with
  | one h => simpa [tstV] using (h.one c).1
  | two h1 h2 e1 e2 => simp [tstV, PySem.W.exmAny, (h1.one c).1, (h2.one c).1]
  | three h1 h2 h3 e1 e2 e3 => simp [tstV, PySem.W.exmAny, (h1.one c).1, (h2.one c).1, (h3.one c).1]
end
inductive PCl (X : Cx) (p : Par) (k : Nat) : List ExceptHandler → List (List Str × Option Nat × XS) → Prop
  | nil : PCl X p k [] []
  | bare {t : Expr} {ns : List Str} {m : XS} {b₀ : Stmt} {suite : List Stmt} {pos : Pos} {hds : List ExceptHandler} {l : List (List Str × Option Nat × XS)} (ht : ClN X t ns) (hs : ∀ (a : Addr) (pn : List (Addr × Obj)), SitB false true (X.suite a pn) p.quiet k → PSSD (X.suite a pn) p.quiet (b₀ :: suite) m)
      (r : PCl X p k hds l) : PCl X p k (.ExceptHandler (some t) none (b₀ :: suite) pos :: hds) ((ns, none, m) :: l)
  | named {t : Expr} {n : Str} {i : Nat} {ns : List Str} {m : XS} {b₀ : Stmt} {suite : List Stmt} {pos : Pos} {hds : List ExceptHandler} {l : List (List Str × Option Nat × XS)} (hi : X.N[i]? = some n) (hl : X.env.kindOf n = some .local) (ht : ClN X t ns)
      (hs : ∀ (a : Addr) (pn : List (Addr × Obj)), SitB false true (X.suite a pn) p.quiet k → PSSD (X.suite a pn) p.quiet (b₀ :: suite) m) (r : PCl X p k hds l) : PCl X p k (.ExceptHandler (some t) (some n) (b₀ :: suite) pos :: hds) ((ns, some i, m) :: l)
section
variable {X : Cx} {p : Par} {k : Nat} {cb : Bool} {K : PySem.W.Frag}
theorem sit_suite (S : SitB cb true X p k) (a : Addr) (pn : List (Addr × Obj)) : SitB false true (X.suite a pn) p.quiet k where
  calm_ := fun z => (nomatch z)
  gd := S.gd
  rm := ⟨fun z => (nomatch z), S.rm.dp, S.rm.un⟩
  nd := S.nd
  ok := ⟨S.ok.stab, fun _ _ _ _ _ _ _ _ _ _ _ h => h.elim⟩
  po := PassesOwn.never
  tk := takes0
  nf_ := fun _ => rfl
  sm := S.sm
/-- the suite's reading, whatever is pinned -/
def tsu (X : Cx) (p : Par) (suite : List Stmt) (m : XS) (a : Addr) : TS := fun D σ H => ∀ pn, ∃ t, PSs (X.suite a pn) suite t ∧ SR X.K p.quiet t m ∧ t D σ H
theorem tsu_ok {suite : List Stmt} {m : XS} (a : Addr) (pn : List (Addr × Obj)) : PSs (X.suite a pn) suite (tsu X p suite m a) := ⟨fun pins s σ H D I h => by
  obtain ⟨t, h1, _, h3⟩ := h pn
  exact h1.run pins s σ H D I h3⟩
theorem Slot.loud {p : Par} {n : Sx} {B : Addr → Prop} {H : Hp} {x : Option V} {y : Ent} (s : Slot K p.quiet n B H x y) : Slot K p n B H x y := by
  cases s with
  | unk _ => exact .unk _
  | val r => exact .val r
  | own b n nc h0 hl r => exact .own b n nc h0 hl r
  | stm => exact .stm (p := p)
  | scr q => exact .scr q
theorem EnvR.loud {p : Par} (nf : p.fx = none) {n : Sx} {B : Addr → Prop} {H : Hp} {σ : L2.St} {E : Env} (r : EnvR K p.quiet n B H σ E) : EnvR K p n B H σ E :=
  ⟨r.len, fun i e q => let ⟨s, h1, h2⟩ := r.at_ i e q; ⟨s, h1, h2.loud⟩, r.nd, .no nf, r.pn⟩
/-- an exception that lies in the heap is data -/
theorem rep_exn {B : Addr → Prop} {H : Hp} {mg : Str → Option Value} {x : Exn} {c : Value} {d : Option Addr} {a : Addr} {oe : Obj} (r : ExRep K mg B H x c d) (na : H a = none) (nb : ¬ B a) (hz : Zc c d oe) (hv : ∃ vs, oe.data = .fields vs) : Rep K B (upd H a (xob a oe)) (.ref a) x.d := by
  obtain ⟨h1, h2, h3⟩ := r
  obtain ⟨n, fs⟩ := x
  have al : All H (upd H a (xob a oe)) := All.new na
  match fs, h3 with
  | [], h3 =>
    subst h3
    exact .exn0 upd_same nb ⟨by rw [hz.1]; exact h1, hz.2, hv, h2⟩
  | [(f, y)], ⟨dd, v, e1, e2, e3, e4⟩ =>
    subst e1
    exact .exn1 upd_same nb ⟨by rw [hz.1]; exact h1, hz.2, hv, h2⟩ (al _ _ e2) e3 (e4.mono al.ext)
  | _ :: _ :: _, h3 => exact h3.elim
theorem env_setO {p : Par} (nf : p.fx = none) {n : Sx} {B : Addr → Prop} {H : Hp} {σ : L2.St} {E : Env} (r : EnvR K p n B H σ E) (oi : Option Nat) {v : V} {d : D} (h : Rep K (bm p B n) H v d) : EnvR K p n B H (setO oi (some v) σ) (eSetO oi (.val d) E) := by
  cases oi with
  | none => exact r
  | some i => exact r.val nf i h
theorem env_clr {p : Par} (nf : p.fx = none) {n : Sx} {B : Addr → Prop} {H : Hp} {σ : L2.St} {E : Env} (r : EnvR K p n B H σ E) (oi : Option Nat) : EnvR K p n B H (setO oi none σ) (eSetO oi .unk E) := by
  cases oi with
  | none => exact r
  | some i => exact r.unk nf i none
/-- what follows a try: each way out -/
structure TryQ (K : PySem.W.Frag) (p : Par) (c : Sx) (B : Addr → Prop) (H : Hp) (P : Out → Sx → Prop) (Dn : Ends) : Prop where
  nx : ∀ E' c' B' σ' H', P (.nx E') c' → St0 p c' B' H' → Tr (bm p B c) H (bm p B' c') H' → EnvR K p c' B' H' σ' E' → Dn.nx σ' H'
  rt : ∀ d c' v H', P (.rt d) c' → p.SI c' H' → Ev p p.c0 p.H0 c' H' → Rep K (bm p p.Bc c') H' v d → Dn.rt v H'
  bk : ∀ E' c' B' σ' H', P (.bk E') c' → St0 p c' B' H' → Tr (bm p B c) H (bm p B' c') H' → EnvR K p c' B' H' σ' E' → Dn.bk σ' H'
  ct : ∀ E' c' B' σ' H', P (.ct E') c' → St0 p c' B' H' → Tr (bm p B c) H (bm p B' c') H' → EnvR K p c' B' H' σ' E' → Dn.ct σ' H'
theorem run_suite (S : SitB cb true X p k) {suite : List Stmt} {m : XS} {oi : Option Nat} (hsu : ∀ (a : Addr) (pn : List (Addr × Obj)), SitB false true (X.suite a pn) p.quiet k → PSSD (X.suite a pn) p.quiet suite m) {B : Addr → Prop} {H H2 : Hp} {σ : L2.St} {E : Env} {c c2 : Sx} {P : Out → Sx → Prop} {Dn : Ends} {x : Exn} {cl : Value} {d : Option Addr}
    (st : St0 p c B H) (r : EnvR X.K p c B H σ E) (q : TryQ X.K p c B H P Dn) (e2 : Ev p c H c2 H2) (s2 : p.SI c2 H2) (rx : ExRep X.K X.mg (bm p B c2) H2 x cl d) (mm : (bnd (noX (m (eSetO oi (.val x.d) E))) fun o => ret (o.clear oi)) c2 P fun _ _ => False)
    (a : Addr) (oe : Obj) (na : H2 a = none) (hz : Zc cl d oe) (hv : ∃ vs, oe.data = .fields vs) : tsu X p suite m a (endO oi Dn) (setO oi (some (.ref a)) σ) (upd H2 a (xob a oe)) := by
  intro pn
  obtain ⟨t, h1, h2⟩ := (hsu a pn (sit_suite S a pn)).ex
  refine ⟨t, h1, h2, ?_⟩
  have st2 := st.go e2 s2
  have nb : ¬ bm p B c2 a := fun z => st2.trk a z na
  have al : All H2 (upd H2 a (xob a oe)) := All.new na
  have e3 : Ev p c H c2 (upd H2 a (xob a oe)) := e2.trans al.ev
  have st3 : St0 p c2 B (upd H2 a (xob a oe)) := st.go e3 (st2.all S.ok al)
  have tr3 : Tr (bm p B c) H (bm p B c2) (upd H2 a (xob a oe)) := st.up e3
  refine h2 B _ _ (eSetO oi (.val x.d) E) c2 _ _ st3.quiet (env_setO rfl (r.go st e3).quiet oi (rep_exn rx na nb hz hv)) mm ?_ ?_ ?_ ?_
  · intro E' c' B' σ' H' m1 st1 t1 r1
    exact q.nx _ c' B' _ H' m1 st1.loud (tr3.trans t1) (env_clr S.nf (r1.loud S.nf) oi)
  · intro d' c' v H' m1 s1 e1 r1
    exact q.rt _ c' v H' m1 s1 e1 r1
  · intro E' c' B' σ' H' m1 st1 t1 r1
    exact q.bk _ c' B' _ H' m1 st1.loud (tr3.trans t1) (env_clr S.nf (r1.loud S.nf) oi)
  · intro E' c' B' σ' H' m1 st1 t1 r1
    exact q.ct _ c' B' _ H' m1 st1.loud (tr3.trans t1) (env_clr S.nf (r1.loud S.nf) oi)
/-- the clauses as readings -/
theorem PCl.clauses (S : SitB cb true X p k) : ∀ {hds : List ExceptHandler} {l : List (List Str × Option Nat × XS)}, PCl X p k hds l → ∃ L, Clauses X hds L ∧ ∀ {B : Addr → Prop} {H H2 : Hp} {σ : L2.St} {E : Env} {c c2 : Sx} {P : Out → Sx → Prop} {Dn : Ends} {x : Exn} {cl : Value} {d : Option Addr},
    St0 p c B H → EnvR X.K p c B H σ E → TryQ X.K p c B H P Dn → Ev p c H c2 H2 → p.SI c2 H2 → ExRep X.K X.mg (bm p B c2) H2 x cl d → hdL l x E c2 P p.XP → wTry X.K (fun cl d σ H => p.EK σ cl d H) Dn L cl d σ H2
  | _, _, .nil => ⟨[], .nil, fun {B H H2 σ E c c2 P Dn x cl d} st r q e2 s2 rx m => S.ok.exc c c2 x cl d B H H2 σ st r.fx m s2 e2 rx⟩
  | _, _, .bare (m := ms) (b₀ := b₀) (suite := suite) ht hs t => by
    obtain ⟨L, h1, h2⟩ := PCl.clauses S t
    refine ⟨_, .bare (ts := tsu X p (b₀ :: suite) ms) ht.cle (fun a pn => tsu_ok a pn) h1, fun {B H H2 σ E c c2 P Dn x cl d} st r q e2 s2 rx m => ?_⟩
    have e1 := rx.1
    subst e1
    refine ⟨_, ht.tst rx.2.1, fun hb a oe na hz hv => ?_, fun hb => ?_⟩
    · exact run_suite S hs st r q e2 s2 rx (by have m' := m; simp only [hdL, if_pos hb] at m'; exact m') a oe na hz hv
    · exact h2 st r q e2 s2 rx (by simpa only [hdL, hb, if_neg Bool.false_ne_true] using m)
  | _, _, .named (m := ms) (b₀ := b₀) (suite := suite) hi hl ht hs t => by
    obtain ⟨L, h1, h2⟩ := PCl.clauses S t
    refine ⟨_, .named (ts := tsu X p (b₀ :: suite) ms) hi hl ht.cle (fun a pn => tsu_ok a pn) h1, fun {B H H2 σ E c c2 P Dn x cl d} st r q e2 s2 rx m => ?_⟩
    have e1 := rx.1
    subst e1
    refine ⟨_, ht.tst rx.2.1, fun hb a oe na hz hv => ?_, fun hb => ?_⟩
    · exact run_suite S hs st r q e2 s2 rx (by have m' := m; simp only [hdL, if_pos hb] at m'; exact m') a oe na hz hv
    · exact h2 st r q e2 s2 rx (by simpa only [hdL, hb, if_neg Bool.false_ne_true] using m)
/-- within the try's body: what e lets out is for the clauses -/
def parT (p : Par) (XP : Exn → Sx → Prop) (W : WX) (σ : L2.St) (c : Sx) (H : Hp) (B : Addr → Prop) : Par := { p with XP := XP, EK := fun σ cl d H => W cl d σ H, fx := some (σ, c, H, B) }
theorem EvB.parT {n n' c1 : Sx} {B1 : Addr → Prop} {H H' H1 : Hp} {XP : Exn → Sx → Prop} {W : WX} {σ : L2.St} (e : Ev p n H n' H') : Ev (DL.parT p XP W σ c1 H1 B1) n H n' H' := ⟨e.ext, e.up, e.old, e.dom⟩
theorem EvB.loudT {n n' c1 : Sx} {B1 : Addr → Prop} {H H' H1 : Hp} {XP : Exn → Sx → Prop} {W : WX} {σ : L2.St} (e : Ev (DL.parT p XP W σ c1 H1 B1) n H n' H') : Ev p n H n' H' := ⟨e.ext, e.up, e.old, e.dom⟩
theorem St0.parT {n c1 : Sx} {B B1 : Addr → Prop} {H H1 : Hp} {XP : Exn → Sx → Prop} {W : WX} {σ : L2.St} (s : St0 p n B H) : St0 (DL.parT p XP W σ c1 H1 B1) n B H := ⟨s.subc, s.trk, s.si, s.ext.parT⟩
theorem EnvR.parT {n : Sx} {B : Addr → Prop} {H : Hp} {XP : Exn → Sx → Prop} {W : WX} {σ : L2.St} {E : Env} (r : EnvR K p n B H σ E) : EnvR K (DL.parT p XP W σ n H B) n B H σ E :=
  ⟨r.len, fun i e q => let ⟨s, h1, h2⟩ := r.at_ i e q; ⟨s, h1, by
    cases h2 with
    | unk _ => exact .unk _
    | val r => exact .val r
    | own b n nc h0 hl r => exact .own b n nc h0 hl r
    | stm => exact .stm (p := DL.parT p XP W σ n H B)
    | scr z => exact .scr z⟩, r.nd, fun f e => by
      have e' : some (σ, n, H, B) = some f := e
      cases e'
      exact ⟨rfl, EvB.refl, rfl⟩, r.pn⟩
/-- the body of a try: its first expression, what follows -/
structure PTry (X : Cx) (p : Par) (k : Nat) (body : List Stmt) (me : XE) (kk : D → XS) : Prop where
  ex : ∀ (pn : List (Addr × Obj)) (xe : Value → Shared → Prop) (XP : Exn → Sx → Prop) (W : WX) (c : Sx) (B : Addr → Prop) (H : Hp) (σ : L2.St), SitB true false (X.tr pn xe) (parT p XP W σ c H B) k → SitB true true (X.tr pn xe) p.quiet k →
    ∃ t, PSs (X.tr pn xe) body t ∧ ∀ (E : Env) (P : Out → Sx → Prop) (Dn : Ends), St0 p c B H → EnvR X.K p c B H σ E → me E c (fun d n' => noX (kk d E) n' P fun _ _ => False) XP → TryQ X.K p c B H P Dn → t Dn σ H
theorem try_ret {e : Expr} {me : XE} {pos : Pos} (he : ∀ (pn : List (Addr × Obj)) (xe : Value → Shared → Prop) (p1 : Par), SitB true false (X.tr pn xe) p1 k → (∀ K, IsStr K p → IsStr K p1) → PD (X.tr pn xe) p1 e me) : PTry X p k [.Return (some e) pos] me kRet := ⟨fun pn xe XP W c B H σ S1 S2 => by
  obtain ⟨te, a1, a2⟩ := (he pn xe _ S1 fun _ z => z).ex
  refine ⟨_, pss_one (ps_ret a1), fun E P Dn st r m q => ?_⟩
  exact a2 B H σ E _ _ _ st.parT r.parT m fun d c1 v H1 m1 e1 s1 r1 => q.rt d c1 v H1 m1 s1 (st.ext.trans e1.loudT) (r1.less (st.go e1.loudT s1).bc)⟩
theorem sd_try (S : SitB true true X p k) (hs : X.stack = X.env :: X.outer) (hf : X.env.frame = some X.env.locals) (hex : X.ex = []) {body : List Stmt} {h₀ : ExceptHandler} {hds : List ExceptHandler} {me : XE} {kk : D → XS} {l : List (List Str × Option Nat × XS)} {pos : Pos} (hb : PTry X p k body me kk) (hh : PCl X p k (h₀ :: hds) l) :
    PSD X p (.Try body (h₀ :: hds) [] [] pos) (sTry me kk (hdL l)) := by
  obtain ⟨L, h1, h2⟩ := hh.clauses S
  refine ⟨_, ps_tryC (tb := fun W D σ H => ∀ (pn : List (Addr × Obj)) (xe : Value → Shared → Prop), Takes (X.tr pn xe) W → PassesOwn (model X.prog X.w) X.A X.env xe → ∃ t, PSs (X.tr pn xe) body t ∧ t D σ H) hs hf hex S.nd S.tk
    (fun W pn xe tk po => ⟨fun pins s σ H D I h => by obtain ⟨t, a, b⟩ := h pn xe tk po; exact a.run pins s σ H D I b⟩) h1, fun B H σ E c P Dn st r m nx rt bk ct => ?_⟩
  intro pn xe tk po
  have q : TryQ X.K p c B H P Dn := ⟨nx, rt, bk, ct⟩
  have ok1 : (parT p (fun x c2 => hdL l x E c2 P p.XP) (wTry X.K (fun cl d σ H => p.EK σ cl d H) Dn L) σ c H B).Ok X.K X.mg := by
    refine ⟨S.ok.stab, fun n n' x cl d B1 H1 H2 σ1 st1 fx hx si e rx => ?_⟩
    obtain ⟨f1, f2, f3⟩ := fx _ rfl
    subst f1 f3
    exact h2 st r q (f2.loudT.trans e.loudT) si rx hx
  have S1 : SitB true false (X.tr pn xe) (parT p (fun x c2 => hdL l x E c2 P p.XP) (wTry X.K (fun cl d σ H => p.EK σ cl d H) Dn L) σ c H B) k := ⟨S.calm_, S.gd, S.rm, S.nd, ok1, po, tk, fun z => (nomatch z), S.sm⟩
  have S2 : SitB true true (X.tr pn xe) p.quiet k := ⟨S.calm_, S.gd, S.rm, S.nd, ⟨S.ok.stab, fun _ _ _ _ _ _ _ _ _ _ _ h => h.elim⟩, po, tk.imp fun _ _ _ _ h => h.elim, fun _ => rfl, S.sm⟩
  obtain ⟨t, a1, a2⟩ := hb.ex pn xe _ _ c B H σ S1 S2
  exact ⟨t, a1, a2 E P Dn st r m q⟩
end
end DL
end
section
namespace DL
open PySem PySem.Spec PyProof.Rows L2
section
variable {X : Cx} {p : Par} {k : Nat} {cb vb : Bool} {pins : List (Addr × Obj)} {σ : L2.St} {H : Hp} {s : Shared}
/-- an error's class, as isinstance reads it -/
theorem inst_exn {a : Addr} {o : Obj} {n : Str} {d : Option Addr} (I : Inv X pins σ H s) (e : H a = some (xob a o)) (x : XOb X.K o n d) (hd : ∀ dd, d = some dd → ∃ fs, H dd = some (.xd fs)) : ∃ od, PySem.W.InstAt s.heap a o (He.ga X.K n) od := by
  have h0 : s.heap.get? a = some o := (I.hok a _ e).1
  obtain ⟨vs, hv⟩ := x.data
  have no : PySem.W.notCls o = true := by unfold PySem.W.notCls; rw [hv]
  cases hdd : d with
  | none => exact ⟨none, h0, x.cls, no, by rw [x.dict, hdd]; trivial⟩
  | some dd =>
    obtain ⟨fs, q⟩ := hd dd hdd
    obtain ⟨mA, ⟨od, es, ep, h1, h2, h3⟩, _⟩ := I.hok dd _ q
    exact ⟨some od, h0, x.cls, no, by rw [x.dict, hdd]; exact h1⟩
/-- the class of what is data -/
def tvD (K : PySem.W.Frag) (d : D) : Value := match xnOf d with
  | some n => .ref (He.ga K n)
  | none => .type (tyName d)
/-- a class that isinstance is asked for -/
structure IsM (X : Cx) (m : Str) (c : V) (cv : Value) : Prop where
  rel : ClsV c cv
  exn : ∀ n, ErrC X.K n → allN.contains m = true → PySem.W.kitOne X.K (.ref (He.ga X.K n)) cv = some (subC n m)
  ty : ∀ t, tyOf? m = some t → cv = .type (tyS t)
def isAns (d : D) (m : Str) : Bool := match xnOf d with
  | some n => subC n m
  | none => isTm d m
def isOk (d : D) (m : Str) : Bool := match xnOf d with
  | some _ => allN.contains m
  | none => noXn d && (tyOf? m).isSome
theorem isM_kit {m : Str} {c : V} {cv : Value} (h : IsM X m c cv) {d : D} (er : ∀ n, xnOf d = some n → ErrC X.K n) (ok : isOk d m = true) : PySem.W.kitOne X.K (tvD X.K d) cv = some (isAns d m) := by
  unfold isOk at ok
  unfold tvD isAns
  cases e : xnOf d with
  | some n =>
    rw [e] at ok
    exact h.exn n (er n e) ok
  | none =>
    rw [e] at ok
    simp only [Bool.and_eq_true] at ok
    obtain ⟨t, ht⟩ := Option.isSome_iff_exists.mp ok.2
    have := h.ty t ht
    subst this
    show PySem.W.kitOne X.K (.type (tyName d)) _ = some (isTm d m)
    rw [kit_ty (kit_isTy t d)]
    simp [isTm, ht]
/-- what the library's isinstance asks of a value that is data -/
theorem kit_rep {B : Addr → Prop} {v : V} {d : D} {u : Value} (I : Inv X pins σ H s) (r : Rep X.K B H v d) (ru : RelV v u) (hx : xnOf d = none → noXn d = true) : (∀ n, xnOf d = some n → ErrC X.K n) ∧ ∃ P : Heap → Prop, PySem.W.KitX X.K u (tvD X.K d) P ∧ P s.heap ∧ u ≠ .builtin "__main__.__loader__#opaque" := by
  have plain : xnOf d = none → (∀ n, xnOf d = some n → ErrC X.K n) ∧ ∃ P : Heap → Prop, PySem.W.KitX X.K u (tvD X.K d) P ∧ P s.heap ∧ u ≠ .builtin "__main__.__loader__#opaque" := fun e => by
    refine ⟨(fun n h => by rw [e] at h; cases h), ?_⟩
    unfold tvD
    rw [e]
    exact kit_of I ru (ty_of (hx e) r)
  cases r with
  | @exn0 a o n e _ x =>
    cases ru
    obtain ⟨od, J⟩ := inst_exn I e x (fun dd z => nomatch z)
    refine ⟨(fun m h => by cases (show some n = some m from h); exact x.er), _, PySem.W.kitx_exc x.er.cl x.er.ga x.er.gg x.er.exC x.er.ha x.er.hn x.er.ht x.er.hm, J, fun z => nomatch z⟩
  | @exn1 a dd o n f v d e _ x e2 _ _ =>
    cases ru
    obtain ⟨od, J⟩ := inst_exn I e x (fun q z => by cases z; exact ⟨_, e2⟩)
    refine ⟨(fun m h => by cases (show some n = some m from h); exact x.er), _, PySem.W.kitx_exc x.er.cl x.er.ga x.er.gg x.er.exC x.er.ha x.er.hn x.er.ht x.er.hm, J, fun z => nomatch z⟩
  | _ => exact plain rfl
theorem isC_split {ms : List Str} {d : D} {n : Sx} {P : D → Sx → Prop} {XP : Exn → Sx → Prop} (h : isC ms d n P XP) : (xnOf d = none → noXn d = true) ∧ (∀ m ∈ ms, isOk d m = true) ∧ P (.bool (ms.any (isAns d))) n := by
  unfold isC at h
  unfold isOk isAns
  cases e : xnOf d with
  | some k =>
    rw [e] at h
    exact ⟨(fun z => nomatch z), fun m hm => List.all_eq_true.mp h.1 m hm, h.2⟩
  | none =>
    rw [e] at h
    obtain ⟨⟨h1, h2⟩, h3⟩ := h
    exact ⟨fun _ => h1, (fun m hm => by simp only [Bool.and_eq_true]; exact ⟨h1, List.all_eq_true.mp h2 m hm⟩), h3⟩
theorem kitAny_ans {t : Value} {d : D} : ∀ {ms : List Str} {cvs : List Value}, Paired (fun m cv => PySem.W.kitOne X.K t cv = some (isAns d m)) ms cvs → PySem.W.kitAny X.K t cvs = some (ms.any (isAns d))
  | _, _, .nil => rfl
  | _, _, .cons h r => by
    unfold PySem.W.kitAny
    rw [h, List.any_cons]
    cases isAns d _ with
    | true => rfl
    | false => simpa using kitAny_ans r
/-- isinstance(x, C) -/
theorem c_isOne {m : Str} {c : V} {cv : Value} (hm : IsM X m c cv) : CallR X (.builtin "isinstance") (fun xs H Q => ∃ (v : V) (B : Addr → Prop) (d : D), xs = [v, c] ∧ Rep X.K B H v d ∧ (xnOf d = none → noXn d = true) ∧ isOk d m = true ∧ Q (.bl (isAns d m)) H) := by
  intro pins s σ H xs us Q I r h
  obtain ⟨v, B, d, rfl, rr, hx, ok, q⟩ := h
  obtain ⟨u1, u2, rfl, r1, r2⟩ := vals2 r
  have e2 := hm.rel.eq r2
  subst e2
  obtain ⟨er, P, Z, pp, ho⟩ := kit_rep I rr r1 hx
  exact PySem.W.kia_one Z I.kIn pp (isM_kit hm er ok) ho fun tk => ⟨.bl _, H, I.tok tk, rfl, q⟩
/-- isinstance(x, (C, ..)) -/
theorem c_isMany {ms : List Str} {cs : List V} {cvs : List Value} (hm : Paired (fun m (q : V × Value) => IsM X m q.1 q.2) ms (cs.zip cvs)) (hl : cs.length = cvs.length) : CallR X (.builtin "isinstance") (fun xs H Q => ∃ (v : V) (tp : Addr) (B : Addr → Prop) (d : D), xs = [v, .ref tp] ∧ H tp = some (.tup cs) ∧ Rep X.K B H v d ∧ (xnOf d = none → noXn d = true) ∧ (∀ m ∈ ms, isOk d m = true) ∧ Q (.bl (ms.any (isAns d))) H) := by
  intro pins s σ H xs us Q I r h
  obtain ⟨v, tp, B, d, rfl, hT, rr, hx, ok, q⟩ := h
  obtain ⟨u1, u2, rfl, r1, r2⟩ := vals2 r
  cases (show u2 = Value.ref tp from r2)
  obtain ⟨er, P, Z, pp, ho⟩ := kit_rep I rr r1 hx
  obtain ⟨_, its, rv, o, h1, h2, n, h3⟩ := (show ObjOk X.prog X.w H s.heap tp (.tup cs) from I.hok tp _ hT)
  have all : ∀ {ms : List Str} {cs : List V} {cvs its : List Value}, Paired (fun m (q : V × Value) => IsM X m q.1 q.2) ms (cs.zip cvs) → cs.length = cvs.length → Vals cs its → (∀ m ∈ ms, isOk d m = true) → its = cvs ∧ Paired (fun m cv => PySem.W.kitOne X.K (tvD X.K d) cv = some (isAns d m)) ms cvs := by
    intro ms
    induction ms with
    | nil =>
      intro cs cvs its hp hl rv _
      cases cs with
      | nil =>
        cases cvs with
        | nil => cases rv; exact ⟨rfl, .nil⟩
        | cons _ _ => simp at hl
      | cons c cs =>
        cases cvs with
        | nil => simp at hl
        | cons _ _ => rw [List.zip_cons_cons] at hp; cases hp
    | cons m ms ih =>
      intro cs cvs its hp hl rv ok
      cases cs with
      | nil => rw [List.zip_nil_left] at hp; cases hp
      | cons c cs =>
        cases cvs with
        | nil => simp at hl
        | cons cv cvs =>
          rw [List.zip_cons_cons] at hp
          cases hp with
          | cons h1 h2 =>
            cases rv with
            | cons q1 q2 =>
              obtain ⟨e, pr⟩ := ih h2 (by simpa using hl) q2 fun m hm => ok m (.tail _ hm)
              have := h1.rel.eq q1
              subst this e
              exact ⟨rfl, .cons (isM_kit h1 er (ok m (.head _))) pr⟩
  obtain ⟨e3, pr⟩ := all hm hl rv ok
  subst e3
  obtain ⟨oc, od, dt, sl⟩ := o
  simp only at h2 h3
  subst h2 h3
  exact PySem.W.kia_tup Z I.kIn pp h1 (kitAny_ans pr) ho fun tk => ⟨.bl _, H, I.tok tk, rfl, q⟩
/-- a class's name, read -/
structure ClsN (X : Cx) (m : Str) : Prop where
  ex : ∃ (c : V) (cv : Value), IsM X m c cv ∧ ∀ np, PE X (.Name m np) (tC c)
theorem clsN_own {m : Str} (h : NmC X m) (nb : isBlt m = false) (hm : X.mg m = some (.ref (He.ga X.K m))) (hg : Gl X m := by rfl) (hdb : (m == ("__debug__" : Str)) = false := by decide) : ClsN X m := by
  have e : clsV X.K m = .ref (He.ga X.K m) := by
    unfold isBlt at nb
    simp only [Bool.or_eq_false_iff] at nb
    unfold clsV
    rw [nb.1, nb.2]
    rfl
  refine ⟨.ref (He.ga X.K m), .ref (He.ga X.K m), ⟨.own _, fun n c _ => by rw [← e]; exact (h.one c).2, fun t ht => ?_⟩, fun np => pe_glob hg hm rfl hdb⟩
  exfalso
  have := h.all
  unfold tyOf? at ht
  repeat' split at ht
  all_goals first
    | (rename_i q; have q' := beq_iff_eq.mp q; subst q'; revert this; decide)
    | (cases ht)
theorem clsN_blt {m : Str} {T : String} (h : NmC X m) (e : clsV X.K m = .type T) (hm : X.mg m = none) (hv : bootBuiltins m = some (.type T)) (nt : tyOf? m = none) (hg : Gl X m := by rfl) (hn : m ≠ "__name__" := by decide) (hdb : (m == ("__debug__" : Str)) = false := by decide) : ClsN X m :=
  ⟨.ty T, .type T, ⟨.ty _, fun n c _ => by rw [← e]; exact (h.one c).2, fun t ht => by rw [nt] at ht; cases ht⟩, fun np => pe_bltn hg hm hv rfl hn hdb⟩
theorem pd_isC {m : Str} {np : Pos} {a : Expr} {ma : XE} {pn pos : Pos} (ha : PD X p a ma) (hm : X.mg "isinstance" = none) (c : ClsN X m) (hg : Gl X "isinstance" := by rfl)
    (hs : starEach [a, .Name m np] X.env = (false, eval a X.env) :: starEach [.Name m np] X.env := by rfl) (hs2 : starEach [.Name m np] X.env = (false, eval (.Name m np) X.env) :: starEach [] X.env := by rfl) (hpl : (backTo pos (starEach [.Name m np] X.env)).any (·.1) = false := by rfl) :
    PD X p (.Call (.Name "isinstance" pn) [a, .Name m np] [] pos) (eIsC [m] ma) := by
  obtain ⟨ta, a1, a2⟩ := ha.ex
  obtain ⟨cc, cv, im, pe⟩ := c.ex
  refine ⟨_, pe_callB (c_isOne im) hg hm (by decide +kernel) (pa_cons a1 (pa_cons (pe np) pa_nil hs2) hs) (by decide) (by decide) hs hpl, fun B H σ E c P Q s re mm k => ?_⟩
  refine a2 B H σ E _ _ _ s re mm fun d c1 v H1 m1 e1 s1 r1 => ?_
  obtain ⟨h1, h2, h3⟩ := isC_split m1
  refine ⟨v, _, d, rfl, r1, h1, h2 m (.head _), k _ c1 _ H1 (by simpa using h3) e1 s1 (.bl _)⟩
/-- several classes -/
inductive ClsNs (X : Cx) : List Expr → List Str → Prop
  | nil : ClsNs X [] []
  | cons {m : Str} {np : Pos} {es : List Expr} {ms : List Str} (h : ClsN X m) (r : ClsNs X es ms) (hs : starEach (.Name m np :: es) X.env = (false, eval (.Name m np) X.env) :: starEach es X.env := by rfl) : ClsNs X (.Name m np :: es) (m :: ms)
theorem ClsNs.pa {es : List Expr} {ms : List Str} (h : ClsNs X es ms) : ∃ (cs : List V) (cvs : List Value) (ta : TA), cs.length = cvs.length ∧ Paired (fun m (q : V × Value) => IsM X m q.1 q.2) ms (cs.zip cvs) ∧ PA X es ta ∧ ∀ σ H Q, Q cs H → ta σ H Q := by
  induction h with
  | nil => exact ⟨[], [], tNil, rfl, .nil, pa_nil, fun σ H Q q => q⟩
  | cons h _ hs ih =>
    obtain ⟨cs, cvs, ta, h1, h2, h3, h4⟩ := ih
    obtain ⟨c, cv, im, pe⟩ := h.ex
    exact ⟨c :: cs, cv :: cvs, _, by simp [h1], .cons im h2, pa_cons (pe _) h3 hs, fun σ H Q q => h4 σ H _ q⟩
theorem pd_isCs (S : SitB cb vb X p k) {es : List Expr} {ms : List Str} {a : Expr} {ma : XE} {k0 : _} {tp pn pos : Pos} (ha : PD X p a ma) (hm : X.mg "isinstance" = none) (c : ClsNs X es ms) (sz : ms.length ≤ 100) (hg : Gl X "isinstance" := by rfl)
    (hs : starEach [a, .Tuple es k0 tp] X.env = (false, eval a X.env) :: starEach [.Tuple es k0 tp] X.env := by rfl) (hs2 : starEach [.Tuple es k0 tp] X.env = (false, eval (.Tuple es k0 tp) X.env) :: starEach [] X.env := by rfl) (hpl : (backTo pos (starEach [.Tuple es k0 tp] X.env)).any (·.1) = false := by rfl) :
    PD X p (.Call (.Name "isinstance" pn) [a, .Tuple es k0 tp] [] pos) (eIsC ms ma) := by
  obtain ⟨ta, a1, a2⟩ := ha.ex
  obtain ⟨cs, cvs, tc, h1, h2, h3, h4⟩ := c.pa
  refine ⟨_, pe_callB (c_isMany h2 h1) hg hm (by decide +kernel) (pa_cons a1 (pa_cons (pe_tup h3) pa_nil hs2) hs) (by decide) (by decide) hs hpl, fun B H σ E c P Q s re mm k => ?_⟩
  refine a2 B H σ E _ _ _ s re mm fun d c1 v H1 m1 e1 s1 r1 => ?_
  obtain ⟨g1, g2, g3⟩ := isC_split m1
  have st1 := s.go e1 s1
  refine h4 σ H1 _ ⟨?_, fun q hq => ?_⟩
  · have : ∀ {ms : List Str} {l : List (V × Value)}, Paired (fun m (q : V × Value) => IsM X m q.1 q.2) ms l → l.length = ms.length := by
      intro ms l h
      induction h with
      | nil => rfl
      | cons _ _ ih => simp [ih]
    have e := this h2
    rw [List.length_zip, h1, Nat.min_self] at e
    rw [h1, e, sizeLine_eq]
    omega
  · have al : All H1 (upd H1 q (.tup cs)) := All.new hq
    exact ⟨v, q, _, d, rfl, upd_same, r1.mono al.ext, g1, g2, k _ c1 _ _ g3 (e1.trans al.ev) (st1.all S.ok al) (.bl _)⟩
/-- e.f of an error -/
theorem pd_fld (f : Fl) {e : Expr} {m : XE} {pos : Pos} (he : PD X p e m) (hb : attributeBase e f.s X.env (eval e X.env) = eval e X.env := by rfl) : PD X p (.Attribute e f.s pos) (eFld m f.s) := by
  obtain ⟨te, a1, a2⟩ := he.ex
  refine ⟨fun σ H Q => te σ H fun x H1 => ∃ (a : Addr) (o : Obj) (n : Str) (dd : Addr) (v : V), x = .ref a ∧ H1 a = some (xob a o) ∧ XOb X.K o n (some dd) ∧ H1 dd = some (.xd [(f.s, v)]) ∧ Q v H1, ⟨fun pins s σ H Q I h => ?_⟩, fun B H σ E c P Q st r mm kk => ?_⟩
  · refine attr_of hb (thn (a1.run pins s σ H _ I h) fun u s1 ⟨x, H1, I1, rx, a, o, n, dd, v, ex, ea, xo, ed, q⟩ => ?_)
    subst ex
    obtain rfl : u = Value.ref a := rx
    have ha : s1.heap.get? a = some o := (I1.hok a _ ea).1
    obtain ⟨vs, hv⟩ := xo.data
    obtain ⟨mA, hns, hr⟩ := (show ObjOk X.prog X.w H1 s1.heap dd (.xd [(f.s, v)]) from I1.hok dd _ ed)
    obtain ⟨od, ho, hl⟩ := lookIn_ns hns
    have l : List.lookup f.s [(f.s, v)] = some v := by simp [List.lookup]
    obtain ⟨u, hu, ru⟩ := RelO.some_of (v := v) (o := mA f.s) (by rw [← l]; exact hr f.s)
    have J : PySem.W.InstAt s1.heap a o (He.ga X.K n) (some od) := ⟨ha, xo.cls, by unfold PySem.W.notCls; rw [hv], by rw [xo.dict]; exact ho⟩
    exact PySem.HandSPX.exc_get I1.kIn J xo.er.ga xo.er.gg xo.er.exC (PySem.W.findObj_own xo.er.hdC (xo.er.nof f) rfl (by rw [hl, hu])) (handed_of ru) ⟨v, H1, I1.tok _, ru, q⟩
  · refine a2 B H σ E _ _ _ st r mm fun d c1 v H1 m1 e1 s1 r1 => ?_
    cases r1 with
    | @exn1 a dd o n g v d ea _ xo ed _ rv =>
      have m1' : (if f.s = g then ret d else stuck) c1 P p.XP := m1
      by_cases hfg : f.s = g
      · subst hfg
        rw [if_pos rfl] at m1'
        exact ⟨a, o, n, dd, v, rfl, ea, xo, ed, kk d c1 v H1 m1' e1 s1 rv⟩
      · rw [if_neg hfg] at m1'
        exact m1'.elim
    | _ => exact (show False from m1).elim
end
end DL
end
section
namespace DL
open PySem PySem.Spec PyProof.Rows L2
abbrev AlH : Type := He.AlD × Bool
/-- sys.modules is there -/
def smB (K : PySem.W.Frag) : Bool := (K.lookup sysModules).isSome
theorem smB_ok {K : PySem.W.Frag} {base : Heap} (h : smB K = true) (X : K.In base) : HasSm base := by
  obtain ⟨o, e⟩ := Option.isSome_iff_exists.mp h
  exact ⟨o, X _ _ e⟩
/-- a class's body -/
def clsBody : Stmt → List Stmt
  | .ClassDef _ _ _ body _ _ _ _ _ _ _ => body
  | _ => []
theorem here_of {K : PySem.W.Frag} {m : Str} (h : (He.Fa.glo m).ok K = true) : here K m = true := by
  unfold here
  rw [h, Bool.or_true]
theorem here_blt {K : PySem.W.Frag} {m : Str} (h : isBlt m = true) : here K m = true := by
  unfold here
  rw [h, Bool.true_or]
section
variable {X : Cx}
theorem clsV_own {K : PySem.W.Frag} {m : Str} (nb : isBlt m = false) : clsV K m = .ref (He.ga K m) := by
  unfold isBlt at nb
  simp only [Bool.or_eq_false_iff] at nb
  unfold clsV
  rw [nb.1, nb.2]
  rfl
theorem nmC_own {m : Str} (p : here X.K m = true) (hm : X.mg m = some (.ref (He.ga X.K m))) (ha : allN.contains m = true := by decide) (nb : isBlt m = false := by decide) (hg : Gl X m := by rfl) (hdb : (m == ("__debug__" : Str)) = false := by decide) : NmC X m :=
  ⟨ha, p, hg, hdb, .inl (by rw [clsV_own nb]; exact hm)⟩
theorem clsV_le {K : PySem.W.Frag} : clsV K "LookupError" = .type "LookupError" := by
  unfold clsV
  rw [if_neg (by decide), if_pos (by decide)]
theorem clsV_ve {K : PySem.W.Frag} : clsV K "ValueError" = .type "ValueError" := by
  unfold clsV
  rw [if_pos (by decide)]
theorem nmC_le (hm : X.mg "LookupError" = none) (hg : Gl X "LookupError" := by rfl) : NmC X "LookupError" := ⟨by decide, here_blt (by decide), hg, by decide, .inr ⟨hm, by rw [clsV_le]; decide +kernel, by decide⟩⟩
theorem nmC_ve (hm : X.mg "ValueError" = none) (hg : Gl X "ValueError" := by rfl) : NmC X "ValueError" := ⟨by decide, here_blt (by decide), hg, by decide, .inr ⟨hm, by rw [clsV_ve]; decide +kernel, by decide⟩⟩
theorem clsN_o {m : Str} (p : here X.K m = true) (hm : X.mg m = some (.ref (He.ga X.K m))) (ha : allN.contains m = true := by decide) (nb : isBlt m = false := by decide) (hg : Gl X m := by rfl) (hdb : (m == ("__debug__" : Str)) = false := by decide) : ClsN X m := clsN_own (nmC_own p hm ha nb hg hdb) nb hm hg hdb
theorem clsN_le (hm : X.mg "LookupError" = none) (hg : Gl X "LookupError" := by rfl) : ClsN X "LookupError" := clsN_blt (T := "LookupError") (nmC_le hm hg) clsV_le hm (by decide +kernel) (by decide) hg
theorem clsN_ve (hm : X.mg "ValueError" = none) (hg : Gl X "ValueError" := by rfl) : ClsN X "ValueError" := clsN_blt (T := "ValueError") (nmC_ve hm hg) clsV_ve hm (by decide +kernel) (by decide) hg
end
end DL
end
section
namespace DL
open PySem PySem.Spec PyProof.Rows L2
section
variable {X : Cx} {p : Par} {k : Nat} {cb vb : Bool} {K : PySem.W.Frag}
def isIn (neg : Bool) (x : D) (ys : List D) : D := .bool (neg != ys.any fun y => PyData.eqv y x)
def opIn (neg : Bool) : D → D → W D
  | x, .tuple ys => grd (SeqAt.shaped x = true ∧ SeqAt.shaped (.tuple ys) = true) (ret (isIn neg x ys))
  | x, .list ys => grd (SeqAt.shaped x = true ∧ SeqAt.shaped (.list ys) = true) (ret (isIn neg x ys))
  | _, _ => stuck
def eIn (neg : Bool) (a b : XE) : XE := fun E => bnd (a E) fun x => bnd (b E) fun y => opIn neg x y
def opCnt : D → D → W D
  | .list xs, .bool b => match bools? xs with | some bs => ret (.int (bs.count b : Nat)) | none => stuck
  | _, _ => stuck
def eCnt (a b : XE) : XE := fun E => bnd (a E) fun x => match x with | .list xs => bnd (b E) fun y => opCnt (.list xs) y | _ => stuck
theorem bl_all : ∀ bs : List Bool, (bs.map V.bl).all flatV = true
  | [] => rfl
  | _ :: r => bl_all r
theorem cnt_bl (b : Bool) : ∀ {bs : List Bool} {us : List Value}, Vals (bs.map V.bl) us → us.countP (eqU (.bl b)) = bs.count b
  | [], _, .nil => rfl
  | x :: r, _, .cons h t => by
    cases h
    rw [List.countP_cons, List.count_cons, cnt_bl b t]
    congr 1
theorem mt_cntB : MtR X "list.count" (fun x xs H Q => ∃ (a : Addr) (bs : List Bool) (b : Bool), x = .ref a ∧ xs = [.bl b] ∧ SqL X.K H a (bs.map V.bl) ∧ Q (.int (bs.count b : Nat)) H) := by
  intro pins s σ H x xs v us Q I rx rxs h
  obtain ⟨a, bs, b, rfl, rfl, hs, q⟩ := h
  cases rx
  obtain ⟨u, rfl, ru⟩ := rxs.one
  cases (show u = Value.bool b from ru)
  obtain ⟨its, rv, ⟨⟨cls, dd, data, sl⟩, n, ho, hc, hdn, hd⟩, hlen⟩ := I.list hs
  simp only at hc hd
  subst hc hd
  refine call_meets PySem.F.slot_list_count ⟨_, ho, rfl⟩ PySem.F.entry_list_count (PySem.F.args_list_count_2 _ _) (SeqAt.list_countAt a its.toArray n dd sl (.bool b) (eqU (.bl b)))
    ⟨ho, fun y hy => mem_eqAt (x := .bl b) rfl rfl rv (bl_all bs) y (by simpa using hy), ?_⟩
  refine ⟨.int (bs.count b : Nat), H, I.tok _, ⟨s.toks, ?_⟩, q⟩
  have e : its.toArray.toList.countP (eqU (.bl b)) = bs.count b := by simpa using cnt_bl b rv
  rw [e]
theorem pd_cnt {a b : Expr} {ma mb : XE} {pa pc : Pos} (ha : PD X p a ma) (hb : PD X p b mb)
    (hpe : ∀ {ta tb : TE}, PE X a ta → PE X b tb → PE X (.Call (.Attribute a "count" pa) [b] [] pc) (tBM X.K "list" (fun x xs H Q => ∃ (a : Addr) (bs : List Bool) (b : Bool), x = .ref a ∧ xs = [.bl b] ∧ SqL X.K H a (bs.map V.bl) ∧ Q (.int (bs.count b : Nat)) H) ta (tCons tb tNil))) :
    PD X p (.Call (.Attribute a "count" pa) [b] [] pc) (eCnt ma mb) := by
  obtain ⟨ta, a1, a2⟩ := ha.ex
  obtain ⟨tb, b1, b2⟩ := hb.ex
  refine ⟨_, hpe a1 b1, fun B H σ E c P Q st r mm kk => ?_⟩
  refine a2 B H σ E _ _ _ st r mm fun d c1 v H1 m1 e1 s1 r1 => ?_
  have st1 := st.go e1 s1
  cases r1 with
  | @lst q xs ds hq nb t =>
    refine ⟨.inl ⟨rfl, xs, SqL.of hq⟩, ?_⟩
    refine b2 B H1 σ E _ _ _ st1 (r.go st e1) m1 fun d2 c2 v2 H2 m2 e2 s2 r2 => ?_
    have hq2 := (st1.up e2).ext.keep _ _ hq nb
    cases r2 with
    | bl b =>
      have m2' : (match bools? ds with | some bs => ret (PyData.int (bs.count b : Nat)) | none => stuck) c2 P p.XP := m2
      cases hb : bools? ds with
      | none => rw [hb] at m2'; exact m2'.elim
      | some bs =>
        rw [hb] at m2'
        have ex := t.bools hb
        subst ex
        exact ⟨q, bs, b, rfl, rfl, SqL.of hq2, kk _ c2 _ H2 m2' (e1.trans e2) s2 (.int _)⟩
    | _ => exact (show False from m2).elim
  | _ => exact (show False from m1).elim
end
end DL
end
section
namespace DL
open PySem PySem.Spec PyProof.Rows L2
end DL
end
section
namespace DL
open PySem PySem.Spec PyProof.Rows L2
end DL
end
section
namespace DL
open PySem PySem.Spec PyProof.Rows L2
theorem Reps.erase {K : PySem.W.Frag} {B : Addr → Prop} {H : Hp} {vs : List V} {ds : List PyData} (j : Nat) (r : Reps K B H vs ds) : Reps K B H (vs.eraseIdx j) (ds.eraseIdx j) := by
  rw [List.eraseIdx_eq_take_drop_succ, List.eraseIdx_eq_take_drop_succ]
  exact (r.take j).append (r.drop (j + 1))
end DL
end
section
namespace DL
open PySem
def pairD (q : Int × List Int) : D := .tuple [.int q.1, .tuple (q.2.map PyData.int)]
/-- xs.index(k): the first place of an int that is there, of a truth value that is there -/
def opIxOf : D → D → W D
  | .list xs, .int k => match ints? xs with
    | some ns => match ns.findIdx? (· == k) with
      | some j => ret (.int (j : Int))
      | none => stuck
    | none => stuck
  | .list xs, .bool k => match bools? xs with
    | some ns => match ns.findIdx? (· == k) with
      | some j => ret (.int (j : Int))
      | none => stuck
    | none => stuck
  | _, _ => stuck
def eIxOf (a b : XE) : XE := fun E => bnd (a E) fun x => match x with | .list xs => bnd (b E) fun y => opIxOf (.list xs) y | _ => stuck
end DL
end
section
namespace DL
open PySem
def w_is_integer_0 : Fn := fn 3 3 (sRet (eAnd (eIs .int (eVar 0)) (eAnd (eNot (eIs .bool (eVar 0))) (eChain .le .le (eVar 1) (eVar 0) (eVar 2)))))
def w_extent_of_0 : Fn := fn 3 3 (sRet (eBin .sub (eBin .add (eB1 .sum (eCut (eVar 0) (oSome (eVar 1)) (oSome (eBin .add (eVar 2) (eCon (.int 1)))))) (eVar 2)) (eVar 1)))
def w_check_place_0 : Fn := fn 2 2 (sIf (tNot (tTru (eCall w_is_integer_0 (aCons (eVar 1) (aCons (eCon (.int 0)) (aCons (eBin .sub (eB1 .len (eVar 0)) (eCon (.int 1))) (aNil))))))) (sRaise "NoPlace" [Fl.s .value] (aCons (eVar 1) aNil)) (sSkip))
def w__law_row_drawn_0 : Fn := fnS 2 8 (sSeq (sPar 2 3 (eBin .add (eCon (.int 1)) (eCallS fDraw 0 (aCons (eVar 1) (aNil)))) (eCallS fDraw 0 (aCons (eCon (.int 6)) (aNil))))
    (sSeq (sAsg 4 (eIdx (eLst (aCons (eCon (.int 3)) (aCons (eCon (.int 60)) (aCons (eCon (.int 9)) (aCons (eCon (.int 2)) (aCons (eCon (.int 12)) (aCons (eCon (.int 5)) (aNil)))))))) (eVar 3)))
    (sSeq (sOwn 5 (eComp (iRng1 (eVar 2)) (.nm 7) (tYes) (eBin .add (eCon (.int 1)) (eCallS fDraw 0 (aCons (eVar 4) (aNil)))) [7]))
    (sSeq (sIf (DL.tOr (tBool (eCmp .eq (eVar 3) (eCon (.int 2)))) (tBool (eCmp .eq (eVar 3) (eCon (.int 3))))) (sSet 5 (eCallS fDraw 0 (aCons (eVar 2) (aNil))) (eBin .add (eCon (.int 1)) (eCallS fDraw 0 (aCons (eCon (.int 60)) (aNil))))) (sSkip))
    (sSeq (sIf (tBool (eCmp .eq (eVar 3) (eCon (.int 5)))) (sSeq (sAsg 6 (eBin .add (eCon (.int 1)) (eCallS fDraw 0 (aCons (eB2 .min (eVar 2) (eCon (.int 4))) (aNil)))))
    (sRel 5 (sOwn 5 (eComp (iRng1 (eVar 2)) (.nm 7) (tYes) (eIdx (eVar 5) (eBin .mod (eVar 7) (eVar 6))) [7])))) (sSkip))
    (sRel 5 (sRet (eB1 .tuple (eVar 5)))))))))
def w_next_start_0 : Fn := fn 3 4 (sSeq (sAsg 3 (eBin .add (eVar 2) (eCon (.int 1))))
    (sSeq (sWhile (DL.tAnd (tBool (eCmp .lt (eVar 3) (eB1 .len (eVar 0)))) (tBool (eCmp .le (eCall w_extent_of_0 (aCons (eVar 0) (aCons (eVar 2) (aCons (eVar 3) (aNil))))) (eVar 1)))) (sAsg 3 (eBin .add (eVar 3) (eCon (.int 1)))))
    (sRet (eVar 3))))
def w_starts_of_0 : Fn := fn 2 4 (sSeq (sOwn 2 (eLst (aCons (eCon (.int 0)) (aNil))))
    (sSeq (sAsg 3 (eCall w_next_start_0 (aCons (eVar 0) (aCons (eVar 1) (aCons (eCon (.int 0)) (aNil))))))
    (sSeq (sWhile (tBool (eCmp .lt (eVar 3) (eB1 .len (eVar 0)))) (sSeq (sApp 2 (eVar 3))
    (sAsg 3 (eCall w_next_start_0 (aCons (eVar 0) (aCons (eVar 1) (aCons (eVar 3) (aNil))))))))
    (sRel 2 (sRet (eB1 .tuple (eVar 2)))))))
def w_check_fits_0 : Fn := fn 2 4 (sFor (iEnumC 0 (eVar 0)) (.tp [2, 3]) (sIf (tBool (eCmp .gt (eVar 3) (eVar 1))) (sRaise "TooNarrow" [Fl.s .place] (aCons (eVar 2) aNil)) (sSkip)))
def w_starts_at_0 : Fn := fn 2 2 (sSeq (sExpr (eCall w_check_fits_0 (aCons (eVar 0) (aCons (eVar 1) (aNil)))))
    (sRet (eCall w_starts_of_0 (aCons (eVar 0) (aCons (eVar 1) (aNil))))))
def w__law_is_int_0 : Fn := fn 3 3 (sRet (eAnd (eIs .int (eVar 0)) (eAnd (eNot (eIs .bool (eVar 0))) (eChain .le .le (eVar 1) (eVar 0) (eVar 2)))))
def w_is_length_0 : Fn := fn 1 1 (sRet (eCall w_is_integer_0 (aCons (eVar 0) (aCons (eCon (.int 1)) (aCons (eCon (.int (60))) (aNil))))))
def w_check_length_0 : Fn := fn 1 1 (sIf (tNot (tTru (eCall w_is_length_0 (aCons (eVar 0) (aNil))))) (sRaise "BadLength" [Fl.s .value] (aCons (eVar 0) aNil)) (sSkip))
def w_changed_0 : Fn := fn 3 3 (sSeq (sExpr (eCall w_check_place_0 (aCons (eVar 0) (aCons (eVar 1) (aNil)))))
    (sSeq (sExpr (eCall w_check_length_0 (aCons (eVar 2) (aNil))))
    (sRet (eTup (aStar (eCut (eVar 0) (oNone) (oSome (eVar 1))) (aCons (eVar 2) (aStar (eCut (eVar 0) (oSome (eBin .add (eVar 1) (eCon (.int 1)))) (oNone)) (aNil))))))))
def w_taken_out_0 : Fn := fn 2 2 (sSeq (sExpr (eCall w_check_place_0 (aCons (eVar 0) (aCons (eVar 1) (aNil)))))
    (sSeq (sIf (tBool (eCmp .eq (eB1 .len (eVar 0)) (eCon (.int 1)))) (sRaise "LastWord" [] aNil) (sSkip))
    (sRet (eBin .add (eCut (eVar 0) (oNone) (oSome (eVar 1))) (eCut (eVar 0) (oSome (eBin .add (eVar 1) (eCon (.int 1)))) (oNone))))))
def w_put_in_0 : Fn := fn 3 3 (sSeq (sIf (tNot (tTru (eCall w_is_integer_0 (aCons (eVar 1) (aCons (eCon (.int 0)) (aCons (eB1 .len (eVar 0)) (aNil))))))) (sRaise "NoPlace" [Fl.s .value] (aCons (eVar 1) aNil)) (sSkip))
    (sSeq (sExpr (eCall w_check_length_0 (aCons (eVar 2) (aNil))))
    (sSeq (sIf (tBool (eCmp .eq (eB1 .len (eVar 0)) (eCon (.int (24))))) (sRaise "TooMany" [Fl.s .limit] (aCons (eCon (.int (24))) aNil)) (sSkip))
    (sRet (eTup (aStar (eCut (eVar 0) (oNone) (oSome (eVar 1))) (aCons (eVar 2) (aStar (eCut (eVar 0) (oSome (eVar 1)) (oNone)) (aNil)))))))))
def w__law_pick_0 : Fn := fnS 2 2 (sRet (eIdx (eVar 1) (eCallS fDraw 0 (aCons (eB1 .len (eVar 1)) (aNil)))))
def w_row_error_0 : Fn := fn 1 3 (sSeq (sIf (DL.tOr (tNot (tTru (eIs .tuple (eVar 0)))) (tNot (tBool (eChain .le .le (eCon (.int 1)) (eB1 .len (eVar 0)) (eCon (.int (24))))))) (sRet (eTup (aCons (eCon .none) (aCons (eCon (.str "row")) (aNil))))) (sSkip))
    (sSeq (sFor (iEnumC 0 (eVar 0)) (.tp [1, 2]) (sIf (tNot (tTru (eCall w_is_length_0 (aCons (eVar 2) (aNil))))) (sRet (eTup (aCons (eVar 1) (aCons (eCon (.str "length")) (aNil))))) (sSkip)))
    (sRet (eCon .none))))
end DL
end
section
namespace DL
open PySem
end DL
end
section
namespace DL
open PySem
end DL
end
section
namespace DL
open PySem
/-- an f-string's parts -/
def fmtD : D → W Str
  | .str y => grd (y.length ≤ 1000000) (ret y)
  | .int i => grd (i.natAbs.log2 < 1920) (ret (toString i))
  | _ => stuck
def fpL : List XE → Str → Env → W D
  | [], acc, _ => ret (.str acc)
  | a :: r, acc, E => bnd (a E) fun d => bnd (fmtD d) fun y => grd ((acc ++ y).length ≤ 1000000) (fpL r (acc ++ y) E)
def eFs (ps : List XE) : XE := fun E => fpL ps Str.empty E
end DL
end
section
namespace DL
open PySem
def w__law_name_0 : Fn := fn 1 4 (sSeq (sAsg 1 (eLst (aCons (eCon (.str "BadEdit")) (aCons (eCon (.str "BadEdits")) (aCons (eCon (.str "BadLength")) (aCons (eCon (.str "BadRow")) (aCons (eCon (.str "BadText")) (aCons (eCon (.str "BadTimes")) (aCons (eCon (.str "Busy")) (aCons (eCon (.str "LastWord")) (aCons (eCon (.str "NothingToUndo")) (aNil))))))))))))
    (sSeq (sAsg 1 (eBin .add (eVar 1) (eLst (aCons (eCon (.str "Rejected")) (aCons (eCon (.str "TooLong")) (aCons (eCon (.str "TooMany")) (aCons (eCon (.str "TooManyEdits")) (aCons (eCon (.str "TooNarrow")) (aCons (eCon (.str "NoPlace")) (aCons (eCon (.str "NoVersion")) (aCons (eCon (.str "NoWidth")) (aNil))))))))))))
    (sSeq (sAsg 2 (eLst (aCons (eIsC ["BadEdit"] (eVar 0)) (aCons (eIsC ["BadEdits"] (eVar 0)) (aCons (eIsC ["BadLength"] (eVar 0)) (aNil))))))
    (sSeq (sAsg 2 (eBin .add (eVar 2) (eLst (aCons (eIsC ["BadRow"] (eVar 0)) (aCons (eIsC ["BadText"] (eVar 0)) (aCons (eIsC ["BadTimes"] (eVar 0)) (aNil)))))))
    (sSeq (sAsg 2 (eBin .add (eVar 2) (eLst (aCons (eIsC ["Busy"] (eVar 0)) (aCons (eIsC ["LastWord"] (eVar 0)) (aCons (eIsC ["NothingToUndo"] (eVar 0)) (aNil)))))))
    (sSeq (sAsg 2 (eBin .add (eVar 2) (eLst (aCons (eIsC ["Rejected"] (eVar 0)) (aCons (eIsC ["TooLong"] (eVar 0)) (aCons (eIsC ["TooMany"] (eVar 0)) (aNil)))))))
    (sSeq (sAsg 2 (eBin .add (eVar 2) (eLst (aCons (eIsC ["TooManyEdits"] (eVar 0)) (aCons (eIsC ["TooNarrow"] (eVar 0)) (aCons (eIsC ["NoPlace"] (eVar 0)) (aNil)))))))
    (sSeq (sAsg 2 (eBin .add (eVar 2) (eLst (aCons (eIsC ["NoVersion"] (eVar 0)) (aCons (eIsC ["NoWidth"] (eVar 0)) (aNil))))))
    (sSeq (sAsg 3 (eLst (aCons (eIsC ["WrapError"] (eVar 0)) (aCons (eIsC ["ValueError"] (eVar 0)) (aCons (eIsC ["LookupError"] (eVar 0)) (aNil))))))
    (sSeq (sIf (DL.tOr (tBool (eCmp .ne (eCnt (eVar 2) (eCon (.bool true))) (eCon (.int 1)))) (tBool (eCmp .ne (eVar 3) (eIdx (eLst (aCons (eLst (aCons (eCon (.bool true)) (aCons (eCon (.bool true)) (aCons (eCon (.bool false)) (aNil))))) (aCons (eLst (aCons (eCon (.bool false)) (aCons (eCon (.bool false)) (aCons (eCon (.bool true)) (aNil))))) (aNil)))) (eB1 .int (eCmp .gt (eIxOf (eVar 2) (eCon (.bool true))) (eCon (.int 13)))))))) (sRet (eCon (.str "several"))) (sSkip))
    (sRet (eIdx (eVar 1) (eIxOf (eVar 2) (eCon (.bool true)))))))))))))))
def w__law_field_0 : Fn := fn 1 1 (sSeq (sIf (tTru (eIsC ["BadLength", "BadTimes", "NoPlace", "NoVersion", "NoWidth"] (eVar 0))) (sRet (eFld (eVar 0) (Fl.s .value))) (sSkip))
    (sSeq (sIf (tTru (eIsC ["BadEdit", "BadText", "Rejected"] (eVar 0))) (sRet (eFld (eVar 0) (Fl.s .index))) (sSkip))
    (sSeq (sIf (tTru (eIsC ["TooLong", "TooNarrow"] (eVar 0))) (sRet (eFld (eVar 0) (Fl.s .place))) (sSkip))
    (sSeq (sIf (tTru (eIsC ["TooMany"] (eVar 0))) (sRet (eFld (eVar 0) (Fl.s .limit))) (sSkip))
    (sRet (eIf (tTru (eIsC ["BadRow"] (eVar 0))) (eFld (eVar 0) (Fl.s .error)) (eCon .none)))))))
end DL
end
section
namespace DL
open PySem
/-- what an instance holds -/
def heldOf : D → W D
  | .dict [(.none, .int 0), (.str _, d)] => ret d
  | _ => stuck
def eHeld (a : XE) : XE := fun E => bnd (a E) heldOf
end DL
end
section
namespace DL
open PySem
def w_check_width_0 : Fn := fn 1 1 (sIf (tNot (tTru (eCall w_is_integer_0 (aCons (eVar 0) (aCons (eCon (.int 1)) (aCons (eCon (.int (2000))) (aNil))))))) (sRaise "NoWidth" [Fl.s .value] (aCons (eVar 0) aNil)) (sSkip))
def w_WR_call_0 : Fn := fn 2 2 (sSeq (sExpr (eCall w_check_width_0 (aCons (eVar 1) (aNil))))
    (sRet (eCall w_starts_at_0 (aCons (eHeld (eVar 0)) (aCons (eVar 1) (aNil))))))
end DL
end
section
namespace DL
open PySem PySem.Spec PyProof.Rows L2
theorem places_down (n : Nat) : Builtin.Slice.slicePlaces ((n : Int) - 1) (-1) (-1) = n := by
  unfold Builtin.Slice.slicePlaces
  rw [if_neg (by decide)]
  by_cases h : n = 0
  · subst h; rfl
  · rw [if_pos (by omega)]
    simp
theorem pick_down (xs : List Value) : ((List.range xs.length).filterMap fun (m : Nat) => xs.toArray[(((xs.length : Nat) : Int) - 1 + (m : Int) * -1).toNat]?) = xs.reverse := by
  refine List.ext_getElem? fun j => ?_
  have all : ∀ k : Nat, k ≤ xs.length → ((List.range k).filterMap fun (m : Nat) => xs.toArray[(((xs.length : Nat) : Int) - 1 + (m : Int) * -1).toNat]?) = xs.reverse.take k := by
    intro k
    induction k with
    | zero => intro _; rfl
    | succ k ih =>
      intro hk
      rw [List.range_succ, List.filterMap_append, ih (by omega), List.take_add_one]
      congr 1
      have e : (((xs.length : Nat) : Int) - 1 + (k : Int) * -1).toNat = xs.length - 1 - k := by omega
      simp only [List.filterMap_cons, List.filterMap_nil, e]
      rw [List.getElem?_toArray, List.getElem?_reverse (by omega)]
      have : xs.length - 1 - k < xs.length := by omega
      rw [List.getElem?_eq_getElem this]
      rfl
  rw [all xs.length (Nat.le_refl _), List.take_of_length_le (by rw [List.length_reverse]; exact Nat.le_refl _)]
section
variable {prog : Program} {w : World} {A : Around} {E : Value → Shared → Prop} {s : Shared}
theorem applied_down {sl : Addr} {t : Tok} {n : Nat} {Q : Int × Int × Nat → Shared → Prop} (hs : s.heap.IsSliceOf sl .none .none (.int (-1) t)) (h : Q ((n : Int) - 1, -1, n) s) : wpAny (model prog w) A (Builtin.Slice.sliceApplied (.ref sl) (pure (n : Int))) Q E s := by
  obtain ⟨o, e1, _, e3⟩ := hs
  unfold Builtin.Slice.sliceApplied Builtin.Slice.sliceFields
  refine wpAny_bind (wpAny_bind ?_)
  refine wpAny_field e1 e3 (x := .none) rfl (wpAny_bind ?_)
  refine wpAny_field e1 e3 (x := .none) rfl (wpAny_bind ?_)
  refine wpAny_field e1 e3 (x := .int (-1) t) rfl (wpAny_pure ?_)
  refine wpAny_bind (HT.slicePart_ (IsPart.int (-1) t) ?_)
  show wpAny _ _ (if ((-1 : Int) == 0) = true then _ else _) _ _ s
  rw [if_neg (by decide)]
  refine wpAny_bind (HT.slicePart_ IsPart.none (wpAny_bind (HT.slicePart_ IsPart.none (wpAny_bind (wpAny_pure ?_)))))
  show wpAny _ _ (pure ((n : Int) - 1, (-1 : Int), Builtin.Slice.slicePlaces ((n : Int) - 1) (-1) (-1))) _ _ s
  rw [places_down]
  exact wpAny_pure h
theorem getT_down {t sl : Addr} {its : List Value} {tk : Tok} {Q : Value → Shared → Prop} (ht : IsTup s.heap t its.toArray) (hs : s.heap.IsSliceOf sl .none .none (.int (-1) tk))
    (h : Q (.ref s.heap.objs.size) { s with heap := s.heap.push { cls := .type "tuple", data := .seq its.reverse.toArray } }) (hsz : its.length ≤ sizeLine) : wpAny (model prog w) A (getItem (.ref t) (.ref sl)) Q E s := by
  have fits : sizeOk (.seq its.reverse.toArray) := by
    show its.reverse.toArray.size ≤ sizeLine
    rw [List.size_toArray, List.length_reverse]; exact hsz
  have isS : s.TypeIs (.ref sl) "slice" := let ⟨o, a, b, _⟩ := hs; ⟨o, a, b⟩
  unfold getItem
  try with_reducible refine wpAny_holding ?_
  first | refine wpAny_bind (wpAny_pure ?_) | skip
  refine wpAny_bind (wpAny_sequenceKey ht.typeIs (by decide) ?_)
  refine wpAny_bind (wpAny_callSpecial?_slot (name := Str.ofString "__getitem__") ht.typeIs PyProof.Rows.slot_tuple_getitem (wpAny_call_entry PyProof.Rows.slot_tuple_getitem ht.typeIs entry_tuple_getitem ?_ (args_tuple_getitem _ _)))
  show wpAny _ _ (Builtin.Tuple.tupleItemsOf (.ref t) >>= _) _ _ s
  refine wpAny_bind (PyProof.Rows.tupleItemsOf_ ht ?_)
  refine wpAny_bind (wpAny_typeOf isS ?_)
  rw [if_pos (by decide)]
  refine wpAny_bind (applied_down hs ?_)
  have no : ¬ ((((its.toArray.size : Nat) : Int) - 1 == 0 && (-1 : Int) == 1 && its.toArray.size == its.toArray.size) = true) := by simp
  show wpAny _ _ (if (((its.toArray.size : Nat) : Int) - 1 == 0 && (-1 : Int) == 1 && its.toArray.size == its.toArray.size) = true then _ else _) _ _ s
  rw [if_neg no, List.size_toArray, pick_down]
  first
    | exact wpAny_bind (m := Builtin.Tuple.tupleExact _) (wpAny_newObj_type (wpAny_pure ⟨_, rfl, wpAny_pure h⟩) fits)
    | exact wpAny_bind (m := Builtin.Tuple.tupleExact _) (wpAny_newObj_type (wpAny_bind (wpAny_pure (wpAny_pure ⟨_, rfl, wpAny_pure h⟩))) fits)
    | exact wpAny_bind (wpAny_bind (m := Builtin.Tuple.tupleExact _) (wpAny_newObj_type (wpAny_pure (wpAny_pure ⟨_, rfl, wpAny_pure h⟩)) fits))
    | exact wpAny_bind (wpAny_bind (m := Builtin.Tuple.tupleExact _) (wpAny_newObj_type (wpAny_pure ⟨_, rfl, wpAny_pure h⟩) fits))
end
section
variable {X : Cx} {p : Par} {k : Nat} {cb vb : Bool}
theorem pe_turned {e : Expr} {te : TE} {j : Nat} {p1 p2 p3 pos : Pos} (he : PE X e te) : PE X (.Subscript e (.Slice none none (some (.UnaryOp .USub (.Constant (.int 1) j p1) p2)) p3) pos) (fun σ H Q => te σ H fun x H1 => rD1 X.K opRev x H1 Q) := by
  refine ⟨fun pins s σ H Q I h => Subscript_ (thn (he.run pins s σ H _ I h) ?_)⟩
  rintro v s1 ⟨x, H1, I1, rx, B, d, c, P, Xp, hb, r1, m1, kk⟩
  have step : PO X (some (.UnaryOp .USub (.Constant (.int 1) j p1) p2)) (tPart (tUn (rU fun i => .int (-i)) (tC (.int 1)))) := po_some (pe_un un_neg pe_int)
  refine wpAny_Slice (thn (po_none.run pins s1 σ H1 (fun o G => o = none ∧ G = H1) I1 ⟨rfl, rfl⟩) ?_)
  rintro vl s2 ⟨l, G, I2, pl, rfl, rfl⟩
  refine thn (po_none.run pins s2 σ G (fun o G' => o = none ∧ G' = G) I2 ⟨rfl, rfl⟩) ?_
  rintro vu s3 ⟨u, G, I3, pu, rfl, rfl⟩
  refine thn (step.run pins s3 σ G (fun o G' => o = some (-1) ∧ G' = G) I3 ⟨1, rfl, -1, rfl, rfl, rfl⟩) ?_
  rintro vs s4 ⟨o, G, I4, ps, rfl, rfl⟩
  have I5 : Inv X pins σ G { s4 with heap := s4.heap.push { cls := .type "slice", data := .fields #[vl, vu, vs] } } := I4.kept (t' := s4.toks) fun b ob q => Heap.get?_push_of_some _ q
  cases pl
  cases pu
  cases ps
  cases r1 with
  | @tup a xs ds q t =>
    cases rx
    obtain ⟨its, r, ht, hz⟩ := I5.tuple q
    have hl := r.length
    show wpAny (model X.prog X.w) X.A (subscriptTail e _ (.ref a) (.ref s4.heap.objs.size)) (EP X pins σ Q) X.xe _
    refine tail_any (ops := [.ref a, .ref s4.heap.objs.size]) ht.typeIs PyProof.Rows.slot_tuple_getitem.lookup ?_ (by with_unfolding_all rfl)
    refine getT_down ht (Heap.IsSliceOf.new _ _ _ _) ?_ (by omega)
    exact ⟨.ref _, _, I5.laid (t' := s4.toks) (o := .tup xs.reverse) (fun b ob q => Heap.get?_push_of_some _ q) (Nat.le_refl _) ⟨by rw [List.length_reverse]; exact hz, _, r.reverse, IsTup.new _ _⟩, rfl, kk _ _ _ m1 (All.new (I5.hok.fresh (Nat.le_refl _))) (rep_tup (I5.hok.fresh (Nat.le_refl _)) t.reverse)⟩
  | @lst a xs ds q n t =>
    cases rx
    obtain ⟨its, r, ht, hz⟩ := I5.list (SqL.of q)
    have hl := r.length
    show wpAny (model X.prog X.w) X.A (subscriptTail e _ (.ref a) (.ref s4.heap.objs.size)) (EP X pins σ Q) X.xe _
    refine tail_any (ops := [.ref a, .ref s4.heap.objs.size]) ht.isList.typeIs PySem.slot_list_getitem.lookup ?_ (by with_unfolding_all rfl)
    refine wpAny_getItem_list_slice ht.isList (Heap.IsSliceOf.new _ _ _ _) .none .none (.int (-1) _) (by decide) ?_ (by rw [List.size_toArray]; omega)
    rw [PySem.W.krv_pick]
    exact ⟨.ref _, _, I5.laid (t' := s4.toks) (o := .lst xs.reverse) (fun b ob q => Heap.get?_push_of_some _ q) (Nat.le_refl _) ⟨by rw [List.length_reverse]; exact hz, _, 0, r.reverse, Heap.get?_push_size _ rfl⟩, rfl, kk _ _ _ m1 (All.new (I5.hok.fresh (Nat.le_refl _))) (rep_lst hb (I5.hok.fresh (Nat.le_refl _)) t.reverse)⟩
  | _ => exact m1.elim
theorem pd_rev (S : SitB cb vb X p k) {e : Expr} {m : XE} {j : Nat} {p1 p2 p3 pos : Pos} (he : PD X p e m) : PD X p (.Subscript e (.Slice none none (some (.UnaryOp .USub (.Constant (.int 1) j p1) p2)) p3) pos) (eRev m) := by
  obtain ⟨ta, a1, a2⟩ := he.ex
  refine ⟨_, pe_turned a1, fun B H σ E c P Q s re mm kk => ?_⟩
  refine a2 B H σ E _ _ _ s re mm fun d c1 v H1 m1 e1 s1 r1 => ?_
  have st1 := s.go e1 s1
  exact ⟨_, d, _, P, p.XP, st1.trk, r1, m1, fun z v2 H2 pz al r2 => kk z _ v2 H2 pz (e1.trans al.ev) (st1.all S.ok al) r2⟩
end
end DL
end
section
namespace DL
open PySem PySem.Spec PyProof.Rows L2
theorem flat_intsV : ∀ ns : List Int, (ns.map V.int).all flatV = true
  | [] => rfl
  | _ :: r => flat_intsV r
theorem first_at {α : Type} [BEq α] [LawfulBEq α] {ns : List α} {k : α} {j : Nat} (h : ns.findIdx? (· == k) = some j) : ns[j]? = some k ∧ ∀ m, m < j → ∀ z, ns[m]? = some z → (z == k) = false := by
  obtain ⟨h1, h2, h3⟩ := List.findIdx?_eq_some_iff_getElem.mp h
  refine ⟨by rw [List.getElem?_eq_getElem h1, eq_of_beq h2], fun m hm z hz => ?_⟩
  have := h3 m hm
  obtain ⟨q1, q2⟩ := List.getElem?_eq_some_iff.mp hz
  rw [q2] at this
  simpa using this
section
variable {X : Cx} {p : Par} {k : Nat}
theorem pd_ixof {a b : Expr} {ma mb : XE} {pa pc : Pos} (ha : PD X p a ma) (hb : PD X p b mb)
    (hpe : ∀ {ta tb : TE}, PE X a ta → PE X b tb → PE X (.Call (.Attribute a "index" pa) [b] [] pc) (tBM X.K "list" (rIndex X.K) ta (tCons tb tNil))) : PD X p (.Call (.Attribute a "index" pa) [b] [] pc) (eIxOf ma mb) := by
  obtain ⟨ta, a1, a2⟩ := ha.ex
  obtain ⟨tb, b1, b2⟩ := hb.ex
  refine ⟨_, hpe a1 b1, fun B H σ E c P Q st r mm kk => ?_⟩
  refine a2 B H σ E _ _ _ st r mm fun d c1 v H1 m1 e1 s1 r1 => ?_
  have st1 := st.go e1 s1
  cases r1 with
  | @lst q xs ds hq nb t =>
    refine ⟨.inl ⟨rfl, xs, SqL.of hq⟩, ?_⟩
    refine b2 B H1 σ E _ _ _ st1 (r.go st e1) m1 fun d2 c2 v2 H2 m2 e2 s2 r2 => ?_
    have hq2 := (st1.up e2).ext.keep _ _ hq nb
    cases r2 with
    | int i =>
      have m3 : ((match ints? ds with | some ns => (match ns.findIdx? (· == i) with | some j => ret (PyData.int (j : Int)) | none => stuck) | none => stuck : W D)) c2 P p.XP := m2
      cases hi : ints? ds with
      | none => rw [hi] at m3; exact m3.elim
      | some ns =>
        rw [hi] at m3
        have ex := t.ints hi
        subst ex
        cases hf : ns.findIdx? (· == i) with
        | none => simp only [hf] at m3; exact m3.elim
        | some j =>
          simp only [hf] at m3
          obtain ⟨f1, f2⟩ := first_at hf
          refine ⟨q, ns.map V.int, .int i, j, .int i, rfl, rfl, SqL.of hq2, rfl, flat_intsV ns, by rw [List.getElem?_map, f1]; rfl, by simp [eqV], fun m z hm hz => ?_, kk _ _ _ H2 m3 (e1.trans e2) s2 (.int _)⟩
          rw [List.getElem?_map] at hz
          cases hn : ns[m]? with
          | none => rw [hn] at hz; cases hz
          | some y => rw [hn] at hz; cases hz; exact f2 m hm y hn
    | bl i =>
      have m3 : ((match bools? ds with | some ns => (match ns.findIdx? (· == i) with | some j => ret (PyData.int (j : Int)) | none => stuck) | none => stuck : W D)) c2 P p.XP := m2
      cases hi : bools? ds with
      | none => rw [hi] at m3; exact m3.elim
      | some ns =>
        rw [hi] at m3
        have ex := t.bools hi
        subst ex
        cases hf : ns.findIdx? (· == i) with
        | none => simp only [hf] at m3; exact m3.elim
        | some j =>
          simp only [hf] at m3
          obtain ⟨f1, f2⟩ := first_at hf
          refine ⟨q, ns.map V.bl, .bl i, j, .bl i, rfl, rfl, SqL.of hq2, rfl, bl_all ns, by rw [List.getElem?_map, f1]; rfl, by simp [eqV], fun m z hm hz => ?_, kk _ _ _ H2 m3 (e1.trans e2) s2 (.int _)⟩
          rw [List.getElem?_map] at hz
          cases hn : ns[m]? with
          | none => rw [hn] at hz; cases hz
          | some y => rw [hn] at hz; cases hz; exact f2 m hm y hn
    | _ => exact m2.elim
  | _ => exact m1.elim
end
end DL
end
section
namespace DL
open PySem PySem.Spec PyProof.Rows L2
end DL
end
section
namespace DL
open PySem PySem.Spec PyProof.Rows L2
end DL
end
section
namespace DL
open PySem PySem.Spec PyProof.Rows L2
end DL
end
section
namespace DL
open PySem PySem.Spec PyProof.Rows L2
theorem big_line {n : Nat} (h : n ≤ 1000000) : n ≤ sizeLine := Nat.le_trans h (by rw [sizeLine_eq]; decide)
section
variable {X : Cx} {p : Par} {k : Nat} {cb vb : Bool}
inductive PDJ (X : Cx) (p : Par) : List Expr → List XE → Prop where
  | nil : PDJ X p [] []
  | con {x : Str} {j : Nat} {pos : Pos} {es : List Expr} {ms : List XE} (r : PDJ X p es ms) : PDJ X p (.Constant (.str x) j pos :: es) (eCon (.str x) :: ms)
  | val {e : Expr} {m : XE} {pos : Pos} {es : List Expr} {ms : List XE} (h : PD X p e m) (r : PDJ X p es ms) : PDJ X p (.FormattedValue e (-1) none pos :: es) (m :: ms)
theorem pdj_run {es : List Expr} {ms : List XE} (h : PDJ X p es ms) : ∃ ts, PJ X es ts ∧ ∀ (acc : Str) (B : Addr → Prop) (H : Hp) (σ : L2.St) (E : Env) (c : Sx) (P : D → Sx → Prop) (Q : VK), St0 p c B H → EnvR X.K p c B H σ E → fpL ms acc E c P p.XP →
    (∀ d c' v H', P d c' → Ev p c H c' H' → p.SI c' H' → Rep X.K (bm p B c') H' v d → Q v H') → tJs ts acc σ H fun out H1 => Q (.str out) H1 := by
  induction h with
  | nil => exact ⟨[], .nil, fun acc B H σ E c P Q s re mm kk => kk (.str acc) c (.str acc) H mm Ev.refl s.si (.str acc)⟩
  | @con x j pos es ms r ih =>
    obtain ⟨ts, h1, h2⟩ := ih
    refine ⟨_, .cons pe_str h1, fun acc B H σ E c P Q s re mm kk => ?_⟩
    obtain ⟨g1, g2, g3⟩ := (show x.length ≤ 1000000 ∧ (acc ++ x).length ≤ 1000000 ∧ fpL ms (acc ++ x) E c P p.XP from mm)
    exact ⟨x, rfl, big_line g2, h2 (acc ++ x) B H σ E c P Q s re g3 kk⟩
  | @val e m pos es ms he r ih =>
    obtain ⟨ts, h1, h2⟩ := ih
    obtain ⟨ta, a1, a2⟩ := he.ex
    refine ⟨_, .cons (pe_fmt a1) h1, fun acc B H σ E c P Q s re mm kk => ?_⟩
    refine a2 B H σ E _ _ _ s re mm fun d c1 v H1 m1 e1 s1 r1 => ?_
    have st1 := s.go e1 s1
    have cont : ∀ y : Str, (acc ++ y).length ≤ 1000000 → fpL ms (acc ++ y) E c1 P p.XP → ∃ y' : Str, V.str y = .str y' ∧ (acc ++ y').length ≤ sizeLine ∧ tJs ts (acc ++ y') σ H1 fun out H1 => Q (.str out) H1 := fun y g1 g2 =>
      ⟨y, rfl, big_line g1, h2 (acc ++ y) B H1 σ E c1 P Q st1 (re.go s e1) g2 fun d c' v H' pd ex si rd => kk d c' v H' pd (e1.trans ex) si rd⟩
    cases r1 with
    | str y =>
      obtain ⟨g1, g2, g3⟩ := (show y.length ≤ 1000000 ∧ (acc ++ y).length ≤ 1000000 ∧ fpL ms (acc ++ y) E c1 P p.XP from m1)
      exact .inl ⟨y, rfl, big_line g1, cont y g2 g3⟩
    | int i =>
      obtain ⟨g1, g2, g3⟩ := (show i.natAbs.log2 < 1920 ∧ (acc ++ (toString i : String)).length ≤ 1000000 ∧ fpL ms (acc ++ (toString i : String)) E c1 P p.XP from m1)
      exact .inr ⟨i, rfl, g1, cont _ g2 g3⟩
    | _ => exact m1.elim
theorem pd_fs {e1 e2 : Expr} {rest : List Expr} {ms : List XE} {pos : Pos} (h : PDJ X p (e1 :: e2 :: rest) ms) : PD X p (.JoinedStr (e1 :: e2 :: rest) pos) (eFs ms) := by
  obtain ⟨ts, h1, h2⟩ := pdj_run h
  exact ⟨_, pe_joined h1, fun B H σ E c P Q s re mm kk => h2 Str.empty B H σ E c P Q s re mm kk⟩
end
end DL
end
section
namespace DL
open PySem PySem.Spec PyProof.Rows L2
end DL
end
section
namespace DL
open PySem PySem.Spec PyProof.Rows L2
section
variable {X : Cx} {p : Par} {k : Nat} {cb vb : Bool}
theorem RoomB.in1 {k : Nat} {A : Around} (r : RoomB cb (k + 1) A) : RoomB cb k A.in1 :=
  ⟨r.hd_, by have := r.dp; show A.depth + 3 * k + 5 < _; omega, by have := r.un; show A.units + 1 + 16 * k + 200 < _; omega⟩
theorem RoomB.mk_ {k : Nat} {A : Around} (r : RoomB cb (k + 1) A) (C : Addr) (us : List Value) : RoomB cb k (A.under (.builtin "type.__call__" ⟨.ref C :: us, []⟩)) :=
  ⟨r.hd_, by have := r.dp; rw [make_depth]; omega, by have := r.un; rw [make_units]; omega⟩
theorem guards_mk {A : Around} {C : Addr} {us : List Value} (h : A.guards = some []) : (A.under (.builtin "type.__call__" ⟨.ref C :: us, []⟩)).guards = some [] := by
  have e : (A.under (.builtin "type.__call__" ⟨.ref C :: us, []⟩)).guards = A.guards := by
    first | rfl | simp [Around.under, Code.guards, Code.isGuard, guardIds, pushGuards]
  rw [e, h]
/-- a callee runs, at any around of this body's -/
theorem run_Gat {A' : Around} {pins : List (Addr × Obj)} {σ : L2.St} {H : Hp} {s : Shared} {Q : VK} {us : List Value} {vs : List V} {f : Addr} {fd : FuncData} {ps : List Str} {sp : Sp} {E : XK} {j : Nat} (F : FnG cb X.prog X.w X.K X.mg X.base j f fd ps sp) (hr : RoomB cb j A') (hg : A'.guards = some []) (hb : Binds X.K fd ps [])
    (e0 : Env0 X.prog X.w X.K X.mg X.base A' X.stack s H) (hx : PassesAt (L2.CX X.prog X.w) X σ E) (I : Inv X pins σ H s) (r : Vals vs us) (h : sp vs H Q E) : wpAny (model X.prog X.w) A' (call (.ref f) us) (EP X pins σ Q) X.xe s := by
  have hl : us.length = ps.length := r.length.symm.trans (F.len vs H Q E h)
  have bound := hb s us I.kIn (by rw [List.append_nil]; exact hl)
  rw [List.append_nil] at bound
  refine wpAny_call (codeAny_mono (F.go A' X.stack s H ⟨us, []⟩ us vs Q E hr hg e0 bound r h) (fun res s' hq => ?_))
  match res, hq with
  | .error e, hq => exact hx pins H s e s' I hq
  | .ok (.ret u), hq => exact I.after hq
  | .ok .next, hq => exact hq.elim
  | .ok .brk, hq => exact hq.elim
  | .ok .cont, hq => exact hq.elim
/-- the instance at a, as the library reads it -/
theorem inst_at {pins : List (Addr × Obj)} {σ : L2.St} {H : Hp} {s : Shared} {a C dx : Addr} {fs : List (Str × V)} (I : Inv X pins σ H s) (h : H a = some (.ins C dx fs)) : ∃ ox od, PySem.W.InstAt s.heap a ox C od ∧ ox.data = .plain :=
  StX.insC_at I (.inr ⟨dx, fs, h⟩)
end
end DL
end
section
namespace DL
open PySem PySem.Spec PyProof.Rows L2
section
variable {X : Cx} {p : Par} {k : Nat} {cb vb : Bool}
theorem RoomB.in2 {k : Nat} {A : Around} (r : RoomB cb (k + 2) A) : RoomB cb k A.in1.in1 := r.in1.in1
theorem passes_no {σ : L2.St} : PassesAt (L2.CX X.prog X.w) X σ (fun _ _ _ => False) := fun pins H s e s' I hq => by
  obtain ⟨_, _, _, _, _, _, _, _, _, _, _, _, no⟩ := hq
  exact no.elim
end
end DL
end
section
namespace DL
open PySem PySem.Spec PyProof.Rows L2
/-- objects without fields stand in no data -/
def Bare (o : HO) : Prop := ∃ C dx, o = .ins C dx []
def Skips (H H' : Hp) : Prop := ∀ a o, H a = some o → ¬ Bare o → H' a = some o
theorem Skips.sqT {K : PySem.W.Frag} {H H' : Hp} (h : Skips H H') {a : Addr} {xs : List V} (q : SqT K H a xs) : SqT K H' a xs := by
  rcases q with (q | ⟨o, q⟩) | q
  · exact .inl (.inl (h a _ q fun ⟨_, _, z⟩ => nomatch z))
  · exact .inl (.inr ⟨o, h a _ q fun ⟨_, _, z⟩ => nomatch z⟩)
  · exact .inr q
section
variable {P : Program} {w : World} {K : PySem.W.Frag} {mg : Str → Option Value} {base : Heap} {cb : Bool}
theorem all_two {H : Hp} {x dx : Addr} {u v : HO} (h1 : H x = none) (h2 : H dx = none) (n : dx ≠ x) : All H (upd (upd H dx u) x v) := fun a o e => by
  rw [upd_ne (ne_of_none e h1), upd_ne (ne_of_none e h2)]
  exact e
end
section
variable {X : Cx} {p : Par} {k : Nat} {cb vb : Bool}
/-- C(u), C's __init__ at g -/
theorem run_mkW (S : SitB cb vb X p k) {j : Nat} {g C : Addr} {fd : FuncData} {ps : List Str} {sp : Sp} {E : XK} {A' : Around} {pins : List (Addr × Obj)} {σ : L2.St} {H : Hp} {s : Shared} {Q : VK} {us : List Value} {vs : List V} (M : Mk X.K C g) (F : FnG cb X.prog X.w X.K X.mg X.base j g fd ps sp) (hr : RoomB cb (j + 1) X.A) (hb : Binds X.K fd ps []) (hx : PassesAt (L2.CX X.prog X.w) X σ E) (I : Inv X pins σ H s) (r : Vals vs us)
    (h : ∀ x dx, H x = none → H dx = none → dx ≠ x → sp (.ref x :: vs) (upd (upd H dx (.own x)) x (.ins C dx [])) (fun v H2 => v = .non ∧ Q (.ref x) H2) E) : wpAny (model X.prog X.w) X.A (call (.ref C) us) (EP X pins σ Q) X.xe s := by
  have hq := h (s.heap.objs.size + 1) s.heap.objs.size (I.hok.fresh (Nat.le_succ _)) (I.hok.fresh (Nat.le_refl _)) (Nat.ne_of_lt (Nat.lt_succ_self _))
  have I2 := Inv.made (C := C) I
  have r2 : Vals (V.ref (s.heap.objs.size + 1) :: vs) (Value.ref (s.heap.objs.size + 1) :: us) := .cons rfl r
  have hl : (Value.ref (s.heap.objs.size + 1) :: us).length = ps.length := r2.length.symm.trans (F.len _ _ _ _ hq)
  refine wpAny_call (make_map (f := g) I.kIn M.makes M.init (beq_iff_eq.mp M.fn) ?_)
  have bound := hb _ (Value.ref (s.heap.objs.size + 1) :: us) I2.kIn (by rw [List.append_nil]; exact hl)
  rw [List.append_nil] at bound
  refine codeAny_mono (F.go _ X.stack _ _ ⟨Value.ref (s.heap.objs.size + 1) :: us, []⟩ (Value.ref (s.heap.objs.size + 1) :: us) _ _ E (hr.mk_ C us) (guards_mk S.gd) (I2.env0.make C us []) bound r2 hq) fun r s' hq' => ?_
  match r, hq' with
  | .error e, hq' => exact hx pins _ _ e s' I2 hq'
  | .ok (.ret u), hq' =>
    obtain ⟨v, H', I3, rv, ev, q3⟩ := I2.after hq'
    subst ev
    exact ⟨rv, ⟨V.ref (s.heap.objs.size + 1), H', I3, rfl, q3⟩⟩
  | .ok .next, hq' => exact hq'.elim
  | .ok .brk, hq' => exact hq'.elim
  | .ok .cont, hq' => exact hq'.elim
end
end DL
end
section
namespace DL
open PySem
/-- the place that a reference names -/
def rOf : D → Option Nat
  | .dict [(.none, .bool true), (.none, .int i)] => some i.toNat
  | _ => none
theorem rOf_rD (a : Nat) : rOf (rD a) = some a := by simp [rOf, rD]
def Sx.set (c : Sx) (a : Nat) (x : Cell) : Sx := ⟨c.n, fun b => if b = a then some x else c.mu b⟩
def insAt (d : D) (c : Sx) : Option (Nat × Str × List (Str × D)) := (rOf d).bind fun a => match c.mu a with
  | some (.ins n fs) => some (a, n, fs)
  | _ => none
def lstAt (d : D) (c : Sx) : Option (Nat × List D) := (rOf d).bind fun a => match c.mu a with
  | some (.lst ds) => some (a, ds)
  | _ => none
def getI (d : D) : W (Nat × Str × List (Str × D)) := fun c P _ => ∃ q, insAt d c = some q ∧ P q c
def getL (d : D) : W (Nat × List D) := fun c P _ => ∃ q, lstAt d c = some q ∧ P q c
def putC (a : Nat) (x : Cell) : W Unit := fun c P _ => P () (c.set a x)
def newC (x : Cell) : W D := fun c P _ => ∀ a, c.mu a = none → P (rD a) (c.set a x)
def putC1 (f : Str) (v : D) : List (Str × D) → List (Str × D)
  | [] => [(f, v)]
  | (g, x) :: r => if g = f then (g, v) :: r else (g, x) :: putC1 f v r
/-- e.f -/
def eGet (a : XE) (f : Str) : XE := fun E => bnd (a E) fun d => bnd (getI d) fun q => match q.2.2.lookup f with
  | some x => ret x
  | none => stuck
/-- e.f = v -/
def sSetF (a : XE) (f : Str) (v : XE) : XS := fun E => bnd (v E) fun y => bnd (a E) fun d => bnd (getI d) fun q => grd (flat y = true) (bnd (putC q.1 (.ins q.2.1 (putC1 f y q.2.2))) fun _ => ret (.nx E))
/-- a method, a property: by the class -/
abbrev Tb := List (Str × Fn)
def byT (tb : Tb) (n : Str) : Fn := match tb.lookup n with
  | some f => f
  | none => fun _ => stuck
/-- e.m(..) -/
def eMetT (tb : Tb) (a : XE) (ma : XA) : XE := fun E => bnd (a E) fun d => bnd (getI d) fun q => match tb.lookup q.2.1 with
  | some f => bnd (ma E) fun ds => f (d :: ds)
  | none => stuck
/-- e.m, a property; len(e), str(e) -/
def eProp (tb : Tb) (a : XE) : XE := fun E => bnd (a E) fun d => bnd (getI d) fun q => noX (byT tb q.2.1 [d])
/-- len(o): an int -/
def eLenO (tb : Tb) (a : XE) : XE := fun E => bnd (eProp tb a E) fun d => match d with
  | .int n => grd (0 ≤ n ∧ n < 9223372036854775808) (ret (.int n))
  | _ => stuck
def eStrO (tb : Tb) (a : XE) : XE := fun E => bnd (eProp tb a E) fun d => match d with
  | .str z => ret (.str z)
  | _ => stuck
/-- C(..) -/
def eMk (n : Str) (f : Fn) (ma : XA) : XE := fun E => bnd (ma E) fun ds => bnd (newC (.ins n [])) fun r => bnd (f (r :: ds)) fun u => grd (u = .none) (ret r)
def eNewC (ma : XA) : XE := fun E => bnd (ma E) fun ds => grd (flatAll ds = true ∧ small ds.length) (newC (.lst ds))
/-- what a list with a cell holds, for the moment -/
def vw (d : D) : W D := bnd (getL d) fun q => ret (.list q.2)
/-- only what holds no lists -/
def flt (m : W D) : W D := bnd m fun z => grd (flat z = true) (ret z)
def eV1 (f : D → W D) (a : XE) : XE := fun E => bnd (a E) fun d => bnd (vw d) fun x => flt (f x)
def eV2 (f : D → D → W D) (a b : XE) : XE := fun E => bnd (a E) fun d => bnd (b E) fun e => bnd (vw d) fun x => flt (f x e)
def eCutC (a : XE) (lo hi : XO) : XE := fun E => bnd (a E) fun d => bnd (lo E) fun l => bnd (hi E) fun h => bnd (getL d) fun q => ret (.list (cut q.2 l h))
/-- e.append(v) -/
def sAppC (a v : XE) : XS := fun E => bnd (a E) fun d => bnd (getL d) fun _ => bnd (v E) fun y => bnd (getL d) fun q => grd (flat y = true ∧ small q.2.length) (bnd (putC q.1 (.lst (q.2 ++ [y]))) fun _ => ret (.nx E))
/-- e.pop() -/
def sPopC (a : XE) : XS := fun E => bnd (a E) fun d => bnd (getL d) fun q => grd (q.2 ≠ []) (bnd (putC q.1 (.lst q.2.dropLast)) fun _ => ret (.nx E))
/-- a, *b = a tuple -/
def sStarT (i j : Nat) (e : XE) : XS := fun E => bnd (e E) fun d => match d with
  | .tuple (x :: xs) => grd (xs.length ≤ 1000) (ret (.nx ((E.set i (.val x)).set j (.val (.list xs)))))
  | _ => stuck
end DL
end
section
namespace DL
open PySem PySem.Spec PyProof.Rows L2
section
variable {K : PySem.W.Frag} {B : Addr → Prop} {H : Hp} {c : Sx}
theorem rep_rOf {v : V} {d : D} {a : Nat} (r : Rep K B H v d) (h : rOf d = some a) : v = .ref a := by
  cases r with
  | rf b => rw [rOf_rD] at h; cases h; rfl
  | _ => simp [rOf, xD, wD] at h
theorem insAt_inv {d : D} {q : Nat × Str × List (Str × D)} (h : insAt d c = some q) : rOf d = some q.1 ∧ c.mu q.1 = some (.ins q.2.1 q.2.2) := by
  unfold insAt at h
  cases e : rOf d with
  | none => rw [e] at h; cases h
  | some a =>
    rw [e] at h
    have h2 : (match c.mu a with | some (.ins n fs) => some (a, n, fs) | _ => none) = some q := h
    cases e2 : c.mu a with
    | none => rw [e2] at h2; cases h2
    | some x =>
      rw [e2] at h2
      cases x with
      | lst _ => cases h2
      | ins n fs => cases h2; exact ⟨rfl, e2⟩
theorem lstAt_inv {d : D} {q : Nat × List D} (h : lstAt d c = some q) : rOf d = some q.1 ∧ c.mu q.1 = some (.lst q.2) := by
  unfold lstAt at h
  cases e : rOf d with
  | none => rw [e] at h; cases h
  | some a =>
    rw [e] at h
    have h2 : (match c.mu a with | some (.lst ds) => some (a, ds) | _ => none) = some q := h
    cases e2 : c.mu a with
    | none => rw [e2] at h2; cases h2
    | some x =>
      rw [e2] at h2
      cases x with
      | lst _ => cases h2; exact ⟨rfl, e2⟩
      | ins n fs => cases h2
theorem getI_inv {d : D} {P : Nat × Str × List (Str × D) → Sx → Prop} {XP : Exn → Sx → Prop} (h : getI d c P XP) : ∃ a n fs, rOf d = some a ∧ c.mu a = some (.ins n fs) ∧ P (a, n, fs) c := by
  obtain ⟨q, h1, h2⟩ := h
  obtain ⟨h3, h4⟩ := insAt_inv h1
  exact ⟨q.1, q.2.1, q.2.2, h3, h4, h2⟩
theorem getL_inv {d : D} {P : Nat × List D → Sx → Prop} {XP : Exn → Sx → Prop} (h : getL d c P XP) : ∃ a ds, rOf d = some a ∧ c.mu a = some (.lst ds) ∧ P (a, ds) c := by
  obtain ⟨q, h1, h2⟩ := h
  obtain ⟨h3, h4⟩ := lstAt_inv h1
  exact ⟨q.1, q.2, h3, h4, h2⟩
/-- a field by its name -/
theorem lookup_reps {f : Str} {x : D} : ∀ {xs : List (Str × V)} {fs : List (Str × D)}, xs.map (·.1) = fs.map (·.1) → Reps K B H (xs.map (·.2)) (fs.map (·.2)) → fs.lookup f = some x → ∃ v, xs.lookup f = some v ∧ Rep K B H v x
  | [], [], _, _, h => by cases h
  | [], _ :: _, e, _, _ => by cases e
  | _ :: _, [], e, _, _ => by cases e
  | (g, v) :: xs, (g', d) :: fs, e, r, h => by
    simp only [List.map_cons, List.cons.injEq] at e
    obtain ⟨rfl, e⟩ := e
    cases r with
    | cons r t =>
      rw [List.lookup_cons] at h ⊢
      by_cases hg : (f == g) = true
      · rw [hg] at h ⊢
        cases h
        exact ⟨v, rfl, r⟩
      · rw [Bool.not_eq_true] at hg
        rw [hg] at h ⊢
        exact lookup_reps e t h
theorem flat_lookup {f : Str} {x : D} : ∀ {fs : List (Str × D)}, flatAll (fs.map (·.2)) = true → fs.lookup f = some x → flat x = true
  | [], _, h => by cases h
  | (g, d) :: fs, e, h => by
    simp only [List.map_cons, flatAll, Bool.and_eq_true] at e
    rw [List.lookup_cons] at h
    by_cases hg : (f == g) = true
    · rw [hg] at h
      cases h
      exact e.1
    · rw [Bool.not_eq_true] at hg
      rw [hg] at h
      exact flat_lookup e.2 h
theorem put_names {f : Str} {y : V} {d : D} : ∀ {xs : List (Str × V)} {fs : List (Str × D)}, xs.map (·.1) = fs.map (·.1) → (putF f y xs).map (·.1) = (putC1 f d fs).map (·.1)
  | [], [], _ => rfl
  | [], _ :: _, e => by cases e
  | _ :: _, [], e => by cases e
  | (g, v) :: xs, (g', z) :: fs, e => by
    simp only [List.map_cons, List.cons.injEq] at e
    obtain ⟨rfl, e⟩ := e
    unfold putF putC1
    by_cases h : g = f
    · rw [if_pos h, if_pos h, List.map_cons, List.map_cons, e]
    · rw [if_neg h, if_neg h, List.map_cons, List.map_cons, put_names e]
theorem put_reps {f : Str} {y : V} {d : D} (ry : Rep K B H y d) : ∀ {xs : List (Str × V)} {fs : List (Str × D)}, xs.map (·.1) = fs.map (·.1) → Reps K B H (xs.map (·.2)) (fs.map (·.2)) → Reps K B H ((putF f y xs).map (·.2)) ((putC1 f d fs).map (·.2))
  | [], [], _, _ => .cons ry .nil
  | [], _ :: _, e, _ => by cases e
  | _ :: _, [], e, _ => by cases e
  | (g, v) :: xs, (g', z) :: fs, e, r => by
    simp only [List.map_cons, List.cons.injEq] at e
    obtain ⟨rfl, e⟩ := e
    cases r with
    | cons r t =>
      unfold putF putC1
      by_cases h : g = f
      · rw [if_pos h, if_pos h]
        exact .cons ry t
      · rw [if_neg h, if_neg h]
        exact .cons r (put_reps ry e t)
theorem put_flat {f : Str} {d : D} (hd : flat d = true) : ∀ {fs : List (Str × D)}, flatAll (fs.map (·.2)) = true → flatAll ((putC1 f d fs).map (·.2)) = true
  | [], _ => by simp [putC1, flatAll, hd]
  | (g, z) :: fs, h => by
    simp only [List.map_cons, flatAll, Bool.and_eq_true] at h
    unfold putC1
    by_cases e : g = f
    · rw [if_pos e]
      simp [flatAll, hd, h.2]
    · rw [if_neg e]
      simp [flatAll, h.1, put_flat hd h.2]
theorem put_mem {f g : Str} {d : D} : ∀ {fs : List (Str × D)}, g ∈ (putC1 f d fs).map (·.1) → g = f ∨ g ∈ fs.map (·.1)
  | [], h => by
    simp [putC1] at h
    exact .inl h
  | (g', z) :: fs, h => by
    unfold putC1 at h
    by_cases e : g' = f
    · rw [if_pos e] at h
      exact .inr h
    · rw [if_neg e, List.map_cons] at h
      rcases List.mem_cons.mp h with rfl | h
      · exact .inr (.head _)
      · rcases put_mem h with h | h
        · exact .inl h
        · exact .inr (.tail _ h)
theorem put_nodup {f : Str} {d : D} : ∀ {fs : List (Str × D)}, (fs.map (·.1)).Nodup → ((putC1 f d fs).map (·.1)).Nodup
  | [], _ => by simp [putC1]
  | (g, z) :: fs, h => by
    rw [List.map_cons, List.nodup_cons] at h
    unfold putC1
    by_cases e : g = f
    · rw [if_pos e, List.map_cons, List.nodup_cons]
      exact h
    · rw [if_neg e, List.map_cons, List.nodup_cons]
      refine ⟨fun z => ?_, put_nodup h.2⟩
      rcases put_mem z with z | z
      · exact e z
      · exact h.1 z
theorem nodup_len : ∀ {l m : List Str}, l.Nodup → (∀ f ∈ l, f ∈ m) → l.length ≤ m.length
  | [], m, _, _ => Nat.zero_le _
  | a :: l, m, n, h => by
    rw [List.nodup_cons] at n
    have ha : a ∈ m := h a (.head _)
    have ih := nodup_len (m := m.erase a) n.2 fun f hf => (List.mem_erase_of_ne fun (e : f = a) => n.1 (by rw [← e]; exact hf)).mpr (h f (.tail _ hf))
    rw [List.length_erase_of_mem ha] at ih
    have := List.length_pos_of_mem ha
    rw [List.length_cons]
    omega
theorem names_len {l : List Str} (h : ∀ f ∈ l, f ∈ fldN) (n : l.Nodup) : l.length ≤ 8 := nodup_len n h
theorem no_name {m : Str} {xs : List (Str × V)} {fs : List (Str × D)} (e : xs.map (·.1) = fs.map (·.1)) (h : ∀ f ∈ fs.map (·.1), f ∈ fldN) (hm : m ∉ fldN) : xs.lookup m = none := by
  rw [← e] at h
  induction xs generalizing fs with
  | nil => rfl
  | cons q xs ih =>
    obtain ⟨g, v⟩ := q
    rw [List.lookup_cons]
    have hg : (m == g) = false := by
      rw [beq_eq_false_iff_ne]
      rintro rfl
      exact hm (h m (.head _))
    rw [hg]
    cases fs with
    | nil => cases e
    | cons _ fs =>
      simp only [List.map_cons, List.cons.injEq] at e
      exact ih e.2 fun f hf => h f (.tail _ hf)
end
section
variable {X : Cx} {p : Par} {K : PySem.W.Frag} {B : Addr → Prop} {H H' : Hp} {c : Sx}
/-- what stands at a reference -/
theorem cell_at (Z : IsStr K p) (si : p.SI c H) {a : Nat} {x : Cell} (h : c.mu a = some x) : CellAt K H a x := by
  obtain ⟨S, L, C, z1, z2, _⟩ := Z
  rw [z2] at si
  exact (si.at_ a x h).2
theorem Imm.not_cell {a : Addr} {x : Cell} (h : CellAt K H a x) : ∀ o, H a = some o → ¬ Imm o := fun o e => by
  cases h with
  | lst q _ _ => rw [q] at e; cases e; exact fun z => z
  | ins _ _ _ q _ _ _ => rw [q] at e; cases e; exact fun z => z
/-- a cell is changed -/
theorem put_st (Z : IsStr K p) {a : Addr} {x x' : Cell} {o' : HO} (si : p.SI c H) (hm : c.mu a = some x) (n : CellAt K (upd H a o') a x') : Ev p c H (c.set a x') (upd H a o') ∧ p.SI (c.set a x') (upd H a o') := by
  obtain ⟨S, L, C, z1, z2, _⟩ := Z
  rw [z2] at si ⊢
  have ca := si.at_ a x hm
  have hB : cB S L C c a := .inr (by rw [hm]; exact fun z => nomatch z)
  have up : ∀ b, cB S L C c b → cB S L C (c.set a x') b := fun b z => z.imp id fun z => by
    show (if b = a then some x' else c.mu b) ≠ none
    split
    · exact fun z => nomatch z
    · exact z
  have old : ∀ b, cB S L C (c.set a x') b → cB S L C c b := fun b z => by
    rcases z with z | z
    · exact .inl z
    · have z' : (if b = a then some x' else c.mu b) ≠ none := z
      by_cases e : b = a
      · rw [e]; exact hB
      · rw [if_neg e] at z'
        exact .inr z'
  have ke : ∀ b o, b ≠ a → H b = some o → upd H a o' b = some o := fun b o n e => by rw [upd_ne n]; exact e
  have im : Kept H (upd H a o') := fun b o e i => by
    by_cases h : b = a
    · subst h
      exact (Imm.not_cell ca.2 o e i).elim
    · exact ke b o h e
  have dm : ∀ b, H b ≠ none → upd H a o' b ≠ none := fun b n => by
    by_cases h : b = a
    · rw [h, upd_same]; exact fun z => nomatch z
    · rw [upd_ne h]; exact n
  refine ⟨⟨⟨fun b o e nb => ke b o (fun h => nb (by rw [h, z1]; exact hB)) e, im, dm⟩, ?_, ?_, ?_⟩, ?_, fun b y e => ?_⟩
  · rw [z1]; exact up
  · rw [z1]; exact fun b z _ => old b z
  · rw [z1]; exact fun g b z => dm b (g b (old b z))
  · exact si.str.same fun b o hb e => ke b o (fun h => ca.1 (h ▸ hb)) e
  · have e' : (if b = a then some x' else c.mu b) = some y := e
    by_cases h : b = a
    · rw [if_pos h] at e'
      cases e'
      subst h
      exact ⟨ca.1, n⟩
    · rw [if_neg h] at e'
      exact ⟨(si.at_ b y e').1, (si.at_ b y e').2.go im fun o q => ke b o h q⟩
/-- a cell is new -/
theorem new_st (Z : IsStr K p) {a : Addr} {x : Cell} (si : p.SI c H) (al : All H H') (hn : H a = none) (n : CellAt K H' a x) : c.mu a = none ∧ Ev p c H (c.set a x) H' ∧ p.SI (c.set a x) H' := by
  obtain ⟨S, L, C, z1, z2, _⟩ := Z
  rw [z2] at si ⊢
  have nB : ¬ cB S L C c a := fun z => si.there z hn
  have ns : ¬ strB S L C a := fun z => nB (.inl z)
  have hmu : c.mu a = none := by
    cases e : c.mu a with
    | none => rfl
    | some y => exact (nB (.inr (by rw [e]; exact fun z => nomatch z))).elim
  have old : ∀ b, b ≠ a → cB S L C (c.set a x) b → cB S L C c b := fun b h z => by
    rcases z with z | z
    · exact .inl z
    · have z' : (if b = a then some x else c.mu b) ≠ none := z
      rw [if_neg h] at z'
      exact .inr z'
  refine ⟨hmu, ⟨al.ext, ?_, ?_, ?_⟩, si.str.same fun b o _ e => al b o e, fun b y e => ?_⟩
  · rw [z1]
    exact fun b z => z.imp id fun z => by
      show (if b = a then some x else c.mu b) ≠ none
      split
      · exact fun z => nomatch z
      · exact z
  · rw [z1]
    intro b z h
    by_cases e : b = a
    · exact (h (e ▸ hn)).elim
    · exact old b e z
  · rw [z1]
    intro g b z
    by_cases e : b = a
    · rw [e]; exact n.there
    · exact (al.ext (B := fun _ => False)).dom b (g b (old b e z))
  · have e' : (if b = a then some x else c.mu b) = some y := e
    by_cases h : b = a
    · rw [if_pos h] at e'
      cases e'
      subst h
      exact ⟨ns, n⟩
    · rw [if_neg h] at e'
      exact ⟨(si.at_ b y e').1, (si.at_ b y e').2.go (fun b o e _ => al b o e) fun o q => al b o q⟩
end
end DL
end
section
namespace DL
open PySem PySem.Spec PyProof.Rows L2
section
variable {X : Cx} {p : Par} {k : Nat} {cb vb : Bool}
theorem IsStr.quiet {K : PySem.W.Frag} (Z : IsStr K p) : IsStr K p.quiet := Z
/-- an object with a cell, read off a reference -/
theorem ins_at {c : Sx} {B : Addr → Prop} {H : Hp} {v : V} {d : D} {a : Nat} {n : Str} {fs : List (Str × D)} (Z : IsStr X.K p) (si : p.SI c H) (r : Rep X.K B H v d) (h : rOf d = some a) (hm : c.mu a = some (.ins n fs)) :
    v = .ref a ∧ ClsP X.K n ∧ (∀ f ∈ fs.map (·.1), f ∈ fldN) ∧ (fs.map (·.1)).Nodup ∧ flatAll (fs.map (·.2)) = true ∧ ∃ dx xs, H a = some (.ins (He.ga X.K n) dx xs) ∧ xs.map (·.1) = fs.map (·.1) ∧ Reps X.K (fun _ => False) H (xs.map (·.2)) (fs.map (·.2)) := by
  have e := rep_rOf r h
  cases cell_at Z si hm with
  | ins h1 h2 h3 q e2 f rs => exact ⟨e, h1, h2, h3, f, _, _, q, e2, rs⟩
theorem pd_get (S : SitB cb vb X p k) (Z : IsStr X.K p) {f : Str} {e : Expr} {m : XE} {pos : Pos} (he : PD X p e m) (hf : f ∈ fldN := by decide) (hb : attributeBase e f X.env (eval e X.env) = eval e X.env := by rfl) : PD X p (.Attribute e f pos) (eGet m f) := by
  obtain ⟨te, a1, a2⟩ := he.ex
  refine ⟨_, pe_fld a1 hb, fun B H σ E c P Q s re mm kk => ?_⟩
  refine a2 B H σ E _ _ _ s re mm fun d c1 v H1 m1 e1 s1 r1 => ?_
  obtain ⟨a, n, fs, h1, h2, m2⟩ := getI_inv m1
  obtain ⟨rfl, C, _, _, fl, dx, xs, ea, en, rs⟩ := ins_at Z s1 r1 h1 h2
  have m3 : (match fs.lookup f with | some x => ret x | none => stuck : W D) c1 P p.XP := m2
  cases hl : fs.lookup f with
  | none => rw [hl] at m3; exact m3.elim
  | some x =>
    rw [hl] at m3
    obtain ⟨y, hy, ry⟩ := lookup_reps en rs hl
    exact ⟨a, _, dx, xs, y, rfl, ea, C.cls, C.nat f hf, hy, kk x c1 y H1 m3 e1 s1 (ry.flat (flat_lookup fl hl))⟩
theorem sd_setF (S : SitB cb true X p k) (Z : IsStr X.K p) {f : Str} {o e : Expr} {mo me : XE} {pos pos' : Pos} (ho : PD X p o mo) (he : PD X p e me) (hf : f ∈ fldN := by decide) (hs : swapsWith e (some (.Attribute o f pos')) pos.line X.env = pure false := by rfl) :
    PSD X p (.Assign [.Attribute o f pos'] e pos) (sSetF mo f me) := by
  obtain ⟨to, a1, a2⟩ := ho.ex
  obtain ⟨te, b1, b2⟩ := he.ex
  refine ⟨_, ps_fld a1 b1 hs, fun B H σ E c P Dn st r m nx rt bk ct => ?_⟩
  refine b2 B H σ E _ _ _ st r m fun y c1 vy H1 m1 e1 s1 r1 => ?_
  have st1 := st.go e1 s1
  refine a2 B H1 σ E _ _ _ st1 (r.go st e1) m1 fun d c2 v H2 m2 e2 s2 r2 => ?_
  have st2 := st1.go e2 s2
  obtain ⟨a, n, fs, h1, h2, m3⟩ := getI_inv m2
  obtain ⟨fy, m4⟩ := m3
  obtain ⟨rfl, C, hn, hd, fl, dx, xs, ea, en, rs⟩ := ins_at Z s2 r2 h1 h2
  have ry : Rep X.K (fun _ => False) H2 vy y := (r1.tr (st1.up e2)).flat fy
  have hlen : xs.length < 1000 := by
    have q := names_len hn hd
    rw [← en, List.length_map] at q
    omega
  have kp : Kept H2 (upd H2 a (.ins (He.ga X.K n) dx (putF f vy xs))) := fun b o e i => by
    by_cases h : b = a
    · subst h; rw [ea] at e; cases e; exact i.elim
    · rw [upd_ne h]; exact e
  have nf : ∀ g ∈ (putC1 f y fs).map (·.1), g ∈ fldN := fun g hg => by
    rcases put_mem hg with rfl | hg
    · exact hf
    · exact hn g hg
  have cell' : CellAt X.K (upd H2 a (.ins (He.ga X.K n) dx (putF f vy xs))) a (.ins n (putC1 f y fs)) :=
    .ins C nf (put_nodup hd) upd_same (put_names en) (put_flat fy fl) (Reps.kept kp (put_flat fy fl) (put_reps ry en rs))
  obtain ⟨ev, si⟩ := put_st Z s2 h2 cell'
  exact ⟨a, _, dx, xs, rfl, ea, C.cls, C.nat f hf, hlen, nx E _ B σ _ m4 (st2.go ev si) ((st.up (e1.trans e2)).trans ev.tr) (((r.go st e1).go st1 e2).go st2 ev)⟩
/-- the method m of the class n does f -/
structure MetN (cb : Bool) (X : Cx) (k : Nat) (n m : Str) (f : Fn) : Prop where
  ex : ∃ (j : Nat) (g : Addr) (fd : FuncData) (ps : List Str), j ≤ k ∧ FnG cb X.prog X.w X.K X.mg X.base j g fd ps (spC X.K X.mg f) ∧ Meth X.K (He.ga X.K n) m g ∧ Binds X.K fd ps []
inductive MetT (cb : Bool) (X : Cx) (k : Nat) (m : Str) : Tb → Prop
  | nil : MetT cb X k m []
  | cons {n : Str} {f : Fn} {tb : Tb} (h : MetN cb X k n m f) (t : MetT cb X k m tb) : MetT cb X k m ((n, f) :: tb)
theorem MetT.at_ {m : Str} {n : Str} {f : Fn} : ∀ {tb : Tb}, MetT cb X k m tb → tb.lookup n = some f → MetN cb X k n m f
  | _, .nil, h => by cases h
  | _, .cons (n := n') (f := f') h t, e => by
    rw [List.lookup_cons] at e
    by_cases hn : (n == n') = true
    · rw [hn] at e
      cases e
      rw [beq_iff_eq] at hn
      subst hn
      exact h
    · rw [Bool.not_eq_true] at hn
      rw [hn] at e
      exact t.at_ e
theorem byT_inv {tb : Tb} {n : Str} {ds : List D} {c : Sx} {P : D → Sx → Prop} {XP : Exn → Sx → Prop} (h : byT tb n ds c P XP) : ∃ f, tb.lookup n = some f ∧ f ds c P XP := by
  unfold byT at h
  cases e : tb.lookup n with
  | none => rw [e] at h; exact h.elim
  | some f => rw [e] at h; exact ⟨f, rfl, h⟩
def tMetC (X : Cx) (p : Par) (tb : Tb) (m : Str) (to : TE) (t : TA) : TE := fun σ H Q => to σ H fun x H1 => ∃ (a : Addr) (n : Str) (dx : Addr) (fs : List (Str × V)) (f : Fn), x = .ref a ∧ H1 a = some (.ins (He.ga X.K n) dx fs) ∧ Cls X.K (He.ga X.K n) ∧ fs.lookup m = none ∧ tb.lookup n = some f ∧
  t σ H1 fun vs H2 => spC X.K X.mg f (.ref a :: vs) H2 Q (p.EK σ)
theorem ev_metC (S : SitB cb vb X p k) (Z : IsStr X.K p) {tb : Tb} {m : Str} {to : TE} {t : TA} {mo : XE} {ma : XA} (hm : m ∉ fldN) (ho : EvR X.K p to mo) (ha : EvA X.K p t ma) : EvR X.K p (tMetC X p tb m to t) (eMetT tb mo ma) := by
  intro B H σ E c P Q s re mm kk
  refine ho B H σ E _ _ _ s re mm fun d c1 v H1 m1 e1 s1 r1 => ?_
  have st1 := s.go e1 s1
  obtain ⟨a, n, fs, h1, h2, m2⟩ := getI_inv m1
  obtain ⟨rfl, C, hn, hd, fl, dx, xs, ea, en, rs⟩ := ins_at Z s1 r1 h1 h2
  have m3 : (match tb.lookup n with | some f => bnd (ma E) fun ds => f (d :: ds) | none => stuck : W D) c1 P p.XP := m2
  cases hl : tb.lookup n with
  | none => rw [hl] at m3; exact m3.elim
  | some f =>
    rw [hl] at m3
    refine ⟨a, n, dx, xs, f, rfl, ea, C.cls, no_name en hn hm, hl, ?_⟩
    refine ha B H1 σ E _ _ _ st1 (re.go s e1) m3 fun ds c2 vs H2 m4 e2 s2 r2 => ?_
    exact go_of (b := false) S Z (vs := .ref a :: vs) (st1.go e2 s2) ((re.go s e1).go st1 e2).fx (e1.trans e2) (.cons (r1.tr (st1.up e2)) r2) m4 kk
theorem pd_metC (S : SitB cb vb X p k) (Z : IsStr X.K p) {tb : Tb} {m : Str} {o e : Expr} {es : List Expr} {mo : XE} {ma : XA} {apos pos : Pos} {pl : Sem Bool} (T : MetT cb X k m tb) (ho : PD X p o mo) (ha : PDA X p (e :: es) ma) (hm : m ∉ fldN := by decide)
    (hst : starEach (e :: es) X.env = (false, eval e X.env) :: starEach es X.env := by rfl) (hpl : (backTo pos (starEach es X.env)).any (·.1) = false := by rfl)
    (ht : eval (.Call (.Attribute o m apos) (e :: es) [] pos) X.env = (do
      let ov ← eval o X.env
      standAt apos.atName
      let (f, first) ← holding [ov] (getMethod ov m pl)
      callWith pos f first (backTo pos (starEach (e :: es) X.env)) (backToKw pos (keywordEach [] X.env))) := by rfl) :
    PD X p (.Call (.Attribute o m apos) (e :: es) [] pos) (eMetT tb mo ma) := by
  obtain ⟨to, a1, a2⟩ := ho.ex
  obtain ⟨ta, b1, b2⟩ := ha.ex
  refine ⟨_, ⟨fun pins s σ H Q I h => ?_⟩, ev_metC S Z hm a2 b2⟩
  refine PySem.W.methodCall_KW (pl := pl) (thn (a1.run pins s σ H _ I h) fun u s1 ⟨x, H1, I1, rx, a, n, dx, fs, f, ex, ea, C, l, hl, q1⟩ => ?_) ht
  subst ex
  obtain rfl : u = Value.ref a := rx
  obtain ⟨j, g, fd, ps, hj, F, M, hb⟩ := (T.at_ hl).ex
  refine getmeth_ok I1 ea C M l ?_
  refine PySem.W.callWith_K (first := [.ref a]) (h₀ := X.base) I1.ok.mod.kin M.kp (thn (b1.run pos pins s1 σ H1 _ I1 q1) fun us s2 ⟨vs, H2, I2, r, q2⟩ => ⟨I2.kIn, ?_⟩) hst hpl
  exact run_Gat F (S.rm.mono hj) S.gd hb I2.env0 (S.ps σ) I2 (.cons (show RelV (.ref a) (Value.ref a) from rfl) r) q2
theorem pd_metC0 (S : SitB cb vb X p k) (Z : IsStr X.K p) {tb : Tb} {m : Str} {o : Expr} {mo : XE} {apos pos : Pos} {pl : Sem Bool} (T : MetT cb X k m tb) (ho : PD X p o mo) (hm : m ∉ fldN := by decide)
    (ht : eval (.Call (.Attribute o m apos) [] [] pos) X.env = (do
      let ov ← eval o X.env
      standAt apos.atName
      let (f, first) ← holding [ov] (getMethod ov m pl)
      callWith pos f first (backTo pos (starEach [] X.env)) (backToKw pos (keywordEach [] X.env))) := by rfl) :
    PD X p (.Call (.Attribute o m apos) [] [] pos) (eMetT tb mo aNil) := by
  obtain ⟨to, a1, a2⟩ := ho.ex
  refine ⟨tMetC X p tb m to tNil, ⟨fun pins s σ H Q I h => ?_⟩, ev_metC S Z hm a2 fun B H σ E c P Q s re mm kk => kk [] c [] H mm Ev.refl s.si .nil⟩
  refine PySem.W.methodCall_KW (pl := pl) (thn (a1.run pins s σ H _ I h) fun u s1 ⟨x, H1, I1, rx, a, n, dx, fs, f, ex, ea, C, l, hl, q1⟩ => ?_) ht
  subst ex
  obtain rfl : u = Value.ref a := rx
  obtain ⟨j, g, fd, ps, hj, F, M, hb⟩ := (T.at_ hl).ex
  refine getmeth_ok I1 ea C M l ?_
  exact PySem.W.callWith_K0 (first := [.ref a]) I1.kIn M.kp (run_Gat F (S.rm.mono hj) S.gd hb I1.env0 (S.ps σ) I1 (.cons (show RelV (.ref a) (Value.ref a) from rfl) .nil) q1)
end
end DL
end
section
namespace DL
open PySem PySem.Spec PyProof.Rows L2
section
variable {X : Cx} {p : Par} {k : Nat} {cb vb : Bool}
/-- a callee that raises nothing -/
theorem go_still (S : SitB cb vb X p k) (Z : IsStr X.K p) {m : Fn} {B : Addr → Prop} {H H0 : Hp} {c c0 : Sx} {P : D → Sx → Prop} {vs : List V} {ds : List D} {Q : VK} (st : St0 p c B H) (e0 : Ev p c0 H0 c H) (rs : Reps X.K (bm p B c) H vs ds) (mm : m ds c P fun _ _ => False)
    (kk : ∀ d c' v H', P d c' → Ev p c0 H0 c' H' → p.SI c' H' → Rep X.K (bm p B c') H' v d → Q v H') : spC X.K X.mg m vs H Q fun _ _ _ => False := by
  obtain ⟨S1, L1, C1, z1, z2, z3⟩ := Z
  have zb : ∀ c, bm p B c = bc B S1 L1 C1 c := fun c => by unfold bm bc; rw [z1]
  have si := st.si
  rw [z2] at si
  refine ⟨S1, L1, C1, vs, B, ds, c, P, fun _ _ => False, rfl, by rw [← zb]; exact st.trk, si, by rw [← zb]; exact rs, mm, fun d c2 v H2 pd al s2 rd => ?_, fun _ _ _ _ _ z => z.elim⟩
  rw [← z1] at al
  rw [← z2] at s2
  rw [← zb] at rd
  exact kk d c2 v H2 pd (e0.trans al) s2 rd
structure PropN (cb : Bool) (X : Cx) (k : Nat) (n m : Str) (f : Fn) : Prop where
  ex : ∃ (j : Nat) (q g : Addr) (fd : FuncData) (ps : List Str), j + 1 ≤ k ∧ FnG cb X.prog X.w X.K X.mg X.base j g fd ps (spC X.K X.mg f) ∧ PropOf X.K (He.ga X.K n) m q g ∧ Binds X.K fd ps []
inductive PropT (cb : Bool) (X : Cx) (k : Nat) (m : Str) : Tb → Prop
  | nil : PropT cb X k m []
  | cons {n : Str} {f : Fn} {tb : Tb} (h : PropN cb X k n m f) (t : PropT cb X k m tb) : PropT cb X k m ((n, f) :: tb)
theorem PropT.at_ {m : Str} {n : Str} {f : Fn} : ∀ {tb : Tb}, PropT cb X k m tb → tb.lookup n = some f → PropN cb X k n m f
  | _, .nil, h => by cases h
  | _, .cons (n := n') (f := f') h t, e => by
    rw [List.lookup_cons] at e
    by_cases hn : (n == n') = true
    · rw [hn] at e
      cases e
      rw [beq_iff_eq] at hn
      subst hn
      exact h
    · rw [Bool.not_eq_true] at hn
      rw [hn] at e
      exact t.at_ e
def qC (X : Cx) (tb : Tb) (x : V) (H1 : Hp) (Q : VK) : Prop := ∃ (a : Addr) (n : Str) (dx : Addr) (fs : List (Str × V)) (f : Fn), x = .ref a ∧ H1 a = some (.ins (He.ga X.K n) dx fs) ∧ Cls X.K (He.ga X.K n) ∧ tb.lookup n = some f ∧ spC X.K X.mg f [.ref a] H1 Q fun _ _ _ => False
theorem ev_qC (S : SitB cb vb X p k) (Z : IsStr X.K p) {tb : Tb} {d : D} {v : V} {H1 H0 : Hp} {B : Addr → Prop} {c c0 : Sx} {P : D → Sx → Prop} {XP : Exn → Sx → Prop} {Q : VK} (st : St0 p c B H1) (e0 : Ev p c0 H0 c H1) (r1 : Rep X.K (bm p B c) H1 v d)
    (m : (bnd (getI d) fun q => noX (byT tb q.2.1 [d])) c P XP) (kk : ∀ d c' v H', P d c' → Ev p c0 H0 c' H' → p.SI c' H' → Rep X.K (bm p B c') H' v d → Q v H') : qC X tb v H1 Q := by
  obtain ⟨a, n, fs, h1, h2, m2⟩ := getI_inv m
  obtain ⟨rfl, C, hn, hd, fl, dx, xs, ea, en, rs⟩ := ins_at Z st.si r1 h1 h2
  obtain ⟨f, hl, m3⟩ := byT_inv (show byT tb n [d] c P (fun _ _ => False) from m2)
  exact ⟨a, n, dx, xs, f, rfl, ea, C.cls, hl, go_still S Z st e0 (.cons r1 .nil) m3 kk⟩
theorem pd_propC (S : SitB cb vb X p k) (Z : IsStr X.K p) {tb : Tb} {f : Str} {e : Expr} {me : XE} {pos : Pos} (T : PropT cb X k f tb) (he : PD X p e me) (hab : attributeBase e f X.env (eval e X.env) = eval e X.env := by rfl) : PD X p (.Attribute e f pos) (eProp tb me) := by
  obtain ⟨te, a1, a2⟩ := he.ex
  refine ⟨fun σ H Q => te σ H fun x H1 => qC X tb x H1 Q, ⟨fun pins s σ H Q I h => ?_⟩, fun B H σ E c P Q s re m kk => ?_⟩
  · refine attr_of hab (thn (a1.run pins s σ H _ I h) fun u s1 ⟨x, H1, I1, rx, a, n, dx, fs, fn, ex, ea, C, hl, q1⟩ => ?_)
    subst ex
    obtain rfl : u = Value.ref a := rx
    obtain ⟨j, q, g, fd, ps, hj, F, hp, hb⟩ := (T.at_ hl).ex
    obtain ⟨mA, O, _, _, _, _⟩ := ins_get I1.hok ea
    obtain ⟨od, J, _⟩ := O.look
    obtain ⟨rest, hrec⟩ := hp.rec_
    have I2 := I1.tok (s1.toks + 1)
    have hc : (PySem.W.clsIn X.K (He.ga X.K n)).isSome = true := by
      obtain ⟨cd, hc, _⟩ := PySem.W.any_some C.hd
      rw [hc]
      rfl
    have pg := PySem.W.plainGet_of (C.get f)
    refine PySem.W.get_bind I1.kIn J pg.1 (PySem.W.findObj_data hc hp.at_ hp.get hp.tak) pg.2 (wpAny_call (PySem.W.prop_get (s := { s1 with toks := s1.toks + 1 }) I2.kIn hrec ?_))
    have hlen := F.len _ _ _ _ q1
    have bound := hb { s1 with toks := s1.toks + 1 } [.ref a] I2.kIn (by rw [List.append_nil]; exact hlen)
    rw [List.append_nil] at bound
    refine codeAny_mono (F.go X.A.in1 X.stack { s1 with toks := s1.toks + 1 } H1 ⟨[.ref a], []⟩ [.ref a] [.ref a] Q (fun _ _ _ => False) (S.rm.mono hj).in1 S.gd I2.env0.in1 bound (.cons rfl .nil) q1) fun r s' hq => ?_
    match r, hq with
    | .error er, hq =>
      obtain ⟨_, _, _, _, _, _, _, _, _, _, _, _, no⟩ := hq
      exact no.elim
    | .ok (.ret u), hq =>
      obtain ⟨v2, H', I3, rv, q3⟩ := I2.after hq
      show wpAny _ _ (handedOut u) _ _ _
      rw [PySem.W.handedOut_of (handed_of rv)]
      exact wpAny_pure ⟨v2, H', I3, rv, q3⟩
    | .ok .next, hq => exact hq.elim
    | .ok .brk, hq => exact hq.elim
    | .ok .cont, hq => exact hq.elim
  · refine a2 B H σ E _ _ _ s re m fun d c1 v H1 m1 e1 s1 r1 => ?_
    exact ev_qC S Z (s.go e1 s1) e1 r1 m1 kk
def tLenC (X : Cx) (tb : Tb) : List V → Hp → VK → Prop := fun xs H Q => ∃ x, xs = [x] ∧ qC X tb x H fun v H' => ∃ n : Int, v = .int n ∧ (0 ≤ n ∧ n < 9223372036854775808) ∧ Q (.int n) H'
def tStrC (X : Cx) (tb : Tb) : List V → Hp → VK → Prop := fun xs H Q => ∃ x, xs = [x] ∧ qC X tb x H fun v H' => ∃ z : Str, v = .str z ∧ Q (.str z) H'
theorem call_lenC {rm : RoomB cb k X.A} (gd : X.A.guards = some []) {tb : Tb} {j : Nat} (hj : j + 1 ≤ k) (T : MetT cb X j "__len__" tb) : CallR X (.builtin "len") (tLenC X tb) := by
  intro pins s σ H xs us Q I r h
  obtain ⟨x, rfl, a, n0, dx, fs, fn, rfl, ea, C, hl, q⟩ := h
  obtain ⟨u1, rfl, r1⟩ := vals1 r
  obtain rfl : u1 = Value.ref a := r1
  obtain ⟨i, g, fd, ps, hi, F, M, hb⟩ := (T.at_ hl).ex
  obtain ⟨ox, od, J, _⟩ := inst_at I ea
  obtain ⟨mm, hF⟩ := I.fr
  refine PySem.W.len_K hF I.ok.mod.kin J M.at_ M.fn (thn (run_Gat F (rm.mono (Nat.le_trans (Nat.succ_le_succ hi) hj)).in1 gd hb I.env0.in1 passes_no I (.cons (show RelV (.ref a) (Value.ref a) from rfl) .nil) q) fun r s3 ⟨z, H3, I3, rz, n, ez, hn, q3⟩ => ?_)
  subst ez
  obtain ⟨t, rfl⟩ := rz
  exact ⟨hn, .int n, H3, I3.tok _, ⟨_, rfl⟩, q3⟩
theorem call_strC {rm : RoomB cb k X.A} (gd : X.A.guards = some []) {tb : Tb} {j : Nat} (hj : j + 2 ≤ k) (T : MetT cb X j "__str__" tb) : CallR X (.type "str") (tStrC X tb) := by
  intro pins s σ H xs us Q I r h
  obtain ⟨x, rfl, a, n0, dx, fs, fn, rfl, ea, C, hl, q⟩ := h
  obtain ⟨u1, rfl, r1⟩ := vals1 r
  obtain rfl : u1 = Value.ref a := r1
  obtain ⟨i, g, fd, ps, hi, F, M, hb⟩ := (T.at_ hl).ex
  obtain ⟨ox, od, J, _⟩ := inst_at I ea
  have r2 := (rm.mono (Nat.le_trans (Nat.add_le_add_right hi 2) hj)).in2
  refine PySem.W.kso_call (by have := r2.un; omega) I.kIn J M.at_ M.fn (thn (run_Gat F r2 gd hb I.env0.in1.in1 passes_no I (.cons (show RelV (.ref a) (Value.ref a) from rfl) .nil) q) fun r s3 ⟨z, H3, I3, rz, n, ez, q3⟩ => ?_)
  subst ez
  obtain ⟨t, rfl⟩ := rz
  exact ⟨.str n, H3, I3, ⟨_, rfl⟩, q3⟩
theorem pd_lenC (S : SitB cb vb X p k) (Z : IsStr X.K p) {tb : Tb} {j : Nat} {a : Expr} {m : XE} {pn pos : Pos} (hj : j + 1 ≤ k) (T : MetT cb X j "__len__" tb) (hm : X.mg "len" = none) (ha : PD X p a m) (hg : Gl X "len" := by rfl) (hs : starEach [a] X.env = (false, eval a X.env) :: starEach [] X.env := by rfl) :
    PD X p (.Call (.Name "len" pn) [a] [] pos) (eLenO tb m) := by
  obtain ⟨ta, a1, a2⟩ := ha.ex
  refine ⟨_, pe_callB (call_lenC (rm := S.rm) S.gd hj T) hg hm (by decide +kernel) (pa_cons a1 pa_nil hs) (by decide) (by decide) hs (by rfl), fun B H σ E c P Q s re mm kk => ?_⟩
  refine a2 B H σ E _ _ _ s re mm fun d c1 v H1 m1 e1 s1 r1 => ?_
  refine ⟨v, rfl, ev_qC S Z (s.go e1 s1) e1 r1 m1 fun d2 c2 v2 H2 m2 e2 s2 r2 => ?_⟩
  cases r2 with
  | int i => exact ⟨i, rfl, m2.1, kk _ c2 _ H2 m2.2 e2 s2 (.int i)⟩
  | _ => exact m2.elim
theorem pd_strC (S : SitB cb vb X p k) (Z : IsStr X.K p) {tb : Tb} {j : Nat} {a : Expr} {m : XE} {pn pos : Pos} (hj : j + 2 ≤ k) (T : MetT cb X j "__str__" tb) (hm : X.mg "str" = none) (ha : PD X p a m) (hg : Gl X "str" := by rfl) (hs : starEach [a] X.env = (false, eval a X.env) :: starEach [] X.env := by rfl) :
    PD X p (.Call (.Name "str" pn) [a] [] pos) (eStrO tb m) := by
  obtain ⟨ta, a1, a2⟩ := ha.ex
  refine ⟨_, pe_callTy (call_strC (rm := S.rm) S.gd hj T) hg hm (by decide +kernel) (pa_cons a1 pa_nil hs) (by decide) (by decide) hs (by rfl), fun B H σ E c P Q s re mm kk => ?_⟩
  refine a2 B H σ E _ _ _ s re mm fun d c1 v H1 m1 e1 s1 r1 => ?_
  refine ⟨v, rfl, ev_qC S Z (s.go e1 s1) e1 r1 m1 fun d2 c2 v2 H2 m2 e2 s2 r2 => ?_⟩
  cases r2 with
  | str z => exact ⟨z, rfl, kk _ c2 _ H2 m2 e2 s2 (.str z)⟩
  | _ => exact m2.elim
theorem pd_mkC (S : SitB cb vb X p k) (Z : IsStr X.K p) {j : Nat} {n : Str} {g : Addr} {fd : FuncData} {ps : List Str} {f : Fn} {e : Expr} {es : List Expr} {ma : XA} {pn pos : Pos} (C : ClsP X.K n) (M : Mk X.K (He.ga X.K n) g) (F : FnG cb X.prog X.w X.K X.mg X.base j g fd ps (spC X.K X.mg f)) (hj : j + 1 ≤ k) (hb : Binds X.K fd ps []) (hm : X.mg n = some (.ref (He.ga X.K n))) (ha : PDA X p (e :: es) ma)
    (hg : Gl X n := by rfl) (hdb : (n == ("__debug__" : Str)) = false := by decide) (hs : starEach (e :: es) X.env = (false, eval e X.env) :: starEach es X.env := by rfl) (hpl : (backTo pos (starEach es X.env)).any (·.1) = false := by rfl) : PD X p (.Call (.Name n pn) (e :: es) [] pos) (eMk n f ma) := by
  obtain ⟨ta, a1, a2⟩ := ha.ex
  refine ⟨fun σ H Q => ta σ H fun vs H1 => ∀ x dx, H1 x = none → H1 dx = none → dx ≠ x → spC X.K X.mg f (.ref x :: vs) (upd (upd H1 dx (.own x)) x (.ins (He.ga X.K n) dx [])) (fun u H2 => u = .non ∧ Q (.ref x) H2) (p.EK σ), ⟨fun pins s σ H Q I h => ?_⟩, fun B H σ E c P Q s re m kk => ?_⟩
  · refine wpAny_Call_Name_kw (ld_glob I hg hm ?_ hdb)
    exact PySem.W.callWith_K (h₀ := X.base) I.ok.mod.kin M.kp (thn (a1.run pos pins s σ H _ I h) fun us s1 ⟨vs, H1, I1, r, q⟩ => ⟨I1.kIn, run_mkW (A' := X.A) S M F (S.rm.mono hj) hb (S.ps σ) I1 r q⟩) hs hpl
  · refine a2 B H σ E _ _ _ s re m fun ds c1 vs H1 m1 e1 s1 r1 => ?_
    have st1 := s.go e1 s1
    intro x dx hx hd ne
    have al : All H1 (upd (upd H1 dx (.own x)) x (.ins (He.ga X.K n) dx [])) := all_two hx hd ne
    obtain ⟨h1, ev, si⟩ := new_st Z s1 al hx (.ins C (by simp) (by simp) upd_same rfl rfl .nil : CellAt X.K (upd (upd H1 dx (.own x)) x (.ins (He.ga X.K n) dx [])) x (.ins n []))
    have st2 := st1.go ev si
    have m2 : (bnd (f (rD x :: ds)) fun u => grd (u = .none) (ret (rD x))) (c1.set x (.ins n [])) P p.XP := m1 x h1
    refine go_of (b := false) S Z (vs := .ref x :: vs) st2 ((re.go s e1).go st1 ev).fx (e1.trans ev) (.cons (.rf x) (r1.tr (st1.up ev))) m2 fun d c' v H' pd ex si' rd => ?_
    obtain ⟨rfl, pd⟩ := pd
    cases rd
    exact ⟨rfl, kk _ c' _ H' pd ex si' (.rf x)⟩
theorem pd_newC (S : SitB cb vb X p k) (Z : IsStr X.K p) {es : List Expr} {pos : Pos} {m : XA} (h : PDA X p es m) : PD X p (.List es pos) (eNewC m) := by
  obtain ⟨ta, a1, a2⟩ := h.ex
  refine ⟨_, pe_lst a1, fun B H σ E c P Q s re m k => ?_⟩
  refine a2 B H σ E _ _ _ s re m fun ds c1 vs H1 m1 e1 s1 r1 => ?_
  have st1 := s.go e1 s1
  obtain ⟨⟨fl, sm⟩, m2⟩ := m1
  refine ⟨by rw [r1.length]; exact small_line sm, fun q hq => ?_⟩
  have al : All H1 (upd H1 q (.lst vs)) := All.new hq
  obtain ⟨h1, ev, si⟩ := new_st Z s1 al hq (.lst upd_same fl ((r1.flat fl).mono al.ext) : CellAt X.K (upd H1 q (.lst vs)) q (.lst ds))
  exact k _ _ _ _ (m2 q h1) (e1.trans ev) si (.rf q)
/-- what a list with a cell holds -/
theorem lst_at {c : Sx} {B : Addr → Prop} {H : Hp} {v : V} {d : D} {P : D → Sx → Prop} {XP : Exn → Sx → Prop} (Z : IsStr X.K p) (si : p.SI c H) (r : Rep X.K B H v d) (m : vw d c P XP) :
    ∃ a ds xs, v = .ref a ∧ c.mu a = some (.lst ds) ∧ H a = some (.lst xs) ∧ flatAll ds = true ∧ Reps X.K nB H xs ds ∧ P (.list ds) c := by
  obtain ⟨a, ds, h1, h2, m2⟩ := getL_inv (XP := XP) m
  have e := rep_rOf r h1
  cases cell_at Z si h2 with
  | lst q f rs => exact ⟨a, ds, _, e, h2, q, f, rs, m2⟩
theorem ev_V1 (S : SitB cb vb X p k) (Z : IsStr X.K p) {te : TE} {me : XE} {f : D → W D} {R : V → Hp → VK → Prop} (hR : ∀ x H Q, rD1 X.K f x H Q → R x H Q) (he : EvR X.K p te me) : EvR X.K p (fun σ H Q => te σ H fun x H1 => R x H1 Q) (eV1 f me) := by
  intro B H σ E c P Q s re m kk
  refine he B H σ E _ _ _ s re m fun d c1 v H1 m1 e1 s1 r1 => hR _ _ _ ?_
  obtain ⟨a, ds, xs, rfl, hm, ha, fl, rs, m2⟩ := lst_at Z s1 r1 m1
  refine ⟨nB, .list ds, c1, fun z c' => flat z = true ∧ P z c', p.XP, fun _ z => z.elim, .lst ha id rs, m2, fun z v3 H3 pz a3 r3 => ?_⟩
  exact kk z c1 v3 H3 pz.2 (e1.trans a3.ev) ((s.go e1 s1).all S.ok a3) (r3.flat pz.1)
theorem ev_V2 (S : SitB cb vb X p k) (Z : IsStr X.K p) {ta tb : TE} {ma mb : XE} {f : D → D → W D} {R : R2} (hR : ∀ x y H Q, rD2 X.K f x y H Q → R x y H Q) (ha : EvR X.K p ta ma) (hb : EvR X.K p tb mb) : EvR X.K p (tOp R ta tb) (eV2 f ma mb) := by
  intro B H σ E c P Q s re m kk
  refine ha B H σ E _ _ _ s re m fun d c1 v H1 m1 e1 s1 r1 => ?_
  have st1 := s.go e1 s1
  refine hb B H1 σ E _ _ _ st1 (re.go s e1) m1 fun d2 c2 v2 H2 m2 e2 s2 r2 => hR _ _ _ _ ?_
  obtain ⟨a, ds, xs, rfl, hm, hA, fl, rs, m3⟩ := lst_at Z s2 (r1.tr (st1.up e2)) m2
  refine ⟨fun b => bm p B c2 b ∧ b ≠ a, .list ds, d2, c2, fun z c' => flat z = true ∧ P z c', p.XP, fun b z => (st1.go e2 s2).trk b z.1, .lst hA (fun z => z.2 rfl) (rs.flat fl), r2.less fun b z => z.1, m3, fun z v3 H3 pz a3 r3 => ?_⟩
  exact kk z c2 v3 H3 pz.2 (e1.trans (e2.trans a3.ev)) ((st1.go e2 s2).all S.ok a3) (r3.flat pz.1)
theorem pd_callV (S : SitB cb vb X p k) (Z : IsStr X.K p) {x : Str} {id : String} {f : D → W D} {a : Expr} {m : XE} {pn pos : Pos} (hc : CallR X (.builtin id) (rC1 X.K f)) (hm : X.mg x = none) (ha : PD X p a m) (hg : Gl X x := by rfl) (hv : bootBuiltins x = some (.builtin id) := by decide +kernel)
    (hn : x ≠ "__name__" := by decide) (hdb : (x == ("__debug__" : Str)) = false := by decide) (hs : starEach [a] X.env = (false, eval a X.env) :: starEach [] X.env := by rfl) : PD X p (.Call (.Name x pn) [a] [] pos) (eV1 f m) := by
  obtain ⟨ta, a1, a2⟩ := ha.ex
  exact ⟨_, pe_callB hc hg hm hv (pa_cons a1 pa_nil hs) hn hdb hs (by rfl), ev_V1 S Z (R := fun v H1 Q => rC1 X.K f [v] H1 Q) (fun x H Q q => ⟨x, rfl, q⟩) a2⟩
theorem pd_callTV (S : SitB cb vb X p k) (Z : IsStr X.K p) {x : Str} {id : String} {f : D → W D} {a : Expr} {m : XE} {pn pos : Pos} (hc : CallR X (.type id) (rC1 X.K f)) (hm : X.mg x = none) (ha : PD X p a m) (hg : Gl X x := by rfl) (hv : bootBuiltins x = some (.type id) := by decide +kernel)
    (hn : x ≠ "__name__" := by decide) (hdb : (x == ("__debug__" : Str)) = false := by decide) (hs : starEach [a] X.env = (false, eval a X.env) :: starEach [] X.env := by rfl) : PD X p (.Call (.Name x pn) [a] [] pos) (eV1 f m) := by
  obtain ⟨ta, a1, a2⟩ := ha.ex
  exact ⟨_, pe_callTy hc hg hm hv (pa_cons a1 pa_nil hs) hn hdb hs (by rfl), ev_V1 S Z (R := fun v H1 Q => rC1 X.K f [v] H1 Q) (fun x H Q q => ⟨x, rfl, q⟩) a2⟩
theorem pd_ixV (S : SitB cb vb X p k) (Z : IsStr X.K p) {a b : Expr} {ma mb : XE} {pos : Pos} (ha : PD X p a ma) (hb : PD X p b mb) (hs : PlainIx b := by exact fun _ _ => rfl) : PD X p (.Subscript a b pos) (eV2 opIdx ma mb) := by
  obtain ⟨ta, a1, a2⟩ := ha.ex
  obtain ⟨tb, b1, b2⟩ := hb.ex
  exact ⟨_, pe_ix ix_D a1 b1 hs, ev_V2 S Z (fun _ _ _ _ h => h) a2 b2⟩
theorem pt_cmpV (S : SitB cb vb X p k) (Z : IsStr X.K p) (o : Cmp) {a b : Expr} {ma mb : XE} {pos : Pos} (ha : PD X p a ma) (hb : PD X p b mb) : PDT X p (.Compare a [cmpS o] [b] pos) (tBool (eV2 (cmpD o) ma mb)) := by
  obtain ⟨ta, a1, a2⟩ := ha.ex
  obtain ⟨tb, b1, b2⟩ := hb.ex
  exact ⟨_, pt_cmpR (op_cmpD S.un o) a1 b1 (cmpS_mark o b), et_bool (m := eV2 (cmpD o) ma mb) (ev_V2 S Z (f := cmpD o) (fun _ _ _ _ h => h) a2 b2)⟩
end
end DL
end
section
namespace DL
open PySem PySem.Spec PyProof.Rows L2
section
variable {X : Cx} {p : Par} {k : Nat} {cb vb : Bool}
/-- an attribute as a target -/
def gFld (K : PySem.W.Frag) (to : TE) (f : Str) : TG := fun v σ H Q => to σ H fun x H2 => ∃ a C dx fs, x = .ref a ∧ H2 a = some (.ins C dx fs) ∧ Cls K C ∧ NoAttr K C f ∧ fs.length < 1000 ∧ Q σ (upd H2 a (.ins C dx (putF f v fs)))
theorem pg_fld {o : Expr} {f : Str} {to : TE} {pos : Pos} (ho : PE X o to) (ha : ∀ v, assign (.Attribute o f pos) X.env v = (do
      let ov ← holding [v] (eval o X.env)
      standAt pos.atName
      holding [v, ov] (setAttr ov f v)
      release [v, ov] []) := by intro _; rfl) : PG X (.Attribute o f pos) (gFld X.K to f) := by
  refine ⟨fun pins s σ H v u Q I r h => ?_⟩
  rw [ha]
  refine wpAny_bind (wpAny_holding (thn (ho.run pins s σ H _ I h) fun ov s1 ⟨x, H1, I1, r1, a, C, dx, fs, ex, ea, c, n, l, q1⟩ => ?_))
  subst ex
  obtain rfl : ov = Value.ref a := r1
  refine wpAny_bind (wpAny_standAt (wpAny_bind (wpAny_holding (setattr_ok I1 ea c n l r fun s3 I3 => ?_))))
  exact wpAny_release ⟨σ, _, I3, q1⟩
/-- o.f, o.g = x, y -/
def sSetF2 (a : XE) (f g : Str) (v w : XE) : XS := fun E => bnd (v E) fun y => bnd (w E) fun z => bnd (a E) fun d => bnd (getI d) fun q => grd (flat y = true) (bnd (putC q.1 (.ins q.2.1 (putC1 f y q.2.2))) fun _ =>
  bnd (a E) fun d2 => bnd (getI d2) fun q2 => grd (flat z = true) (bnd (putC q2.1 (.ins q2.2.1 (putC1 g z q2.2.2))) fun _ => ret (.nx E)))
/-- a field is stored -/
theorem ev_setF (S : SitB cb vb X p k) (Z : IsStr X.K p) {f : Str} (hf : f ∈ fldN) {B : Addr → Prop} {H2 : Hp} {c2 : Sx} {d y : D} {v vy : V} {P : Unit → Sx → Prop} {XP : Exn → Sx → Prop} (st2 : St0 p c2 B H2) (r2 : Rep X.K (bm p B c2) H2 v d) (r1 : Rep X.K (bm p B c2) H2 vy y)
    (m : (bnd (getI d) fun q => grd (flat y = true) (putC q.1 (.ins q.2.1 (putC1 f y q.2.2)))) c2 P XP) :
    ∃ a C dx fs c3, v = .ref a ∧ H2 a = some (.ins C dx fs) ∧ Cls X.K C ∧ NoAttr X.K C f ∧ fs.length < 1000 ∧ P () c3 ∧ Ev p c2 H2 c3 (upd H2 a (.ins C dx (putF f vy fs))) ∧ p.SI c3 (upd H2 a (.ins C dx (putF f vy fs))) ∧ flat y = true := by
  obtain ⟨a, n, fs, h1, h2, fy, m4⟩ := getI_inv m
  obtain ⟨rfl, C, hn, hd, fl, dx, xs, ea, en, rs⟩ := ins_at Z st2.si r2 h1 h2
  have ry : Rep X.K (fun _ => False) H2 vy y := r1.flat fy
  have hlen : xs.length < 1000 := by
    have q := names_len hn hd
    rw [← en, List.length_map] at q
    omega
  have kp : Kept H2 (upd H2 a (.ins (He.ga X.K n) dx (putF f vy xs))) := fun b o e i => by
    by_cases h : b = a
    · subst h; rw [ea] at e; cases e; exact i.elim
    · rw [upd_ne h]; exact e
  have nf : ∀ g ∈ (putC1 f y fs).map (·.1), g ∈ fldN := fun g hg => by
    rcases put_mem hg with rfl | hg
    · exact hf
    · exact hn g hg
  obtain ⟨ev, si⟩ := put_st Z st2.si h2 (.ins C nf (put_nodup hd) upd_same (put_names en) (put_flat fy fl) (Reps.kept kp (put_flat fy fl) (put_reps ry en rs)) : CellAt X.K (upd H2 a (.ins (He.ga X.K n) dx (putF f vy xs))) a (.ins n (putC1 f y fs)))
  exact ⟨a, _, dx, xs, _, rfl, ea, C.cls, C.nat f hf, hlen, m4, ev, si, fy⟩
theorem sd_setF2 (S : SitB true true X p k) (Z : IsStr X.K p) {f g : Str} {o o' e1 e2 : Expr} {mo m1 m2 : XE} {k0 k1 : _} {pa pb pt pv pos : Pos} (ho : PD X p o mo) (ho' : PD X p o' mo) (h1 : PD X p e1 m1) (h2 : PD X p e2 m2) (hf : f ∈ fldN := by decide) (hg : g ∈ fldN := by decide)
    (ga : ∀ v, assign (.Attribute o f pa) X.env v = (do
      let ov ← holding [v] (eval o X.env)
      standAt pa.atName
      holding [v, ov] (setAttr ov f v)
      release [v, ov] []) := by intro _; rfl)
    (gb : ∀ v, assign (.Attribute o' g pb) X.env v = (do
      let ov ← holding [v] (eval o' X.env)
      standAt pb.atName
      holding [v, ov] (setAttr ov g v)
      release [v, ov] []) := by intro _; rfl)
    (i1 : starEach [e1, e2] X.env = (false, eval e1 X.env) :: starEach [e2] X.env := by rfl) (i2 : starEach [e2] X.env = (false, eval e2 X.env) :: starEach [] X.env := by rfl)
    (hn : (assignEach [.Attribute o f pa, .Attribute o' g pb] X.env).length = 2 := by rfl) (hst : (assignEach [.Attribute o f pa, .Attribute o' g pb] X.env).findIdx? (·.1) = none := by rfl)
    (a1 : (assignEach [.Attribute o f pa, .Attribute o' g pb] X.env).map (·.2) = assign (.Attribute o f pa) X.env :: (assignEach [.Attribute o' g pb] X.env).map (·.2) := by rfl) (a2 : (assignEach [.Attribute o' g pb] X.env).map (·.2) = assign (.Attribute o' g pb) X.env :: (assignEach [] X.env).map (·.2) := by rfl)
    (hs : swapsWithSole [.Tuple [.Attribute o f pa, .Attribute o' g pb] k0 pt] (.Tuple [e1, e2] k1 pv) pos.line X.env = pure false := by rfl) (hw : swappedStores [.Tuple [.Attribute o f pa, .Attribute o' g pb] k0 pt] (.Tuple [e1, e2] k1 pv) X.env = pure none := by rfl)
    (h0 : (assignEach [.Tuple [.Attribute o f pa, .Attribute o' g pb] k0 pt] X.env).map (·.2) = [assign (.Tuple [.Attribute o f pa, .Attribute o' g pb] k0 pt) X.env] := by rfl) :
    PSD X p (.Assign [.Tuple [.Attribute o f pa, .Attribute o' g pb] k0 pt] (.Tuple [e1, e2] k1 pv) pos) (sSetF2 mo f g m1 m2) := by
  obtain ⟨to, o1, o2⟩ := ho.ex
  obtain ⟨to', o3, o4⟩ := ho'.ex
  obtain ⟨t1, b1, b2⟩ := h1.ex
  obtain ⟨t2, d1, d2⟩ := h2.ex
  refine ⟨_, ps_asg (pe_tup (pa_cons b1 (pa_cons d1 pa_nil i2) i1)) (pg_tup S.calm (pgs_cons (pg_fld o1 ga) (pgs_cons (pg_fld o3 gb) pgs_nil a2) a1) hn hst) hs hw h0, fun B H σ E c0 P Dn st r m nx rt bk ct => ?_⟩
  refine b2 B H σ E _ _ _ st r m fun y n1 vy H1 m1 e1 s1 r1 => ?_
  have st1 := st.go e1 s1
  have rr1 := r.go st e1
  refine d2 B H1 σ E _ _ _ st1 rr1 m1 fun z n2 vz H2 m2 e2 s2 r2 => ?_
  have st2 := st1.go e2 s2
  have rr2 := rr1.go st1 e2
  refine ⟨by rw [sizeLine_eq]; simp, fun t ht => ?_⟩
  have al : All H2 (upd H2 t (.tup [vy, vz])) := All.new ht
  have st3 := st2.go al.ev (st2.all S.ok al)
  have rr3 := rr2.go st2 al.ev
  refine ⟨t, [vy, vz], rfl, SqT.of upd_same, rfl, _, _, rfl, ?_⟩
  refine o2 B _ σ E _ _ _ st3 rr3 m2 fun d n4 v H4 m4 e4 s4 r4 => ?_
  have st4 := st3.go e4 s4
  have rr4 := rr3.go st3 e4
  have ry4 := ((r1.tr (st1.up e2)).mono al.ext).tr (st3.up e4)
  have rz4 := (r2.mono al.ext).tr (st3.up e4)
  obtain ⟨a, C, dx, fs, c5, rfl, ea, k1, k2, k3, m5, ev5, si5, _⟩ := ev_setF S Z hf st4 r4 ry4 (P := fun _ c => ((bnd (mo E) fun d2 => bnd (getI d2) fun q2 => grd (flat z = true) (bnd (putC q2.1 (.ins q2.2.1 (putC1 g z q2.2.2))) fun _ => ret (Out.nx E))) : W Out) c P p.XP) (XP := p.XP) m4
  refine ⟨a, C, dx, fs, rfl, ea, k1, k2, k3, ?_⟩
  have st5 := st4.go ev5 si5
  have rr5 := rr4.go st4 ev5
  refine ⟨_, _, rfl, ?_⟩
  refine o4 B _ σ E _ _ _ st5 rr5 m5 fun d6 n6 v6 H6 m6 e6 s6 r6 => ?_
  have st6 := st5.go e6 s6
  obtain ⟨a7, C7, dx7, fs7, c7, rfl, ea7, j1, j2, j3, m7, ev7, si7, _⟩ := ev_setF S Z hg st6 r6 ((rz4.tr ev5.tr).tr (st5.up e6)) (P := fun _ c => P (.nx E) c) (XP := p.XP) m6
  refine ⟨a7, C7, dx7, fs7, rfl, ea7, j1, j2, j3, rfl, ?_⟩
  exact nx E c7 B σ _ m7 (st6.go ev7 si7) (((st.up (e1.trans e2)).trans (.of al.ext)).trans ((((st3.up e4).trans ev5.tr).trans (st5.up e6)).trans ev7.tr)) ((rr5.go st5 e6).go st6 ev7)
theorem pd_cutC (S : SitB cb vb X p k) (Z : IsStr X.K p) {e : Expr} {lo hi : Option Expr} {m : XE} {ml mh : XO} {p2 pos : Pos} (he : PD X p e m) (hl : PDO X p lo ml) (hh : PDO X p hi mh) : PD X p (.Subscript e (.Slice lo hi none p2) pos) (eCutC m ml mh) := by
  obtain ⟨ta, a1, a2⟩ := he.ex
  obtain ⟨tl, l1, l2⟩ := hl.ex
  obtain ⟨th, h1, h2⟩ := hh.ex
  refine ⟨_, pe_slice sl_list a1 l1 h1, fun B H σ E c P Q s re m k => ?_⟩
  refine a2 B H σ E _ _ _ s re m fun d c1 v H1 m1 e1 s1 r1 => ?_
  have st1 := s.go e1 s1
  refine l2 B H1 σ E _ _ _ st1 (re.go s e1) m1 fun o1 c2' H2 m2 e2 s2 => ?_
  have st2 := st1.go e2 s2
  refine h2 B H2 σ E _ _ _ st2 ((re.go s e1).go st1 e2) m2 fun o2 c3' H3 m3 e3 s3 => ?_
  have st3 := st2.go e3 s3
  obtain ⟨a, ds, h1, h2, m4⟩ := getL_inv (XP := p.XP) m3
  have r3 := (r1.tr (st1.up e2)).tr (st2.up e3)
  obtain rfl := rep_rOf r3 h1
  cases cell_at Z s3 h2 with
  | lst q f rs =>
    refine ⟨a, _, rfl, SqL.of q, fun w hw => ?_⟩
    have rs' : Reps X.K (bm p B c3') H3 _ ds := rs.flat f
    exact k _ c3' _ _ m4 ((e1.trans (e2.trans e3)).trans (All.new hw).ev) (st3.all S.ok (All.new hw)) (rep_lst st3.trk hw (rs'.cut o1 o2))
/-- a list with a cell is changed -/
theorem ev_setL (Z : IsStr X.K p) {B : Addr → Prop} {H : Hp} {c : Sx} {a : Addr} {ds ds' : List D} {xs' : List V} (st : St0 p c B H) (hm : c.mu a = some (.lst ds)) (fl : flatAll ds' = true) (rs : Reps X.K (fun _ => False) H xs' ds') :
    Ev p c H (c.set a (.lst ds')) (upd H a (.lst xs')) ∧ p.SI (c.set a (.lst ds')) (upd H a (.lst xs')) := by
  cases cell_at Z st.si hm with
  | @lst xs _ q f _ =>
    have kp : Kept H (upd H a (.lst xs')) := fun b o e i => by
      by_cases h : b = a
      · subst h; rw [q] at e; cases e; exact i.elim
      · rw [upd_ne h]; exact e
    exact put_st Z st.si hm (.lst upd_same fl (rs.kept kp fl))
theorem sd_appC (S : SitB cb true X p k) (Z : IsStr X.K p) {o e : Expr} {mo me : XE} {pa pc pos : Pos} (ho : PD X p o mo) (he : PD X p e me)
    (hpe : ∀ {to te : TE}, PE X o to → PE X e te → PE X (.Call (.Attribute o "append" pa) [e] [] pc) (tBM X.K "list" rAppend to (tCons te tNil)))
    (hs : swapsWith (.Call (.Attribute o "append" pa) [e] [] pc) none pos.line X.env = pure false := by rfl) : PSD X p (.Expr (.Call (.Attribute o "append" pa) [e] [] pc) pos) (sAppC mo me) := by
  obtain ⟨to, a1, a2⟩ := ho.ex
  obtain ⟨te, b1, b2⟩ := he.ex
  refine ⟨_, ps_expr (hpe a1 b1) hs, fun B H σ E c P Dn st r m nx rt bk ct => ?_⟩
  refine a2 B H σ E _ _ _ st r m fun d c1 v H1 m1 e1 s1 r1 => ?_
  have st1 := st.go e1 s1
  obtain ⟨a0, ds0, g1, g2, m1⟩ := getL_inv (XP := p.XP) m1
  obtain rfl := rep_rOf r1 g1
  have ty : ∃ xs, H1 a0 = some (.lst xs) := by
    cases cell_at Z s1 g2 with
    | lst q _ _ => exact ⟨_, q⟩
  obtain ⟨xs0, q0⟩ := ty
  refine ⟨.inl ⟨rfl, xs0, SqL.of q0⟩, ?_⟩
  refine b2 B H1 σ E _ _ _ st1 (r.go st e1) m1 fun y c2 vy H2 m2 e2 s2 r2 => ?_
  have st2 := st1.go e2 s2
  obtain ⟨a, ds, h1, h2, ⟨fy, sm⟩, m3⟩ := getL_inv (XP := p.XP) m2
  have ea : a = a0 := by rw [g1] at h1; cases h1; rfl
  subst ea
  cases cell_at Z s2 h2 with
  | @lst xs _ q f rs =>
    have fl' : flatAll (ds ++ [y]) = true := by
      have : ∀ l : List D, flatAll l = true → flatAll (l ++ [y]) = true := by
        intro l
        induction l with
        | nil => intro _; simp [flatAll, fy]
        | cons x l ih => intro h; simp only [flatAll, Bool.and_eq_true, List.cons_append] at h ⊢; exact ⟨h.1, ih h.2⟩
      exact this ds f
    obtain ⟨ev, si⟩ := ev_setL Z st2 h2 fl' (xs' := xs ++ [vy]) (rs.append (.cons (r2.flat fy) .nil))
    exact ⟨a, xs, vy, rfl, rfl, q, by rw [rs.length]; exact small_lt sm, nx E _ B σ _ m3 (st2.go ev si) ((st.up (e1.trans e2)).trans ev.tr) (((r.go st e1).go st1 e2).go st2 ev)⟩
theorem sd_popC (S : SitB cb true X p k) (Z : IsStr X.K p) {o : Expr} {mo : XE} {pa pc pos : Pos} (ho : PD X p o mo)
    (hpe : ∀ {to : TE}, PE X o to → PE X (.Call (.Attribute o "pop" pa) [] [] pc) (tBM0 X.K "list" rPop to))
    (hs : swapsWith (.Call (.Attribute o "pop" pa) [] [] pc) none pos.line X.env = pure false := by rfl) : PSD X p (.Expr (.Call (.Attribute o "pop" pa) [] [] pc) pos) (sPopC mo) := by
  obtain ⟨to, a1, a2⟩ := ho.ex
  refine ⟨_, ps_expr (hpe a1) hs, fun B H σ E c P Dn st r m nx rt bk ct => ?_⟩
  refine a2 B H σ E _ _ _ st r m fun d c1 v H1 m1 e1 s1 r1 => ?_
  have st1 := st.go e1 s1
  obtain ⟨a, ds, h1, h2, ne, m3⟩ := getL_inv (XP := p.XP) m1
  obtain rfl := rep_rOf r1 h1
  cases cell_at Z s1 h2 with
  | @lst xs _ q f rs =>
    have hlen := rs.length
    have hpos : 0 < ds.length := List.length_pos_iff.mpr ne
    have fl' : flatAll ds.dropLast = true := by
      have : ∀ l : List D, flatAll l = true → flatAll l.dropLast = true := by
        intro l
        induction l with
        | nil => intro _; rfl
        | cons x l ih =>
          intro h
          cases l with
          | nil => rfl
          | cons z l =>
            simp only [flatAll, Bool.and_eq_true] at h
            rw [List.dropLast_cons₂]
            simp only [flatAll, Bool.and_eq_true]
            exact ⟨h.1, ih (by simp only [flatAll, Bool.and_eq_true]; exact h.2)⟩
      exact this ds f
    have e3 : xs.dropLast = xs.take (ds.length - 1) := by rw [List.dropLast_eq_take, hlen]
    have e4 : ds.dropLast = ds.take (ds.length - 1) := List.dropLast_eq_take
    obtain ⟨ev, si⟩ := ev_setL Z st1 h2 fl' (xs' := xs.dropLast) (by rw [e3, e4]; exact rs.take _)
    exact ⟨.inl ⟨rfl, xs, SqL.of q⟩, a, xs, xs[xs.length - 1]'(by omega), rfl, rfl, q, List.getElem?_eq_getElem _, nx E _ B σ _ m3 (st1.go ev si) ((st.up e1).trans ev.tr) ((r.go st e1).go st1 ev)⟩
end
end DL
end
section
namespace DL
open PySem
def w_Page_row_0 : Fn := fn 1 1 (sRet (eGet (eVar 0) "now"))
def w_Page_size_0 : Fn := fn 1 1 (sRet (eB1 .len (eGet (eVar 0) "now")))
def w_Page_version_0 : Fn := fn 1 1 (sRet (eB1 .len (eGet (eVar 0) "done")))
def w_Page_accept_0 : Fn := fn 2 2 (sSkip)
def w_Page_check_idle_0 : Fn := fn 1 1 (sIf (tTru (eGet (eVar 0) "is_busy")) (sRaise "Busy" [] aNil) (sSkip))
def w_Page_edits_0 : Fn := fn 1 1 (sRet (eGet (eVar 0) "done"))
def w_Page_len_0 : Fn := fn 1 1 (sRet (eB1 .len (eGet (eVar 0) "done")))
def w_Page_str_0 : Fn := fn 1 1 (sRet (eFs [eB1 .len (eGet (eVar 0) "now"), eCon (.str " words, "), eB1 .len (eGet (eVar 0) "done"), eCon (.str " edits")]))
def w__law_due_seen_0 : Fn := fn 1 4 (sSeq (sPar 1 2 (eV2 opIdx (eV2 opIdx (eVar 0) (eCon (.int 0))) (eNeg (eCon (.int 1)))) (eV2 opIdx (eVar 0) (eCon (.int 1))))
    (sSeq (sAsg 3 (eBin .add (eBin .add (eBin .add (eB1 .str (eB1 .len (eVar 1))) (eCon (.str " words, "))) (eB1 .str (eV1 (bi1 .len) (eVar 2)))) (eCon (.str " edits"))))
    (sRet (eB1 .repr (eLst (aCons (eVar 1) (aCons (eB1 .len (eVar 1)) (aCons (eV1 (bi1 .len) (eVar 2)) (aCons (eV1 (bi1 .tuple) (eVar 2)) (aCons (eV1 (bi1 .len) (eVar 2)) (aCons (eVar 3) (aNil))))))))))))
def w_Page_undo_0 : Fn := fn 1 1 (sSeq (sExpr (eMetT [("Page", w_Page_check_idle_0)] (eVar 0) aNil))
    (sSeq (sIf (tBool (eCmp .eq (eGet (eVar 0) "done") (eTup (aNil)))) (sRaise "NothingToUndo" [] aNil) (sSkip))
    (sSeq (sSetF2 (eVar 0) "states" "done" (eCut (eGet (eVar 0) "states") (oNone) (oSome (eNeg (eCon (.int 1))))) (eCut (eGet (eVar 0) "done") (oNone) (oSome (eNeg (eCon (.int 1))))))
    (sSeq (sSetF (eVar 0) "now" (eIdx (eGet (eVar 0) "states") (eNeg (eCon (.int 1)))))
    (sRet (eB1 .len (eGet (eVar 0) "done")))))))
def w__law_due_9 : Fn := fn 2 8 (sSeq (sAsg 2 (eV2 opIdx (eV2 opIdx (eVar 0) (eCon (.int 0))) (eNeg (eCon (.int 1)))))
    (sSeq (sPut (.tp [3, 4, 5]) (eTup (aCons (eIdx (eVar 1) (eCon (.int 0))) (aCons (eB1 .len (eVar 2)) (aCons (eRev (eVar 2)) (aNil))))))
    (sSeq (sIf (tBool (eCmp .ne (eVar 3) (eCon (.str "turn")))) (sSeq (sAsg 6 (eIdx (eVar 1) (eCon (.int 1))))
    (sSeq (sIf (tNot (tTru (eCall w__law_is_int_0 (aCons (eVar 6) (aCons (eCon (.int 0)) (aCons (eBin .sub (eVar 4) (eB1 .int (eCmp .ne (eVar 3) (eCon (.str "put"))))) (aNil))))))) (sRet (eLst (aCons (eCon (.str "NoPlace")) (aCons (eVar 6) (aNil))))) (sSkip))
    (sSeq (sIf (DL.tAnd (tBool (eCmp .ne (eVar 3) (eCon (.str "cut")))) (tNot (tTru (eCall w__law_is_int_0 (aCons (eIdx (eVar 1) (eCon (.int 2))) (aCons (eCon (.int 1)) (aCons (eCon (.int 60)) (aNil)))))))) (sRet (eLst (aCons (eCon (.str "BadLength")) (aCons (eIdx (eVar 1) (eCon (.int 2))) (aNil))))) (sSkip))
    (sSeq (sIf (DL.tAnd (tBool (eCmp .eq (eVar 3) (eCon (.str "put")))) (tBool (eCmp .eq (eVar 4) (eCon (.int 24))))) (sRet (eLst (aCons (eCon (.str "TooMany")) (aCons (eCon (.int 24)) (aNil))))) (sSkip))
    (sSeq (sIf (DL.tAnd (tBool (eCmp .eq (eVar 3) (eCon (.str "cut")))) (tBool (eCmp .eq (eVar 4) (eCon (.int 1))))) (sRet (eLst (aCons (eCon (.str "LastWord")) (aCons (eCon .none) (aNil))))) (sSkip))
    (sAsg 5 (eBin .add (eBin .add (eCut (eVar 2) (oNone) (oSome (eVar 6))) (eCut (eVar 1) (oSome (eCon (.int 2))) (oNone))) (eCut (eVar 2) (oSome (eBin .add (eVar 6) (eB1 .int (eCmp .ne (eVar 3) (eCon (.str "put")))))) (oNone))))))))) (sSkip))
    (sSeq (sAsg 7 (eComp (iRng1 (eB1 .len (eVar 5))) (.nm 6) (tBool (eCmp .gt (eIdx (eVar 5) (eVar 6)) (eCon (.int 12)))) (eVar 6) [6]))
    (sRet (eIf (DL.tAnd (tTru (eV2 opIdx (eVar 0) (eCon (.int 2)))) (tBool (eCmp .ne (eVar 7) (eLst (aNil))))) (eLst (aCons (eCon (.str "TooLong")) (aCons (eIdx (eVar 7) (eCon (.int 0))) (aNil)))) (eLst (aCons (eCon (.str "row")) (aCons (eVar 5) (aNil))))))))))
def w__law_edit_0 : Fn := fnS 2 5 (sSeq (sPar 2 3 (eCallS w__law_pick_0 0 (aCons (eLst (aCons (eCon (.str "put")) (aCons (eCon (.str "put")) (aCons (eCon (.str "cut")) (aCons (eCon (.str "resize")) (aCons (eCon (.str "turn")) (aNil))))))) (aNil))) (eBin .add (eCon (.int 1)) (eCallS fDraw 0 (aCons (eCon (.int 60)) (aNil)))))
    (sSeq (sAsg 3 (eIdx (eLst (aCons (eVar 3) (aCons (eBin .add (eCon (.int 1)) (eBin .mod (eVar 3) (eCon (.int 12)))) (aNil)))) (eCallS fDraw 0 (aCons (eCon (.int 2)) (aNil)))))
    (sSeq (sIf (tBool (eCmp .eq (eVar 2) (eCon (.str "put")))) (sRet (eTup (aCons (eVar 2) (aCons (eCallS fDraw 0 (aCons (eBin .add (eB1 .len (eVar 1)) (eCon (.int 1))) (aNil))) (aCons (eVar 3) (aNil)))))) (sSkip))
    (sSeq (sIf (tBool (eCmp .eq (eVar 2) (eCon (.str "turn")))) (sRet (eTup (aCons (eVar 2) (aNil)))) (sSkip))
    (sSeq (sAsg 4 (eCallS fDraw 0 (aCons (eB1 .len (eVar 1)) (aNil))))
    (sRet (eIf (tBool (eCmp .eq (eVar 2) (eCon (.str "resize")))) (eTup (aCons (eVar 2) (aCons (eVar 4) (aCons (eVar 3) (aNil))))) (eTup (aCons (eVar 2) (aCons (eVar 4) (aNil)))))))))))
def w_Page_init_0 : Fn := fn 2 3 (sSeq (sAsg 2 (eCall w_row_error_0 (aCons (eVar 1) (aNil))))
    (sSeq (sIf (tBool (eCmp .notN (eVar 2) (eCon .none))) (sRaise "BadRow" [Fl.s .error] (aCons (eVar 2) aNil)) (sSkip))
    (sSeq (sExpr (eMetT [("Page", w_Page_accept_0)] (eVar 0) (aCons (eVar 1) (aNil))))
    (sSeq (sSetF (eVar 0) "now" (eVar 1))
    (sSeq (sSetF (eVar 0) "states" (eTup (aCons (eVar 1) (aNil))))
    (sSeq (sSetF (eVar 0) "done" (eTup (aNil)))
    (sSeq (sSetF (eVar 0) "wanted" (eCon .none))
    (sSetF (eVar 0) "is_busy" (eCon (.bool false))))))))))
def w__law_seen_0 : Fn := fn 1 1 (sRet (eB1 .repr (eLst (aCons (eProp [("Page", w_Page_row_0)] (eVar 0)) (aCons (eProp [("Page", w_Page_size_0)] (eVar 0)) (aCons (eProp [("Page", w_Page_version_0)] (eVar 0)) (aCons (eMetT [("Page", w_Page_edits_0)] (eVar 0) aNil) (aCons (eLenO [("Page", w_Page_len_0)] (eVar 0)) (aCons (eStrO [("Page", w_Page_str_0)] (eVar 0)) (aNil))))))))))
def w_edited_0 : Fn := fn 2 4 (sSeq (sStarT 2 3 (eVar 1))
    (sSeq (sIf (tBool (eCmp .eq (eVar 2) (eCon (.str "put")))) (sRet (eCall w_put_in_0 (aCons (eVar 0) (aCons (eIdx (eVar 3) (eCon (.int 0))) (aCons (eIdx (eVar 3) (eCon (.int 1))) (aNil)))))) (sSkip))
    (sSeq (sIf (tBool (eCmp .eq (eVar 2) (eCon (.str "resize")))) (sRet (eCall w_changed_0 (aCons (eVar 0) (aCons (eIdx (eVar 3) (eCon (.int 0))) (aCons (eIdx (eVar 3) (eCon (.int 1))) (aNil)))))) (sSkip))
    (sRet (eIf (tBool (eCmp .eq (eVar 2) (eCon (.str "cut")))) (eCall w_taken_out_0 (aCons (eVar 0) (aCons (eIdx (eVar 3) (eCon (.int 0))) (aNil)))) (eRev (eVar 0)))))))
def w_Page_perform_0 : Fn := fn 2 3 (sSeq (sIf (tBool (eCmp .eq (eB1 .len (eGet (eVar 0) "done")) (eCon (.int (60))))) (sRaise "TooManyEdits" [] aNil) (sSkip))
    (sSeq (sAsg 2 (eCall w_edited_0 (aCons (eGet (eVar 0) "now") (aCons (eVar 1) (aNil)))))
    (sSeq (sExpr (eMetT [("Page", w_Page_accept_0)] (eVar 0) (aCons (eVar 2) (aNil))))
    (sSeq (sSetF (eVar 0) "now" (eVar 2))
    (sSeq (sSetF (eVar 0) "states" (eTup (aStar (eGet (eVar 0) "states") (aCons (eVar 2) (aNil)))))
    (sSetF (eVar 0) "done" (eTup (aStar (eGet (eVar 0) "done") (aCons (eVar 1) (aNil))))))))))
def w_Page_perform_alone_0 : Fn := fn 2 2 (sSeq (sExpr (eMetT [("Page", w_Page_check_idle_0)] (eVar 0) aNil))
    (sSeq (sExpr (eMetT [("Page", w_Page_perform_0)] (eVar 0) (aCons (eVar 1) (aNil))))
    (sRet (eB1 .len (eGet (eVar 0) "done")))))
def w_Page_put_0 : Fn := fn 3 3 (sRet (eMetT [("Page", w_Page_perform_alone_0)] (eVar 0) (aCons (eTup (aCons (eCon (.str "put")) (aCons (eVar 1) (aCons (eVar 2) (aNil))))) (aNil))))
def w_Page_cut_0 : Fn := fn 2 2 (sRet (eMetT [("Page", w_Page_perform_alone_0)] (eVar 0) (aCons (eTup (aCons (eCon (.str "cut")) (aCons (eVar 1) (aNil)))) (aNil))))
def w_Page_resize_0 : Fn := fn 3 3 (sRet (eMetT [("Page", w_Page_perform_alone_0)] (eVar 0) (aCons (eTup (aCons (eCon (.str "resize")) (aCons (eVar 1) (aCons (eVar 2) (aNil))))) (aNil))))
def w_Page_turn_0 : Fn := fn 1 1 (sRet (eMetT [("Page", w_Page_perform_alone_0)] (eVar 0) (aCons (eTup (aCons (eCon (.str "turn")) (aNil))) (aNil))))
def w__law_apply_0 : Fn := fn 2 2 (sSeq (sIf (tBool (eCmp .eq (eIdx (eVar 1) (eCon (.int 0))) (eCon (.str "put")))) (sRet (eMetT [("Page", w_Page_put_0)] (eVar 0) (aCons (eIdx (eVar 1) (eCon (.int 1))) (aCons (eIdx (eVar 1) (eCon (.int 2))) (aNil))))) (sSkip))
    (sSeq (sIf (tBool (eCmp .eq (eIdx (eVar 1) (eCon (.int 0))) (eCon (.str "cut")))) (sRet (eMetT [("Page", w_Page_cut_0)] (eVar 0) (aCons (eIdx (eVar 1) (eCon (.int 1))) (aNil)))) (sSkip))
    (sSeq (sIf (tBool (eCmp .eq (eIdx (eVar 1) (eCon (.int 0))) (eCon (.str "resize")))) (sRet (eMetT [("Page", w_Page_resize_0)] (eVar 0) (aCons (eIdx (eVar 1) (eCon (.int 1))) (aCons (eIdx (eVar 1) (eCon (.int 2))) (aNil))))) (sSkip))
    (sRet (eIf (tBool (eCmp .eq (eIdx (eVar 1) (eCon (.int 0))) (eCon (.str "turn")))) (eMetT [("Page", w_Page_turn_0)] (eVar 0) aNil) (eMetT [("Page", w_Page_undo_0)] (eVar 0) aNil))))))
def w__law_did_0 : Fn := fn 2 3 (sTry (eLst (aCons (eCon (.str "ok")) (aCons (eCall w__law_apply_0 (aCons (eVar 0) (aCons (eVar 1) (aNil)))) (aNil)))) (kRet) (hdL [(["WrapError", "NoPlace"], some 2, sRet (eLst (aCons (eCall w__law_name_0 (aCons (eVar 2) (aNil))) (aCons (eCall w__law_field_0 (aCons (eVar 2) (aNil))) (aNil)))))]))
def w__law_went_0 : Fn := fn 3 6 (sSeq (sPut (.tp [3, 4]) (eCutC (eVar 1) (oNone) (oSome (eCon (.int 2)))))
    (sSeq (sAsg 5 (eLst (aCons (eCon (.str "NothingToUndo")) (aCons (eCon .none) (aNil)))))
    (sSeq (sIf (tBool (eCmp .ne (eIdx (eVar 2) (eCon (.int 0))) (eCon (.str "undo")))) (sSeq (sAsg 5 (eIf (tBool (eCmp .lt (eV1 (bi1 .len) (eVar 4)) (eCon (.int 60)))) (eCall w__law_due_9 (aCons (eVar 1) (aCons (eVar 2) (aNil)))) (eLst (aCons (eCon (.str "TooManyEdits")) (aCons (eCon .none) (aNil))))))
    (sIf (tBool (eCmp .eq (eIdx (eVar 5) (eCon (.int 0))) (eCon (.str "row")))) (sSeq (sAppC (eVar 3) (eIdx (eVar 5) (eCon (.int 1))))
    (sSeq (sAppC (eVar 4) (eVar 2))
    (sAsg 5 (eLst (aCons (eCon (.str "ok")) (aCons (eV1 (bi1 .len) (eVar 4)) (aNil))))))) (sSkip))) (sIf (tBool (eV2 (cmpD .ne) (eVar 4) (eLst (aNil)))) (sSeq (sPopC (eVar 3))
    (sSeq (sPopC (eVar 4))
    (sAsg 5 (eLst (aCons (eCon (.str "ok")) (aCons (eV1 (bi1 .len) (eVar 4)) (aNil))))))) (sSkip)))
    (sSeq (sIf (tBool (eCmp .ne (eB1 .repr (eCall w__law_did_0 (aCons (eVar 0) (aCons (eVar 2) (aNil))))) (eB1 .repr (eVar 5)))) (sRet (eCon (.bool false))) (sSkip))
    (sRet (eCmp .eq (eCall w__law_seen_0 (aCons (eVar 0) (aNil))) (eCall w__law_due_seen_0 (aCons (eVar 1) (aNil)))))))))
end DL
end
section
namespace Wk76
open PySem DL
def m_law : XS := sSeq (sFor (iRng1 (eCon (.int 3))) (.nm 2) (sSeq (sAsg 3 (eCallS w__law_row_drawn_0 1 (aCons (eIdx (eLst (aCons (eCon (.int 24)) (aCons (eCon (.int 6)) (aCons (eCon (.int 1)) (aNil))))) (eVar 2)) (aNil))))
    (sSeq (sPar 4 5 (eMk "Page" w_Page_init_0 (aCons (eVar 3) (aNil))) (eNewC (aCons (eNewC (aCons (eVar 3) (aNil))) (aCons (eNewC (aNil)) (aCons (eCon (.bool false)) (aNil))))))
    (sSeq (sIf (tBool (eCmp .ne (eCall w__law_seen_0 (aCons (eVar 4) (aNil))) (eCall w__law_due_seen_0 (aCons (eVar 5) (aNil))))) (sRet (eCon (.bool false))) (sSkip))
    (sSeq (sFor (iRng1 (eBin .add (eCon (.int 8)) (eCallS fDraw 1 (aCons (eCon (.int 9)) (aNil))))) (.nm 6) (sSeq (sAsg 7 (eCallS w__law_edit_0 1 (aCons (eV2 opIdx (eV2 opIdx (eVar 5) (eCon (.int 0))) (eNeg (eCon (.int 1)))) (aNil))))
    (sSeq (sAsg 8 (eB1 .repr (eVar 7)))
    (sIf (DL.tOr (tNot (tTru (eCall w__law_went_0 (aCons (eVar 4) (aCons (eVar 5) (aCons (eVar 7) (aNil))))))) (DL.tOr (tBool (eCmp .ne (eB1 .repr (eVar 7)) (eVar 8))) (tBool (eCmp .ne (eCall w__law_seen_0 (aCons (eVar 4) (aNil))) (eCall w__law_seen_0 (aCons (eVar 4) (aNil))))))) (sRet (eCon (.bool false))) (sSkip)))))
    (sSeq (sAsg 9 (eB1 .len (eV2 opIdx (eV2 opIdx (eVar 5) (eCon (.int 0))) (eNeg (eCon (.int 1))))))
    (sFor (iSeq (eLst (aCons (eTup (aCons (eCon (.str "put")) (aCons (eVar 9) (aCons (eCon (.int 60)) (aNil))))) (aCons (eTup (aCons (eCon (.str "put")) (aCons (eCon (.int 0)) (aCons (eCon (.int 1)) (aNil))))) (aCons (eTup (aCons (eCon (.str "cut")) (aCons (eCon (.int 0)) (aNil)))) (aCons (eTup (aCons (eCon (.str "resize")) (aCons (eCon (.int 0)) (aCons (eCon (.int 60)) (aNil))))) (aCons (eTup (aCons (eCon (.str "turn")) (aNil))) (aCons (eTup (aCons (eCon (.str "cut")) (aCons (eBin .sub (eVar 9) (eCon (.int 1))) (aNil)))) (aNil))))))))) (.nm 7) (sIf (tNot (tTru (eCall w__law_went_0 (aCons (eVar 4) (aCons (eVar 5) (aCons (eVar 7) (aNil))))))) (sRet (eCon (.bool false))) (sSkip)))))))))
    (sRet (eCon (.bool true)))
end Wk76
end
section
namespace DL
open PySem PySem.Spec PyProof.Rows L2
/-- a def f(*v) keeps its promise, called by position -/
structure FnV (cb : Bool) (P : Program) (w : World) (K : PySem.W.Frag) (mg : Str → Option Value) (base : Heap) (k : Nat) (f : Addr) (sp : Sp) : Prop where
  go : ∀ (A : Around) (outer : List PySem.Env) (s : Shared) (H : Hp) (us : List Value) (vs : List V) (Q : VK) (E : XK), RoomB cb k A → A.guards = some [] → Env0 P w K mg base A outer s H →
    Vals vs us → sp vs H Q E → codeAny (model P w) A (.call (.ref f) ⟨us, []⟩) (CR (L2.CX P w) outer P w H s Q E) s
section
variable {P : Program} {w : World} {K : PySem.W.Frag} {mg : Str → Option Value} {base : Heap} {cb : Bool}
theorem FnV.imp {k : Nat} {f : Addr} {sp sp' : Sp} (F : FnV cb P w K mg base k f sp) (h : ∀ vs H Q E, sp' vs H Q E → sp vs H Q E) : FnV cb P w K mg base k f sp' :=
  ⟨fun A outer s H us vs Q E hr hg e0 rv hq => F.go A outer s H us vs Q E hr hg e0 rv (h vs H Q E hq)⟩
end
end DL
end
section
namespace DL
open PySem PySem.Spec PyProof.Rows L2
end DL
end
section
namespace DL
open PySem PySem.Spec PyProof.Rows L2
structure DefA where
  at_ : PySem.W.Frag → Addr
  name : Str
  qual : Str
  params : Arguments
  body : List Stmt
  scope : Scope
def fnA (K : PySem.W.Frag) (a : Addr) : He.FnW := match K.lookup a with
  | some ⟨_, _, .func fd, _⟩ => some (fd.name, fd.qualname, fd.params, fd.body, fd.scope, fd.globals, fd.closure, fd.builtins)
  | _ => none
def DefA.val (d : DefA) : He.FnW := some (d.name, d.qual, d.params, .stmts d.body, d.scope, mainGlobals, [], builtinsNs)
def DefA.ok (K : PySem.W.Frag) (d : DefA) : Bool := PySem.W.keepIn K (.ref (d.at_ K)) && (match K.lookup (d.at_ K) with
  | some ⟨_, _, .func fd, _⟩ => PySem.W.codeIn K fd.code d.qual && (He.dflB K fd.defaults [] && He.kwdB K fd.kwdefaults [])
  | _ => false)
theorem DefA.funD {K : PySem.W.Frag} {d : DefA} (e : fnA K (d.at_ K) = d.val) (c : d.ok K = true) : ∃ fd, FunD K d.name d.qual d.params d.body d.scope [] [] (d.at_ K) fd := by
  obtain ⟨kp, c2⟩ := He.ba c
  unfold fnA at e
  cases q : K.lookup (d.at_ K) with
  | none => rw [q] at c2; cases c2
  | some o =>
    obtain ⟨oc, od, dt, osl⟩ := o
    rw [q] at c2 e
    cases dt with
    | func fd =>
      obtain ⟨a1, a2, a3, a4, a5, a6, a7, dv, kv, dc, pm, an, cdv, ct, bn⟩ := fd
      have e2 : (some (a1, a2, a3, a4, a5, a6, a7, bn) : He.FnW) = some (d.name, d.qual, d.params, .stmts d.body, d.scope, mainGlobals, [], builtinsNs) := e
      simp only [Option.some.injEq, Prod.mk.injEq] at e2
      obtain ⟨g1, g2, g3, g4, g5, g6, g7, g8⟩ := e2
      subst g1 g2 g3 g4 g5 g6 g7 g8
      have c3 : (PySem.W.codeIn K cdv d.qual && (He.dflB K dv [] && He.kwdB K kv [])) = true := c2
      obtain ⟨k1, k2⟩ := He.ba c3
      obtain ⟨k3, k4⟩ := He.ba k2
      exact ⟨_, ⟨oc, od, dv, kv, dc, pm, an, cdv, ct, osl, rfl, q, k1, He.dflB_ok k3, He.kwdB_ok k4⟩, kp⟩
    | _ => cases c2
abbrev AlW : Type := AlH × (Bool × List He.FnW)
def obsWK (fa : List He.Fa) (fn : List He.DefD) (fp : List DefA) (ex : PySem.W.Frag → Bool) (K : PySem.W.Frag) : AlW := ((He.obsD fa fn K, ex K), (fp.all fun d => d.ok K, fp.map fun d => fnA K (d.at_ K)))
structure SaysW (fa : List He.Fa) (fn : List He.DefD) (fp : List DefA) (ex : PySem.W.Frag → Bool) (K : PySem.W.Frag) : Prop where
  d : He.SaysD fa fn K
  x : ex K = true
  ok : (fp.all fun d => d.ok K) = true
  e : (fp.map fun d => fnA K (d.at_ K)) = fp.map DefA.val
theorem SaysW.def_ {fa : List He.Fa} {fn : List He.DefD} {fp : List DefA} {ex : PySem.W.Frag → Bool} {K : PySem.W.Frag} (c : SaysW fa fn fp ex K) (i : Nat) {d : DefA} (h : fp[i]? = some d := by rfl) : ∃ fd, FunD K d.name d.qual d.params d.body d.scope [] [] (d.at_ K) fd := by
  have e2 : (fp.map fun d => fnA K (d.at_ K))[i]? = (fp.map DefA.val)[i]? := by rw [c.e]
  rw [List.getElem?_map, List.getElem?_map, h] at e2
  exact DefA.funD (Option.some.inj e2) (List.all_eq_true.mp c.ok d (List.mem_of_getElem? h))
end DL
end
section
namespace DL
open PySem PySem.Spec PyProof.Rows L2
def clsPB (K : PySem.W.Frag) (n : Str) : Bool := (He.Fa.cls n).ok K && fldN.all fun f => (He.Fa.noat n f).ok K
theorem clsPB_ok {K : PySem.W.Frag} {n : Str} (h : clsPB K n = true) : ClsP K n := by
  unfold clsPB at h
  rw [Bool.and_eq_true, List.all_eq_true] at h
  exact ⟨He.cls_ok h.1, fun f hf => He.noat_ok (h.2 f hf)⟩
/-- the method m of c is o's -/
def metPB (K : PySem.W.Frag) (c o m : Str) : Bool := (He.Fa.meth c m).ok K && decide (He.ma K (He.ga K c) m = He.ma K (He.ga K o) m)
theorem metPB_ok {K : PySem.W.Frag} {c o m : Str} (h : metPB K c o m = true) : Meth K (He.ga K c) m (He.ma K (He.ga K o) m) := by
  unfold metPB at h
  rw [Bool.and_eq_true, decide_eq_true_eq] at h
  rw [← h.2]
  exact He.meth_ok h.1
/-- the maker of c is o's -/
def mkPB (K : PySem.W.Frag) (c o : Str) : Bool := (He.Fa.mkr c).ok K && decide (He.ma K (He.ga K c) "__init__" = He.ma K (He.ga K o) "__init__")
theorem mkPB_ok {K : PySem.W.Frag} {c o : Str} (h : mkPB K c o = true) : Mk K (He.ga K c) (He.ma K (He.ga K o) "__init__") := by
  unfold mkPB at h
  rw [Bool.and_eq_true, decide_eq_true_eq] at h
  rw [← h.2]
  exact He.mkr_ok h.1
def prPo (K : PySem.W.Frag) (c f : Str) : Addr := He.ma K (He.ga K c) f
def prGo (K : PySem.W.Frag) (c f : Str) : Addr := match PySem.W.recIn K (prPo K c f) "property" with
  | some (.ref g :: _) => g
  | _ => 0
def propPB (K : PySem.W.Frag) (c o f : Str) : Bool := He.eqO (PySem.W.findIn K (.ref (He.ga K c)) f) (some (some (.ref (prPo K c f)))) && (He.eqO (PySem.W.specialIn K (.ref (prPo K c f)) "__get__") (some (some (.builtin "property.__get__"))) && (decide (PySem.W.takesIn K (.ref (prPo K c f)) = some true) &&
  ((match PySem.W.recIn K (prPo K c f) "property" with
  | some (.ref _ :: _) => true
  | _ => false) && decide (prPo K c f = prPo K o f))))
theorem propPB_ok {K : PySem.W.Frag} {c o f : Str} (h : propPB K c o f = true) : PropOf K (He.ga K c) f (prPo K o f) (prGo K o f) := by
  obtain ⟨h1, h⟩ := He.ba h
  obtain ⟨h2, h⟩ := He.ba h
  obtain ⟨h3, h⟩ := He.ba h
  obtain ⟨h4, h5⟩ := He.ba h
  have e := of_decide_eq_true h5
  unfold prGo
  rw [← e]
  refine ⟨He.eqO_ok h1, He.eqO_ok h2, of_decide_eq_true h3, ?_⟩
  split at h4
  · rename_i g r e
    exact ⟨r, by rw [e]⟩
  · cases h4
def refL (g : Addr → Option Obj) (sel : Data → List Addr) (as : List Addr) : List Addr := as.flatMap fun a => match g a with
  | some o => sel o.data
  | none => []
def codeR : Data → List Addr
  | .func fd => He.refV fd.code ++ He.refV fd.defaults
  | _ => []
def nsR : Data → List Addr
  | .cls cd => [cd.ns]
  | _ => []
def dictR : Data → List Addr
  | .dict es _ => es.toList.flatMap fun e => He.refV e.val
  | _ => []
def fldR : Data → List Addr
  | .fields vs => vs.toList.flatMap He.refV
  | _ => []
/-- the module's names, the classes' dicts, what these hold, what properties hold, the code of all functions -/
def asP (g : Addr → Option Obj) : List Addr :=
  (fun l1 => (fun l3 => (fun l4 => sysModules :: mainGlobals :: (l1 ++ refL g nsR l1 ++ l3 ++ l4 ++ refL g codeR l1 ++ refL g codeR l3 ++ refL g codeR l4)) (refL g fldR l3)) (refL g dictR (refL g nsR l1))) (refL g dictR [mainGlobals])
def obsP (fa : List He.Fa) (fn : List He.DefD) (fp : List DefA) (ex : PySem.W.Frag → Bool) (g : Addr → Option Obj) : AlW := obsWK fa fn fp ex (He.frG g (cStatics :: asP g))
def hookP (fa : List He.Fa) (fn : List He.DefD) (fp : List DefA) (ex : PySem.W.Frag → Bool) : PySem.W.Hook where
  α := AlW
  obs := fun s => obsP fa fn fp ex s.heap.get?
  val := fun _ => ((He.valD fn, true), (true, fp.map DefA.val))
  says := fun _ h => ∃ K : PySem.W.Frag, K.In h ∧ SaysW fa fn fp ex K
  of := fun _ _ e => ⟨_, He.frG_in, congrArg (fun z : AlW => z.1.1) e, congrArg (fun z : AlW => z.1.2) e, congrArg (fun z : AlW => z.2.1) e, congrArg (fun z : AlW => z.2.2) e⟩
  keeps := fun _ _ _ ⟨K, hK, c⟩ k => ⟨K, PySem.W.Frag.In.keeps hK k, c⟩
theorem obsP_eq {fa : List He.Fa} {fn : List He.DefD} {fp : List DefA} {ex : PySem.W.Frag → Bool} {g : Addr → Option Obj} {s : Shared} (h : ∀ a, g a = s.heap.get? a) : obsP fa fn fp ex g = (hookP fa fn fp ex).obs s := by
  have e : g = s.heap.get? := funext h
  rw [e] <;> rfl
structure Pt where
  fa : List He.Fa
  fn : List He.DefD
  fp : List DefA
  ex : PySem.W.Frag → Bool
abbrev Pt.hk (p : Pt) : PySem.W.Hook := hookP p.fa p.fn p.fp p.ex
def Pt.ob (p : Pt) (s : PySem.W.SharedT) : AlW := obsP p.fa p.fn p.fp p.ex (HandSHeadRun.getT s)
abbrev Pt.Says (p : Pt) (K : PySem.W.Frag) : Prop := SaysW p.fa p.fn p.fp p.ex K
def hookL (ps : List Pt) : PySem.W.Hook where
  α := List AlW
  obs := fun s => ps.map fun p => obsP p.fa p.fn p.fp p.ex s.heap.get?
  val := fun _ => ps.map fun p => ((He.valD p.fn, true), (true, p.fp.map DefA.val))
  says := fun _ h => ∃ K : PySem.W.Frag, K.In h ∧ ∀ p ∈ ps, p.Says K
  of := fun _ s e => ⟨He.frG s.heap.get? (cStatics :: asP s.heap.get?), He.frG_in, fun p hp => by
    have e2 : obsP p.fa p.fn p.fp p.ex s.heap.get? = ((He.valD p.fn, true), (true, p.fp.map DefA.val)) := List.map_inj_left.mp e p hp
    exact ⟨congrArg (fun z : AlW => z.1.1) e2, congrArg (fun z : AlW => z.1.2) e2, congrArg (fun z : AlW => z.2.1) e2, congrArg (fun z : AlW => z.2.2) e2⟩⟩
  keeps := fun _ _ _ ⟨K, hK, c⟩ k => ⟨K, PySem.W.Frag.In.keeps hK k, c⟩
def obL (ps : List Pt) (s : PySem.W.SharedT) : List AlW := ps.map fun p => p.ob s
theorem obL_eq (ps : List Pt) (s : PySem.W.SharedT) : obL ps s = (hookL ps).obs s.abs :=
  List.map_congr_left fun p _ => obsP_eq (HandSHeadRun.getT_eq s)
theorem run_parts {r : PySem.W.OpenRow} {q : Program} {M : Nat} {loose : List Str} {w : World} {ps : List Pt} (p0 : Pt) (h0 : p0 ∈ ps) (h : ∀ p ∈ ps, HandSHeadRun.RunEq r q p.hk p.ob M loose w) : HandSHeadRun.RunEq r q (hookL ps) (obL ps) M loose w := by
  intro os
  obtain ⟨s, hs, hv⟩ := Option.map_eq_some_iff.mp (h p0 h0 os)
  rw [hs]
  obtain ⟨l1, l23⟩ := Prod.mk.inj hv
  obtain ⟨l2, _⟩ := Prod.mk.inj l23
  refine congrArg some (Prod.ext l1 (Prod.ext l2 (List.map_congr_left fun p hp => ?_)))
  have z := h p hp os
  rw [hs] at z
  exact congrArg (fun x : Bool × _ × AlW => x.2.2) (Option.some.inj z)
end DL
end
section
namespace DLP0
open PySem PySem.W PySem.Calls PyProof.Rows
section
variable {prog : Program} {w : World} {A : Around} {E : Value → Shared → Prop} {s : Shared} {env : Env} {elts : List Expr} {k : Nat} {pos : Pos}
theorem star1 {l : Addr} {items : Array Value} {Q : List Value → Shared → Prop} (hl : IsTup s.heap l items) (hh : A.handled = none) (h1 : 1 ≤ items.size) (hz : items.size ≤ 16384)
    (h : ∀ (h2 : Heap) (tk : Nat), (∀ b o, s.heap.get? b = some o → h2.get? b = some o) → Q (items.toList.take 1 ++ [.ref h2.objs.size]) { s with heap := h2.push { cls := .type "list", data := .seq (items.toList.drop 1).toArray }, toks := tk }) : wpAny (model prog w) A (unpackItems (.ref l) 2 (some 1)) Q E s := by
  have hlt : l ≠ s.heap.objs.size := by obtain ⟨o, ho, _⟩ := hl; exact Nat.ne_of_lt (Heap.lt_size ho)
  have hll : l < s.heap.objs.size := by obtain ⟨o, ho, _⟩ := hl; exact Heap.lt_size ho
  unfold unpackItems
  refine wpAny_bind ?_
  unfold notIterableAtAll
  refine wpAny_bind (wpAny_specialOf hl.typeIs slot_tuple_iter.lookup ?_)
  refine wpAny_pure ?_
  simp only [Bool.false_eq_true, if_false]
  refine wpAny_bind (wpAny_holding (iter_tuple hl ?_))
  refine wpAny_bind (wpAny_holding (draw_tuple hlt 1 0 _ _ ⟨_, Heap.get?_push_size _ rfl, rfl, rfl⟩ (hl.push _) (by omega) fun h₁ hit₁ hs₁ => ?_))
  have hl₁ : IsTup h₁ l items := (hl.push _).extBut hs₁.extBut hlt
  rw [Nat.zero_add] at hit₁
  have hit₁' := hit₁
  obtain ⟨oi, hoi, _⟩ := hit₁'
  have hl₁' := hl₁
  obtain ⟨ol, hol, _⟩ := hl₁'
  rw [List.drop_zero]
  have hfl : (items.toList.take 1).length = 1 := by rw [List.length_take, Array.length_toList]; omega
  rw [if_neg (show ¬ ((items.toList.take 1).length < 1) by rw [hfl]; omega)]
  refine wpAny_bind (wpAny_holding (kun_collect (s := { s with heap := h₁ }) (T := "tuple_iterator") (.inr (.inr (.inr rfl))) (Walks.tuple (A := A.in1) hh s.heap.objs.size l hlt items) (fun j u st => st.1.typeIs) (k := 1) (by omega) ⟨hit₁, hl₁⟩ (Heap.lt_size hoi) (Heap.lt_size hol) (fun h₂ tk hk => ?_) (by rw [sizeLine_eq]; omega)))
  show wpAny _ _ (if (items.toList.drop 1).length < 0 then _ else _) _ _ _
  rw [if_neg (Nat.not_lt_zero _)]
  show wpAny _ _ (newList ((items.toList.drop 1).take ((items.toList.drop 1).length - 0)) >>= fun d => pure (items.toList.take 1 ++ [d] ++ (items.toList.drop 1).drop ((items.toList.drop 1).length - 0))) _ _ _
  rw [Nat.sub_zero, List.take_length, List.drop_length]
  simp only [List.append_nil]
  have he : ∀ b o, s.heap.get? b = some o → h₂.get? b = some o := fun b o e => hk b o (Nat.ne_of_lt (Heap.lt_size e)) (hs₁.extBut b o (Nat.ne_of_lt (Heap.lt_size e)) (Heap.get?_push_of_some _ e))
  exact wpAny_bind (wpAny_newList (wpAny_pure (h h₂ tk he)) (hsz := by rw [List.length_drop, Array.length_toList, sizeLine_eq]; omega))
end
end DLP0
namespace DL
open PySem PySem.Spec PyProof.Rows L2
section
variable {X : Cx} {p : Par} {k : Nat} {cb vb : Bool}
def gStarT (K : PySem.W.Frag) (t : TGs) : TG := fun v σ H Q => ∃ a x xs, v = .ref a ∧ SqT K H a (x :: xs) ∧ xs.length ≤ 1000 ∧ ∀ q, H q = none → t [x, .ref q] σ (upd H q (.lst xs)) Q
theorem pg_starT (hc : X.calm = true) (nd : X.N.Nodup) {i j : Nat} {x y : Str} {k0 : _} {p1 p2 p3 pos : Pos} (hi : X.N[i]? = some x) (hj : X.N[j]? = some y) (hx : Loc X.env.scope x) (hy : Loc X.env.scope y)
    (hfx : X.fn x = true ∨ X.env.scope.names.lookup x = some .local := by first | exact .inl rfl | exact .inr rfl) (hfy : X.fn y = true ∨ X.env.scope.names.lookup y = some .local := by first | exact .inl rfl | exact .inr rfl)
    (hs : (assignEach [.Name x p1, .Starred (.Name y p2) p3] X.env).map (·.2) = [assign (.Name x p1) X.env, assign (.Name y p2) X.env] := by rfl)
    (hn : (assignEach [.Name x p1, .Starred (.Name y p2) p3] X.env).length = 2 := by rfl) (hst : (assignEach [.Name x p1, .Starred (.Name y p2) p3] X.env).findIdx? (·.1) = some 1 := by rfl) :
    PG X (.Tuple [.Name x p1, .Starred (.Name y p2) p3] k0 pos) (gStarT X.K (gCons (gName i) (gCons (gName j) gNil))) := by
  refine ⟨fun pins s σ H v u Q I r hw => ?_⟩
  obtain ⟨a, v0, xs, e0, hq, hl, hw⟩ := hw
  subst e0
  cases r
  obtain ⟨its, rv, ht, hz⟩ := I.tuple hq
  have hlen := rv.length
  rw [PyProof.Rows.assign_Tuple]
  refine wpAny_bind (wpAny_standAt ?_)
  unfold unpack
  rw [hn, hst]
  refine wpAny_bind (wpAny_holding (DLP0.star1 ht (I.ok.hd hc) (by simp [← hlen]) (by simp [← hlen]; omega) fun h2 tk k2 => ?_))
  have I2 : Inv X pins σ H { s with heap := h2, toks := tk } := I.kept k2
  have hf : H h2.objs.size = none := I2.hok.fresh (Nat.le_refl _)
  cases rv with
  | @cons _ u0 _ us r0 rr =>
    have I3 : Inv X pins σ (upd H h2.objs.size (.lst xs)) { s with heap := h2.push { cls := .type "list", data := .seq us.toArray }, toks := tk } := I2.laid (t' := tk) (fun b u e => Heap.get?_push_of_some _ e) (Nat.le_refl _) ⟨by rw [sizeLine_eq]; omega, us, 0, rr, Heap.get?_push_size _ rfl⟩
    have h := hw h2.objs.size hf
    obtain ⟨v1, vr, e1, h⟩ := h
    cases e1
    rw [hs]
    refine assignInOrder_cons (thn ((pg_name nd hi hx hfx).run pins _ σ _ _ _ _ I3 r0 h) fun _ s1 ⟨σ1, H1, I1, q1⟩ => ?_)
    obtain ⟨v2, vr2, e2, h2'⟩ := q1
    cases e2
    refine assignInOrder_cons (thn ((pg_name nd hj hy hfy).run pins s1 σ1 H1 _ _ _ I1 (show RelV (.ref h2.objs.size) (Value.ref h2.objs.size) from rfl) h2') fun _ s2 ⟨σ2, H2, I2', q2⟩ => ?_)
    obtain ⟨_, q3⟩ := q2
    exact assignInOrder_nil ⟨σ2, H2, I2', q3⟩
theorem sd_starT (S : SitB true true X p k) {i j : Nat} {x y : Str} {e : Expr} {m : XE} {k0 : _} {p1 p2 p3 pt pos : Pos} (hi : X.N[i]? = some x) (hj : X.N[j]? = some y) (hx : Loc X.env.scope x) (hy : Loc X.env.scope y) (he : PD X p e m)
    (hfx : X.fn x = true ∨ X.env.scope.names.lookup x = some .local := by first | exact .inl rfl | exact .inr rfl) (hfy : X.fn y = true ∨ X.env.scope.names.lookup y = some .local := by first | exact .inl rfl | exact .inr rfl)
    (hss : swapsWithSole [.Tuple [.Name x p1, .Starred (.Name y p2) p3] k0 pt] e pos.line X.env = pure false := by rfl) (hw : swappedStores [.Tuple [.Name x p1, .Starred (.Name y p2) p3] k0 pt] e X.env = pure none := by rfl)
    (h1 : (assignEach [.Tuple [.Name x p1, .Starred (.Name y p2) p3] k0 pt] X.env).map (·.2) = [assign (.Tuple [.Name x p1, .Starred (.Name y p2) p3] k0 pt) X.env] := by rfl)
    (hs : (assignEach [.Name x p1, .Starred (.Name y p2) p3] X.env).map (·.2) = [assign (.Name x p1) X.env, assign (.Name y p2) X.env] := by rfl)
    (hn : (assignEach [.Name x p1, .Starred (.Name y p2) p3] X.env).length = 2 := by rfl) (hst : (assignEach [.Name x p1, .Starred (.Name y p2) p3] X.env).findIdx? (·.1) = some 1 := by rfl) :
    PSD X p (.Assign [.Tuple [.Name x p1, .Starred (.Name y p2) p3] k0 pt] e pos) (sStarT i j m) := by
  obtain ⟨te, a1, a2⟩ := he.ex
  refine ⟨_, ps_asg a1 (pg_starT S.calm S.nd hi hj hx hy hfx hfy hs hn hst) hss hw h1, fun B H σ E c P Dn st r m nx rt bk ct => ?_⟩
  refine a2 B H σ E _ _ _ st r m fun d c1 v H1 m1 e1 s1 r1 => ?_
  have st1 := st.go e1 s1
  cases r1 with
  | @tup a xs ds q t =>
    cases t with
    | nil => exact (show False from m1).elim
    | @cons v vs d ds r0 t =>
      refine ⟨a, v, vs, rfl, q, by rw [t.length]; exact m1.1, fun b hb => ?_⟩
      have al : All H1 (upd H1 b (.lst vs)) := All.new hb
      have st2 := st1.go al.ev (st1.all S.ok al)
      refine ⟨v, [.ref b], rfl, .ref b, [], rfl, rfl, ?_⟩
      exact nx _ _ B _ _ m1.2 st2 ((st.up e1).trans (.of al.ext)) ((((r.go st e1).go st1 al.ev).val S.nf i (r0.mono al.ext)).val S.nf j (rep_lst st1.trk hb t))
  | _ => exact m1.elim
end
end DL
end
section
namespace Wk76
open PySem PySem.Spec PyProof.Rows DL
def top (i : Nat) : Stmt := PySem.Challenge.pw_wrapwidths_k76_edits_of_pages.main.body.getD i (.Pass ⟨0, 0, 0, 0⟩)
abbrev s_is_integer : Stmt := top 26
abbrev s_is_length : Stmt := top 27
abbrev s_row_error : Stmt := top 28
abbrev s_check_place : Stmt := top 29
abbrev s_check_length : Stmt := top 38
abbrev s_changed : Stmt := top 39
abbrev s_put_in : Stmt := top 40
abbrev s_taken_out : Stmt := top 41
abbrev s_edited : Stmt := top 52
abbrev s__law_stream : Stmt := top 55
abbrev s__law_draw : Stmt := top 56
abbrev s__law_pick : Stmt := top 57
abbrev s__law_is_int : Stmt := top 58
abbrev s__law_row_drawn : Stmt := top 59
abbrev s__law_name : Stmt := top 60
abbrev s__law_field : Stmt := top 61
abbrev s__law_apply : Stmt := top 62
abbrev s__law_did : Stmt := top 63
abbrev s__law_due : Stmt := top 64
abbrev s__law_seen : Stmt := top 65
abbrev s__law_due_seen : Stmt := top 66
abbrev s__law_edit : Stmt := top 67
abbrev s__law_went : Stmt := top 68
abbrev s_law : Stmt := top 69
abbrev s_Page_init : Stmt := (clsBody (top 53)).getD 2 (.Pass ⟨0, 0, 0, 0⟩)
abbrev s_Page_row : Stmt := (clsBody (top 53)).getD 5 (.Pass ⟨0, 0, 0, 0⟩)
abbrev s_Page_size : Stmt := (clsBody (top 53)).getD 6 (.Pass ⟨0, 0, 0, 0⟩)
abbrev s_Page_version : Stmt := (clsBody (top 53)).getD 7 (.Pass ⟨0, 0, 0, 0⟩)
abbrev s_Page_accept : Stmt := (clsBody (top 53)).getD 12 (.Pass ⟨0, 0, 0, 0⟩)
abbrev s_Page_check_idle : Stmt := (clsBody (top 53)).getD 13 (.Pass ⟨0, 0, 0, 0⟩)
abbrev s_Page_perform : Stmt := (clsBody (top 53)).getD 14 (.Pass ⟨0, 0, 0, 0⟩)
abbrev s_Page_perform_alone : Stmt := (clsBody (top 53)).getD 15 (.Pass ⟨0, 0, 0, 0⟩)
abbrev s_Page_put : Stmt := (clsBody (top 53)).getD 16 (.Pass ⟨0, 0, 0, 0⟩)
abbrev s_Page_cut : Stmt := (clsBody (top 53)).getD 17 (.Pass ⟨0, 0, 0, 0⟩)
abbrev s_Page_resize : Stmt := (clsBody (top 53)).getD 18 (.Pass ⟨0, 0, 0, 0⟩)
abbrev s_Page_turn : Stmt := (clsBody (top 53)).getD 19 (.Pass ⟨0, 0, 0, 0⟩)
abbrev s_Page_undo : Stmt := (clsBody (top 53)).getD 20 (.Pass ⟨0, 0, 0, 0⟩)
abbrev s_Page_edits : Stmt := (clsBody (top 53)).getD 24 (.Pass ⟨0, 0, 0, 0⟩)
abbrev s_Page_len : Stmt := (clsBody (top 53)).getD 32 (.Pass ⟨0, 0, 0, 0⟩)
abbrev s_Page_str : Stmt := (clsBody (top 53)).getD 33 (.Pass ⟨0, 0, 0, 0⟩)
theorem sc_is_integer : L2.FnScope ["value", "low", "high"] ["value", "low", "high"] (L2.defScope s_is_integer) := ⟨rfl, rfl, rfl, by decide +kernel, rfl, by decide +kernel, by decide +kernel⟩
theorem sc_is_length : L2.FnScope ["value"] ["value"] (L2.defScope s_is_length) := ⟨rfl, rfl, rfl, by decide +kernel, rfl, by decide +kernel, by decide +kernel⟩
theorem sc_row_error : L2.FnScope ["value", "index", "item"] ["value"] (L2.defScope s_row_error) := ⟨rfl, rfl, rfl, by decide +kernel, rfl, by decide +kernel, by decide +kernel⟩
theorem sc_check_place : L2.FnScope ["row", "value"] ["row", "value"] (L2.defScope s_check_place) := ⟨rfl, rfl, rfl, by decide +kernel, rfl, by decide +kernel, by decide +kernel⟩
theorem sc_check_length : L2.FnScope ["value"] ["value"] (L2.defScope s_check_length) := ⟨rfl, rfl, rfl, by decide +kernel, rfl, by decide +kernel, by decide +kernel⟩
theorem sc_changed : L2.FnScope ["row", "place", "length"] ["row", "place", "length"] (L2.defScope s_changed) := ⟨rfl, rfl, rfl, by decide +kernel, rfl, by decide +kernel, by decide +kernel⟩
theorem sc_put_in : L2.FnScope ["row", "place", "length"] ["row", "place", "length"] (L2.defScope s_put_in) := ⟨rfl, rfl, rfl, by decide +kernel, rfl, by decide +kernel, by decide +kernel⟩
theorem sc_taken_out : L2.FnScope ["row", "place"] ["row", "place"] (L2.defScope s_taken_out) := ⟨rfl, rfl, rfl, by decide +kernel, rfl, by decide +kernel, by decide +kernel⟩
theorem sc_edited : L2.FnScope ["row", "edit", "name", "values"] ["row", "edit"] (L2.defScope s_edited) := ⟨rfl, rfl, rfl, by decide +kernel, rfl, by decide +kernel, by decide +kernel⟩
theorem sc__law_stream : L2.FnScope ["_law_script", "_law_cells", "_law_cell"] ["_law_script"] (L2.defScope s__law_stream) := ⟨rfl, rfl, rfl, by decide +kernel, rfl, by decide +kernel, by decide +kernel⟩
theorem sc__law_draw : L2.FnScope ["_law_stream_here", "_law_many", "_law_rest", "_law_turn", "_law_cell", "_law_mixed"] ["_law_stream_here", "_law_many"] (L2.defScope s__law_draw) := ⟨rfl, rfl, rfl, by decide +kernel, rfl, by decide +kernel, by decide +kernel⟩
theorem sc__law_pick : L2.FnScope ["_law_stream_here", "_law_items"] ["_law_stream_here", "_law_items"] (L2.defScope s__law_pick) := ⟨rfl, rfl, rfl, by decide +kernel, rfl, by decide +kernel, by decide +kernel⟩
theorem sc__law_is_int : L2.FnScope ["_law_value", "_law_low", "_law_high"] ["_law_value", "_law_low", "_law_high"] (L2.defScope s__law_is_int) := ⟨rfl, rfl, rfl, by decide +kernel, rfl, by decide +kernel, by decide +kernel⟩
theorem sc__law_row_drawn : L2.FnScope ["_law_stream_here", "_law_most", "_law_size", "_law_way", "_law_top", "_law_found", "_law_part", "_law_k"] ["_law_stream_here", "_law_most"] (L2.defScope s__law_row_drawn) := ⟨rfl, rfl, rfl, by decide +kernel, rfl, by decide +kernel, by decide +kernel⟩
theorem sc__law_name : L2.FnScope ["_law_error", "_law_names", "_law_flags", "_law_bases"] ["_law_error"] (L2.defScope s__law_name) := ⟨rfl, rfl, rfl, by decide +kernel, rfl, by decide +kernel, by decide +kernel⟩
theorem sc__law_field : L2.FnScope ["_law_error"] ["_law_error"] (L2.defScope s__law_field) := ⟨rfl, rfl, rfl, by decide +kernel, rfl, by decide +kernel, by decide +kernel⟩
theorem sc__law_apply : L2.FnScope ["_law_page", "_law_edit_here"] ["_law_page", "_law_edit_here"] (L2.defScope s__law_apply) := ⟨rfl, rfl, rfl, by decide +kernel, rfl, by decide +kernel, by decide +kernel⟩
theorem sc__law_did : L2.FnScope ["_law_page", "_law_edit_here", "_law_error"] ["_law_page", "_law_edit_here"] (L2.defScope s__law_did) := ⟨rfl, rfl, rfl, by decide +kernel, rfl, by decide +kernel, by decide +kernel⟩
theorem sc__law_due : L2.FnScope ["_law_model", "_law_edit_here", "_law_row", "_law_name_here", "_law_size", "_law_after", "_law_place", "_law_far"] ["_law_model", "_law_edit_here"] (L2.defScope s__law_due) := ⟨rfl, rfl, rfl, by decide +kernel, rfl, by decide +kernel, by decide +kernel⟩
theorem sc__law_seen : L2.FnScope ["_law_page"] ["_law_page"] (L2.defScope s__law_seen) := ⟨rfl, rfl, rfl, by decide +kernel, rfl, by decide +kernel, by decide +kernel⟩
theorem sc__law_due_seen : L2.FnScope ["_law_model", "_law_row", "_law_done", "_law_text"] ["_law_model"] (L2.defScope s__law_due_seen) := ⟨rfl, rfl, rfl, by decide +kernel, rfl, by decide +kernel, by decide +kernel⟩
theorem sc__law_edit : L2.FnScope ["_law_stream_here", "_law_row", "_law_name_here", "_law_length", "_law_place"] ["_law_stream_here", "_law_row"] (L2.defScope s__law_edit) := ⟨rfl, rfl, rfl, by decide +kernel, rfl, by decide +kernel, by decide +kernel⟩
theorem sc__law_went : L2.FnScope ["_law_page", "_law_model", "_law_edit_here", "_law_states", "_law_done", "_law_due_here"] ["_law_page", "_law_model", "_law_edit_here"] (L2.defScope s__law_went) := ⟨rfl, rfl, rfl, by decide +kernel, rfl, by decide +kernel, by decide +kernel⟩
theorem sc_law : L2.FnScope ["_law_script", "_law_stream_here", "_law_turn", "_law_row", "_law_page", "_law_model", "_law_k", "_law_edit_here", "_law_shown", "_law_size"] ["_law_script"] (L2.defScope s_law) := ⟨rfl, rfl, rfl, by decide +kernel, rfl, by decide +kernel, by decide +kernel⟩
theorem sc_Page_init : L2.FnScope ["self", "row", "error"] ["self", "row"] (L2.defScope s_Page_init) := ⟨rfl, rfl, rfl, by decide +kernel, rfl, by decide +kernel, by decide +kernel⟩
theorem sc_Page_row : L2.FnScope ["self"] ["self"] (L2.defScope s_Page_row) := ⟨rfl, rfl, rfl, by decide +kernel, rfl, by decide +kernel, by decide +kernel⟩
theorem sc_Page_size : L2.FnScope ["self"] ["self"] (L2.defScope s_Page_size) := ⟨rfl, rfl, rfl, by decide +kernel, rfl, by decide +kernel, by decide +kernel⟩
theorem sc_Page_version : L2.FnScope ["self"] ["self"] (L2.defScope s_Page_version) := ⟨rfl, rfl, rfl, by decide +kernel, rfl, by decide +kernel, by decide +kernel⟩
theorem sc_Page_accept : L2.FnScope ["self", "row"] ["self", "row"] (L2.defScope s_Page_accept) := ⟨rfl, rfl, rfl, by decide +kernel, rfl, by decide +kernel, by decide +kernel⟩
theorem sc_Page_check_idle : L2.FnScope ["self"] ["self"] (L2.defScope s_Page_check_idle) := ⟨rfl, rfl, rfl, by decide +kernel, rfl, by decide +kernel, by decide +kernel⟩
theorem sc_Page_perform : L2.FnScope ["self", "edit", "row"] ["self", "edit"] (L2.defScope s_Page_perform) := ⟨rfl, rfl, rfl, by decide +kernel, rfl, by decide +kernel, by decide +kernel⟩
theorem sc_Page_perform_alone : L2.FnScope ["self", "edit"] ["self", "edit"] (L2.defScope s_Page_perform_alone) := ⟨rfl, rfl, rfl, by decide +kernel, rfl, by decide +kernel, by decide +kernel⟩
theorem sc_Page_put : L2.FnScope ["self", "place", "length"] ["self", "place", "length"] (L2.defScope s_Page_put) := ⟨rfl, rfl, rfl, by decide +kernel, rfl, by decide +kernel, by decide +kernel⟩
theorem sc_Page_cut : L2.FnScope ["self", "place"] ["self", "place"] (L2.defScope s_Page_cut) := ⟨rfl, rfl, rfl, by decide +kernel, rfl, by decide +kernel, by decide +kernel⟩
theorem sc_Page_resize : L2.FnScope ["self", "place", "length"] ["self", "place", "length"] (L2.defScope s_Page_resize) := ⟨rfl, rfl, rfl, by decide +kernel, rfl, by decide +kernel, by decide +kernel⟩
theorem sc_Page_turn : L2.FnScope ["self"] ["self"] (L2.defScope s_Page_turn) := ⟨rfl, rfl, rfl, by decide +kernel, rfl, by decide +kernel, by decide +kernel⟩
theorem sc_Page_undo : L2.FnScope ["self"] ["self"] (L2.defScope s_Page_undo) := ⟨rfl, rfl, rfl, by decide +kernel, rfl, by decide +kernel, by decide +kernel⟩
theorem sc_Page_edits : L2.FnScope ["self"] ["self"] (L2.defScope s_Page_edits) := ⟨rfl, rfl, rfl, by decide +kernel, rfl, by decide +kernel, by decide +kernel⟩
theorem sc_Page_len : L2.FnScope ["self"] ["self"] (L2.defScope s_Page_len) := ⟨rfl, rfl, rfl, by decide +kernel, rfl, by decide +kernel, by decide +kernel⟩
theorem sc_Page_str : L2.FnScope ["self"] ["self"] (L2.defScope s_Page_str) := ⟨rfl, rfl, rfl, by decide +kernel, rfl, by decide +kernel, by decide +kernel⟩
abbrev i_TooMany : Stmt := (clsBody (top 8)).getD 0 (.Pass ⟨0, 0, 0, 0⟩)
abbrev i_BadLength : Stmt := (clsBody (top 10)).getD 0 (.Pass ⟨0, 0, 0, 0⟩)
abbrev i_BadRow : Stmt := (clsBody (top 12)).getD 0 (.Pass ⟨0, 0, 0, 0⟩)
abbrev i_NoPlace : Stmt := (clsBody (top 22)).getD 0 (.Pass ⟨0, 0, 0, 0⟩)
structure Txt (K : PySem.W.Frag) (mg : Str → Option Value) where
  fd_is_integer : FuncData
  F_is_integer : FnP K "is_integer" "is_integer" s_is_integer (He.ga K "is_integer") fd_is_integer
  D_is_integer : Def K mg "is_integer" (He.ga K "is_integer") fd_is_integer ["value", "low", "high"]
  fd_is_length : FuncData
  F_is_length : FnP K "is_length" "is_length" s_is_length (He.ga K "is_length") fd_is_length
  D_is_length : Def K mg "is_length" (He.ga K "is_length") fd_is_length ["value"]
  fd_row_error : FuncData
  F_row_error : FnP K "row_error" "row_error" s_row_error (He.ga K "row_error") fd_row_error
  D_row_error : Def K mg "row_error" (He.ga K "row_error") fd_row_error ["value"]
  fd_check_place : FuncData
  F_check_place : FnP K "check_place" "check_place" s_check_place (He.ga K "check_place") fd_check_place
  D_check_place : Def K mg "check_place" (He.ga K "check_place") fd_check_place ["row", "value"]
  fd_check_length : FuncData
  F_check_length : FnP K "check_length" "check_length" s_check_length (He.ga K "check_length") fd_check_length
  D_check_length : Def K mg "check_length" (He.ga K "check_length") fd_check_length ["value"]
  fd_changed : FuncData
  F_changed : FnP K "changed" "changed" s_changed (He.ga K "changed") fd_changed
  D_changed : Def K mg "changed" (He.ga K "changed") fd_changed ["row", "place", "length"]
  fd_put_in : FuncData
  F_put_in : FnP K "put_in" "put_in" s_put_in (He.ga K "put_in") fd_put_in
  D_put_in : Def K mg "put_in" (He.ga K "put_in") fd_put_in ["row", "place", "length"]
  fd_taken_out : FuncData
  F_taken_out : FnP K "taken_out" "taken_out" s_taken_out (He.ga K "taken_out") fd_taken_out
  D_taken_out : Def K mg "taken_out" (He.ga K "taken_out") fd_taken_out ["row", "place"]
  fd_edited : FuncData
  F_edited : FnP K "edited" "edited" s_edited (He.ga K "edited") fd_edited
  D_edited : Def K mg "edited" (He.ga K "edited") fd_edited ["row", "edit"]
  fd__law_stream : FuncData
  F__law_stream : FnP K "_law_stream" "_law_stream" s__law_stream (He.ga K "_law_stream") fd__law_stream
  D__law_stream : Def K mg "_law_stream" (He.ga K "_law_stream") fd__law_stream ["_law_script"]
  fd__law_draw : FuncData
  F__law_draw : FnP K "_law_draw" "_law_draw" s__law_draw (He.ga K "_law_draw") fd__law_draw
  D__law_draw : Def K mg "_law_draw" (He.ga K "_law_draw") fd__law_draw ["_law_stream_here", "_law_many"]
  fd__law_pick : FuncData
  F__law_pick : FnP K "_law_pick" "_law_pick" s__law_pick (He.ga K "_law_pick") fd__law_pick
  D__law_pick : Def K mg "_law_pick" (He.ga K "_law_pick") fd__law_pick ["_law_stream_here", "_law_items"]
  fd__law_is_int : FuncData
  F__law_is_int : FnP K "_law_is_int" "_law_is_int" s__law_is_int (He.ga K "_law_is_int") fd__law_is_int
  D__law_is_int : Def K mg "_law_is_int" (He.ga K "_law_is_int") fd__law_is_int ["_law_value", "_law_low", "_law_high"]
  fd__law_row_drawn : FuncData
  F__law_row_drawn : FnP K "_law_row_drawn" "_law_row_drawn" s__law_row_drawn (He.ga K "_law_row_drawn") fd__law_row_drawn
  D__law_row_drawn : Def K mg "_law_row_drawn" (He.ga K "_law_row_drawn") fd__law_row_drawn ["_law_stream_here", "_law_most"]
  fd__law_name : FuncData
  F__law_name : FnP K "_law_name" "_law_name" s__law_name (He.ga K "_law_name") fd__law_name
  D__law_name : Def K mg "_law_name" (He.ga K "_law_name") fd__law_name ["_law_error"]
  fd__law_field : FuncData
  F__law_field : FnP K "_law_field" "_law_field" s__law_field (He.ga K "_law_field") fd__law_field
  D__law_field : Def K mg "_law_field" (He.ga K "_law_field") fd__law_field ["_law_error"]
  fd__law_apply : FuncData
  F__law_apply : FnP K "_law_apply" "_law_apply" s__law_apply (He.ga K "_law_apply") fd__law_apply
  D__law_apply : Def K mg "_law_apply" (He.ga K "_law_apply") fd__law_apply ["_law_page", "_law_edit_here"]
  fd__law_did : FuncData
  F__law_did : FnP K "_law_did" "_law_did" s__law_did (He.ga K "_law_did") fd__law_did
  D__law_did : Def K mg "_law_did" (He.ga K "_law_did") fd__law_did ["_law_page", "_law_edit_here"]
  fd__law_due : FuncData
  F__law_due : FnP K "_law_due" "_law_due" s__law_due (He.ga K "_law_due") fd__law_due
  D__law_due : Def K mg "_law_due" (He.ga K "_law_due") fd__law_due ["_law_model", "_law_edit_here"]
  fd__law_seen : FuncData
  F__law_seen : FnP K "_law_seen" "_law_seen" s__law_seen (He.ga K "_law_seen") fd__law_seen
  D__law_seen : Def K mg "_law_seen" (He.ga K "_law_seen") fd__law_seen ["_law_page"]
  fd__law_due_seen : FuncData
  F__law_due_seen : FnP K "_law_due_seen" "_law_due_seen" s__law_due_seen (He.ga K "_law_due_seen") fd__law_due_seen
  D__law_due_seen : Def K mg "_law_due_seen" (He.ga K "_law_due_seen") fd__law_due_seen ["_law_model"]
  fd__law_edit : FuncData
  F__law_edit : FnP K "_law_edit" "_law_edit" s__law_edit (He.ga K "_law_edit") fd__law_edit
  D__law_edit : Def K mg "_law_edit" (He.ga K "_law_edit") fd__law_edit ["_law_stream_here", "_law_row"]
  fd__law_went : FuncData
  F__law_went : FnP K "_law_went" "_law_went" s__law_went (He.ga K "_law_went") fd__law_went
  D__law_went : Def K mg "_law_went" (He.ga K "_law_went") fd__law_went ["_law_page", "_law_model", "_law_edit_here"]
  fd_law : FuncData
  F_law : FnP K "law" "law" s_law (He.ga K "law") fd_law
  D_law : Def K mg "law" (He.ga K "law") fd_law ["_law_script"]
  fd_Page_init : FuncData
  F_Page_init : FnP K "__init__" "Page.__init__" s_Page_init (He.ma K (He.ga K "Page") "__init__") fd_Page_init
  B_Page_init : L2.Binds K fd_Page_init ["self", "row"] []
  fd_Page_row : FuncData
  F_Page_row : FnP K "row" "Page.row" s_Page_row (prGo K "Page" "row") fd_Page_row
  B_Page_row : L2.Binds K fd_Page_row ["self"] []
  fd_Page_size : FuncData
  F_Page_size : FnP K "size" "Page.size" s_Page_size (prGo K "Page" "size") fd_Page_size
  B_Page_size : L2.Binds K fd_Page_size ["self"] []
  fd_Page_version : FuncData
  F_Page_version : FnP K "version" "Page.version" s_Page_version (prGo K "Page" "version") fd_Page_version
  B_Page_version : L2.Binds K fd_Page_version ["self"] []
  fd_Page_accept : FuncData
  F_Page_accept : FnP K "accept" "Page.accept" s_Page_accept (He.ma K (He.ga K "Page") "accept") fd_Page_accept
  B_Page_accept : L2.Binds K fd_Page_accept ["self", "row"] []
  fd_Page_check_idle : FuncData
  F_Page_check_idle : FnP K "check_idle" "Page.check_idle" s_Page_check_idle (He.ma K (He.ga K "Page") "check_idle") fd_Page_check_idle
  B_Page_check_idle : L2.Binds K fd_Page_check_idle ["self"] []
  fd_Page_perform : FuncData
  F_Page_perform : FnP K "perform" "Page.perform" s_Page_perform (He.ma K (He.ga K "Page") "perform") fd_Page_perform
  B_Page_perform : L2.Binds K fd_Page_perform ["self", "edit"] []
  fd_Page_perform_alone : FuncData
  F_Page_perform_alone : FnP K "perform_alone" "Page.perform_alone" s_Page_perform_alone (He.ma K (He.ga K "Page") "perform_alone") fd_Page_perform_alone
  B_Page_perform_alone : L2.Binds K fd_Page_perform_alone ["self", "edit"] []
  fd_Page_put : FuncData
  F_Page_put : FnP K "put" "Page.put" s_Page_put (He.ma K (He.ga K "Page") "put") fd_Page_put
  B_Page_put : L2.Binds K fd_Page_put ["self", "place", "length"] []
  fd_Page_cut : FuncData
  F_Page_cut : FnP K "cut" "Page.cut" s_Page_cut (He.ma K (He.ga K "Page") "cut") fd_Page_cut
  B_Page_cut : L2.Binds K fd_Page_cut ["self", "place"] []
  fd_Page_resize : FuncData
  F_Page_resize : FnP K "resize" "Page.resize" s_Page_resize (He.ma K (He.ga K "Page") "resize") fd_Page_resize
  B_Page_resize : L2.Binds K fd_Page_resize ["self", "place", "length"] []
  fd_Page_turn : FuncData
  F_Page_turn : FnP K "turn" "Page.turn" s_Page_turn (He.ma K (He.ga K "Page") "turn") fd_Page_turn
  B_Page_turn : L2.Binds K fd_Page_turn ["self"] []
  fd_Page_undo : FuncData
  F_Page_undo : FnP K "undo" "Page.undo" s_Page_undo (He.ma K (He.ga K "Page") "undo") fd_Page_undo
  B_Page_undo : L2.Binds K fd_Page_undo ["self"] []
  fd_Page_edits : FuncData
  F_Page_edits : FnP K "edits" "Page.edits" s_Page_edits (He.ma K (He.ga K "Page") "edits") fd_Page_edits
  B_Page_edits : L2.Binds K fd_Page_edits ["self"] []
  fd_Page_len : FuncData
  F_Page_len : FnP K "__len__" "Page.__len__" s_Page_len (He.ma K (He.ga K "Page") "__len__") fd_Page_len
  B_Page_len : L2.Binds K fd_Page_len ["self"] []
  fd_Page_str : FuncData
  F_Page_str : FnP K "__str__" "Page.__str__" s_Page_str (He.ma K (He.ga K "Page") "__str__") fd_Page_str
  B_Page_str : L2.Binds K fd_Page_str ["self"] []
  C_Page : ClsP K "Page"
  MK_Page : L2.Mk K (He.ga K "Page") (He.ma K (He.ga K "Page") "__init__")
  m_Page : mg "Page" = some (.ref (He.ga K "Page"))
  M_Page_len : L2.Meth K (He.ga K "Page") "__len__" (He.ma K (He.ga K "Page") "__len__")
  M_Page_str : L2.Meth K (He.ga K "Page") "__str__" (He.ma K (He.ga K "Page") "__str__")
  M_Page_accept : L2.Meth K (He.ga K "Page") "accept" (He.ma K (He.ga K "Page") "accept")
  M_Page_check_idle : L2.Meth K (He.ga K "Page") "check_idle" (He.ma K (He.ga K "Page") "check_idle")
  M_Page_cut : L2.Meth K (He.ga K "Page") "cut" (He.ma K (He.ga K "Page") "cut")
  M_Page_edits : L2.Meth K (He.ga K "Page") "edits" (He.ma K (He.ga K "Page") "edits")
  M_Page_perform : L2.Meth K (He.ga K "Page") "perform" (He.ma K (He.ga K "Page") "perform")
  M_Page_perform_alone : L2.Meth K (He.ga K "Page") "perform_alone" (He.ma K (He.ga K "Page") "perform_alone")
  M_Page_put : L2.Meth K (He.ga K "Page") "put" (He.ma K (He.ga K "Page") "put")
  M_Page_resize : L2.Meth K (He.ga K "Page") "resize" (He.ma K (He.ga K "Page") "resize")
  M_Page_turn : L2.Meth K (He.ga K "Page") "turn" (He.ma K (He.ga K "Page") "turn")
  M_Page_undo : L2.Meth K (He.ga K "Page") "undo" (He.ma K (He.ga K "Page") "undo")
  P_Page_row : L2.PropOf K (He.ga K "Page") "row" (prPo K "Page" "row") (prGo K "Page" "row")
  P_Page_size : L2.PropOf K (He.ga K "Page") "size" (prPo K "Page" "size") (prGo K "Page" "size")
  P_Page_version : L2.PropOf K (He.ga K "Page") "version" (prPo K "Page" "version") (prGo K "Page" "version")
  g_LookupError : mg "LookupError" = none
  g_ValueError : mg "ValueError" = none
  g_abs : mg "abs" = none
  g_bool : mg "bool" = none
  g_enumerate : mg "enumerate" = none
  g_int : mg "int" = none
  g_isinstance : mg "isinstance" = none
  g_len : mg "len" = none
  g_min : mg "min" = none
  g_range : mg "range" = none
  g_repr : mg "repr" = none
  g_str : mg "str" = none
  g_tuple : mg "tuple" = none
  g_MAX_EDITS : ∃ t, mg "MAX_EDITS" = some (.int (60) t)
  g_MAX_LENGTH : ∃ t, mg "MAX_LENGTH" = some (.int (60) t)
  g_MAX_WORDS : ∃ t, mg "MAX_WORDS" = some (.int (24) t)
  m_WrapError : mg "WrapError" = some (.ref (He.ga K "WrapError"))
  p_WrapError : here K "WrapError" = true
  m_TooMany : mg "TooMany" = some (.ref (He.ga K "TooMany"))
  p_TooMany : here K "TooMany" = true
  m_TooNarrow : mg "TooNarrow" = some (.ref (He.ga K "TooNarrow"))
  p_TooNarrow : here K "TooNarrow" = true
  m_BadLength : mg "BadLength" = some (.ref (He.ga K "BadLength"))
  p_BadLength : here K "BadLength" = true
  m_LastWord : mg "LastWord" = some (.ref (He.ga K "LastWord"))
  p_LastWord : here K "LastWord" = true
  m_BadRow : mg "BadRow" = some (.ref (He.ga K "BadRow"))
  p_BadRow : here K "BadRow" = true
  m_BadTimes : mg "BadTimes" = some (.ref (He.ga K "BadTimes"))
  p_BadTimes : here K "BadTimes" = true
  m_TooLong : mg "TooLong" = some (.ref (He.ga K "TooLong"))
  p_TooLong : here K "TooLong" = true
  m_TooManyEdits : mg "TooManyEdits" = some (.ref (He.ga K "TooManyEdits"))
  p_TooManyEdits : here K "TooManyEdits" = true
  m_NothingToUndo : mg "NothingToUndo" = some (.ref (He.ga K "NothingToUndo"))
  p_NothingToUndo : here K "NothingToUndo" = true
  m_BadEdits : mg "BadEdits" = some (.ref (He.ga K "BadEdits"))
  p_BadEdits : here K "BadEdits" = true
  m_BadEdit : mg "BadEdit" = some (.ref (He.ga K "BadEdit"))
  p_BadEdit : here K "BadEdit" = true
  m_Rejected : mg "Rejected" = some (.ref (He.ga K "Rejected"))
  p_Rejected : here K "Rejected" = true
  m_Busy : mg "Busy" = some (.ref (He.ga K "Busy"))
  p_Busy : here K "Busy" = true
  m_BadText : mg "BadText" = some (.ref (He.ga K "BadText"))
  p_BadText : here K "BadText" = true
  m_NoPlace : mg "NoPlace" = some (.ref (He.ga K "NoPlace"))
  p_NoPlace : here K "NoPlace" = true
  m_NoWidth : mg "NoWidth" = some (.ref (He.ga K "NoWidth"))
  p_NoWidth : here K "NoWidth" = true
  m_NoVersion : mg "NoVersion" = some (.ref (He.ga K "NoVersion"))
  p_NoVersion : here K "NoVersion" = true
  E_TooMany : ErrT K "TooMany" .limit .ve
  E_BadLength : ErrT K "BadLength" .value .ve
  E_LastWord : ErrZ K "LastWord" .ve
  E_BadRow : ErrT K "BadRow" .error .ve
  E_TooManyEdits : ErrZ K "TooManyEdits" .ve
  E_NothingToUndo : ErrZ K "NothingToUndo" .ve
  E_Busy : ErrZ K "Busy" .ve
  E_NoPlace : ErrT K "NoPlace" .value .le
section
variable {P : Program} {w : World} {K : PySem.W.Frag} {mg : Str → Option Value} {base : Heap}
theorem Txt.ok_Page_row (T : Txt K mg) (sm : HasSm base) : FnG true P w K mg base 1 (prGo K "Page" "row") T.fd_Page_row ["self"] (spC K mg w_Page_row_0) :=
  fn_cel sm T.F_Page_row sc_Page_row (by decide) fun cdv A outer s H E p S Z hp => ssd_one (sd_ret (pd_get S Z (pd_var 0)))
theorem Txt.ok_Page_size (T : Txt K mg) (sm : HasSm base) : FnG true P w K mg base 1 (prGo K "Page" "size") T.fd_Page_size ["self"] (spC K mg w_Page_size_0) :=
  fn_cel sm T.F_Page_size sc_Page_size (by decide) fun cdv A outer s H E p S Z hp => ssd_one (sd_ret (pd_call1 S c_len T.g_len (pd_get S Z (pd_var 0))))
theorem Txt.ok_Page_version (T : Txt K mg) (sm : HasSm base) : FnG true P w K mg base 1 (prGo K "Page" "version") T.fd_Page_version ["self"] (spC K mg w_Page_version_0) :=
  fn_cel sm T.F_Page_version sc_Page_version (by decide) fun cdv A outer s H E p S Z hp => ssd_one (sd_ret (pd_call1 S c_len T.g_len (pd_get S Z (pd_var 0))))
theorem Txt.ok_Page_accept (T : Txt K mg) (sm : HasSm base) : FnG true P w K mg base 1 (He.ma K (He.ga K "Page") "accept") T.fd_Page_accept ["self", "row"] (spC K mg w_Page_accept_0) :=
  fn_cel sm T.F_Page_accept sc_Page_accept (by decide) fun cdv A outer s H E p S Z hp => ssd_one (sd_pass)
theorem Txt.ok_Page_check_idle (T : Txt K mg) (sm : HasSm base) : FnG true P w K mg base 1 (He.ma K (He.ga K "Page") "check_idle") T.fd_Page_check_idle ["self"] (spC K mg w_Page_check_idle_0) :=
  fn_cel sm T.F_Page_check_idle sc_Page_check_idle (by decide) fun cdv A outer s H E p S Z hp => ssd_one (sd_if (pt_tru (pd_get S Z (pd_var 0))) (ssd_one (sd_raise0 S T.E_Busy T.m_Busy)) (ssd_nil))
theorem Txt.ok_Page_edits (T : Txt K mg) (sm : HasSm base) : FnG true P w K mg base 1 (He.ma K (He.ga K "Page") "edits") T.fd_Page_edits ["self"] (spC K mg w_Page_edits_0) :=
  fn_cel sm T.F_Page_edits sc_Page_edits (by decide) fun cdv A outer s H E p S Z hp => ssd_one (sd_ret (pd_get S Z (pd_var 0)))
theorem Txt.ok_Page_len (T : Txt K mg) (sm : HasSm base) : FnG true P w K mg base 1 (He.ma K (He.ga K "Page") "__len__") T.fd_Page_len ["self"] (spC K mg w_Page_len_0) :=
  fn_cel sm T.F_Page_len sc_Page_len (by decide) fun cdv A outer s H E p S Z hp => ssd_one (sd_ret (pd_call1 S c_len T.g_len (pd_get S Z (pd_var 0))))
theorem Txt.ok_Page_str (T : Txt K mg) (sm : HasSm base) : FnG true P w K mg base 1 (He.ma K (He.ga K "Page") "__str__") T.fd_Page_str ["self"] (spC K mg w_Page_str_0) :=
  fn_cel sm T.F_Page_str sc_Page_str (by decide) fun cdv A outer s H E p S Z hp => ssd_one (sd_ret (pd_fs (.val (pd_call1 S c_len T.g_len (pd_get S Z (pd_var 0))) (.con (.val (pd_call1 S c_len T.g_len (pd_get S Z (pd_var 0))) (.con (.nil)))))))
theorem Txt.ok_is_integer (T : Txt K mg) (sm : HasSm base) : FnG true P w K mg base 1 (He.ga K "is_integer") T.fd_is_integer ["value", "low", "high"] (spF K mg w_is_integer_0) :=
  fn_pure sm T.F_is_integer sc_is_integer (by decide) fun cdv A outer s H E p S Z hp => ssd_one (sd_ret (pd_and (pd_is S .int (pd_var 0) T.g_isinstance T.g_int) (pd_and (pd_not (pd_is S .bool (pd_var 0) T.g_isinstance T.g_bool)) (pd_one (pd_chain S .le .le (pd_var 1) (pd_var 0) (pd_var 2))))))
theorem Txt.ok__law_stream (T : Txt K mg) (sm : HasSm base) : FnG true P w K mg base 1 (He.ga K "_law_stream") T.fd__law_stream ["_law_script"] (spMake K) :=
  fn_stream sm T.F__law_stream sc__law_stream rfl fun cdv A outer s H E p S =>
    ⟨_, _, _, fun t1 te1 te2 h1 h2 h3 => L2.pss_cons h1 (L2.pss_one (L2.ps_ret (L2.pe_lst (L2.pa_cons h2 (L2.pa_cons h3 (L2.pa_cons L2.pe_int L2.pa_nil)))))),
      sd_comp S (i := 1) (t := .nm 2) [("_law_cell", 2)] rfl rfl (L2.sw_true rfl rfl rfl (by decide +kernel)) (pi_scr 0 (L2.pv 0)) (L2.blkOk_by (N := ["_law_script", "_law_cells", "_law_cell"]) (sc := L2.defScope s__law_stream) (by decide +kernel)) (by decide) (fun _ _ _ _ _ => L2.pg_name (i := 2) S.nd rfl (Or.inl rfl)) (fun _ _ _ _ _ S => pdts_nil) (fun _ _ _ _ _ S => pd_call1 S c_abs T.g_abs (pd_var 2)),
      pf_comp S (t := .nm 2) [("_law_cell", 2)] (pi_lstD (pd_var 1)) (L2.blkOk_by (N := ["_law_script", "_law_cells", "_law_cell"]) (sc := L2.defScope s__law_stream) (by decide +kernel)) (by decide) (fun _ _ _ _ _ => L2.pg_name (i := 2) S.nd rfl (Or.inl rfl)) (fun _ _ _ _ _ S => pdts_one (pt_cmpD S .ge (pd_var 2) (pd_bin S .pow pd_int pd_int))) (fun _ _ _ _ _ S => pd_var 2),
      pd_if (pt_cmpD S .ne (pd_var 1) (pd_lst S pda_nil)) (pd_var 1) (pd_lst S (pda_cons pd_int pda_nil))⟩
theorem Txt.ok__law_draw (T : Txt K mg) (sm : HasSm base) : FnG true P w K mg base 1 (He.ga K "_law_draw") T.fd__law_draw ["_law_stream_here", "_law_many"] (spS K mg fDraw) :=
  fn_draw sm T.F__law_draw sc__law_draw rfl fun cdv A outer s H E p S =>
    L2.pss_cons (L2.ps_while S.po (L2.pt_cmpR (op_cmpD S.un .ne) (L2.pe_ix L2.ix_list (L2.pv 0) L2.pe_int (fun _ _ => rfl)) (L2.pe_lst L2.pa_nil) (L2.nomark _))
      (L2.pss_cons (L2.ps_set (i := 2) S.nd rfl (Or.inl rfl) (L2.pe_ix ix_D (L2.pe_ix L2.ix_list (L2.pv 0) L2.pe_int (fun _ _ => rfl)) L2.pe_int (fun _ _ => rfl)))
        (L2.pss_cons (L2.ps_if (L2.pt_cmpR (op_cmpD S.un .gt) (L2.pv 2) L2.pe_int (L2.nomark _))
            (L2.pss_cons (L2.ps_asg (L2.pe_op (op_binD .fdiv) (L2.pv 2) (L2.pv 1)) (L2.pg_sub (L2.pe_ix L2.ix_list (L2.pv 0) L2.pe_int (fun _ _ => rfl)) L2.pe_int L2.set_list)) (L2.pss_one (L2.ps_ret (L2.pe_op (op_binD .mod) (L2.pv 2) (L2.pv 1))))) L2.pss_nil)
          (L2.pss_one (L2.ps_expr (L2.pe_bm PySem.F.plainAttrs_list PySem.F.slot_list_pop PySem.F.type_list_pop L2.mt_popAt (L2.pe_ix L2.ix_list (L2.pv 0) L2.pe_int (fun _ _ => rfl)) (L2.pa_cons L2.pe_int L2.pa_nil)))))))
    (L2.pss_cons (L2.ps_set (i := 3) S.nd rfl (Or.inl rfl) (L2.pe_op (op_binD .add) (L2.pe_ix L2.ix_list (L2.pv 0) L2.pe_int (fun _ _ => rfl)) L2.pe_int))
    (L2.pss_cons (L2.ps_asg (L2.pv 3) (L2.pg_sub (L2.pv 0) L2.pe_int L2.set_list))
    (L2.pss_cons (L2.ps_set (i := 4) S.nd rfl (Or.inl rfl) (L2.pe_op (op_binD .mod) (L2.pe_ix ix_D (L2.pe_ix L2.ix_list (L2.pv 0) L2.pe_int (fun _ _ => rfl)) (L2.pe_op (op_binD .mod) (L2.pv 3) (L2.pe_callB c_len rfl T.g_len (by decide +kernel) (L2.pa_cons (L2.pe_ix L2.ix_list (L2.pv 0) L2.pe_int (fun _ _ => rfl)) L2.pa_nil))) (fun _ _ => rfl)) L2.pe_int))
    (L2.pss_cons (L2.ps_set (i := 5) S.nd rfl (Or.inl rfl) (L2.pe_op (op_binD .mod) (L2.pe_op (op_binD .add) (L2.pe_op (op_binD .add) (L2.pe_op (op_binD .mul) (L2.pv 4) (L2.pe_op (op_binD .add) L2.pe_int (L2.pe_op (op_binD .mul) L2.pe_int (L2.pv 3)))) (L2.pe_op (op_binD .mul) (L2.pe_op (op_binD .mul) L2.pe_int (L2.pv 3)) (L2.pv 3))) L2.pe_int) L2.pe_int))
    (L2.pss_one (L2.ps_ret (L2.pe_op (op_binD .mod) (L2.pe_op (op_binD .fdiv) (L2.pe_op (op_binD .mod) (L2.pe_op (op_binD .mul) (L2.pv 5) (L2.pv 5)) L2.pe_int) L2.pe_int) (L2.pv 1))))))))
theorem Txt.ok__law_is_int (T : Txt K mg) (sm : HasSm base) : FnG true P w K mg base 1 (He.ga K "_law_is_int") T.fd__law_is_int ["_law_value", "_law_low", "_law_high"] (spF K mg w__law_is_int_0) :=
  fn_pure sm T.F__law_is_int sc__law_is_int (by decide) fun cdv A outer s H E p S Z hp => ssd_one (sd_ret (pd_and (pd_is S .int (pd_var 0) T.g_isinstance T.g_int) (pd_and (pd_not (pd_is S .bool (pd_var 0) T.g_isinstance T.g_bool)) (pd_one (pd_chain S .le .le (pd_var 1) (pd_var 0) (pd_var 2))))))
theorem Txt.ok__law_name {hb : Bool} (T : Txt K mg) (sm : HasSm base) : FnG hb P w K mg base 1 (He.ga K "_law_name") T.fd__law_name ["_law_error"] (spF K mg w__law_name_0) :=
  fn_pure sm T.F__law_name sc__law_name (by decide) fun cdv A outer s H E p S Z hp => ssd_cons (sd_set S (i := 1) rfl (Or.inl rfl) (pd_lst S (pda_cons (pd_str) (pda_cons (pd_str) (pda_cons (pd_str) (pda_cons (pd_str) (pda_cons (pd_str) (pda_cons (pd_str) (pda_cons (pd_str) (pda_cons (pd_str) (pda_cons (pd_str) (pda_nil))))))))))))
    (ssd_cons (sd_set S (i := 1) rfl (Or.inl rfl) (pd_bin S .add (pd_var 1) (pd_lst S (pda_cons (pd_str) (pda_cons (pd_str) (pda_cons (pd_str) (pda_cons (pd_str) (pda_cons (pd_str) (pda_cons (pd_str) (pda_cons (pd_str) (pda_cons (pd_str) (pda_nil))))))))))))
    (ssd_cons (sd_set S (i := 2) rfl (Or.inl rfl) (pd_lst S (pda_cons (pd_isC (pd_var 0) T.g_isinstance (clsN_o T.p_BadEdit T.m_BadEdit)) (pda_cons (pd_isC (pd_var 0) T.g_isinstance (clsN_o T.p_BadEdits T.m_BadEdits)) (pda_cons (pd_isC (pd_var 0) T.g_isinstance (clsN_o T.p_BadLength T.m_BadLength)) (pda_nil))))))
    (ssd_cons (sd_set S (i := 2) rfl (Or.inl rfl) (pd_bin S .add (pd_var 2) (pd_lst S (pda_cons (pd_isC (pd_var 0) T.g_isinstance (clsN_o T.p_BadRow T.m_BadRow)) (pda_cons (pd_isC (pd_var 0) T.g_isinstance (clsN_o T.p_BadText T.m_BadText)) (pda_cons (pd_isC (pd_var 0) T.g_isinstance (clsN_o T.p_BadTimes T.m_BadTimes)) (pda_nil)))))))
    (ssd_cons (sd_set S (i := 2) rfl (Or.inl rfl) (pd_bin S .add (pd_var 2) (pd_lst S (pda_cons (pd_isC (pd_var 0) T.g_isinstance (clsN_o T.p_Busy T.m_Busy)) (pda_cons (pd_isC (pd_var 0) T.g_isinstance (clsN_o T.p_LastWord T.m_LastWord)) (pda_cons (pd_isC (pd_var 0) T.g_isinstance (clsN_o T.p_NothingToUndo T.m_NothingToUndo)) (pda_nil)))))))
    (ssd_cons (sd_set S (i := 2) rfl (Or.inl rfl) (pd_bin S .add (pd_var 2) (pd_lst S (pda_cons (pd_isC (pd_var 0) T.g_isinstance (clsN_o T.p_Rejected T.m_Rejected)) (pda_cons (pd_isC (pd_var 0) T.g_isinstance (clsN_o T.p_TooLong T.m_TooLong)) (pda_cons (pd_isC (pd_var 0) T.g_isinstance (clsN_o T.p_TooMany T.m_TooMany)) (pda_nil)))))))
    (ssd_cons (sd_set S (i := 2) rfl (Or.inl rfl) (pd_bin S .add (pd_var 2) (pd_lst S (pda_cons (pd_isC (pd_var 0) T.g_isinstance (clsN_o T.p_TooManyEdits T.m_TooManyEdits)) (pda_cons (pd_isC (pd_var 0) T.g_isinstance (clsN_o T.p_TooNarrow T.m_TooNarrow)) (pda_cons (pd_isC (pd_var 0) T.g_isinstance (clsN_o T.p_NoPlace T.m_NoPlace)) (pda_nil)))))))
    (ssd_cons (sd_set S (i := 2) rfl (Or.inl rfl) (pd_bin S .add (pd_var 2) (pd_lst S (pda_cons (pd_isC (pd_var 0) T.g_isinstance (clsN_o T.p_NoVersion T.m_NoVersion)) (pda_cons (pd_isC (pd_var 0) T.g_isinstance (clsN_o T.p_NoWidth T.m_NoWidth)) (pda_nil))))))
    (ssd_cons (sd_set S (i := 3) rfl (Or.inl rfl) (pd_lst S (pda_cons (pd_isC (pd_var 0) T.g_isinstance (clsN_o T.p_WrapError T.m_WrapError)) (pda_cons (pd_isC (pd_var 0) T.g_isinstance (clsN_ve T.g_ValueError)) (pda_cons (pd_isC (pd_var 0) T.g_isinstance (clsN_le T.g_LookupError)) (pda_nil))))))
    (ssd_cons (sd_if (PDW.pt (pw_orD (pt_cmpD S .ne (pd_cnt (pd_var 2) (pd_bl) (fun h1 h2 => L2.pe_bm PySem.F.plainAttrs_list PySem.F.slot_list_count PySem.F.type_list_count mt_cntB h1 (L2.pa_cons h2 L2.pa_nil))) (pd_int)) (pw_or1D (pt_cmpD S .ne (pd_var 3) (pd_ix S (pd_lst S (pda_cons (pd_lst S (pda_cons (pd_bl) (pda_cons (pd_bl) (pda_cons (pd_bl) (pda_nil))))) (pda_cons (pd_lst S (pda_cons (pd_bl) (pda_cons (pd_bl) (pda_cons (pd_bl) (pda_nil))))) (pda_nil)))) (pd_callT1 S c_int T.g_int (pd_cmp S .gt (pd_ixof (pd_var 2) (pd_bl) (fun h1 h2 => L2.pe_bm PySem.F.plainAttrs_list PySem.F.slot_list_index PySem.F.type_list_index L2.mt_index h1 (L2.pa_cons h2 L2.pa_nil))) (pd_int)))))))) (ssd_one (sd_ret (pd_str))) (ssd_nil))
    (ssd_one (sd_ret (pd_ix S (pd_var 1) (pd_ixof (pd_var 2) (pd_bl) (fun h1 h2 => L2.pe_bm PySem.F.plainAttrs_list PySem.F.slot_list_index PySem.F.type_list_index L2.mt_index h1 (L2.pa_cons h2 L2.pa_nil)))))))))))))))
theorem Txt.ok__law_field {hb : Bool} (T : Txt K mg) (sm : HasSm base) : FnG hb P w K mg base 1 (He.ga K "_law_field") T.fd__law_field ["_law_error"] (spF K mg w__law_field_0) :=
  fn_pure sm T.F__law_field sc__law_field (by decide) fun cdv A outer s H E p S Z hp => ssd_cons (sd_if (pt_tru (pd_isCs S (pd_var 0) T.g_isinstance (.cons (clsN_o T.p_BadLength T.m_BadLength) (.cons (clsN_o T.p_BadTimes T.m_BadTimes) (.cons (clsN_o T.p_NoPlace T.m_NoPlace) (.cons (clsN_o T.p_NoVersion T.m_NoVersion) (.cons (clsN_o T.p_NoWidth T.m_NoWidth) (.nil)))))) (by decide))) (ssd_one (sd_ret (pd_fld .value (pd_var 0)))) (ssd_nil))
    (ssd_cons (sd_if (pt_tru (pd_isCs S (pd_var 0) T.g_isinstance (.cons (clsN_o T.p_BadEdit T.m_BadEdit) (.cons (clsN_o T.p_BadText T.m_BadText) (.cons (clsN_o T.p_Rejected T.m_Rejected) (.nil)))) (by decide))) (ssd_one (sd_ret (pd_fld .index (pd_var 0)))) (ssd_nil))
    (ssd_cons (sd_if (pt_tru (pd_isCs S (pd_var 0) T.g_isinstance (.cons (clsN_o T.p_TooLong T.m_TooLong) (.cons (clsN_o T.p_TooNarrow T.m_TooNarrow) (.nil))) (by decide))) (ssd_one (sd_ret (pd_fld .place (pd_var 0)))) (ssd_nil))
    (ssd_cons (sd_if (pt_tru (pd_isC (pd_var 0) T.g_isinstance (clsN_o T.p_TooMany T.m_TooMany))) (ssd_one (sd_ret (pd_fld .limit (pd_var 0)))) (ssd_nil))
    (ssd_one (sd_ret (pd_if (pt_tru (pd_isC (pd_var 0) T.g_isinstance (clsN_o T.p_BadRow T.m_BadRow))) (pd_fld .error (pd_var 0)) (pd_non)))))))
theorem Txt.ok__law_due_seen (T : Txt K mg) (sm : HasSm base) : FnG true P w K mg base 1 (He.ga K "_law_due_seen") T.fd__law_due_seen ["_law_model"] (spC K mg w__law_due_seen_0) :=
  fn_cel sm T.F__law_due_seen sc__law_due_seen (by decide) fun cdv A outer s H E p S Z hp => ssd_cons (sd_par S (i := 1) (j := 2) rfl rfl (by decide) rfl rfl (pd_ixV S Z (pd_ixV S Z (pd_var 0) (pd_int)) (pd_neg S (pd_int))) (pd_ixV S Z (pd_var 0) (pd_int)) rfl)
    (ssd_cons (sd_set S (i := 3) rfl (Or.inl rfl) (pd_bin S .add (pd_bin S .add (pd_bin S .add (pd_callT1 S c_str T.g_str (pd_call1 S c_len T.g_len (pd_var 1))) (pd_str)) (pd_callT1 S c_str T.g_str (pd_callV S Z c_len T.g_len (pd_var 2)))) (pd_str)))
    (ssd_one (sd_ret (pd_call1 S (c_repr S) T.g_repr (pd_lst S (pda_cons (pd_var 1) (pda_cons (pd_call1 S c_len T.g_len (pd_var 1)) (pda_cons (pd_callV S Z c_len T.g_len (pd_var 2)) (pda_cons (pd_callTV S Z c_tuple T.g_tuple (pd_var 2)) (pda_cons (pd_callV S Z c_len T.g_len (pd_var 2)) (pda_cons (pd_var 3) (pda_nil))))))))))))
theorem Txt.ok_Page_undo (T : Txt K mg) (sm : HasSm base) : FnG true P w K mg base 2 (He.ma K (He.ga K "Page") "undo") T.fd_Page_undo ["self"] (spC K mg w_Page_undo_0) :=
  fn_cel sm T.F_Page_undo sc_Page_undo (by decide) fun cdv A outer s H E p S Z hp => ssd_cons (sd_expr (pd_metC0 S Z (.cons ⟨⟨_, _, _, _, (by decide), T.ok_Page_check_idle sm, T.M_Page_check_idle, T.B_Page_check_idle⟩⟩ .nil) (pd_var 0)))
    (ssd_cons (sd_if (pt_cmpD S .eq (pd_get S Z (pd_var 0)) (pd_tup S (pda_nil))) (ssd_one (sd_raise0 S T.E_NothingToUndo T.m_NothingToUndo)) (ssd_nil))
    (ssd_cons (sd_setF2 S Z (pd_var 0) (pd_var 0) (pd_cut S (pd_get S Z (pd_var 0)) (pdo_none) (pdo_some (pd_neg S (pd_int)))) (pd_cut S (pd_get S Z (pd_var 0)) (pdo_none) (pdo_some (pd_neg S (pd_int)))))
    (ssd_cons (sd_setF S Z (pd_var 0) (pd_ix S (pd_get S Z (pd_var 0)) (pd_neg S (pd_int))))
    (ssd_one (sd_ret (pd_call1 S c_len T.g_len (pd_get S Z (pd_var 0))))))))
theorem Txt.ok_is_length (T : Txt K mg) (sm : HasSm base) : FnG true P w K mg base 2 (He.ga K "is_length") T.fd_is_length ["value"] (spF K mg w_is_length_0) :=
  fn_pure sm T.F_is_length sc_is_length (by decide) fun cdv A outer s H E p S Z hp => ssd_one (sd_ret (pd_fn S (T.ok_is_integer sm) (by decide) T.D_is_integer (pda_cons (pd_var 0) (pda_cons (pd_int) (pda_cons (pd_glob T.g_MAX_LENGTH) (pda_nil))))))
theorem Txt.ok_check_place (T : Txt K mg) (sm : HasSm base) : FnG true P w K mg base 2 (He.ga K "check_place") T.fd_check_place ["row", "value"] (spF K mg w_check_place_0) :=
  fn_pure sm T.F_check_place sc_check_place (by decide) fun cdv A outer s H E p S Z hp => ssd_one (sd_if (pt_notD (pt_tru (pd_fn S (T.ok_is_integer sm) (by decide) T.D_is_integer (pda_cons (pd_var 1) (pda_cons (pd_int) (pda_cons (pd_bin S .sub (pd_call1 S c_len T.g_len (pd_var 0)) (pd_int)) (pda_nil))))))) (ssd_one (sd_raise1 S T.E_NoPlace T.m_NoPlace (pd_var 1))) (ssd_nil))
theorem Txt.ok__law_pick (T : Txt K mg) (sm : HasSm base) : FnG true P w K mg base 2 (He.ga K "_law_pick") T.fd__law_pick ["_law_stream_here", "_law_items"] (spS K mg w__law_pick_0) :=
  fn_str sm T.F__law_pick sc__law_pick (by decide) fun cdv A outer s H E p S Z hp => ssd_one (sd_ret (pd_ix S (pd_var 1) (pd_fnS S Z (T.ok__law_draw sm) (by decide) T.D__law_draw (L2.pv 0) (pda_cons (pd_call1 S c_len T.g_len (pd_var 1)) (pda_nil)))))
theorem Txt.ok__law_row_drawn (T : Txt K mg) (sm : HasSm base) : FnG true P w K mg base 2 (He.ga K "_law_row_drawn") T.fd__law_row_drawn ["_law_stream_here", "_law_most"] (spS K mg w__law_row_drawn_0) :=
  fn_str sm T.F__law_row_drawn sc__law_row_drawn (by decide) fun cdv A outer s H E p S Z hp => ssd_cons (sd_par S (i := 2) (j := 3) rfl rfl (by decide) rfl rfl (pd_bin S .add (pd_int) (pd_fnS S Z (T.ok__law_draw sm) (by decide) T.D__law_draw (L2.pv 0) (pda_cons (pd_var 1) (pda_nil)))) (pd_fnS S Z (T.ok__law_draw sm) (by decide) T.D__law_draw (L2.pv 0) (pda_cons (pd_int) (pda_nil))) rfl)
    (ssd_cons (sd_set S (i := 4) rfl (Or.inr rfl) (pd_ix S (pd_lst S (pda_cons (pd_int) (pda_cons (pd_int) (pda_cons (pd_int) (pda_cons (pd_int) (pda_cons (pd_int) (pda_cons (pd_int) (pda_nil)))))))) (pd_var 3)))
    (ssd_cons (sd_own S (i := 5) rfl (Or.inr rfl) (pf_comp S (t := .nm 7) [("_law_k", 7)] (pi_rng1D (pd_var 2) T.g_range) (L2.blkOk_by (N := ["_law_stream_here", "_law_most", "_law_size", "_law_way", "_law_top", "_law_found", "_law_part", "_law_k"]) (sc := L2.defScope s__law_row_drawn) (by decide +kernel)) (by decide) (fun _ _ _ _ _ => L2.pg_name (i := 7) S.nd rfl (Or.inl rfl)) (fun _ _ _ _ _ S => pdts_nil) (fun _ _ _ _ _ S => pd_bin S .add (pd_int) (pd_fnS S Z (T.ok__law_draw sm) (by decide) T.D__law_draw (L2.pv 0) (pda_cons (pd_var 4) (pda_nil))))))
    (ssd_cons (sd_if (PDW.pt (pw_orD (pt_cmpD S .eq (pd_var 3) (pd_int)) (pw_or1D (pt_cmpD S .eq (pd_var 3) (pd_int))))) (ssd_one (sd_setI S 5 (L2.pg_sub (L2.pv 5) (PD.pe (pd_fnS S Z (T.ok__law_draw sm) (by decide) T.D__law_draw (L2.pv 0) (pda_cons (pd_var 2) (pda_nil)))) L2.set_list) (pd_bin S .add (pd_int) (pd_fnS S Z (T.ok__law_draw sm) (by decide) T.D__law_draw (L2.pv 0) (pda_cons (pd_int) (pda_nil)))))) (ssd_nil))
    (ssd_cons (sd_if (pt_cmpD S .eq (pd_var 3) (pd_int)) (ssd_cons (sd_set S (i := 6) rfl (Or.inr rfl) (pd_bin S .add (pd_int) (pd_fnS S Z (T.ok__law_draw sm) (by decide) T.D__law_draw (L2.pv 0) (pda_cons (pd_call2 S (c_min2 S.calm) T.g_min (pd_var 2) (pd_int)) (pda_nil)))))
    (ssd_one (sd_rel S 5 (sd_own S (i := 5) rfl (Or.inr rfl) (pf_comp S (t := .nm 7) [("_law_k", 7)] (pi_rng1D (pd_var 2) T.g_range) (L2.blkOk_by (N := ["_law_stream_here", "_law_most", "_law_size", "_law_way", "_law_top", "_law_found", "_law_part", "_law_k"]) (sc := L2.defScope s__law_row_drawn) (by decide +kernel)) (by decide) (fun _ _ _ _ _ => L2.pg_name (i := 7) S.nd rfl (Or.inl rfl)) (fun _ _ _ _ _ S => pdts_nil) (fun _ _ _ _ _ S => pd_ix S (pd_var 5) (pd_bin S .mod (pd_var 7) (pd_var 6)))))))) (ssd_nil))
    (ssd_one (sd_rel S 5 (sd_ret (pd_callT1 S c_tuple T.g_tuple (pd_var 5)))))))))
theorem Txt.ok__law_due (T : Txt K mg) (sm : HasSm base) : FnG true P w K mg base 2 (He.ga K "_law_due") T.fd__law_due ["_law_model", "_law_edit_here"] (spC K mg w__law_due_9) :=
  fn_cel sm T.F__law_due sc__law_due (by decide) fun cdv A outer s H E p S Z hp => ssd_cons (sd_set S (i := 2) rfl (Or.inl rfl) (pd_ixV S Z (pd_ixV S Z (pd_var 0) (pd_int)) (pd_neg S (pd_int))))
    (ssd_cons (sd_put S (t := .tp [3, 4, 5]) (pg_tl S.calm (L2.pgs_cons (L2.pg_name (i := 3) S.nd rfl (Or.inl rfl)) (L2.pgs_cons (L2.pg_name (i := 4) S.nd rfl (Or.inl rfl)) (L2.pgs_cons (L2.pg_name (i := 5) S.nd rfl (Or.inr rfl)) (L2.pgs_nil))))) (pd_tup S (pda_cons (pd_ix S (pd_var 1) (pd_int)) (pda_cons (pd_call1 S c_len T.g_len (pd_var 2)) (pda_cons (pd_rev S (pd_var 2)) (pda_nil))))))
    (ssd_cons (sd_if (pt_cmpD S .ne (pd_var 3) (pd_str)) (ssd_cons (sd_set S (i := 6) rfl (Or.inl rfl) (pd_ix S (pd_var 1) (pd_int)))
    (ssd_cons (sd_if (pt_notD (pt_tru (pd_fn S (T.ok__law_is_int sm) (by decide) T.D__law_is_int (pda_cons (pd_var 6) (pda_cons (pd_int) (pda_cons (pd_bin S .sub (pd_var 4) (pd_callT1 S c_int T.g_int (pd_cmp S .ne (pd_var 3) (pd_str)))) (pda_nil))))))) (ssd_one (sd_ret (pd_lst S (pda_cons (pd_str) (pda_cons (pd_var 6) (pda_nil)))))) (ssd_nil))
    (ssd_cons (sd_if (PDW.pt (pw_andD (pt_cmpD S .ne (pd_var 3) (pd_str)) (pw_and1D (pt_notD (pt_tru (pd_fn S (T.ok__law_is_int sm) (by decide) T.D__law_is_int (pda_cons (pd_ix S (pd_var 1) (pd_int)) (pda_cons (pd_int) (pda_cons (pd_int) (pda_nil)))))))))) (ssd_one (sd_ret (pd_lst S (pda_cons (pd_str) (pda_cons (pd_ix S (pd_var 1) (pd_int)) (pda_nil)))))) (ssd_nil))
    (ssd_cons (sd_if (PDW.pt (pw_andD (pt_cmpD S .eq (pd_var 3) (pd_str)) (pw_and1D (pt_cmpD S .eq (pd_var 4) (pd_int))))) (ssd_one (sd_ret (pd_lst S (pda_cons (pd_str) (pda_cons (pd_int) (pda_nil)))))) (ssd_nil))
    (ssd_cons (sd_if (PDW.pt (pw_andD (pt_cmpD S .eq (pd_var 3) (pd_str)) (pw_and1D (pt_cmpD S .eq (pd_var 4) (pd_int))))) (ssd_one (sd_ret (pd_lst S (pda_cons (pd_str) (pda_cons (pd_non) (pda_nil)))))) (ssd_nil))
    (ssd_one (sd_set S (i := 5) rfl (Or.inr rfl) (pd_bin S .add (pd_bin S .add (pd_cut S (pd_var 2) (pdo_none) (pdo_some (pd_var 6))) (pd_cut S (pd_var 1) (pdo_some (pd_int)) (pdo_none))) (pd_cut S (pd_var 2) (pdo_some (pd_bin S .add (pd_var 6) (pd_callT1 S c_int T.g_int (pd_cmp S .ne (pd_var 3) (pd_str))))) (pdo_none)))))))))) (ssd_nil))
    (ssd_cons (sd_comp S (i := 7) (t := .nm 6) [("_law_place", 6)] rfl rfl (L2.sw_true rfl rfl rfl (by decide +kernel)) (pi_rng1D (pd_call1 S c_len T.g_len (pd_var 5)) T.g_range) (L2.blkOk_by (N := ["_law_model", "_law_edit_here", "_law_row", "_law_name_here", "_law_size", "_law_after", "_law_place", "_law_far"]) (sc := L2.defScope s__law_due) (by decide +kernel)) (by decide) (fun _ _ _ _ _ => L2.pg_name (i := 6) S.nd rfl (Or.inl rfl)) (fun _ _ _ _ _ S => pdts_one (pt_cmpD S .gt (pd_ix S (pd_var 5) (pd_var 6)) (pd_int))) (fun _ _ _ _ _ S => pd_var 6))
    (ssd_one (sd_ret (pd_if (PDW.pt (pw_andD (pt_tru (pd_ixV S Z (pd_var 0) (pd_int))) (pw_and1D (pt_cmpD S .ne (pd_var 7) (pd_lst S (pda_nil)))))) (pd_lst S (pda_cons (pd_str) (pda_cons (pd_ix S (pd_var 7) (pd_int)) (pda_nil)))) (pd_lst S (pda_cons (pd_str) (pda_cons (pd_var 5) (pda_nil))))))))))
theorem Txt.ok_row_error (T : Txt K mg) (sm : HasSm base) : FnG true P w K mg base 3 (He.ga K "row_error") T.fd_row_error ["value"] (spF K mg w_row_error_0) :=
  fn_pure sm T.F_row_error sc_row_error (by decide) fun cdv A outer s H E p S Z hp => ssd_cons (sd_if (PDW.pt (pw_orD (pt_notD (pt_tru (pd_is S .tuple (pd_var 0) T.g_isinstance T.g_tuple))) (pw_or1D (pt_notD (pt_chainD S .le .le (pd_int) (pd_call1 S c_len T.g_len (pd_var 0)) (pd_glob T.g_MAX_WORDS)))))) (ssd_one (sd_ret (pd_tup S (pda_cons (pd_non) (pda_cons (pd_str) (pda_nil)))))) (ssd_nil))
    (ssd_cons (sd_for S (t := .tp [1, 2]) (pi_enum1D (pd_var 0) T.g_enumerate) (pg_tl S.calm (L2.pgs_cons (L2.pg_name (i := 1) S.nd rfl (Or.inl rfl)) (L2.pgs_cons (L2.pg_name (i := 2) S.nd rfl (Or.inl rfl)) (L2.pgs_nil)))) (ssd_one (sd_if (pt_notD (pt_tru (pd_fn S (T.ok_is_length sm) (by decide) T.D_is_length (pda_cons (pd_var 2) (pda_nil))))) (ssd_one (sd_ret (pd_tup S (pda_cons (pd_var 1) (pda_cons (pd_str) (pda_nil)))))) (ssd_nil))))
    (ssd_one (sd_ret (pd_non))))
theorem Txt.ok_check_length (T : Txt K mg) (sm : HasSm base) : FnG true P w K mg base 3 (He.ga K "check_length") T.fd_check_length ["value"] (spF K mg w_check_length_0) :=
  fn_pure sm T.F_check_length sc_check_length (by decide) fun cdv A outer s H E p S Z hp => ssd_one (sd_if (pt_notD (pt_tru (pd_fn S (T.ok_is_length sm) (by decide) T.D_is_length (pda_cons (pd_var 0) (pda_nil))))) (ssd_one (sd_raise1 S T.E_BadLength T.m_BadLength (pd_var 0))) (ssd_nil))
theorem Txt.ok_taken_out (T : Txt K mg) (sm : HasSm base) : FnG true P w K mg base 3 (He.ga K "taken_out") T.fd_taken_out ["row", "place"] (spF K mg w_taken_out_0) :=
  fn_pure sm T.F_taken_out sc_taken_out (by decide) fun cdv A outer s H E p S Z hp => ssd_cons (sd_expr (pd_fn S (T.ok_check_place sm) (by decide) T.D_check_place (pda_cons (pd_var 0) (pda_cons (pd_var 1) (pda_nil)))))
    (ssd_cons (sd_if (pt_cmpD S .eq (pd_call1 S c_len T.g_len (pd_var 0)) (pd_int)) (ssd_one (sd_raise0 S T.E_LastWord T.m_LastWord)) (ssd_nil))
    (ssd_one (sd_ret (pd_bin S .add (pd_cut S (pd_var 0) (pdo_none) (pdo_some (pd_var 1))) (pd_cut S (pd_var 0) (pdo_some (pd_bin S .add (pd_var 1) (pd_int))) (pdo_none))))))
theorem Txt.ok__law_edit (T : Txt K mg) (sm : HasSm base) : FnG true P w K mg base 3 (He.ga K "_law_edit") T.fd__law_edit ["_law_stream_here", "_law_row"] (spS K mg w__law_edit_0) :=
  fn_str sm T.F__law_edit sc__law_edit (by decide) fun cdv A outer s H E p S Z hp => ssd_cons (sd_par S (i := 2) (j := 3) rfl rfl (by decide) rfl rfl (pd_fnS S Z (T.ok__law_pick sm) (by decide) T.D__law_pick (L2.pv 0) (pda_cons (pd_lst S (pda_cons (pd_str) (pda_cons (pd_str) (pda_cons (pd_str) (pda_cons (pd_str) (pda_cons (pd_str) (pda_nil))))))) (pda_nil))) (pd_bin S .add (pd_int) (pd_fnS S Z (T.ok__law_draw sm) (by decide) T.D__law_draw (L2.pv 0) (pda_cons (pd_int) (pda_nil)))) rfl)
    (ssd_cons (sd_set S (i := 3) rfl (Or.inl rfl) (pd_ix S (pd_lst S (pda_cons (pd_var 3) (pda_cons (pd_bin S .add (pd_int) (pd_bin S .mod (pd_var 3) (pd_int))) (pda_nil)))) (pd_fnS S Z (T.ok__law_draw sm) (by decide) T.D__law_draw (L2.pv 0) (pda_cons (pd_int) (pda_nil)))))
    (ssd_cons (sd_if (pt_cmpD S .eq (pd_var 2) (pd_str)) (ssd_one (sd_ret (pd_tup S (pda_cons (pd_var 2) (pda_cons (pd_fnS S Z (T.ok__law_draw sm) (by decide) T.D__law_draw (L2.pv 0) (pda_cons (pd_bin S .add (pd_call1 S c_len T.g_len (pd_var 1)) (pd_int)) (pda_nil))) (pda_cons (pd_var 3) (pda_nil))))))) (ssd_nil))
    (ssd_cons (sd_if (pt_cmpD S .eq (pd_var 2) (pd_str)) (ssd_one (sd_ret (pd_tup S (pda_cons (pd_var 2) (pda_nil))))) (ssd_nil))
    (ssd_cons (sd_set S (i := 4) rfl (Or.inl rfl) (pd_fnS S Z (T.ok__law_draw sm) (by decide) T.D__law_draw (L2.pv 0) (pda_cons (pd_call1 S c_len T.g_len (pd_var 1)) (pda_nil))))
    (ssd_one (sd_ret (pd_if (pt_cmpD S .eq (pd_var 2) (pd_str)) (pd_tup S (pda_cons (pd_var 2) (pda_cons (pd_var 4) (pda_cons (pd_var 3) (pda_nil))))) (pd_tup S (pda_cons (pd_var 2) (pda_cons (pd_var 4) (pda_nil)))))))))))
theorem Txt.ok_Page_init (T : Txt K mg) (sm : HasSm base) : FnG true P w K mg base 4 (He.ma K (He.ga K "Page") "__init__") T.fd_Page_init ["self", "row"] (spC K mg w_Page_init_0) :=
  fn_cel sm T.F_Page_init sc_Page_init (by decide) fun cdv A outer s H E p S Z hp => ssd_cons (sd_set S (i := 2) rfl (Or.inl rfl) (pd_fn S (T.ok_row_error sm) (by decide) T.D_row_error (pda_cons (pd_var 1) (pda_nil))))
    (ssd_cons (sd_if (pt_cmpD S .notN (pd_var 2) (pd_non)) (ssd_one (sd_raise1 S T.E_BadRow T.m_BadRow (pd_var 2))) (ssd_nil))
    (ssd_cons (sd_expr (pd_metC S Z (.cons ⟨⟨_, _, _, _, (by decide), T.ok_Page_accept sm, T.M_Page_accept, T.B_Page_accept⟩⟩ .nil) (pd_var 0) (pda_cons (pd_var 1) (pda_nil))))
    (ssd_cons (sd_setF S Z (pd_var 0) (pd_var 1))
    (ssd_cons (sd_setF S Z (pd_var 0) (pd_tup S (pda_cons (pd_var 1) (pda_nil))))
    (ssd_cons (sd_setF S Z (pd_var 0) (pd_tup S (pda_nil)))
    (ssd_cons (sd_setF S Z (pd_var 0) (pd_non))
    (ssd_one (sd_setF S Z (pd_var 0) (pd_bl)))))))))
theorem Txt.ok_changed (T : Txt K mg) (sm : HasSm base) : FnG true P w K mg base 4 (He.ga K "changed") T.fd_changed ["row", "place", "length"] (spF K mg w_changed_0) :=
  fn_pure sm T.F_changed sc_changed (by decide) fun cdv A outer s H E p S Z hp => ssd_cons (sd_expr (pd_fn S (T.ok_check_place sm) (by decide) T.D_check_place (pda_cons (pd_var 0) (pda_cons (pd_var 1) (pda_nil)))))
    (ssd_cons (sd_expr (pd_fn S (T.ok_check_length sm) (by decide) T.D_check_length (pda_cons (pd_var 2) (pda_nil))))
    (ssd_one (sd_ret (pd_tup S (pda_star (pd_cut S (pd_var 0) (pdo_none) (pdo_some (pd_var 1))) (pda_cons (pd_var 2) (pda_star (pd_cut S (pd_var 0) (pdo_some (pd_bin S .add (pd_var 1) (pd_int))) (pdo_none)) (pda_nil))))))))
theorem Txt.ok_put_in (T : Txt K mg) (sm : HasSm base) : FnG true P w K mg base 4 (He.ga K "put_in") T.fd_put_in ["row", "place", "length"] (spF K mg w_put_in_0) :=
  fn_pure sm T.F_put_in sc_put_in (by decide) fun cdv A outer s H E p S Z hp => ssd_cons (sd_if (pt_notD (pt_tru (pd_fn S (T.ok_is_integer sm) (by decide) T.D_is_integer (pda_cons (pd_var 1) (pda_cons (pd_int) (pda_cons (pd_call1 S c_len T.g_len (pd_var 0)) (pda_nil))))))) (ssd_one (sd_raise1 S T.E_NoPlace T.m_NoPlace (pd_var 1))) (ssd_nil))
    (ssd_cons (sd_expr (pd_fn S (T.ok_check_length sm) (by decide) T.D_check_length (pda_cons (pd_var 2) (pda_nil))))
    (ssd_cons (sd_if (pt_cmpD S .eq (pd_call1 S c_len T.g_len (pd_var 0)) (pd_glob T.g_MAX_WORDS)) (ssd_one (sd_raise1 S T.E_TooMany T.m_TooMany (pd_glob T.g_MAX_WORDS))) (ssd_nil))
    (ssd_one (sd_ret (pd_tup S (pda_star (pd_cut S (pd_var 0) (pdo_none) (pdo_some (pd_var 1))) (pda_cons (pd_var 2) (pda_star (pd_cut S (pd_var 0) (pdo_some (pd_var 1)) (pdo_none)) (pda_nil)))))))))
theorem Txt.ok__law_seen (T : Txt K mg) (sm : HasSm base) : FnG true P w K mg base 4 (He.ga K "_law_seen") T.fd__law_seen ["_law_page"] (spC K mg w__law_seen_0) :=
  fn_cel sm T.F__law_seen sc__law_seen (by decide) fun cdv A outer s H E p S Z hp => ssd_one (sd_ret (pd_call1 S (c_repr S) T.g_repr (pd_lst S (pda_cons (pd_propC S Z (.cons ⟨⟨_, _, _, _, _, (by decide), T.ok_Page_row sm, T.P_Page_row, T.B_Page_row⟩⟩ .nil) (pd_var 0)) (pda_cons (pd_propC S Z (.cons ⟨⟨_, _, _, _, _, (by decide), T.ok_Page_size sm, T.P_Page_size, T.B_Page_size⟩⟩ .nil) (pd_var 0)) (pda_cons (pd_propC S Z (.cons ⟨⟨_, _, _, _, _, (by decide), T.ok_Page_version sm, T.P_Page_version, T.B_Page_version⟩⟩ .nil) (pd_var 0)) (pda_cons (pd_metC0 S Z (.cons ⟨⟨_, _, _, _, (by decide), T.ok_Page_edits sm, T.M_Page_edits, T.B_Page_edits⟩⟩ .nil) (pd_var 0)) (pda_cons (pd_lenC S Z (j := 1) (by decide) (.cons ⟨⟨_, _, _, _, (by decide), T.ok_Page_len sm, T.M_Page_len, T.B_Page_len⟩⟩ .nil) T.g_len (pd_var 0)) (pda_cons (pd_strC S Z (j := 1) (by decide) (.cons ⟨⟨_, _, _, _, (by decide), T.ok_Page_str sm, T.M_Page_str, T.B_Page_str⟩⟩ .nil) T.g_str (pd_var 0)) (pda_nil))))))))))
theorem Txt.ok_edited (T : Txt K mg) (sm : HasSm base) : FnG true P w K mg base 5 (He.ga K "edited") T.fd_edited ["row", "edit"] (spF K mg w_edited_0) :=
  fn_pure sm T.F_edited sc_edited (by decide) fun cdv A outer s H E p S Z hp => ssd_cons (sd_starT S (i := 2) (j := 3) rfl rfl (Or.inl rfl) (Or.inl rfl) (pd_var 1))
    (ssd_cons (sd_if (pt_cmpD S .eq (pd_var 2) (pd_str)) (ssd_one (sd_ret (pd_fn S (T.ok_put_in sm) (by decide) T.D_put_in (pda_cons (pd_var 0) (pda_cons (pd_ix S (pd_var 3) (pd_int)) (pda_cons (pd_ix S (pd_var 3) (pd_int)) (pda_nil))))))) (ssd_nil))
    (ssd_cons (sd_if (pt_cmpD S .eq (pd_var 2) (pd_str)) (ssd_one (sd_ret (pd_fn S (T.ok_changed sm) (by decide) T.D_changed (pda_cons (pd_var 0) (pda_cons (pd_ix S (pd_var 3) (pd_int)) (pda_cons (pd_ix S (pd_var 3) (pd_int)) (pda_nil))))))) (ssd_nil))
    (ssd_one (sd_ret (pd_if (pt_cmpD S .eq (pd_var 2) (pd_str)) (pd_fn S (T.ok_taken_out sm) (by decide) T.D_taken_out (pda_cons (pd_var 0) (pda_cons (pd_ix S (pd_var 3) (pd_int)) (pda_nil)))) (pd_rev S (pd_var 0)))))))
theorem Txt.ok_Page_perform (T : Txt K mg) (sm : HasSm base) : FnG true P w K mg base 6 (He.ma K (He.ga K "Page") "perform") T.fd_Page_perform ["self", "edit"] (spC K mg w_Page_perform_0) :=
  fn_cel sm T.F_Page_perform sc_Page_perform (by decide) fun cdv A outer s H E p S Z hp => ssd_cons (sd_if (pt_cmpD S .eq (pd_call1 S c_len T.g_len (pd_get S Z (pd_var 0))) (pd_glob T.g_MAX_EDITS)) (ssd_one (sd_raise0 S T.E_TooManyEdits T.m_TooManyEdits)) (ssd_nil))
    (ssd_cons (sd_set S (i := 2) rfl (Or.inl rfl) (pd_fn S (T.ok_edited sm) (by decide) T.D_edited (pda_cons (pd_get S Z (pd_var 0)) (pda_cons (pd_var 1) (pda_nil)))))
    (ssd_cons (sd_expr (pd_metC S Z (.cons ⟨⟨_, _, _, _, (by decide), T.ok_Page_accept sm, T.M_Page_accept, T.B_Page_accept⟩⟩ .nil) (pd_var 0) (pda_cons (pd_var 2) (pda_nil))))
    (ssd_cons (sd_setF S Z (pd_var 0) (pd_var 2))
    (ssd_cons (sd_setF S Z (pd_var 0) (pd_tup S (pda_star (pd_get S Z (pd_var 0)) (pda_cons (pd_var 2) (pda_nil)))))
    (ssd_one (sd_setF S Z (pd_var 0) (pd_tup S (pda_star (pd_get S Z (pd_var 0)) (pda_cons (pd_var 1) (pda_nil))))))))))
theorem Txt.ok_Page_perform_alone (T : Txt K mg) (sm : HasSm base) : FnG true P w K mg base 7 (He.ma K (He.ga K "Page") "perform_alone") T.fd_Page_perform_alone ["self", "edit"] (spC K mg w_Page_perform_alone_0) :=
  fn_cel sm T.F_Page_perform_alone sc_Page_perform_alone (by decide) fun cdv A outer s H E p S Z hp => ssd_cons (sd_expr (pd_metC0 S Z (.cons ⟨⟨_, _, _, _, (by decide), T.ok_Page_check_idle sm, T.M_Page_check_idle, T.B_Page_check_idle⟩⟩ .nil) (pd_var 0)))
    (ssd_cons (sd_expr (pd_metC S Z (.cons ⟨⟨_, _, _, _, (by decide), T.ok_Page_perform sm, T.M_Page_perform, T.B_Page_perform⟩⟩ .nil) (pd_var 0) (pda_cons (pd_var 1) (pda_nil))))
    (ssd_one (sd_ret (pd_call1 S c_len T.g_len (pd_get S Z (pd_var 0))))))
theorem Txt.ok_Page_put (T : Txt K mg) (sm : HasSm base) : FnG true P w K mg base 8 (He.ma K (He.ga K "Page") "put") T.fd_Page_put ["self", "place", "length"] (spC K mg w_Page_put_0) :=
  fn_cel sm T.F_Page_put sc_Page_put (by decide) fun cdv A outer s H E p S Z hp => ssd_one (sd_ret (pd_metC S Z (.cons ⟨⟨_, _, _, _, (by decide), T.ok_Page_perform_alone sm, T.M_Page_perform_alone, T.B_Page_perform_alone⟩⟩ .nil) (pd_var 0) (pda_cons (pd_tup S (pda_cons (pd_str) (pda_cons (pd_var 1) (pda_cons (pd_var 2) (pda_nil))))) (pda_nil))))
theorem Txt.ok_Page_cut (T : Txt K mg) (sm : HasSm base) : FnG true P w K mg base 8 (He.ma K (He.ga K "Page") "cut") T.fd_Page_cut ["self", "place"] (spC K mg w_Page_cut_0) :=
  fn_cel sm T.F_Page_cut sc_Page_cut (by decide) fun cdv A outer s H E p S Z hp => ssd_one (sd_ret (pd_metC S Z (.cons ⟨⟨_, _, _, _, (by decide), T.ok_Page_perform_alone sm, T.M_Page_perform_alone, T.B_Page_perform_alone⟩⟩ .nil) (pd_var 0) (pda_cons (pd_tup S (pda_cons (pd_str) (pda_cons (pd_var 1) (pda_nil)))) (pda_nil))))
theorem Txt.ok_Page_resize (T : Txt K mg) (sm : HasSm base) : FnG true P w K mg base 8 (He.ma K (He.ga K "Page") "resize") T.fd_Page_resize ["self", "place", "length"] (spC K mg w_Page_resize_0) :=
  fn_cel sm T.F_Page_resize sc_Page_resize (by decide) fun cdv A outer s H E p S Z hp => ssd_one (sd_ret (pd_metC S Z (.cons ⟨⟨_, _, _, _, (by decide), T.ok_Page_perform_alone sm, T.M_Page_perform_alone, T.B_Page_perform_alone⟩⟩ .nil) (pd_var 0) (pda_cons (pd_tup S (pda_cons (pd_str) (pda_cons (pd_var 1) (pda_cons (pd_var 2) (pda_nil))))) (pda_nil))))
theorem Txt.ok_Page_turn (T : Txt K mg) (sm : HasSm base) : FnG true P w K mg base 8 (He.ma K (He.ga K "Page") "turn") T.fd_Page_turn ["self"] (spC K mg w_Page_turn_0) :=
  fn_cel sm T.F_Page_turn sc_Page_turn (by decide) fun cdv A outer s H E p S Z hp => ssd_one (sd_ret (pd_metC S Z (.cons ⟨⟨_, _, _, _, (by decide), T.ok_Page_perform_alone sm, T.M_Page_perform_alone, T.B_Page_perform_alone⟩⟩ .nil) (pd_var 0) (pda_cons (pd_tup S (pda_cons (pd_str) (pda_nil))) (pda_nil))))
theorem Txt.ok__law_apply (T : Txt K mg) (sm : HasSm base) : FnG true P w K mg base 9 (He.ga K "_law_apply") T.fd__law_apply ["_law_page", "_law_edit_here"] (spC K mg w__law_apply_0) :=
  fn_cel sm T.F__law_apply sc__law_apply (by decide) fun cdv A outer s H E p S Z hp => ssd_cons (sd_if (pt_cmpD S .eq (pd_ix S (pd_var 1) (pd_int)) (pd_str)) (ssd_one (sd_ret (pd_metC S Z (.cons ⟨⟨_, _, _, _, (by decide), T.ok_Page_put sm, T.M_Page_put, T.B_Page_put⟩⟩ .nil) (pd_var 0) (pda_cons (pd_ix S (pd_var 1) (pd_int)) (pda_cons (pd_ix S (pd_var 1) (pd_int)) (pda_nil)))))) (ssd_nil))
    (ssd_cons (sd_if (pt_cmpD S .eq (pd_ix S (pd_var 1) (pd_int)) (pd_str)) (ssd_one (sd_ret (pd_metC S Z (.cons ⟨⟨_, _, _, _, (by decide), T.ok_Page_cut sm, T.M_Page_cut, T.B_Page_cut⟩⟩ .nil) (pd_var 0) (pda_cons (pd_ix S (pd_var 1) (pd_int)) (pda_nil))))) (ssd_nil))
    (ssd_cons (sd_if (pt_cmpD S .eq (pd_ix S (pd_var 1) (pd_int)) (pd_str)) (ssd_one (sd_ret (pd_metC S Z (.cons ⟨⟨_, _, _, _, (by decide), T.ok_Page_resize sm, T.M_Page_resize, T.B_Page_resize⟩⟩ .nil) (pd_var 0) (pda_cons (pd_ix S (pd_var 1) (pd_int)) (pda_cons (pd_ix S (pd_var 1) (pd_int)) (pda_nil)))))) (ssd_nil))
    (ssd_one (sd_ret (pd_if (pt_cmpD S .eq (pd_ix S (pd_var 1) (pd_int)) (pd_str)) (pd_metC0 S Z (.cons ⟨⟨_, _, _, _, (by decide), T.ok_Page_turn sm, T.M_Page_turn, T.B_Page_turn⟩⟩ .nil) (pd_var 0)) (pd_metC0 S Z (.cons ⟨⟨_, _, _, _, (by decide), T.ok_Page_undo sm, T.M_Page_undo, T.B_Page_undo⟩⟩ .nil) (pd_var 0)))))))
theorem Txt.ok__law_did (T : Txt K mg) (sm : HasSm base) : FnG true P w K mg base 10 (He.ga K "_law_did") T.fd__law_did ["_law_page", "_law_edit_here"] (spC K mg w__law_did_0) :=
  fn_cel sm T.F__law_did sc__law_did (by decide) fun cdv A outer s H E p S Z hp => ssd_one (sd_try S rfl rfl rfl (try_ret (fun _ _ _ S Y => have Z := Y _ Z; pd_lst S (pda_cons (pd_str) (pda_cons (pd_fnC S Z (T.ok__law_apply sm) (by decide) T.D__law_apply (pda_cons (pd_var 0) (pda_cons (pd_var 1) (pda_nil)))) (pda_nil))))) (.named (i := 2) rfl rfl (.two (nmC_own T.p_WrapError T.m_WrapError) (nmC_own T.p_NoPlace T.m_NoPlace) rfl rfl) (fun _ _ S => ssd_one (sd_ret (pd_lst S (pda_cons (pd_fn S (T.ok__law_name sm) (by decide) T.D__law_name (pda_cons (pd_var 2) (pda_nil))) (pda_cons (pd_fn S (T.ok__law_field sm) (by decide) T.D__law_field (pda_cons (pd_var 2) (pda_nil))) (pda_nil)))))) (.nil)))
theorem Txt.ok__law_went (T : Txt K mg) (sm : HasSm base) : FnG true P w K mg base 11 (He.ga K "_law_went") T.fd__law_went ["_law_page", "_law_model", "_law_edit_here"] (spC K mg w__law_went_0) :=
  fn_cel sm T.F__law_went sc__law_went (by decide) fun cdv A outer s H E p S Z hp => ssd_cons (sd_put S (t := .tp [3, 4]) (pg_tl S.calm (L2.pgs_cons (L2.pg_name (i := 3) S.nd rfl (Or.inl rfl)) (L2.pgs_cons (L2.pg_name (i := 4) S.nd rfl (Or.inl rfl)) (L2.pgs_nil)))) (pd_cutC S Z (pd_var 1) (pdo_none) (pdo_some (pd_int))))
    (ssd_cons (sd_set S (i := 5) rfl (Or.inl rfl) (pd_lst S (pda_cons (pd_str) (pda_cons (pd_non) (pda_nil)))))
    (ssd_cons (sd_if (pt_cmpD S .ne (pd_ix S (pd_var 2) (pd_int)) (pd_str)) (ssd_cons (sd_set S (i := 5) rfl (Or.inl rfl) (pd_if (pt_cmpD S .lt (pd_callV S Z c_len T.g_len (pd_var 4)) (pd_int)) (pd_fnC S Z (T.ok__law_due sm) (by decide) T.D__law_due (pda_cons (pd_var 1) (pda_cons (pd_var 2) (pda_nil)))) (pd_lst S (pda_cons (pd_str) (pda_cons (pd_non) (pda_nil))))))
    (ssd_one (sd_if (pt_cmpD S .eq (pd_ix S (pd_var 5) (pd_int)) (pd_str)) (ssd_cons (sd_appC S Z (pd_var 3) (pd_ix S (pd_var 5) (pd_int)) (fun h1 h2 => L2.pe_bm PySem.F.plainAttrs_list PySem.F.slot_list_append PySem.F.type_list_append L2.mt_append h1 (L2.pa_cons h2 L2.pa_nil)))
    (ssd_cons (sd_appC S Z (pd_var 4) (pd_var 2) (fun h1 h2 => L2.pe_bm PySem.F.plainAttrs_list PySem.F.slot_list_append PySem.F.type_list_append L2.mt_append h1 (L2.pa_cons h2 L2.pa_nil)))
    (ssd_one (sd_set S (i := 5) rfl (Or.inl rfl) (pd_lst S (pda_cons (pd_str) (pda_cons (pd_callV S Z c_len T.g_len (pd_var 4)) (pda_nil)))))))) (ssd_nil)))) (ssd_one (sd_if (pt_cmpV S Z .ne (pd_var 4) (pd_lst S (pda_nil))) (ssd_cons (sd_popC S Z (pd_var 3) (fun h1 => L2.pe_bm0 PySem.F.plainAttrs_list PySem.F.slot_list_pop PySem.F.type_list_pop L2.mt_pop h1))
    (ssd_cons (sd_popC S Z (pd_var 4) (fun h1 => L2.pe_bm0 PySem.F.plainAttrs_list PySem.F.slot_list_pop PySem.F.type_list_pop L2.mt_pop h1))
    (ssd_one (sd_set S (i := 5) rfl (Or.inl rfl) (pd_lst S (pda_cons (pd_str) (pda_cons (pd_callV S Z c_len T.g_len (pd_var 4)) (pda_nil)))))))) (ssd_nil))))
    (ssd_cons (sd_if (pt_cmpD S .ne (pd_call1 S (c_repr S) T.g_repr (pd_fnC S Z (T.ok__law_did sm) (by decide) T.D__law_did (pda_cons (pd_var 0) (pda_cons (pd_var 2) (pda_nil))))) (pd_call1 S (c_repr S) T.g_repr (pd_var 5))) (ssd_one (sd_ret (pd_bl))) (ssd_nil))
    (ssd_one (sd_ret (pd_cmp S .eq (pd_fnC S Z (T.ok__law_seen sm) (by decide) T.D__law_seen (pda_cons (pd_var 0) (pda_nil))) (pd_fnC S Z (T.ok__law_due_seen sm) (by decide) T.D__law_due_seen (pda_cons (pd_var 1) (pda_nil)))))))))
theorem Txt.ok_law (T : Txt K mg) (sm : HasSm base) (math : m_law (lawE 10 1) (.z 0) (fun o _ => o = .rt (.bool true)) fun _ _ => False) : FnG true P w K mg base 12 (He.ga K "law") T.fd_law ["_law_script"] (spLaw K) :=
  fn_law sm (i := 1) T.F_law sc_law (by decide) (by decide) (T.ok__law_stream sm) (by decide : 1 ≤ 11) (fun cdv A outer s H E => ⟨_, fun ts hr hg hx h => L2.pss_cons (L2.ps_set (i := 1) sc_law.nd rfl (Or.inl rfl) (pe_G (T.ok__law_stream sm) (hr.mono (by decide)) hg T.D__law_stream.mg T.D__law_stream.kp T.D__law_stream.bd hx (L2.pa_cons (L2.pv 0) L2.pa_nil))) h, fun p S Z hp => ssd_cons (sd_for S (t := .nm 2) (pi_rng1D (pd_int) T.g_range) (L2.pg_name (i := 2) S.nd rfl (Or.inl rfl)) (ssd_cons (sd_set S (i := 3) rfl (Or.inl rfl) (pd_fnS S Z (T.ok__law_row_drawn sm) (by decide) T.D__law_row_drawn (L2.pv 1) (pda_cons (pd_ix S (pd_lst S (pda_cons (pd_int) (pda_cons (pd_int) (pda_cons (pd_int) (pda_nil))))) (pd_var 2)) (pda_nil))))
    (ssd_cons (sd_par S (i := 4) (j := 5) rfl rfl (by decide) rfl rfl (pd_mkC S Z T.C_Page T.MK_Page (T.ok_Page_init sm) (by decide) T.B_Page_init T.m_Page (pda_cons (pd_var 3) (pda_nil))) (pd_newC S Z (pda_cons (pd_newC S Z (pda_cons (pd_var 3) (pda_nil))) (pda_cons (pd_newC S Z (pda_nil)) (pda_cons (pd_bl) (pda_nil))))) rfl)
    (ssd_cons (sd_if (pt_cmpD S .ne (pd_fnC S Z (T.ok__law_seen sm) (by decide) T.D__law_seen (pda_cons (pd_var 4) (pda_nil))) (pd_fnC S Z (T.ok__law_due_seen sm) (by decide) T.D__law_due_seen (pda_cons (pd_var 5) (pda_nil)))) (ssd_one (sd_ret (pd_bl))) (ssd_nil))
    (ssd_cons (sd_for S (t := .nm 6) (pi_rng1D (pd_bin S .add (pd_int) (pd_fnS S Z (T.ok__law_draw sm) (by decide) T.D__law_draw (L2.pv 1) (pda_cons (pd_int) (pda_nil)))) T.g_range) (L2.pg_name (i := 6) S.nd rfl (Or.inl rfl)) (ssd_cons (sd_set S (i := 7) rfl (Or.inl rfl) (pd_fnS S Z (T.ok__law_edit sm) (by decide) T.D__law_edit (L2.pv 1) (pda_cons (pd_ixV S Z (pd_ixV S Z (pd_var 5) (pd_int)) (pd_neg S (pd_int))) (pda_nil))))
    (ssd_cons (sd_set S (i := 8) rfl (Or.inl rfl) (pd_call1 S (c_repr S) T.g_repr (pd_var 7)))
    (ssd_one (sd_if (PDW.pt (pw_orD (pt_notD (pt_tru (pd_fnC S Z (T.ok__law_went sm) (by decide) T.D__law_went (pda_cons (pd_var 4) (pda_cons (pd_var 5) (pda_cons (pd_var 7) (pda_nil))))))) (pw_orD (pt_cmpD S .ne (pd_call1 S (c_repr S) T.g_repr (pd_var 7)) (pd_var 8)) (pw_or1D (pt_cmpD S .ne (pd_fnC S Z (T.ok__law_seen sm) (by decide) T.D__law_seen (pda_cons (pd_var 4) (pda_nil))) (pd_fnC S Z (T.ok__law_seen sm) (by decide) T.D__law_seen (pda_cons (pd_var 4) (pda_nil)))))))) (ssd_one (sd_ret (pd_bl))) (ssd_nil))))))
    (ssd_cons (sd_set S (i := 9) rfl (Or.inl rfl) (pd_call1 S c_len T.g_len (pd_ixV S Z (pd_ixV S Z (pd_var 5) (pd_int)) (pd_neg S (pd_int)))))
    (ssd_one (sd_for S (t := .nm 7) (pi_seq (pd_lst S (pda_cons (pd_tup S (pda_cons (pd_str) (pda_cons (pd_var 9) (pda_cons (pd_int) (pda_nil))))) (pda_cons (pd_tup S (pda_cons (pd_str) (pda_cons (pd_int) (pda_cons (pd_int) (pda_nil))))) (pda_cons (pd_tup S (pda_cons (pd_str) (pda_cons (pd_int) (pda_nil)))) (pda_cons (pd_tup S (pda_cons (pd_str) (pda_cons (pd_int) (pda_cons (pd_int) (pda_nil))))) (pda_cons (pd_tup S (pda_cons (pd_str) (pda_nil))) (pda_cons (pd_tup S (pda_cons (pd_str) (pda_cons (pd_bin S .sub (pd_var 9) (pd_int)) (pda_nil)))) (pda_nil))))))))) (L2.pg_name (i := 7) S.nd rfl (Or.inl rfl)) (ssd_one (sd_if (pt_notD (pt_tru (pd_fnC S Z (T.ok__law_went sm) (by decide) T.D__law_went (pda_cons (pd_var 4) (pda_cons (pd_var 5) (pda_cons (pd_var 7) (pda_nil))))))) (ssd_one (sd_ret (pd_bl))) (ssd_nil)))))))))))
    (ssd_one (sd_ret (pd_bl)))⟩) math
end
def d_is_integer : He.DefD := ⟨("is_integer", none), "is_integer", "is_integer", L2.defArgs s_is_integer, L2.defBody s_is_integer, L2.defScope s_is_integer, [], []⟩
def d_is_length : He.DefD := ⟨("is_length", none), "is_length", "is_length", L2.defArgs s_is_length, L2.defBody s_is_length, L2.defScope s_is_length, [], []⟩
def d_row_error : He.DefD := ⟨("row_error", none), "row_error", "row_error", L2.defArgs s_row_error, L2.defBody s_row_error, L2.defScope s_row_error, [], []⟩
def d_check_place : He.DefD := ⟨("check_place", none), "check_place", "check_place", L2.defArgs s_check_place, L2.defBody s_check_place, L2.defScope s_check_place, [], []⟩
def d_check_length : He.DefD := ⟨("check_length", none), "check_length", "check_length", L2.defArgs s_check_length, L2.defBody s_check_length, L2.defScope s_check_length, [], []⟩
def d_changed : He.DefD := ⟨("changed", none), "changed", "changed", L2.defArgs s_changed, L2.defBody s_changed, L2.defScope s_changed, [], []⟩
def d_put_in : He.DefD := ⟨("put_in", none), "put_in", "put_in", L2.defArgs s_put_in, L2.defBody s_put_in, L2.defScope s_put_in, [], []⟩
def d_taken_out : He.DefD := ⟨("taken_out", none), "taken_out", "taken_out", L2.defArgs s_taken_out, L2.defBody s_taken_out, L2.defScope s_taken_out, [], []⟩
def d_edited : He.DefD := ⟨("edited", none), "edited", "edited", L2.defArgs s_edited, L2.defBody s_edited, L2.defScope s_edited, [], []⟩
def d__law_stream : He.DefD := ⟨("_law_stream", none), "_law_stream", "_law_stream", L2.defArgs s__law_stream, L2.defBody s__law_stream, L2.defScope s__law_stream, [], []⟩
def d__law_draw : He.DefD := ⟨("_law_draw", none), "_law_draw", "_law_draw", L2.defArgs s__law_draw, L2.defBody s__law_draw, L2.defScope s__law_draw, [], []⟩
def d__law_pick : He.DefD := ⟨("_law_pick", none), "_law_pick", "_law_pick", L2.defArgs s__law_pick, L2.defBody s__law_pick, L2.defScope s__law_pick, [], []⟩
def d__law_is_int : He.DefD := ⟨("_law_is_int", none), "_law_is_int", "_law_is_int", L2.defArgs s__law_is_int, L2.defBody s__law_is_int, L2.defScope s__law_is_int, [], []⟩
def d__law_row_drawn : He.DefD := ⟨("_law_row_drawn", none), "_law_row_drawn", "_law_row_drawn", L2.defArgs s__law_row_drawn, L2.defBody s__law_row_drawn, L2.defScope s__law_row_drawn, [], []⟩
def d__law_name : He.DefD := ⟨("_law_name", none), "_law_name", "_law_name", L2.defArgs s__law_name, L2.defBody s__law_name, L2.defScope s__law_name, [], []⟩
def d__law_field : He.DefD := ⟨("_law_field", none), "_law_field", "_law_field", L2.defArgs s__law_field, L2.defBody s__law_field, L2.defScope s__law_field, [], []⟩
def d__law_apply : He.DefD := ⟨("_law_apply", none), "_law_apply", "_law_apply", L2.defArgs s__law_apply, L2.defBody s__law_apply, L2.defScope s__law_apply, [], []⟩
def d__law_did : He.DefD := ⟨("_law_did", none), "_law_did", "_law_did", L2.defArgs s__law_did, L2.defBody s__law_did, L2.defScope s__law_did, [], []⟩
def d__law_due : He.DefD := ⟨("_law_due", none), "_law_due", "_law_due", L2.defArgs s__law_due, L2.defBody s__law_due, L2.defScope s__law_due, [], []⟩
def d__law_seen : He.DefD := ⟨("_law_seen", none), "_law_seen", "_law_seen", L2.defArgs s__law_seen, L2.defBody s__law_seen, L2.defScope s__law_seen, [], []⟩
def d__law_due_seen : He.DefD := ⟨("_law_due_seen", none), "_law_due_seen", "_law_due_seen", L2.defArgs s__law_due_seen, L2.defBody s__law_due_seen, L2.defScope s__law_due_seen, [], []⟩
def d__law_edit : He.DefD := ⟨("_law_edit", none), "_law_edit", "_law_edit", L2.defArgs s__law_edit, L2.defBody s__law_edit, L2.defScope s__law_edit, [], []⟩
def d__law_went : He.DefD := ⟨("_law_went", none), "_law_went", "_law_went", L2.defArgs s__law_went, L2.defBody s__law_went, L2.defScope s__law_went, [], []⟩
def d_law : He.DefD := ⟨("law", none), "law", "law", L2.defArgs s_law, L2.defBody s_law, L2.defScope s_law, [], []⟩
def di_TooMany : He.DefD := ⟨("TooMany", some "__init__"), "__init__", "TooMany.__init__", L2.defArgs i_TooMany, L2.defBody i_TooMany, L2.defScope i_TooMany, [], []⟩
def di_BadLength : He.DefD := ⟨("BadLength", some "__init__"), "__init__", "BadLength.__init__", L2.defArgs i_BadLength, L2.defBody i_BadLength, L2.defScope i_BadLength, [], []⟩
def di_BadRow : He.DefD := ⟨("BadRow", some "__init__"), "__init__", "BadRow.__init__", L2.defArgs i_BadRow, L2.defBody i_BadRow, L2.defScope i_BadRow, [], []⟩
def di_NoPlace : He.DefD := ⟨("NoPlace", some "__init__"), "__init__", "NoPlace.__init__", L2.defArgs i_NoPlace, L2.defBody i_NoPlace, L2.defScope i_NoPlace, [], []⟩
def d_Page_init : He.DefD := ⟨("Page", some "__init__"), "__init__", "Page.__init__", L2.defArgs s_Page_init, L2.defBody s_Page_init, L2.defScope s_Page_init, [], []⟩
def d_Page_accept : He.DefD := ⟨("Page", some "accept"), "accept", "Page.accept", L2.defArgs s_Page_accept, L2.defBody s_Page_accept, L2.defScope s_Page_accept, [], []⟩
def d_Page_check_idle : He.DefD := ⟨("Page", some "check_idle"), "check_idle", "Page.check_idle", L2.defArgs s_Page_check_idle, L2.defBody s_Page_check_idle, L2.defScope s_Page_check_idle, [], []⟩
def d_Page_perform : He.DefD := ⟨("Page", some "perform"), "perform", "Page.perform", L2.defArgs s_Page_perform, L2.defBody s_Page_perform, L2.defScope s_Page_perform, [], []⟩
def d_Page_perform_alone : He.DefD := ⟨("Page", some "perform_alone"), "perform_alone", "Page.perform_alone", L2.defArgs s_Page_perform_alone, L2.defBody s_Page_perform_alone, L2.defScope s_Page_perform_alone, [], []⟩
def d_Page_put : He.DefD := ⟨("Page", some "put"), "put", "Page.put", L2.defArgs s_Page_put, L2.defBody s_Page_put, L2.defScope s_Page_put, [], []⟩
def d_Page_cut : He.DefD := ⟨("Page", some "cut"), "cut", "Page.cut", L2.defArgs s_Page_cut, L2.defBody s_Page_cut, L2.defScope s_Page_cut, [], []⟩
def d_Page_resize : He.DefD := ⟨("Page", some "resize"), "resize", "Page.resize", L2.defArgs s_Page_resize, L2.defBody s_Page_resize, L2.defScope s_Page_resize, [], []⟩
def d_Page_turn : He.DefD := ⟨("Page", some "turn"), "turn", "Page.turn", L2.defArgs s_Page_turn, L2.defBody s_Page_turn, L2.defScope s_Page_turn, [], []⟩
def d_Page_undo : He.DefD := ⟨("Page", some "undo"), "undo", "Page.undo", L2.defArgs s_Page_undo, L2.defBody s_Page_undo, L2.defScope s_Page_undo, [], []⟩
def d_Page_edits : He.DefD := ⟨("Page", some "edits"), "edits", "Page.edits", L2.defArgs s_Page_edits, L2.defBody s_Page_edits, L2.defScope s_Page_edits, [], []⟩
def d_Page_len : He.DefD := ⟨("Page", some "__len__"), "__len__", "Page.__len__", L2.defArgs s_Page_len, L2.defBody s_Page_len, L2.defScope s_Page_len, [], []⟩
def d_Page_str : He.DefD := ⟨("Page", some "__str__"), "__str__", "Page.__str__", L2.defArgs s_Page_str, L2.defBody s_Page_str, L2.defScope s_Page_str, [], []⟩
def a_Page_row : DefA := ⟨fun K => (prGo K "Page" "row"), "row", "Page.row", L2.defArgs s_Page_row, L2.defBody s_Page_row, L2.defScope s_Page_row⟩
def a_Page_size : DefA := ⟨fun K => (prGo K "Page" "size"), "size", "Page.size", L2.defArgs s_Page_size, L2.defBody s_Page_size, L2.defScope s_Page_size⟩
def a_Page_version : DefA := ⟨fun K => (prGo K "Page" "version"), "version", "Page.version", L2.defArgs s_Page_version, L2.defBody s_Page_version, L2.defScope s_Page_version⟩
def pt0 : Pt := ⟨[.glo "is_integer", .glo "is_length", .glo "row_error", .glo "check_place", .glo "check_length", .glo "changed", .glo "put_in", .glo "taken_out", .glo "edited", .glo "_law_stream", .glo "_law_draw", .glo "_law_pick", .glo "_law_is_int", .glo "_law_row_drawn", .glo "_law_name", .glo "_law_field", .glo "_law_apply", .glo "_law_did", .glo "_law_due", .glo "_law_seen", .glo "_law_due_seen", .glo "_law_edit", .glo "_law_went", .glo "law", .free "LookupError", .free "ValueError", .free "abs", .free "bool", .free "enumerate"], [d_is_integer, d_is_length, d_row_error, d_check_place, d_check_length, d_changed, d_put_in, d_taken_out, d_edited, d__law_stream, d__law_draw, d__law_pick, d__law_is_int, d__law_row_drawn, d__law_name, d__law_field, d__law_apply, d__law_did, d__law_due, d__law_seen], [a_Page_row], fun K => smB K && (errTB K "TooMany" .ve) && (errTB K "BadLength" .ve) && (errZB K "LastWord" .ve) && (errTB K "BadRow" .ve) && (errZB K "TooManyEdits" .ve) && (errZB K "NothingToUndo" .ve) && (errZB K "Busy" .ve) && (errTB K "NoPlace" .le) && clsPB K "Page" && mkPB K "Page" "Page" && metPB K "Page" "Page" "__len__" && metPB K "Page" "Page" "__str__"⟩
def pt1 : Pt := ⟨[.free "int", .free "isinstance", .free "len", .free "min", .free "range", .free "repr", .free "str", .free "tuple", .int "MAX_EDITS" (60), .int "MAX_LENGTH" (60), .int "MAX_WORDS" (24), .glo "WrapError", .glo "TooMany", .glo "TooNarrow", .glo "BadLength", .glo "LastWord", .glo "BadRow", .glo "BadTimes", .glo "TooLong", .glo "TooManyEdits", .glo "NothingToUndo", .glo "BadEdits", .glo "BadEdit", .glo "Rejected", .glo "Busy", .glo "BadText", .glo "NoPlace", .glo "NoWidth", .glo "NoVersion", .glo "Page"], [d__law_due_seen, d__law_edit, d__law_went, d_law, di_TooMany, di_BadLength, di_BadRow, di_NoPlace, d_Page_init, d_Page_accept, d_Page_check_idle, d_Page_perform, d_Page_perform_alone, d_Page_put, d_Page_cut, d_Page_resize, d_Page_turn, d_Page_undo, d_Page_edits, d_Page_len, d_Page_str], [a_Page_size, a_Page_version], fun K => metPB K "Page" "Page" "accept" && metPB K "Page" "Page" "check_idle" && metPB K "Page" "Page" "cut" && metPB K "Page" "Page" "edits" && metPB K "Page" "Page" "perform" && metPB K "Page" "Page" "perform_alone" && metPB K "Page" "Page" "put" && metPB K "Page" "Page" "resize" && metPB K "Page" "Page" "turn" && metPB K "Page" "Page" "undo" && propPB K "Page" "Page" "row" && propPB K "Page" "Page" "size" && propPB K "Page" "Page" "version"⟩
def pts : List Pt := [pt0, pt1]
abbrev R : PySem.W.OpenRow := PySem.W.OpenLaw.row PySem.Challenge.rw_wrapwidths_k76_edits_of_pages
abbrev hk : PySem.W.Hook := hookL pts
def ob (s : PySem.W.SharedT) : List AlW := obL pts s
theorem ob_eq (s : PySem.W.SharedT) : ob s = hk.obs s.abs := obL_eq pts s
theorem run0 (w : World) : HandSHeadRun.RunEq R (PySem.W.view R.prog [69]) pt0.hk pt0.ob 12000 ("MAX_WORDS" :: "MAX_LENGTH" :: "MAX_WIDTH" :: "MAX_EDITS" :: "DIGITS" :: "ROW" :: "LONGEST" :: "WrapError" :: "NoRows" :: "TooMany" :: "TooNarrow" :: "BadLength" :: "LastWord" :: "BadRow" :: "BadTimes" :: "TooLong" :: "TooManyEdits" :: "NothingToUndo" :: "BadEdits" :: "BadEdit" :: "Rejected" :: "Busy" :: "BadText" :: "NoPlace" :: "NoWidth" :: "NoVersion" :: "WordRow" :: "Page" :: "_wall" :: "is_integer" :: "is_length" :: "row_error" :: "check_place" :: "extent_of" :: "joined" :: "check_fits" :: "next_start" :: "starts_of" :: "starts_at" :: "check_length" :: "changed" :: "put_in" :: "taken_out" :: "parse_number" :: "parse_row" :: "check_width" :: "edited" :: "_law_stream" :: "_law_draw" :: "_law_pick" :: "_law_is_int" :: "_law_row_drawn" :: "_law_name" :: "_law_field" :: "_law_apply" :: "_law_did" :: "_law_due" :: "_law_seen" :: "_law_due_seen" :: "_law_edit" :: "_law_went" :: []) w := by
  intro os
  kernel_rfl
theorem run1 (w : World) : HandSHeadRun.RunEq R (PySem.W.view R.prog [69]) pt1.hk pt1.ob 12000 ("MAX_WORDS" :: "MAX_LENGTH" :: "MAX_WIDTH" :: "MAX_EDITS" :: "DIGITS" :: "ROW" :: "LONGEST" :: "WrapError" :: "NoRows" :: "TooMany" :: "TooNarrow" :: "BadLength" :: "LastWord" :: "BadRow" :: "BadTimes" :: "TooLong" :: "TooManyEdits" :: "NothingToUndo" :: "BadEdits" :: "BadEdit" :: "Rejected" :: "Busy" :: "BadText" :: "NoPlace" :: "NoWidth" :: "NoVersion" :: "WordRow" :: "Page" :: "_wall" :: "is_integer" :: "is_length" :: "row_error" :: "check_place" :: "extent_of" :: "joined" :: "check_fits" :: "next_start" :: "starts_of" :: "starts_at" :: "check_length" :: "changed" :: "put_in" :: "taken_out" :: "parse_number" :: "parse_row" :: "check_width" :: "edited" :: "_law_stream" :: "_law_draw" :: "_law_pick" :: "_law_is_int" :: "_law_row_drawn" :: "_law_name" :: "_law_field" :: "_law_apply" :: "_law_did" :: "_law_due" :: "_law_seen" :: "_law_due_seen" :: "_law_edit" :: "_law_went" :: []) w := by
  intro os
  kernel_rfl
theorem run (w : World) : HandSHeadRun.RunEq R (PySem.W.view R.prog [69]) hk ob 12000 ("MAX_WORDS" :: "MAX_LENGTH" :: "MAX_WIDTH" :: "MAX_EDITS" :: "DIGITS" :: "ROW" :: "LONGEST" :: "WrapError" :: "NoRows" :: "TooMany" :: "TooNarrow" :: "BadLength" :: "LastWord" :: "BadRow" :: "BadTimes" :: "TooLong" :: "TooManyEdits" :: "NothingToUndo" :: "BadEdits" :: "BadEdit" :: "Rejected" :: "Busy" :: "BadText" :: "NoPlace" :: "NoWidth" :: "NoVersion" :: "WordRow" :: "Page" :: "_wall" :: "is_integer" :: "is_length" :: "row_error" :: "check_place" :: "extent_of" :: "joined" :: "check_fits" :: "next_start" :: "starts_of" :: "starts_at" :: "check_length" :: "changed" :: "put_in" :: "taken_out" :: "parse_number" :: "parse_row" :: "check_width" :: "edited" :: "_law_stream" :: "_law_draw" :: "_law_pick" :: "_law_is_int" :: "_law_row_drawn" :: "_law_name" :: "_law_field" :: "_law_apply" :: "_law_did" :: "_law_due" :: "_law_seen" :: "_law_due_seen" :: "_law_edit" :: "_law_went" :: []) w :=
  run_parts pt0 (by simp [pts]) fun p hp => by
    simp only [pts, List.mem_cons, List.not_mem_nil, or_false] at hp
    rcases hp with rfl | rfl
    · exact run0 w
    · exact run1 w
theorem facts {P : Program} {w : World} {K : PySem.W.Frag} {h : Heap} {mg : Str → Option Value} {f : Addr} (X : K.In h) (G : h.Ns mainGlobals mg) (hfa : mg ("law" : Str) = some (.ref f)) (ch : ∀ p ∈ pts, p.Says K)
    (math : m_law (lawE 10 1) (.z 0) (fun o _ => o = .rt (.bool true)) fun _ _ => False) :
    ∃ fd : FuncData, (∀ (s : Shared) (v : Value), BindsTo s fd ⟨[v], []⟩ [("_law_script", v)]) ∧ ∀ base : Heap, K.In base → base.Ns mainGlobals mg → FnG true P w K mg base 12 f fd ["_law_script"] (spLaw K) := by
  have ch0 : pt0.Says K := ch pt0 (by simp [pts])
  have c0 := ch0.d
  have hx0 := ch0.x
  have ch1 : pt1.Says K := ch pt1 (by simp [pts])
  have c1 := ch1.d
  have hx1 := ch1.x
  obtain ⟨fd_is_integer, F_is_integer⟩ := c0.def_ 0 (d := d_is_integer) rfl
  have G_is_integer : mg "is_integer" = some (.ref (He.ga K "is_integer")) := He.glo_ok X G (c0.fact 0 (f := .glo "is_integer") rfl)
  have B_is_integer : L2.Binds K fd_is_integer ["value", "low", "high"] [] := L2.FunD.bindsN F_is_integer fun _ _ _ _ _ _ us hl => match us, hl with | [_, _, _], _ => rfl
  obtain ⟨fd_is_length, F_is_length⟩ := c0.def_ 1 (d := d_is_length) rfl
  have G_is_length : mg "is_length" = some (.ref (He.ga K "is_length")) := He.glo_ok X G (c0.fact 1 (f := .glo "is_length") rfl)
  have B_is_length : L2.Binds K fd_is_length ["value"] [] := L2.FunD.bindsN F_is_length fun _ _ _ _ _ _ us hl => match us, hl with | [_], _ => rfl
  obtain ⟨fd_row_error, F_row_error⟩ := c0.def_ 2 (d := d_row_error) rfl
  have G_row_error : mg "row_error" = some (.ref (He.ga K "row_error")) := He.glo_ok X G (c0.fact 2 (f := .glo "row_error") rfl)
  have B_row_error : L2.Binds K fd_row_error ["value"] [] := L2.FunD.bindsN F_row_error fun _ _ _ _ _ _ us hl => match us, hl with | [_], _ => rfl
  obtain ⟨fd_check_place, F_check_place⟩ := c0.def_ 3 (d := d_check_place) rfl
  have G_check_place : mg "check_place" = some (.ref (He.ga K "check_place")) := He.glo_ok X G (c0.fact 3 (f := .glo "check_place") rfl)
  have B_check_place : L2.Binds K fd_check_place ["row", "value"] [] := L2.FunD.bindsN F_check_place fun _ _ _ _ _ _ us hl => match us, hl with | [_, _], _ => rfl
  obtain ⟨fd_check_length, F_check_length⟩ := c0.def_ 4 (d := d_check_length) rfl
  have G_check_length : mg "check_length" = some (.ref (He.ga K "check_length")) := He.glo_ok X G (c0.fact 4 (f := .glo "check_length") rfl)
  have B_check_length : L2.Binds K fd_check_length ["value"] [] := L2.FunD.bindsN F_check_length fun _ _ _ _ _ _ us hl => match us, hl with | [_], _ => rfl
  obtain ⟨fd_changed, F_changed⟩ := c0.def_ 5 (d := d_changed) rfl
  have G_changed : mg "changed" = some (.ref (He.ga K "changed")) := He.glo_ok X G (c0.fact 5 (f := .glo "changed") rfl)
  have B_changed : L2.Binds K fd_changed ["row", "place", "length"] [] := L2.FunD.bindsN F_changed fun _ _ _ _ _ _ us hl => match us, hl with | [_, _, _], _ => rfl
  obtain ⟨fd_put_in, F_put_in⟩ := c0.def_ 6 (d := d_put_in) rfl
  have G_put_in : mg "put_in" = some (.ref (He.ga K "put_in")) := He.glo_ok X G (c0.fact 6 (f := .glo "put_in") rfl)
  have B_put_in : L2.Binds K fd_put_in ["row", "place", "length"] [] := L2.FunD.bindsN F_put_in fun _ _ _ _ _ _ us hl => match us, hl with | [_, _, _], _ => rfl
  obtain ⟨fd_taken_out, F_taken_out⟩ := c0.def_ 7 (d := d_taken_out) rfl
  have G_taken_out : mg "taken_out" = some (.ref (He.ga K "taken_out")) := He.glo_ok X G (c0.fact 7 (f := .glo "taken_out") rfl)
  have B_taken_out : L2.Binds K fd_taken_out ["row", "place"] [] := L2.FunD.bindsN F_taken_out fun _ _ _ _ _ _ us hl => match us, hl with | [_, _], _ => rfl
  obtain ⟨fd_edited, F_edited⟩ := c0.def_ 8 (d := d_edited) rfl
  have G_edited : mg "edited" = some (.ref (He.ga K "edited")) := He.glo_ok X G (c0.fact 8 (f := .glo "edited") rfl)
  have B_edited : L2.Binds K fd_edited ["row", "edit"] [] := L2.FunD.bindsN F_edited fun _ _ _ _ _ _ us hl => match us, hl with | [_, _], _ => rfl
  obtain ⟨fd__law_stream, F__law_stream⟩ := c0.def_ 9 (d := d__law_stream) rfl
  have G__law_stream : mg "_law_stream" = some (.ref (He.ga K "_law_stream")) := He.glo_ok X G (c0.fact 9 (f := .glo "_law_stream") rfl)
  have B__law_stream : L2.Binds K fd__law_stream ["_law_script"] [] := L2.FunD.bindsN F__law_stream fun _ _ _ _ _ _ us hl => match us, hl with | [_], _ => rfl
  obtain ⟨fd__law_draw, F__law_draw⟩ := c0.def_ 10 (d := d__law_draw) rfl
  have G__law_draw : mg "_law_draw" = some (.ref (He.ga K "_law_draw")) := He.glo_ok X G (c0.fact 10 (f := .glo "_law_draw") rfl)
  have B__law_draw : L2.Binds K fd__law_draw ["_law_stream_here", "_law_many"] [] := L2.FunD.bindsN F__law_draw fun _ _ _ _ _ _ us hl => match us, hl with | [_, _], _ => rfl
  obtain ⟨fd__law_pick, F__law_pick⟩ := c0.def_ 11 (d := d__law_pick) rfl
  have G__law_pick : mg "_law_pick" = some (.ref (He.ga K "_law_pick")) := He.glo_ok X G (c0.fact 11 (f := .glo "_law_pick") rfl)
  have B__law_pick : L2.Binds K fd__law_pick ["_law_stream_here", "_law_items"] [] := L2.FunD.bindsN F__law_pick fun _ _ _ _ _ _ us hl => match us, hl with | [_, _], _ => rfl
  obtain ⟨fd__law_is_int, F__law_is_int⟩ := c0.def_ 12 (d := d__law_is_int) rfl
  have G__law_is_int : mg "_law_is_int" = some (.ref (He.ga K "_law_is_int")) := He.glo_ok X G (c0.fact 12 (f := .glo "_law_is_int") rfl)
  have B__law_is_int : L2.Binds K fd__law_is_int ["_law_value", "_law_low", "_law_high"] [] := L2.FunD.bindsN F__law_is_int fun _ _ _ _ _ _ us hl => match us, hl with | [_, _, _], _ => rfl
  obtain ⟨fd__law_row_drawn, F__law_row_drawn⟩ := c0.def_ 13 (d := d__law_row_drawn) rfl
  have G__law_row_drawn : mg "_law_row_drawn" = some (.ref (He.ga K "_law_row_drawn")) := He.glo_ok X G (c0.fact 13 (f := .glo "_law_row_drawn") rfl)
  have B__law_row_drawn : L2.Binds K fd__law_row_drawn ["_law_stream_here", "_law_most"] [] := L2.FunD.bindsN F__law_row_drawn fun _ _ _ _ _ _ us hl => match us, hl with | [_, _], _ => rfl
  obtain ⟨fd__law_name, F__law_name⟩ := c0.def_ 14 (d := d__law_name) rfl
  have G__law_name : mg "_law_name" = some (.ref (He.ga K "_law_name")) := He.glo_ok X G (c0.fact 14 (f := .glo "_law_name") rfl)
  have B__law_name : L2.Binds K fd__law_name ["_law_error"] [] := L2.FunD.bindsN F__law_name fun _ _ _ _ _ _ us hl => match us, hl with | [_], _ => rfl
  obtain ⟨fd__law_field, F__law_field⟩ := c0.def_ 15 (d := d__law_field) rfl
  have G__law_field : mg "_law_field" = some (.ref (He.ga K "_law_field")) := He.glo_ok X G (c0.fact 15 (f := .glo "_law_field") rfl)
  have B__law_field : L2.Binds K fd__law_field ["_law_error"] [] := L2.FunD.bindsN F__law_field fun _ _ _ _ _ _ us hl => match us, hl with | [_], _ => rfl
  obtain ⟨fd__law_apply, F__law_apply⟩ := c0.def_ 16 (d := d__law_apply) rfl
  have G__law_apply : mg "_law_apply" = some (.ref (He.ga K "_law_apply")) := He.glo_ok X G (c0.fact 16 (f := .glo "_law_apply") rfl)
  have B__law_apply : L2.Binds K fd__law_apply ["_law_page", "_law_edit_here"] [] := L2.FunD.bindsN F__law_apply fun _ _ _ _ _ _ us hl => match us, hl with | [_, _], _ => rfl
  obtain ⟨fd__law_did, F__law_did⟩ := c0.def_ 17 (d := d__law_did) rfl
  have G__law_did : mg "_law_did" = some (.ref (He.ga K "_law_did")) := He.glo_ok X G (c0.fact 17 (f := .glo "_law_did") rfl)
  have B__law_did : L2.Binds K fd__law_did ["_law_page", "_law_edit_here"] [] := L2.FunD.bindsN F__law_did fun _ _ _ _ _ _ us hl => match us, hl with | [_, _], _ => rfl
  obtain ⟨fd__law_due, F__law_due⟩ := c0.def_ 18 (d := d__law_due) rfl
  have G__law_due : mg "_law_due" = some (.ref (He.ga K "_law_due")) := He.glo_ok X G (c0.fact 18 (f := .glo "_law_due") rfl)
  have B__law_due : L2.Binds K fd__law_due ["_law_model", "_law_edit_here"] [] := L2.FunD.bindsN F__law_due fun _ _ _ _ _ _ us hl => match us, hl with | [_, _], _ => rfl
  obtain ⟨fd__law_seen, F__law_seen⟩ := c0.def_ 19 (d := d__law_seen) rfl
  have G__law_seen : mg "_law_seen" = some (.ref (He.ga K "_law_seen")) := He.glo_ok X G (c0.fact 19 (f := .glo "_law_seen") rfl)
  have B__law_seen : L2.Binds K fd__law_seen ["_law_page"] [] := L2.FunD.bindsN F__law_seen fun _ _ _ _ _ _ us hl => match us, hl with | [_], _ => rfl
  obtain ⟨fd__law_due_seen, F__law_due_seen⟩ := c1.def_ 0 (d := d__law_due_seen) rfl
  have G__law_due_seen : mg "_law_due_seen" = some (.ref (He.ga K "_law_due_seen")) := He.glo_ok X G (c0.fact 20 (f := .glo "_law_due_seen") rfl)
  have B__law_due_seen : L2.Binds K fd__law_due_seen ["_law_model"] [] := L2.FunD.bindsN F__law_due_seen fun _ _ _ _ _ _ us hl => match us, hl with | [_], _ => rfl
  obtain ⟨fd__law_edit, F__law_edit⟩ := c1.def_ 1 (d := d__law_edit) rfl
  have G__law_edit : mg "_law_edit" = some (.ref (He.ga K "_law_edit")) := He.glo_ok X G (c0.fact 21 (f := .glo "_law_edit") rfl)
  have B__law_edit : L2.Binds K fd__law_edit ["_law_stream_here", "_law_row"] [] := L2.FunD.bindsN F__law_edit fun _ _ _ _ _ _ us hl => match us, hl with | [_, _], _ => rfl
  obtain ⟨fd__law_went, F__law_went⟩ := c1.def_ 2 (d := d__law_went) rfl
  have G__law_went : mg "_law_went" = some (.ref (He.ga K "_law_went")) := He.glo_ok X G (c0.fact 22 (f := .glo "_law_went") rfl)
  have B__law_went : L2.Binds K fd__law_went ["_law_page", "_law_model", "_law_edit_here"] [] := L2.FunD.bindsN F__law_went fun _ _ _ _ _ _ us hl => match us, hl with | [_, _, _], _ => rfl
  obtain ⟨fd_law, F_law⟩ := c1.def_ 3 (d := d_law) rfl
  have G_law : mg "law" = some (.ref (He.ga K "law")) := He.glo_ok X G (c0.fact 23 (f := .glo "law") rfl)
  have B_law : L2.Binds K fd_law ["_law_script"] [] := L2.FunD.bindsN F_law fun _ _ _ _ _ _ us hl => match us, hl with | [_], _ => rfl
  obtain ⟨fd_Page_init, F_Page_init⟩ := c1.def_ 8 (d := d_Page_init) rfl
  have B_Page_init : L2.Binds K fd_Page_init ["self", "row"] [] := L2.FunD.bindsN F_Page_init fun _ _ _ _ _ _ us hl => match us, hl with | [_, _], _ => rfl
  obtain ⟨fd_Page_row, F_Page_row⟩ := ch0.def_ 0 (d := a_Page_row) rfl
  have B_Page_row : L2.Binds K fd_Page_row ["self"] [] := L2.FunD.bindsN F_Page_row fun _ _ _ _ _ _ us hl => match us, hl with | [_], _ => rfl
  obtain ⟨fd_Page_size, F_Page_size⟩ := ch1.def_ 0 (d := a_Page_size) rfl
  have B_Page_size : L2.Binds K fd_Page_size ["self"] [] := L2.FunD.bindsN F_Page_size fun _ _ _ _ _ _ us hl => match us, hl with | [_], _ => rfl
  obtain ⟨fd_Page_version, F_Page_version⟩ := ch1.def_ 1 (d := a_Page_version) rfl
  have B_Page_version : L2.Binds K fd_Page_version ["self"] [] := L2.FunD.bindsN F_Page_version fun _ _ _ _ _ _ us hl => match us, hl with | [_], _ => rfl
  obtain ⟨fd_Page_accept, F_Page_accept⟩ := c1.def_ 9 (d := d_Page_accept) rfl
  have B_Page_accept : L2.Binds K fd_Page_accept ["self", "row"] [] := L2.FunD.bindsN F_Page_accept fun _ _ _ _ _ _ us hl => match us, hl with | [_, _], _ => rfl
  obtain ⟨fd_Page_check_idle, F_Page_check_idle⟩ := c1.def_ 10 (d := d_Page_check_idle) rfl
  have B_Page_check_idle : L2.Binds K fd_Page_check_idle ["self"] [] := L2.FunD.bindsN F_Page_check_idle fun _ _ _ _ _ _ us hl => match us, hl with | [_], _ => rfl
  obtain ⟨fd_Page_perform, F_Page_perform⟩ := c1.def_ 11 (d := d_Page_perform) rfl
  have B_Page_perform : L2.Binds K fd_Page_perform ["self", "edit"] [] := L2.FunD.bindsN F_Page_perform fun _ _ _ _ _ _ us hl => match us, hl with | [_, _], _ => rfl
  obtain ⟨fd_Page_perform_alone, F_Page_perform_alone⟩ := c1.def_ 12 (d := d_Page_perform_alone) rfl
  have B_Page_perform_alone : L2.Binds K fd_Page_perform_alone ["self", "edit"] [] := L2.FunD.bindsN F_Page_perform_alone fun _ _ _ _ _ _ us hl => match us, hl with | [_, _], _ => rfl
  obtain ⟨fd_Page_put, F_Page_put⟩ := c1.def_ 13 (d := d_Page_put) rfl
  have B_Page_put : L2.Binds K fd_Page_put ["self", "place", "length"] [] := L2.FunD.bindsN F_Page_put fun _ _ _ _ _ _ us hl => match us, hl with | [_, _, _], _ => rfl
  obtain ⟨fd_Page_cut, F_Page_cut⟩ := c1.def_ 14 (d := d_Page_cut) rfl
  have B_Page_cut : L2.Binds K fd_Page_cut ["self", "place"] [] := L2.FunD.bindsN F_Page_cut fun _ _ _ _ _ _ us hl => match us, hl with | [_, _], _ => rfl
  obtain ⟨fd_Page_resize, F_Page_resize⟩ := c1.def_ 15 (d := d_Page_resize) rfl
  have B_Page_resize : L2.Binds K fd_Page_resize ["self", "place", "length"] [] := L2.FunD.bindsN F_Page_resize fun _ _ _ _ _ _ us hl => match us, hl with | [_, _, _], _ => rfl
  obtain ⟨fd_Page_turn, F_Page_turn⟩ := c1.def_ 16 (d := d_Page_turn) rfl
  have B_Page_turn : L2.Binds K fd_Page_turn ["self"] [] := L2.FunD.bindsN F_Page_turn fun _ _ _ _ _ _ us hl => match us, hl with | [_], _ => rfl
  obtain ⟨fd_Page_undo, F_Page_undo⟩ := c1.def_ 17 (d := d_Page_undo) rfl
  have B_Page_undo : L2.Binds K fd_Page_undo ["self"] [] := L2.FunD.bindsN F_Page_undo fun _ _ _ _ _ _ us hl => match us, hl with | [_], _ => rfl
  obtain ⟨fd_Page_edits, F_Page_edits⟩ := c1.def_ 18 (d := d_Page_edits) rfl
  have B_Page_edits : L2.Binds K fd_Page_edits ["self"] [] := L2.FunD.bindsN F_Page_edits fun _ _ _ _ _ _ us hl => match us, hl with | [_], _ => rfl
  obtain ⟨fd_Page_len, F_Page_len⟩ := c1.def_ 19 (d := d_Page_len) rfl
  have B_Page_len : L2.Binds K fd_Page_len ["self"] [] := L2.FunD.bindsN F_Page_len fun _ _ _ _ _ _ us hl => match us, hl with | [_], _ => rfl
  obtain ⟨fd_Page_str, F_Page_str⟩ := c1.def_ 20 (d := d_Page_str) rfl
  have B_Page_str : L2.Binds K fd_Page_str ["self"] [] := L2.FunD.bindsN F_Page_str fun _ _ _ _ _ _ us hl => match us, hl with | [_], _ => rfl
  simp only [pt0, Bool.and_eq_true] at hx0
  obtain ⟨⟨⟨⟨⟨⟨⟨⟨⟨⟨⟨⟨h0, h_TooMany⟩, h_BadLength⟩, h_LastWord⟩, h_BadRow⟩, h_TooManyEdits⟩, h_NothingToUndo⟩, h_Busy⟩, h_NoPlace⟩, h_C_Page⟩, h_MK_Page⟩, h_M_Page_len⟩, h_M_Page_str⟩ := hx0
  simp only [pt1, Bool.and_eq_true] at hx1
  obtain ⟨⟨⟨⟨⟨⟨⟨⟨⟨⟨⟨⟨h_M_Page_accept, h_M_Page_check_idle⟩, h_M_Page_cut⟩, h_M_Page_edits⟩, h_M_Page_perform⟩, h_M_Page_perform_alone⟩, h_M_Page_put⟩, h_M_Page_resize⟩, h_M_Page_turn⟩, h_M_Page_undo⟩, h_P_Page_row⟩, h_P_Page_size⟩, h_P_Page_version⟩ := hx1
  obtain ⟨fi_TooMany, FI_TooMany⟩ := c1.def_ 4 (d := di_TooMany) rfl
  obtain ⟨fi_BadLength, FI_BadLength⟩ := c1.def_ 5 (d := di_BadLength) rfl
  obtain ⟨fi_BadRow, FI_BadRow⟩ := c1.def_ 6 (d := di_BadRow) rfl
  obtain ⟨fi_NoPlace, FI_NoPlace⟩ := c1.def_ 7 (d := di_NoPlace) rfl
  have T : Txt K mg := ⟨fd_is_integer, F_is_integer, ⟨G_is_integer, F_is_integer.kp, B_is_integer⟩, fd_is_length, F_is_length, ⟨G_is_length, F_is_length.kp, B_is_length⟩, fd_row_error, F_row_error, ⟨G_row_error, F_row_error.kp, B_row_error⟩, fd_check_place, F_check_place, ⟨G_check_place, F_check_place.kp, B_check_place⟩, fd_check_length, F_check_length, ⟨G_check_length, F_check_length.kp, B_check_length⟩, fd_changed, F_changed, ⟨G_changed, F_changed.kp, B_changed⟩, fd_put_in, F_put_in, ⟨G_put_in, F_put_in.kp, B_put_in⟩, fd_taken_out, F_taken_out, ⟨G_taken_out, F_taken_out.kp, B_taken_out⟩, fd_edited, F_edited, ⟨G_edited, F_edited.kp, B_edited⟩, fd__law_stream, F__law_stream, ⟨G__law_stream, F__law_stream.kp, B__law_stream⟩, fd__law_draw, F__law_draw, ⟨G__law_draw, F__law_draw.kp, B__law_draw⟩, fd__law_pick, F__law_pick, ⟨G__law_pick, F__law_pick.kp, B__law_pick⟩, fd__law_is_int, F__law_is_int, ⟨G__law_is_int, F__law_is_int.kp, B__law_is_int⟩, fd__law_row_drawn, F__law_row_drawn, ⟨G__law_row_drawn, F__law_row_drawn.kp, B__law_row_drawn⟩, fd__law_name, F__law_name, ⟨G__law_name, F__law_name.kp, B__law_name⟩, fd__law_field, F__law_field, ⟨G__law_field, F__law_field.kp, B__law_field⟩, fd__law_apply, F__law_apply, ⟨G__law_apply, F__law_apply.kp, B__law_apply⟩, fd__law_did, F__law_did, ⟨G__law_did, F__law_did.kp, B__law_did⟩, fd__law_due, F__law_due, ⟨G__law_due, F__law_due.kp, B__law_due⟩, fd__law_seen, F__law_seen, ⟨G__law_seen, F__law_seen.kp, B__law_seen⟩, fd__law_due_seen, F__law_due_seen, ⟨G__law_due_seen, F__law_due_seen.kp, B__law_due_seen⟩, fd__law_edit, F__law_edit, ⟨G__law_edit, F__law_edit.kp, B__law_edit⟩, fd__law_went, F__law_went, ⟨G__law_went, F__law_went.kp, B__law_went⟩, fd_law, F_law, ⟨G_law, F_law.kp, B_law⟩, fd_Page_init, F_Page_init, B_Page_init, fd_Page_row, F_Page_row, B_Page_row, fd_Page_size, F_Page_size, B_Page_size, fd_Page_version, F_Page_version, B_Page_version, fd_Page_accept, F_Page_accept, B_Page_accept, fd_Page_check_idle, F_Page_check_idle, B_Page_check_idle, fd_Page_perform, F_Page_perform, B_Page_perform, fd_Page_perform_alone, F_Page_perform_alone, B_Page_perform_alone, fd_Page_put, F_Page_put, B_Page_put, fd_Page_cut, F_Page_cut, B_Page_cut, fd_Page_resize, F_Page_resize, B_Page_resize, fd_Page_turn, F_Page_turn, B_Page_turn, fd_Page_undo, F_Page_undo, B_Page_undo, fd_Page_edits, F_Page_edits, B_Page_edits, fd_Page_len, F_Page_len, B_Page_len, fd_Page_str, F_Page_str, B_Page_str, clsPB_ok h_C_Page, mkPB_ok h_MK_Page, He.glo_ok X G (c1.fact 29 (f := .glo "Page") rfl), metPB_ok h_M_Page_len, metPB_ok h_M_Page_str, metPB_ok h_M_Page_accept, metPB_ok h_M_Page_check_idle, metPB_ok h_M_Page_cut, metPB_ok h_M_Page_edits, metPB_ok h_M_Page_perform, metPB_ok h_M_Page_perform_alone, metPB_ok h_M_Page_put, metPB_ok h_M_Page_resize, metPB_ok h_M_Page_turn, metPB_ok h_M_Page_undo, propPB_ok h_P_Page_row, propPB_ok h_P_Page_size, propPB_ok h_P_Page_version, He.free_ok X G (c0.fact 24 (f := .free "LookupError") rfl), He.free_ok X G (c0.fact 25 (f := .free "ValueError") rfl), He.free_ok X G (c0.fact 26 (f := .free "abs") rfl), He.free_ok X G (c0.fact 27 (f := .free "bool") rfl), He.free_ok X G (c0.fact 28 (f := .free "enumerate") rfl), He.free_ok X G (c1.fact 0 (f := .free "int") rfl), He.free_ok X G (c1.fact 1 (f := .free "isinstance") rfl), He.free_ok X G (c1.fact 2 (f := .free "len") rfl), He.free_ok X G (c1.fact 3 (f := .free "min") rfl), He.free_ok X G (c1.fact 4 (f := .free "range") rfl), He.free_ok X G (c1.fact 5 (f := .free "repr") rfl), He.free_ok X G (c1.fact 6 (f := .free "str") rfl), He.free_ok X G (c1.fact 7 (f := .free "tuple") rfl), He.int_ok X G (c1.fact 8 (f := .int "MAX_EDITS" (60)) rfl), He.int_ok X G (c1.fact 9 (f := .int "MAX_LENGTH" (60)) rfl), He.int_ok X G (c1.fact 10 (f := .int "MAX_WORDS" (24)) rfl), He.glo_ok X G (c1.fact 11 (f := .glo "WrapError") rfl), here_of (c1.fact 11 (f := .glo "WrapError") rfl), He.glo_ok X G (c1.fact 12 (f := .glo "TooMany") rfl), here_of (c1.fact 12 (f := .glo "TooMany") rfl), He.glo_ok X G (c1.fact 13 (f := .glo "TooNarrow") rfl), here_of (c1.fact 13 (f := .glo "TooNarrow") rfl), He.glo_ok X G (c1.fact 14 (f := .glo "BadLength") rfl), here_of (c1.fact 14 (f := .glo "BadLength") rfl), He.glo_ok X G (c1.fact 15 (f := .glo "LastWord") rfl), here_of (c1.fact 15 (f := .glo "LastWord") rfl), He.glo_ok X G (c1.fact 16 (f := .glo "BadRow") rfl), here_of (c1.fact 16 (f := .glo "BadRow") rfl), He.glo_ok X G (c1.fact 17 (f := .glo "BadTimes") rfl), here_of (c1.fact 17 (f := .glo "BadTimes") rfl), He.glo_ok X G (c1.fact 18 (f := .glo "TooLong") rfl), here_of (c1.fact 18 (f := .glo "TooLong") rfl), He.glo_ok X G (c1.fact 19 (f := .glo "TooManyEdits") rfl), here_of (c1.fact 19 (f := .glo "TooManyEdits") rfl), He.glo_ok X G (c1.fact 20 (f := .glo "NothingToUndo") rfl), here_of (c1.fact 20 (f := .glo "NothingToUndo") rfl), He.glo_ok X G (c1.fact 21 (f := .glo "BadEdits") rfl), here_of (c1.fact 21 (f := .glo "BadEdits") rfl), He.glo_ok X G (c1.fact 22 (f := .glo "BadEdit") rfl), here_of (c1.fact 22 (f := .glo "BadEdit") rfl), He.glo_ok X G (c1.fact 23 (f := .glo "Rejected") rfl), here_of (c1.fact 23 (f := .glo "Rejected") rfl), He.glo_ok X G (c1.fact 24 (f := .glo "Busy") rfl), here_of (c1.fact 24 (f := .glo "Busy") rfl), He.glo_ok X G (c1.fact 25 (f := .glo "BadText") rfl), here_of (c1.fact 25 (f := .glo "BadText") rfl), He.glo_ok X G (c1.fact 26 (f := .glo "NoPlace") rfl), here_of (c1.fact 26 (f := .glo "NoPlace") rfl), He.glo_ok X G (c1.fact 27 (f := .glo "NoWidth") rfl), here_of (c1.fact 27 (f := .glo "NoWidth") rfl), He.glo_ok X G (c1.fact 28 (f := .glo "NoVersion") rfl), here_of (c1.fact 28 (f := .glo "NoVersion") rfl), errT_ok h_TooMany ⟨_, _, _, _, _, _, _, _, FI_TooMany⟩, errT_ok h_BadLength ⟨_, _, _, _, _, _, _, _, FI_BadLength⟩, errZ_ok h_LastWord, errT_ok h_BadRow ⟨_, _, _, _, _, _, _, _, FI_BadRow⟩, errZ_ok h_TooManyEdits, errZ_ok h_NothingToUndo, errZ_ok h_Busy, errT_ok h_NoPlace ⟨_, _, _, _, _, _, _, _, FI_NoPlace⟩⟩
  have e := hfa.symm.trans T.D_law.mg
  cases e
  have b := L2.FunD.bindsA (ps := ["_law_script"]) T.F_law fun _ _ _ _ _ _ us hl => match us, hl with | [_], _ => rfl
  exact ⟨T.fd_law, fun s v => b s [v] rfl, fun base XB _ => T.ok_law (smB_ok h0 XB) math⟩
end Wk76
open PySem PySem.W PySem.Calls PyProof.Rows
theorem Wk76.end_ (math : Wk76.m_law (DL.lawE 10 1) (.z 0) (fun o _ => o = .rt (.bool true)) fun _ _ => False) : PySem.Challenge.rw_wrapwidths_k76_edits_of_pages.Holds := by
  w_on; o_law
  refine HandSHeadRun.head_any (r := OpenLaw.row PySem.Challenge.rw_wrapwidths_k76_edits_of_pages) (q := view (OpenLaw.row PySem.Challenge.rw_wrapwidths_k76_edits_of_pages).prog [69]) (H := Wk76.hk) (ob := Wk76.ob) (M := 12000) (loose := ("MAX_WORDS" :: "MAX_LENGTH" :: "MAX_WIDTH" :: "MAX_EDITS" :: "DIGITS" :: "ROW" :: "LONGEST" :: "WrapError" :: "NoRows" :: "TooMany" :: "TooNarrow" :: "BadLength" :: "LastWord" :: "BadRow" :: "BadTimes" :: "TooLong" :: "TooManyEdits" :: "NothingToUndo" :: "BadEdits" :: "BadEdit" :: "Rejected" :: "Busy" :: "BadText" :: "NoPlace" :: "NoWidth" :: "NoVersion" :: "WordRow" :: "Page" :: "_wall" :: "is_integer" :: "is_length" :: "row_error" :: "check_place" :: "extent_of" :: "joined" :: "check_fits" :: "next_start" :: "starts_of" :: "starts_at" :: "check_length" :: "changed" :: "put_in" :: "taken_out" :: "parse_number" :: "parse_row" :: "check_width" :: "edited" :: "_law_stream" :: "_law_draw" :: "_law_pick" :: "_law_is_int" :: "_law_row_drawn" :: "_law_name" :: "_law_field" :: "_law_apply" :: "_law_did" :: "_law_due" :: "_law_seen" :: "_law_due_seen" :: "_law_edit" :: "_law_went" :: []))
    (d := HandSHeadRun.topDef (OpenLaw.row PySem.Challenge.rw_wrapwidths_k76_edits_of_pages).prog 69) (kwd := []) Wk76.ob_eq
    (by kernel_rfl) (fun s => by kernel_rfl) Wk76.run (by kernel_rfl) (by kernel_rfl) (by kernel_rfl) (by rfl) (by first | assumption | decide +kernel) (by decide +kernel) ⟨rfl, rfl, rfl, rfl, rfl, by decide +kernel⟩ ?hw ?hc
  case hw => w_witness2
  case hc =>
    refine DL.walk_law (l := PySem.Challenge.rw_wrapwidths_k76_edits_of_pages) (k := 12) (x := "_law_script") rfl (by kernel_rfl) ⟨rfl, by decide, by decide⟩ ?F
    intro w mg f h Y G hmg0
    obtain ⟨K, KX, c⟩ := Y
    have hmg : mg ("law" : PySem.Str) = some (.ref f) := by
      have e : (HandSHeadRun.topDef (OpenLaw.row PySem.Challenge.rw_wrapwidths_k76_edits_of_pages).prog 69).name = ("law" : PySem.Str) := by kernel_rfl
      rw [← e]
      exact hmg0
    obtain ⟨fd, hb, hF⟩ := Wk76.facts (P := (PySem.Challenge.rw_wrapwidths_k76_edits_of_pages).prog) (w := w) KX G hmg c math
    exact ⟨K, fd, KX, hb, hF⟩
end
section
namespace DL
open PySem
/-- m gives what Q says, drawing at most n times -/
def Ok {α : Type} (m : W α) (n : Nat) (Q : α → Prop) : Prop := ∀ (c : Sx) (P : α → Sx → Prop) (X : Exn → Sx → Prop), c.n + n < 2 ^ 40 → (∀ a c', (c'.n ≤ c.n + n ∧ c'.mu = c.mu) → Q a → P a c') → m c P X
section
variable {α β : Type} {m : W α} {n n' k : Nat} {Q R : α → Prop}
theorem Ok.ret {a : α} (h : Q a) : Ok (ret a) n Q := fun c P X _ k => k a c ⟨by omega, rfl⟩ h
theorem Ok.bnd {f : α → W β} {S : β → Prop} (h : Ok m n Q) (hf : ∀ a, Q a → Ok (f a) k S) : Ok (bnd m f) (n + k) S := fun c P X hc kk =>
  h c _ X (by omega) fun a c' hc' q => hf a q c' P X (by have := hc'.1; omega) fun b c'' h2 s => kk b c'' ⟨by have := hc'.1; have := h2.1; omega, h2.2.trans hc'.2⟩ s
theorem Ok.bnd' {f : α → W β} {S : β → Prop} (t : Nat) (h : Ok m n Q) (hn : n ≤ t) (hf : ∀ a, Q a → Ok (f a) (t - n) S) : Ok (DL.bnd m f) t S := by
  have := Ok.bnd h hf
  rw [Nat.add_sub_cancel' hn] at this
  exact this
theorem Ok.mono (h : Ok m n Q) (hn : n ≤ n') (hq : ∀ a, Q a → R a) : Ok m n' R := fun c P X hc kk => h c P X (by omega) fun a c' h1 h2 => kk a c' ⟨by have := h1.1; omega, h1.2⟩ (hq a h2)
theorem Ok.le (h : Ok m n Q) (hn : n ≤ n') : Ok m n' Q := h.mono hn fun _ h => h
theorem Ok.imp (h : Ok m n Q) (hq : ∀ a, Q a → R a) : Ok m n R := h.mono (Nat.le_refl _) hq
theorem Ok.grd {c : Prop} (hc : c) (h : Ok m n Q) : Ok (grd c m) n Q := by rw [grd_pos hc]; exact h
theorem Ok.eq {m' : W α} (e : m = m') (h : Ok m' n Q) : Ok m n Q := by rw [e]; exact h
theorem Ok.run {P : α → Prop} {X : Exn → Sx → Prop} (h : Ok m n Q) (hn : n < 2 ^ 40) (hq : ∀ a, Q a → P a) : m (.z 0) (fun a _ => P a) X := h (.z 0) _ X (by show 0 + n < _; omega) fun a _ _ q => hq a q
theorem Ok.draw {many : Int} (h0 : 0 < many) (h1 : many < 9223372036854775808) : Ok (fDraw [.int many]) (n + 1) (fun d => ∃ r : Int, d = .int r ∧ 0 ≤ r ∧ r < many) := fun c P X hc k =>
  ⟨⟨h0, h1, by omega⟩, fun r a b => k _ _ ⟨by show c.n + 1 ≤ _; omega, rfl⟩ ⟨r, rfl, a, b⟩⟩
theorem Ok.drawB {many : Int} {f : D → W β} {S : β → Prop} (h0 : 0 < many) (h1 : many < 9223372036854775808) (hf : ∀ r : Int, 0 ≤ r → r < many → Ok (f (.int r)) n S) : Ok (DL.bnd (fDraw [.int many]) f) (n + 1) S := by
  refine Ok.bnd' (n + 1) (Ok.draw (n := 0) h0 h1) (by omega) ?_
  rintro a ⟨r, rfl, h2, h3⟩
  exact hf r h2 h3
theorem Ok.noX (h : Ok m n Q) : Ok (noX m) n Q := fun c P X hc k => h c P _ hc k
theorem Ok.ite {c : Prop} [Decidable c] {a b : W α} (ha : c → Ok a n Q) (hb : ¬ c → Ok b n Q) : Ok (if c then a else b) n Q := by
  split
  · exact ha ‹_›
  · exact hb ‹_›
theorem bnd_ite {c : Prop} [Decidable c] (a b : W α) (f : α → W β) : DL.bnd (if c then a else b) f = if c then DL.bnd a f else DL.bnd b f := by split <;> rfl
theorem bnd_assoc {γ : Type} (m : W α) (f : α → W β) (g : β → W γ) : DL.bnd (DL.bnd m f) g = DL.bnd m fun a => DL.bnd (f a) g := id rfl
theorem bnd_id (m : W α) : DL.bnd m DL.ret = m := id rfl
end
/-- the new list: each item's own words -/
theorem comp_ok {tg : Tg} {t : XT} {e : XE} {b : Nat} {E : Env} {G : D → Prop} : ∀ (ds acc : List D), acc.length + ds.length ≤ 1000000 → (∀ d ∈ acc, G d) →
    (∀ d ∈ ds, ∃ E1, tg.put d E = some E1 ∧ t E1 = ret true ∧ Ok (e E1) b G) → Ok (compL tg t e ds acc E) (ds.length * b) fun ys => ys.length = acc.length + ds.length ∧ ∀ d ∈ ys, G d
  | [], acc, _, ha, _ => Ok.ret ⟨rfl, ha⟩
  | d :: ds, acc, hl, ha, hs => by
    obtain ⟨E1, e1, e2, h1⟩ := hs d (.head _)
    show Ok (match tg.put d E with | none => stuck | some E1 => bnd (t E1) fun c => if c = true then bnd (e E1) fun y => grd (small acc.length) (compL tg t e ds (acc ++ [y]) E) else compL tg t e ds acc E) _ _
    simp only [e1, e2, bnd_ret, if_true]
    rw [List.length_cons, Nat.succ_mul, Nat.add_comm]
    simp only [List.length_cons] at hl
    refine Ok.bnd h1 fun y hy => Ok.grd (by unfold small; omega) ?_
    refine (comp_ok ds (acc ++ [y]) (by rw [List.length_append, List.length_singleton]; omega) ?_ fun d hd => hs d (.tail _ hd)).imp ?_
    · intro d hd
      rcases List.mem_append.mp hd with h | h
      · exact ha d h
      · rw [List.mem_singleton.mp h]; exact hy
    · rintro ys ⟨h2, h3⟩
      exact ⟨by rw [h2, List.length_append, List.length_cons, List.length_nil]; omega, h3⟩
/-- .. with a test -/
theorem comp_filt {tg : Tg} {t : XT} {e : XE} {E : Env} (q : D → Bool) (f : D → D) : ∀ (ds acc : List D), acc.length + ds.length ≤ 1000000 →
    (∀ d ∈ ds, ∃ E1, tg.put d E = some E1 ∧ t E1 = ret (q d) ∧ (q d = true → e E1 = ret (f d))) → compL tg t e ds acc E = ret (acc ++ (ds.filter q).map f)
  | [], acc, _, _ => by simp [compL]
  | d :: ds, acc, hl, hs => by
    obtain ⟨E1, e1, e2, e3⟩ := hs d (.head _)
    simp only [List.length_cons] at hl
    have hs' : small acc.length := by unfold small; omega
    show (match tg.put d E with | none => stuck | some E1 => bnd (t E1) fun c => if c = true then bnd (e E1) fun y => grd (small acc.length) (compL tg t e ds (acc ++ [y]) E) else compL tg t e ds acc E) = _
    simp only [e1, e2, bnd_ret]
    cases hq : q d with
    | true =>
      simp only [if_true, e3 hq, bnd_ret, grd_pos hs']
      rw [comp_filt q f ds (acc ++ [f d]) (by simp only [List.length_append, List.length_singleton]; omega) fun d hd => hs d (.tail _ hd), List.filter_cons_of_pos hq]
      simp
    | false =>
      rw [if_neg (by decide), comp_filt q f ds acc (by omega) fun d hd => hs d (.tail _ hd), List.filter_cons_of_neg (by rw [hq]; decide)]
section
variable {E : Env}
theorem x_var (i : Nat) : eVar i E = match E[i]? with | some (.val d) => ret d | _ => stuck := id rfl
theorem x_con (d : D) : eCon d E = ret d := id rfl
theorem x_bin (o : Op) (a b : XE) : eBin o a b E = bnd (a E) fun x => bnd (b E) fun y => opBin o x y := id rfl
theorem x_neg (a : XE) : eNeg a E = bnd (a E) opNeg := id rfl
theorem x_cmp (o : Cmp) (a b : XE) : eCmp o a b E = bnd (a E) fun x => bnd (b E) fun y => bnd (opCmp o x y) fun c => ret (.bool c) := id rfl
theorem x_chain (o o' : Cmp) (a b c : XE) : eChain o o' a b c E = bnd (a E) fun x => bnd (b E) fun y => bnd (opCmp o x y) fun k => if k = true then bnd (c E) fun z => bnd (opCmp o' y z) fun k' => ret (.bool k') else ret (.bool false) := id rfl
theorem x_tTru (a : XE) : tTru a E = bnd (a E) tru := id rfl
theorem x_tNot (t : XT) : tNot t E = bnd (t E) fun c => ret (!c) := id rfl
theorem x_tAnd (t u : XT) : tAnd t u E = bnd (t E) fun c => if c = true then u E else ret false := id rfl
theorem x_tOr (t u : XT) : tOr t u E = bnd (t E) fun c => if c = true then ret true else u E := id rfl
theorem x_tBool (a : XE) : tBool a E = bnd (a E) fun d => match d with | .bool b => ret b | _ => stuck := id rfl
theorem x_tYes : tYes E = ret true := id rfl
theorem x_not (a : XE) : eNot a E = bnd (a E) fun x => bnd (tru x) fun c => ret (.bool (!c)) := id rfl
theorem x_and (a b : XE) : eAnd a b E = bnd (a E) fun x => bnd (tru x) fun c => if c = true then b E else ret x := id rfl
theorem x_or (a b : XE) : eOr a b E = bnd (a E) fun x => bnd (tru x) fun c => if c = true then ret x else b E := id rfl
theorem x_if (t : XT) (a b : XE) : eIf t a b E = bnd (t E) fun c => if c = true then a E else b E := id rfl
theorem x_b1 (f : B1) (a : XE) : eB1 f a E = bnd (a E) (bi1 f) := id rfl
theorem x_b2 (f : B2) (a b : XE) : eB2 f a b E = bnd (a E) fun x => bnd (b E) fun y => bi2 f x y := id rfl
theorem x_is (t : Ty) (a : XE) : eIs t a E = bnd (a E) fun x => grd (noXn x = true) (ret (.bool (isTy t x))) := id rfl
theorem x_isC (ms : List Str) (a : XE) : eIsC ms a E = bnd (a E) (isC ms) := id rfl
theorem x_fld (a : XE) (f : Str) : eFld a f E = bnd (a E) (fldOf f) := id rfl
theorem x_in (n : Bool) (a b : XE) : eIn n a b E = bnd (a E) fun x => bnd (b E) fun y => opIn n x y := id rfl
theorem x_count (a b : XE) : eCnt a b E = bnd (a E) fun x => match x with | .list xs => bnd (b E) fun y => opCnt (.list xs) y | _ => stuck := id rfl
theorem x_lstR (a : XA) : eLstR a E = bnd (a E) fun xs => grd (small xs.length) (ret (.list xs)) := id rfl
theorem x_tupR (a : XA) : eTupR a E = bnd (a E) fun xs => grd (small xs.length) (ret (.tuple xs)) := id rfl
theorem x_raise (n : Str) (fs : List Str) (a : XA) : sRaise n fs a E = bnd (a E) fun xs => thr ⟨n, fs.zip xs⟩ := id rfl
theorem x_star (a : XE) (r : XA) : aStar a r E = bnd (a E) fun x => bnd (itemsOf x) fun ys => bnd (r E) fun xs => ret (ys ++ xs) := id rfl
theorem x_idx (a b : XE) : eIdx a b E = bnd (a E) fun x => bnd (b E) fun y => opIdx x y := id rfl
theorem x_oNone : oNone E = ret none := id rfl
theorem x_oSome (a : XE) : oSome a E = bnd (a E) fun x => bnd (asInt x) fun i => ret (some i) := id rfl
theorem x_cut (a : XE) (lo hi : XO) : eCut a lo hi E = bnd (a E) fun x => bnd (lo E) fun l => bnd (hi E) fun h => opCut x l h := id rfl
theorem x_aNil : aNil E = ret [] := id rfl
theorem x_aCons (a : XE) (r : XA) : aCons a r E = bnd (a E) fun x => bnd (r E) fun xs => ret (x :: xs) := id rfl
theorem x_tup (a : XA) : eTup a E = bnd (a E) fun xs => grd (small xs.length) (ret (.tuple xs)) := id rfl
theorem x_lst (a : XA) : eLst a E = bnd (a E) fun xs => grd (small xs.length) (ret (.list xs)) := id rfl
theorem x_call (f : Fn) (a : XA) : eCall f a E = bnd (a E) f := id rfl
theorem x_callS (f : Fn) (s : Nat) (a : XA) : eCallS f s a E = match E[s]? with | some .stm => bnd (a E) f | _ => stuck := id rfl
theorem x_iSeq (a : XE) : iSeq a E = bnd (a E) itemsOf := id rfl
theorem x_iRng1 (a : XE) : iRng1 a E = bnd (a E) fun x => bnd (asInt x) fun n => grd (rngOk 0 n) (ret (rng 0 n)) := id rfl
theorem x_iRng2 (a b : XE) : iRng2 a b E = bnd (a E) fun x => bnd (b E) fun y => bnd (asInt x) fun n => bnd (asInt y) fun m => grd (rngOk n m) (ret (rng n m)) := id rfl
theorem x_comp (it : XA) (tg : Tg) (t : XT) (e : XE) (vs : List Nat) : eComp it tg t e vs E = bnd (it E) fun ds => bnd (noX (compL tg t e ds [] (wipeE E vs))) fun ys => ret (.list ys) := id rfl
theorem x_bor (i : Nat) (e : XE) : eBor i e E = match E[i]? with | some (.own ds) => bnd (e (E.set i (.val (.list ds)))) fun d => grd (flat d = true) (ret d) | _ => e E := id rfl
theorem x_tBor (i : Nat) (t : XT) : tBor i t E = match E[i]? with | some (.own ds) => t (E.set i (.val (.list ds))) | _ => t E := id rfl
theorem x_seq (a b : XS) : sSeq a b E = bnd (a E) fun o => match o with | .nx E' => b E' | o => ret o := id rfl
theorem x_skip : sSkip E = ret (.nx E) := id rfl
theorem x_asg (i : Nat) (e : XE) : sAsg i e E = bnd (e E) fun d => ret (.nx (E.set i (.val d))) := id rfl
theorem x_put (tg : Tg) (e : XE) : sPut tg e E = bnd (e E) fun d => match tg.put d E with | some E' => ret (.nx E') | none => stuck := id rfl
theorem x_par (i j : Nat) (a b : XE) : sPar i j a b E = bnd (a E) fun x => bnd (b E) fun y => ret (.nx ((E.set i (.val x)).set j (.val y))) := id rfl
theorem x_parO (i j : Nat) (a b : XE) : sParO i j a b E = bnd (a E) fun x => bnd (b E) fun y => match x with | .list ds => ret (.nx ((E.set i (.own ds)).set j (.val y))) | _ => stuck := id rfl
theorem x_own (i : Nat) (e : XE) : sOwn i e E = bnd (e E) fun d => match d with | .list ds => ret (.nx (E.set i (.own ds))) | _ => stuck := id rfl
theorem x_rel (i : Nat) (s : XS) : sRel i s E = match E[i]? with | some (.own ds) => s (E.set i (.val (.list ds))) | _ => s E := id rfl
theorem x_app (i : Nat) (e : XE) : sApp i e E = match E[i]? with | some (.own ds) => bnd (e E) fun d => grd (small ds.length) (ret (.nx (E.set i (.own (ds ++ [d]))))) | _ => stuck := id rfl
theorem x_setI (i : Nat) (k e : XE) : sSet i k e E = match E[i]? with
  | some (.own ds) => bnd (e E) fun d => bnd (k E) fun n => match n with
    | .int z => match L2.ixN ds.length z with
      | some j => ret (.nx (E.set i (.own (ds.set j d))))
      | none => stuck
    | _ => stuck
  | _ => stuck := id rfl
theorem x_sIf (t : XT) (a b : XS) : sIf t a b E = bnd (t E) fun c => if c = true then a E else b E := id rfl
theorem x_for (it : XA) (tg : Tg) (s : XS) : sFor it tg s E = bnd (it E) fun ds => forL tg s ds E := id rfl
theorem x_ret (e : XE) : sRet e E = bnd (e E) fun d => ret (.rt d) := id rfl
theorem x_retN : sRetN E = ret (.rt .none) := id rfl
theorem x_expr (e : XE) : sExpr e E = bnd (e E) fun _ => ret (.nx E) := id rfl
theorem x_brk : sBreak E = ret (.bk E) := id rfl
theorem x_cnt : sCont E = ret (.ct E) := id rfl
theorem x_fnS (k n : Nat) (s : XS) (ds : List D) : fnS k n s ds = grd (ds.length + 1 = k) (bnd (s (start n (.stm :: ds.map .val))) endOf) := id rfl
theorem x_put1 (i : Nat) (d : D) (E : Env) : Tg.put (.nm i) d E = some (E.set i (.val d)) := id rfl
end
theorem grd_tt {α : Type} (m : W α) : grd (true = true) m = m := grd_pos rfl m
theorem nx_int (i : Int) : noXn (.int i) = true := id rfl
theorem nx_bool (i : Bool) : noXn (.bool i) = true := id rfl
theorem nx_str (i : Str) : noXn (.str i) = true := id rfl
theorem nx_none : noXn .none = true := id rfl
theorem nx_tup (i : List D) : noXn (.tuple i) = true := id rfl
theorem nx_lst (i : List D) : noXn (.list i) = true := id rfl
theorem nx_plain : ∀ {d : D}, plain d = true → noXn d = true
  | .none, _ => rfl
  | .bool _, _ => rfl
  | .int _, _ => rfl
  | .str _, _ => rfl
  | .tuple _, _ => rfl
  | .list _, _ => rfl
  | .dict [], _ => rfl
  | .dict ((.none, _) :: _), h => by simp [plain] at h
  | .dict ((.bool _, _) :: _), _ => rfl
  | .dict ((.int _, _) :: _), _ => rfl
  | .dict ((.str _, _) :: _), _ => rfl
  | .dict ((.list _, _) :: _), _ => rfl
  | .dict ((.tuple _, _) :: _), _ => rfl
  | .dict ((.dict _, _) :: _), _ => rfl
theorem isC_x {ms : List Str} {n : Str} {fs : List (Str × D)} (h : (ms.all fun m => allN.contains m) = true) : isC ms (xD n fs) = ret (.bool (ms.any (subC n))) := by
  show grd _ _ = _
  rw [grd_pos h]
theorem fld_x (n f : Str) (d : D) : fldOf f (xD n [(f, d)]) = ret d := by
  show (if f = f then ret d else stuck) = _
  rw [if_pos rfl]
theorem exn_d (n : Str) (fs : List (Str × D)) : Exn.d ⟨n, fs⟩ = xD n fs := id rfl
/-- ints -/
theorem o_add (a b : Int) : opBin .add (.int a) (.int b) = ret (.int (a + b)) := id rfl
theorem o_sub (a b : Int) : opBin .sub (.int a) (.int b) = ret (.int (a - b)) := id rfl
theorem o_mod (a b : Int) : opBin .mod (.int a) (.int b) = grd (0 < b) (ret (.int (a % b))) := id rfl
theorem o_neg (a : Int) : opNeg (.int a) = ret (.int (-a)) := id rfl
theorem eqv_int (a b : Int) : opEq (.int a) (.int b) = ret (decide (a = b)) := by
  unfold opEq
  rw [grd_pos (eqOk_of rfl rfl)]
  rfl
theorem o_eq (a b : Int) : opCmp .eq (.int a) (.int b) = ret (decide (a = b)) := eqv_int a b
theorem o_ne (a b : Int) : opCmp .ne (.int a) (.int b) = ret (!decide (a = b)) := by
  show bnd (opEq _ _) _ = _
  rw [eqv_int]
  rfl
theorem o_lt (a b : Int) : opCmp .lt (.int a) (.int b) = ret (decide (a < b)) := id rfl
theorem o_le (a b : Int) : opCmp .le (.int a) (.int b) = ret (decide (a ≤ b)) := id rfl
theorem o_gt (a b : Int) : opCmp .gt (.int a) (.int b) = ret (decide (b < a)) := id rfl
theorem o_ge (a b : Int) : opCmp .ge (.int a) (.int b) = ret (decide (b ≤ a)) := id rfl
theorem eqv_str (a b : Str) : opEq (.str a) (.str b) = ret (decide (a = b)) := by
  unfold opEq
  rw [grd_pos (show eqOk (.str a) (.str b) from True.intro)]
  show ret (a == b) = _
  have e : (a == b) = decide (a = b) := by
    rw [Bool.eq_iff_iff]
    simp
  rw [e]
theorem o_eqS (a b : Str) : opCmp .eq (.str a) (.str b) = ret (decide (a = b)) := eqv_str a b
theorem o_neS (a b : Str) : opCmp .ne (.str a) (.str b) = ret (!decide (a = b)) := by
  show bnd (opEq _ _) _ = _
  rw [eqv_str]
  rfl
end DL
end
section
namespace DL
open PySem
/-- tame data, to be shown: at most n items in all, k deep, its ints of at most 45 digits -/
structure Tame (n k : Nat) (d : D) : Prop where
  short : PyData.leavesShort 48 d = true
  able : PyData.showable d = true
  bulk : PyData.bulk d ≤ n
  deep : PyData.depth d ≤ k
  pln : plain d = true
theorem Tame.mono {n k n' k' : Nat} {d : D} (h : Tame n k d) (hn : n ≤ n') (hk : k ≤ k') : Tame n' k' d := ⟨h.short, h.able, Nat.le_trans h.bulk hn, Nat.le_trans h.deep hk, h.pln⟩
theorem tame_int {i : Int} (h : i.natAbs < 10 ^ 45) : Tame 0 0 (.int i) := by
  refine ⟨?_, ?_, Nat.zero_le _, Nat.zero_le _, rfl⟩
  · have e : (PyData.shown (.int i)).length ≤ 46 := by
      have e := int_text_length_le10 (k := 45) (a := i) (by decide) h
      show (Str.ofString (toString i)).length ≤ 46
      rw [ofString_length]
      exact e
    simp only [PyData.leavesShort, decide_eq_true_eq]
    omega
  · simp only [PyData.showable, decide_eq_true_eq]
    by_cases h0 : i.natAbs = 0
    · rw [h0]; decide
    · have h2 : i.natAbs < 2 ^ 150 := Nat.lt_trans h (by decide)
      exact Nat.lt_of_lt_of_le ((Nat.log2_lt h0).mpr h2) (by decide)
theorem tame_none : Tame 0 0 .none := ⟨rfl, rfl, Nat.zero_le _, Nat.zero_le _, rfl⟩
theorem tame_str {x : Str} (h : x.cps.toList.all (fun c => decide (c < 16 ^ 8)) = true) {n : Nat} (hn : x.cps.size ≤ n) : Tame n 0 (.str x) := ⟨by simpa only [PyData.leavesShort] using h, rfl, hn, Nat.zero_le _, rfl⟩
structure TameAll (n k : Nat) (ds : List D) : Prop where
  short : PyData.leavesShortAll 48 ds = true
  able : PyData.showableAll ds = true
  bulk : PyData.bulkAll ds ≤ n
  deep : PyData.depthAll ds ≤ k
  pln : plainAll ds = true
theorem tame_nil : TameAll 0 0 [] := ⟨rfl, rfl, Nat.zero_le _, Nat.zero_le _, rfl⟩
theorem TameAll.mono {n k n' k' : Nat} {ds : List D} (h : TameAll n k ds) (hn : n ≤ n') (hk : k ≤ k') : TameAll n' k' ds := ⟨h.short, h.able, Nat.le_trans h.bulk hn, Nat.le_trans h.deep hk, h.pln⟩
theorem tame_cons {n m k j : Nat} {d : D} {ds : List D} (h : Tame n k d) (t : TameAll m j ds) : TameAll (n + 1 + m) (max k j) (d :: ds) := by
  refine ⟨?_, ?_, ?_, ?_, ?_⟩
  · simp only [PyData.leavesShortAll, h.short, t.short, Bool.and_self]
  · simp only [PyData.showableAll, h.able, t.able, Bool.and_self]
  · simp only [PyData.bulkAll]
    have := h.bulk; have := t.bulk
    omega
  · simp only [PyData.depthAll]
    have := h.deep; have := t.deep
    omega
  · simp only [plainAll, h.pln, t.pln, Bool.and_self]
theorem tame_tup {n k : Nat} {ds : List D} (h : TameAll n k ds) : Tame n (k + 1) (.tuple ds) := by
  refine ⟨?_, ?_, ?_, ?_, ?_⟩
  · simp only [PyData.leavesShort, h.short]
  · simp only [PyData.showable, h.able]
  · simp only [PyData.bulk]; exact h.bulk
  · simp only [PyData.depth]; have := h.deep; omega
  · simp only [plain, h.pln]
theorem tame_lst {n k : Nat} {ds : List D} (h : TameAll n k ds) : Tame n (k + 1) (.list ds) := by
  refine ⟨?_, ?_, ?_, ?_, ?_⟩
  · simp only [PyData.leavesShort, h.short]
  · simp only [PyData.showable, h.able]
  · simp only [PyData.bulk]; exact h.bulk
  · simp only [PyData.depth]; have := h.deep; omega
  · simp only [plain, h.pln]
theorem tame_all {n k : Nat} : ∀ (ds : List D), (∀ d ∈ ds, Tame n k d) → TameAll (ds.length * (n + 1)) k ds
  | [], _ => tame_nil.mono (Nat.zero_le _) (Nat.zero_le _)
  | d :: ds, h => by
    have := tame_cons (h d (.head _)) (tame_all ds fun x hx => h x (.tail _ hx))
    rw [List.length_cons, Nat.succ_mul, Nat.add_comm]
    rw [Nat.max_self] at this
    exact this
theorem tame_ints {ns : List Int} (h : ∀ x ∈ ns, x.natAbs < 10 ^ 45) : TameAll ns.length 0 (ns.map PyData.int) := by
  have := tame_all (n := 0) (k := 0) (ns.map PyData.int) fun d hd => by
    obtain ⟨x, hx, rfl⟩ := List.mem_map.mp hd
    exact tame_int (h x hx)
  rw [List.length_map, Nat.zero_add, Nat.mul_one] at this
  exact this
theorem Tame.show {n k : Nat} {d : D} (h : Tame n k d) (hn : n ≤ 15000) (hk : k ≤ 40) : showOk d := by
  refine ⟨h.able, Nat.le_trans h.deep hk, ?_, h.pln⟩
  have e := PyData.shown_le_bulk 48 (by decide) d h.short
  have := h.bulk
  have : (48 + 2) * d.bulk ≤ 50 * 15000 := Nat.mul_le_mul_left _ (by omega)
  omega
theorem x_repr {n k : Nat} {d : D} (h : Tame n k d) (hn : n ≤ 15000) (hk : k ≤ 40) : bi1 .repr d = ret (.str (PyData.shown d)) := by
  show grd (showOk d) _ = _
  rw [grd_pos (h.show hn hk)]
theorem shp_of {d : D} (h : PyData.canLay0 d = true) (k : PyData.depth d ≤ 64) : SeqAt.shaped d = true := by
  unfold SeqAt.shaped
  rw [h, decide_eq_true k]
  rfl
section
variable {E : Env} {n k : Nat} {Q : Out → Prop}
theorem Ok.seq {a b : XS} (t : Nat) (R : Env → Prop) (h : Ok (a E) n fun o => match o with | .nx E' => R E' | .rt d => Q (.rt d) | .bk E' => Q (.bk E') | .ct E' => Q (.ct E')) (hn : n ≤ t) (hb : ∀ E', R E' → Ok (b E') (t - n) Q) : Ok (sSeq a b E) t Q := by
  refine Ok.bnd' t h hn fun o ho => ?_
  cases o with
  | nx E' => exact hb E' ho
  | rt d => exact Ok.ret ho
  | bk E' => exact Ok.ret ho
  | ct E' => exact Ok.ret ho
theorem Ok.fn {s : XS} {Q : D → Prop} (h : Ok (s E) n fun o => match o with | .rt d => Q d | .nx _ => Q .none | _ => False) : Ok (DL.bnd (s E) endOf) n Q := by
  refine Ok.bnd' n h (Nat.le_refl _) fun o ho => ?_
  cases o with
  | nx E' => exact Ok.ret ho
  | rt d => exact Ok.ret ho
  | bk E' => exact ho.elim
  | ct E' => exact ho.elim
theorem s_asg (i : Nat) (e : XE) (b : XS) : sSeq (sAsg i e) b E = bnd (e E) fun d => b (E.set i (.val d)) := id rfl
theorem s_par (i j : Nat) (x y : XE) (b : XS) : sSeq (sPar i j x y) b E = bnd (x E) fun v => bnd (y E) fun w => b ((E.set i (.val v)).set j (.val w)) := id rfl
theorem s_own (i : Nat) (e : XE) (b : XS) : sSeq (sOwn i e) b E = bnd (e E) fun d => match d with | .list ds => b (E.set i (.own ds)) | _ => stuck := by
  show bnd (bnd (e E) _) _ = _
  rw [bnd_assoc]
  congr 1
  funext d
  cases d <;> rfl
theorem s_parO (i j : Nat) (x y : XE) (b : XS) : sSeq (sParO i j x y) b E = bnd (x E) fun v => bnd (y E) fun w => match v with | .list ds => b ((E.set i (.own ds)).set j (.val w)) | _ => stuck := by
  show bnd (bnd (x E) _) _ = _
  rw [bnd_assoc]
  congr 1
  funext v
  rw [bnd_assoc]
  congr 1
  funext w
  cases v <;> rfl
theorem s_app (i : Nat) (e : XE) (b : XS) {ds : List D} (h : E[i]? = some (.own ds)) : sSeq (sApp i e) b E = bnd (e E) fun d => grd (small ds.length) (b (E.set i (.own (ds ++ [d])))) := by
  show bnd (sApp i e E) _ = _
  rw [x_app, h]
  rfl
theorem s_put (tg : Tg) (e : XE) (b : XS) : sSeq (sPut tg e) b E = bnd (e E) fun d => match tg.put d E with | some E' => b E' | none => stuck := by
  show bnd (bnd (e E) _) _ = _
  rw [bnd_assoc]
  congr 1
  funext d
  cases tg.put d E <;> rfl
theorem s_expr (e : XE) (b : XS) : sSeq (sExpr e) b E = bnd (e E) fun _ => b E := id rfl
theorem s_ret (e : XE) (b : XS) : sSeq (sRet e) b E = bnd (e E) fun d => ret (.rt d) := id rfl
theorem s_skip (b : XS) : sSeq sSkip b E = b E := id rfl
theorem s_seq (a b c : XS) : sSeq (sSeq a b) c E = sSeq a (sSeq b c) E := by
  show bnd (bnd (a E) _) _ = bnd (a E) _
  rw [bnd_assoc]
  congr 1
  funext o
  cases o <;> rfl
theorem s_if (t : XT) (x y b : XS) : sSeq (sIf t x y) b E = bnd (t E) fun c => if c = true then sSeq x b E else sSeq y b E := by
  show bnd (bnd (t E) _) _ = _
  rw [bnd_assoc]
  congr 1
  funext c
  cases c <;> rfl
theorem s_rel (i : Nat) (s b : XS) : sSeq (sRel i s) b E = match E[i]? with | some (.own ds) => sSeq s b (E.set i (.val (.list ds))) | _ => sSeq s b E := by
  show bnd (sRel i s E) _ = _
  rw [x_rel]
  cases h : E[i]? with
  | none => rfl
  | some y => cases y <;> rfl
theorem b1_if {α β : Type} (c : Bool) (x y : W α) (f : α → W β) : bnd (if c = true then x else y) f = if c = true then bnd x f else bnd y f := by cases c <;> rfl
end
theorem idx_list {ds : List D} {i : Int} (h0 : 0 ≤ i) (h1 : i < ds.length) : opIdx (.list ds) (.int i) = ret (ds[i.toNat]'(by omega)) := by
  show (match L2.atI ds i with | some d => ret d | none => stuck) = _
  have e : L2.atI ds i = some (ds[i.toNat]'(by omega)) := by
    unfold L2.atI L2.ixN
    rw [if_pos h0, if_pos h1]
    exact List.getElem?_eq_getElem _
  rw [e]
theorem idx_tup {ds : List D} {i : Int} (h0 : 0 ≤ i) (h1 : i < ds.length) : opIdx (.tuple ds) (.int i) = ret (ds[i.toNat]'(by omega)) := by
  show (match L2.atI ds i with | some d => ret d | none => stuck) = _
  have e : L2.atI ds i = some (ds[i.toNat]'(by omega)) := by
    unfold L2.atI L2.ixN
    rw [if_pos h0, if_pos h1]
    exact List.getElem?_eq_getElem _
  rw [e]
theorem idx_ints {ns : List Int} {i : Int} (h0 : 0 ≤ i) (h1 : i < ns.length) : opIdx (.tuple (ns.map PyData.int)) (.int i) = ret (.int (ns[i.toNat]'(by omega))) := by
  rw [idx_tup h0 (by rw [List.length_map]; exact h1), List.getElem_map]
theorem idx_intsL {ns : List Int} {i : Int} (h0 : 0 ≤ i) (h1 : i < ns.length) : opIdx (.list (ns.map PyData.int)) (.int i) = ret (.int (ns[i.toNat]'(by omega))) := by
  rw [idx_list h0 (by rw [List.length_map]; exact h1), List.getElem_map]
theorem ixN_ok {n : Nat} {i : Int} (h0 : 0 ≤ i) (h1 : i < n) : L2.ixN n i = some i.toNat := by
  unfold L2.ixN
  rw [if_pos h0, if_pos h1]
theorem ok_comp {β : Type} {it : XA} {tg : Tg} {t : XT} {e : XE} {vs : List Nat} {E : Env} {ds : List D} {b T : Nat} {G : D → Prop} {f : D → W β} {Q : β → Prop} (hit : it E = ret ds) (hl : ds.length ≤ 1000000)
    (hs : ∀ d ∈ ds, ∃ E1, tg.put d (wipeE E vs) = some E1 ∧ t E1 = ret true ∧ Ok (e E1) b G) (hT : ds.length * b ≤ T)
    (hf : ∀ ys : List D, ys.length = ds.length → (∀ d ∈ ys, G d) → Ok (f (.list ys)) (T - ds.length * b) Q) : Ok (DL.bnd (eComp it tg t e vs E) f) T Q := by
  rw [x_comp, hit, bnd_ret, bnd_assoc]
  refine Ok.bnd' T (Ok.noX (comp_ok (G := G) (b := b) ds [] (by simp only [List.length_nil]; omega) (fun d hd => (nomatch hd)) hs)) hT ?_
  rintro ys ⟨h1, h2⟩
  rw [bnd_ret]
  exact hf ys (by rw [h1, List.length_nil, Nat.zero_add]) h2
theorem ints_of {Q : Int → Prop} : ∀ {ds : List D}, (∀ d ∈ ds, ∃ x : Int, d = .int x ∧ Q x) → ∃ ns : List Int, ds = ns.map PyData.int ∧ ∀ x ∈ ns, Q x
  | [], _ => ⟨[], rfl, fun _ h => (nomatch h)⟩
  | d :: ds, h => by
    obtain ⟨x, rfl, hx⟩ := h d (.head _)
    obtain ⟨ns, rfl, hn⟩ := ints_of fun d hd => h d (.tail _ hd)
    refine ⟨x :: ns, rfl, fun y hy => ?_⟩
    rcases List.mem_cons.mp hy with rfl | hy
    · exact hx
    · exact hn y hy
theorem rng_len (a b : Int) : (rng a b).length = (b - a).toNat := by
  unfold rng
  rw [List.length_map, List.length_range]
theorem rng_mem {a b : Int} {d : D} (h : d ∈ rng a b) : ∃ i : Int, d = .int i ∧ a ≤ i ∧ i < b := by
  unfold rng at h
  obtain ⟨i, hi, rfl⟩ := List.mem_map.mp h
  exact ⟨_, rfl, by omega, by have := List.mem_range.mp hi; omega⟩
theorem f_fn {k n : Nat} {s : XS} {ds : List D} (h : ds.length = k) : fn k n s ds = bnd (s (start n (ds.map .val))) endOf := grd_pos h _
end DL
end
section
namespace DL
open PySem
/-- a row of words -/
def RowD (most : Int) (d : D) : Prop := ∃ ns : List Int, d = .tuple (ns.map PyData.int) ∧ 1 ≤ ns.length ∧ (ns.length : Int) ≤ most ∧ ∀ x ∈ ns, 1 ≤ x ∧ x ≤ 60
theorem row_drawn_0 {most : Int} (h : 1 ≤ most ∧ most ≤ 24) : Ok (w__law_row_drawn_0 [.int most]) 60 (RowD most) := by
  unfold w__law_row_drawn_0
  rw [x_fnS]
  refine Ok.grd rfl (Ok.fn ?_)
  simp only [x_var, x_con, x_bin, x_neg, x_cmp, x_chain, x_tTru, x_tNot, x_tAnd, x_tOr, x_tBool, x_tYes, x_not, x_and, x_or, x_if, x_b1, x_b2, x_is, x_idx, x_oNone, x_oSome, x_cut, x_aNil, x_aCons, x_tup, x_lst, x_call, x_callS,
    x_iSeq, x_iRng1, x_iRng2, x_bor, x_tBor, x_put1, List.map_cons, List.map_nil, List.cons_append, List.nil_append, List.length_cons, List.length_nil, Nat.zero_add, Nat.reduceAdd, Nat.reduceSub, List.reduceReplicate, start,
    List.getElem?_cons_zero, List.getElem?_cons_succ, List.set_cons_zero, List.set_cons_succ, bnd_ret, bnd_assoc, bnd_grd, b1_if, bnd_ite, small, Nat.reduceLeDiff, grd_true, o_add, o_sub, o_neg, o_eq, o_ne, o_lt, o_le, o_gt, o_ge, o_eqS, o_neS,
    decide_eq_true_eq, reduceIte, decide_true, decide_false, Bool.not_true, Bool.not_false, Bool.false_eq_true, itemsOf, asInt, bi2, endOf, isTy,
    grd_tt, nx_int, nx_bool, nx_str, nx_none, nx_tup, nx_lst, x_isC, x_fld, x_in, x_count, x_lstR, x_tupR, x_raise, x_star, bnd_thr, noX_ret, fld_x, exn_d, eSetO, Out.clear, List.zip_cons_cons, List.zip_nil_left, List.zip_nil_right, s_asg, s_par, s_own, s_parO, s_put, s_expr, s_ret, s_skip, s_seq, s_rel, x_asg, x_par, x_own, x_parO, x_put, x_expr, x_ret, x_retN, x_skip, x_rel, x_app, x_setI, x_sIf, x_for, x_brk, x_cnt]
  refine Ok.drawB (n := 59) (by omega) (by omega) fun r h0 h1 => ?_
  simp only [o_add, bnd_ret]
  refine Ok.drawB (n := 58) (by omega) (by omega) fun way h2 h3 => ?_
  have top : ∃ z : Int, opIdx (PyData.list [PyData.int 3, PyData.int 60, PyData.int 9, PyData.int 2, PyData.int 12, PyData.int 5]) (.int way) = ret (.int z) ∧ 1 ≤ z ∧ z ≤ 60 := by
    obtain rfl | rfl | rfl | rfl | rfl | rfl : way = 0 ∨ way = 1 ∨ way = 2 ∨ way = 3 ∨ way = 4 ∨ way = 5 := by omega
    · exact ⟨3, rfl, by decide⟩
    · exact ⟨60, rfl, by decide⟩
    · exact ⟨9, rfl, by decide⟩
    · exact ⟨2, rfl, by decide⟩
    · exact ⟨12, rfl, by decide⟩
    · exact ⟨5, rfl, by decide⟩
  obtain ⟨z, e, z0, z1⟩ := top
  rw [e, bnd_ret]
  refine ok_comp (ds := rng 0 (1 + r)) (b := 1) (G := fun d => ∃ x : Int, d = .int x ∧ 1 ≤ x ∧ x ≤ 60) ?_ (by rw [rng_len]; omega) ?_ (by rw [rng_len]; omega) ?_
  · simp only [x_var, x_con, x_bin, x_neg, x_cmp, x_chain, x_tTru, x_tNot, x_tAnd, x_tOr, x_tBool, x_tYes, x_not, x_and, x_or, x_if, x_b1, x_b2, x_is, x_idx, x_oNone, x_oSome, x_cut, x_aNil, x_aCons, x_tup, x_lst, x_call, x_callS,
    x_iSeq, x_iRng1, x_iRng2, x_bor, x_tBor, x_put1, List.map_cons, List.map_nil, List.cons_append, List.nil_append, List.length_cons, List.length_nil, Nat.zero_add, Nat.reduceAdd, Nat.reduceSub, List.reduceReplicate, start,
    List.getElem?_cons_zero, List.getElem?_cons_succ, List.set_cons_zero, List.set_cons_succ, bnd_ret, bnd_assoc, bnd_grd, b1_if, bnd_ite, small, Nat.reduceLeDiff, grd_true, o_add, o_sub, o_neg, o_eq, o_ne, o_lt, o_le, o_gt, o_ge, o_eqS, o_neS,
    decide_eq_true_eq, reduceIte, decide_true, decide_false, Bool.not_true, Bool.not_false, Bool.false_eq_true, itemsOf, asInt, bi2, endOf, isTy,
    grd_tt, nx_int, nx_bool, nx_str, nx_none, nx_tup, nx_lst, x_isC, x_fld, x_in, x_count, x_lstR, x_tupR, x_raise, x_star, bnd_thr, noX_ret, fld_x, exn_d, eSetO, Out.clear, List.zip_cons_cons, List.zip_nil_left, List.zip_nil_right]
    exact grd_pos (by unfold rngOk; omega) _
  · intro d hd
    refine ⟨_, rfl, rfl, ?_⟩
    simp only [x_var, x_con, x_bin, x_neg, x_cmp, x_chain, x_tTru, x_tNot, x_tAnd, x_tOr, x_tBool, x_tYes, x_not, x_and, x_or, x_if, x_b1, x_b2, x_is, x_idx, x_oNone, x_oSome, x_cut, x_aNil, x_aCons, x_tup, x_lst, x_call, x_callS,
    x_iSeq, x_iRng1, x_iRng2, x_bor, x_tBor, x_put1, List.map_cons, List.map_nil, List.cons_append, List.nil_append, List.length_cons, List.length_nil, Nat.zero_add, Nat.reduceAdd, Nat.reduceSub, List.reduceReplicate, start,
    List.getElem?_cons_zero, List.getElem?_cons_succ, List.set_cons_zero, List.set_cons_succ, bnd_ret, bnd_assoc, bnd_grd, b1_if, bnd_ite, small, Nat.reduceLeDiff, grd_true, o_add, o_sub, o_neg, o_eq, o_ne, o_lt, o_le, o_gt, o_ge, o_eqS, o_neS,
    decide_eq_true_eq, reduceIte, decide_true, decide_false, Bool.not_true, Bool.not_false, Bool.false_eq_true, itemsOf, asInt, bi2, endOf, isTy,
    grd_tt, nx_int, nx_bool, nx_str, nx_none, nx_tup, nx_lst, x_isC, x_fld, x_in, x_count, x_lstR, x_tupR, x_raise, x_star, bnd_thr, noX_ret, fld_x, exn_d, eSetO, Out.clear, List.zip_cons_cons, List.zip_nil_left, List.zip_nil_right, wipeE]
    refine Ok.drawB (n := 0) (by omega) (by omega) fun x h4 h5 => ?_
    exact Ok.ret ⟨_, rfl, by omega, by omega⟩
  · intro ys hy hG
    obtain ⟨ns, rfl, hn⟩ := ints_of hG
    rw [List.length_map, rng_len] at hy
    rw [rng_len]
    simp only
    refine Ok.seq _ (fun E => ∃ ms : List Int, E = [.stm, .val (.int most), .val (.int (1 + r)), .val (.int way), .val (.int z), .own (ms.map PyData.int), .unk, .unk] ∧ ms.length = (1 + r).toNat ∧ ∀ x ∈ ms, 1 ≤ x ∧ x ≤ 60) (n := 2) ?_ (by omega) ?_
    · simp only [x_var, x_con, x_bin, x_neg, x_cmp, x_chain, x_tTru, x_tNot, x_tAnd, x_tOr, x_tBool, x_tYes, x_not, x_and, x_or, x_if, x_b1, x_b2, x_is, x_idx, x_oNone, x_oSome, x_cut, x_aNil, x_aCons, x_tup, x_lst, x_call, x_callS,
    x_iSeq, x_iRng1, x_iRng2, x_bor, x_tBor, x_put1, List.map_cons, List.map_nil, List.cons_append, List.nil_append, List.length_cons, List.length_nil, Nat.zero_add, Nat.reduceAdd, Nat.reduceSub, List.reduceReplicate, start,
    List.getElem?_cons_zero, List.getElem?_cons_succ, List.set_cons_zero, List.set_cons_succ, bnd_ret, bnd_assoc, bnd_grd, b1_if, bnd_ite, small, Nat.reduceLeDiff, grd_true, o_add, o_sub, o_neg, o_eq, o_ne, o_lt, o_le, o_gt, o_ge, o_eqS, o_neS,
    decide_eq_true_eq, reduceIte, decide_true, decide_false, Bool.not_true, Bool.not_false, Bool.false_eq_true, itemsOf, asInt, bi2, endOf, isTy,
    grd_tt, nx_int, nx_bool, nx_str, nx_none, nx_tup, nx_lst, x_isC, x_fld, x_in, x_count, x_lstR, x_tupR, x_raise, x_star, bnd_thr, noX_ret, fld_x, exn_d, eSetO, Out.clear, List.zip_cons_cons, List.zip_nil_left, List.zip_nil_right, x_sIf, x_skip]
      have stay : Ok (ret (Out.nx [Ent.stm, .val (.int most), .val (.int (1 + r)), .val (.int way), .val (.int z), .own (ns.map PyData.int), .unk, .unk])) 2 fun o => match o with
        | .nx E' => ∃ ms : List Int, E' = [Ent.stm, .val (.int most), .val (.int (1 + r)), .val (.int way), .val (.int z), .own (ms.map PyData.int), .unk, .unk] ∧ ms.length = (1 + r).toNat ∧ ∀ x ∈ ms, 1 ≤ x ∧ x ≤ 60
        | .rt d => RowD most d
        | .bk _ => False
        | .ct _ => False := Ok.ret ⟨ns, rfl, by omega, hn⟩
      have chg : ∀ E, E = [Ent.stm, .val (.int most), .val (.int (1 + r)), .val (.int way), .val (.int z), .own (ns.map PyData.int), .unk, .unk] → Ok (sSet 5 (eCallS fDraw 0 (aCons (eVar 2) aNil)) (eBin Op.add (eCon (PyData.int 1)) (eCallS fDraw 0 (aCons (eCon (PyData.int 60)) aNil))) E) 2 fun o => match o with
        | .nx E' => ∃ ms : List Int, E' = [Ent.stm, .val (.int most), .val (.int (1 + r)), .val (.int way), .val (.int z), .own (ms.map PyData.int), .unk, .unk] ∧ ms.length = (1 + r).toNat ∧ ∀ x ∈ ms, 1 ≤ x ∧ x ≤ 60
        | .rt d => RowD most d
        | .bk _ => False
        | .ct _ => False := by
        rintro E rfl
        simp only [x_var, x_con, x_bin, x_neg, x_cmp, x_chain, x_tTru, x_tNot, x_tAnd, x_tOr, x_tBool, x_tYes, x_not, x_and, x_or, x_if, x_b1, x_b2, x_is, x_idx, x_oNone, x_oSome, x_cut, x_aNil, x_aCons, x_tup, x_lst, x_call, x_callS,
    x_iSeq, x_iRng1, x_iRng2, x_bor, x_tBor, x_put1, List.map_cons, List.map_nil, List.cons_append, List.nil_append, List.length_cons, List.length_nil, Nat.zero_add, Nat.reduceAdd, Nat.reduceSub, List.reduceReplicate, start,
    List.getElem?_cons_zero, List.getElem?_cons_succ, List.set_cons_zero, List.set_cons_succ, bnd_ret, bnd_assoc, bnd_grd, b1_if, bnd_ite, small, Nat.reduceLeDiff, grd_true, o_add, o_sub, o_neg, o_eq, o_ne, o_lt, o_le, o_gt, o_ge, o_eqS, o_neS,
    decide_eq_true_eq, reduceIte, decide_true, decide_false, Bool.not_true, Bool.not_false, Bool.false_eq_true, itemsOf, asInt, bi2, endOf, isTy,
    grd_tt, nx_int, nx_bool, nx_str, nx_none, nx_tup, nx_lst, x_isC, x_fld, x_in, x_count, x_lstR, x_tupR, x_raise, x_star, bnd_thr, noX_ret, fld_x, exn_d, eSetO, Out.clear, List.zip_cons_cons, List.zip_nil_left, List.zip_nil_right, s_asg, s_par, s_own, s_parO, s_put, s_expr, s_ret, s_skip, s_seq, s_rel, x_asg, x_par, x_own, x_parO, x_put, x_expr, x_ret, x_retN, x_skip, x_rel, x_app, x_setI, x_sIf, x_for, x_brk, x_cnt]
        refine Ok.drawB (n := 1) (by omega) (by omega) fun u hu0 hu1 => ?_
        simp only [x_var, x_con, x_bin, x_neg, x_cmp, x_chain, x_tTru, x_tNot, x_tAnd, x_tOr, x_tBool, x_tYes, x_not, x_and, x_or, x_if, x_b1, x_b2, x_is, x_idx, x_oNone, x_oSome, x_cut, x_aNil, x_aCons, x_tup, x_lst, x_call, x_callS,
    x_iSeq, x_iRng1, x_iRng2, x_bor, x_tBor, x_put1, List.map_cons, List.map_nil, List.cons_append, List.nil_append, List.length_cons, List.length_nil, Nat.zero_add, Nat.reduceAdd, Nat.reduceSub, List.reduceReplicate, start,
    List.getElem?_cons_zero, List.getElem?_cons_succ, List.set_cons_zero, List.set_cons_succ, bnd_ret, bnd_assoc, bnd_grd, b1_if, bnd_ite, small, Nat.reduceLeDiff, grd_true, o_add, o_sub, o_neg, o_eq, o_ne, o_lt, o_le, o_gt, o_ge, o_eqS, o_neS,
    decide_eq_true_eq, reduceIte, decide_true, decide_false, Bool.not_true, Bool.not_false, Bool.false_eq_true, itemsOf, asInt, bi2, endOf, isTy,
    grd_tt, nx_int, nx_bool, nx_str, nx_none, nx_tup, nx_lst, x_isC, x_fld, x_in, x_count, x_lstR, x_tupR, x_raise, x_star, bnd_thr, noX_ret, fld_x, exn_d, eSetO, Out.clear, List.zip_cons_cons, List.zip_nil_left, List.zip_nil_right, s_asg, s_par, s_own, s_parO, s_put, s_expr, s_ret, s_skip, s_seq, s_rel, x_asg, x_par, x_own, x_parO, x_put, x_expr, x_ret, x_retN, x_skip, x_rel, x_app, x_setI, x_sIf, x_for, x_brk, x_cnt]
        refine Ok.drawB (n := 0) (by omega) (by omega) fun i hi0 hi1 => ?_
        simp only [x_var, x_con, x_bin, x_neg, x_cmp, x_chain, x_tTru, x_tNot, x_tAnd, x_tOr, x_tBool, x_tYes, x_not, x_and, x_or, x_if, x_b1, x_b2, x_is, x_idx, x_oNone, x_oSome, x_cut, x_aNil, x_aCons, x_tup, x_lst, x_call, x_callS,
    x_iSeq, x_iRng1, x_iRng2, x_bor, x_tBor, x_put1, List.map_cons, List.map_nil, List.cons_append, List.nil_append, List.length_cons, List.length_nil, Nat.zero_add, Nat.reduceAdd, Nat.reduceSub, List.reduceReplicate, start,
    List.getElem?_cons_zero, List.getElem?_cons_succ, List.set_cons_zero, List.set_cons_succ, bnd_ret, bnd_assoc, bnd_grd, b1_if, bnd_ite, small, Nat.reduceLeDiff, grd_true, o_add, o_sub, o_neg, o_eq, o_ne, o_lt, o_le, o_gt, o_ge, o_eqS, o_neS,
    decide_eq_true_eq, reduceIte, decide_true, decide_false, Bool.not_true, Bool.not_false, Bool.false_eq_true, itemsOf, asInt, bi2, endOf, isTy,
    grd_tt, nx_int, nx_bool, nx_str, nx_none, nx_tup, nx_lst, x_isC, x_fld, x_in, x_count, x_lstR, x_tupR, x_raise, x_star, bnd_thr, noX_ret, fld_x, exn_d, eSetO, Out.clear, List.zip_cons_cons, List.zip_nil_left, List.zip_nil_right, s_asg, s_par, s_own, s_parO, s_put, s_expr, s_ret, s_skip, s_seq, s_rel, x_asg, x_par, x_own, x_parO, x_put, x_expr, x_ret, x_retN, x_skip, x_rel, x_app, x_setI, x_sIf, x_for, x_brk, x_cnt]
        rw [ixN_ok hi0 (by rw [List.length_map, hy]; omega)]
        refine Ok.ret ⟨ns.set i.toNat (1 + u), by rw [List.map_set], by rw [List.length_set]; omega, fun x hx => ?_⟩
        rcases List.mem_or_eq_of_mem_set hx with h | h
        · exact hn x h
        · omega
      refine Ok.ite (fun _ => ?_) fun _ => ?_
      · exact chg _ rfl
      · refine Ok.ite (fun _ => ?_) fun _ => ?_
        · exact chg _ rfl
        · exact stay
    · rintro E ⟨ms, rfl, hl, hm⟩
      refine Ok.seq _ (fun E => ∃ (ms : List Int) (e6 e7 : Ent), E = [.stm, .val (.int most), .val (.int (1 + r)), .val (.int way), .val (.int z), .own (ms.map PyData.int), e6, e7] ∧ ms.length = (1 + r).toNat ∧ ∀ x ∈ ms, 1 ≤ x ∧ x ≤ 60) (n := 1) ?_ (by omega) ?_
      · simp only [x_var, x_con, x_bin, x_neg, x_cmp, x_chain, x_tTru, x_tNot, x_tAnd, x_tOr, x_tBool, x_tYes, x_not, x_and, x_or, x_if, x_b1, x_b2, x_is, x_idx, x_oNone, x_oSome, x_cut, x_aNil, x_aCons, x_tup, x_lst, x_call, x_callS,
    x_iSeq, x_iRng1, x_iRng2, x_bor, x_tBor, x_put1, List.map_cons, List.map_nil, List.cons_append, List.nil_append, List.length_cons, List.length_nil, Nat.zero_add, Nat.reduceAdd, Nat.reduceSub, List.reduceReplicate, start,
    List.getElem?_cons_zero, List.getElem?_cons_succ, List.set_cons_zero, List.set_cons_succ, bnd_ret, bnd_assoc, bnd_grd, b1_if, bnd_ite, small, Nat.reduceLeDiff, grd_true, o_add, o_sub, o_neg, o_eq, o_ne, o_lt, o_le, o_gt, o_ge, o_eqS, o_neS,
    decide_eq_true_eq, reduceIte, decide_true, decide_false, Bool.not_true, Bool.not_false, Bool.false_eq_true, itemsOf, asInt, bi2, endOf, isTy,
    grd_tt, nx_int, nx_bool, nx_str, nx_none, nx_tup, nx_lst, x_isC, x_fld, x_in, x_count, x_lstR, x_tupR, x_raise, x_star, bnd_thr, noX_ret, fld_x, exn_d, eSetO, Out.clear, List.zip_cons_cons, List.zip_nil_left, List.zip_nil_right, s_asg, s_par, s_own, s_parO, s_put, s_expr, s_ret, s_skip, s_seq, s_rel, x_asg, x_par, x_own, x_parO, x_put, x_expr, x_ret, x_retN, x_skip, x_rel, x_app, x_setI, x_sIf, x_for, x_brk, x_cnt]
        refine Ok.ite (fun _ => ?_) fun _ => Ok.ret ⟨ms, _, _, rfl, hl, hm⟩
        refine Ok.drawB (n := 0) (by split <;> omega) (by split <;> omega) fun u hu0 hu1 => ?_
        simp only [x_var, x_con, x_bin, x_neg, x_cmp, x_chain, x_tTru, x_tNot, x_tAnd, x_tOr, x_tBool, x_tYes, x_not, x_and, x_or, x_if, x_b1, x_b2, x_is, x_idx, x_oNone, x_oSome, x_cut, x_aNil, x_aCons, x_tup, x_lst, x_call, x_callS,
    x_iSeq, x_iRng1, x_iRng2, x_bor, x_tBor, x_put1, List.map_cons, List.map_nil, List.cons_append, List.nil_append, List.length_cons, List.length_nil, Nat.zero_add, Nat.reduceAdd, Nat.reduceSub, List.reduceReplicate, start,
    List.getElem?_cons_zero, List.getElem?_cons_succ, List.set_cons_zero, List.set_cons_succ, bnd_ret, bnd_assoc, bnd_grd, b1_if, bnd_ite, small, Nat.reduceLeDiff, grd_true, o_add, o_sub, o_neg, o_eq, o_ne, o_lt, o_le, o_gt, o_ge, o_eqS, o_neS,
    decide_eq_true_eq, reduceIte, decide_true, decide_false, Bool.not_true, Bool.not_false, Bool.false_eq_true, itemsOf, asInt, bi2, endOf, isTy,
    grd_tt, nx_int, nx_bool, nx_str, nx_none, nx_tup, nx_lst, x_isC, x_fld, x_in, x_count, x_lstR, x_tupR, x_raise, x_star, bnd_thr, noX_ret, fld_x, exn_d, eSetO, Out.clear, List.zip_cons_cons, List.zip_nil_left, List.zip_nil_right, s_asg, s_par, s_own, s_parO, s_put, s_expr, s_ret, s_skip, s_seq, s_rel, x_asg, x_par, x_own, x_parO, x_put, x_expr, x_ret, x_retN, x_skip, x_rel, x_app, x_setI, x_sIf, x_for, x_brk, x_cnt]
        refine ok_comp (ds := rng 0 (1 + r)) (b := 0) (G := fun d => ∃ x : Int, d = .int x ∧ 1 ≤ x ∧ x ≤ 60) ?_ (by rw [rng_len]; omega) ?_ (Nat.le_refl _) ?_
        · simp only [x_var, x_con, x_bin, x_neg, x_cmp, x_chain, x_tTru, x_tNot, x_tAnd, x_tOr, x_tBool, x_tYes, x_not, x_and, x_or, x_if, x_b1, x_b2, x_is, x_idx, x_oNone, x_oSome, x_cut, x_aNil, x_aCons, x_tup, x_lst, x_call, x_callS,
    x_iSeq, x_iRng1, x_iRng2, x_bor, x_tBor, x_put1, List.map_cons, List.map_nil, List.cons_append, List.nil_append, List.length_cons, List.length_nil, Nat.zero_add, Nat.reduceAdd, Nat.reduceSub, List.reduceReplicate, start,
    List.getElem?_cons_zero, List.getElem?_cons_succ, List.set_cons_zero, List.set_cons_succ, bnd_ret, bnd_assoc, bnd_grd, b1_if, bnd_ite, small, Nat.reduceLeDiff, grd_true, o_add, o_sub, o_neg, o_eq, o_ne, o_lt, o_le, o_gt, o_ge, o_eqS, o_neS,
    decide_eq_true_eq, reduceIte, decide_true, decide_false, Bool.not_true, Bool.not_false, Bool.false_eq_true, itemsOf, asInt, bi2, endOf, isTy,
    grd_tt, nx_int, nx_bool, nx_str, nx_none, nx_tup, nx_lst, x_isC, x_fld, x_in, x_count, x_lstR, x_tupR, x_raise, x_star, bnd_thr, noX_ret, fld_x, exn_d, eSetO, Out.clear, List.zip_cons_cons, List.zip_nil_left, List.zip_nil_right]
          exact grd_pos (by unfold rngOk; omega) _
        · intro d hd
          obtain ⟨i, rfl, hi0, hi1⟩ := rng_mem hd
          refine ⟨_, rfl, rfl, ?_⟩
          simp only [x_var, x_con, x_bin, x_neg, x_cmp, x_chain, x_tTru, x_tNot, x_tAnd, x_tOr, x_tBool, x_tYes, x_not, x_and, x_or, x_if, x_b1, x_b2, x_is, x_idx, x_oNone, x_oSome, x_cut, x_aNil, x_aCons, x_tup, x_lst, x_call, x_callS,
    x_iSeq, x_iRng1, x_iRng2, x_bor, x_tBor, x_put1, List.map_cons, List.map_nil, List.cons_append, List.nil_append, List.length_cons, List.length_nil, Nat.zero_add, Nat.reduceAdd, Nat.reduceSub, List.reduceReplicate, start,
    List.getElem?_cons_zero, List.getElem?_cons_succ, List.set_cons_zero, List.set_cons_succ, bnd_ret, bnd_assoc, bnd_grd, b1_if, bnd_ite, small, Nat.reduceLeDiff, grd_true, o_add, o_sub, o_neg, o_eq, o_ne, o_lt, o_le, o_gt, o_ge, o_eqS, o_neS,
    decide_eq_true_eq, reduceIte, decide_true, decide_false, Bool.not_true, Bool.not_false, Bool.false_eq_true, itemsOf, asInt, bi2, endOf, isTy,
    grd_tt, nx_int, nx_bool, nx_str, nx_none, nx_tup, nx_lst, x_isC, x_fld, x_in, x_count, x_lstR, x_tupR, x_raise, x_star, bnd_thr, noX_ret, fld_x, exn_d, eSetO, Out.clear, List.zip_cons_cons, List.zip_nil_left, List.zip_nil_right, wipeE, o_mod]
          refine Ok.grd (by omega) ?_
          have hlt : i % (1 + u) < ms.length := by
            have := Int.emod_lt_of_pos i (show 0 < 1 + u by omega)
            have hb : 1 + u ≤ 1 + r := by split at hu1 <;> omega
            omega
          rw [idx_intsL (Int.emod_nonneg _ (by omega)) hlt]
          exact Ok.ret ⟨_, rfl, hm _ (List.getElem_mem _)⟩
        · intro ys hy2 hG2
          obtain ⟨ms2, rfl, hm2⟩ := ints_of hG2
          rw [List.length_map, rng_len] at hy2
          exact Ok.ret ⟨ms2, _, _, rfl, by omega, hm2⟩
      · rintro E ⟨ms, e6, e7, rfl, hl, hm⟩
        simp only [x_var, x_con, x_bin, x_neg, x_cmp, x_chain, x_tTru, x_tNot, x_tAnd, x_tOr, x_tBool, x_tYes, x_not, x_and, x_or, x_if, x_b1, x_b2, x_is, x_idx, x_oNone, x_oSome, x_cut, x_aNil, x_aCons, x_tup, x_lst, x_call, x_callS,
    x_iSeq, x_iRng1, x_iRng2, x_bor, x_tBor, x_put1, List.map_cons, List.map_nil, List.cons_append, List.nil_append, List.length_cons, List.length_nil, Nat.zero_add, Nat.reduceAdd, Nat.reduceSub, List.reduceReplicate, start,
    List.getElem?_cons_zero, List.getElem?_cons_succ, List.set_cons_zero, List.set_cons_succ, bnd_ret, bnd_assoc, bnd_grd, b1_if, bnd_ite, small, Nat.reduceLeDiff, grd_true, o_add, o_sub, o_neg, o_eq, o_ne, o_lt, o_le, o_gt, o_ge, o_eqS, o_neS,
    decide_eq_true_eq, reduceIte, decide_true, decide_false, Bool.not_true, Bool.not_false, Bool.false_eq_true, itemsOf, asInt, bi2, endOf, isTy,
    grd_tt, nx_int, nx_bool, nx_str, nx_none, nx_tup, nx_lst, x_isC, x_fld, x_in, x_count, x_lstR, x_tupR, x_raise, x_star, bnd_thr, noX_ret, fld_x, exn_d, eSetO, Out.clear, List.zip_cons_cons, List.zip_nil_left, List.zip_nil_right, s_asg, s_par, s_own, s_parO, s_put, s_expr, s_ret, s_skip, s_seq, s_rel, x_asg, x_par, x_own, x_parO, x_put, x_expr, x_ret, x_retN, x_skip, x_rel, x_app, x_setI, x_sIf, x_for, x_brk, x_cnt]
        exact Ok.ret ⟨ms, rfl, by omega, by omega, hm⟩
end DL
end
section
namespace DL
open PySem
/-- the extent of a stretch -/
def ext (ns : List Int) (i j : Nat) : Int := ((ns.drop i).take (j + 1 - i)).sum + j - i
theorem cut_nat (ds : List D) (i j : Nat) (hi : i ≤ ds.length) (hj : j ≤ ds.length) : DL.cut ds (some (i : Int)) (some (j : Int)) = (ds.drop i).take (j - i) := by
  unfold DL.cut
  rw [HT.sIx_nat, HT.sIx_nat, Nat.min_eq_left hi, Nat.min_eq_left hj]
theorem sum_ints (ns : List Int) : bi1 .sum (.tuple (ns.map PyData.int)) = ret (.int ns.sum) := by
  show bnd (intsOf (.tuple (ns.map PyData.int))) _ = _
  simp only [intsOf, itemsOf, bnd_ret, ints?_map]
theorem extent_of_0 {ns : List Int} {i j : Nat} (h : i ≤ j) (hj : j < ns.length) : w_extent_of_0 [.tuple (ns.map PyData.int), .int i, .int j] = ret (.int (ext ns i j)) := by
  unfold w_extent_of_0
  refine (f_fn (by rfl)).trans ?_
  simp only [x_var, x_con, x_bin, x_neg, x_cmp, x_chain, x_tTru, x_tNot, x_tAnd, x_tOr, x_tBool, x_tYes, x_not, x_and, x_or, x_if, x_b1, x_b2, x_is, x_idx, x_oNone, x_oSome, x_cut, x_aNil, x_aCons, x_tup, x_lst, x_call, x_callS,
    x_iSeq, x_iRng1, x_iRng2, x_bor, x_tBor, x_put1, List.map_cons, List.map_nil, List.cons_append, List.nil_append, List.length_cons, List.length_nil, Nat.zero_add, Nat.reduceAdd, Nat.reduceSub, List.reduceReplicate, start,
    List.getElem?_cons_zero, List.getElem?_cons_succ, List.set_cons_zero, List.set_cons_succ, bnd_ret, bnd_assoc, bnd_grd, b1_if, bnd_ite, small, Nat.reduceLeDiff, grd_true, o_add, o_sub, o_neg, o_eq, o_ne, o_lt, o_le, o_gt, o_ge, o_eqS, o_neS,
    decide_eq_true_eq, reduceIte, decide_true, decide_false, Bool.not_true, Bool.not_false, Bool.false_eq_true, itemsOf, asInt, bi2, endOf, isTy,
    grd_tt, nx_int, nx_bool, nx_str, nx_none, nx_tup, nx_lst, x_isC, x_fld, x_in, x_count, x_lstR, x_tupR, x_raise, x_star, bnd_thr, noX_ret, fld_x, exn_d, eSetO, Out.clear, List.zip_cons_cons, List.zip_nil_left, List.zip_nil_right, s_asg, s_par, s_own, s_parO, s_put, s_expr, s_ret, s_skip, s_seq, s_rel, x_asg, x_par, x_own, x_parO, x_put, x_expr, x_ret, x_retN, x_skip, x_rel, x_app, x_setI, x_sIf, x_for, x_brk, x_cnt, opCut]
  rw [show ((j : Int) + 1) = ((j + 1 : Nat) : Int) by omega, cut_nat _ i (j + 1) (by rw [List.length_map]; omega) (by rw [List.length_map]; omega), ← List.map_drop, ← List.map_take, sum_ints]
  simp only [x_var, x_con, x_bin, x_neg, x_cmp, x_chain, x_tTru, x_tNot, x_tAnd, x_tOr, x_tBool, x_tYes, x_not, x_and, x_or, x_if, x_b1, x_b2, x_is, x_idx, x_oNone, x_oSome, x_cut, x_aNil, x_aCons, x_tup, x_lst, x_call, x_callS,
    x_iSeq, x_iRng1, x_iRng2, x_bor, x_tBor, x_put1, List.map_cons, List.map_nil, List.cons_append, List.nil_append, List.length_cons, List.length_nil, Nat.zero_add, Nat.reduceAdd, Nat.reduceSub, List.reduceReplicate, start,
    List.getElem?_cons_zero, List.getElem?_cons_succ, List.set_cons_zero, List.set_cons_succ, bnd_ret, bnd_assoc, bnd_grd, b1_if, bnd_ite, small, Nat.reduceLeDiff, grd_true, o_add, o_sub, o_neg, o_eq, o_ne, o_lt, o_le, o_gt, o_ge, o_eqS, o_neS,
    decide_eq_true_eq, reduceIte, decide_true, decide_false, Bool.not_true, Bool.not_false, Bool.false_eq_true, itemsOf, asInt, bi2, endOf, isTy,
    grd_tt, nx_int, nx_bool, nx_str, nx_none, nx_tup, nx_lst, x_isC, x_fld, x_in, x_count, x_lstR, x_tupR, x_raise, x_star, bnd_thr, noX_ret, fld_x, exn_d, eSetO, Out.clear, List.zip_cons_cons, List.zip_nil_left, List.zip_nil_right, s_asg, s_par, s_own, s_parO, s_put, s_expr, s_ret, s_skip, s_seq, s_rel, x_asg, x_par, x_own, x_parO, x_put, x_expr, x_ret, x_retN, x_skip, x_rel, x_app, x_setI, x_sIf, x_for, x_brk, x_cnt]
  unfold ext
  rfl
theorem ext_self {ns : List Int} {i : Nat} {x : Int} (h : ns[i]? = some x) : ext ns i i = x := by
  unfold ext
  obtain ⟨hl, e⟩ := List.getElem?_eq_some_iff.mp h
  rw [show i + 1 - i = 1 by omega, List.drop_eq_getElem_cons hl, e]
  simp
theorem ext_next {ns : List Int} {i j : Nat} {x : Int} (hij : i ≤ j) (h : ns[j + 1]? = some x) : ext ns i (j + 1) = ext ns i j + 1 + x := by
  unfold ext
  have e : ((ns.drop i).take (j + 1 + 1 - i)) = (ns.drop i).take (j + 1 - i) ++ [x] := by
    rw [show j + 1 + 1 - i = (j + 1 - i) + 1 by omega, List.take_succ, List.getElem?_drop, show i + (j + 1 - i) = j + 1 by omega, h]
    rfl
  rw [e, List.sum_append]
  simp
  omega
theorem sum_bound : ∀ {ns : List Int} {b : Int}, 0 ≤ b → (∀ x ∈ ns, 0 ≤ x ∧ x ≤ b) → 0 ≤ ns.sum ∧ ns.sum ≤ b * ns.length
  | [], b, _, _ => by simp
  | x :: ns, b, hb, h => by
    have := sum_bound hb fun y hy => h y (.tail _ hy)
    have hx := h x (.head _)
    rw [List.sum_cons, List.length_cons]
    have e : b * ((ns.length + 1 : Nat) : Int) = b * ns.length + b := by rw [Int.natCast_add, Int.mul_add]; simp
    omega
end DL
end
section
namespace DL
open PySem
/-- a while that draws nothing: so many turns, from here to there -/
inductive Runs (t : XT) (s : XS) : Nat → Env → Env → Prop
  | stop {E : Env} : t E = ret false → Runs t s 0 E E
  | turn {k : Nat} {E E' E2 : Env} : t E = ret true → s E = ret (.nx E') → Runs t s k E' E2 → Runs t s (k + 1) E E2
theorem Runs.at_ {t : XT} {s : XS} : ∀ {k : Nat} {E E2 : Env}, Runs t s k E E2 → ∀ n, whileL t s n E = if k < n then ret (.nx E2) else stuck
  | _, _, _, _, 0 => by simp [whileL]
  | _, E, _, .stop h, n + 1 => by
    show bnd (t E) _ = _
    rw [h, bnd_ret, if_neg (by decide), if_pos (Nat.succ_pos n)]
  | _, E, _, .turn (k := k) (E' := E') h1 h2 r, n + 1 => by
    show bnd (t E) _ = _
    rw [h1, bnd_ret, if_pos rfl, h2, bnd_ret]
    show whileL t s n E' = _
    rw [Runs.at_ r n]
    by_cases h : k < n
    · rw [if_pos h, if_pos (by omega)]
    · rw [if_neg h, if_neg (by omega)]
theorem Runs.eq {t : XT} {s : XS} {k : Nat} {E E2 : Env} (r : Runs t s k E E2) : sWhile t s E = ret (.nx E2) := by
  funext c P X
  show (∃ n, whileL t s n E c P X) = _
  refine propext ⟨fun ⟨n, h⟩ => ?_, fun h => ⟨k + 1, ?_⟩⟩
  · rw [r.at_ n] at h
    split at h
    · exact h
    · exact h.elim
  · rw [r.at_ (k + 1), if_pos (Nat.lt_succ_self k)]
    exact h
/-- the least place from j on whose stretch from i on is too long, or the end -/
def nxFrom (ns : List Int) (w : Int) (i : Nat) : Nat → Nat → Nat
  | 0, j => j
  | f + 1, j => if j < ns.length ∧ ext ns i j ≤ w then nxFrom ns w i f (j + 1) else j
def nx (ns : List Int) (w : Int) (i : Nat) : Nat := nxFrom ns w i (ns.length - i) (i + 1)
theorem extent_ofZ {ns : List Int} {i j : Nat} (h : i ≤ j) (hj : j < ns.length) : w_extent_of_0 [.tuple (ns.map PyData.int), .int (i : Int), .int (j : Int)] = ret (.int (ext ns i j)) := extent_of_0 h hj
theorem next_start_runs {ns : List Int} {w : Int} {i : Nat} : ∀ (f j : Nat), i ≤ j → ns.length ≤ j + f → j ≤ ns.length → ∃ k, Runs (tAnd (tBool (eCmp .lt (eVar 3) (eB1 .len (eVar 0)))) (tBool (eCmp .le (eCall w_extent_of_0 (aCons (eVar 0) (aCons (eVar 2) (aCons (eVar 3) (aNil))))) (eVar 1))))
      (sAsg 3 (eBin .add (eVar 3) (eCon (.int 1)))) k [.val (.tuple (ns.map PyData.int)), .val (.int w), .val (.int i), .val (.int j)] [.val (.tuple (ns.map PyData.int)), .val (.int w), .val (.int i), .val (.int (nxFrom ns w i f j))]
  | 0, j, hij, hf, hj => by
    refine ⟨0, .stop ?_⟩
    simp only [x_var, x_con, x_bin, x_neg, x_cmp, x_chain, x_tTru, x_tNot, x_tAnd, x_tOr, x_tBool, x_tYes, x_not, x_and, x_or, x_if, x_b1, x_b2, x_is, x_idx, x_oNone, x_oSome, x_cut, x_aNil, x_aCons, x_tup, x_lst, x_call, x_callS,
    x_iSeq, x_iRng1, x_iRng2, x_bor, x_tBor, x_put1, List.map_cons, List.map_nil, List.cons_append, List.nil_append, List.length_cons, List.length_nil, Nat.zero_add, Nat.reduceAdd, Nat.reduceSub, List.reduceReplicate, start,
    List.getElem?_cons_zero, List.getElem?_cons_succ, List.set_cons_zero, List.set_cons_succ, bnd_ret, bnd_assoc, bnd_grd, b1_if, bnd_ite, small, Nat.reduceLeDiff, grd_true, o_add, o_sub, o_neg, o_eq, o_ne, o_lt, o_le, o_gt, o_ge, o_eqS, o_neS,
    decide_eq_true_eq, reduceIte, decide_true, decide_false, Bool.not_true, Bool.not_false, Bool.false_eq_true, itemsOf, asInt, bi2, endOf, isTy,
    grd_tt, nx_int, nx_bool, nx_str, nx_none, nx_tup, nx_lst, x_isC, x_fld, x_in, x_count, x_lstR, x_tupR, x_raise, x_star, bnd_thr, noX_ret, fld_x, exn_d, eSetO, Out.clear, List.zip_cons_cons, List.zip_nil_left, List.zip_nil_right, bi1, List.length_map]
    rw [if_neg (by omega)]
  | f + 1, j, hij, hf, hj => by
    by_cases h : j < ns.length ∧ ext ns i j ≤ w
    · obtain ⟨k, r⟩ := next_start_runs (ns := ns) (w := w) (i := i) f (j + 1) (by omega) (by omega) (by omega)
      refine ⟨k + 1, .turn (E' := [.val (.tuple (ns.map PyData.int)), .val (.int w), .val (.int i), .val (.int ((j + 1 : Nat) : Int))]) ?_ ?_ ?_⟩
      · simp only [x_var, x_con, x_bin, x_neg, x_cmp, x_chain, x_tTru, x_tNot, x_tAnd, x_tOr, x_tBool, x_tYes, x_not, x_and, x_or, x_if, x_b1, x_b2, x_is, x_idx, x_oNone, x_oSome, x_cut, x_aNil, x_aCons, x_tup, x_lst, x_call, x_callS,
    x_iSeq, x_iRng1, x_iRng2, x_bor, x_tBor, x_put1, List.map_cons, List.map_nil, List.cons_append, List.nil_append, List.length_cons, List.length_nil, Nat.zero_add, Nat.reduceAdd, Nat.reduceSub, List.reduceReplicate, start,
    List.getElem?_cons_zero, List.getElem?_cons_succ, List.set_cons_zero, List.set_cons_succ, bnd_ret, bnd_assoc, bnd_grd, b1_if, bnd_ite, small, Nat.reduceLeDiff, grd_true, o_add, o_sub, o_neg, o_eq, o_ne, o_lt, o_le, o_gt, o_ge, o_eqS, o_neS,
    decide_eq_true_eq, reduceIte, decide_true, decide_false, Bool.not_true, Bool.not_false, Bool.false_eq_true, itemsOf, asInt, bi2, endOf, isTy,
    grd_tt, nx_int, nx_bool, nx_str, nx_none, nx_tup, nx_lst, x_isC, x_fld, x_in, x_count, x_lstR, x_tupR, x_raise, x_star, bnd_thr, noX_ret, fld_x, exn_d, eSetO, Out.clear, List.zip_cons_cons, List.zip_nil_left, List.zip_nil_right, bi1, List.length_map]
        rw [if_pos (by omega), extent_ofZ hij h.1]
        simp only [x_var, x_con, x_bin, x_neg, x_cmp, x_chain, x_tTru, x_tNot, x_tAnd, x_tOr, x_tBool, x_tYes, x_not, x_and, x_or, x_if, x_b1, x_b2, x_is, x_idx, x_oNone, x_oSome, x_cut, x_aNil, x_aCons, x_tup, x_lst, x_call, x_callS,
    x_iSeq, x_iRng1, x_iRng2, x_bor, x_tBor, x_put1, List.map_cons, List.map_nil, List.cons_append, List.nil_append, List.length_cons, List.length_nil, Nat.zero_add, Nat.reduceAdd, Nat.reduceSub, List.reduceReplicate, start,
    List.getElem?_cons_zero, List.getElem?_cons_succ, List.set_cons_zero, List.set_cons_succ, bnd_ret, bnd_assoc, bnd_grd, b1_if, bnd_ite, small, Nat.reduceLeDiff, grd_true, o_add, o_sub, o_neg, o_eq, o_ne, o_lt, o_le, o_gt, o_ge, o_eqS, o_neS,
    decide_eq_true_eq, reduceIte, decide_true, decide_false, Bool.not_true, Bool.not_false, Bool.false_eq_true, itemsOf, asInt, bi2, endOf, isTy,
    grd_tt, nx_int, nx_bool, nx_str, nx_none, nx_tup, nx_lst, x_isC, x_fld, x_in, x_count, x_lstR, x_tupR, x_raise, x_star, bnd_thr, noX_ret, fld_x, exn_d, eSetO, Out.clear, List.zip_cons_cons, List.zip_nil_left, List.zip_nil_right]
        rw [decide_eq_true h.2]
      · simp only [x_var, x_con, x_bin, x_neg, x_cmp, x_chain, x_tTru, x_tNot, x_tAnd, x_tOr, x_tBool, x_tYes, x_not, x_and, x_or, x_if, x_b1, x_b2, x_is, x_idx, x_oNone, x_oSome, x_cut, x_aNil, x_aCons, x_tup, x_lst, x_call, x_callS,
    x_iSeq, x_iRng1, x_iRng2, x_bor, x_tBor, x_put1, List.map_cons, List.map_nil, List.cons_append, List.nil_append, List.length_cons, List.length_nil, Nat.zero_add, Nat.reduceAdd, Nat.reduceSub, List.reduceReplicate, start,
    List.getElem?_cons_zero, List.getElem?_cons_succ, List.set_cons_zero, List.set_cons_succ, bnd_ret, bnd_assoc, bnd_grd, b1_if, bnd_ite, small, Nat.reduceLeDiff, grd_true, o_add, o_sub, o_neg, o_eq, o_ne, o_lt, o_le, o_gt, o_ge, o_eqS, o_neS,
    decide_eq_true_eq, reduceIte, decide_true, decide_false, Bool.not_true, Bool.not_false, Bool.false_eq_true, itemsOf, asInt, bi2, endOf, isTy,
    grd_tt, nx_int, nx_bool, nx_str, nx_none, nx_tup, nx_lst, x_isC, x_fld, x_in, x_count, x_lstR, x_tupR, x_raise, x_star, bnd_thr, noX_ret, fld_x, exn_d, eSetO, Out.clear, List.zip_cons_cons, List.zip_nil_left, List.zip_nil_right, s_asg, s_par, s_own, s_parO, s_put, s_expr, s_ret, s_skip, s_seq, s_rel, x_asg, x_par, x_own, x_parO, x_put, x_expr, x_ret, x_retN, x_skip, x_rel, x_app, x_setI, x_sIf, x_for, x_brk, x_cnt]
        rfl
      · have e : nxFrom ns w i (f + 1) j = nxFrom ns w i f (j + 1) := by
          show (if j < ns.length ∧ ext ns i j ≤ w then nxFrom ns w i f (j + 1) else j) = _
          rw [if_pos h]
        rw [e]
        exact r
    · have e : nxFrom ns w i (f + 1) j = j := by
        show (if j < ns.length ∧ ext ns i j ≤ w then nxFrom ns w i f (j + 1) else j) = _
        rw [if_neg h]
      rw [e]
      refine ⟨0, .stop ?_⟩
      simp only [x_var, x_con, x_bin, x_neg, x_cmp, x_chain, x_tTru, x_tNot, x_tAnd, x_tOr, x_tBool, x_tYes, x_not, x_and, x_or, x_if, x_b1, x_b2, x_is, x_idx, x_oNone, x_oSome, x_cut, x_aNil, x_aCons, x_tup, x_lst, x_call, x_callS,
    x_iSeq, x_iRng1, x_iRng2, x_bor, x_tBor, x_put1, List.map_cons, List.map_nil, List.cons_append, List.nil_append, List.length_cons, List.length_nil, Nat.zero_add, Nat.reduceAdd, Nat.reduceSub, List.reduceReplicate, start,
    List.getElem?_cons_zero, List.getElem?_cons_succ, List.set_cons_zero, List.set_cons_succ, bnd_ret, bnd_assoc, bnd_grd, b1_if, bnd_ite, small, Nat.reduceLeDiff, grd_true, o_add, o_sub, o_neg, o_eq, o_ne, o_lt, o_le, o_gt, o_ge, o_eqS, o_neS,
    decide_eq_true_eq, reduceIte, decide_true, decide_false, Bool.not_true, Bool.not_false, Bool.false_eq_true, itemsOf, asInt, bi2, endOf, isTy,
    grd_tt, nx_int, nx_bool, nx_str, nx_none, nx_tup, nx_lst, x_isC, x_fld, x_in, x_count, x_lstR, x_tupR, x_raise, x_star, bnd_thr, noX_ret, fld_x, exn_d, eSetO, Out.clear, List.zip_cons_cons, List.zip_nil_left, List.zip_nil_right, bi1, List.length_map]
      by_cases hl : j < ns.length
      · rw [if_pos (by omega), extent_ofZ hij hl]
        simp only [x_var, x_con, x_bin, x_neg, x_cmp, x_chain, x_tTru, x_tNot, x_tAnd, x_tOr, x_tBool, x_tYes, x_not, x_and, x_or, x_if, x_b1, x_b2, x_is, x_idx, x_oNone, x_oSome, x_cut, x_aNil, x_aCons, x_tup, x_lst, x_call, x_callS,
    x_iSeq, x_iRng1, x_iRng2, x_bor, x_tBor, x_put1, List.map_cons, List.map_nil, List.cons_append, List.nil_append, List.length_cons, List.length_nil, Nat.zero_add, Nat.reduceAdd, Nat.reduceSub, List.reduceReplicate, start,
    List.getElem?_cons_zero, List.getElem?_cons_succ, List.set_cons_zero, List.set_cons_succ, bnd_ret, bnd_assoc, bnd_grd, b1_if, bnd_ite, small, Nat.reduceLeDiff, grd_true, o_add, o_sub, o_neg, o_eq, o_ne, o_lt, o_le, o_gt, o_ge, o_eqS, o_neS,
    decide_eq_true_eq, reduceIte, decide_true, decide_false, Bool.not_true, Bool.not_false, Bool.false_eq_true, itemsOf, asInt, bi2, endOf, isTy,
    grd_tt, nx_int, nx_bool, nx_str, nx_none, nx_tup, nx_lst, x_isC, x_fld, x_in, x_count, x_lstR, x_tupR, x_raise, x_star, bnd_thr, noX_ret, fld_x, exn_d, eSetO, Out.clear, List.zip_cons_cons, List.zip_nil_left, List.zip_nil_right]
        rw [decide_eq_false fun z => h ⟨hl, z⟩]
      · rw [if_neg (by omega)]
theorem next_start_0 {ns : List Int} {w : Int} {i : Nat} (hi : i < ns.length) : w_next_start_0 [.tuple (ns.map PyData.int), .int w, .int (i : Int)] = ret (.int (nx ns w i : Nat)) := by
  unfold w_next_start_0
  refine (f_fn (by rfl)).trans ?_
  simp only [x_var, x_con, x_bin, x_neg, x_cmp, x_chain, x_tTru, x_tNot, x_tAnd, x_tOr, x_tBool, x_tYes, x_not, x_and, x_or, x_if, x_b1, x_b2, x_is, x_idx, x_oNone, x_oSome, x_cut, x_aNil, x_aCons, x_tup, x_lst, x_call, x_callS,
    x_iSeq, x_iRng1, x_iRng2, x_bor, x_tBor, x_put1, List.map_cons, List.map_nil, List.cons_append, List.nil_append, List.length_cons, List.length_nil, Nat.zero_add, Nat.reduceAdd, Nat.reduceSub, List.reduceReplicate, start,
    List.getElem?_cons_zero, List.getElem?_cons_succ, List.set_cons_zero, List.set_cons_succ, bnd_ret, bnd_assoc, bnd_grd, b1_if, bnd_ite, small, Nat.reduceLeDiff, grd_true, o_add, o_sub, o_neg, o_eq, o_ne, o_lt, o_le, o_gt, o_ge, o_eqS, o_neS,
    decide_eq_true_eq, reduceIte, decide_true, decide_false, Bool.not_true, Bool.not_false, Bool.false_eq_true, itemsOf, asInt, bi2, endOf, isTy,
    grd_tt, nx_int, nx_bool, nx_str, nx_none, nx_tup, nx_lst, x_isC, x_fld, x_in, x_count, x_lstR, x_tupR, x_raise, x_star, bnd_thr, noX_ret, fld_x, exn_d, eSetO, Out.clear, List.zip_cons_cons, List.zip_nil_left, List.zip_nil_right, s_asg, s_par, s_own, s_parO, s_put, s_expr, s_ret, s_skip, s_seq, s_rel, x_asg, x_par, x_own, x_parO, x_put, x_expr, x_ret, x_retN, x_skip, x_rel, x_app, x_setI, x_sIf, x_for, x_brk, x_cnt]
  obtain ⟨k, r⟩ := next_start_runs (ns := ns) (w := w) (i := i) (ns.length - i) (i + 1) (by omega) (by omega) (by omega)
  have e := r.eq
  rw [show ((i : Int) + 1) = ((i + 1 : Nat) : Int) by omega]
  rw [x_seq, e]
  simp only [x_var, x_con, x_bin, x_neg, x_cmp, x_chain, x_tTru, x_tNot, x_tAnd, x_tOr, x_tBool, x_tYes, x_not, x_and, x_or, x_if, x_b1, x_b2, x_is, x_idx, x_oNone, x_oSome, x_cut, x_aNil, x_aCons, x_tup, x_lst, x_call, x_callS,
    x_iSeq, x_iRng1, x_iRng2, x_bor, x_tBor, x_put1, List.map_cons, List.map_nil, List.cons_append, List.nil_append, List.length_cons, List.length_nil, Nat.zero_add, Nat.reduceAdd, Nat.reduceSub, List.reduceReplicate, start,
    List.getElem?_cons_zero, List.getElem?_cons_succ, List.set_cons_zero, List.set_cons_succ, bnd_ret, bnd_assoc, bnd_grd, b1_if, bnd_ite, small, Nat.reduceLeDiff, grd_true, o_add, o_sub, o_neg, o_eq, o_ne, o_lt, o_le, o_gt, o_ge, o_eqS, o_neS,
    decide_eq_true_eq, reduceIte, decide_true, decide_false, Bool.not_true, Bool.not_false, Bool.false_eq_true, itemsOf, asInt, bi2, endOf, isTy,
    grd_tt, nx_int, nx_bool, nx_str, nx_none, nx_tup, nx_lst, x_isC, x_fld, x_in, x_count, x_lstR, x_tupR, x_raise, x_star, bnd_thr, noX_ret, fld_x, exn_d, eSetO, Out.clear, List.zip_cons_cons, List.zip_nil_left, List.zip_nil_right, s_asg, s_par, s_own, s_parO, s_put, s_expr, s_ret, s_skip, s_seq, s_rel, x_asg, x_par, x_own, x_parO, x_put, x_expr, x_ret, x_retN, x_skip, x_rel, x_app, x_setI, x_sIf, x_for, x_brk, x_cnt]
  rfl
theorem nxFrom_ge (ns : List Int) (w : Int) (i : Nat) : ∀ f j, j ≤ nxFrom ns w i f j
  | 0, _ => Nat.le_refl _
  | f + 1, j => by
    unfold nxFrom
    split
    · exact Nat.le_trans (Nat.le_succ j) (nxFrom_ge ns w i f (j + 1))
    · exact Nat.le_refl _
theorem nx_gt (ns : List Int) (w : Int) (i : Nat) : i < nx ns w i := nxFrom_ge ns w i _ (i + 1)
/-- the starts from j on -/
def restF (ns : List Int) (w : Int) : Nat → Nat → List Nat
  | 0, _ => []
  | f + 1, j => if j < ns.length then j :: restF ns w f (nx ns w j) else []
def starts (ns : List Int) (w : Int) : List Nat := 0 :: restF ns w ns.length (nx ns w 0)
def natsD (l : List Nat) : List D := l.map fun (n : Nat) => PyData.int (n : Int)
theorem starts_runs {ns : List Int} {w : Int} : ∀ (f j : Nat) (acc : List Nat), ns.length ≤ j + f → acc.length + f ≤ 1000 → ∃ k e3, Runs (tBool (eCmp .lt (eVar 3) (eB1 .len (eVar 0))))
      (sSeq (sApp 2 (eVar 3)) (sAsg 3 (eCall w_next_start_0 (aCons (eVar 0) (aCons (eVar 1) (aCons (eVar 3) (aNil))))))) k
      [.val (.tuple (ns.map PyData.int)), .val (.int w), .own (natsD acc), .val (.int j)] [.val (.tuple (ns.map PyData.int)), .val (.int w), .own (natsD (acc ++ restF ns w f j)), e3]
  | 0, j, acc, hf, ha => by
    refine ⟨0, .val (.int j), ?_⟩
    rw [show acc ++ restF ns w 0 j = acc by simp [restF]]
    refine .stop ?_
    simp only [x_var, x_con, x_bin, x_neg, x_cmp, x_chain, x_tTru, x_tNot, x_tAnd, x_tOr, x_tBool, x_tYes, x_not, x_and, x_or, x_if, x_b1, x_b2, x_is, x_idx, x_oNone, x_oSome, x_cut, x_aNil, x_aCons, x_tup, x_lst, x_call, x_callS,
    x_iSeq, x_iRng1, x_iRng2, x_bor, x_tBor, x_put1, List.map_cons, List.map_nil, List.cons_append, List.nil_append, List.length_cons, List.length_nil, Nat.zero_add, Nat.reduceAdd, Nat.reduceSub, List.reduceReplicate, start,
    List.getElem?_cons_zero, List.getElem?_cons_succ, List.set_cons_zero, List.set_cons_succ, bnd_ret, bnd_assoc, bnd_grd, b1_if, bnd_ite, small, Nat.reduceLeDiff, grd_true, o_add, o_sub, o_neg, o_eq, o_ne, o_lt, o_le, o_gt, o_ge, o_eqS, o_neS,
    decide_eq_true_eq, reduceIte, decide_true, decide_false, Bool.not_true, Bool.not_false, Bool.false_eq_true, itemsOf, asInt, bi2, endOf, isTy,
    grd_tt, nx_int, nx_bool, nx_str, nx_none, nx_tup, nx_lst, x_isC, x_fld, x_in, x_count, x_lstR, x_tupR, x_raise, x_star, bnd_thr, noX_ret, fld_x, exn_d, eSetO, Out.clear, List.zip_cons_cons, List.zip_nil_left, List.zip_nil_right, bi1, List.length_map]
    rw [decide_eq_false (by omega)]
  | f + 1, j, acc, hf, ha => by
    by_cases h : j < ns.length
    · have hg := nx_gt ns w j
      obtain ⟨k, e3, r⟩ := starts_runs (ns := ns) (w := w) f (nx ns w j) (acc ++ [j]) (by omega) (by rw [List.length_append, List.length_singleton]; omega)
      have e : acc ++ restF ns w (f + 1) j = acc ++ [j] ++ restF ns w f (nx ns w j) := by
        show acc ++ (if j < ns.length then j :: restF ns w f (nx ns w j) else []) = _
        rw [if_pos h]
        simp
      rw [e]
      refine ⟨k + 1, e3, .turn ?_ ?_ r⟩
      · simp only [x_var, x_con, x_bin, x_neg, x_cmp, x_chain, x_tTru, x_tNot, x_tAnd, x_tOr, x_tBool, x_tYes, x_not, x_and, x_or, x_if, x_b1, x_b2, x_is, x_idx, x_oNone, x_oSome, x_cut, x_aNil, x_aCons, x_tup, x_lst, x_call, x_callS,
    x_iSeq, x_iRng1, x_iRng2, x_bor, x_tBor, x_put1, List.map_cons, List.map_nil, List.cons_append, List.nil_append, List.length_cons, List.length_nil, Nat.zero_add, Nat.reduceAdd, Nat.reduceSub, List.reduceReplicate, start,
    List.getElem?_cons_zero, List.getElem?_cons_succ, List.set_cons_zero, List.set_cons_succ, bnd_ret, bnd_assoc, bnd_grd, b1_if, bnd_ite, small, Nat.reduceLeDiff, grd_true, o_add, o_sub, o_neg, o_eq, o_ne, o_lt, o_le, o_gt, o_ge, o_eqS, o_neS,
    decide_eq_true_eq, reduceIte, decide_true, decide_false, Bool.not_true, Bool.not_false, Bool.false_eq_true, itemsOf, asInt, bi2, endOf, isTy,
    grd_tt, nx_int, nx_bool, nx_str, nx_none, nx_tup, nx_lst, x_isC, x_fld, x_in, x_count, x_lstR, x_tupR, x_raise, x_star, bnd_thr, noX_ret, fld_x, exn_d, eSetO, Out.clear, List.zip_cons_cons, List.zip_nil_left, List.zip_nil_right, bi1, List.length_map]
        rw [decide_eq_true (by omega)]
      · have hs : small (natsD acc).length := by unfold natsD small; rw [List.length_map]; omega
        rw [s_app 2 (eVar 3) _ (ds := natsD acc) rfl]
        simp only [x_var, List.getElem?_cons_zero, List.getElem?_cons_succ, bnd_ret, grd_pos hs]
        simp only [x_var, x_con, x_bin, x_neg, x_cmp, x_chain, x_tTru, x_tNot, x_tAnd, x_tOr, x_tBool, x_tYes, x_not, x_and, x_or, x_if, x_b1, x_b2, x_is, x_idx, x_oNone, x_oSome, x_cut, x_aNil, x_aCons, x_tup, x_lst, x_call, x_callS,
    x_iSeq, x_iRng1, x_iRng2, x_bor, x_tBor, x_put1, List.map_cons, List.map_nil, List.cons_append, List.nil_append, List.length_cons, List.length_nil, Nat.zero_add, Nat.reduceAdd, Nat.reduceSub, List.reduceReplicate, start,
    List.getElem?_cons_zero, List.getElem?_cons_succ, List.set_cons_zero, List.set_cons_succ, bnd_ret, bnd_assoc, bnd_grd, b1_if, bnd_ite, small, Nat.reduceLeDiff, grd_true, o_add, o_sub, o_neg, o_eq, o_ne, o_lt, o_le, o_gt, o_ge, o_eqS, o_neS,
    decide_eq_true_eq, reduceIte, decide_true, decide_false, Bool.not_true, Bool.not_false, Bool.false_eq_true, itemsOf, asInt, bi2, endOf, isTy,
    grd_tt, nx_int, nx_bool, nx_str, nx_none, nx_tup, nx_lst, x_isC, x_fld, x_in, x_count, x_lstR, x_tupR, x_raise, x_star, bnd_thr, noX_ret, fld_x, exn_d, eSetO, Out.clear, List.zip_cons_cons, List.zip_nil_left, List.zip_nil_right, s_asg, s_par, s_own, s_parO, s_put, s_expr, s_ret, s_skip, s_seq, s_rel, x_asg, x_par, x_own, x_parO, x_put, x_expr, x_ret, x_retN, x_skip, x_rel, x_app, x_setI, x_sIf, x_for, x_brk, x_cnt]
        rw [next_start_0 h]
        simp only [bnd_ret]
        rw [show natsD (acc ++ [j]) = natsD acc ++ [PyData.int j] by simp [natsD]]
    · have e : acc ++ restF ns w (f + 1) j = acc := by
        show acc ++ (if j < ns.length then j :: restF ns w f (nx ns w j) else []) = _
        rw [if_neg h]
        simp
      rw [e]
      refine ⟨0, .val (.int j), .stop ?_⟩
      simp only [x_var, x_con, x_bin, x_neg, x_cmp, x_chain, x_tTru, x_tNot, x_tAnd, x_tOr, x_tBool, x_tYes, x_not, x_and, x_or, x_if, x_b1, x_b2, x_is, x_idx, x_oNone, x_oSome, x_cut, x_aNil, x_aCons, x_tup, x_lst, x_call, x_callS,
    x_iSeq, x_iRng1, x_iRng2, x_bor, x_tBor, x_put1, List.map_cons, List.map_nil, List.cons_append, List.nil_append, List.length_cons, List.length_nil, Nat.zero_add, Nat.reduceAdd, Nat.reduceSub, List.reduceReplicate, start,
    List.getElem?_cons_zero, List.getElem?_cons_succ, List.set_cons_zero, List.set_cons_succ, bnd_ret, bnd_assoc, bnd_grd, b1_if, bnd_ite, small, Nat.reduceLeDiff, grd_true, o_add, o_sub, o_neg, o_eq, o_ne, o_lt, o_le, o_gt, o_ge, o_eqS, o_neS,
    decide_eq_true_eq, reduceIte, decide_true, decide_false, Bool.not_true, Bool.not_false, Bool.false_eq_true, itemsOf, asInt, bi2, endOf, isTy,
    grd_tt, nx_int, nx_bool, nx_str, nx_none, nx_tup, nx_lst, x_isC, x_fld, x_in, x_count, x_lstR, x_tupR, x_raise, x_star, bnd_thr, noX_ret, fld_x, exn_d, eSetO, Out.clear, List.zip_cons_cons, List.zip_nil_left, List.zip_nil_right, bi1, List.length_map]
      rw [decide_eq_false (by omega)]
theorem starts_of_0 {ns : List Int} {w : Int} (h1 : 0 < ns.length) (h2 : ns.length ≤ 900) : w_starts_of_0 [.tuple (ns.map PyData.int), .int w] = ret (.tuple (natsD (starts ns w))) := by
  unfold w_starts_of_0
  refine (f_fn (by rfl)).trans ?_
  simp only [x_var, x_con, x_bin, x_neg, x_cmp, x_chain, x_tTru, x_tNot, x_tAnd, x_tOr, x_tBool, x_tYes, x_not, x_and, x_or, x_if, x_b1, x_b2, x_is, x_idx, x_oNone, x_oSome, x_cut, x_aNil, x_aCons, x_tup, x_lst, x_call, x_callS,
    x_iSeq, x_iRng1, x_iRng2, x_bor, x_tBor, x_put1, List.map_cons, List.map_nil, List.cons_append, List.nil_append, List.length_cons, List.length_nil, Nat.zero_add, Nat.reduceAdd, Nat.reduceSub, List.reduceReplicate, start,
    List.getElem?_cons_zero, List.getElem?_cons_succ, List.set_cons_zero, List.set_cons_succ, bnd_ret, bnd_assoc, bnd_grd, b1_if, bnd_ite, small, Nat.reduceLeDiff, grd_true, o_add, o_sub, o_neg, o_eq, o_ne, o_lt, o_le, o_gt, o_ge, o_eqS, o_neS,
    decide_eq_true_eq, reduceIte, decide_true, decide_false, Bool.not_true, Bool.not_false, Bool.false_eq_true, itemsOf, asInt, bi2, endOf, isTy,
    grd_tt, nx_int, nx_bool, nx_str, nx_none, nx_tup, nx_lst, x_isC, x_fld, x_in, x_count, x_lstR, x_tupR, x_raise, x_star, bnd_thr, noX_ret, fld_x, exn_d, eSetO, Out.clear, List.zip_cons_cons, List.zip_nil_left, List.zip_nil_right, s_asg, s_par, s_own, s_parO, s_put, s_expr, s_ret, s_skip, s_seq, s_rel, x_asg, x_par, x_own, x_parO, x_put, x_expr, x_ret, x_retN, x_skip, x_rel, x_app, x_setI, x_sIf, x_for, x_brk, x_cnt]
  have e0 := next_start_0 (ns := ns) (w := w) (i := 0) h1
  rw [show (((0 : Nat) : Int)) = 0 from rfl] at e0
  rw [e0]
  simp only [x_var, x_con, x_bin, x_neg, x_cmp, x_chain, x_tTru, x_tNot, x_tAnd, x_tOr, x_tBool, x_tYes, x_not, x_and, x_or, x_if, x_b1, x_b2, x_is, x_idx, x_oNone, x_oSome, x_cut, x_aNil, x_aCons, x_tup, x_lst, x_call, x_callS,
    x_iSeq, x_iRng1, x_iRng2, x_bor, x_tBor, x_put1, List.map_cons, List.map_nil, List.cons_append, List.nil_append, List.length_cons, List.length_nil, Nat.zero_add, Nat.reduceAdd, Nat.reduceSub, List.reduceReplicate, start,
    List.getElem?_cons_zero, List.getElem?_cons_succ, List.set_cons_zero, List.set_cons_succ, bnd_ret, bnd_assoc, bnd_grd, b1_if, bnd_ite, small, Nat.reduceLeDiff, grd_true, o_add, o_sub, o_neg, o_eq, o_ne, o_lt, o_le, o_gt, o_ge, o_eqS, o_neS,
    decide_eq_true_eq, reduceIte, decide_true, decide_false, Bool.not_true, Bool.not_false, Bool.false_eq_true, itemsOf, asInt, bi2, endOf, isTy,
    grd_tt, nx_int, nx_bool, nx_str, nx_none, nx_tup, nx_lst, x_isC, x_fld, x_in, x_count, x_lstR, x_tupR, x_raise, x_star, bnd_thr, noX_ret, fld_x, exn_d, eSetO, Out.clear, List.zip_cons_cons, List.zip_nil_left, List.zip_nil_right, s_asg, s_par, s_own, s_parO, s_put, s_expr, s_ret, s_skip, s_seq, s_rel, x_asg, x_par, x_own, x_parO, x_put, x_expr, x_ret, x_retN, x_skip, x_rel, x_app, x_setI, x_sIf, x_for, x_brk, x_cnt]
  obtain ⟨k, e3, r⟩ := starts_runs (ns := ns) (w := w) ns.length (nx ns w 0) [0] (by omega) (by simp only [List.length_singleton]; omega)
  have e := r.eq
  have n0 : natsD [0] = [PyData.int 0] := rfl
  rw [n0] at e
  rw [x_seq, e]
  simp only [x_var, x_con, x_bin, x_neg, x_cmp, x_chain, x_tTru, x_tNot, x_tAnd, x_tOr, x_tBool, x_tYes, x_not, x_and, x_or, x_if, x_b1, x_b2, x_is, x_idx, x_oNone, x_oSome, x_cut, x_aNil, x_aCons, x_tup, x_lst, x_call, x_callS,
    x_iSeq, x_iRng1, x_iRng2, x_bor, x_tBor, x_put1, List.map_cons, List.map_nil, List.cons_append, List.nil_append, List.length_cons, List.length_nil, Nat.zero_add, Nat.reduceAdd, Nat.reduceSub, List.reduceReplicate, start,
    List.getElem?_cons_zero, List.getElem?_cons_succ, List.set_cons_zero, List.set_cons_succ, bnd_ret, bnd_assoc, bnd_grd, b1_if, bnd_ite, small, Nat.reduceLeDiff, grd_true, o_add, o_sub, o_neg, o_eq, o_ne, o_lt, o_le, o_gt, o_ge, o_eqS, o_neS,
    decide_eq_true_eq, reduceIte, decide_true, decide_false, Bool.not_true, Bool.not_false, Bool.false_eq_true, itemsOf, asInt, bi2, endOf, isTy,
    grd_tt, nx_int, nx_bool, nx_str, nx_none, nx_tup, nx_lst, x_isC, x_fld, x_in, x_count, x_lstR, x_tupR, x_raise, x_star, bnd_thr, noX_ret, fld_x, exn_d, eSetO, Out.clear, List.zip_cons_cons, List.zip_nil_left, List.zip_nil_right, s_asg, s_par, s_own, s_parO, s_put, s_expr, s_ret, s_skip, s_seq, s_rel, x_asg, x_par, x_own, x_parO, x_put, x_expr, x_ret, x_retN, x_skip, x_rel, x_app, x_setI, x_sIf, x_for, x_brk, x_cnt, bi1]
  rfl
theorem nxFrom_eq {ns : List Int} {w : Int} {i m : Nat} (hm : m ≤ ns.length) (ho : m < ns.length → w < ext ns i m) : ∀ f j, j ≤ m → m ≤ j + f → (∀ k, j ≤ k → k < m → ext ns i k ≤ w) → nxFrom ns w i f j = m
  | 0, j, h1, h2, _ => by
    show j = m
    omega
  | f + 1, j, h1, h2, hk => by
    show (if j < ns.length ∧ ext ns i j ≤ w then nxFrom ns w i f (j + 1) else j) = m
    by_cases e : j = m
    · subst e
      rw [if_neg]
      rintro ⟨h3, h4⟩
      have := ho h3
      omega
    · rw [if_pos ⟨by omega, hk j (Nat.le_refl _) (by omega)⟩]
      exact nxFrom_eq hm ho f (j + 1) (by omega) (by omega) fun k a b => hk k (by omega) b
theorem nx_eq {ns : List Int} {w : Int} {i m : Nat} (hi : i < m) (hm : m ≤ ns.length) (hk : ∀ k, i < k → k < m → ext ns i k ≤ w) (ho : m < ns.length → w < ext ns i m) : nx ns w i = m :=
  nxFrom_eq hm ho _ _ hi (by omega) fun k a b => hk k a b
theorem nx_le (ns : List Int) (w : Int) (i : Nat) (hi : i < ns.length) : nx ns w i ≤ ns.length := by
  have go : ∀ f j, j ≤ ns.length → nxFrom ns w i f j ≤ ns.length := by
    intro f
    induction f with
    | zero => intro j h; exact h
    | succ f ih =>
      intro j h
      unfold nxFrom
      split
      · exact ih (j + 1) (by omega)
      · exact h
  exact go _ _ hi
/-- a walk over the words: the starts so far, the last of them, what the line holds -/
structure Greedy (ns : List Int) (w : Int) (acc : List Nat) (last p : Nat) : Prop where
  fits : ∀ k, last < k → k ≤ p → ext ns last k ≤ w
  le : last ≤ p
  rest : ∃ f, ns.length ≤ last + f ∧ starts ns w = acc ++ restF ns w f (nx ns w last)
theorem Greedy.new {ns : List Int} {w : Int} {acc : List Nat} {last p : Nat} (g : Greedy ns w acc last p) (hp : p + 1 < ns.length) (h : w < ext ns last (p + 1)) : Greedy ns w (acc ++ [p + 1]) (p + 1) (p + 1) := by
  have hle := g.le
  obtain ⟨f, hf, hs⟩ := g.rest
  have e : nx ns w last = p + 1 := nx_eq (by omega) (by omega) (fun k a b => g.fits k a (by omega)) fun _ => h
  refine ⟨fun k a b => by omega, Nat.le_refl _, ?_⟩
  cases f with
  | zero => omega
  | succ f =>
    refine ⟨f, by omega, ?_⟩
    rw [hs, e]
    show acc ++ (if p + 1 < ns.length then (p + 1) :: restF ns w f (nx ns w (p + 1)) else []) = _
    rw [if_pos hp]
    simp
theorem Greedy.same {ns : List Int} {w : Int} {acc : List Nat} {last p : Nat} (g : Greedy ns w acc last p) (h : ext ns last (p + 1) ≤ w) : Greedy ns w acc last (p + 1) := by
  refine ⟨fun k a b => ?_, Nat.le_succ_of_le g.le, g.rest⟩
  by_cases e : k = p + 1
  · rw [e]; exact h
  · exact g.fits k a (by omega)
theorem Greedy.all {ns : List Int} {w : Int} {acc : List Nat} {last p : Nat} (g : Greedy ns w acc last p) (hp : p + 1 = ns.length) : acc = starts ns w := by
  have hle := g.le
  obtain ⟨f, hf, hs⟩ := g.rest
  have e : nx ns w last = ns.length := nx_eq (by omega) (Nat.le_refl _) (fun k a b => g.fits k a (by omega)) fun h => by omega
  rw [hs, e]
  cases f with
  | zero => simp [restF]
  | succ f => simp [restF]
theorem Greedy.start (ns : List Int) (w : Int) : Greedy ns w [0] 0 0 := ⟨fun k a b => by omega, Nat.le_refl _, ns.length, by omega, rfl⟩
/-- a walk that draws nothing, by what holds at each turn -/
theorem forL_inv {tg : Tg} {s : XS} (I : Nat → Env → Prop) : ∀ (ds : List D) (i : Nat) (E : Env), I i E → (∀ j d E, ds[j]? = some d → I (i + j) E → ∃ E1 E2, tg.put d E = some E1 ∧ s E1 = ret (.nx E2) ∧ I (i + j + 1) E2) →
    ∃ E', forL tg s ds E = ret (.nx E') ∧ I (i + ds.length) E'
  | [], i, E, h, _ => ⟨E, rfl, h⟩
  | d :: ds, i, E, h, hs => by
    obtain ⟨E1, E2, e1, e2, h2⟩ := hs 0 d E rfl h
    obtain ⟨E', e3, h3⟩ := forL_inv (tg := tg) (s := s) I ds (i + 1) E2 h2 fun j d E hj hI => by
      have := hs (j + 1) d E hj
      rw [show i + (j + 1) = i + 1 + j by omega] at this
      exact this hI
    refine ⟨E', ?_, ?_⟩
    · show (match tg.put d E with | none => stuck | some E1 => bnd (s E1) fun o => match o with
        | .nx E' => forL tg s ds E' | .ct E' => forL tg s ds E' | .bk E' => ret (.nx E') | .rt d => ret (.rt d)) = _
      rw [e1]
      simp only [e2, bnd_ret]
      exact e3
    · rw [List.length_cons, show i + (ds.length + 1) = i + 1 + ds.length by omega]
      exact h3
end DL
end
section
namespace DL
open PySem
/-- the first k turns of a walk, by what holds at each -/
theorem forL_to {tg : Tg} {s : XS} (I : Nat → Env → Prop) : ∀ (k : Nat) (ds : List D) (i : Nat) (E : Env), k ≤ ds.length → I i E → (∀ j d E, j < k → ds[j]? = some d → I (i + j) E → ∃ E1 E2, tg.put d E = some E1 ∧ s E1 = ret (.nx E2) ∧ I (i + j + 1) E2) →
    ∃ E', forL tg s ds E = forL tg s (ds.drop k) E' ∧ I (i + k) E'
  | 0, ds, i, E, _, h, _ => ⟨E, rfl, h⟩
  | k + 1, [], i, E, hk, _, _ => by simp at hk
  | k + 1, d :: ds, i, E, hk, h, hs => by
    obtain ⟨E1, E2, e1, e2, h2⟩ := hs 0 d E (by omega) rfl h
    obtain ⟨E', e3, h3⟩ := forL_to (tg := tg) (s := s) I k ds (i + 1) E2 (by simp at hk; omega) h2 fun j d E hj hd hI => by
      have := hs (j + 1) d E (by omega) hd
      rw [show i + (j + 1) = i + 1 + j by omega] at this
      exact this hI
    refine ⟨E', ?_, ?_⟩
    · show (match tg.put d E with | none => stuck | some E1 => bnd (s E1) fun o => match o with
        | .nx E' => forL tg s ds E' | .ct E' => forL tg s ds E' | .bk E' => ret (.nx E') | .rt d => ret (.rt d)) = _
      rw [e1]
      simp only [e2, bnd_ret]
      exact e3
    · rw [show i + (k + 1) = i + 1 + k by omega]
      exact h3
theorem x_forc (tg : Tg) (s : XS) (d : D) (ds : List D) (E : Env) : forL tg s (d :: ds) E = match tg.put d E with | none => stuck | some E1 => bnd (s E1) fun o => match o with
        | .nx E' => forL tg s ds E' | .ct E' => forL tg s ds E' | .bk E' => ret (.nx E') | .rt d => ret (.rt d) := id rfl
theorem pairs_at : ∀ (c : Int) (ds : List D) (j : Nat), (pairs c ds)[j]? = (ds[j]?).map fun d => .tuple [.int (c + j), d]
  | c, [], j => by simp [pairs]
  | c, d :: ds, 0 => by simp [pairs]
  | c, d :: ds, j + 1 => by
    show (pairs (c + 1) ds)[j]? = _
    rw [pairs_at (c + 1) ds j, List.getElem?_cons_succ, show c + 1 + (j : Int) = c + ((j + 1 : Nat) : Int) by omega]
theorem x_iEnumC (c : Int) (a : XE) (E : Env) : iEnumC c a E = bnd (a E) fun d => bnd (itemsOf d) fun xs => grd (-(2 ^ 63) ≤ c ∧ c < 2 ^ 63) (ret (pairs c xs)) := id rfl
/-- no word is longer than the line, or there is a first one that is -/
inductive Long (ns : List Int) (w : Int) : Option Nat → Prop
  | no : (∀ (j : Nat) (x : Int), ns[j]? = some x → x ≤ w) → Long ns w none
  | yes {j : Nat} {x : Int} : ns[j]? = some x → w < x → (∀ (k : Nat) (y : Int), k < j → ns[k]? = some y → y ≤ w) → Long ns w (some j)
theorem Long.cases (w : Int) : ∀ ns : List Int, ∃ o, Long ns w o
  | [] => ⟨none, .no fun j x h => by simp at h⟩
  | a :: ns => by
    by_cases h : w < a
    · exact ⟨some 0, .yes (x := a) rfl h fun k y hk => by omega⟩
    · obtain ⟨o, ho⟩ := Long.cases w ns
      cases ho with
      | no g =>
        refine ⟨none, .no fun j x hj => ?_⟩
        cases j with
        | zero => simp at hj; omega
        | succ j => exact g j x hj
      | yes g1 g2 g3 =>
        refine ⟨some _, .yes (j := _ + 1) g1 g2 fun k y hk hy => ?_⟩
        cases k with
        | zero => simp at hy; omega
        | succ k => exact g3 k y (by omega) hy
def tooNarrow (j : Nat) : Exn := ⟨"TooNarrow", [("place", .int (j : Int))]⟩
theorem check_fits_0 {ns : List Int} {w : Int} {o : Option Nat} (h : Long ns w o) : w_check_fits_0 [.tuple (ns.map PyData.int), .int w] = match o with | none => ret .none | some j => thr (tooNarrow j) := by
  unfold w_check_fits_0
  refine (f_fn (by rfl)).trans ?_
  simp only [x_var, x_con, x_bin, x_neg, x_cmp, x_chain, x_tTru, x_tNot, x_tAnd, x_tOr, x_tBool, x_tYes, x_not, x_and, x_or, x_if, x_b1, x_b2, x_is, x_idx, x_oNone, x_oSome, x_cut, x_aNil, x_aCons, x_tup, x_lst, x_call, x_callS,
    x_iSeq, x_iRng1, x_iRng2, x_bor, x_tBor, x_put1, List.map_cons, List.map_nil, List.cons_append, List.nil_append, List.length_cons, List.length_nil, Nat.zero_add, Nat.reduceAdd, Nat.reduceSub, List.reduceReplicate, start,
    List.getElem?_cons_zero, List.getElem?_cons_succ, List.set_cons_zero, List.set_cons_succ, bnd_ret, bnd_assoc, bnd_grd, b1_if, bnd_ite, small, Nat.reduceLeDiff, grd_true, o_add, o_sub, o_neg, o_eq, o_ne, o_lt, o_le, o_gt, o_ge, o_eqS, o_neS,
    decide_eq_true_eq, reduceIte, decide_true, decide_false, Bool.not_true, Bool.not_false, Bool.false_eq_true, itemsOf, asInt, bi2, endOf, isTy,
    grd_tt, nx_int, nx_bool, nx_str, nx_none, nx_tup, nx_lst, x_isC, x_fld, x_in, x_count, x_lstR, x_tupR, x_raise, x_star, bnd_thr, noX_ret, fld_x, exn_d, eSetO, Out.clear, List.zip_cons_cons, List.zip_nil_left, List.zip_nil_right, s_asg, s_par, s_own, s_parO, s_put, s_expr, s_ret, s_skip, s_seq, s_rel, x_asg, x_par, x_own, x_parO, x_put, x_expr, x_ret, x_retN, x_skip, x_rel, x_app, x_setI, x_sIf, x_for, x_brk, x_cnt, x_iEnumC]
  rw [grd_pos (by decide)]
  cases h with
  | no g =>
    obtain ⟨E', e, _⟩ := forL_inv (tg := .tp [2, 3]) (s := sIf (tBool (eCmp .gt (eVar 3) (eVar 1))) (sRaise "TooNarrow" [Fl.s .place] (aCons (eVar 2) aNil)) sSkip)
      (fun p E => ∃ e2 e3, E = [.val (.tuple (ns.map PyData.int)), .val (.int w), e2, e3]) (pairs 0 (ns.map PyData.int)) 0 [.val (.tuple (ns.map PyData.int)), .val (.int w), .unk, .unk] ⟨_, _, rfl⟩ (by
        rintro j d E hj ⟨e2, e3, rfl⟩
        rw [pairs_at, List.getElem?_map] at hj
        obtain ⟨x, hx, rfl⟩ : ∃ x, ns[j]? = some x ∧ d = .tuple [.int (0 + j), .int x] := by
          cases hh : ns[j]? with
          | none => rw [hh] at hj; cases hj
          | some x => rw [hh] at hj; exact ⟨x, rfl, (Option.some.inj hj).symm⟩
        refine ⟨_, [.val (.tuple (ns.map PyData.int)), .val (.int w), .val (.int (0 + j)), .val (.int x)], rfl, ?_, _, _, rfl⟩
        simp only [x_var, x_con, x_bin, x_neg, x_cmp, x_chain, x_tTru, x_tNot, x_tAnd, x_tOr, x_tBool, x_tYes, x_not, x_and, x_or, x_if, x_b1, x_b2, x_is, x_idx, x_oNone, x_oSome, x_cut, x_aNil, x_aCons, x_tup, x_lst, x_call, x_callS,
    x_iSeq, x_iRng1, x_iRng2, x_bor, x_tBor, x_put1, List.map_cons, List.map_nil, List.cons_append, List.nil_append, List.length_cons, List.length_nil, Nat.zero_add, Nat.reduceAdd, Nat.reduceSub, List.reduceReplicate, start,
    List.getElem?_cons_zero, List.getElem?_cons_succ, List.set_cons_zero, List.set_cons_succ, bnd_ret, bnd_assoc, bnd_grd, b1_if, bnd_ite, small, Nat.reduceLeDiff, grd_true, o_add, o_sub, o_neg, o_eq, o_ne, o_lt, o_le, o_gt, o_ge, o_eqS, o_neS,
    decide_eq_true_eq, reduceIte, decide_true, decide_false, Bool.not_true, Bool.not_false, Bool.false_eq_true, itemsOf, asInt, bi2, endOf, isTy,
    grd_tt, nx_int, nx_bool, nx_str, nx_none, nx_tup, nx_lst, x_isC, x_fld, x_in, x_count, x_lstR, x_tupR, x_raise, x_star, bnd_thr, noX_ret, fld_x, exn_d, eSetO, Out.clear, List.zip_cons_cons, List.zip_nil_left, List.zip_nil_right, s_asg, s_par, s_own, s_parO, s_put, s_expr, s_ret, s_skip, s_seq, s_rel, x_asg, x_par, x_own, x_parO, x_put, x_expr, x_ret, x_retN, x_skip, x_rel, x_app, x_setI, x_sIf, x_for, x_brk, x_cnt]
        rw [if_neg (by have := g j x hx; omega)])
    rw [e]
    rfl
  | yes g1 g2 g3 =>
    rename_i j x
    have hl : j < ns.length := (List.getElem?_eq_some_iff.mp g1).1
    obtain ⟨E', e, e2, e3, rfl⟩ := forL_to (tg := .tp [2, 3]) (s := sIf (tBool (eCmp .gt (eVar 3) (eVar 1))) (sRaise "TooNarrow" [Fl.s .place] (aCons (eVar 2) aNil)) sSkip)
      (fun p E => ∃ e2 e3, E = [.val (.tuple (ns.map PyData.int)), .val (.int w), e2, e3]) j (pairs 0 (ns.map PyData.int)) 0 [.val (.tuple (ns.map PyData.int)), .val (.int w), .unk, .unk] (by rw [pairs_len, List.length_map]; omega) ⟨_, _, rfl⟩ (by
        rintro k d E hk hj ⟨e2, e3, rfl⟩
        rw [pairs_at, List.getElem?_map] at hj
        obtain ⟨x, hx, rfl⟩ : ∃ x, ns[k]? = some x ∧ d = .tuple [.int (0 + k), .int x] := by
          cases hh : ns[k]? with
          | none => rw [hh] at hj; cases hj
          | some x => rw [hh] at hj; exact ⟨x, rfl, (Option.some.inj hj).symm⟩
        refine ⟨_, [.val (.tuple (ns.map PyData.int)), .val (.int w), .val (.int (0 + k)), .val (.int x)], rfl, ?_, _, _, rfl⟩
        simp only [x_var, x_con, x_bin, x_neg, x_cmp, x_chain, x_tTru, x_tNot, x_tAnd, x_tOr, x_tBool, x_tYes, x_not, x_and, x_or, x_if, x_b1, x_b2, x_is, x_idx, x_oNone, x_oSome, x_cut, x_aNil, x_aCons, x_tup, x_lst, x_call, x_callS,
    x_iSeq, x_iRng1, x_iRng2, x_bor, x_tBor, x_put1, List.map_cons, List.map_nil, List.cons_append, List.nil_append, List.length_cons, List.length_nil, Nat.zero_add, Nat.reduceAdd, Nat.reduceSub, List.reduceReplicate, start,
    List.getElem?_cons_zero, List.getElem?_cons_succ, List.set_cons_zero, List.set_cons_succ, bnd_ret, bnd_assoc, bnd_grd, b1_if, bnd_ite, small, Nat.reduceLeDiff, grd_true, o_add, o_sub, o_neg, o_eq, o_ne, o_lt, o_le, o_gt, o_ge, o_eqS, o_neS,
    decide_eq_true_eq, reduceIte, decide_true, decide_false, Bool.not_true, Bool.not_false, Bool.false_eq_true, itemsOf, asInt, bi2, endOf, isTy,
    grd_tt, nx_int, nx_bool, nx_str, nx_none, nx_tup, nx_lst, x_isC, x_fld, x_in, x_count, x_lstR, x_tupR, x_raise, x_star, bnd_thr, noX_ret, fld_x, exn_d, eSetO, Out.clear, List.zip_cons_cons, List.zip_nil_left, List.zip_nil_right, s_asg, s_par, s_own, s_parO, s_put, s_expr, s_ret, s_skip, s_seq, s_rel, x_asg, x_par, x_own, x_parO, x_put, x_expr, x_ret, x_retN, x_skip, x_rel, x_app, x_setI, x_sIf, x_for, x_brk, x_cnt]
        rw [if_neg (by have := g3 k x hk hx; omega)])
    rw [e]
    have hd : (pairs 0 (ns.map PyData.int)).drop j = .tuple [.int (0 + j), .int x] :: (pairs 0 (ns.map PyData.int)).drop (j + 1) := by
      have hl2 : j < (pairs 0 (ns.map PyData.int)).length := by rw [pairs_len, List.length_map]; omega
      rw [List.drop_eq_getElem_cons hl2]
      have := List.getElem?_eq_getElem hl2
      rw [pairs_at, List.getElem?_map, g1] at this
      rw [← Option.some.inj this]
    rw [hd, x_forc]
    simp only [Tg.put, setAll, x_var, x_con, x_bin, x_neg, x_cmp, x_chain, x_tTru, x_tNot, x_tAnd, x_tOr, x_tBool, x_tYes, x_not, x_and, x_or, x_if, x_b1, x_b2, x_is, x_idx, x_oNone, x_oSome, x_cut, x_aNil, x_aCons, x_tup, x_lst, x_call, x_callS,
    x_iSeq, x_iRng1, x_iRng2, x_bor, x_tBor, x_put1, List.map_cons, List.map_nil, List.cons_append, List.nil_append, List.length_cons, List.length_nil, Nat.zero_add, Nat.reduceAdd, Nat.reduceSub, List.reduceReplicate, start,
    List.getElem?_cons_zero, List.getElem?_cons_succ, List.set_cons_zero, List.set_cons_succ, bnd_ret, bnd_assoc, bnd_grd, b1_if, bnd_ite, small, Nat.reduceLeDiff, grd_true, o_add, o_sub, o_neg, o_eq, o_ne, o_lt, o_le, o_gt, o_ge, o_eqS, o_neS,
    decide_eq_true_eq, reduceIte, decide_true, decide_false, Bool.not_true, Bool.not_false, Bool.false_eq_true, itemsOf, asInt, bi2, endOf, isTy,
    grd_tt, nx_int, nx_bool, nx_str, nx_none, nx_tup, nx_lst, x_isC, x_fld, x_in, x_count, x_lstR, x_tupR, x_raise, x_star, bnd_thr, noX_ret, fld_x, exn_d, eSetO, Out.clear, List.zip_cons_cons, List.zip_nil_left, List.zip_nil_right, s_asg, s_par, s_own, s_parO, s_put, s_expr, s_ret, s_skip, s_seq, s_rel, x_asg, x_par, x_own, x_parO, x_put, x_expr, x_ret, x_retN, x_skip, x_rel, x_app, x_setI, x_sIf, x_for, x_brk, x_cnt]
    rw [if_pos g2, Int.zero_add]
    rfl
theorem starts_at_0 {ns : List Int} {w : Int} {o : Option Nat} (h : Long ns w o) (h1 : 0 < ns.length) (h2 : ns.length ≤ 900) : w_starts_at_0 [.tuple (ns.map PyData.int), .int w] = match o with | none => ret (.tuple (natsD (starts ns w))) | some j => thr (tooNarrow j) := by
  unfold w_starts_at_0
  refine (f_fn (by rfl)).trans ?_
  simp only [x_var, x_con, x_bin, x_neg, x_cmp, x_chain, x_tTru, x_tNot, x_tAnd, x_tOr, x_tBool, x_tYes, x_not, x_and, x_or, x_if, x_b1, x_b2, x_is, x_idx, x_oNone, x_oSome, x_cut, x_aNil, x_aCons, x_tup, x_lst, x_call, x_callS,
    x_iSeq, x_iRng1, x_iRng2, x_bor, x_tBor, x_put1, List.map_cons, List.map_nil, List.cons_append, List.nil_append, List.length_cons, List.length_nil, Nat.zero_add, Nat.reduceAdd, Nat.reduceSub, List.reduceReplicate, start,
    List.getElem?_cons_zero, List.getElem?_cons_succ, List.set_cons_zero, List.set_cons_succ, bnd_ret, bnd_assoc, bnd_grd, b1_if, bnd_ite, small, Nat.reduceLeDiff, grd_true, o_add, o_sub, o_neg, o_eq, o_ne, o_lt, o_le, o_gt, o_ge, o_eqS, o_neS,
    decide_eq_true_eq, reduceIte, decide_true, decide_false, Bool.not_true, Bool.not_false, Bool.false_eq_true, itemsOf, asInt, bi2, endOf, isTy,
    grd_tt, nx_int, nx_bool, nx_str, nx_none, nx_tup, nx_lst, x_isC, x_fld, x_in, x_count, x_lstR, x_tupR, x_raise, x_star, bnd_thr, noX_ret, fld_x, exn_d, eSetO, Out.clear, List.zip_cons_cons, List.zip_nil_left, List.zip_nil_right, s_asg, s_par, s_own, s_parO, s_put, s_expr, s_ret, s_skip, s_seq, s_rel, x_asg, x_par, x_own, x_parO, x_put, x_expr, x_ret, x_retN, x_skip, x_rel, x_app, x_setI, x_sIf, x_for, x_brk, x_cnt]
  rw [check_fits_0 h]
  cases o with
  | none => simp only [x_var, x_con, x_bin, x_neg, x_cmp, x_chain, x_tTru, x_tNot, x_tAnd, x_tOr, x_tBool, x_tYes, x_not, x_and, x_or, x_if, x_b1, x_b2, x_is, x_idx, x_oNone, x_oSome, x_cut, x_aNil, x_aCons, x_tup, x_lst, x_call, x_callS,
    x_iSeq, x_iRng1, x_iRng2, x_bor, x_tBor, x_put1, List.map_cons, List.map_nil, List.cons_append, List.nil_append, List.length_cons, List.length_nil, Nat.zero_add, Nat.reduceAdd, Nat.reduceSub, List.reduceReplicate, start,
    List.getElem?_cons_zero, List.getElem?_cons_succ, List.set_cons_zero, List.set_cons_succ, bnd_ret, bnd_assoc, bnd_grd, b1_if, bnd_ite, small, Nat.reduceLeDiff, grd_true, o_add, o_sub, o_neg, o_eq, o_ne, o_lt, o_le, o_gt, o_ge, o_eqS, o_neS,
    decide_eq_true_eq, reduceIte, decide_true, decide_false, Bool.not_true, Bool.not_false, Bool.false_eq_true, itemsOf, asInt, bi2, endOf, isTy,
    grd_tt, nx_int, nx_bool, nx_str, nx_none, nx_tup, nx_lst, x_isC, x_fld, x_in, x_count, x_lstR, x_tupR, x_raise, x_star, bnd_thr, noX_ret, fld_x, exn_d, eSetO, Out.clear, List.zip_cons_cons, List.zip_nil_left, List.zip_nil_right, s_asg, s_par, s_own, s_parO, s_put, s_expr, s_ret, s_skip, s_seq, s_rel, x_asg, x_par, x_own, x_parO, x_put, x_expr, x_ret, x_retN, x_skip, x_rel, x_app, x_setI, x_sIf, x_for, x_brk, x_cnt, starts_of_0 h1 h2]
  | some j => rfl
theorem Long.lt {ns : List Int} {w : Int} {j : Nat} (h : Long ns w (some j)) : j < ns.length := by
  cases h with
  | yes g1 g2 g3 => exact (List.getElem?_eq_some_iff.mp g1).1
theorem restF_lt {ns : List Int} {w : Int} : ∀ (f j : Nat), ∀ n ∈ restF ns w f j, n < ns.length
  | 0, j, n, h => by cases h
  | f + 1, j, n, h => by
    unfold restF at h
    split at h
    · cases h with
      | head => assumption
      | tail _ h => exact restF_lt f _ n h
    · cases h
theorem starts_lt {ns : List Int} {w : Int} (h : 0 < ns.length) : ∀ n ∈ starts ns w, n < ns.length := fun n hn => by
  cases hn with
  | head => exact h
  | tail _ hn => exact restF_lt _ _ n hn
theorem max_ints {ns : List Int} (h : 0 < ns.length) : ∃ m, bi1 .max (.tuple (ns.map PyData.int)) = ret (.int m) ∧ m ∈ ns := by
  match ns, h with
  | a :: r, _ =>
    refine ⟨greatest a r, ?_, ?_⟩
    · show bnd (intsOf (.tuple ((a :: r).map PyData.int))) _ = _
      simp only [intsOf, itemsOf, bnd_ret, ints?_map]
    · have go : ∀ (r : List Int) (a : Int), r.foldl max a = a ∨ r.foldl max a ∈ r := by
        intro r
        induction r with
        | nil => intro a; exact .inl rfl
        | cons b r ih =>
          intro a
          rw [List.foldl_cons]
          rcases ih (max a b) with h | h
          · rw [h]
            by_cases hb : b ≤ a
            · exact .inl (Int.max_eq_left hb)
            · rw [Int.max_eq_right (by omega)]
              exact .inr (.head _)
          · exact .inr (.tail _ h)
      rcases go r a with h | h
      · unfold greatest; rw [h]; exact .head _
      · exact .tail _ h
theorem b_lenT (xs : List D) : bi1 .len (.tuple xs) = ret (.int xs.length) := id rfl
theorem b_lenL (xs : List D) : bi1 .len (.list xs) = ret (.int xs.length) := id rfl
theorem b_tupL (xs : List D) : bi1 .tuple (.list xs) = ret (.tuple xs) := id rfl
theorem b_tupT (xs : List D) : bi1 .tuple (.tuple xs) = ret (.tuple xs) := id rfl
theorem b_max2 (i j : Int) : bi2 .max (.int i) (.int j) = ret (.int (if j > i then j else i)) := id rfl
theorem b_min2 (i j : Int) : bi2 .min (.int i) (.int j) = ret (.int (if j < i then j else i)) := id rfl
theorem o_addL (xs ys : List D) : opBin .add (.list xs) (.list ys) = grd (small (xs.length + ys.length)) (ret (.list (xs ++ ys))) := id rfl
theorem o_addT (xs ys : List D) : opBin .add (.tuple xs) (.tuple ys) = grd (small (xs.length + ys.length)) (ret (.tuple (xs ++ ys))) := id rfl
theorem cut_ints {ns : List Int} {i j : Int} (h0 : 0 ≤ i) (h1 : i ≤ ns.length) (h2 : 0 ≤ j) (h3 : j ≤ ns.length) : opCut (.tuple (ns.map PyData.int)) (some i) (some j) = ret (.tuple (((ns.drop i.toNat).take (j.toNat - i.toNat)).map PyData.int)) := by
  obtain ⟨a, rfl⟩ := Int.eq_ofNat_of_zero_le h0
  obtain ⟨b, rfl⟩ := Int.eq_ofNat_of_zero_le h2
  show ret (PyData.tuple (DL.cut (ns.map PyData.int) (some (a : Int)) (some (b : Int)))) = _
  rw [cut_nat _ a b (by rw [List.length_map]; omega) (by rw [List.length_map]; omega), ← List.map_drop, ← List.map_take]
  rfl
theorem sum_part {ns : List Int} {i k : Nat} (hn : ∀ x ∈ ns, 1 ≤ x ∧ x ≤ 60) (h2 : ns.length ≤ 24) : 0 ≤ ((ns.drop i).take k).sum ∧ ((ns.drop i).take k).sum ≤ 1440 := by
  have := sum_bound (ns := (ns.drop i).take k) (b := 60) (by decide) fun x hx => by
    have := hn x (List.mem_of_mem_drop (List.mem_of_mem_take hx))
    omega
  have hl2 : ((ns.drop i).take k).length ≤ 24 := by
    rw [List.length_take, List.length_drop]; omega
  omega
theorem s_chk (t : XT) (a : XE) (b : XS) (E : Env) : sSeq (sIf t (sRet a) sSkip) b E = bnd (t E) fun c => if c = true then bnd (a E) (fun d => ret (.rt d)) else b E := by
  rw [s_if]
  refine congrArg (bnd (t E)) (funext fun c => ?_)
  cases c <;> rfl
theorem s_brk (b : XS) (E : Env) : sSeq sBreak b E = ret (.bk E) := id rfl
theorem s_cnt (b : XS) (E : Env) : sSeq sCont b E = ret (.ct E) := id rfl
theorem s_retN (b : XS) (E : Env) : sSeq sRetN b E = ret (.rt .none) := id rfl
theorem t_bool (b : Bool) : tru (.bool b) = ret b := id rfl
theorem s_for (it : XA) (tg : Tg) (s b : XS) (E : Env) : sSeq (sFor it tg s) b E = bnd (it E) fun ds => bnd (forL tg s ds E) fun o => match o with | .nx E' => b E' | o => ret o := id rfl
theorem g_rng {α : Type} {a b : Int} {m : W α} (h0 : -1000000 ≤ a) (h1 : a ≤ 1000000) (h2 : -1000000 ≤ b) (h3 : b ≤ 1000000) : grd (rngOk a b) m = m := grd_pos (by unfold rngOk; omega) m
theorem g_le {α : Type} {a b : Nat} {m : W α} (h : a ≤ b) : grd (a ≤ b) m = m := grd_pos h m
end DL
end
section
namespace DL
open PySem
def cutN (ns : List Int) (a b : Nat) : List Int := (ns.drop a).take (b - a)
def part (ns : List Int) (a b : Nat) : D := .tuple ((cutN ns a b).map PyData.int)
/-- the lines that begin at the given places and end at e -/
def parts (ns : List Int) : List Nat → Nat → List D
  | [], _ => []
  | [a], e => [part ns a e]
  | a :: b :: r, e => part ns a b :: parts ns (b :: r) e
theorem atI_last (xs : List D) (x : D) : L2.atI (xs ++ [x]) (-1) = some x := by
  unfold L2.atI L2.ixN
  rw [if_neg (by decide), List.length_append, List.length_singleton, if_pos (by omega)]
  show (xs ++ [x])[(-1 + ((xs.length + 1 : Nat) : Int)).toNat]? = _
  rw [show (-1 + ((xs.length + 1 : Nat) : Int)).toNat = xs.length by omega]
  simp
theorem idx_lastL (xs : List D) (x : D) : opIdx (.list (xs ++ [x])) (.int (-1)) = ret x := by
  show (match L2.atI (xs ++ [x]) (-1) with | some d => ret d | none => stuck) = _
  rw [atI_last]
end DL
end
section
namespace DL
open PySem
theorem cut_from {ns : List Int} {a : Nat} (ha : a ≤ ns.length) : opCut (.tuple (ns.map PyData.int)) (some (a : Int)) none = ret (.tuple ((ns.drop a).map PyData.int)) := by
  show ret (PyData.tuple (DL.cut (ns.map PyData.int) (some (a : Int)) none)) = _
  unfold DL.cut
  rw [HT.sIx_nat, show HT.sIx (ns.map PyData.int).length (ns.map PyData.int).length none = (ns.map PyData.int).length from rfl, List.length_map, Nat.min_eq_left ha, ← List.map_drop, List.take_of_length_le (by rw [List.length_map, List.length_drop]; omega)]
end DL
end
section
namespace DL
open PySem
structure Thin (n k : Nat) (d : D) : Prop where
  short : PyData.leavesShort 8 d = true
  able : PyData.showable d = true
  bulk : PyData.bulk d ≤ n
  deep : PyData.depth d ≤ k
  pln : plain d = true
theorem Thin.mono {n k n' k' : Nat} {d : D} (h : Thin n k d) (hn : n ≤ n') (hk : k ≤ k') : Thin n' k' d := ⟨h.short, h.able, Nat.le_trans h.bulk hn, Nat.le_trans h.deep hk, h.pln⟩
structure ThinAll (n k : Nat) (ds : List D) : Prop where
  short : PyData.leavesShortAll 8 ds = true
  able : PyData.showableAll ds = true
  bulk : PyData.bulkAll ds ≤ n
  deep : PyData.depthAll ds ≤ k
  pln : plainAll ds = true
theorem ThinAll.mono {n k n' k' : Nat} {ds : List D} (h : ThinAll n k ds) (hn : n ≤ n') (hk : k ≤ k') : ThinAll n' k' ds := ⟨h.short, h.able, Nat.le_trans h.bulk hn, Nat.le_trans h.deep hk, h.pln⟩
theorem Thin.show {n k : Nat} {d : D} (h : Thin n k d) (hn : n ≤ 90000) (hk : k ≤ 40) : showOk d := by
  refine ⟨h.able, Nat.le_trans h.deep hk, ?_, h.pln⟩
  have e := PyData.shown_le_bulk 8 (by decide) d h.short
  have := h.bulk
  have : (8 + 2) * d.bulk ≤ 10 * 90000 := Nat.mul_le_mul_left _ (by omega)
  omega
end DL
end
section
namespace DL
open PySem
theorem nxFrom_spec (ns : List Int) (w : Int) (i : Nat) : ∀ f j, j ≤ ns.length → ns.length ≤ j + f → nxFrom ns w i f j ≤ ns.length ∧ (∀ k, j ≤ k → k < nxFrom ns w i f j → ext ns i k ≤ w) ∧ (nxFrom ns w i f j < ns.length → w < ext ns i (nxFrom ns w i f j))
  | 0, j, h1, h2 => by
    refine ⟨h1, fun k a b => ?_, fun h => ?_⟩
    · have : k < j := b; omega
    · have : j < ns.length := h; omega
  | f + 1, j, h1, h2 => by
    unfold nxFrom
    by_cases h : j < ns.length ∧ ext ns i j ≤ w
    · rw [if_pos h]
      obtain ⟨a, b, c⟩ := nxFrom_spec ns w i f (j + 1) (by omega) (by omega)
      refine ⟨a, fun k k1 k2 => ?_, c⟩
      by_cases e : k = j
      · rw [e]; exact h.2
      · exact b k (by omega) k2
    · rw [if_neg h]
      refine ⟨h1, fun k a b => by omega, fun hl => ?_⟩
      have : ¬ ext ns i j ≤ w := fun z => h ⟨hl, z⟩
      omega
theorem nx_spec {ns : List Int} {w : Int} {i : Nat} (hi : i < ns.length) : i < nx ns w i ∧ nx ns w i ≤ ns.length ∧ (∀ k, i < k → k < nx ns w i → ext ns i k ≤ w) ∧ (nx ns w i < ns.length → w < ext ns i (nx ns w i)) := by
  obtain ⟨a, b, c⟩ := nxFrom_spec ns w i (ns.length - i) (i + 1) (by omega) (by omega)
  exact ⟨nx_gt ns w i, a, fun k k1 k2 => b k k1 k2, c⟩
/-- the starts of the lines at width w, from one on -/
def Chain (ns : List Int) (w : Int) : List Nat → Prop
  | [] => False
  | [a] => a < ns.length ∧ nx ns w a = ns.length
  | a :: b :: r => a < ns.length ∧ nx ns w a = b ∧ Chain ns w (b :: r)
theorem Chain.lt {ns : List Int} {w : Int} : ∀ {a : Nat} {r : List Nat}, Chain ns w (a :: r) → a < ns.length
  | _, [], h => h.1
  | _, _ :: _, h => h.1
theorem chain_rest {ns : List Int} {w : Int} : ∀ f j, ns.length ≤ j + f → j < ns.length → Chain ns w (j :: restF ns w f (nx ns w j))
  | 0, j, h1, h2 => by omega
  | f + 1, j, h1, h2 => by
    have g := nx_gt ns w j
    have l := nx_le ns w j h2
    by_cases h : nx ns w j < ns.length
    · rw [show restF ns w (f + 1) (nx ns w j) = nx ns w j :: restF ns w f (nx ns w (nx ns w j)) from if_pos h]
      exact ⟨h2, rfl, chain_rest f _ (by omega) h⟩
    · rw [show restF ns w (f + 1) (nx ns w j) = [] from if_neg h]
      exact ⟨h2, by omega⟩
theorem starts_chain {ns : List Int} (w : Int) (h : 0 < ns.length) : Chain ns w (starts ns w) := chain_rest _ 0 (by omega) h
theorem chain_unique {ns : List Int} {w : Int} : ∀ (l : List Nat) (a f : Nat), Chain ns w (a :: l) → ns.length ≤ a + f → restF ns w f (nx ns w a) = l
  | [], a, f, h, hf => by
    rw [h.2]
    cases f with
    | zero => rfl
    | succ f => exact if_neg (by omega)
  | b :: r, a, f, h, hf => by
    obtain ⟨h1, h2, h3⟩ := h
    have g := nx_gt ns w a
    have hb := h3.lt
    rw [h2] at g ⊢
    cases f with
    | zero => omega
    | succ f =>
      rw [show restF ns w (f + 1) b = b :: restF ns w f (nx ns w b) from if_pos hb, chain_unique r b f h3 (by omega)]
theorem starts_unique {ns : List Int} {w : Int} {l : List Nat} (h : Chain ns w (0 :: l)) : starts ns w = 0 :: l := congrArg (0 :: ·) (chain_unique l 0 _ h (by omega))
/-- how wide each line with the next word would be -/
def exts (ns : List Int) : List Nat → List Int
  | [] => []
  | [_] => []
  | a :: b :: r => ext ns a b :: exts ns (b :: r)
theorem chain_keep {ns : List Int} {w v : Int} (hv : w ≤ v) : ∀ {l : List Nat}, Chain ns w l → (∀ e ∈ exts ns l, v < e) → Chain ns v l
  | [a], h, _ => by
    obtain ⟨h1, h2⟩ := h
    obtain ⟨s1, s2, s3, s4⟩ := nx_spec (w := w) h1
    rw [h2] at s1 s3
    exact ⟨h1, nx_eq h1 (Nat.le_refl _) (fun k a b => Int.le_trans (s3 k a b) hv) fun z => by omega⟩
  | a :: b :: r, h, he => by
    obtain ⟨h1, h2, h3⟩ := h
    obtain ⟨s1, s2, s3, s4⟩ := nx_spec (w := w) h1
    rw [h2] at s1 s2 s3
    exact ⟨h1, nx_eq s1 s2 (fun k a b => Int.le_trans (s3 k a b) hv) fun z => he _ (.head _), chain_keep hv h3 fun e x => he e (.tail _ x)⟩
theorem chain_gt {ns : List Int} {w : Int} : ∀ {l : List Nat}, Chain ns w l → ∀ e ∈ exts ns l, w < e
  | [a], h, e, he => by cases he
  | a :: b :: r, h, e, he => by
    obtain ⟨h1, h2, h3⟩ := h
    cases he with
    | head =>
      obtain ⟨s1, s2, s3, s4⟩ := nx_spec (w := w) h1
      rw [h2] at s4
      exact s4 h3.lt
    | tail _ he => exact chain_gt h3 e he
theorem sum_sub : ∀ {ns : List Int} {i k : Nat}, (∀ x ∈ ns, 0 ≤ x) → ((ns.drop i).take k).sum ≤ ns.sum
  | ns, i, k, h => by
    have pos : ∀ l : List Int, (∀ x ∈ l, 0 ≤ x) → 0 ≤ l.sum := fun l hl => by
      induction l with
      | nil => simp
      | cons a l ih =>
        have := hl a (.head _)
        have := ih fun x hx => hl x (.tail _ hx)
        rw [List.sum_cons]; omega
    have e1 : ns.sum = (ns.take i).sum + (ns.drop i).sum := by rw [← List.sum_append, List.take_append_drop]
    have e2 : (ns.drop i).sum = ((ns.drop i).take k).sum + ((ns.drop i).drop k).sum := by rw [← List.sum_append, List.take_append_drop]
    have p1 := pos (ns.take i) fun x hx => h x (List.mem_of_mem_take hx)
    have p2 := pos ((ns.drop i).drop k) fun x hx => h x (List.mem_of_mem_drop (List.mem_of_mem_drop hx))
    omega
theorem exts_le {ns : List Int} (hn : ∀ x ∈ ns, 0 ≤ x) : ∀ {l : List Nat}, (∀ a ∈ l, a < ns.length) → ∀ e ∈ exts ns l, e ≤ ns.sum + ns.length - 1
  | [], _, e, he => by cases he
  | [a], _, e, he => by cases he
  | a :: b :: r, h, e, he => by
    cases he with
    | head =>
      have := h b (.tail _ (.head _))
      have := sum_sub (i := a) (k := b + 1 - a) hn
      unfold ext
      omega
    | tail _ he => exact exts_le hn (fun x hx => h x (.tail _ hx)) e he
def nextW (ns : List Int) (l : List Nat) : Option Int := match exts ns l with
  | [] => none
  | a :: r => some (least a r)
theorem least_mem : ∀ (r : List Int) (a : Int), least a r ∈ a :: r := by
  intro r
  induction r with
  | nil => intro a; exact .head _
  | cons b r ih =>
    intro a
    show r.foldl min (min a b) ∈ _
    have := ih (min a b)
    unfold least at this
    rcases List.mem_cons.mp this with e | h
    · rw [e]
      by_cases h : a ≤ b
      · rw [Int.min_eq_left h]; exact .head _
      · rw [Int.min_eq_right (by omega)]; exact .tail _ (.head _)
    · exact .tail _ (.tail _ h)
theorem least_le : ∀ (r : List Int) (a : Int), ∀ x ∈ a :: r, least a r ≤ x := by
  intro r
  induction r with
  | nil => intro a x hx; cases hx with
    | head => exact Int.le_refl _
    | tail _ h => cases h
  | cons b r ih =>
    intro a x hx
    show r.foldl min (min a b) ≤ x
    have := ih (min a b)
    unfold least at this
    cases hx with
    | head => exact Int.le_trans (this _ (.head _)) (Int.min_le_left _ _)
    | tail _ hx =>
      cases hx with
      | head => exact Int.le_trans (this _ (.head _)) (Int.min_le_right _ _)
      | tail _ hx => exact this x (.tail _ hx)
theorem nextW_some {ns : List Int} {l : List Nat} {v : Int} (h : nextW ns l = some v) : v ∈ exts ns l ∧ ∀ e ∈ exts ns l, v ≤ e := by
  unfold nextW at h
  split at h
  · cases h
  · next a r e =>
    rw [e]
    cases h
    exact ⟨least_mem r a, least_le r a⟩
theorem nextW_none {ns : List Int} {l : List Nat} (h : nextW ns l = none) : exts ns l = [] := by
  unfold nextW at h
  split at h
  · assumption
  · cases h
def bookF (ns : List Int) : Nat → Int → List (Int × List Nat)
  | 0, _ => []
  | f + 1, w => (w, starts ns w) :: match nextW ns (starts ns w) with
    | none => []
    | some v => bookF ns f v
end DL
end
section
namespace DL
open PySem
structure Shp (k : Nat) (d : D) : Prop where
  lay : PyData.canLay0 d = true
  deep : PyData.depth d ≤ k
theorem Shp.ok {k : Nat} {d : D} (h : Shp k d) (hk : k ≤ 64) : SeqAt.shaped d = true := shp_of h.lay (Nat.le_trans h.deep hk)
theorem Shp.mono {k k' : Nat} {d : D} (h : Shp k d) (hk : k ≤ k') : Shp k' d := ⟨h.lay, Nat.le_trans h.deep hk⟩
def push {β : Type} [DecidableEq β] (acc : List (Int × β)) (p : Int × β) : List (Int × β) := match acc.getLast? with
  | none => acc ++ [p]
  | some q => if q.2 = p.2 then acc else acc ++ [p]
def scanA {β : Type} [DecidableEq β] (S : Int → β) (m : Int) : Nat → List (Int × β)
  | 0 => []
  | n + 1 => push (scanA S m n) (m + n, S (m + n))
theorem push_snoc {β : Type} [DecidableEq β] (P : List (Int × β)) (q p : Int × β) : push (P ++ [q]) p = if q.2 = p.2 then P ++ [q] else P ++ [q] ++ [p] := by
  unfold push
  rw [List.getLast?_concat]
theorem scanA_mem {β : Type} [DecidableEq β] {S : Int → β} {m : Int} : ∀ {n : Nat} {p : Int × β}, p ∈ scanA S m n → p.2 = S p.1 ∧ m ≤ p.1 ∧ p.1 < m + n
  | 0, p, h => by cases h
  | n + 1, p, h => by
    have old : p ∈ scanA S m n → p.2 = S p.1 ∧ m ≤ p.1 ∧ p.1 < m + (n + 1 : Nat) := fun h => by
      obtain ⟨a, b, c⟩ := scanA_mem h
      exact ⟨a, b, by omega⟩
    have new : p ∈ scanA S m n ++ [(m + (n : Int), S (m + n))] → p.2 = S p.1 ∧ m ≤ p.1 ∧ p.1 < m + (n + 1 : Nat) := fun h => by
      rcases List.mem_append.mp h with h | h
      · exact old h
      · rw [List.mem_singleton] at h
        subst h
        exact ⟨rfl, by show m ≤ m + (n : Int); omega, by show m + (n : Int) < _; omega⟩
    unfold scanA push at h
    split at h
    · exact new h
    · split at h
      · exact old h
      · exact new h
theorem book_scan {ns : List Int} {m B : Int} (h1 : 0 < ns.length) (hn : ∀ x ∈ ns, 0 ≤ x) (hb : ns.sum + ns.length - 1 ≤ B) (hm : m ≤ B) {F : Nat} (hF : B < m + F) : ∀ n : Nat, 1 ≤ n →
    ∃ P w f, scanA (starts ns) m n = P ++ [(w, starts ns w)] ∧ P ++ bookF ns f w = bookF ns F m ∧ w ≤ m + n - 1 ∧ w ≤ B ∧ B < w + (f : Nat) ∧ ∀ e ∈ exts ns (starts ns w), m + n - 1 < e
  | 0, h => by omega
  | 1, _ => by
    refine ⟨[], m, F, ?_, rfl, by omega, hm, hF, fun e he => ?_⟩
    · show push [] (m + (0 : Nat), starts ns (m + (0 : Nat))) = _
      rw [show m + ((0 : Nat) : Int) = m by omega]
      rfl
    · have := chain_gt (starts_chain m h1) e he
      omega
  | n + 2, _ => by
    obtain ⟨P, w, f, e1, e2, e3, e4, e5, e6⟩ := book_scan h1 hn hb hm hF (n + 1) (by omega)
    have step : scanA (starts ns) m (n + 2) = push (P ++ [(w, starts ns w)]) (m + (n + 1 : Nat), starts ns (m + (n + 1 : Nat))) := by
      rw [← e1]; rfl
    rw [step, push_snoc]
    by_cases h : starts ns w = starts ns (m + (n + 1 : Nat))
    · rw [if_pos h]
      refine ⟨P, w, f, rfl, e2, by omega, e4, e5, fun e he => ?_⟩
      have g := chain_gt (starts_chain (m + (n + 1 : Nat)) h1)
      rw [← h] at g
      have := g e he
      omega
    · rw [if_neg h]
      have hx : ∃ v, nextW ns (starts ns w) = some v ∧ v = m + (n + 1 : Nat) := by
        cases hx : nextW ns (starts ns w) with
        | none =>
          exfalso
          have k := chain_keep (v := m + (n + 1 : Nat)) (by omega) (starts_chain w h1) (by rw [nextW_none hx]; intro e he; cases he)
          exact h (starts_unique k).symm
        | some v =>
          obtain ⟨m1, m2⟩ := nextW_some hx
          refine ⟨v, rfl, ?_⟩
          have := e6 v m1
          by_cases hlt : m + ((n + 1 : Nat) : Int) < v
          · exfalso
            have k := chain_keep (v := m + (n + 1 : Nat)) (by omega) (starts_chain w h1) fun e he => by have := m2 e he; omega
            exact h (starts_unique k).symm
          · omega
      obtain ⟨v, hv, rfl⟩ := hx
      have hv2 := exts_le hn (starts_lt h1) _ (nextW_some hv).1
      cases f with
      | zero => omega
      | succ f =>
        refine ⟨P ++ [(w, starts ns w)], _, f, rfl, ?_, by omega, by omega, by omega, fun e he => ?_⟩
        · rw [← e2]
          have e : bookF ns (f + 1) w = (w, starts ns w) :: bookF ns f (m + (n + 1 : Nat)) := by
            show (w, starts ns w) :: (match nextW ns (starts ns w) with | none => [] | some v => bookF ns f v) = _
            rw [hv]
          rw [e]
          simp
        · have := chain_gt (starts_chain _ h1) e he
          omega
theorem book_all {ns : List Int} {m B : Int} (h1 : 0 < ns.length) (hn : ∀ x ∈ ns, 0 ≤ x) (hb : ns.sum + ns.length - 1 ≤ B) (hm : m ≤ B) {F : Nat} (hF : B < m + F) {n : Nat} (h : B < m + n) (hp : 1 ≤ n) : scanA (starts ns) m n = bookF ns F m := by
  obtain ⟨P, w, f, e1, e2, e3, e4, e5, e6⟩ := book_scan h1 hn hb hm hF n hp
  have hx : exts ns (starts ns w) = [] := by
    cases he : exts ns (starts ns w) with
    | nil => rfl
    | cons e r =>
      rw [he] at e6
      have a := e6 e (.head _)
      have b := exts_le hn (starts_lt (w := w) h1) e (by rw [he]; exact .head _)
      omega
  rw [e1, ← e2]
  cases f with
  | zero => omega
  | succ f =>
    show _ = P ++ ((w, starts ns w) :: (match nextW ns (starts ns w) with | none => [] | some v => bookF ns f v))
    unfold nextW
    rw [hx]
/-- the book of a row whose longest word is m -/
def bookN (ns : List Int) (m : Int) : List (Int × List Nat) := scanA (starts ns) m (ns.sum + ns.length + 2 - m).toNat
theorem mem_sum : ∀ {ns : List Int} {x : Int}, (∀ y ∈ ns, 0 ≤ y) → x ∈ ns → x ≤ ns.sum
  | [], x, _, h => by cases h
  | a :: ns, x, hn, h => by
    have pos : ∀ l : List Int, (∀ x ∈ l, 0 ≤ x) → 0 ≤ l.sum := fun l hl => by
      induction l with
      | nil => simp
      | cons a l ih =>
        have := hl a (.head _)
        have := ih fun x hx => hl x (.tail _ hx)
        rw [List.sum_cons]; omega
    have p := pos ns fun y hy => hn y (.tail _ hy)
    have q := hn a (.head _)
    rw [List.sum_cons]
    cases h with
    | head => omega
    | tail _ h =>
      have := mem_sum (fun y hy => hn y (.tail _ hy)) h
      omega
end DL
end
section
namespace DL
open PySem
/-- keep what is new -/
def keep {β : Type} [DecidableEq β] (l : List (Int × β)) : List (Int × β) := l.foldl push []
end DL
end
section
namespace DL
open PySem
theorem ex_first {P : Nat → Prop} [DecidablePred P] : ∀ n, P n → ∃ k, k ≤ n ∧ P k ∧ ∀ j, j < k → ¬ P j
  | 0, h => ⟨0, Nat.le_refl _, h, fun j hj => by omega⟩
  | n + 1, h => by
    by_cases e : ∃ j, j < n + 1 ∧ P j
    · obtain ⟨j, hj, hp⟩ := e
      obtain ⟨k, k1, k2, k3⟩ := ex_first j hp
      exact ⟨k, by omega, k2, k3⟩
    · exact ⟨n + 1, Nat.le_refl _, h, fun j hj hp => e ⟨j, hj, hp⟩⟩
termination_by n => n
decreasing_by omega
theorem starts_one {ns : List Int} {w : Int} (h1 : 0 < ns.length) (hn : ∀ x ∈ ns, 0 ≤ x) (hw : ns.sum + ns.length - 1 ≤ w) : starts ns w = [0] := by
  have c := starts_chain w h1
  cases hr : restF ns w ns.length (nx ns w 0) with
  | nil => unfold starts; rw [hr]
  | cons b r =>
    have e : starts ns w = 0 :: b :: r := by unfold starts; rw [hr]
    have g := chain_gt c (ext ns 0 b) (by rw [e]; exact .head _)
    have l := exts_le hn (starts_lt (w := w) h1) (ext ns 0 b) (by rw [e]; exact .head _)
    omega
/-- the least width, from m on, for at most c lines -/
structure Least (ns : List Int) (m : Int) (c : Nat) (k : Nat) : Prop where
  fits : (starts ns (m + k)).length ≤ c
  first : ∀ j : Nat, j < k → c < (starts ns (m + j)).length
  most : m + k ≤ ns.sum + ns.length
theorem Least.ex {ns : List Int} {m : Int} {c : Nat} (h1 : 0 < ns.length) (hn : ∀ x ∈ ns, 0 ≤ x) (hm : m ≤ ns.sum) (hc : 1 ≤ c) : ∃ k, Least ns m c k := by
  obtain ⟨k, k1, k2, k3⟩ := ex_first (P := fun k => (starts ns (m + k)).length ≤ c) (ns.sum + ns.length - m).toNat (by
    rw [starts_one h1 hn (by omega)]
    exact hc)
  exact ⟨k, k2, fun j hj => by have := k3 j hj; omega, by omega⟩
theorem cut_upto {ds : List D} {k : Nat} : DL.cut ds none (some (k : Int)) = ds.take k := by
  unfold DL.cut
  rw [HT.sIx_nat, show HT.sIx ds.length 0 none = 0 from rfl, List.drop_zero, Nat.sub_zero]
  by_cases h : k ≤ ds.length
  · rw [Nat.min_eq_left h]
  · rw [Nat.min_eq_right (by omega), List.take_of_length_le (Nat.le_refl _), List.take_of_length_le (by omega)]
end DL
end
section
namespace DL
open PySem
/-- a value of any kind, short enough to be shown -/
def Odd (d : D) : Prop := Tame 8 2 d
theorem Odd.nx {d : D} (h : Odd d) : noXn d = true := nx_plain h.pln
theorem odd_int {i : Int} (h : i.natAbs < 10 ^ 45) : Odd (.int i) := (tame_int h).mono (by decide) (by decide)
theorem odd_none : Odd .none := tame_none.mono (by decide) (by decide)
/-- an int, no truth value, of a range -/
def intIn (lo hi : Int) : D → Bool
  | .int i => decide (lo ≤ i ∧ i ≤ hi)
  | _ => false
theorem intIn_of {lo hi : Int} {d : D} (h : intIn lo hi d = true) : ∃ i, d = .int i ∧ lo ≤ i ∧ i ≤ hi := by
  cases d with
  | int i =>
    have := of_decide_eq_true h
    exact ⟨i, rfl, this.1, this.2⟩
  | _ => cases h
theorem is_integer_d {lo hi : Int} {d : D} (h : noXn d = true) : w_is_integer_0 [d, .int lo, .int hi] = ret (.bool (intIn lo hi d)) := by
  unfold w_is_integer_0
  refine (f_fn (by rfl)).trans ?_
  cases d with
  | int i =>
    simp only [x_var, x_con, x_bin, x_neg, x_cmp, x_chain, x_tTru, x_tNot, x_tAnd, x_tOr, x_tBool, x_tYes, x_not, x_and, x_or, x_if, x_b1, x_b2, x_is, x_idx, x_oNone, x_oSome, x_cut, x_aNil, x_aCons, x_tup, x_lst, x_call, x_callS,
    x_iSeq, x_iRng1, x_iRng2, x_bor, x_tBor, x_put1, List.map_cons, List.map_nil, List.cons_append, List.nil_append, List.length_cons, List.length_nil, Nat.zero_add, Nat.reduceAdd, Nat.reduceSub, List.reduceReplicate, start,
    List.getElem?_cons_zero, List.getElem?_cons_succ, List.set_cons_zero, List.set_cons_succ, bnd_ret, bnd_assoc, bnd_grd, b1_if, bnd_ite, small, Nat.reduceLeDiff, grd_true, o_add, o_sub, o_neg, o_eq, o_ne, o_lt, o_le, o_gt, o_ge, o_eqS, o_neS,
    decide_eq_true_eq, reduceIte, decide_true, decide_false, Bool.not_true, Bool.not_false, Bool.false_eq_true, itemsOf, asInt, endOf, isTy,
    grd_tt, nx_int, nx_bool, nx_str, nx_none, nx_tup, nx_lst, x_isC, x_fld, x_in, x_count, x_lstR, x_tupR, x_raise, x_star, bnd_thr, noX_ret, fld_x, exn_d, eSetO, Out.clear, List.zip_cons_cons, List.zip_nil_left, List.zip_nil_right, s_asg, s_par, s_own, s_parO, s_put, s_expr, s_ret, s_skip, s_seq, s_rel, x_asg, x_par, x_own, x_parO, x_put, x_expr, x_ret, x_retN, x_skip, x_rel, x_app, x_setI, x_sIf, x_for, x_brk, x_cnt, b_lenT, b_lenL, b_tupL, b_tupT, b_max2, b_min2, o_addL, o_addT, cut_ints, sum_ints, s_chk, s_for, s_brk, s_cnt, s_retN, t_bool, g_rng, g_le, List.length_map]
    unfold intIn
    by_cases h : lo ≤ i
    · simp [h]
    · simp [h]
  | _ =>
    simp only [x_var, x_con, x_bin, x_neg, x_cmp, x_chain, x_tTru, x_tNot, x_tAnd, x_tOr, x_tBool, x_tYes, x_not, x_and, x_or, x_if, x_b1, x_b2, x_is, x_idx, x_oNone, x_oSome, x_cut, x_aNil, x_aCons, x_tup, x_lst, x_call, x_callS,
    x_iSeq, x_iRng1, x_iRng2, x_bor, x_tBor, x_put1, List.map_cons, List.map_nil, List.cons_append, List.nil_append, List.length_cons, List.length_nil, Nat.zero_add, Nat.reduceAdd, Nat.reduceSub, List.reduceReplicate, start,
    List.getElem?_cons_zero, List.getElem?_cons_succ, List.set_cons_zero, List.set_cons_succ, bnd_ret, bnd_assoc, bnd_grd, b1_if, bnd_ite, small, Nat.reduceLeDiff, grd_true, o_add, o_sub, o_neg, o_eq, o_ne, o_lt, o_le, o_gt, o_ge, o_eqS, o_neS,
    decide_eq_true_eq, reduceIte, decide_true, decide_false, Bool.not_true, Bool.not_false, Bool.false_eq_true, itemsOf, asInt, endOf, isTy,
    grd_tt, nx_int, nx_bool, nx_str, nx_none, nx_tup, nx_lst, x_isC, x_fld, x_in, x_count, x_lstR, x_tupR, x_raise, x_star, bnd_thr, noX_ret, fld_x, exn_d, eSetO, Out.clear, List.zip_cons_cons, List.zip_nil_left, List.zip_nil_right, s_asg, s_par, s_own, s_parO, s_put, s_expr, s_ret, s_skip, s_seq, s_rel, x_asg, x_par, x_own, x_parO, x_put, x_expr, x_ret, x_retN, x_skip, x_rel, x_app, x_setI, x_sIf, x_for, x_brk, x_cnt, b_lenT, b_lenL, b_tupL, b_tupT, b_max2, b_min2, o_addL, o_addT, cut_ints, sum_ints, s_chk, s_for, s_brk, s_cnt, s_retN, t_bool, g_rng, g_le, List.length_map, h]
    try rfl
theorem law_is_int_0 {lo hi : Int} {d : D} (h : noXn d = true) : w__law_is_int_0 [d, .int lo, .int hi] = ret (.bool (intIn lo hi d)) := is_integer_d h
def xV (n : Str) (d : D) : Exn := ⟨n, [("value", d)]⟩
theorem check_place_d {ns : List Int} {d : D} (h : noXn d = true) : w_check_place_0 [.tuple (ns.map PyData.int), d] = if intIn 0 (ns.length - 1) d = true then ret .none else thr (xV "NoPlace" d) := by
  unfold w_check_place_0
  refine (f_fn (by rfl)).trans ?_
  simp only [x_var, x_con, x_bin, x_neg, x_cmp, x_chain, x_tTru, x_tNot, x_tAnd, x_tOr, x_tBool, x_tYes, x_not, x_and, x_or, x_if, x_b1, x_b2, x_is, x_idx, x_oNone, x_oSome, x_cut, x_aNil, x_aCons, x_tup, x_lst, x_call, x_callS,
    x_iSeq, x_iRng1, x_iRng2, x_bor, x_tBor, x_put1, List.map_cons, List.map_nil, List.cons_append, List.nil_append, List.length_cons, List.length_nil, Nat.zero_add, Nat.reduceAdd, Nat.reduceSub, List.reduceReplicate, start,
    List.getElem?_cons_zero, List.getElem?_cons_succ, List.set_cons_zero, List.set_cons_succ, bnd_ret, bnd_assoc, bnd_grd, b1_if, bnd_ite, small, Nat.reduceLeDiff, grd_true, o_add, o_sub, o_neg, o_eq, o_ne, o_lt, o_le, o_gt, o_ge, o_eqS, o_neS,
    decide_eq_true_eq, reduceIte, decide_true, decide_false, Bool.not_true, Bool.not_false, Bool.false_eq_true, itemsOf, asInt, endOf, isTy,
    grd_tt, nx_int, nx_bool, nx_str, nx_none, nx_tup, nx_lst, x_isC, x_fld, x_in, x_count, x_lstR, x_tupR, x_raise, x_star, bnd_thr, noX_ret, fld_x, exn_d, eSetO, Out.clear, List.zip_cons_cons, List.zip_nil_left, List.zip_nil_right, s_asg, s_par, s_own, s_parO, s_put, s_expr, s_ret, s_skip, s_seq, s_rel, x_asg, x_par, x_own, x_parO, x_put, x_expr, x_ret, x_retN, x_skip, x_rel, x_app, x_setI, x_sIf, x_for, x_brk, x_cnt, b_lenT, b_lenL, b_tupL, b_tupT, b_max2, b_min2, o_addL, o_addT, cut_ints, sum_ints, s_chk, s_for, s_brk, s_cnt, s_retN, t_bool, g_rng, g_le, List.length_map, is_integer_d h]
  cases intIn 0 (ns.length - 1) d <;> rfl
theorem check_length_d {d : D} (h : noXn d = true) : w_check_length_0 [d] = if intIn 1 60 d = true then ret .none else thr (xV "BadLength" d) := by
  unfold w_check_length_0
  refine (f_fn (by rfl)).trans ?_
  have e : w_is_length_0 [d] = ret (.bool (intIn 1 60 d)) := by
    unfold w_is_length_0
    refine (f_fn (by rfl)).trans ?_
    simp only [x_var, x_con, x_bin, x_neg, x_cmp, x_chain, x_tTru, x_tNot, x_tAnd, x_tOr, x_tBool, x_tYes, x_not, x_and, x_or, x_if, x_b1, x_b2, x_is, x_idx, x_oNone, x_oSome, x_cut, x_aNil, x_aCons, x_tup, x_lst, x_call, x_callS,
    x_iSeq, x_iRng1, x_iRng2, x_bor, x_tBor, x_put1, List.map_cons, List.map_nil, List.cons_append, List.nil_append, List.length_cons, List.length_nil, Nat.zero_add, Nat.reduceAdd, Nat.reduceSub, List.reduceReplicate, start,
    List.getElem?_cons_zero, List.getElem?_cons_succ, List.set_cons_zero, List.set_cons_succ, bnd_ret, bnd_assoc, bnd_grd, b1_if, bnd_ite, small, Nat.reduceLeDiff, grd_true, o_add, o_sub, o_neg, o_eq, o_ne, o_lt, o_le, o_gt, o_ge, o_eqS, o_neS,
    decide_eq_true_eq, reduceIte, decide_true, decide_false, Bool.not_true, Bool.not_false, Bool.false_eq_true, itemsOf, asInt, endOf, isTy,
    grd_tt, nx_int, nx_bool, nx_str, nx_none, nx_tup, nx_lst, x_isC, x_fld, x_in, x_count, x_lstR, x_tupR, x_raise, x_star, bnd_thr, noX_ret, fld_x, exn_d, eSetO, Out.clear, List.zip_cons_cons, List.zip_nil_left, List.zip_nil_right, s_asg, s_par, s_own, s_parO, s_put, s_expr, s_ret, s_skip, s_seq, s_rel, x_asg, x_par, x_own, x_parO, x_put, x_expr, x_ret, x_retN, x_skip, x_rel, x_app, x_setI, x_sIf, x_for, x_brk, x_cnt, b_lenT, b_lenL, b_tupL, b_tupT, b_max2, b_min2, o_addL, o_addT, cut_ints, sum_ints, s_chk, s_for, s_brk, s_cnt, s_retN, t_bool, g_rng, g_le, List.length_map, is_integer_d h]
  simp only [x_var, x_con, x_bin, x_neg, x_cmp, x_chain, x_tTru, x_tNot, x_tAnd, x_tOr, x_tBool, x_tYes, x_not, x_and, x_or, x_if, x_b1, x_b2, x_is, x_idx, x_oNone, x_oSome, x_cut, x_aNil, x_aCons, x_tup, x_lst, x_call, x_callS,
    x_iSeq, x_iRng1, x_iRng2, x_bor, x_tBor, x_put1, List.map_cons, List.map_nil, List.cons_append, List.nil_append, List.length_cons, List.length_nil, Nat.zero_add, Nat.reduceAdd, Nat.reduceSub, List.reduceReplicate, start,
    List.getElem?_cons_zero, List.getElem?_cons_succ, List.set_cons_zero, List.set_cons_succ, bnd_ret, bnd_assoc, bnd_grd, b1_if, bnd_ite, small, Nat.reduceLeDiff, grd_true, o_add, o_sub, o_neg, o_eq, o_ne, o_lt, o_le, o_gt, o_ge, o_eqS, o_neS,
    decide_eq_true_eq, reduceIte, decide_true, decide_false, Bool.not_true, Bool.not_false, Bool.false_eq_true, itemsOf, asInt, endOf, isTy,
    grd_tt, nx_int, nx_bool, nx_str, nx_none, nx_tup, nx_lst, x_isC, x_fld, x_in, x_count, x_lstR, x_tupR, x_raise, x_star, bnd_thr, noX_ret, fld_x, exn_d, eSetO, Out.clear, List.zip_cons_cons, List.zip_nil_left, List.zip_nil_right, s_asg, s_par, s_own, s_parO, s_put, s_expr, s_ret, s_skip, s_seq, s_rel, x_asg, x_par, x_own, x_parO, x_put, x_expr, x_ret, x_retN, x_skip, x_rel, x_app, x_setI, x_sIf, x_for, x_brk, x_cnt, b_lenT, b_lenL, b_tupL, b_tupT, b_max2, b_min2, o_addL, o_addT, cut_ints, sum_ints, s_chk, s_for, s_brk, s_cnt, s_retN, t_bool, g_rng, g_le, List.length_map, e]
  cases intIn 1 60 d <;> rfl
end DL
end
section
namespace DL
open PySem
theorem cut_uptoI {ns : List Int} {k : Int} (hk : 0 ≤ k) : opCut (.tuple (ns.map PyData.int)) none (some k) = ret (.tuple ((ns.take k.toNat).map PyData.int)) := by
  obtain ⟨a, rfl⟩ := Int.eq_ofNat_of_zero_le hk
  show ret (PyData.tuple (DL.cut (ns.map PyData.int) none (some (a : Int)))) = _
  rw [cut_upto, ← List.map_take]
  rfl
theorem cut_fromI {ns : List Int} {k : Int} (hk : 0 ≤ k) (h : k ≤ ns.length) : opCut (.tuple (ns.map PyData.int)) (some k) none = ret (.tuple ((ns.drop k.toNat).map PyData.int)) := by
  obtain ⟨a, rfl⟩ := Int.eq_ofNat_of_zero_le hk
  exact cut_from (by omega)
def setI (ns : List Int) : D → D → List Int
  | .int i, .int x => ns.set i.toNat x
  | _, _ => []
theorem changed_0 {ns : List Int} {p l : D} (h2 : ns.length ≤ 900) (hp : noXn p = true) (hl : noXn l = true) : w_changed_0 [.tuple (ns.map PyData.int), p, l] =
    if intIn 0 (ns.length - 1) p = true then (if intIn 1 60 l = true then ret (.tuple ((setI ns p l).map PyData.int)) else thr (xV "BadLength" l)) else thr (xV "NoPlace" p) := by
  unfold w_changed_0
  refine (f_fn (by rfl)).trans ?_
  simp only [x_var, x_con, x_bin, x_neg, x_cmp, x_chain, x_tTru, x_tNot, x_tAnd, x_tOr, x_tBool, x_tYes, x_not, x_and, x_or, x_if, x_b1, x_b2, x_is, x_idx, x_oNone, x_oSome, x_cut, x_aNil, x_aCons, x_tup, x_lst, x_call, x_callS,
    x_iSeq, x_iRng1, x_iRng2, x_bor, x_tBor, x_put1, List.map_cons, List.map_nil, List.cons_append, List.nil_append, List.length_cons, List.length_nil, Nat.zero_add, Nat.reduceAdd, Nat.reduceSub, List.reduceReplicate, start,
    List.getElem?_cons_zero, List.getElem?_cons_succ, List.set_cons_zero, List.set_cons_succ, bnd_ret, bnd_assoc, bnd_grd, b1_if, bnd_ite, small, Nat.reduceLeDiff, grd_true, o_add, o_sub, o_neg, o_eq, o_ne, o_lt, o_le, o_gt, o_ge, o_eqS, o_neS,
    decide_eq_true_eq, reduceIte, decide_true, decide_false, Bool.not_true, Bool.not_false, Bool.false_eq_true, itemsOf, asInt, endOf, isTy,
    grd_tt, nx_int, nx_bool, nx_str, nx_none, nx_tup, nx_lst, x_isC, x_fld, x_in, x_count, x_lstR, x_tupR, x_raise, x_star, bnd_thr, noX_ret, fld_x, exn_d, eSetO, Out.clear, List.zip_cons_cons, List.zip_nil_left, List.zip_nil_right, s_asg, s_par, s_own, s_parO, s_put, s_expr, s_ret, s_skip, s_seq, s_rel, x_asg, x_par, x_own, x_parO, x_put, x_expr, x_ret, x_retN, x_skip, x_rel, x_app, x_setI, x_sIf, x_for, x_brk, x_cnt, b_lenT, b_lenL, b_tupL, b_tupT, b_max2, b_min2, o_addL, o_addT, cut_ints, sum_ints, s_chk, s_for, s_brk, s_cnt, s_retN, t_bool, g_rng, g_le, List.length_map]
  rw [check_place_d hp]
  by_cases h : intIn 0 (ns.length - 1) p = true
  · rw [if_pos h, if_pos h]
    simp only [x_var, x_con, x_bin, x_neg, x_cmp, x_chain, x_tTru, x_tNot, x_tAnd, x_tOr, x_tBool, x_tYes, x_not, x_and, x_or, x_if, x_b1, x_b2, x_is, x_idx, x_oNone, x_oSome, x_cut, x_aNil, x_aCons, x_tup, x_lst, x_call, x_callS,
    x_iSeq, x_iRng1, x_iRng2, x_bor, x_tBor, x_put1, List.map_cons, List.map_nil, List.cons_append, List.nil_append, List.length_cons, List.length_nil, Nat.zero_add, Nat.reduceAdd, Nat.reduceSub, List.reduceReplicate, start,
    List.getElem?_cons_zero, List.getElem?_cons_succ, List.set_cons_zero, List.set_cons_succ, bnd_ret, bnd_assoc, bnd_grd, b1_if, bnd_ite, small, Nat.reduceLeDiff, grd_true, o_add, o_sub, o_neg, o_eq, o_ne, o_lt, o_le, o_gt, o_ge, o_eqS, o_neS,
    decide_eq_true_eq, reduceIte, decide_true, decide_false, Bool.not_true, Bool.not_false, Bool.false_eq_true, itemsOf, asInt, endOf, isTy,
    grd_tt, nx_int, nx_bool, nx_str, nx_none, nx_tup, nx_lst, x_isC, x_fld, x_in, x_count, x_lstR, x_tupR, x_raise, x_star, bnd_thr, noX_ret, fld_x, exn_d, eSetO, Out.clear, List.zip_cons_cons, List.zip_nil_left, List.zip_nil_right, s_asg, s_par, s_own, s_parO, s_put, s_expr, s_ret, s_skip, s_seq, s_rel, x_asg, x_par, x_own, x_parO, x_put, x_expr, x_ret, x_retN, x_skip, x_rel, x_app, x_setI, x_sIf, x_for, x_brk, x_cnt, b_lenT, b_lenL, b_tupL, b_tupT, b_max2, b_min2, o_addL, o_addT, cut_ints, sum_ints, s_chk, s_for, s_brk, s_cnt, s_retN, t_bool, g_rng, g_le, List.length_map]
    rw [check_length_d hl]
    by_cases g : intIn 1 60 l = true
    · rw [if_pos g, if_pos g]
      obtain ⟨i, rfl, i0, i1⟩ := intIn_of h
      obtain ⟨x, rfl, x0, x1⟩ := intIn_of g
      simp only [x_var, x_con, x_bin, x_neg, x_cmp, x_chain, x_tTru, x_tNot, x_tAnd, x_tOr, x_tBool, x_tYes, x_not, x_and, x_or, x_if, x_b1, x_b2, x_is, x_idx, x_oNone, x_oSome, x_cut, x_aNil, x_aCons, x_tup, x_lst, x_call, x_callS,
    x_iSeq, x_iRng1, x_iRng2, x_bor, x_tBor, x_put1, List.map_cons, List.map_nil, List.cons_append, List.nil_append, List.length_cons, List.length_nil, Nat.zero_add, Nat.reduceAdd, Nat.reduceSub, List.reduceReplicate, start,
    List.getElem?_cons_zero, List.getElem?_cons_succ, List.set_cons_zero, List.set_cons_succ, bnd_ret, bnd_assoc, bnd_grd, b1_if, bnd_ite, small, Nat.reduceLeDiff, grd_true, o_add, o_sub, o_neg, o_eq, o_ne, o_lt, o_le, o_gt, o_ge, o_eqS, o_neS,
    decide_eq_true_eq, reduceIte, decide_true, decide_false, Bool.not_true, Bool.not_false, Bool.false_eq_true, itemsOf, asInt, endOf, isTy,
    grd_tt, nx_int, nx_bool, nx_str, nx_none, nx_tup, nx_lst, x_isC, x_fld, x_in, x_count, x_lstR, x_tupR, x_raise, x_star, bnd_thr, noX_ret, fld_x, exn_d, eSetO, Out.clear, List.zip_cons_cons, List.zip_nil_left, List.zip_nil_right, s_asg, s_par, s_own, s_parO, s_put, s_expr, s_ret, s_skip, s_seq, s_rel, x_asg, x_par, x_own, x_parO, x_put, x_expr, x_ret, x_retN, x_skip, x_rel, x_app, x_setI, x_sIf, x_for, x_brk, x_cnt, b_lenT, b_lenL, b_tupL, b_tupT, b_max2, b_min2, o_addL, o_addT, cut_ints, sum_ints, s_chk, s_for, s_brk, s_cnt, s_retN, t_bool, g_rng, g_le, List.length_map]
      rw [cut_uptoI i0, cut_fromI (by omega) (by omega)]
      simp only [x_var, x_con, x_bin, x_neg, x_cmp, x_chain, x_tTru, x_tNot, x_tAnd, x_tOr, x_tBool, x_tYes, x_not, x_and, x_or, x_if, x_b1, x_b2, x_is, x_idx, x_oNone, x_oSome, x_cut, x_aNil, x_aCons, x_tup, x_lst, x_call, x_callS,
    x_iSeq, x_iRng1, x_iRng2, x_bor, x_tBor, x_put1, List.map_cons, List.map_nil, List.cons_append, List.nil_append, List.length_cons, List.length_nil, Nat.zero_add, Nat.reduceAdd, Nat.reduceSub, List.reduceReplicate, start,
    List.getElem?_cons_zero, List.getElem?_cons_succ, List.set_cons_zero, List.set_cons_succ, bnd_ret, bnd_assoc, bnd_grd, b1_if, bnd_ite, small, Nat.reduceLeDiff, grd_true, o_add, o_sub, o_neg, o_eq, o_ne, o_lt, o_le, o_gt, o_ge, o_eqS, o_neS,
    decide_eq_true_eq, reduceIte, decide_true, decide_false, Bool.not_true, Bool.not_false, Bool.false_eq_true, itemsOf, asInt, endOf, isTy,
    grd_tt, nx_int, nx_bool, nx_str, nx_none, nx_tup, nx_lst, x_isC, x_fld, x_in, x_count, x_lstR, x_tupR, x_raise, x_star, bnd_thr, noX_ret, fld_x, exn_d, eSetO, Out.clear, List.zip_cons_cons, List.zip_nil_left, List.zip_nil_right, s_asg, s_par, s_own, s_parO, s_put, s_expr, s_ret, s_skip, s_seq, s_rel, x_asg, x_par, x_own, x_parO, x_put, x_expr, x_ret, x_retN, x_skip, x_rel, x_app, x_setI, x_sIf, x_for, x_brk, x_cnt, b_lenT, b_lenL, b_tupL, b_tupT, b_max2, b_min2, o_addL, o_addT, cut_ints, sum_ints, s_chk, s_for, s_brk, s_cnt, s_retN, t_bool, g_rng, g_le, List.length_map]
      rw [grd_pos (by simp; omega)]
      rw [show setI ns (.int i) (.int x) = ns.set i.toNat x from rfl, List.set_eq_take_append_cons_drop, if_pos (by omega), List.map_append, List.map_cons, show (i + 1).toNat = i.toNat + 1 by omega]
      simp
    · rw [if_neg g, if_neg g]
      rfl
  · rw [if_neg h, if_neg h]
    rfl
end DL
end
section
namespace DL
open PySem
def takI (ns : List Int) : D → List Int
  | .int i => ns.take i.toNat ++ ns.drop (i.toNat + 1)
  | _ => []
theorem taken_out_0 {ns : List Int} {p : D} (h2 : ns.length ≤ 900) (hp : noXn p = true) : w_taken_out_0 [.tuple (ns.map PyData.int), p] =
    if intIn 0 (ns.length - 1) p = true then (if ns.length = 1 then thr ⟨"LastWord", []⟩ else ret (.tuple ((takI ns p).map PyData.int))) else thr (xV "NoPlace" p) := by
  unfold w_taken_out_0
  refine (f_fn (by rfl)).trans ?_
  simp only [x_var, x_con, x_bin, x_neg, x_cmp, x_chain, x_tTru, x_tNot, x_tAnd, x_tOr, x_tBool, x_tYes, x_not, x_and, x_or, x_if, x_b1, x_b2, x_is, x_idx, x_oNone, x_oSome, x_cut, x_aNil, x_aCons, x_tup, x_lst, x_call, x_callS,
    x_iSeq, x_iRng1, x_iRng2, x_bor, x_tBor, x_put1, List.map_cons, List.map_nil, List.cons_append, List.nil_append, List.length_cons, List.length_nil, Nat.zero_add, Nat.reduceAdd, Nat.reduceSub, List.reduceReplicate, start,
    List.getElem?_cons_zero, List.getElem?_cons_succ, List.set_cons_zero, List.set_cons_succ, bnd_ret, bnd_assoc, bnd_grd, b1_if, bnd_ite, small, Nat.reduceLeDiff, grd_true, o_add, o_sub, o_neg, o_eq, o_ne, o_lt, o_le, o_gt, o_ge, o_eqS, o_neS,
    decide_eq_true_eq, reduceIte, decide_true, decide_false, Bool.not_true, Bool.not_false, Bool.false_eq_true, itemsOf, asInt, endOf, isTy,
    grd_tt, nx_int, nx_bool, nx_str, nx_none, nx_tup, nx_lst, x_isC, x_fld, x_in, x_count, x_lstR, x_tupR, x_raise, x_star, bnd_thr, noX_ret, fld_x, exn_d, eSetO, Out.clear, List.zip_cons_cons, List.zip_nil_left, List.zip_nil_right, s_asg, s_par, s_own, s_parO, s_put, s_expr, s_ret, s_skip, s_seq, s_rel, x_asg, x_par, x_own, x_parO, x_put, x_expr, x_ret, x_retN, x_skip, x_rel, x_app, x_setI, x_sIf, x_for, x_brk, x_cnt, b_lenT, b_lenL, b_tupL, b_tupT, b_max2, b_min2, o_addL, o_addT, cut_ints, sum_ints, s_chk, s_for, s_brk, s_cnt, s_retN, t_bool, g_rng, g_le, List.length_map]
  rw [check_place_d hp]
  by_cases h : intIn 0 (ns.length - 1) p = true
  · rw [if_pos h, if_pos h]
    obtain ⟨i, rfl, i0, i1⟩ := intIn_of h
    simp only [x_var, x_con, x_bin, x_neg, x_cmp, x_chain, x_tTru, x_tNot, x_tAnd, x_tOr, x_tBool, x_tYes, x_not, x_and, x_or, x_if, x_b1, x_b2, x_is, x_idx, x_oNone, x_oSome, x_cut, x_aNil, x_aCons, x_tup, x_lst, x_call, x_callS,
    x_iSeq, x_iRng1, x_iRng2, x_bor, x_tBor, x_put1, List.map_cons, List.map_nil, List.cons_append, List.nil_append, List.length_cons, List.length_nil, Nat.zero_add, Nat.reduceAdd, Nat.reduceSub, List.reduceReplicate, start,
    List.getElem?_cons_zero, List.getElem?_cons_succ, List.set_cons_zero, List.set_cons_succ, bnd_ret, bnd_assoc, bnd_grd, b1_if, bnd_ite, small, Nat.reduceLeDiff, grd_true, o_add, o_sub, o_neg, o_eq, o_ne, o_lt, o_le, o_gt, o_ge, o_eqS, o_neS,
    decide_eq_true_eq, reduceIte, decide_true, decide_false, Bool.not_true, Bool.not_false, Bool.false_eq_true, itemsOf, asInt, endOf, isTy,
    grd_tt, nx_int, nx_bool, nx_str, nx_none, nx_tup, nx_lst, x_isC, x_fld, x_in, x_count, x_lstR, x_tupR, x_raise, x_star, bnd_thr, noX_ret, fld_x, exn_d, eSetO, Out.clear, List.zip_cons_cons, List.zip_nil_left, List.zip_nil_right, s_asg, s_par, s_own, s_parO, s_put, s_expr, s_ret, s_skip, s_seq, s_rel, x_asg, x_par, x_own, x_parO, x_put, x_expr, x_ret, x_retN, x_skip, x_rel, x_app, x_setI, x_sIf, x_for, x_brk, x_cnt, b_lenT, b_lenL, b_tupL, b_tupT, b_max2, b_min2, o_addL, o_addT, cut_ints, sum_ints, s_chk, s_for, s_brk, s_cnt, s_retN, t_bool, g_rng, g_le, List.length_map, s_if]
    by_cases h1 : ns.length = 1
    · rw [if_pos (by omega), if_pos h1]
      rfl
    · rw [if_neg (by omega), if_neg h1]
      rw [cut_uptoI i0, cut_fromI (by omega) (by omega)]
      simp only [x_var, x_con, x_bin, x_neg, x_cmp, x_chain, x_tTru, x_tNot, x_tAnd, x_tOr, x_tBool, x_tYes, x_not, x_and, x_or, x_if, x_b1, x_b2, x_is, x_idx, x_oNone, x_oSome, x_cut, x_aNil, x_aCons, x_tup, x_lst, x_call, x_callS,
    x_iSeq, x_iRng1, x_iRng2, x_bor, x_tBor, x_put1, List.map_cons, List.map_nil, List.cons_append, List.nil_append, List.length_cons, List.length_nil, Nat.zero_add, Nat.reduceAdd, Nat.reduceSub, List.reduceReplicate, start,
    List.getElem?_cons_zero, List.getElem?_cons_succ, List.set_cons_zero, List.set_cons_succ, bnd_ret, bnd_assoc, bnd_grd, b1_if, bnd_ite, small, Nat.reduceLeDiff, grd_true, o_add, o_sub, o_neg, o_eq, o_ne, o_lt, o_le, o_gt, o_ge, o_eqS, o_neS,
    decide_eq_true_eq, reduceIte, decide_true, decide_false, Bool.not_true, Bool.not_false, Bool.false_eq_true, itemsOf, asInt, endOf, isTy,
    grd_tt, nx_int, nx_bool, nx_str, nx_none, nx_tup, nx_lst, x_isC, x_fld, x_in, x_count, x_lstR, x_tupR, x_raise, x_star, bnd_thr, noX_ret, fld_x, exn_d, eSetO, Out.clear, List.zip_cons_cons, List.zip_nil_left, List.zip_nil_right, s_asg, s_par, s_own, s_parO, s_put, s_expr, s_ret, s_skip, s_seq, s_rel, x_asg, x_par, x_own, x_parO, x_put, x_expr, x_ret, x_retN, x_skip, x_rel, x_app, x_setI, x_sIf, x_for, x_brk, x_cnt, b_lenT, b_lenL, b_tupL, b_tupT, b_max2, b_min2, o_addL, o_addT, cut_ints, sum_ints, s_chk, s_for, s_brk, s_cnt, s_retN, t_bool, g_rng, g_le, List.length_map]
      rw [grd_pos (by simp; omega), ← List.map_append, show (i + 1).toNat = i.toNat + 1 by omega]
      rfl
  · rw [if_neg h, if_neg h]
    rfl
end DL
end
section
namespace DL
open PySem
end DL
end
section
namespace DL
open PySem
end DL
end
section
namespace DL
open PySem
def insI (ns : List Int) : D → D → List Int
  | .int i, .int x => ns.take i.toNat ++ x :: ns.drop i.toNat
  | _, _ => []
theorem put_in_0 {ns : List Int} {p l : D} (h2 : ns.length ≤ 24) (hp : noXn p = true) (hl : noXn l = true) : w_put_in_0 [.tuple (ns.map PyData.int), p, l] =
    if intIn 0 ns.length p = true then (if intIn 1 60 l = true then (if ns.length = 24 then thr ⟨"TooMany", [("limit", .int 24)]⟩ else ret (.tuple ((insI ns p l).map PyData.int))) else thr (xV "BadLength" l)) else thr (xV "NoPlace" p) := by
  unfold w_put_in_0
  refine (f_fn (by rfl)).trans ?_
  try simp only [x_var, x_con, x_bin, x_neg, x_cmp, x_chain, x_tTru, x_tNot, x_tAnd, x_tOr, x_tBool, x_tYes, x_not, x_and, x_or, x_if, x_b1, x_b2, x_is, x_idx, x_oNone, x_oSome, x_cut, x_aNil, x_aCons, x_tup, x_lst, x_call, x_callS,
    x_iSeq, x_iRng1, x_iRng2, x_bor, x_tBor, x_put1, List.map_cons, List.map_nil, List.cons_append, List.nil_append, List.length_cons, List.length_nil, Nat.zero_add, Nat.reduceAdd, Nat.reduceSub, List.reduceReplicate, start,
    List.getElem?_cons_zero, List.getElem?_cons_succ, List.set_cons_zero, List.set_cons_succ, bnd_ret, bnd_assoc, bnd_grd, b1_if, bnd_ite, small, Nat.reduceLeDiff, grd_true, o_add, o_sub, o_neg, o_eq, o_ne, o_lt, o_le, o_gt, o_ge, o_eqS, o_neS,
    decide_eq_true_eq, reduceIte, decide_true, decide_false, Bool.not_true, Bool.not_false, Bool.false_eq_true, itemsOf, asInt, endOf, isTy,
    grd_tt, nx_int, nx_bool, nx_str, nx_none, nx_tup, nx_lst, x_isC, x_fld, x_in, x_count, x_lstR, x_tupR, x_raise, x_star, bnd_thr, noX_ret, fld_x, exn_d, eSetO, Out.clear, List.zip_cons_cons, List.zip_nil_left, List.zip_nil_right, s_asg, s_par, s_own, s_parO, s_put, s_expr, s_ret, s_skip, s_seq, s_rel, x_asg, x_par, x_own, x_parO, x_put, x_expr, x_ret, x_retN, x_skip, x_rel, x_app, x_setI, x_sIf, x_for, x_brk, x_cnt, b_lenT, b_lenL, b_tupL, b_tupT, b_max2, b_min2, o_addL, o_addT, cut_ints, sum_ints, s_chk, s_for, s_brk, s_cnt, s_retN, t_bool, g_rng, g_le, List.length_map, s_if, is_integer_d hp]
  cases h : intIn 0 ns.length p with
  | false => rfl
  | true =>
    try simp only [x_var, x_con, x_bin, x_neg, x_cmp, x_chain, x_tTru, x_tNot, x_tAnd, x_tOr, x_tBool, x_tYes, x_not, x_and, x_or, x_if, x_b1, x_b2, x_is, x_idx, x_oNone, x_oSome, x_cut, x_aNil, x_aCons, x_tup, x_lst, x_call, x_callS,
    x_iSeq, x_iRng1, x_iRng2, x_bor, x_tBor, x_put1, List.map_cons, List.map_nil, List.cons_append, List.nil_append, List.length_cons, List.length_nil, Nat.zero_add, Nat.reduceAdd, Nat.reduceSub, List.reduceReplicate, start,
    List.getElem?_cons_zero, List.getElem?_cons_succ, List.set_cons_zero, List.set_cons_succ, bnd_ret, bnd_assoc, bnd_grd, b1_if, bnd_ite, small, Nat.reduceLeDiff, grd_true, o_add, o_sub, o_neg, o_eq, o_ne, o_lt, o_le, o_gt, o_ge, o_eqS, o_neS,
    decide_eq_true_eq, reduceIte, decide_true, decide_false, Bool.not_true, Bool.not_false, Bool.false_eq_true, itemsOf, asInt, endOf, isTy,
    grd_tt, nx_int, nx_bool, nx_str, nx_none, nx_tup, nx_lst, x_isC, x_fld, x_in, x_count, x_lstR, x_tupR, x_raise, x_star, bnd_thr, noX_ret, fld_x, exn_d, eSetO, Out.clear, List.zip_cons_cons, List.zip_nil_left, List.zip_nil_right, s_asg, s_par, s_own, s_parO, s_put, s_expr, s_ret, s_skip, s_seq, s_rel, x_asg, x_par, x_own, x_parO, x_put, x_expr, x_ret, x_retN, x_skip, x_rel, x_app, x_setI, x_sIf, x_for, x_brk, x_cnt, b_lenT, b_lenL, b_tupL, b_tupT, b_max2, b_min2, o_addL, o_addT, cut_ints, sum_ints, s_chk, s_for, s_brk, s_cnt, s_retN, t_bool, g_rng, g_le, List.length_map]
    rw [check_length_d hl]
    by_cases g : intIn 1 60 l = true
    · rw [if_pos g, if_pos g]
      obtain ⟨i, rfl, i0, i1⟩ := intIn_of h
      obtain ⟨x, rfl, x0, x1⟩ := intIn_of g
      try simp only [x_var, x_con, x_bin, x_neg, x_cmp, x_chain, x_tTru, x_tNot, x_tAnd, x_tOr, x_tBool, x_tYes, x_not, x_and, x_or, x_if, x_b1, x_b2, x_is, x_idx, x_oNone, x_oSome, x_cut, x_aNil, x_aCons, x_tup, x_lst, x_call, x_callS,
    x_iSeq, x_iRng1, x_iRng2, x_bor, x_tBor, x_put1, List.map_cons, List.map_nil, List.cons_append, List.nil_append, List.length_cons, List.length_nil, Nat.zero_add, Nat.reduceAdd, Nat.reduceSub, List.reduceReplicate, start,
    List.getElem?_cons_zero, List.getElem?_cons_succ, List.set_cons_zero, List.set_cons_succ, bnd_ret, bnd_assoc, bnd_grd, b1_if, bnd_ite, small, Nat.reduceLeDiff, grd_true, o_add, o_sub, o_neg, o_eq, o_ne, o_lt, o_le, o_gt, o_ge, o_eqS, o_neS,
    decide_eq_true_eq, reduceIte, decide_true, decide_false, Bool.not_true, Bool.not_false, Bool.false_eq_true, itemsOf, asInt, endOf, isTy,
    grd_tt, nx_int, nx_bool, nx_str, nx_none, nx_tup, nx_lst, x_isC, x_fld, x_in, x_count, x_lstR, x_tupR, x_raise, x_star, bnd_thr, noX_ret, fld_x, exn_d, eSetO, Out.clear, List.zip_cons_cons, List.zip_nil_left, List.zip_nil_right, s_asg, s_par, s_own, s_parO, s_put, s_expr, s_ret, s_skip, s_seq, s_rel, x_asg, x_par, x_own, x_parO, x_put, x_expr, x_ret, x_retN, x_skip, x_rel, x_app, x_setI, x_sIf, x_for, x_brk, x_cnt, b_lenT, b_lenL, b_tupL, b_tupT, b_max2, b_min2, o_addL, o_addT, cut_ints, sum_ints, s_chk, s_for, s_brk, s_cnt, s_retN, t_bool, g_rng, g_le, List.length_map, s_if]
      by_cases h1 : ns.length = 24
      · rw [if_pos (by omega), if_pos h1]
        rfl
      · rw [if_neg (by omega), if_neg h1]
        rw [cut_uptoI i0, cut_fromI (by omega) (by omega)]
        try simp only [x_var, x_con, x_bin, x_neg, x_cmp, x_chain, x_tTru, x_tNot, x_tAnd, x_tOr, x_tBool, x_tYes, x_not, x_and, x_or, x_if, x_b1, x_b2, x_is, x_idx, x_oNone, x_oSome, x_cut, x_aNil, x_aCons, x_tup, x_lst, x_call, x_callS,
    x_iSeq, x_iRng1, x_iRng2, x_bor, x_tBor, x_put1, List.map_cons, List.map_nil, List.cons_append, List.nil_append, List.length_cons, List.length_nil, Nat.zero_add, Nat.reduceAdd, Nat.reduceSub, List.reduceReplicate, start,
    List.getElem?_cons_zero, List.getElem?_cons_succ, List.set_cons_zero, List.set_cons_succ, bnd_ret, bnd_assoc, bnd_grd, b1_if, bnd_ite, small, Nat.reduceLeDiff, grd_true, o_add, o_sub, o_neg, o_eq, o_ne, o_lt, o_le, o_gt, o_ge, o_eqS, o_neS,
    decide_eq_true_eq, reduceIte, decide_true, decide_false, Bool.not_true, Bool.not_false, Bool.false_eq_true, itemsOf, asInt, endOf, isTy,
    grd_tt, nx_int, nx_bool, nx_str, nx_none, nx_tup, nx_lst, x_isC, x_fld, x_in, x_count, x_lstR, x_tupR, x_raise, x_star, bnd_thr, noX_ret, fld_x, exn_d, eSetO, Out.clear, List.zip_cons_cons, List.zip_nil_left, List.zip_nil_right, s_asg, s_par, s_own, s_parO, s_put, s_expr, s_ret, s_skip, s_seq, s_rel, x_asg, x_par, x_own, x_parO, x_put, x_expr, x_ret, x_retN, x_skip, x_rel, x_app, x_setI, x_sIf, x_for, x_brk, x_cnt, b_lenT, b_lenL, b_tupL, b_tupT, b_max2, b_min2, o_addL, o_addT, cut_ints, sum_ints, s_chk, s_for, s_brk, s_cnt, s_retN, t_bool, g_rng, g_le, List.length_map]
        rw [grd_pos (by simp; omega)]
        rw [show insI ns (.int i) (.int x) = ns.take i.toNat ++ x :: ns.drop i.toNat from rfl, List.map_append, List.map_cons]
        simp
    · rw [if_neg g, if_neg g]
      rfl
end DL
end
section
namespace DL
open PySem
theorem scan_last {β : Type} [DecidableEq β] (S : Int → β) (m : Int) : ∀ k : Nat, 1 ≤ k → ∃ P lo, scanA S m k = P ++ [(lo, S lo)] ∧ m ≤ lo ∧ lo ≤ m + k - 1 ∧ (∀ v, lo ≤ v → v ≤ m + k - 1 → S v = S lo) ∧ (lo = m ∨ S (lo - 1) ≠ S lo)
  | 0, h => by omega
  | 1, _ => by
    refine ⟨[], m, ?_, Int.le_refl _, by omega, fun v a b => by rw [show v = m by omega], .inl rfl⟩
    show push [] (m + (0 : Nat), S (m + (0 : Nat))) = _
    rw [show m + ((0 : Nat) : Int) = m by omega]
    rfl
  | k + 2, _ => by
    obtain ⟨P, lo, e1, e2, e3, e4, e5⟩ := scan_last S m (k + 1) (by omega)
    have step : scanA S m (k + 2) = push (P ++ [(lo, S lo)]) (m + (k + 1 : Nat), S (m + (k + 1 : Nat))) := by rw [← e1]; rfl
    rw [step, push_snoc]
    by_cases h : S lo = S (m + (k + 1 : Nat))
    · rw [if_pos h]
      refine ⟨P, lo, rfl, e2, by omega, fun v a b => ?_, e5⟩
      by_cases hv : v ≤ m + (k + 1 : Nat) - 1
      · exact e4 v a hv
      · rw [show v = m + (k + 1 : Nat) by omega, h]
    · rw [if_neg h]
      refine ⟨P ++ [(lo, S lo)], m + (k + 1 : Nat), rfl, by omega, by omega, fun v a b => by rw [show v = m + (k + 1 : Nat) by omega], .inr fun z => h ?_⟩
      rw [← z, e4 (m + (k + 1 : Nat) - 1) (by omega) (by omega)]
/-- what a scan finds after the width a -/
inductive More {β : Type} (S : Int → β) (a : Int) (i : Nat) : List (Int × β) → Prop
  | nil : (∀ v, a ≤ v → v ≤ a + i → S v = S a) → More S a i []
  | cons {q : Int × β} {r : List (Int × β)} : a < q.1 → S q.1 ≠ S a → (∀ v, a ≤ v → v < q.1 → S v = S a) → (∀ p ∈ r, a < p.1) → More S a i (q :: r)
theorem scan_more {β : Type} [DecidableEq β] (S : Int → β) (m : Int) {k : Nat} (hk : 1 ≤ k) : ∀ i : Nat, ∃ R, scanA S m (k + i) = scanA S m k ++ R ∧ More S (m + k - 1) i R
  | 0 => ⟨[], by simp, .nil fun v a b => by rw [show v = m + k - 1 by omega]⟩
  | i + 1 => by
    obtain ⟨R, e, h⟩ := scan_more S m hk i
    obtain ⟨P, lo, e1, e2, e3, e4, e5⟩ := scan_last S m (k + i) (by omega)
    have step : scanA S m (k + (i + 1)) = push (scanA S m (k + i)) (m + (k + i : Nat), S (m + (k + i : Nat))) := rfl
    have hlast : S (m + k - 1 + i) = S lo := e4 _ (by omega) (by omega)
    have hp : push (scanA S m (k + i)) (m + (k + i : Nat), S (m + (k + i : Nat))) = if S lo = S (m + (k + i : Nat)) then scanA S m (k + i) else scanA S m (k + i) ++ [(m + (k + i : Nat), S (m + (k + i : Nat)))] := by
      rw [e1, push_snoc]
    rw [step, hp, e]
    by_cases c : S lo = S (m + (k + i : Nat))
    · rw [if_pos c]
      refine ⟨R, rfl, ?_⟩
      cases h with
      | nil g =>
        refine .nil fun v a b => ?_
        by_cases hv : v ≤ m + k - 1 + i
        · exact g v a hv
        · rw [show v = m + (k + i : Nat) by omega, ← c, ← hlast]
          exact g _ (by omega) (by omega)
      | cons g1 g2 g3 g4 => exact .cons g1 g2 g3 g4
    · rw [if_neg c]
      refine ⟨R ++ [(m + (k + i : Nat), S (m + (k + i : Nat)))], by rw [List.append_assoc], ?_⟩
      cases h with
      | nil g =>
        refine .cons (by show m + (k : Int) - 1 < m + (k + i : Nat); omega) (fun z => c ?_) (fun v a b => g v a (by have : v < m + (k + i : Nat) := b; omega)) fun p hp => by cases hp
        rw [← hlast, g _ (by omega) (by omega)]
        exact z.symm
      | cons g1 g2 g3 g4 =>
        refine .cons g1 g2 g3 fun p hp => ?_
        rcases List.mem_append.mp hp with hp | hp
        · exact g4 p hp
        · rw [List.mem_singleton] at hp
          rw [hp]
          show m + (k : Int) - 1 < m + (k + i : Nat)
          omega
theorem bookN_any {ns : List Int} {m : Int} (h1 : 0 < ns.length) (hn : ∀ x ∈ ns, 0 ≤ x) (hm : m ≤ ns.sum) {n : Nat} (h : (ns.sum + ns.length + 2 - m).toNat ≤ n) : bookN ns m = scanA (starts ns) m n := by
  have a := book_all (ns := ns) (m := m) (B := ns.sum + ns.length - 1) (F := (ns.sum + ns.length - m).toNat) (n := (ns.sum + ns.length + 2 - m).toNat) h1 hn (Int.le_refl _) (by omega) (by omega) (by omega) (by omega)
  have b := book_all (ns := ns) (m := m) (B := ns.sum + ns.length - 1) (F := (ns.sum + ns.length - m).toNat) (n := n) h1 hn (Int.le_refl _) (by omega) (by omega) (by omega) (by omega)
  unfold bookN
  rw [a, b]
theorem one_stays {ns : List Int} {w v : Int} (h1 : 0 < ns.length) (h : (starts ns w).length ≤ 1) (hv : w ≤ v) : starts ns v = starts ns w := by
  have c := starts_chain w h1
  unfold starts at c h ⊢
  have hr : restF ns w ns.length (nx ns w 0) = [] := by
    cases e : restF ns w ns.length (nx ns w 0) with
    | nil => rfl
    | cons _ _ => rw [e] at h; simp at h
  rw [hr] at c ⊢
  exact starts_unique (chain_keep hv c fun e he => by cases he)
/-- the span of the width w: its book's entry, the next one -/
structure Span (ns : List Int) (m w : Int) (P : List (Int × List Nat)) (lo : Int) (R : List (Int × List Nat)) : Prop where
  book : bookN ns m = P ++ (lo, starts ns lo) :: R
  low : m ≤ lo
  le : lo ≤ w
  same : ∀ v, lo ≤ v → v ≤ w → starts ns v = starts ns lo
  least : lo = m ∨ starts ns (lo - 1) ≠ starts ns lo
  before : ∀ p ∈ P, p.1 ≤ w
  after : match R with
    | [] => (starts ns w).length = 1
    | q :: r => w < q.1 ∧ 1 < (starts ns w).length ∧ starts ns q.1 ≠ starts ns w ∧ (∀ v, w ≤ v → v < q.1 → starts ns v = starts ns w) ∧ ∀ p ∈ r, w < p.1
theorem Span.ex {ns : List Int} {m w : Int} (h1 : 0 < ns.length) (hn : ∀ x ∈ ns, 0 ≤ x) (hm : m ≤ ns.sum) (hw : m ≤ w) : ∃ P lo R, Span ns m w P lo R := by
  have hk : 1 ≤ (w - m + 1).toNat := by omega
  have ek : m + ((w - m + 1).toNat : Int) - 1 = w := by omega
  obtain ⟨P, lo, e1, e2, e3, e4, e5⟩ := scan_last (starts ns) m (w - m + 1).toNat hk
  obtain ⟨R, e6, hR⟩ := scan_more (starts ns) m hk (ns.sum + ns.length + 2 - m).toNat
  rw [ek] at e3 e4 hR
  have bk := bookN_any h1 hn hm (n := (w - m + 1).toNat + (ns.sum + ns.length + 2 - m).toNat) (by omega)
  refine ⟨P, lo, R, by rw [bk, e6, e1]; simp, e2, e3, e4, e5, fun p hp => ?_, ?_⟩
  · have hp2 : p ∈ scanA (starts ns) m (w - m + 1).toNat := by rw [e1]; exact List.mem_append_left _ hp
    have := (scanA_mem hp2).2.2
    omega
  · have pos : 1 ≤ (starts ns w).length := by unfold starts; simp
    cases hR with
    | nil g =>
      have z := g (w + (ns.sum + ns.length + 2 - m).toNat) (by omega) (Int.le_refl _)
      rw [starts_one h1 hn (by omega)] at z
      show (starts ns w).length = 1
      rw [← z]
      rfl
    | @cons q r g1 g2 g3 g4 =>
      refine ⟨g1, ?_, g2, g3, g4⟩
      by_cases h : (starts ns w).length ≤ 1
      · exact absurd (one_stays h1 h (Int.le_of_lt g1)) g2
      · omega
end DL
end
section
namespace DL
open PySem
end DL
end
section
namespace DL
open PySem
/-- a row of one word at least, of 24 at most -/
structure RowN (ms : List Int) : Prop where
  one : 1 ≤ ms.length
  most : ms.length ≤ 24
  words : ∀ x ∈ ms, 1 ≤ x ∧ x ≤ 60
end DL
end
section
namespace DL
open PySem
end DL
end
section
namespace DL
open PySem
def asc (x : Str) : Bool := x.cps.toList.all fun c => decide (c < 128)
mutual
/-- leaves: short ints, plain texts; dicts of one entry at most -/
def lf (u : Nat) : D → Bool
  | .none => true
  | .bool _ => true
  | .int i => decide (i.natAbs ≤ 10 ^ 39 + u)
  | .str x => asc x
  | .tuple xs => lfAll u xs
  | .list xs => lfAll u xs
  | .dict [] => true
  | .dict [(.str a, d)] => asc a && lf u d
  | .dict _ => false
def lfAll (u : Nat) : List D → Bool
  | [] => true
  | x :: xs => lf u x && lfAll u xs
end
theorem asc_short {x : Str} (h : asc x = true) : (x.cps.toList.all fun c => decide (c < 16 ^ 8)) = true := by
  unfold asc at h
  simp only [List.all_eq_true, decide_eq_true_eq] at h ⊢
  intro c hc
  have := h c hc
  omega
theorem lf_int {u : Nat} {i : Int} (h : lf u (.int i) = true) (hu : u ≤ 1000) : i.natAbs < 10 ^ 45 := by
  unfold lf at h
  have := of_decide_eq_true h
  omega
mutual
theorem lf_plain {u : Nat} : ∀ {d : D}, lf u d = true → plain d = true
  | .none, _ => rfl
  | .bool _, _ => rfl
  | .int _, _ => rfl
  | .str _, _ => rfl
  | .tuple xs, h => by unfold lf at h; unfold plain; exact lf_plainA h
  | .list xs, h => by unfold lf at h; unfold plain; exact lf_plainA h
  | .dict [], _ => rfl
  | .dict [(.str a, d)], h => by
    unfold lf at h
    rw [Bool.and_eq_true] at h
    unfold plain
    exact lf_plain h.2
  | .dict ((.none, _) :: _), h => by simp [lf] at h
  | .dict ((.bool _, _) :: _), h => by simp [lf] at h
  | .dict ((.int _, _) :: _), h => by simp [lf] at h
  | .dict ((.list _, _) :: _), h => by simp [lf] at h
  | .dict ((.tuple _, _) :: _), h => by simp [lf] at h
  | .dict ((.dict _, _) :: _), h => by simp [lf] at h
  | .dict ((.str _, _) :: _ :: _), h => by simp [lf] at h
theorem lf_plainA {u : Nat} : ∀ {ds : List D}, lfAll u ds = true → plainAll ds = true
  | [], _ => rfl
  | x :: xs, h => by
    unfold lfAll at h
    rw [Bool.and_eq_true] at h
    unfold plainAll
    rw [lf_plain h.1, lf_plainA h.2]
    rfl
end
mutual
theorem lf_short {u : Nat} (hu : u ≤ 1000) : ∀ {d : D}, lf u d = true → PyData.leavesShort 48 d = true ∧ PyData.showable d = true
  | .none, _ => ⟨rfl, rfl⟩
  | .bool _, _ => ⟨rfl, rfl⟩
  | .int i, h => ⟨(tame_int (lf_int h hu)).short, (tame_int (lf_int h hu)).able⟩
  | .str x, h => by
    unfold lf at h
    have := tame_str (x := x) (n := x.cps.size) (asc_short h) (Nat.le_refl _)
    exact ⟨this.short, this.able⟩
  | .tuple xs, h => by
    unfold lf at h
    unfold PyData.leavesShort PyData.showable
    exact lf_shortA hu h
  | .list xs, h => by
    unfold lf at h
    unfold PyData.leavesShort PyData.showable
    exact lf_shortA hu h
  | .dict [], _ => ⟨rfl, rfl⟩
  | .dict [(.str a, d)], h => by
    unfold lf at h
    rw [Bool.and_eq_true] at h
    have h1 := tame_str (x := a) (n := a.cps.size) (asc_short h.1) (Nat.le_refl _)
    have h2 := lf_short hu h.2
    constructor
    · simp only [PyData.leavesShort, PyData.leavesShortKv, h2.1, Bool.and_true]
      exact asc_short h.1
    · simp only [PyData.showable, PyData.showableKv, h2.2, Bool.and_true]
  | .dict ((.none, _) :: _), h => by simp [lf] at h
  | .dict ((.bool _, _) :: _), h => by simp [lf] at h
  | .dict ((.int _, _) :: _), h => by simp [lf] at h
  | .dict ((.list _, _) :: _), h => by simp [lf] at h
  | .dict ((.tuple _, _) :: _), h => by simp [lf] at h
  | .dict ((.dict _, _) :: _), h => by simp [lf] at h
  | .dict ((.str _, _) :: _ :: _), h => by simp [lf] at h
theorem lf_shortA {u : Nat} (hu : u ≤ 1000) : ∀ {ds : List D}, lfAll u ds = true → PyData.leavesShortAll 48 ds = true ∧ PyData.showableAll ds = true
  | [], _ => ⟨rfl, rfl⟩
  | x :: xs, h => by
    unfold lfAll at h
    rw [Bool.and_eq_true] at h
    have h1 := lf_short hu h.1
    have h2 := lf_shortA hu h.2
    unfold PyData.leavesShortAll PyData.showableAll
    rw [h1.1, h1.2, h2.1, h2.2]
    exact ⟨rfl, rfl⟩
end
mutual
theorem lf_mono {u v : Nat} (h : u ≤ v) : ∀ {d : D}, lf u d = true → lf v d = true
  | .none, _ => rfl
  | .bool _, _ => rfl
  | .int i, q => by
    unfold lf at q ⊢
    exact decide_eq_true (Nat.le_trans (of_decide_eq_true q) (by omega))
  | .str x, q => by unfold lf at q ⊢; exact q
  | .tuple xs, q => by unfold lf at q ⊢; exact lf_monoA h q
  | .list xs, q => by unfold lf at q ⊢; exact lf_monoA h q
  | .dict [], _ => rfl
  | .dict [(.str a, d)], q => by
    unfold lf at q ⊢
    rw [Bool.and_eq_true] at q ⊢
    exact ⟨q.1, lf_mono h q.2⟩
  | .dict ((.none, _) :: _), h => by simp [lf] at h
  | .dict ((.bool _, _) :: _), h => by simp [lf] at h
  | .dict ((.int _, _) :: _), h => by simp [lf] at h
  | .dict ((.list _, _) :: _), h => by simp [lf] at h
  | .dict ((.tuple _, _) :: _), h => by simp [lf] at h
  | .dict ((.dict _, _) :: _), h => by simp [lf] at h
  | .dict ((.str _, _) :: _ :: _), h => by simp [lf] at h
theorem lf_monoA {u v : Nat} (h : u ≤ v) : ∀ {ds : List D}, lfAll u ds = true → lfAll v ds = true
  | [], _ => rfl
  | x :: xs, q => by
    unfold lfAll at q ⊢
    rw [Bool.and_eq_true] at q ⊢
    exact ⟨lf_mono h q.1, lf_monoA h q.2⟩
end
/-- small data -/
structure Bd (u n k : Nat) (d : D) : Prop where
  lf : DL.lf u d = true
  bulk : PyData.bulk d ≤ n
  deep : PyData.depth d ≤ k
structure BdA (u n k : Nat) (ds : List D) : Prop where
  lf : lfAll u ds = true
  bulk : PyData.bulkAll ds ≤ n
  deep : PyData.depthAll ds ≤ k
section
variable {u n k u' n' k' m j : Nat} {d : D} {ds es : List D}
theorem Bd.mono (h : Bd u n k d) (a : u ≤ u') (b : n ≤ n') (c : k ≤ k') : Bd u' n' k' d := ⟨lf_mono a h.lf, Nat.le_trans h.bulk b, Nat.le_trans h.deep c⟩
theorem BdA.mono (h : BdA u n k ds) (a : u ≤ u') (b : n ≤ n') (c : k ≤ k') : BdA u' n' k' ds := ⟨lf_monoA a h.lf, Nat.le_trans h.bulk b, Nat.le_trans h.deep c⟩
theorem Bd.tame (h : Bd u n k d) (hu : u ≤ 1000) : Tame n k d := ⟨(lf_short hu h.lf).1, (lf_short hu h.lf).2, h.bulk, h.deep, lf_plain h.lf⟩
theorem Bd.nx (h : Bd u n k d) : noXn d = true := nx_plain (lf_plain h.lf)
theorem bd_int {i : Int} (h : i.natAbs ≤ 10 ^ 39 + u) : Bd u 0 0 (.int i) := ⟨by unfold DL.lf; exact decide_eq_true h, Nat.zero_le _, Nat.zero_le _⟩
theorem bda_nil : BdA u 0 0 [] := ⟨rfl, Nat.zero_le _, Nat.zero_le _⟩
theorem bda_cons (h : Bd u n k d) (t : BdA u m j ds) : BdA u (n + 1 + m) (max k j) (d :: ds) := by
  refine ⟨?_, ?_, ?_⟩
  · unfold lfAll; rw [h.lf, t.lf]; rfl
  · simp only [PyData.bulkAll]; have := h.bulk; have := t.bulk; omega
  · simp only [PyData.depthAll]; have := h.deep; have := t.deep; omega
theorem bd_tup (h : BdA u n k ds) : Bd u n (k + 1) (.tuple ds) := by
  refine ⟨by unfold DL.lf; exact h.lf, by unfold PyData.bulk; exact h.bulk, ?_⟩
  simp only [PyData.depth]; have := h.deep; omega
theorem lfA_app : ∀ (ds es : List D), lfAll u (ds ++ es) = (lfAll u ds && lfAll u es)
  | [], es => by simp [lfAll]
  | d :: ds, es => by simp only [List.cons_append, lfAll, lfA_app ds es, Bool.and_assoc]
theorem bulkA_app : ∀ (ds es : List D), PyData.bulkAll (ds ++ es) = PyData.bulkAll ds + PyData.bulkAll es
  | [], es => by simp [PyData.bulkAll]
  | d :: ds, es => by simp only [List.cons_append, PyData.bulkAll, bulkA_app ds es]; omega
theorem depthA_app : ∀ (ds es : List D), PyData.depthAll (ds ++ es) = max (PyData.depthAll ds) (PyData.depthAll es)
  | [], es => by simp [PyData.depthAll]
  | d :: ds, es => by simp only [List.cons_append, PyData.depthAll, depthA_app ds es]; omega
theorem BdA.parts (h : BdA u n k (ds ++ es)) : BdA u n k ds ∧ BdA u n k es := by
  have h1 := h.lf
  have h2 := h.bulk
  have h3 := h.deep
  rw [lfA_app, Bool.and_eq_true] at h1
  rw [bulkA_app] at h2
  rw [depthA_app] at h3
  exact ⟨⟨h1.1, by omega, by omega⟩, ⟨h1.2, by omega, by omega⟩⟩
theorem BdA.take (h : BdA u n k ds) (i : Nat) : BdA u n k (ds.take i) := by
  rw [← List.take_append_drop i ds] at h
  exact h.parts.1
theorem BdA.drop (h : BdA u n k ds) (i : Nat) : BdA u n k (ds.drop i) := by
  rw [← List.take_append_drop i ds] at h
  exact h.parts.2
theorem BdA.cut (h : BdA u n k ds) (lo hi : Option Int) : BdA u n k (DL.cut ds lo hi) := (h.drop _).take _
theorem BdA.mem (h : BdA u n k ds) {x : D} (hx : x ∈ ds) : Bd u n k x := by
  obtain ⟨a, b, rfl⟩ := List.append_of_mem hx
  have h1 := h.parts.2
  have h2 := h1.lf
  have h3 := h1.bulk
  have h4 := h1.deep
  simp only [lfAll, Bool.and_eq_true] at h2
  simp only [PyData.bulkAll] at h3
  simp only [PyData.depthAll] at h4
  exact ⟨h2.1, by omega, by omega⟩
theorem len_bulk : ∀ ds : List D, ds.length ≤ PyData.bulkAll ds
  | [] => Nat.le_refl _
  | d :: ds => by
    have := len_bulk ds
    simp only [List.length_cons, PyData.bulkAll]
    omega
theorem BdA.len (h : BdA u n k ds) : ds.length ≤ n := Nat.le_trans (len_bulk ds) h.bulk
theorem bda_all (h : ∀ d ∈ ds, Bd u n k d) : BdA u (ds.length * (n + 1)) k ds := by
  induction ds with
  | nil => exact bda_nil.mono (Nat.le_refl _) (Nat.zero_le _) (Nat.zero_le _)
  | cons d ds ih =>
    have := bda_cons (h d (.head _)) (ih fun x hx => h x (.tail _ hx))
    refine this.mono (Nat.le_refl _) ?_ (by omega)
    rw [List.length_cons, Nat.succ_mul]
    omega
theorem bda_ints {ns : List Int} (h : ∀ x ∈ ns, x.natAbs ≤ 10 ^ 39 + u) : BdA u ns.length 0 (ns.map PyData.int) := by
  have := bda_all (u := u) (n := 0) (k := 0) (ds := ns.map PyData.int) fun d hd => by
    obtain ⟨x, hx, rfl⟩ := List.mem_map.mp hd
    exact bd_int (h x hx)
  rw [List.length_map, Nat.zero_add, Nat.mul_one] at this
  exact this
end
theorem size_int {i : Int} (h : i.natAbs < 10 ^ 45) : (Str.ofString (toString i)).cps.size ≤ 46 := by
  have e := int_text_length_le10 (k := 45) (a := i) (by decide) h
  show (Str.ofString (toString i)).length ≤ 46
  rw [ofString_length]
  exact e
end DL
end
section
namespace DL
open PySem
theorem pick_b {ds : List D} (h : 0 < ds.length) (hl : ds.length < 1000000) : Ok (w__law_pick_0 [.list ds]) 1 (fun d => d ∈ ds) := by
  unfold w__law_pick_0
  rw [x_fnS]
  refine Ok.grd rfl (Ok.fn ?_)
  try simp only [x_var, x_con, x_bin, x_neg, x_cmp, x_chain, x_tTru, x_tNot, x_tAnd, x_tOr, x_tBool, x_tYes, x_not, x_and, x_or, x_if, x_b1, x_b2, x_is, x_idx, x_oNone, x_oSome, x_cut, x_aNil, x_aCons, x_tup, x_lst, x_call, x_callS,
    x_iSeq, x_iRng1, x_iRng2, x_bor, x_tBor, x_put1, List.map_cons, List.map_nil, List.cons_append, List.nil_append, List.length_cons, List.length_nil, Nat.zero_add, Nat.reduceAdd, Nat.reduceSub, List.reduceReplicate, start,
    List.getElem?_cons_zero, List.getElem?_cons_succ, List.set_cons_zero, List.set_cons_succ, bnd_ret, bnd_assoc, bnd_grd, b1_if, bnd_ite, small, Nat.reduceLeDiff, grd_true, o_add, o_sub, o_neg, o_eq, o_ne, o_lt, o_le, o_gt, o_ge, o_eqS, o_neS,
    decide_eq_true_eq, reduceIte, decide_true, decide_false, Bool.not_true, Bool.not_false, Bool.false_eq_true, itemsOf, asInt, endOf, isTy,
    grd_tt, nx_int, nx_bool, nx_str, nx_none, nx_tup, nx_lst, x_isC, x_fld, x_in, x_count, x_lstR, x_tupR, x_raise, x_star, bnd_thr, noX_ret, fld_x, exn_d, eSetO, Out.clear, List.zip_cons_cons, List.zip_nil_left, List.zip_nil_right, s_asg, s_par, s_own, s_parO, s_put, s_expr, s_ret, s_skip, s_seq, s_rel, x_asg, x_par, x_own, x_parO, x_put, x_expr, x_ret, x_retN, x_skip, x_rel, x_app, x_setI, x_sIf, x_for, x_brk, x_cnt, b_lenT, b_lenL, b_tupL, b_tupT, b_max2, b_min2, o_addL, o_addT, cut_ints, sum_ints, s_chk, s_for, s_brk, s_cnt, s_retN, t_bool, g_rng, g_le, List.length_map]
  refine Ok.drawB (n := 0) (by omega) (by omega) fun v h0 h1 => ?_
  rw [idx_list h0 h1]
  exact Ok.ret (List.getElem_mem _)
theorem add_lst (xs ys : List D) : opBin .add (.list xs) (.list ys) = grd (small (xs.length + ys.length)) (ret (.list (xs ++ ys))) := id rfl
theorem add_str (x y : Str) : opBin .add (.str x) (.str y) = grd (x.length + y.length ≤ 1000000) (ret (.str (x ++ y))) := id rfl
theorem str_int {i : Int} (h : i.natAbs < 10 ^ 45) : bi1 .str (.int i) = ret (.str (Str.ofString (toString i))) := by
  show grd (i.natAbs.log2 < 1920) _ = _
  rw [grd_pos]
  by_cases h0 : i.natAbs = 0
  · rw [h0]; decide
  · have h2 : i.natAbs < 2 ^ 150 := Nat.lt_trans h (by decide)
    exact Nat.lt_of_lt_of_le ((Nat.log2_lt h0).mpr h2) (by decide)
end DL
end
section
namespace DL
open PySem
def firstBad : List D → Nat → D
  | [], _ => .none
  | d :: ds, i => if intIn 1 60 d = true then firstBad ds (i + 1) else .tuple [.int i, .str "length"]
def rowErr : D → D
  | .tuple ds => if ds.length = 0 ∨ 24 < ds.length then .tuple [.none, .str "row"] else firstBad ds 0
  | _ => .tuple [.none, .str "row"]
theorem lfA_nx {u : Nat} {ds : List D} (h : lfAll u ds = true) : ∀ d ∈ ds, noXn d = true := by
  intro d hd
  have : BdA u (PyData.bulkAll ds) (PyData.depthAll ds) ds := ⟨h, Nat.le_refl _, Nat.le_refl _⟩
  exact (this.mem hd).nx
theorem is_length_d {d : D} (h : noXn d = true) : w_is_length_0 [d] = ret (.bool (intIn 1 60 d)) := by
  unfold w_is_length_0
  refine (f_fn (by rfl)).trans ?_
  try simp only [x_var, x_con, x_bin, x_neg, x_cmp, x_chain, x_tTru, x_tNot, x_tAnd, x_tOr, x_tBool, x_tYes, x_not, x_and, x_or, x_if, x_b1, x_b2, x_is, x_idx, x_oNone, x_oSome, x_cut, x_aNil, x_aCons, x_tup, x_lst, x_call, x_callS,
    x_iSeq, x_iRng1, x_iRng2, x_bor, x_tBor, x_put1, List.map_cons, List.map_nil, List.cons_append, List.nil_append, List.length_cons, List.length_nil, Nat.zero_add, Nat.reduceAdd, Nat.reduceSub, List.reduceReplicate, start,
    List.getElem?_cons_zero, List.getElem?_cons_succ, List.set_cons_zero, List.set_cons_succ, bnd_ret, bnd_assoc, bnd_grd, b1_if, bnd_ite, small, Nat.reduceLeDiff, grd_true, o_add, o_sub, o_neg, o_eq, o_ne, o_lt, o_le, o_gt, o_ge, o_eqS, o_neS,
    decide_eq_true_eq, reduceIte, decide_true, decide_false, Bool.not_true, Bool.not_false, Bool.false_eq_true, itemsOf, asInt, endOf, isTy,
    grd_tt, nx_int, nx_bool, nx_str, nx_none, nx_tup, nx_lst, x_isC, x_fld, x_in, x_count, x_lstR, x_tupR, x_raise, x_star, bnd_thr, noX_ret, fld_x, exn_d, eSetO, Out.clear, List.zip_cons_cons, List.zip_nil_left, List.zip_nil_right, s_asg, s_par, s_own, s_parO, s_put, s_expr, s_ret, s_skip, s_seq, s_rel, x_asg, x_par, x_own, x_parO, x_put, x_expr, x_ret, x_retN, x_skip, x_rel, x_app, x_setI, x_sIf, x_for, x_brk, x_cnt, b_lenT, b_lenL, b_tupL, b_tupT, b_max2, b_min2, o_addL, o_addT, cut_ints, sum_ints, s_chk, s_for, s_brk, s_cnt, s_retN, t_bool, g_rng, g_le, List.length_map, is_integer_d h]
theorem err_loop {e0 : Ent} : ∀ (ds : List D) (i : Nat) (e1 e2 : Ent), (∀ d ∈ ds, noXn d = true) → ∃ o, forL (.tp [1, 2]) (sIf (tNot (tTru (eCall w_is_length_0 (aCons (eVar 2) (aNil))))) (sRet (eTup (aCons (eVar 1) (aCons (eCon (.str "length")) (aNil))))) (sSkip)) (pairs i ds) [e0, e1, e2] = ret o ∧
    ((∃ e1' e2', o = .nx [e0, e1', e2'] ∧ firstBad ds i = .none) ∨ o = .rt (firstBad ds i))
  | [], i, e1, e2, _ => ⟨_, rfl, .inl ⟨e1, e2, rfl, rfl⟩⟩
  | d :: ds, i, e1, e2, h => by
    show ∃ o, forL _ _ (.tuple [.int (i : Int), d] :: pairs ((i : Int) + 1) ds) _ = _ ∧ _
    rw [x_forc]
    try simp only [x_var, x_con, x_bin, x_neg, x_cmp, x_chain, x_tTru, x_tNot, x_tAnd, x_tOr, x_tBool, x_tYes, x_not, x_and, x_or, x_if, x_b1, x_b2, x_is, x_idx, x_oNone, x_oSome, x_cut, x_aNil, x_aCons, x_tup, x_lst, x_call, x_callS,
    x_iSeq, x_iRng1, x_iRng2, x_bor, x_tBor, x_put1, List.map_cons, List.map_nil, List.cons_append, List.nil_append, List.length_cons, List.length_nil, Nat.zero_add, Nat.reduceAdd, Nat.reduceSub, List.reduceReplicate, start,
    List.getElem?_cons_zero, List.getElem?_cons_succ, List.set_cons_zero, List.set_cons_succ, bnd_ret, bnd_assoc, bnd_grd, b1_if, bnd_ite, small, Nat.reduceLeDiff, grd_true, o_add, o_sub, o_neg, o_eq, o_ne, o_lt, o_le, o_gt, o_ge, o_eqS, o_neS,
    decide_eq_true_eq, reduceIte, decide_true, decide_false, Bool.not_true, Bool.not_false, Bool.false_eq_true, itemsOf, asInt, endOf, isTy,
    grd_tt, nx_int, nx_bool, nx_str, nx_none, nx_tup, nx_lst, x_isC, x_fld, x_in, x_count, x_lstR, x_tupR, x_raise, x_star, bnd_thr, noX_ret, fld_x, exn_d, eSetO, Out.clear, List.zip_cons_cons, List.zip_nil_left, List.zip_nil_right, s_asg, s_par, s_own, s_parO, s_put, s_expr, s_ret, s_skip, s_seq, s_rel, x_asg, x_par, x_own, x_parO, x_put, x_expr, x_ret, x_retN, x_skip, x_rel, x_app, x_setI, x_sIf, x_for, x_brk, x_cnt, b_lenT, b_lenL, b_tupL, b_tupT, b_max2, b_min2, o_addL, o_addT, cut_ints, sum_ints, s_chk, s_for, s_brk, s_cnt, s_retN, t_bool, g_rng, g_le, List.length_map, Tg.put, setAll, is_length_d (h d (.head _)), t_bool]
    unfold firstBad
    cases hd : intIn 1 60 d with
    | true =>
      try simp only [x_var, x_con, x_bin, x_neg, x_cmp, x_chain, x_tTru, x_tNot, x_tAnd, x_tOr, x_tBool, x_tYes, x_not, x_and, x_or, x_if, x_b1, x_b2, x_is, x_idx, x_oNone, x_oSome, x_cut, x_aNil, x_aCons, x_tup, x_lst, x_call, x_callS,
    x_iSeq, x_iRng1, x_iRng2, x_bor, x_tBor, x_put1, List.map_cons, List.map_nil, List.cons_append, List.nil_append, List.length_cons, List.length_nil, Nat.zero_add, Nat.reduceAdd, Nat.reduceSub, List.reduceReplicate, start,
    List.getElem?_cons_zero, List.getElem?_cons_succ, List.set_cons_zero, List.set_cons_succ, bnd_ret, bnd_assoc, bnd_grd, b1_if, bnd_ite, small, Nat.reduceLeDiff, grd_true, o_add, o_sub, o_neg, o_eq, o_ne, o_lt, o_le, o_gt, o_ge, o_eqS, o_neS,
    decide_eq_true_eq, reduceIte, decide_true, decide_false, Bool.not_true, Bool.not_false, Bool.false_eq_true, itemsOf, asInt, endOf, isTy,
    grd_tt, nx_int, nx_bool, nx_str, nx_none, nx_tup, nx_lst, x_isC, x_fld, x_in, x_count, x_lstR, x_tupR, x_raise, x_star, bnd_thr, noX_ret, fld_x, exn_d, eSetO, Out.clear, List.zip_cons_cons, List.zip_nil_left, List.zip_nil_right, s_asg, s_par, s_own, s_parO, s_put, s_expr, s_ret, s_skip, s_seq, s_rel, x_asg, x_par, x_own, x_parO, x_put, x_expr, x_ret, x_retN, x_skip, x_rel, x_app, x_setI, x_sIf, x_for, x_brk, x_cnt, b_lenT, b_lenL, b_tupL, b_tupT, b_max2, b_min2, o_addL, o_addT, cut_ints, sum_ints, s_chk, s_for, s_brk, s_cnt, s_retN, t_bool, g_rng, g_le, List.length_map]
      have := err_loop (e0 := e0) ds (i + 1) (.val (.int i)) (.val d) fun x hx => h x (.tail _ hx)
      rw [Int.natCast_add] at this
      exact this
    | false =>
      try simp only [x_var, x_con, x_bin, x_neg, x_cmp, x_chain, x_tTru, x_tNot, x_tAnd, x_tOr, x_tBool, x_tYes, x_not, x_and, x_or, x_if, x_b1, x_b2, x_is, x_idx, x_oNone, x_oSome, x_cut, x_aNil, x_aCons, x_tup, x_lst, x_call, x_callS,
    x_iSeq, x_iRng1, x_iRng2, x_bor, x_tBor, x_put1, List.map_cons, List.map_nil, List.cons_append, List.nil_append, List.length_cons, List.length_nil, Nat.zero_add, Nat.reduceAdd, Nat.reduceSub, List.reduceReplicate, start,
    List.getElem?_cons_zero, List.getElem?_cons_succ, List.set_cons_zero, List.set_cons_succ, bnd_ret, bnd_assoc, bnd_grd, b1_if, bnd_ite, small, Nat.reduceLeDiff, grd_true, o_add, o_sub, o_neg, o_eq, o_ne, o_lt, o_le, o_gt, o_ge, o_eqS, o_neS,
    decide_eq_true_eq, reduceIte, decide_true, decide_false, Bool.not_true, Bool.not_false, Bool.false_eq_true, itemsOf, asInt, endOf, isTy,
    grd_tt, nx_int, nx_bool, nx_str, nx_none, nx_tup, nx_lst, x_isC, x_fld, x_in, x_count, x_lstR, x_tupR, x_raise, x_star, bnd_thr, noX_ret, fld_x, exn_d, eSetO, Out.clear, List.zip_cons_cons, List.zip_nil_left, List.zip_nil_right, s_asg, s_par, s_own, s_parO, s_put, s_expr, s_ret, s_skip, s_seq, s_rel, x_asg, x_par, x_own, x_parO, x_put, x_expr, x_ret, x_retN, x_skip, x_rel, x_app, x_setI, x_sIf, x_for, x_brk, x_cnt, b_lenT, b_lenL, b_tupL, b_tupT, b_max2, b_min2, o_addL, o_addT, cut_ints, sum_ints, s_chk, s_for, s_brk, s_cnt, s_retN, t_bool, g_rng, g_le, List.length_map]
      exact ⟨_, rfl, .inr rfl⟩
theorem row_error_d {u : Nat} {d : D} (h : lf u d = true) : w_row_error_0 [d] = ret (rowErr d) := by
  unfold w_row_error_0
  refine (f_fn (by rfl)).trans ?_
  have nx := nx_plain (lf_plain h)
  cases d with
  | tuple ds =>
    have hA : lfAll u ds = true := by unfold lf at h; exact h
    try simp only [x_var, x_con, x_bin, x_neg, x_cmp, x_chain, x_tTru, x_tNot, x_tAnd, x_tOr, x_tBool, x_tYes, x_not, x_and, x_or, x_if, x_b1, x_b2, x_is, x_idx, x_oNone, x_oSome, x_cut, x_aNil, x_aCons, x_tup, x_lst, x_call, x_callS,
    x_iSeq, x_iRng1, x_iRng2, x_bor, x_tBor, x_put1, List.map_cons, List.map_nil, List.cons_append, List.nil_append, List.length_cons, List.length_nil, Nat.zero_add, Nat.reduceAdd, Nat.reduceSub, List.reduceReplicate, start,
    List.getElem?_cons_zero, List.getElem?_cons_succ, List.set_cons_zero, List.set_cons_succ, bnd_ret, bnd_assoc, bnd_grd, b1_if, bnd_ite, small, Nat.reduceLeDiff, grd_true, o_add, o_sub, o_neg, o_eq, o_ne, o_lt, o_le, o_gt, o_ge, o_eqS, o_neS,
    decide_eq_true_eq, reduceIte, decide_true, decide_false, Bool.not_true, Bool.not_false, Bool.false_eq_true, itemsOf, asInt, endOf, isTy,
    grd_tt, nx_int, nx_bool, nx_str, nx_none, nx_tup, nx_lst, x_isC, x_fld, x_in, x_count, x_lstR, x_tupR, x_raise, x_star, bnd_thr, noX_ret, fld_x, exn_d, eSetO, Out.clear, List.zip_cons_cons, List.zip_nil_left, List.zip_nil_right, s_asg, s_par, s_own, s_parO, s_put, s_expr, s_ret, s_skip, s_seq, s_rel, x_asg, x_par, x_own, x_parO, x_put, x_expr, x_ret, x_retN, x_skip, x_rel, x_app, x_setI, x_sIf, x_for, x_brk, x_cnt, b_lenT, b_lenL, b_tupL, b_tupT, b_max2, b_min2, o_addL, o_addT, cut_ints, sum_ints, s_chk, s_for, s_brk, s_cnt, s_retN, t_bool, g_rng, g_le, List.length_map, t_bool]
    unfold rowErr
    by_cases h0 : 1 ≤ ds.length
    · by_cases h1 : ds.length ≤ 24
      · simp only [show (1 : Int) ≤ (ds.length : Int) by omega, show (ds.length : Int) ≤ 24 by omega, x_var, x_con, x_bin, x_neg, x_cmp, x_chain, x_tTru, x_tNot, x_tAnd, x_tOr, x_tBool, x_tYes, x_not, x_and, x_or, x_if, x_b1, x_b2, x_is, x_idx, x_oNone, x_oSome, x_cut, x_aNil, x_aCons, x_tup, x_lst, x_call, x_callS,
    x_iSeq, x_iRng1, x_iRng2, x_bor, x_tBor, x_put1, List.map_cons, List.map_nil, List.cons_append, List.nil_append, List.length_cons, List.length_nil, Nat.zero_add, Nat.reduceAdd, Nat.reduceSub, List.reduceReplicate, start,
    List.getElem?_cons_zero, List.getElem?_cons_succ, List.set_cons_zero, List.set_cons_succ, bnd_ret, bnd_assoc, bnd_grd, b1_if, bnd_ite, small, Nat.reduceLeDiff, grd_true, o_add, o_sub, o_neg, o_eq, o_ne, o_lt, o_le, o_gt, o_ge, o_eqS, o_neS,
    decide_eq_true_eq, reduceIte, decide_true, decide_false, Bool.not_true, Bool.not_false, Bool.false_eq_true, itemsOf, asInt, endOf, isTy,
    grd_tt, nx_int, nx_bool, nx_str, nx_none, nx_tup, nx_lst, x_isC, x_fld, x_in, x_count, x_lstR, x_tupR, x_raise, x_star, bnd_thr, noX_ret, fld_x, exn_d, eSetO, Out.clear, List.zip_cons_cons, List.zip_nil_left, List.zip_nil_right, s_asg, s_par, s_own, s_parO, s_put, s_expr, s_ret, s_skip, s_seq, s_rel, x_asg, x_par, x_own, x_parO, x_put, x_expr, x_ret, x_retN, x_skip, x_rel, x_app, x_setI, x_sIf, x_for, x_brk, x_cnt, b_lenT, b_lenL, b_tupL, b_tupT, b_max2, b_min2, o_addL, o_addT, cut_ints, sum_ints, s_chk, s_for, s_brk, s_cnt, s_retN, t_bool, g_rng, g_le, List.length_map, x_iEnumC]
        rw [if_neg (by omega)]
        obtain ⟨o, e1, e2⟩ := err_loop (e0 := .val (.tuple ds)) ds 0 .unk .unk (lfA_nx hA)
        simp only [Int.natCast_zero] at e1
        rw [grd_pos (by decide), e1]
        rcases e2 with ⟨e1', e2', rfl, q⟩ | rfl
        · try simp only [x_var, x_con, x_bin, x_neg, x_cmp, x_chain, x_tTru, x_tNot, x_tAnd, x_tOr, x_tBool, x_tYes, x_not, x_and, x_or, x_if, x_b1, x_b2, x_is, x_idx, x_oNone, x_oSome, x_cut, x_aNil, x_aCons, x_tup, x_lst, x_call, x_callS,
    x_iSeq, x_iRng1, x_iRng2, x_bor, x_tBor, x_put1, List.map_cons, List.map_nil, List.cons_append, List.nil_append, List.length_cons, List.length_nil, Nat.zero_add, Nat.reduceAdd, Nat.reduceSub, List.reduceReplicate, start,
    List.getElem?_cons_zero, List.getElem?_cons_succ, List.set_cons_zero, List.set_cons_succ, bnd_ret, bnd_assoc, bnd_grd, b1_if, bnd_ite, small, Nat.reduceLeDiff, grd_true, o_add, o_sub, o_neg, o_eq, o_ne, o_lt, o_le, o_gt, o_ge, o_eqS, o_neS,
    decide_eq_true_eq, reduceIte, decide_true, decide_false, Bool.not_true, Bool.not_false, Bool.false_eq_true, itemsOf, asInt, endOf, isTy,
    grd_tt, nx_int, nx_bool, nx_str, nx_none, nx_tup, nx_lst, x_isC, x_fld, x_in, x_count, x_lstR, x_tupR, x_raise, x_star, bnd_thr, noX_ret, fld_x, exn_d, eSetO, Out.clear, List.zip_cons_cons, List.zip_nil_left, List.zip_nil_right, s_asg, s_par, s_own, s_parO, s_put, s_expr, s_ret, s_skip, s_seq, s_rel, x_asg, x_par, x_own, x_parO, x_put, x_expr, x_ret, x_retN, x_skip, x_rel, x_app, x_setI, x_sIf, x_for, x_brk, x_cnt, b_lenT, b_lenL, b_tupL, b_tupT, b_max2, b_min2, o_addL, o_addT, cut_ints, sum_ints, s_chk, s_for, s_brk, s_cnt, s_retN, t_bool, g_rng, g_le, List.length_map]
          rw [q]
        · try simp only [x_var, x_con, x_bin, x_neg, x_cmp, x_chain, x_tTru, x_tNot, x_tAnd, x_tOr, x_tBool, x_tYes, x_not, x_and, x_or, x_if, x_b1, x_b2, x_is, x_idx, x_oNone, x_oSome, x_cut, x_aNil, x_aCons, x_tup, x_lst, x_call, x_callS,
    x_iSeq, x_iRng1, x_iRng2, x_bor, x_tBor, x_put1, List.map_cons, List.map_nil, List.cons_append, List.nil_append, List.length_cons, List.length_nil, Nat.zero_add, Nat.reduceAdd, Nat.reduceSub, List.reduceReplicate, start,
    List.getElem?_cons_zero, List.getElem?_cons_succ, List.set_cons_zero, List.set_cons_succ, bnd_ret, bnd_assoc, bnd_grd, b1_if, bnd_ite, small, Nat.reduceLeDiff, grd_true, o_add, o_sub, o_neg, o_eq, o_ne, o_lt, o_le, o_gt, o_ge, o_eqS, o_neS,
    decide_eq_true_eq, reduceIte, decide_true, decide_false, Bool.not_true, Bool.not_false, Bool.false_eq_true, itemsOf, asInt, endOf, isTy,
    grd_tt, nx_int, nx_bool, nx_str, nx_none, nx_tup, nx_lst, x_isC, x_fld, x_in, x_count, x_lstR, x_tupR, x_raise, x_star, bnd_thr, noX_ret, fld_x, exn_d, eSetO, Out.clear, List.zip_cons_cons, List.zip_nil_left, List.zip_nil_right, s_asg, s_par, s_own, s_parO, s_put, s_expr, s_ret, s_skip, s_seq, s_rel, x_asg, x_par, x_own, x_parO, x_put, x_expr, x_ret, x_retN, x_skip, x_rel, x_app, x_setI, x_sIf, x_for, x_brk, x_cnt, b_lenT, b_lenL, b_tupL, b_tupT, b_max2, b_min2, o_addL, o_addT, cut_ints, sum_ints, s_chk, s_for, s_brk, s_cnt, s_retN, t_bool, g_rng, g_le, List.length_map]
      · simp only [show (1 : Int) ≤ (ds.length : Int) by omega, show ¬ (ds.length : Int) ≤ 24 by omega, x_var, x_con, x_bin, x_neg, x_cmp, x_chain, x_tTru, x_tNot, x_tAnd, x_tOr, x_tBool, x_tYes, x_not, x_and, x_or, x_if, x_b1, x_b2, x_is, x_idx, x_oNone, x_oSome, x_cut, x_aNil, x_aCons, x_tup, x_lst, x_call, x_callS,
    x_iSeq, x_iRng1, x_iRng2, x_bor, x_tBor, x_put1, List.map_cons, List.map_nil, List.cons_append, List.nil_append, List.length_cons, List.length_nil, Nat.zero_add, Nat.reduceAdd, Nat.reduceSub, List.reduceReplicate, start,
    List.getElem?_cons_zero, List.getElem?_cons_succ, List.set_cons_zero, List.set_cons_succ, bnd_ret, bnd_assoc, bnd_grd, b1_if, bnd_ite, small, Nat.reduceLeDiff, grd_true, o_add, o_sub, o_neg, o_eq, o_ne, o_lt, o_le, o_gt, o_ge, o_eqS, o_neS,
    decide_eq_true_eq, reduceIte, decide_true, decide_false, Bool.not_true, Bool.not_false, Bool.false_eq_true, itemsOf, asInt, endOf, isTy,
    grd_tt, nx_int, nx_bool, nx_str, nx_none, nx_tup, nx_lst, x_isC, x_fld, x_in, x_count, x_lstR, x_tupR, x_raise, x_star, bnd_thr, noX_ret, fld_x, exn_d, eSetO, Out.clear, List.zip_cons_cons, List.zip_nil_left, List.zip_nil_right, s_asg, s_par, s_own, s_parO, s_put, s_expr, s_ret, s_skip, s_seq, s_rel, x_asg, x_par, x_own, x_parO, x_put, x_expr, x_ret, x_retN, x_skip, x_rel, x_app, x_setI, x_sIf, x_for, x_brk, x_cnt, b_lenT, b_lenL, b_tupL, b_tupT, b_max2, b_min2, o_addL, o_addT, cut_ints, sum_ints, s_chk, s_for, s_brk, s_cnt, s_retN, t_bool, g_rng, g_le, List.length_map]
        rw [if_pos (by omega)]
    · simp only [show ¬ (1 : Int) ≤ (ds.length : Int) by omega, x_var, x_con, x_bin, x_neg, x_cmp, x_chain, x_tTru, x_tNot, x_tAnd, x_tOr, x_tBool, x_tYes, x_not, x_and, x_or, x_if, x_b1, x_b2, x_is, x_idx, x_oNone, x_oSome, x_cut, x_aNil, x_aCons, x_tup, x_lst, x_call, x_callS,
    x_iSeq, x_iRng1, x_iRng2, x_bor, x_tBor, x_put1, List.map_cons, List.map_nil, List.cons_append, List.nil_append, List.length_cons, List.length_nil, Nat.zero_add, Nat.reduceAdd, Nat.reduceSub, List.reduceReplicate, start,
    List.getElem?_cons_zero, List.getElem?_cons_succ, List.set_cons_zero, List.set_cons_succ, bnd_ret, bnd_assoc, bnd_grd, b1_if, bnd_ite, small, Nat.reduceLeDiff, grd_true, o_add, o_sub, o_neg, o_eq, o_ne, o_lt, o_le, o_gt, o_ge, o_eqS, o_neS,
    decide_eq_true_eq, reduceIte, decide_true, decide_false, Bool.not_true, Bool.not_false, Bool.false_eq_true, itemsOf, asInt, endOf, isTy,
    grd_tt, nx_int, nx_bool, nx_str, nx_none, nx_tup, nx_lst, x_isC, x_fld, x_in, x_count, x_lstR, x_tupR, x_raise, x_star, bnd_thr, noX_ret, fld_x, exn_d, eSetO, Out.clear, List.zip_cons_cons, List.zip_nil_left, List.zip_nil_right, s_asg, s_par, s_own, s_parO, s_put, s_expr, s_ret, s_skip, s_seq, s_rel, x_asg, x_par, x_own, x_parO, x_put, x_expr, x_ret, x_retN, x_skip, x_rel, x_app, x_setI, x_sIf, x_for, x_brk, x_cnt, b_lenT, b_lenL, b_tupL, b_tupT, b_max2, b_min2, o_addL, o_addT, cut_ints, sum_ints, s_chk, s_for, s_brk, s_cnt, s_retN, t_bool, g_rng, g_le, List.length_map]
      rw [if_pos (by omega)]
  | _ =>
    try simp only [x_var, x_con, x_bin, x_neg, x_cmp, x_chain, x_tTru, x_tNot, x_tAnd, x_tOr, x_tBool, x_tYes, x_not, x_and, x_or, x_if, x_b1, x_b2, x_is, x_idx, x_oNone, x_oSome, x_cut, x_aNil, x_aCons, x_tup, x_lst, x_call, x_callS,
    x_iSeq, x_iRng1, x_iRng2, x_bor, x_tBor, x_put1, List.map_cons, List.map_nil, List.cons_append, List.nil_append, List.length_cons, List.length_nil, Nat.zero_add, Nat.reduceAdd, Nat.reduceSub, List.reduceReplicate, start,
    List.getElem?_cons_zero, List.getElem?_cons_succ, List.set_cons_zero, List.set_cons_succ, bnd_ret, bnd_assoc, bnd_grd, b1_if, bnd_ite, small, Nat.reduceLeDiff, grd_true, o_add, o_sub, o_neg, o_eq, o_ne, o_lt, o_le, o_gt, o_ge, o_eqS, o_neS,
    decide_eq_true_eq, reduceIte, decide_true, decide_false, Bool.not_true, Bool.not_false, Bool.false_eq_true, itemsOf, asInt, endOf, isTy,
    grd_tt, nx_int, nx_bool, nx_str, nx_none, nx_tup, nx_lst, x_isC, x_fld, x_in, x_count, x_lstR, x_tupR, x_raise, x_star, bnd_thr, noX_ret, fld_x, exn_d, eSetO, Out.clear, List.zip_cons_cons, List.zip_nil_left, List.zip_nil_right, s_asg, s_par, s_own, s_parO, s_put, s_expr, s_ret, s_skip, s_seq, s_rel, x_asg, x_par, x_own, x_parO, x_put, x_expr, x_ret, x_retN, x_skip, x_rel, x_app, x_setI, x_sIf, x_for, x_brk, x_cnt, b_lenT, b_lenL, b_tupL, b_tupT, b_max2, b_min2, o_addL, o_addT, cut_ints, sum_ints, s_chk, s_for, s_brk, s_cnt, s_retN, t_bool, g_rng, g_le, List.length_map, nx]
    rfl
end DL
end
section
namespace DL
open PySem
theorem max_long {ns : List Int} {m w : Int} (h : bi1 .max (.tuple (ns.map PyData.int)) = ret (.int m)) (hm : m ≤ w) : Long ns w none := .no fun j x hj => by
  have hx := List.mem_of_getElem? hj
  match ns, hx, h with
  | a :: r, hx, h =>
    have e : bi1 .max (.tuple ((a :: r).map PyData.int)) = ret (.int (greatest a r)) := by
      show bnd (intsOf (.tuple ((a :: r).map PyData.int))) _ = _
      simp only [intsOf, itemsOf, bnd_ret, ints?_map]
    rw [e] at h
    have e2 : PyData.int (greatest a r) = .int m := by
      have := congrFun (congrFun (congrFun h (.z 0)) fun d _ => d = .int m) fun _ _ => False
      exact this.mpr rfl
    have e3 : greatest a r = m := PyData.int.inj e2
    have go : ∀ (r : List Int) (a : Int), a ≤ r.foldl max a ∧ ∀ y ∈ r, y ≤ r.foldl max a := by
      intro r
      induction r with
      | nil => intro a; exact ⟨Int.le_refl _, fun y hy => by cases hy⟩
      | cons b r ih =>
        intro a
        obtain ⟨g1, g2⟩ := ih (max a b)
        refine ⟨Int.le_trans (Int.le_max_left a b) g1, fun y hy => ?_⟩
        cases hy with
        | head => exact Int.le_trans (Int.le_max_right a b) g1
        | tail _ hy => exact g2 y hy
    obtain ⟨g1, g2⟩ := go r a
    unfold greatest at e3
    rw [e3] at g1 g2
    cases hx with
    | head => omega
    | tail _ hx => have := g2 x hx; omega
/-- neighbours -/
def adjN : List Nat → List (Nat × Nat)
  | a :: b :: r => (a, b) :: adjN (b :: r)
  | _ => []
/-- each with what comes next, at last e -/
def endN (e : Nat) : List Nat → List (Nat × Nat)
  | [] => []
  | [a] => [(a, e)]
  | a :: b :: r => (a, b) :: endN e (b :: r)
theorem adj_mem : ∀ {l : List Nat} {q : Nat × Nat}, q ∈ adjN l → q.1 ∈ l ∧ q.2 ∈ l
  | a :: b :: r, q, h => by
    cases h with
    | head => exact ⟨.head _, .tail _ (.head _)⟩
    | tail _ h => exact ⟨.tail _ (adj_mem h).1, .tail _ (adj_mem h).2⟩
  | [_], q, h => by cases h
  | [], q, h => by cases h
theorem end_mem {e : Nat} : ∀ {l : List Nat} {q : Nat × Nat}, q ∈ endN e l → q.1 ∈ l ∧ (q.2 ∈ l ∨ q.2 = e)
  | a :: b :: r, q, h => by
    cases h with
    | head => exact ⟨.head _, .inl (.tail _ (.head _))⟩
    | tail _ h => exact ⟨.tail _ (end_mem h).1, (end_mem h).2.imp (fun z => .tail _ z) id⟩
  | [a], q, h => by
    cases h with
    | head => exact ⟨.head _, .inr rfl⟩
    | tail _ h => cases h
  | [], q, h => by cases h
/-- ascending -/
def ascN (l : List Nat) : Bool := (adjN l).all fun q => decide (q.1 < q.2)
theorem asc_adj {l : List Nat} (h : ascN l = true) {q : Nat × Nat} (hq : q ∈ adjN l) : q.1 < q.2 := by
  unfold ascN at h
  simpa using List.all_eq_true.mp h q hq
theorem asc_end {e : Nat} {l : List Nat} (h : ascN l = true) (he : ∀ a ∈ l, a < e) {q : Nat × Nat} (hq : q ∈ endN e l) : q.1 < q.2 := by
  match l, h, he, hq with
  | a :: b :: r, h, he, hq =>
    cases hq with
    | head => exact asc_adj h (.head _)
    | tail _ hq =>
      refine asc_end (l := b :: r) ?_ (fun x hx => he x (.tail _ hx)) hq
      unfold ascN at h ⊢
      simp only [adjN, List.all_cons, Bool.and_eq_true] at h
      exact h.2
  | [a], h, he, hq =>
    cases hq with
    | head => exact he a (.head _)
    | tail _ h => cases h
  | [], _, _, hq => cases hq
def fitN (ns : List Int) (w : Int) (l : List Nat) : Bool := (endN ns.length l).all fun q => decide (ext ns q.1 (q.2 - 1) ≤ w)
def barN (ns : List Int) (w : Int) (l : List Nat) : Bool := (adjN l).all fun q => decide (w < ext ns q.1 q.2)
theorem ext_sum {ns : List Int} {a b : Nat} (h : a < b) : ((ns.drop a).take (b - a)).sum + (b : Int) - (a : Int) - 1 = ext ns a (b - 1) := by
  unfold ext
  rw [show b - 1 + 1 - a = b - a by omega]
  omega
end DL
end
section
namespace DL
open PySem
/-- a tuple of few small ints -/
def FewI (d : D) : Prop := ∃ is : List Int, d = .tuple (is.map PyData.int) ∧ is.length ≤ 60 ∧ ∀ x ∈ is, 0 ≤ x ∧ x < 60
theorem FewI.bd {d : D} (h : FewI d) : Bd 0 60 1 d := by
  obtain ⟨is, rfl, h1, h2⟩ := h
  exact (bd_tup (bda_ints fun x hx => by have := h2 x hx; omega)).mono (Nat.le_refl _) h1 (by omega)
end DL
end
section
namespace DL
open PySem
end DL
end
section
namespace DL
open PySem
theorem ext_left {ns : List Int} {i j : Nat} (h : i < j) (hj : j < ns.length) : ext ns i j = ns[i] + 1 + ext ns (i + 1) j := by
  unfold ext
  rw [List.drop_eq_getElem_cons (by omega : i < ns.length), show j + 1 - i = (j - i) + 1 by omega, List.take_succ_cons, List.sum_cons, show j + 1 - (i + 1) = j - i by omega]
  omega
theorem ext_right {ns : List Int} {i j : Nat} (h : i ≤ j) (hj : j + 1 < ns.length) : ext ns i (j + 1) = ext ns i j + 1 + ns[j + 1] := ext_next h (List.getElem?_eq_getElem hj)
section
variable {ns : List Int} {w : Int}
theorem ext_mono_r (hp : ∀ x ∈ ns, 1 ≤ x) {i j : Nat} (h : i ≤ j) : ∀ k : Nat, j ≤ k → k < ns.length → ext ns i j ≤ ext ns i k
  | 0, hk, _ => by rw [show j = 0 by omega]; exact Int.le_refl _
  | k + 1, hk, hl => by
    by_cases e : j = k + 1
    · rw [e]; exact Int.le_refl _
    · have h1 := ext_mono_r hp h k (by omega) (by omega)
      have h2 := ext_right (ns := ns) (i := i) (j := k) (by omega) hl
      have := hp _ (List.getElem_mem hl)
      omega
theorem ext_mono_l (hp : ∀ x ∈ ns, 1 ≤ x) {j : Nat} (hj : j < ns.length) : ∀ (k i : Nat), i + k ≤ j → ext ns (i + k) j ≤ ext ns i j
  | 0, i, _ => Int.le_refl _
  | k + 1, i, h => by
    have h1 := ext_mono_l hp hj k (i + 1) (by omega)
    have h2 := ext_left (ns := ns) (i := i) (j := j) (by omega) hj
    have := hp _ (List.getElem_mem (show i < ns.length by omega))
    rw [show i + (k + 1) = i + 1 + k by omega]
    omega
theorem ext_one {i : Nat} (h : i < ns.length) : ext ns i i = ns[i] := ext_self (List.getElem?_eq_getElem h)
theorem nx_mono (hp : ∀ x ∈ ns, 1 ≤ x) {a b : Nat} (h : a ≤ b) (hb : b < ns.length) : nx ns w a ≤ nx ns w b := by
  obtain ⟨a1, a2, a3, a4⟩ := nx_spec (w := w) (show a < ns.length by omega)
  obtain ⟨b1, b2, b3, b4⟩ := nx_spec (w := w) hb
  by_cases e : nx ns w b = ns.length
  · omega
  · have h1 := b4 (by omega)
    have h2 := ext_mono_l hp (show nx ns w b < ns.length by omega) (b - a) a (by omega)
    rw [show a + (b - a) = b by omega] at h2
    by_cases h3 : nx ns w b < nx ns w a
    · have := a3 (nx ns w b) (by omega) h3
      omega
    · omega
/-- the greedy starts, one after another; behind the last one the row's end -/
def gr (ns : List Int) (w : Int) : Nat → Nat
  | 0 => 0
  | k + 1 => if gr ns w k < ns.length then nx ns w (gr ns w k) else ns.length
theorem gr_step {k : Nat} (h : gr ns w k < ns.length) : gr ns w (k + 1) = nx ns w (gr ns w k) := if_pos h
theorem gr_le : ∀ k, gr ns w k ≤ ns.length
  | 0 => Nat.zero_le _
  | k + 1 => by
    unfold gr
    split
    · exact nx_le _ _ _ ‹_›
    · exact Nat.le_refl _
theorem gr_lt {k : Nat} (h : gr ns w k < ns.length) : gr ns w k < gr ns w (k + 1) := by
  rw [gr_step h]
  exact nx_gt _ _ _
theorem gr_mono : ∀ {k j : Nat}, k ≤ j → gr ns w k ≤ gr ns w j
  | k, 0, h => by rw [show k = 0 by omega]; exact Nat.le_refl _
  | k, j + 1, h => by
    by_cases e : k = j + 1
    · rw [e]; exact Nat.le_refl _
    · refine Nat.le_trans (gr_mono (show k ≤ j by omega)) ?_
      by_cases hl : gr ns w j < ns.length
      · exact Nat.le_of_lt (gr_lt hl)
      · have := gr_le (ns := ns) (w := w) j
        have e2 : gr ns w (j + 1) = ns.length := if_neg hl
        omega
theorem chain_gr : ∀ (l : List Nat) (a k : Nat), Chain ns w (a :: l) → a = gr ns w k → (∀ i b, (a :: l)[i]? = some b → b = gr ns w (k + i) ∧ b < ns.length) ∧ gr ns w (k + l.length + 1) = ns.length
  | [], a, k, h, e => by
    obtain ⟨h1, h2⟩ := h
    refine ⟨fun i b hb => ?_, ?_⟩
    · cases i with
      | zero => cases hb; exact ⟨e, h1⟩
      | succ i => cases hb
    · show gr ns w (k + 1) = _
      rw [gr_step (by rw [← e]; exact h1), ← e, h2]
  | b :: r, a, k, h, e => by
    obtain ⟨h1, h2, h3⟩ := h
    have e2 : b = gr ns w (k + 1) := by rw [gr_step (by rw [← e]; exact h1), ← e, h2]
    obtain ⟨i1, i2⟩ := chain_gr r b (k + 1) h3 e2
    refine ⟨fun i c hc => ?_, ?_⟩
    · cases i with
      | zero => cases hc; exact ⟨e, h1⟩
      | succ i =>
        have := i1 i c hc
        rw [show k + (i + 1) = k + 1 + i by omega]
        exact this
    · rw [List.length_cons, show k + (r.length + 1) + 1 = k + 1 + r.length + 1 by omega]
      exact i2
/-- the number of greedy lines -/
def many (ns : List Int) (w : Int) : Nat := (starts ns w).length
theorem many_pos : 1 ≤ many ns w := by unfold many starts; simp
theorem starts_at {i b : Nat} (h1 : 0 < ns.length) (h : (starts ns w)[i]? = some b) : b = gr ns w i ∧ b < ns.length := by
  have := (chain_gr (restF ns w ns.length (nx ns w 0)) 0 0 (starts_chain w h1) rfl).1 i b h
  rwa [Nat.zero_add] at this
theorem gr_end (h1 : 0 < ns.length) : gr ns w (many ns w) = ns.length := by
  have := (chain_gr (restF ns w ns.length (nx ns w 0)) 0 0 (starts_chain w h1) rfl).2
  rw [Nat.zero_add] at this
  exact this
theorem gr_in (h1 : 0 < ns.length) {k : Nat} (hk : k < many ns w) : gr ns w k < ns.length := by
  have := (starts_at h1 (List.getElem?_eq_getElem (l := starts ns w) hk)).1
  have h2 := (starts_at h1 (List.getElem?_eq_getElem (l := starts ns w) hk)).2
  omega
theorem gr_in_iff (h1 : 0 < ns.length) {k : Nat} : gr ns w k < ns.length ↔ k < many ns w := by
  refine ⟨fun h => ?_, gr_in h1⟩
  by_cases e : k < many ns w
  · exact e
  · have := gr_mono (ns := ns) (w := w) (show many ns w ≤ k by omega)
    rw [gr_end h1] at this
    omega
theorem adj_at : ∀ {l : List Nat} {k a b : Nat}, l[k]? = some a → l[k + 1]? = some b → (a, b) ∈ adjN l
  | x :: y :: r, 0, a, b, h1, h2 => by cases h1; cases h2; exact .head _
  | x :: y :: r, k + 1, a, b, h1, h2 => .tail _ (adj_at (l := y :: r) (k := k) h1 h2)
  | [x], k, a, b, h1, h2 => by simp at h2
  | [], k, a, b, h1, h2 => by simp at h1
theorem end_at {e : Nat} : ∀ {l : List Nat} {k a b : Nat}, l[k]? = some a → l[k + 1]? = some b → (a, b) ∈ endN e l
  | x :: y :: r, 0, a, b, h1, h2 => by cases h1; cases h2; exact .head _
  | x :: y :: r, k + 1, a, b, h1, h2 => .tail _ (end_at (l := y :: r) (k := k) h1 h2)
  | [x], k, a, b, h1, h2 => by simp at h2
  | [], k, a, b, h1, h2 => by simp at h1
theorem end_last {e : Nat} : ∀ {l : List Nat} {k a : Nat}, l[k]? = some a → k + 1 = l.length → (a, e) ∈ endN e l
  | [x], k, a, h1, h2 => by
    have : k = 0 := by simpa using h2
    subst this
    cases h1
    exact .head _
  | x :: y :: r, 0, a, h1, h2 => by simp at h2
  | x :: y :: r, k + 1, a, h1, h2 => .tail _ (end_last (l := y :: r) (k := k) h1 (by simpa using h2))
  | [], k, a, h1, h2 => by simp at h1
theorem adj_ix : ∀ {l : List Nat} {q : Nat × Nat}, q ∈ adjN l → ∃ k, l[k]? = some q.1 ∧ l[k + 1]? = some q.2
  | a :: b :: r, q, h => by
    cases h with
    | head => exact ⟨0, rfl, rfl⟩
    | tail _ h => obtain ⟨k, h1, h2⟩ := adj_ix h; exact ⟨k + 1, h1, h2⟩
  | [_], q, h => by cases h
  | [], q, h => by cases h
theorem end_ix {e : Nat} : ∀ {l : List Nat} {q : Nat × Nat}, q ∈ endN e l → ∃ k, l[k]? = some q.1 ∧ (l[k + 1]? = some q.2 ∨ (k + 1 = l.length ∧ q.2 = e))
  | a :: b :: r, q, h => by
    cases h with
    | head => exact ⟨0, rfl, .inl rfl⟩
    | tail _ h =>
      obtain ⟨k, h1, h2⟩ := end_ix h
      exact ⟨k + 1, h1, h2.imp id fun z => ⟨by simpa using z.1, z.2⟩⟩
  | [a], q, h => by
    cases h with
    | head => exact ⟨0, rfl, .inr ⟨rfl, rfl⟩⟩
    | tail _ h => cases h
  | [], q, h => by cases h
/-- a breaking: starts from 0 on, ascending, lines that fit -/
structure Brk (ns : List Int) (w : Int) (l : List Nat) : Prop where
  ne : l ≠ []
  zero : l[0]? = some 0
  asc : ascN l = true
  lt : ∀ a ∈ l, a < ns.length
  fit : fitN ns w l = true
theorem Brk.fits {l : List Nat} (h : Brk ns w l) {q : Nat × Nat} (hq : q ∈ endN ns.length l) : q.1 < q.2 ∧ q.2 ≤ ns.length ∧ ext ns q.1 (q.2 - 1) ≤ w := by
  have h1 := asc_end h.asc h.lt hq
  refine ⟨h1, ?_, ?_⟩
  · rcases (end_mem hq).2 with z | z
    · exact Nat.le_of_lt (h.lt _ z)
    · omega
  · have := h.fit
    unfold fitN at this
    simpa using List.all_eq_true.mp this q hq
theorem Brk.len {l : List Nat} (h : Brk ns w l) : 1 ≤ l.length := List.length_pos_iff.mpr h.ne
/-- no start is later than the greedy one -/
theorem Brk.le (hp : ∀ x ∈ ns, 1 ≤ x) {l : List Nat} (h : Brk ns w l) : ∀ (k a : Nat), l[k]? = some a → a ≤ gr ns w k
  | 0, a, ha => by
    rw [h.zero] at ha
    cases ha
    exact Nat.zero_le _
  | k + 1, a, ha => by
    have hk : k < l.length := by have := (List.getElem?_eq_some_iff.mp ha).1; omega
    have hb := List.getElem?_eq_getElem hk
    have ih := Brk.le hp h k _ hb
    obtain ⟨f1, f2, f3⟩ := h.fits (end_at hb ha)
    have lt := h.lt _ (List.mem_of_getElem? ha)
    have ltb := h.lt _ (List.getElem_mem hk)
    obtain ⟨n1, n2, n3, n4⟩ := nx_spec (w := w) ltb
    have step : a ≤ nx ns w l[k] := by
      by_cases e : a ≤ nx ns w l[k]
      · exact e
      · have h4 := n4 (by omega)
        have h5 := ext_mono_r hp (i := l[k]) (j := nx ns w l[k]) (by omega) (a - 1) (by omega) (by omega)
        simp only at f3
        omega
    by_cases hg : gr ns w k < ns.length
    · rw [gr_step hg]
      exact Nat.le_trans step (nx_mono hp ih hg)
    · have e2 : gr ns w (k + 1) = ns.length := if_neg hg
      omega
/-- no breaking has fewer lines -/
theorem Brk.many (hp : ∀ x ∈ ns, 1 ≤ x) (h1 : 0 < ns.length) {l : List Nat} (h : Brk ns w l) : DL.many ns w ≤ l.length := by
  have hl := h.len
  have hk : l.length - 1 < l.length := by omega
  have hb := List.getElem?_eq_getElem hk
  have le := h.le hp _ _ hb
  obtain ⟨f1, f2, f3⟩ := h.fits (end_last hb (by omega))
  have ltb := h.lt _ (List.getElem_mem hk)
  by_cases e : DL.many ns w ≤ l.length
  · exact e
  · have hg := gr_in (w := w) h1 (k := l.length) (by omega)
    have hg0 : gr ns w (l.length - 1) < ns.length := gr_in h1 (show l.length - 1 < DL.many ns w by omega)
    have st := gr_step hg0
    rw [show l.length - 1 + 1 = l.length by omega] at st
    have mono := nx_mono (w := w) hp le hg0
    obtain ⟨n1, n2, n3, n4⟩ := nx_spec (w := w) ltb
    have h4 := n4 (by omega)
    have h5 := ext_mono_r hp (i := l[l.length - 1]) (j := nx ns w l[l.length - 1]) (by omega) (ns.length - 1) (by omega) (by omega)
    simp only at f3
    omega
/-- the greedy starts are a breaking of a row that fits -/
theorem brk_starts (h1 : 0 < ns.length) (hw : ∀ x ∈ ns, x ≤ w) : Brk ns w (starts ns w) := by
  have at_ : ∀ {i b}, (starts ns w)[i]? = some b → b = gr ns w i ∧ b < ns.length := fun h => DL.starts_at h1 h
  refine ⟨by unfold starts; simp, rfl, ?_, fun a ha => starts_lt h1 a ha, ?_⟩
  · unfold ascN
    refine List.all_eq_true.mpr fun q hq => ?_
    obtain ⟨k, h2, h3⟩ := adj_ix hq
    obtain ⟨e1, l1⟩ := at_ h2
    obtain ⟨e2, l2⟩ := at_ h3
    have := gr_lt (ns := ns) (w := w) (k := k) (by omega)
    simp
    omega
  · unfold fitN
    refine List.all_eq_true.mpr fun q hq => ?_
    obtain ⟨k, h2, h3⟩ := end_ix hq
    obtain ⟨e1, l1⟩ := at_ h2
    have nxe : q.2 = nx ns w q.1 := by
      rw [e1, ← gr_step (by omega)]
      rcases h3 with h3 | ⟨h3, h4⟩
      · exact (at_ h3).1
      · rw [h4, h3]
        exact (gr_end h1).symm
    obtain ⟨n1, n2, n3, n4⟩ := nx_spec (w := w) l1
    simp only [decide_eq_true_eq]
    rw [nxe]
    by_cases e : nx ns w q.1 - 1 = q.1
    · rw [e, ext_one l1]
      exact hw _ (List.getElem_mem l1)
    · exact n3 _ (by omega) (by omega)
/-- bars: ascending places, two neighbours of which do not fit one line -/
structure Bar (ns : List Int) (w : Int) (l : List Nat) : Prop where
  ne : l ≠ []
  asc : ascN l = true
  lt : ∀ a ∈ l, a < ns.length
  far : barN ns w l = true
theorem Bar.fars {l : List Nat} (h : Bar ns w l) {q : Nat × Nat} (hq : q ∈ adjN l) : q.1 < q.2 ∧ q.2 < ns.length ∧ w < ext ns q.1 q.2 := by
  refine ⟨asc_adj h.asc hq, h.lt _ (adj_mem hq).2, ?_⟩
  have := h.far
  unfold barN at this
  simpa using List.all_eq_true.mp this q hq
theorem Bar.ge (hp : ∀ x ∈ ns, 1 ≤ x) {l : List Nat} (h : Bar ns w l) : ∀ (k a : Nat), l[k]? = some a → gr ns w k ≤ a
  | 0, a, ha => Nat.zero_le _
  | k + 1, a, ha => by
    have hk : k < l.length := by have := (List.getElem?_eq_some_iff.mp ha).1; omega
    have hb := List.getElem?_eq_getElem hk
    have ih := Bar.ge hp h k _ hb
    obtain ⟨f1, f2, f3⟩ := h.fars (adj_at hb ha)
    simp only at f1 f2 f3
    have ltb := h.lt _ (List.getElem_mem hk)
    have hg : gr ns w k < ns.length := by omega
    rw [gr_step hg]
    refine Nat.le_trans (nx_mono hp ih ltb) ?_
    obtain ⟨n1, n2, n3, n4⟩ := nx_spec (w := w) ltb
    by_cases e : nx ns w l[k] ≤ a
    · exact e
    · have := n3 a f1 (by omega)
      omega
/-- no bars have more items than there are greedy lines -/
theorem Bar.many (hp : ∀ x ∈ ns, 1 ≤ x) (h1 : 0 < ns.length) {l : List Nat} (h : Bar ns w l) : l.length ≤ DL.many ns w := by
  have hl : 1 ≤ l.length := List.length_pos_iff.mpr h.ne
  have hk : l.length - 1 < l.length := by omega
  have := h.ge hp _ _ (List.getElem?_eq_getElem hk)
  have lt := h.lt _ (List.getElem_mem hk)
  have := (gr_in_iff (w := w) h1 (k := l.length - 1)).mp (by omega)
  omega
theorem bar_starts (h1 : 0 < ns.length) : Bar ns w (starts ns w) := by
  have at_ : ∀ {i b}, (starts ns w)[i]? = some b → b = gr ns w i ∧ b < ns.length := fun h => DL.starts_at h1 h
  refine ⟨by unfold starts; simp, ?_, fun a ha => starts_lt h1 a ha, ?_⟩
  · unfold ascN
    refine List.all_eq_true.mpr fun q hq => ?_
    obtain ⟨k, h2, h3⟩ := adj_ix hq
    obtain ⟨e1, l1⟩ := at_ h2
    obtain ⟨e2, l2⟩ := at_ h3
    have := gr_lt (ns := ns) (w := w) (k := k) (by omega)
    simp
    omega
  · unfold barN
    refine List.all_eq_true.mpr fun q hq => ?_
    obtain ⟨k, h2, h3⟩ := adj_ix hq
    obtain ⟨e1, l1⟩ := at_ h2
    obtain ⟨e2, l2⟩ := at_ h3
    obtain ⟨n1, n2, n3, n4⟩ := nx_spec (w := w) l1
    have e3 : q.2 = nx ns w q.1 := by rw [e1, ← gr_step (by omega)]; exact e2
    simp only [decide_eq_true_eq]
    rw [e3]
    exact n4 (by omega)
end
end DL
end
section
namespace DL
open PySem
section
variable {ns : List Int} {w : Int}
theorem asc_of {l : List Nat} (h : ∀ (k a b : Nat), l[k]? = some a → l[k + 1]? = some b → a < b) : ascN l = true := by
  unfold ascN
  refine List.all_eq_true.mpr fun q hq => ?_
  obtain ⟨k, h2, h3⟩ := adj_ix hq
  exact decide_eq_true (h k _ _ h2 h3)
theorem Brk.of {l : List Nat} (h0 : l[0]? = some 0) (hl : ∀ a ∈ l, a < ns.length) (h : ∀ (k a b : Nat), l[k]? = some a → (l[k + 1]? = some b ∨ (k + 1 = l.length ∧ b = ns.length)) → a < b ∧ ext ns a (b - 1) ≤ w) : Brk ns w l := by
  refine ⟨(fun z => by rw [z] at h0; cases h0), h0, asc_of fun k a b h1 h2 => (h k a b h1 (.inl h2)).1, hl, ?_⟩
  unfold fitN
  refine List.all_eq_true.mpr fun q hq => ?_
  obtain ⟨k, h2, h3⟩ := end_ix hq
  exact decide_eq_true (h k _ _ h2 h3).2
theorem Bar.of {l : List Nat} (h0 : l ≠ []) (hl : ∀ a ∈ l, a < ns.length) (h : ∀ (k a b : Nat), l[k]? = some a → l[k + 1]? = some b → a < b ∧ w < ext ns a b) : Bar ns w l := by
  refine ⟨h0, asc_of fun k a b h1 h2 => (h k a b h1 h2).1, hl, ?_⟩
  unfold barN
  refine List.all_eq_true.mpr fun q hq => ?_
  obtain ⟨k, h2, h3⟩ := adj_ix hq
  exact decide_eq_true (h k _ _ h2 h3).2
theorem Bar.step {l : List Nat} (h : Bar ns w l) {k a b : Nat} (h1 : l[k]? = some a) (h2 : l[k + 1]? = some b) : a < b ∧ b < ns.length ∧ w < ext ns a b := h.fars (adj_at h1 h2)
/-- bars with one place left out are bars -/
theorem Bar.less (hp : ∀ x ∈ ns, 1 ≤ x) {l : List Nat} (h : Bar ns w l) (h2 : 1 < l.length) (r : Nat) (hr : r < l.length) : Bar ns w (l.take r ++ l.drop (r + 1)) := by
  have len : (l.take r ++ l.drop (r + 1)).length = l.length - 1 := by
    rw [List.length_append, List.length_take, List.length_drop]; omega
  have at_ : ∀ k, (l.take r ++ l.drop (r + 1))[k]? = if k < r then l[k]? else l[k + 1]? := fun k => by
    by_cases hk : k < r
    · rw [if_pos hk, List.getElem?_append_left (by rw [List.length_take]; omega), List.getElem?_take, if_pos hk]
    · rw [if_neg hk, List.getElem?_append_right (by rw [List.length_take]; omega), List.getElem?_drop, List.length_take]
      congr 1
      omega
  refine .of (fun z => by rw [z] at len; simp at len; omega) (fun a ha => ?_) fun k a b h3 h4 => ?_
  · rcases List.mem_append.mp ha with z | z
    · exact h.lt a (List.mem_of_mem_take z)
    · exact h.lt a (List.mem_of_mem_drop z)
  · rw [at_] at h3 h4
    by_cases c1 : k + 1 < r
    · rw [if_pos (by omega)] at h3
      rw [if_pos c1] at h4
      have := h.step h3 h4
      exact ⟨this.1, this.2.2⟩
    · rw [if_neg c1] at h4
      by_cases c2 : k < r
      · rw [if_pos c2] at h3
        have hm : k + 1 < l.length := by omega
        have s1 := h.step h3 (List.getElem?_eq_getElem hm)
        have s2 := h.step (List.getElem?_eq_getElem hm) h4
        have := ext_mono_r hp (i := a) (j := l[k + 1]) (by omega) b (by omega) s2.2.1
        exact ⟨by omega, by omega⟩
      · rw [if_neg c2] at h3
        have := h.step h3 h4
        exact ⟨this.1, this.2.2⟩
end
theorem comp_filtE {it : XA} {tg : Tg} {t : XT} {e : XE} {vs : List Nat} {E : Env} {ds : List D} {p : D → Bool} {f : D → D} (hit : it E = ret ds) (hl : ds.length ≤ 1000000)
    (hs : ∀ d ∈ ds, ∃ E1, tg.put d (wipeE E vs) = some E1 ∧ t E1 = ret (p d) ∧ (p d = true → e E1 = ret (f d))) : eComp it tg t e vs E = ret (.list ((ds.filter p).map f)) := by
  rw [x_comp, hit, bnd_ret, comp_filt p f ds [] (by simp only [List.length_nil]; omega) hs, noX_ret, bnd_ret, List.nil_append]
theorem long_all {ns : List Int} {w : Int} (h : Long ns w none) : ∀ x ∈ ns, x ≤ w := fun x hx => by
  cases h with
  | no h =>
    obtain ⟨j, hj, e⟩ := List.getElem_of_mem hx
    exact h j x (by rw [List.getElem?_eq_getElem hj, e])
end DL
end
section
namespace DL
open PySem
def isI (i : Int) : D → Bool
  | .int v => decide (v = i)
  | _ => false
end DL
end
section
namespace DL
open PySem
section
variable {as bs : List Int} {w : Int}
theorem Brk.last {ns : List Int} {l : List Nat} (h : Brk ns w l) {k a : Nat} (h1 : l[k]? = some a) (h2 : k + 1 = l.length) : a < ns.length ∧ ext ns a (ns.length - 1) ≤ w := by
  have := h.fits (end_last h1 h2)
  exact ⟨this.1, this.2.2⟩
theorem Brk.mid {ns : List Int} {l : List Nat} (h : Brk ns w l) {k a b : Nat} (h1 : l[k]? = some a) (h2 : l[k + 1]? = some b) : a < b ∧ b < ns.length ∧ ext ns a (b - 1) ≤ w := by
  have := h.fits (end_at h1 h2)
  exact ⟨this.1, h.lt b (List.mem_of_getElem? h2), this.2.2⟩
theorem nx_uniq {ns : List Int} (hp : ∀ x ∈ ns, 1 ≤ x) {a b : Nat} (h : a < b) (hb : b ≤ ns.length) (h1 : b = a + 1 ∨ ext ns a (b - 1) ≤ w) (h2 : b < ns.length → w < ext ns a b) : nx ns w a = b := by
  obtain ⟨n1, n2, n3, n4⟩ := nx_spec (w := w) (show a < ns.length by omega)
  by_cases c : nx ns w a < b
  · have e1 := n4 (by omega)
    have e2 := ext_mono_r hp (i := a) (j := nx ns w a) (by omega) (b - 1) (by omega) (by omega)
    rcases h1 with h1 | h1
    · omega
    · omega
  · by_cases c2 : b < nx ns w a
    · have := n3 b h c2
      have := h2 (by omega)
      omega
    · omega
end
end DL
end
section
namespace DL
open PySem
end DL
end
section
namespace DL
open PySem
theorem bad_none : ∀ (ns : List Int) (i : Nat), (∀ x ∈ ns, 1 ≤ x ∧ x ≤ 60) → firstBad (ns.map PyData.int) i = .none
  | [], _, _ => rfl
  | x :: r, i, h => by
    have hx := h x (.head _)
    show (if intIn 1 60 (.int x) = true then firstBad (r.map PyData.int) (i + 1) else _) = _
    rw [if_pos (by unfold intIn; simp; exact hx)]
    exact bad_none r (i + 1) fun y hy => h y (.tail _ hy)
section
variable {w : Int}
variable {ns : List Int}
theorem alone_line (hp : ∀ x ∈ ns, 1 ≤ x) (hw : ∀ x ∈ ns, x ≤ w) (h1 : 0 < ns.length) : many ns w = 1 ↔ ext ns 0 (ns.length - 1) ≤ w := by
  have e1 : gr ns w 1 = nx ns w 0 := gr_step (k := 0) h1
  have m1 := many_pos (ns := ns) (w := w)
  obtain ⟨n1, n2, n3, n4⟩ := nx_spec (w := w) h1
  constructor
  · intro h
    have := gr_end (w := w) h1
    rw [h, e1] at this
    by_cases c : ns.length = 1
    · have := ext_one h1
      rw [show ns.length - 1 = 0 by omega, this]
      exact hw _ (List.getElem_mem h1)
    · exact n3 _ (by omega) (by omega)
  · intro h
    have := nx_uniq (w := w) hp h1 (Nat.le_refl _) (.inr h) (fun z => absurd z (Nat.lt_irrefl _))
    have g := gr_in_iff (w := w) h1 (k := 1)
    omega
end
end DL
end
section
namespace DL
open PySem
/-- the first starts of a breaking -/
structure Pre (ns : List Int) (w : Int) (l : List Nat) : Prop where
  ne : l ≠ []
  zero : l[0]? = some 0
  lt : ∀ a ∈ l, a < ns.length
  len : ∀ (k a : Nat), l[k]? = some a → k ≤ a
  fit : ∀ (k a b : Nat), l[k]? = some a → l[k + 1]? = some b → a < b ∧ ext ns a (b - 1) ≤ w
section
variable {ns : List Int} {w : Int}
theorem Pre.push {l : List Nat} {a e : Nat} (h : Pre ns w (l ++ [a])) (h1 : a < e) (h2 : e < ns.length) (h3 : ext ns a (e - 1) ≤ w) : Pre ns w (l ++ [a] ++ [e]) := by
  have ha : (l ++ [a])[l.length]? = some a := by simp
  have hl := h.len _ _ ha
  refine ⟨by simp, ?_, ?_, ?_, ?_⟩
  · rw [List.getElem?_append_left (by simp)]; exact h.zero
  · intro x hx
    rcases List.mem_append.mp hx with z | z
    · exact h.lt x z
    · rw [List.mem_singleton] at z; omega
  · intro k x hx
    by_cases c : k < (l ++ [a]).length
    · rw [List.getElem?_append_left c] at hx; exact h.len _ _ hx
    · have hk := (List.getElem?_eq_some_iff.mp hx).1
      rw [List.length_append, List.length_singleton] at hk
      have : k = (l ++ [a]).length := by omega
      subst this
      simp at hx
      simp
      omega
  · intro k x y hx hy
    by_cases c : k + 1 < (l ++ [a]).length
    · rw [List.getElem?_append_left (by omega)] at hx
      rw [List.getElem?_append_left c] at hy
      exact h.fit _ _ _ hx hy
    · have hk := (List.getElem?_eq_some_iff.mp hy).1
      rw [List.length_append, List.length_singleton] at hk
      have e1 : k + 1 = (l ++ [a]).length := by omega
      rw [List.getElem?_append_left (by omega)] at hx
      have e2 : k = l.length := by rw [List.length_append, List.length_singleton] at e1; omega
      subst e2
      rw [ha] at hx
      rw [e1] at hy
      simp at hy
      cases hx
      subst hy
      exact ⟨h1, h3⟩
theorem Pre.brk {l : List Nat} {a : Nat} (h : Pre ns w (l ++ [a])) (h3 : ext ns a (ns.length - 1) ≤ w) : Brk ns w (l ++ [a]) := by
  have ha : (l ++ [a])[l.length]? = some a := by simp
  refine .of h.zero h.lt fun k x y hx hy => ?_
  rcases hy with hy | ⟨hy, rfl⟩
  · exact h.fit _ _ _ hx hy
  · rw [List.length_append, List.length_singleton] at hy
    have : k = l.length := by omega
    subst this
    rw [ha] at hx
    cases hx
    exact ⟨h.lt a (by simp), h3⟩
end
end DL
end
section
namespace DL
open PySem
section
variable {ns : List Int} {w : Int}
theorem Brk.wide {v : Int} {l : List Nat} (h : Brk ns w l) (hv : w ≤ v) : Brk ns v l := by
  refine .of h.zero h.lt fun k a b h1 h2 => ?_
  rcases h2 with h2 | ⟨h2, rfl⟩
  · have := h.mid h1 h2
    exact ⟨this.1, by omega⟩
  · have := h.last h1 h2
    exact ⟨this.1, by omega⟩
theorem Brk.ixs {l : List Nat} (h : Brk ns w l) : ∀ (k a : Nat), l[k]? = some a → k ≤ a
  | 0, _, _ => Nat.zero_le _
  | k + 1, b, hb => by
    have hk := (List.getElem?_eq_some_iff.mp hb).1
    have ha := List.getElem?_eq_getElem (l := l) (show k < l.length by omega)
    have := h.ixs k _ ha
    have := h.mid ha hb
    omega
theorem Brk.few {l : List Nat} (h : Brk ns w l) : l.length ≤ ns.length := by
  have l0 := h.len
  have ha := List.getElem?_eq_getElem (l := l) (show l.length - 1 < l.length by omega)
  have := h.ixs _ _ ha
  have := h.lt _ (List.mem_of_getElem? ha)
  omega
end
end DL
end
section
namespace DL
open PySem
theorem many_mono {ns : List Int} {v w : Int} (hp : ∀ x ∈ ns, 1 ≤ x) (h1 : 0 < ns.length) (hv : ∀ x ∈ ns, x ≤ v) (h : v ≤ w) : many ns w ≤ many ns v := ((brk_starts h1 hv).wide h).many hp h1
end DL
end
section
namespace DL
open PySem
section
variable {ns : List Int} {m : Int} {c k : Nat}
theorem Least.iff (h : Least ns m c k) (hp : ∀ x ∈ ns, 1 ≤ x) (h1 : 0 < ns.length) (hm : ∀ x ∈ ns, x ≤ m) {v : Int} (hv : m ≤ v) : many ns v ≤ c ↔ m + k ≤ v := by
  constructor
  · intro hc
    by_cases g : m + (k : Int) ≤ v
    · exact g
    · have := h.first (v - m).toNat (by omega)
      rw [show m + ((v - m).toNat : Int) = v by omega] at this
      unfold many at hc
      omega
  · intro g
    have a := many_mono (v := m + k) hp h1 (fun x hx => by have := hm x hx; omega) g
    have b := h.fits
    unfold many at *
    omega
theorem Least.zero (h : Least ns m c k) (hp : ∀ x ∈ ns, 1 ≤ x) (h1 : 0 < ns.length) (hm : ∀ x ∈ ns, x ≤ m) (hc : ns.length ≤ c) : k = 0 := by
  have := (brk_starts (w := m) h1 hm).few
  have := (h.iff hp h1 hm (v := m) (Int.le_refl _)).mp (by unfold many; omega)
  omega
theorem Least.one (h : Least ns m 1 k) (hp : ∀ x ∈ ns, 1 ≤ x) (h1 : 0 < ns.length) (hm : ∀ x ∈ ns, x ≤ m) (hin : m ∈ ns) : m + k = ext ns 0 (ns.length - 1) := by
  have al : ∀ v, m ≤ v → (many ns v ≤ 1 ↔ ext ns 0 (ns.length - 1) ≤ v) := fun v hv => by
    rw [← alone_line hp (fun x hx => Int.le_trans (hm x hx) hv) h1]
    have := many_pos (ns := ns) (w := v)
    omega
  have a := (al (m + k) (by omega)).mp ((h.iff hp h1 hm (by omega)).mpr (Int.le_refl _))
  obtain ⟨i, hi, e⟩ := List.getElem_of_mem hin
  have e1 := ext_one hi
  have e2 := ext_mono_r hp (i := i) (j := i) (Nat.le_refl _) (ns.length - 1) (by omega) (by omega)
  have e3 := ext_mono_l hp (j := ns.length - 1) (by omega) i 0 (by omega)
  rw [Nat.zero_add] at e3
  have b := (h.iff hp h1 hm (v := ext ns 0 (ns.length - 1)) (by omega)).mp ((al _ (by omega)).mpr (Int.le_refl _))
  omega
theorem Bar.take {w : Int} {l : List Nat} (h : Bar ns w l) {j : Nat} (hj : 1 ≤ j) : Bar ns w (l.take j) := by
  refine .of (fun z => ?_) (fun a ha => h.lt a (List.mem_of_mem_take ha)) fun i a b ha hb => ?_
  · have := congrArg List.length z
    rw [List.length_take, List.length_nil] at this
    have := List.length_pos_iff.mpr h.ne
    omega
  · rw [List.getElem?_take] at ha hb
    split at ha
    · split at hb
      · have := h.step ha hb
        exact ⟨this.1, this.2.2⟩
      · cases hb
    · cases ha
end
end DL
end
section
namespace DL
open PySem
end DL
end
section
namespace DL
open PySem
end DL
end
section
namespace DL
open PySem
theorem ne_self {d : D} (h : SeqAt.shaped d = true) (he : PyData.eqv d d = true) : opCmp .ne d d = ret false := by
  show bnd (opEq _ _) _ = _
  unfold opEq
  rw [grd_pos (eqOk_of h h), he]
  rfl
end DL
end
section
namespace DL
open PySem
structure RowM (ns : List Int) (m : Int) : Prop where
  pos : 0 < ns.length
  few : ns.length ≤ 24
  rng : ∀ x ∈ ns, 1 ≤ x ∧ x ≤ 60
  mx : ∀ x ∈ ns, x ≤ m
  mem : m ∈ ns
theorem RowM.p {ns : List Int} {m : Int} (h : RowM ns m) : ∀ x ∈ ns, 1 ≤ x := fun x hx => (h.rng x hx).1
theorem RowM.n0 {ns : List Int} {m : Int} (h : RowM ns m) : ∀ x ∈ ns, 0 ≤ x := fun x hx => by have := h.p x hx; omega
theorem RowM.ms {ns : List Int} {m : Int} (h : RowM ns m) : m ≤ ns.sum := mem_sum h.n0 h.mem
theorem RowM.m1 {ns : List Int} {m : Int} (h : RowM ns m) : 1 ≤ m ∧ m ≤ 60 := h.rng m h.mem
theorem RowM.sum {ns : List Int} {m : Int} (h : RowM ns m) : 0 ≤ ns.sum ∧ ns.sum ≤ 1440 := by
  have sb := sum_part (i := 0) (k := 24) h.rng h.few
  rwa [List.drop_zero, List.take_of_length_le h.few] at sb
end DL
end
section
namespace DL
open PySem
section
variable {ns bs : List Int} {m l : Int}
theorem RowM.max (R : RowM ns m) : bi1 .max (.tuple (ns.map PyData.int)) = ret (.int m) := by
  obtain ⟨k, e, hk⟩ := max_ints R.pos
  have h1 := R.mx k hk
  have h2 := long_all (max_long e (Int.le_refl k)) m R.mem
  rw [e, show k = m by omega]
end
theorem RowN.ex {ns : List Int} (h : RowN ns) : ∃ m, RowM ns m := by
  obtain ⟨m, e, hm⟩ := max_ints (ns := ns) (by have := h.one; omega)
  exact ⟨m, by have := h.one; omega, h.most, h.words, long_all (max_long e (Int.le_refl m)), hm⟩
end DL
end
section
namespace DL
open PySem
/-- word i of the row without an end -/
def aw (ns : List Int) (i : Nat) : Int := ns.getD (i % ns.length) 0
/-- how wide the m words from p on are -/
def us (ns : List Int) (p : Nat) : Nat → Int
  | 0 => -1
  | m + 1 => us ns p m + 1 + aw ns (p + m)
def wfF (ns : List Int) (w : Int) (p : Nat) : Nat → Nat → Nat
  | 0, m => m
  | f + 1, m => if us ns p (m + 1) ≤ w then wfF ns w p f (m + 1) else m
/-- how many words the line from p on takes -/
def wf (ns : List Int) (w : Int) (p : Nat) : Nat := wfF ns w p 1001 0
/-- where line k starts -/
def fs (ns : List Int) (w : Int) : Nat → Nat
  | 0 => 0
  | k + 1 => fs ns w k + wf ns w (fs ns w k)
/-- a row at a width that it fits -/
structure RowW (ns : List Int) (w : Int) : Prop where
  row : RowN ns
  fit : ∀ x ∈ ns, x ≤ w
  top : w ≤ 2000
section
variable {ns : List Int} {w : Int}
theorem RowW.pos (R : RowW ns w) : 0 < ns.length := by have := R.row.one; omega
theorem aw_mem (h : 0 < ns.length) (i : Nat) : aw ns i ∈ ns := by
  have hl := Nat.mod_lt i h
  unfold aw
  rw [List.getD_eq_getElem?_getD, List.getElem?_eq_getElem hl]
  exact List.getElem_mem hl
theorem RowW.aw (R : RowW ns w) (i : Nat) : 1 ≤ aw ns i ∧ DL.aw ns i ≤ 60 ∧ DL.aw ns i ≤ w :=
  have h := aw_mem R.pos i
  ⟨(R.row.words _ h).1, (R.row.words _ h).2, R.fit _ h⟩
theorem aw_mod (i j : Nat) (h : i % ns.length = j % ns.length) : aw ns i = aw ns j := by
  unfold aw
  rw [h]
theorem us_mod {p q : Nat} (h : p % ns.length = q % ns.length) : ∀ m, us ns p m = us ns q m
  | 0 => rfl
  | m + 1 => by
    unfold us
    rw [us_mod h m, aw_mod (p + m) (q + m) (by rw [Nat.add_mod, h, ← Nat.add_mod])]
theorem wfF_mod {p q : Nat} (h : p % ns.length = q % ns.length) : ∀ f m, wfF ns w p f m = wfF ns w q f m
  | 0, m => rfl
  | f + 1, m => by
    unfold wfF
    rw [us_mod h, wfF_mod h f (m + 1)]
theorem wf_mod {p q : Nat} (h : p % ns.length = q % ns.length) : wf ns w p = wf ns w q := wfF_mod h _ _
theorem us_low (R : RowW ns w) (p : Nat) : ∀ m : Nat, 2 * (m : Int) - 1 ≤ us ns p m
  | 0 => Int.le_refl _
  | m + 1 => by
    have h := us_low R p m
    have := (R.aw (p + m)).1
    unfold us
    omega
theorem wfF_spec (R : RowW ns w) (p : Nat) : ∀ f m, 1001 ≤ m + f → us ns p m ≤ w → us ns p (wfF ns w p f m) ≤ w ∧ w < us ns p (wfF ns w p f m + 1)
  | 0, m, hf, h => by
    have := us_low R p m
    have := R.top
    omega
  | f + 1, m, hf, h => by
    unfold wfF
    by_cases c : us ns p (m + 1) ≤ w
    · rw [if_pos c]
      exact wfF_spec R p f (m + 1) (by omega) c
    · rw [if_neg c]
      exact ⟨h, by omega⟩
theorem wf_spec (R : RowW ns w) (p : Nat) : us ns p (wf ns w p) ≤ w ∧ w < us ns p (wf ns w p + 1) := by
  refine wfF_spec R p 1001 0 (by omega) ?_
  have := R.aw 0
  show (-1 : Int) ≤ w
  omega
theorem wf_pos (R : RowW ns w) (p : Nat) : 1 ≤ wf ns w p := by
  by_cases c : wf ns w p = 0
  · have h := (wf_spec R p).2
    rw [c] at h
    have := R.aw (p + 0)
    unfold us us at h
    omega
  · omega
theorem fs_lt (R : RowW ns w) (k : Nat) : fs ns w k < fs ns w (k + 1) := by
  have := wf_pos R (fs ns w k)
  show fs ns w k < fs ns w k + _
  omega
theorem fs_mono (R : RowW ns w) {j : Nat} : ∀ {k : Nat}, j ≤ k → fs ns w j + (k - j) ≤ fs ns w k
  | 0, h => by
    have : j = 0 := by omega
    subst this
    exact Nat.le_refl _
  | k + 1, h => by
    by_cases c : j = k + 1
    · subst c
      omega
    · have := fs_mono R (k := k) (j := j) (by omega)
      have := fs_lt R k
      omega
theorem fs_lt' (R : RowW ns w) {j k : Nat} (h : j < k) : fs ns w j < fs ns w k := by have := fs_mono R (Nat.le_of_lt h); omega
theorem fs_ge (R : RowW ns w) (k : Nat) : k ≤ fs ns w k := by
  have := fs_mono R (Nat.zero_le k)
  omega
/-- from equal places on the lines go alike -/
theorem fs_round {i j : Nat} (hij : i ≤ j) (h : fs ns w i % ns.length = fs ns w j % ns.length) (hm : fs ns w i ≤ fs ns w j) : ∀ k, fs ns w (j + k) = fs ns w (i + k) + (fs ns w j - fs ns w i)
  | 0 => by simp only [Nat.add_zero]; omega
  | k + 1 => by
    have ih := fs_round hij h hm k
    have e : wf ns w (fs ns w (j + k)) = wf ns w (fs ns w (i + k)) := wf_mod (by
      rw [ih]
      have d : (fs ns w j - fs ns w i) % ns.length = 0 := Nat.sub_mod_eq_zero_of_mod_eq h.symm
      rw [Nat.add_mod, d, Nat.add_zero, Nat.mod_mod])
    show fs ns w (j + k) + wf ns w (fs ns w (j + k)) = fs ns w (i + k) + wf ns w (fs ns w (i + k)) + _
    rw [e, ih]
    omega
/-- the round: the first start that comes again within the row is b, first at line K -/
structure Rnd (ns : List Int) (w : Int) (b K : Nat) : Prop where
  lt : b < K
  same : fs ns w b % ns.length = fs ns w K % ns.length
  ne : ∀ i j, i < j → j < K → fs ns w i % ns.length ≠ fs ns w j % ns.length
theorem pigeon : ∀ (n : Nat) (f : Nat → Nat), (∀ i, i ≤ n → f i < n) → ∃ i j, i < j ∧ j ≤ n ∧ f i = f j
  | 0, f, h => absurd (h 0 (Nat.le_refl _)) (by omega)
  | n + 1, f, h => by
    by_cases c : ∃ i, i ≤ n ∧ f i = f (n + 1)
    · obtain ⟨i, h1, h2⟩ := c
      exact ⟨i, n + 1, by omega, Nat.le_refl _, h2⟩
    · have c : ∀ i, i ≤ n → f i ≠ f (n + 1) := fun i hi e => c ⟨i, hi, e⟩
      have hv := h (n + 1) (Nat.le_refl _)
      obtain ⟨i, j, h1, h2, h3⟩ := pigeon n (fun i => if f i > f (n + 1) then f i - 1 else f i) fun i hi => by
        have a := h i (by omega)
        have b := c i hi
        show (if f i > f (n + 1) then f i - 1 else f i) < n
        split <;> omega
      refine ⟨i, j, h1, by omega, ?_⟩
      have a := c i (by omega)
      have b := c j h2
      have h3 : (if f i > f (n + 1) then f i - 1 else f i) = (if f j > f (n + 1) then f j - 1 else f j) := h3
      split at h3 <;> split at h3 <;> omega
theorem Rnd.ex (R : RowW ns w) : ∃ b K, Rnd ns w b K ∧ K ≤ ns.length := by
  have step : ∀ k : Nat, (∃ b K, Rnd ns w b K ∧ K < k) ∨ ∀ i j, i < j → j < k → fs ns w i % ns.length ≠ fs ns w j % ns.length := by
    intro k
    induction k with
    | zero => exact .inr fun i j _ h => by omega
    | succ k ih =>
      rcases ih with ⟨b, K, h1, h2⟩ | ih
      · exact .inl ⟨b, K, h1, by omega⟩
      · by_cases c : ∃ i, i < k ∧ fs ns w i % ns.length = fs ns w k % ns.length
        · obtain ⟨i, h1, h2⟩ := c
          exact .inl ⟨i, k, ⟨h1, h2, ih⟩, by omega⟩
        · refine .inr fun i j hij hj => ?_
          by_cases c2 : j = k
          · rw [c2]
            exact fun e => c ⟨i, by omega, e⟩
          · exact ih i j hij (by omega)
  rcases step (ns.length + 1) with ⟨b, K, h1, h2⟩ | h
  · exact ⟨b, K, h1, by omega⟩
  · obtain ⟨i, j, h1, h2, h3⟩ := pigeon ns.length (fun i => fs ns w i % ns.length) fun i _ => Nat.mod_lt _ R.pos
    exact absurd h3 (h i j h1 (by omega))
variable {b K : Nat}
/-- so many words a round has -/
def rw' (ns : List Int) (w : Int) (b K : Nat) : Nat := fs ns w K - fs ns w b
theorem Rnd.next (R : RowW ns w) (r : Rnd ns w b K) {k : Nat} (h : b ≤ k) : fs ns w (k + (K - b)) = fs ns w k + rw' ns w b K := by
  have lt := fs_lt' R r.lt
  have := r.lt
  have e := fs_round (Nat.le_of_lt r.lt) r.same (Nat.le_of_lt lt) (k - b)
  rw [show K + (k - b) = k + (K - b) by omega, show b + (k - b) = k by omega] at e
  exact e
/-- n lines start before q -/
structure Bel (ns : List Int) (w : Int) (q n : Nat) : Prop where
  lo : ∀ k, k < n → fs ns w k < q
  hi : q ≤ fs ns w n
theorem Bel.ex (R : RowW ns w) (q : Nat) : ∃ n, Bel ns w q n ∧ n ≤ q := by
  have step : ∀ k : Nat, (∃ n, Bel ns w q n ∧ n ≤ k) ∨ ∀ i, i ≤ k → fs ns w i < q := by
    intro k
    induction k with
    | zero =>
      by_cases c : fs ns w 0 < q
      · exact .inr fun i hi => by rw [show i = 0 by omega]; exact c
      · exact .inl ⟨0, ⟨fun k h => by omega, by omega⟩, Nat.le_refl _⟩
    | succ k ih =>
      rcases ih with ⟨n, h1, h2⟩ | ih
      · exact .inl ⟨n, h1, by omega⟩
      · by_cases c : fs ns w (k + 1) < q
        · refine .inr fun i hi => ?_
          by_cases c2 : i = k + 1
          · rw [c2]; exact c
          · exact ih i (by omega)
        · exact .inl ⟨k + 1, ⟨fun i hi => ih i (by omega), by omega⟩, Nat.le_refl _⟩
  rcases step q with h | h
  · exact h
  · have := h q (Nat.le_refl _)
    have := fs_ge R q
    omega
theorem Bel.iff (R : RowW ns w) {q n : Nat} (h : Bel ns w q n) {k : Nat} : fs ns w k < q ↔ k < n := by
  constructor
  · intro a
    by_cases c : k < n
    · exact c
    · have := fs_mono R (j := n) (k := k) (by omega)
      have := h.hi
      omega
  · exact h.lo k
theorem Bel.mono (R : RowW ns w) {q p n m : Nat} (h : Bel ns w q n) (g : Bel ns w p m) (hq : q ≤ p) : n ≤ m := by
  by_cases c : n ≤ m
  · exact c
  · have := h.lo m (by omega)
    have := g.hi
    omega
theorem Bel.pos (R : RowW ns w) {q n : Nat} (h : Bel ns w q n) (hq : 0 < q) : 1 ≤ n := by
  have := (h.iff R (k := 0)).mp (by show 0 < q; exact hq)
  omega
end
end DL
end
section
namespace DL
open PySem
/-- a while that draws nothing and returns from within -/
inductive RunsR (t : XT) (s : XS) : Nat → Env → D → Prop
  | last {E : Env} {d : D} : t E = ret true → s E = ret (.rt d) → RunsR t s 0 E d
  | turn {k : Nat} {E E' : Env} {d : D} : t E = ret true → s E = ret (.nx E') → RunsR t s k E' d → RunsR t s (k + 1) E d
theorem RunsR.at_ {t : XT} {s : XS} : ∀ {k : Nat} {E : Env} {d : D}, RunsR t s k E d → ∀ n, whileL t s n E = if k < n then ret (.rt d) else stuck
  | _, _, _, _, 0 => by simp [whileL]
  | _, E, _, .last h h2, n + 1 => by
    show bnd (t E) _ = _
    rw [h, bnd_ret, if_pos rfl, h2, bnd_ret, if_pos (Nat.succ_pos n)]
  | _, E, _, .turn (k := k) (E' := E') h1 h2 r, n + 1 => by
    show bnd (t E) _ = _
    rw [h1, bnd_ret, if_pos rfl, h2, bnd_ret]
    show whileL t s n E' = _
    rw [RunsR.at_ r n]
    by_cases h : k < n
    · rw [if_pos h, if_pos (by omega)]
    · rw [if_neg h, if_neg (by omega)]
theorem RunsR.eq {t : XT} {s : XS} {k : Nat} {E : Env} {d : D} (r : RunsR t s k E d) : sWhile t s E = ret (.rt d) := by
  funext c P X
  show (∃ n, whileL t s n E c P X) = _
  refine propext ⟨fun ⟨n, h⟩ => ?_, fun h => ⟨k + 1, ?_⟩⟩
  · rw [r.at_ n] at h
    split at h
    · exact h
    · exact h.elim
  · rw [r.at_ (k + 1), if_pos (Nat.lt_succ_self k)]
    exact h
end DL
end
section
namespace DL
open PySem
theorem x_ixOf (a b : XE) (E : Env) : eIxOf a b E = bnd (a E) fun x => match x with | .list xs => bnd (b E) fun y => opIxOf (.list xs) y | _ => stuck := id rfl
end DL
end
section
namespace DL
open PySem
section
variable {ns : List Int} {w : Int}
theorem RowW.long (R : RowW ns w) : Long ns w none := .no fun j x hx => R.fit x (List.mem_of_getElem? hx)
theorem RowW.of (r : RowN ns) (h : Long ns w none) (hw : w ≤ 2000) : RowW ns w := ⟨r, long_all h, hw⟩
/-- where the line k lines behind p starts -/
def fp (ns : List Int) (w : Int) (p : Nat) : Nat → Nat
  | 0 => p
  | k + 1 => fp ns w p k + wf ns w (fp ns w p k)
def ad (ns : List Int) (w : Int) (p k : Nat) : Nat := fp ns w p k - p
end
end DL
end
section
namespace DL
open PySem
end DL
end
section
namespace DL
open PySem
end DL
end
section
namespace DL
open PySem
theorem RowN.tame {ns : List Int} (h : RowN ns) : Tame 30 1 (.tuple (ns.map PyData.int)) := (tame_tup (tame_ints fun x hx => by have := h.words x hx; omega)).mono (by have := h.most; omega) (by decide)
end DL
end
section
namespace DL
open PySem
end DL
end
section
namespace DL
open PySem
end DL
end
section
namespace DL
open PySem
def wr (ns : List Int) : D := wD (.tuple (ns.map PyData.int))
theorem x_held (a : XE) (E : Env) : eHeld a E = bnd (a E) heldOf := id rfl
theorem held_wr (ns : List Int) : heldOf (wr ns) = ret (.tuple (ns.map PyData.int)) := id rfl
def repI (k : Int) (a : List Int) : List Int := (List.replicate k.toNat a).flatten
theorem repI_len (k : Int) (a : List Int) : (repI k a).length = k.toNat * a.length := by
  unfold repI
  rw [List.length_flatten, List.map_replicate, List.sum_replicate_nat]
theorem repI_mem {k : Int} {a : List Int} {x : Int} (h : x ∈ repI k a) : x ∈ a := by
  unfold repI at h
  obtain ⟨l, hl, hx⟩ := List.mem_flatten.mp h
  rw [(List.mem_replicate.mp hl).2] at hx
  exact hx
theorem RowN.rep {k : Int} {a : List Int} (h : RowN a) (hk : 1 ≤ k) (hm : k * a.length ≤ 24) : RowN (repI k a) := by
  have e := repI_len k a
  have e2 : ((k.toNat * a.length : Nat) : Int) = k * a.length := by
    rw [Int.natCast_mul, Int.toNat_of_nonneg (by omega)]
  refine ⟨?_, by omega, fun x hx => h.words x (repI_mem hx)⟩
  rw [e]
  exact Nat.mul_pos (by omega) h.one
theorem check_width_d {d : D} (h : noXn d = true) : w_check_width_0 [d] = if intIn 1 2000 d = true then ret .none else thr (xV "NoWidth" d) := by
  refine (f_fn (by rfl)).trans ?_
  simp only [x_var, x_con, x_bin, x_neg, x_cmp, x_chain, x_tTru, x_tNot, x_tAnd, x_tOr, x_tBool, x_tYes, x_not, x_and, x_or, x_if, x_b1, x_b2, x_is, x_idx, x_oNone, x_oSome, x_cut, x_aNil, x_aCons, x_tup, x_lst, x_call, x_callS,
    x_iSeq, x_iRng1, x_iRng2, x_bor, x_tBor, x_put1, List.map_cons, List.map_nil, List.cons_append, List.nil_append, List.length_cons, List.length_nil, Nat.zero_add, Nat.reduceAdd, Nat.reduceSub, List.reduceReplicate, start,
    List.getElem?_cons_zero, List.getElem?_cons_succ, List.set_cons_zero, List.set_cons_succ, bnd_ret, bnd_assoc, bnd_grd, b1_if, bnd_ite, small, Nat.reduceLeDiff, grd_true, o_add, o_sub, o_neg, o_eq, o_ne, o_lt, o_le, o_gt, o_ge, o_eqS, o_neS,
    decide_eq_true_eq, reduceIte, decide_true, decide_false, Bool.not_true, Bool.not_false, Bool.false_eq_true, itemsOf, asInt, bi2, endOf, isTy,
    grd_tt, nx_int, nx_bool, nx_str, nx_none, nx_tup, nx_lst, x_isC, x_fld, x_in, x_count, x_lstR, x_tupR, x_raise, x_star, bnd_thr, noX_ret, fld_x, exn_d, eSetO, Out.clear, List.zip_cons_cons, List.zip_nil_left, List.zip_nil_right, s_asg, s_par, s_own, s_parO, s_put, s_expr, s_ret, s_skip, s_seq, s_rel, x_asg, x_par, x_own, x_parO, x_put, x_expr, x_ret, x_retN, x_skip, x_rel, x_app, x_setI, x_sIf, x_for, x_brk, x_cnt, is_integer_d h]
  cases intIn 1 2000 d <;> rfl
theorem call_wr {a : List Int} {d : D} (hd : noXn d = true) : w_WR_call_0 [wr a, d] = if intIn 1 2000 d = true then w_starts_at_0 [.tuple (a.map PyData.int), d] else thr (xV "NoWidth" d) := by
  refine (f_fn (by rfl)).trans ?_
  rcases (show intIn 1 2000 d = true ∨ intIn 1 2000 d = false by cases intIn 1 2000 d <;> simp) with z | z
  · simp only [x_var, x_con, x_bin, x_neg, x_cmp, x_chain, x_tTru, x_tNot, x_tAnd, x_tOr, x_tBool, x_tYes, x_not, x_and, x_or, x_if, x_b1, x_b2, x_is, x_idx, x_oNone, x_oSome, x_cut, x_aNil, x_aCons, x_tup, x_lst, x_call, x_callS,
    x_iSeq, x_iRng1, x_iRng2, x_bor, x_tBor, x_put1, List.map_cons, List.map_nil, List.cons_append, List.nil_append, List.length_cons, List.length_nil, Nat.zero_add, Nat.reduceAdd, Nat.reduceSub, List.reduceReplicate, start,
    List.getElem?_cons_zero, List.getElem?_cons_succ, List.set_cons_zero, List.set_cons_succ, bnd_ret, bnd_assoc, bnd_grd, b1_if, bnd_ite, small, Nat.reduceLeDiff, grd_true, o_add, o_sub, o_neg, o_eq, o_ne, o_lt, o_le, o_gt, o_ge, o_eqS, o_neS,
    decide_eq_true_eq, reduceIte, decide_true, decide_false, Bool.not_true, Bool.not_false, Bool.false_eq_true, itemsOf, asInt, bi2, endOf, isTy,
    grd_tt, nx_int, nx_bool, nx_str, nx_none, nx_tup, nx_lst, x_isC, x_fld, x_in, x_count, x_lstR, x_tupR, x_raise, x_star, bnd_thr, noX_ret, fld_x, exn_d, eSetO, Out.clear, List.zip_cons_cons, List.zip_nil_left, List.zip_nil_right, s_asg, s_par, s_own, s_parO, s_put, s_expr, s_ret, s_skip, s_seq, s_rel, x_asg, x_par, x_own, x_parO, x_put, x_expr, x_ret, x_retN, x_skip, x_rel, x_app, x_setI, x_sIf, x_for, x_brk, x_cnt, s_expr, check_width_d hd, z, x_held, held_wr]
    exact bnd_id _
  · simp only [x_var, x_con, x_bin, x_neg, x_cmp, x_chain, x_tTru, x_tNot, x_tAnd, x_tOr, x_tBool, x_tYes, x_not, x_and, x_or, x_if, x_b1, x_b2, x_is, x_idx, x_oNone, x_oSome, x_cut, x_aNil, x_aCons, x_tup, x_lst, x_call, x_callS,
    x_iSeq, x_iRng1, x_iRng2, x_bor, x_tBor, x_put1, List.map_cons, List.map_nil, List.cons_append, List.nil_append, List.length_cons, List.length_nil, Nat.zero_add, Nat.reduceAdd, Nat.reduceSub, List.reduceReplicate, start,
    List.getElem?_cons_zero, List.getElem?_cons_succ, List.set_cons_zero, List.set_cons_succ, bnd_ret, bnd_assoc, bnd_grd, b1_if, bnd_ite, small, Nat.reduceLeDiff, grd_true, o_add, o_sub, o_neg, o_eq, o_ne, o_lt, o_le, o_gt, o_ge, o_eqS, o_neS,
    decide_eq_true_eq, reduceIte, decide_true, decide_false, Bool.not_true, Bool.not_false, Bool.false_eq_true, itemsOf, asInt, bi2, endOf, isTy,
    grd_tt, nx_int, nx_bool, nx_str, nx_none, nx_tup, nx_lst, x_isC, x_fld, x_in, x_count, x_lstR, x_tupR, x_raise, x_star, bnd_thr, noX_ret, fld_x, exn_d, eSetO, Out.clear, List.zip_cons_cons, List.zip_nil_left, List.zip_nil_right, s_asg, s_par, s_own, s_parO, s_put, s_expr, s_ret, s_skip, s_seq, s_rel, x_asg, x_par, x_own, x_parO, x_put, x_expr, x_ret, x_retN, x_skip, x_rel, x_app, x_setI, x_sIf, x_for, x_brk, x_cnt, s_expr, check_width_d hd, z]
end DL
end
section
namespace DL
open PySem
section
variable {E : Env} {n k : Nat} {Q : Out → Prop} {b s : XS}
theorem Ok.par {i j : Nat} {x y : XE} {v w : D} (h : x E = DL.ret v) (h2 : y E = DL.ret w) (z : Ok (b ((E.set i (.val v)).set j (.val w))) n Q) : Ok (sSeq (sPar i j x y) b E) n Q := by
  rw [s_par, h, bnd_ret, h2, bnd_ret]
  exact z
theorem Ok.put {tg : Tg} {e : XE} {d : D} {E1 : Env} (h : e E = DL.ret d) (h2 : tg.put d E = some E1) (z : Ok (b E1) n Q) : Ok (sSeq (sPut tg e) b E) n Q := by
  have e1 : sPut tg e E = DL.ret (Out.nx E1) := by
    unfold sPut
    rw [h, bnd_ret, h2]
  rw [x_seq, e1, bnd_ret]
  exact z
/-- a test that fails -/
theorem Ok.no {t : XT} {a : XS} (h : t E = DL.ret false) (z : Ok (b E) n Q) : Ok (sSeq (sIf t a sSkip) b E) n Q := by
  rw [s_if, h, bnd_ret, if_neg (by decide), s_skip]
  exact z
end
end DL
end
section
namespace DL
open PySem
theorem name_BadLength (fs : List (Str × D)) : w__law_name_0 [xD "BadLength" fs] = ret (.str "BadLength") := by
  unfold w__law_name_0
  refine (f_fn (by rfl)).trans ?_
  have i0 : isC ["BadEdit"] (xD "BadLength" fs) = ret (.bool false) := by rw [isC_x (by decide)]; exact congrArg (fun z => ret (PyData.bool z)) (by decide : _ = false)
  have i1 : isC ["BadEdits"] (xD "BadLength" fs) = ret (.bool false) := by rw [isC_x (by decide)]; exact congrArg (fun z => ret (PyData.bool z)) (by decide : _ = false)
  have i2 : isC ["BadLength"] (xD "BadLength" fs) = ret (.bool true) := by rw [isC_x (by decide)]; exact congrArg (fun z => ret (PyData.bool z)) (by decide : _ = true)
  have i3 : isC ["BadRow"] (xD "BadLength" fs) = ret (.bool false) := by rw [isC_x (by decide)]; exact congrArg (fun z => ret (PyData.bool z)) (by decide : _ = false)
  have i4 : isC ["BadText"] (xD "BadLength" fs) = ret (.bool false) := by rw [isC_x (by decide)]; exact congrArg (fun z => ret (PyData.bool z)) (by decide : _ = false)
  have i5 : isC ["BadTimes"] (xD "BadLength" fs) = ret (.bool false) := by rw [isC_x (by decide)]; exact congrArg (fun z => ret (PyData.bool z)) (by decide : _ = false)
  have i6 : isC ["Busy"] (xD "BadLength" fs) = ret (.bool false) := by rw [isC_x (by decide)]; exact congrArg (fun z => ret (PyData.bool z)) (by decide : _ = false)
  have i7 : isC ["LastWord"] (xD "BadLength" fs) = ret (.bool false) := by rw [isC_x (by decide)]; exact congrArg (fun z => ret (PyData.bool z)) (by decide : _ = false)
  have i8 : isC ["NothingToUndo"] (xD "BadLength" fs) = ret (.bool false) := by rw [isC_x (by decide)]; exact congrArg (fun z => ret (PyData.bool z)) (by decide : _ = false)
  have i9 : isC ["Rejected"] (xD "BadLength" fs) = ret (.bool false) := by rw [isC_x (by decide)]; exact congrArg (fun z => ret (PyData.bool z)) (by decide : _ = false)
  have i10 : isC ["TooLong"] (xD "BadLength" fs) = ret (.bool false) := by rw [isC_x (by decide)]; exact congrArg (fun z => ret (PyData.bool z)) (by decide : _ = false)
  have i11 : isC ["TooMany"] (xD "BadLength" fs) = ret (.bool false) := by rw [isC_x (by decide)]; exact congrArg (fun z => ret (PyData.bool z)) (by decide : _ = false)
  have i12 : isC ["TooManyEdits"] (xD "BadLength" fs) = ret (.bool false) := by rw [isC_x (by decide)]; exact congrArg (fun z => ret (PyData.bool z)) (by decide : _ = false)
  have i13 : isC ["TooNarrow"] (xD "BadLength" fs) = ret (.bool false) := by rw [isC_x (by decide)]; exact congrArg (fun z => ret (PyData.bool z)) (by decide : _ = false)
  have i14 : isC ["NoPlace"] (xD "BadLength" fs) = ret (.bool false) := by rw [isC_x (by decide)]; exact congrArg (fun z => ret (PyData.bool z)) (by decide : _ = false)
  have i15 : isC ["NoVersion"] (xD "BadLength" fs) = ret (.bool false) := by rw [isC_x (by decide)]; exact congrArg (fun z => ret (PyData.bool z)) (by decide : _ = false)
  have i16 : isC ["NoWidth"] (xD "BadLength" fs) = ret (.bool false) := by rw [isC_x (by decide)]; exact congrArg (fun z => ret (PyData.bool z)) (by decide : _ = false)
  have i17 : isC ["WrapError"] (xD "BadLength" fs) = ret (.bool true) := by rw [isC_x (by decide)]; exact congrArg (fun z => ret (PyData.bool z)) (by decide : _ = true)
  have i18 : isC ["ValueError"] (xD "BadLength" fs) = ret (.bool true) := by rw [isC_x (by decide)]; exact congrArg (fun z => ret (PyData.bool z)) (by decide : _ = true)
  have i19 : isC ["LookupError"] (xD "BadLength" fs) = ret (.bool false) := by rw [isC_x (by decide)]; exact congrArg (fun z => ret (PyData.bool z)) (by decide : _ = false)
  have c : opCnt (.list [.bool false, .bool false, .bool true, .bool false, .bool false, .bool false, .bool false, .bool false, .bool false, .bool false, .bool false, .bool false, .bool false, .bool false, .bool false, .bool false, .bool false]) (.bool true) = ret (.int 1) := rfl
  have x : opIxOf (.list [.bool false, .bool false, .bool true, .bool false, .bool false, .bool false, .bool false, .bool false, .bool false, .bool false, .bool false, .bool false, .bool false, .bool false, .bool false, .bool false, .bool false]) (.bool true) = ret (.int 2) := rfl
  have q : opIdx (.list [.str "BadEdit", .str "BadEdits", .str "BadLength", .str "BadRow", .str "BadText", .str "BadTimes", .str "Busy", .str "LastWord", .str "NothingToUndo", .str "Rejected", .str "TooLong", .str "TooMany", .str "TooManyEdits", .str "TooNarrow", .str "NoPlace", .str "NoVersion", .str "NoWidth"]) (.int 2) = ret (.str "BadLength") := rfl
  have y : opIdx (.list [.list [.bool true, .bool true, .bool false], .list [.bool false, .bool false, .bool true]]) (.int 0) = ret (.list [.bool true, .bool true, .bool false]) := rfl
  have z : opCmp .ne (.list [.bool true, .bool true, .bool false]) (.list [.bool true, .bool true, .bool false]) = ret false := ne_self (by decide +kernel) (by decide +kernel)
  have g : decide ((13 : Int) < 2) = false := by decide
  have ib : bi1 .int (.bool false) = ret (.int 0) := rfl
  simp only [x_var, x_con, x_bin, x_neg, x_cmp, x_chain, x_tTru, x_tNot, x_tAnd, x_tOr, x_tBool, x_tYes, x_not, x_and, x_or, x_if, x_b1, x_b2, x_is, x_idx, x_oNone, x_oSome, x_cut, x_aNil, x_aCons, x_tup, x_lst, x_call, x_callS,
    x_iSeq, x_iRng1, x_iRng2, x_bor, x_tBor, x_put1, List.map_cons, List.map_nil, List.cons_append, List.nil_append, List.length_cons, List.length_nil, Nat.zero_add, Nat.reduceAdd, Nat.reduceSub, List.reduceReplicate, start,
    List.getElem?_cons_zero, List.getElem?_cons_succ, List.set_cons_zero, List.set_cons_succ, bnd_ret, bnd_assoc, bnd_grd, b1_if, bnd_ite, small, Nat.reduceLeDiff, grd_true, o_add, o_sub, o_neg, o_eq, o_ne, o_lt, o_le, o_gt, o_ge, o_eqS, o_neS,
    decide_eq_true_eq, reduceIte, decide_true, decide_false, Bool.not_true, Bool.not_false, Bool.false_eq_true, itemsOf, asInt, bi2, endOf, isTy,
    grd_tt, nx_int, nx_bool, nx_str, nx_none, nx_tup, nx_lst, x_isC, x_fld, x_in, x_count, x_lstR, x_tupR, x_raise, x_star, bnd_thr, noX_ret, fld_x, exn_d, eSetO, Out.clear, List.zip_cons_cons, List.zip_nil_left, List.zip_nil_right, s_asg, s_par, s_own, s_parO, s_put, s_expr, s_ret, s_skip, s_seq, s_rel, x_asg, x_par, x_own, x_parO, x_put, x_expr, x_ret, x_retN, x_skip, x_rel, x_app, x_setI, x_sIf, x_for, x_brk, x_cnt, s_chk, x_ixOf, i0, i1, i2, i3, i4, i5, i6, i7, i8, i9, i10, i11, i12, i13, i14, i15, i16, i17, i18, i19, c, x, q, y, z, g, ib, add_lst]
  all_goals rfl
theorem name_LastWord (fs : List (Str × D)) : w__law_name_0 [xD "LastWord" fs] = ret (.str "LastWord") := by
  unfold w__law_name_0
  refine (f_fn (by rfl)).trans ?_
  have i0 : isC ["BadEdit"] (xD "LastWord" fs) = ret (.bool false) := by rw [isC_x (by decide)]; exact congrArg (fun z => ret (PyData.bool z)) (by decide : _ = false)
  have i1 : isC ["BadEdits"] (xD "LastWord" fs) = ret (.bool false) := by rw [isC_x (by decide)]; exact congrArg (fun z => ret (PyData.bool z)) (by decide : _ = false)
  have i2 : isC ["BadLength"] (xD "LastWord" fs) = ret (.bool false) := by rw [isC_x (by decide)]; exact congrArg (fun z => ret (PyData.bool z)) (by decide : _ = false)
  have i3 : isC ["BadRow"] (xD "LastWord" fs) = ret (.bool false) := by rw [isC_x (by decide)]; exact congrArg (fun z => ret (PyData.bool z)) (by decide : _ = false)
  have i4 : isC ["BadText"] (xD "LastWord" fs) = ret (.bool false) := by rw [isC_x (by decide)]; exact congrArg (fun z => ret (PyData.bool z)) (by decide : _ = false)
  have i5 : isC ["BadTimes"] (xD "LastWord" fs) = ret (.bool false) := by rw [isC_x (by decide)]; exact congrArg (fun z => ret (PyData.bool z)) (by decide : _ = false)
  have i6 : isC ["Busy"] (xD "LastWord" fs) = ret (.bool false) := by rw [isC_x (by decide)]; exact congrArg (fun z => ret (PyData.bool z)) (by decide : _ = false)
  have i7 : isC ["LastWord"] (xD "LastWord" fs) = ret (.bool true) := by rw [isC_x (by decide)]; exact congrArg (fun z => ret (PyData.bool z)) (by decide : _ = true)
  have i8 : isC ["NothingToUndo"] (xD "LastWord" fs) = ret (.bool false) := by rw [isC_x (by decide)]; exact congrArg (fun z => ret (PyData.bool z)) (by decide : _ = false)
  have i9 : isC ["Rejected"] (xD "LastWord" fs) = ret (.bool false) := by rw [isC_x (by decide)]; exact congrArg (fun z => ret (PyData.bool z)) (by decide : _ = false)
  have i10 : isC ["TooLong"] (xD "LastWord" fs) = ret (.bool false) := by rw [isC_x (by decide)]; exact congrArg (fun z => ret (PyData.bool z)) (by decide : _ = false)
  have i11 : isC ["TooMany"] (xD "LastWord" fs) = ret (.bool false) := by rw [isC_x (by decide)]; exact congrArg (fun z => ret (PyData.bool z)) (by decide : _ = false)
  have i12 : isC ["TooManyEdits"] (xD "LastWord" fs) = ret (.bool false) := by rw [isC_x (by decide)]; exact congrArg (fun z => ret (PyData.bool z)) (by decide : _ = false)
  have i13 : isC ["TooNarrow"] (xD "LastWord" fs) = ret (.bool false) := by rw [isC_x (by decide)]; exact congrArg (fun z => ret (PyData.bool z)) (by decide : _ = false)
  have i14 : isC ["NoPlace"] (xD "LastWord" fs) = ret (.bool false) := by rw [isC_x (by decide)]; exact congrArg (fun z => ret (PyData.bool z)) (by decide : _ = false)
  have i15 : isC ["NoVersion"] (xD "LastWord" fs) = ret (.bool false) := by rw [isC_x (by decide)]; exact congrArg (fun z => ret (PyData.bool z)) (by decide : _ = false)
  have i16 : isC ["NoWidth"] (xD "LastWord" fs) = ret (.bool false) := by rw [isC_x (by decide)]; exact congrArg (fun z => ret (PyData.bool z)) (by decide : _ = false)
  have i17 : isC ["WrapError"] (xD "LastWord" fs) = ret (.bool true) := by rw [isC_x (by decide)]; exact congrArg (fun z => ret (PyData.bool z)) (by decide : _ = true)
  have i18 : isC ["ValueError"] (xD "LastWord" fs) = ret (.bool true) := by rw [isC_x (by decide)]; exact congrArg (fun z => ret (PyData.bool z)) (by decide : _ = true)
  have i19 : isC ["LookupError"] (xD "LastWord" fs) = ret (.bool false) := by rw [isC_x (by decide)]; exact congrArg (fun z => ret (PyData.bool z)) (by decide : _ = false)
  have c : opCnt (.list [.bool false, .bool false, .bool false, .bool false, .bool false, .bool false, .bool false, .bool true, .bool false, .bool false, .bool false, .bool false, .bool false, .bool false, .bool false, .bool false, .bool false]) (.bool true) = ret (.int 1) := rfl
  have x : opIxOf (.list [.bool false, .bool false, .bool false, .bool false, .bool false, .bool false, .bool false, .bool true, .bool false, .bool false, .bool false, .bool false, .bool false, .bool false, .bool false, .bool false, .bool false]) (.bool true) = ret (.int 7) := rfl
  have q : opIdx (.list [.str "BadEdit", .str "BadEdits", .str "BadLength", .str "BadRow", .str "BadText", .str "BadTimes", .str "Busy", .str "LastWord", .str "NothingToUndo", .str "Rejected", .str "TooLong", .str "TooMany", .str "TooManyEdits", .str "TooNarrow", .str "NoPlace", .str "NoVersion", .str "NoWidth"]) (.int 7) = ret (.str "LastWord") := rfl
  have y : opIdx (.list [.list [.bool true, .bool true, .bool false], .list [.bool false, .bool false, .bool true]]) (.int 0) = ret (.list [.bool true, .bool true, .bool false]) := rfl
  have z : opCmp .ne (.list [.bool true, .bool true, .bool false]) (.list [.bool true, .bool true, .bool false]) = ret false := ne_self (by decide +kernel) (by decide +kernel)
  have g : decide ((13 : Int) < 7) = false := by decide
  have ib : bi1 .int (.bool false) = ret (.int 0) := rfl
  simp only [x_var, x_con, x_bin, x_neg, x_cmp, x_chain, x_tTru, x_tNot, x_tAnd, x_tOr, x_tBool, x_tYes, x_not, x_and, x_or, x_if, x_b1, x_b2, x_is, x_idx, x_oNone, x_oSome, x_cut, x_aNil, x_aCons, x_tup, x_lst, x_call, x_callS,
    x_iSeq, x_iRng1, x_iRng2, x_bor, x_tBor, x_put1, List.map_cons, List.map_nil, List.cons_append, List.nil_append, List.length_cons, List.length_nil, Nat.zero_add, Nat.reduceAdd, Nat.reduceSub, List.reduceReplicate, start,
    List.getElem?_cons_zero, List.getElem?_cons_succ, List.set_cons_zero, List.set_cons_succ, bnd_ret, bnd_assoc, bnd_grd, b1_if, bnd_ite, small, Nat.reduceLeDiff, grd_true, o_add, o_sub, o_neg, o_eq, o_ne, o_lt, o_le, o_gt, o_ge, o_eqS, o_neS,
    decide_eq_true_eq, reduceIte, decide_true, decide_false, Bool.not_true, Bool.not_false, Bool.false_eq_true, itemsOf, asInt, bi2, endOf, isTy,
    grd_tt, nx_int, nx_bool, nx_str, nx_none, nx_tup, nx_lst, x_isC, x_fld, x_in, x_count, x_lstR, x_tupR, x_raise, x_star, bnd_thr, noX_ret, fld_x, exn_d, eSetO, Out.clear, List.zip_cons_cons, List.zip_nil_left, List.zip_nil_right, s_asg, s_par, s_own, s_parO, s_put, s_expr, s_ret, s_skip, s_seq, s_rel, x_asg, x_par, x_own, x_parO, x_put, x_expr, x_ret, x_retN, x_skip, x_rel, x_app, x_setI, x_sIf, x_for, x_brk, x_cnt, s_chk, x_ixOf, i0, i1, i2, i3, i4, i5, i6, i7, i8, i9, i10, i11, i12, i13, i14, i15, i16, i17, i18, i19, c, x, q, y, z, g, ib, add_lst]
  all_goals rfl
theorem name_NothingToUndo (fs : List (Str × D)) : w__law_name_0 [xD "NothingToUndo" fs] = ret (.str "NothingToUndo") := by
  unfold w__law_name_0
  refine (f_fn (by rfl)).trans ?_
  have i0 : isC ["BadEdit"] (xD "NothingToUndo" fs) = ret (.bool false) := by rw [isC_x (by decide)]; exact congrArg (fun z => ret (PyData.bool z)) (by decide : _ = false)
  have i1 : isC ["BadEdits"] (xD "NothingToUndo" fs) = ret (.bool false) := by rw [isC_x (by decide)]; exact congrArg (fun z => ret (PyData.bool z)) (by decide : _ = false)
  have i2 : isC ["BadLength"] (xD "NothingToUndo" fs) = ret (.bool false) := by rw [isC_x (by decide)]; exact congrArg (fun z => ret (PyData.bool z)) (by decide : _ = false)
  have i3 : isC ["BadRow"] (xD "NothingToUndo" fs) = ret (.bool false) := by rw [isC_x (by decide)]; exact congrArg (fun z => ret (PyData.bool z)) (by decide : _ = false)
  have i4 : isC ["BadText"] (xD "NothingToUndo" fs) = ret (.bool false) := by rw [isC_x (by decide)]; exact congrArg (fun z => ret (PyData.bool z)) (by decide : _ = false)
  have i5 : isC ["BadTimes"] (xD "NothingToUndo" fs) = ret (.bool false) := by rw [isC_x (by decide)]; exact congrArg (fun z => ret (PyData.bool z)) (by decide : _ = false)
  have i6 : isC ["Busy"] (xD "NothingToUndo" fs) = ret (.bool false) := by rw [isC_x (by decide)]; exact congrArg (fun z => ret (PyData.bool z)) (by decide : _ = false)
  have i7 : isC ["LastWord"] (xD "NothingToUndo" fs) = ret (.bool false) := by rw [isC_x (by decide)]; exact congrArg (fun z => ret (PyData.bool z)) (by decide : _ = false)
  have i8 : isC ["NothingToUndo"] (xD "NothingToUndo" fs) = ret (.bool true) := by rw [isC_x (by decide)]; exact congrArg (fun z => ret (PyData.bool z)) (by decide : _ = true)
  have i9 : isC ["Rejected"] (xD "NothingToUndo" fs) = ret (.bool false) := by rw [isC_x (by decide)]; exact congrArg (fun z => ret (PyData.bool z)) (by decide : _ = false)
  have i10 : isC ["TooLong"] (xD "NothingToUndo" fs) = ret (.bool false) := by rw [isC_x (by decide)]; exact congrArg (fun z => ret (PyData.bool z)) (by decide : _ = false)
  have i11 : isC ["TooMany"] (xD "NothingToUndo" fs) = ret (.bool false) := by rw [isC_x (by decide)]; exact congrArg (fun z => ret (PyData.bool z)) (by decide : _ = false)
  have i12 : isC ["TooManyEdits"] (xD "NothingToUndo" fs) = ret (.bool false) := by rw [isC_x (by decide)]; exact congrArg (fun z => ret (PyData.bool z)) (by decide : _ = false)
  have i13 : isC ["TooNarrow"] (xD "NothingToUndo" fs) = ret (.bool false) := by rw [isC_x (by decide)]; exact congrArg (fun z => ret (PyData.bool z)) (by decide : _ = false)
  have i14 : isC ["NoPlace"] (xD "NothingToUndo" fs) = ret (.bool false) := by rw [isC_x (by decide)]; exact congrArg (fun z => ret (PyData.bool z)) (by decide : _ = false)
  have i15 : isC ["NoVersion"] (xD "NothingToUndo" fs) = ret (.bool false) := by rw [isC_x (by decide)]; exact congrArg (fun z => ret (PyData.bool z)) (by decide : _ = false)
  have i16 : isC ["NoWidth"] (xD "NothingToUndo" fs) = ret (.bool false) := by rw [isC_x (by decide)]; exact congrArg (fun z => ret (PyData.bool z)) (by decide : _ = false)
  have i17 : isC ["WrapError"] (xD "NothingToUndo" fs) = ret (.bool true) := by rw [isC_x (by decide)]; exact congrArg (fun z => ret (PyData.bool z)) (by decide : _ = true)
  have i18 : isC ["ValueError"] (xD "NothingToUndo" fs) = ret (.bool true) := by rw [isC_x (by decide)]; exact congrArg (fun z => ret (PyData.bool z)) (by decide : _ = true)
  have i19 : isC ["LookupError"] (xD "NothingToUndo" fs) = ret (.bool false) := by rw [isC_x (by decide)]; exact congrArg (fun z => ret (PyData.bool z)) (by decide : _ = false)
  have c : opCnt (.list [.bool false, .bool false, .bool false, .bool false, .bool false, .bool false, .bool false, .bool false, .bool true, .bool false, .bool false, .bool false, .bool false, .bool false, .bool false, .bool false, .bool false]) (.bool true) = ret (.int 1) := rfl
  have x : opIxOf (.list [.bool false, .bool false, .bool false, .bool false, .bool false, .bool false, .bool false, .bool false, .bool true, .bool false, .bool false, .bool false, .bool false, .bool false, .bool false, .bool false, .bool false]) (.bool true) = ret (.int 8) := rfl
  have q : opIdx (.list [.str "BadEdit", .str "BadEdits", .str "BadLength", .str "BadRow", .str "BadText", .str "BadTimes", .str "Busy", .str "LastWord", .str "NothingToUndo", .str "Rejected", .str "TooLong", .str "TooMany", .str "TooManyEdits", .str "TooNarrow", .str "NoPlace", .str "NoVersion", .str "NoWidth"]) (.int 8) = ret (.str "NothingToUndo") := rfl
  have y : opIdx (.list [.list [.bool true, .bool true, .bool false], .list [.bool false, .bool false, .bool true]]) (.int 0) = ret (.list [.bool true, .bool true, .bool false]) := rfl
  have z : opCmp .ne (.list [.bool true, .bool true, .bool false]) (.list [.bool true, .bool true, .bool false]) = ret false := ne_self (by decide +kernel) (by decide +kernel)
  have g : decide ((13 : Int) < 8) = false := by decide
  have ib : bi1 .int (.bool false) = ret (.int 0) := rfl
  simp only [x_var, x_con, x_bin, x_neg, x_cmp, x_chain, x_tTru, x_tNot, x_tAnd, x_tOr, x_tBool, x_tYes, x_not, x_and, x_or, x_if, x_b1, x_b2, x_is, x_idx, x_oNone, x_oSome, x_cut, x_aNil, x_aCons, x_tup, x_lst, x_call, x_callS,
    x_iSeq, x_iRng1, x_iRng2, x_bor, x_tBor, x_put1, List.map_cons, List.map_nil, List.cons_append, List.nil_append, List.length_cons, List.length_nil, Nat.zero_add, Nat.reduceAdd, Nat.reduceSub, List.reduceReplicate, start,
    List.getElem?_cons_zero, List.getElem?_cons_succ, List.set_cons_zero, List.set_cons_succ, bnd_ret, bnd_assoc, bnd_grd, b1_if, bnd_ite, small, Nat.reduceLeDiff, grd_true, o_add, o_sub, o_neg, o_eq, o_ne, o_lt, o_le, o_gt, o_ge, o_eqS, o_neS,
    decide_eq_true_eq, reduceIte, decide_true, decide_false, Bool.not_true, Bool.not_false, Bool.false_eq_true, itemsOf, asInt, bi2, endOf, isTy,
    grd_tt, nx_int, nx_bool, nx_str, nx_none, nx_tup, nx_lst, x_isC, x_fld, x_in, x_count, x_lstR, x_tupR, x_raise, x_star, bnd_thr, noX_ret, fld_x, exn_d, eSetO, Out.clear, List.zip_cons_cons, List.zip_nil_left, List.zip_nil_right, s_asg, s_par, s_own, s_parO, s_put, s_expr, s_ret, s_skip, s_seq, s_rel, x_asg, x_par, x_own, x_parO, x_put, x_expr, x_ret, x_retN, x_skip, x_rel, x_app, x_setI, x_sIf, x_for, x_brk, x_cnt, s_chk, x_ixOf, i0, i1, i2, i3, i4, i5, i6, i7, i8, i9, i10, i11, i12, i13, i14, i15, i16, i17, i18, i19, c, x, q, y, z, g, ib, add_lst]
  all_goals rfl
theorem name_TooMany (fs : List (Str × D)) : w__law_name_0 [xD "TooMany" fs] = ret (.str "TooMany") := by
  unfold w__law_name_0
  refine (f_fn (by rfl)).trans ?_
  have i0 : isC ["BadEdit"] (xD "TooMany" fs) = ret (.bool false) := by rw [isC_x (by decide)]; exact congrArg (fun z => ret (PyData.bool z)) (by decide : _ = false)
  have i1 : isC ["BadEdits"] (xD "TooMany" fs) = ret (.bool false) := by rw [isC_x (by decide)]; exact congrArg (fun z => ret (PyData.bool z)) (by decide : _ = false)
  have i2 : isC ["BadLength"] (xD "TooMany" fs) = ret (.bool false) := by rw [isC_x (by decide)]; exact congrArg (fun z => ret (PyData.bool z)) (by decide : _ = false)
  have i3 : isC ["BadRow"] (xD "TooMany" fs) = ret (.bool false) := by rw [isC_x (by decide)]; exact congrArg (fun z => ret (PyData.bool z)) (by decide : _ = false)
  have i4 : isC ["BadText"] (xD "TooMany" fs) = ret (.bool false) := by rw [isC_x (by decide)]; exact congrArg (fun z => ret (PyData.bool z)) (by decide : _ = false)
  have i5 : isC ["BadTimes"] (xD "TooMany" fs) = ret (.bool false) := by rw [isC_x (by decide)]; exact congrArg (fun z => ret (PyData.bool z)) (by decide : _ = false)
  have i6 : isC ["Busy"] (xD "TooMany" fs) = ret (.bool false) := by rw [isC_x (by decide)]; exact congrArg (fun z => ret (PyData.bool z)) (by decide : _ = false)
  have i7 : isC ["LastWord"] (xD "TooMany" fs) = ret (.bool false) := by rw [isC_x (by decide)]; exact congrArg (fun z => ret (PyData.bool z)) (by decide : _ = false)
  have i8 : isC ["NothingToUndo"] (xD "TooMany" fs) = ret (.bool false) := by rw [isC_x (by decide)]; exact congrArg (fun z => ret (PyData.bool z)) (by decide : _ = false)
  have i9 : isC ["Rejected"] (xD "TooMany" fs) = ret (.bool false) := by rw [isC_x (by decide)]; exact congrArg (fun z => ret (PyData.bool z)) (by decide : _ = false)
  have i10 : isC ["TooLong"] (xD "TooMany" fs) = ret (.bool false) := by rw [isC_x (by decide)]; exact congrArg (fun z => ret (PyData.bool z)) (by decide : _ = false)
  have i11 : isC ["TooMany"] (xD "TooMany" fs) = ret (.bool true) := by rw [isC_x (by decide)]; exact congrArg (fun z => ret (PyData.bool z)) (by decide : _ = true)
  have i12 : isC ["TooManyEdits"] (xD "TooMany" fs) = ret (.bool false) := by rw [isC_x (by decide)]; exact congrArg (fun z => ret (PyData.bool z)) (by decide : _ = false)
  have i13 : isC ["TooNarrow"] (xD "TooMany" fs) = ret (.bool false) := by rw [isC_x (by decide)]; exact congrArg (fun z => ret (PyData.bool z)) (by decide : _ = false)
  have i14 : isC ["NoPlace"] (xD "TooMany" fs) = ret (.bool false) := by rw [isC_x (by decide)]; exact congrArg (fun z => ret (PyData.bool z)) (by decide : _ = false)
  have i15 : isC ["NoVersion"] (xD "TooMany" fs) = ret (.bool false) := by rw [isC_x (by decide)]; exact congrArg (fun z => ret (PyData.bool z)) (by decide : _ = false)
  have i16 : isC ["NoWidth"] (xD "TooMany" fs) = ret (.bool false) := by rw [isC_x (by decide)]; exact congrArg (fun z => ret (PyData.bool z)) (by decide : _ = false)
  have i17 : isC ["WrapError"] (xD "TooMany" fs) = ret (.bool true) := by rw [isC_x (by decide)]; exact congrArg (fun z => ret (PyData.bool z)) (by decide : _ = true)
  have i18 : isC ["ValueError"] (xD "TooMany" fs) = ret (.bool true) := by rw [isC_x (by decide)]; exact congrArg (fun z => ret (PyData.bool z)) (by decide : _ = true)
  have i19 : isC ["LookupError"] (xD "TooMany" fs) = ret (.bool false) := by rw [isC_x (by decide)]; exact congrArg (fun z => ret (PyData.bool z)) (by decide : _ = false)
  have c : opCnt (.list [.bool false, .bool false, .bool false, .bool false, .bool false, .bool false, .bool false, .bool false, .bool false, .bool false, .bool false, .bool true, .bool false, .bool false, .bool false, .bool false, .bool false]) (.bool true) = ret (.int 1) := rfl
  have x : opIxOf (.list [.bool false, .bool false, .bool false, .bool false, .bool false, .bool false, .bool false, .bool false, .bool false, .bool false, .bool false, .bool true, .bool false, .bool false, .bool false, .bool false, .bool false]) (.bool true) = ret (.int 11) := rfl
  have q : opIdx (.list [.str "BadEdit", .str "BadEdits", .str "BadLength", .str "BadRow", .str "BadText", .str "BadTimes", .str "Busy", .str "LastWord", .str "NothingToUndo", .str "Rejected", .str "TooLong", .str "TooMany", .str "TooManyEdits", .str "TooNarrow", .str "NoPlace", .str "NoVersion", .str "NoWidth"]) (.int 11) = ret (.str "TooMany") := rfl
  have y : opIdx (.list [.list [.bool true, .bool true, .bool false], .list [.bool false, .bool false, .bool true]]) (.int 0) = ret (.list [.bool true, .bool true, .bool false]) := rfl
  have z : opCmp .ne (.list [.bool true, .bool true, .bool false]) (.list [.bool true, .bool true, .bool false]) = ret false := ne_self (by decide +kernel) (by decide +kernel)
  have g : decide ((13 : Int) < 11) = false := by decide
  have ib : bi1 .int (.bool false) = ret (.int 0) := rfl
  simp only [x_var, x_con, x_bin, x_neg, x_cmp, x_chain, x_tTru, x_tNot, x_tAnd, x_tOr, x_tBool, x_tYes, x_not, x_and, x_or, x_if, x_b1, x_b2, x_is, x_idx, x_oNone, x_oSome, x_cut, x_aNil, x_aCons, x_tup, x_lst, x_call, x_callS,
    x_iSeq, x_iRng1, x_iRng2, x_bor, x_tBor, x_put1, List.map_cons, List.map_nil, List.cons_append, List.nil_append, List.length_cons, List.length_nil, Nat.zero_add, Nat.reduceAdd, Nat.reduceSub, List.reduceReplicate, start,
    List.getElem?_cons_zero, List.getElem?_cons_succ, List.set_cons_zero, List.set_cons_succ, bnd_ret, bnd_assoc, bnd_grd, b1_if, bnd_ite, small, Nat.reduceLeDiff, grd_true, o_add, o_sub, o_neg, o_eq, o_ne, o_lt, o_le, o_gt, o_ge, o_eqS, o_neS,
    decide_eq_true_eq, reduceIte, decide_true, decide_false, Bool.not_true, Bool.not_false, Bool.false_eq_true, itemsOf, asInt, bi2, endOf, isTy,
    grd_tt, nx_int, nx_bool, nx_str, nx_none, nx_tup, nx_lst, x_isC, x_fld, x_in, x_count, x_lstR, x_tupR, x_raise, x_star, bnd_thr, noX_ret, fld_x, exn_d, eSetO, Out.clear, List.zip_cons_cons, List.zip_nil_left, List.zip_nil_right, s_asg, s_par, s_own, s_parO, s_put, s_expr, s_ret, s_skip, s_seq, s_rel, x_asg, x_par, x_own, x_parO, x_put, x_expr, x_ret, x_retN, x_skip, x_rel, x_app, x_setI, x_sIf, x_for, x_brk, x_cnt, s_chk, x_ixOf, i0, i1, i2, i3, i4, i5, i6, i7, i8, i9, i10, i11, i12, i13, i14, i15, i16, i17, i18, i19, c, x, q, y, z, g, ib, add_lst]
  all_goals rfl
theorem name_TooManyEdits (fs : List (Str × D)) : w__law_name_0 [xD "TooManyEdits" fs] = ret (.str "TooManyEdits") := by
  unfold w__law_name_0
  refine (f_fn (by rfl)).trans ?_
  have i0 : isC ["BadEdit"] (xD "TooManyEdits" fs) = ret (.bool false) := by rw [isC_x (by decide)]; exact congrArg (fun z => ret (PyData.bool z)) (by decide : _ = false)
  have i1 : isC ["BadEdits"] (xD "TooManyEdits" fs) = ret (.bool false) := by rw [isC_x (by decide)]; exact congrArg (fun z => ret (PyData.bool z)) (by decide : _ = false)
  have i2 : isC ["BadLength"] (xD "TooManyEdits" fs) = ret (.bool false) := by rw [isC_x (by decide)]; exact congrArg (fun z => ret (PyData.bool z)) (by decide : _ = false)
  have i3 : isC ["BadRow"] (xD "TooManyEdits" fs) = ret (.bool false) := by rw [isC_x (by decide)]; exact congrArg (fun z => ret (PyData.bool z)) (by decide : _ = false)
  have i4 : isC ["BadText"] (xD "TooManyEdits" fs) = ret (.bool false) := by rw [isC_x (by decide)]; exact congrArg (fun z => ret (PyData.bool z)) (by decide : _ = false)
  have i5 : isC ["BadTimes"] (xD "TooManyEdits" fs) = ret (.bool false) := by rw [isC_x (by decide)]; exact congrArg (fun z => ret (PyData.bool z)) (by decide : _ = false)
  have i6 : isC ["Busy"] (xD "TooManyEdits" fs) = ret (.bool false) := by rw [isC_x (by decide)]; exact congrArg (fun z => ret (PyData.bool z)) (by decide : _ = false)
  have i7 : isC ["LastWord"] (xD "TooManyEdits" fs) = ret (.bool false) := by rw [isC_x (by decide)]; exact congrArg (fun z => ret (PyData.bool z)) (by decide : _ = false)
  have i8 : isC ["NothingToUndo"] (xD "TooManyEdits" fs) = ret (.bool false) := by rw [isC_x (by decide)]; exact congrArg (fun z => ret (PyData.bool z)) (by decide : _ = false)
  have i9 : isC ["Rejected"] (xD "TooManyEdits" fs) = ret (.bool false) := by rw [isC_x (by decide)]; exact congrArg (fun z => ret (PyData.bool z)) (by decide : _ = false)
  have i10 : isC ["TooLong"] (xD "TooManyEdits" fs) = ret (.bool false) := by rw [isC_x (by decide)]; exact congrArg (fun z => ret (PyData.bool z)) (by decide : _ = false)
  have i11 : isC ["TooMany"] (xD "TooManyEdits" fs) = ret (.bool false) := by rw [isC_x (by decide)]; exact congrArg (fun z => ret (PyData.bool z)) (by decide : _ = false)
  have i12 : isC ["TooManyEdits"] (xD "TooManyEdits" fs) = ret (.bool true) := by rw [isC_x (by decide)]; exact congrArg (fun z => ret (PyData.bool z)) (by decide : _ = true)
  have i13 : isC ["TooNarrow"] (xD "TooManyEdits" fs) = ret (.bool false) := by rw [isC_x (by decide)]; exact congrArg (fun z => ret (PyData.bool z)) (by decide : _ = false)
  have i14 : isC ["NoPlace"] (xD "TooManyEdits" fs) = ret (.bool false) := by rw [isC_x (by decide)]; exact congrArg (fun z => ret (PyData.bool z)) (by decide : _ = false)
  have i15 : isC ["NoVersion"] (xD "TooManyEdits" fs) = ret (.bool false) := by rw [isC_x (by decide)]; exact congrArg (fun z => ret (PyData.bool z)) (by decide : _ = false)
  have i16 : isC ["NoWidth"] (xD "TooManyEdits" fs) = ret (.bool false) := by rw [isC_x (by decide)]; exact congrArg (fun z => ret (PyData.bool z)) (by decide : _ = false)
  have i17 : isC ["WrapError"] (xD "TooManyEdits" fs) = ret (.bool true) := by rw [isC_x (by decide)]; exact congrArg (fun z => ret (PyData.bool z)) (by decide : _ = true)
  have i18 : isC ["ValueError"] (xD "TooManyEdits" fs) = ret (.bool true) := by rw [isC_x (by decide)]; exact congrArg (fun z => ret (PyData.bool z)) (by decide : _ = true)
  have i19 : isC ["LookupError"] (xD "TooManyEdits" fs) = ret (.bool false) := by rw [isC_x (by decide)]; exact congrArg (fun z => ret (PyData.bool z)) (by decide : _ = false)
  have c : opCnt (.list [.bool false, .bool false, .bool false, .bool false, .bool false, .bool false, .bool false, .bool false, .bool false, .bool false, .bool false, .bool false, .bool true, .bool false, .bool false, .bool false, .bool false]) (.bool true) = ret (.int 1) := rfl
  have x : opIxOf (.list [.bool false, .bool false, .bool false, .bool false, .bool false, .bool false, .bool false, .bool false, .bool false, .bool false, .bool false, .bool false, .bool true, .bool false, .bool false, .bool false, .bool false]) (.bool true) = ret (.int 12) := rfl
  have q : opIdx (.list [.str "BadEdit", .str "BadEdits", .str "BadLength", .str "BadRow", .str "BadText", .str "BadTimes", .str "Busy", .str "LastWord", .str "NothingToUndo", .str "Rejected", .str "TooLong", .str "TooMany", .str "TooManyEdits", .str "TooNarrow", .str "NoPlace", .str "NoVersion", .str "NoWidth"]) (.int 12) = ret (.str "TooManyEdits") := rfl
  have y : opIdx (.list [.list [.bool true, .bool true, .bool false], .list [.bool false, .bool false, .bool true]]) (.int 0) = ret (.list [.bool true, .bool true, .bool false]) := rfl
  have z : opCmp .ne (.list [.bool true, .bool true, .bool false]) (.list [.bool true, .bool true, .bool false]) = ret false := ne_self (by decide +kernel) (by decide +kernel)
  have g : decide ((13 : Int) < 12) = false := by decide
  have ib : bi1 .int (.bool false) = ret (.int 0) := rfl
  simp only [x_var, x_con, x_bin, x_neg, x_cmp, x_chain, x_tTru, x_tNot, x_tAnd, x_tOr, x_tBool, x_tYes, x_not, x_and, x_or, x_if, x_b1, x_b2, x_is, x_idx, x_oNone, x_oSome, x_cut, x_aNil, x_aCons, x_tup, x_lst, x_call, x_callS,
    x_iSeq, x_iRng1, x_iRng2, x_bor, x_tBor, x_put1, List.map_cons, List.map_nil, List.cons_append, List.nil_append, List.length_cons, List.length_nil, Nat.zero_add, Nat.reduceAdd, Nat.reduceSub, List.reduceReplicate, start,
    List.getElem?_cons_zero, List.getElem?_cons_succ, List.set_cons_zero, List.set_cons_succ, bnd_ret, bnd_assoc, bnd_grd, b1_if, bnd_ite, small, Nat.reduceLeDiff, grd_true, o_add, o_sub, o_neg, o_eq, o_ne, o_lt, o_le, o_gt, o_ge, o_eqS, o_neS,
    decide_eq_true_eq, reduceIte, decide_true, decide_false, Bool.not_true, Bool.not_false, Bool.false_eq_true, itemsOf, asInt, bi2, endOf, isTy,
    grd_tt, nx_int, nx_bool, nx_str, nx_none, nx_tup, nx_lst, x_isC, x_fld, x_in, x_count, x_lstR, x_tupR, x_raise, x_star, bnd_thr, noX_ret, fld_x, exn_d, eSetO, Out.clear, List.zip_cons_cons, List.zip_nil_left, List.zip_nil_right, s_asg, s_par, s_own, s_parO, s_put, s_expr, s_ret, s_skip, s_seq, s_rel, x_asg, x_par, x_own, x_parO, x_put, x_expr, x_ret, x_retN, x_skip, x_rel, x_app, x_setI, x_sIf, x_for, x_brk, x_cnt, s_chk, x_ixOf, i0, i1, i2, i3, i4, i5, i6, i7, i8, i9, i10, i11, i12, i13, i14, i15, i16, i17, i18, i19, c, x, q, y, z, g, ib, add_lst]
  all_goals rfl
theorem name_NoPlace (fs : List (Str × D)) : w__law_name_0 [xD "NoPlace" fs] = ret (.str "NoPlace") := by
  unfold w__law_name_0
  refine (f_fn (by rfl)).trans ?_
  have i0 : isC ["BadEdit"] (xD "NoPlace" fs) = ret (.bool false) := by rw [isC_x (by decide)]; exact congrArg (fun z => ret (PyData.bool z)) (by decide : _ = false)
  have i1 : isC ["BadEdits"] (xD "NoPlace" fs) = ret (.bool false) := by rw [isC_x (by decide)]; exact congrArg (fun z => ret (PyData.bool z)) (by decide : _ = false)
  have i2 : isC ["BadLength"] (xD "NoPlace" fs) = ret (.bool false) := by rw [isC_x (by decide)]; exact congrArg (fun z => ret (PyData.bool z)) (by decide : _ = false)
  have i3 : isC ["BadRow"] (xD "NoPlace" fs) = ret (.bool false) := by rw [isC_x (by decide)]; exact congrArg (fun z => ret (PyData.bool z)) (by decide : _ = false)
  have i4 : isC ["BadText"] (xD "NoPlace" fs) = ret (.bool false) := by rw [isC_x (by decide)]; exact congrArg (fun z => ret (PyData.bool z)) (by decide : _ = false)
  have i5 : isC ["BadTimes"] (xD "NoPlace" fs) = ret (.bool false) := by rw [isC_x (by decide)]; exact congrArg (fun z => ret (PyData.bool z)) (by decide : _ = false)
  have i6 : isC ["Busy"] (xD "NoPlace" fs) = ret (.bool false) := by rw [isC_x (by decide)]; exact congrArg (fun z => ret (PyData.bool z)) (by decide : _ = false)
  have i7 : isC ["LastWord"] (xD "NoPlace" fs) = ret (.bool false) := by rw [isC_x (by decide)]; exact congrArg (fun z => ret (PyData.bool z)) (by decide : _ = false)
  have i8 : isC ["NothingToUndo"] (xD "NoPlace" fs) = ret (.bool false) := by rw [isC_x (by decide)]; exact congrArg (fun z => ret (PyData.bool z)) (by decide : _ = false)
  have i9 : isC ["Rejected"] (xD "NoPlace" fs) = ret (.bool false) := by rw [isC_x (by decide)]; exact congrArg (fun z => ret (PyData.bool z)) (by decide : _ = false)
  have i10 : isC ["TooLong"] (xD "NoPlace" fs) = ret (.bool false) := by rw [isC_x (by decide)]; exact congrArg (fun z => ret (PyData.bool z)) (by decide : _ = false)
  have i11 : isC ["TooMany"] (xD "NoPlace" fs) = ret (.bool false) := by rw [isC_x (by decide)]; exact congrArg (fun z => ret (PyData.bool z)) (by decide : _ = false)
  have i12 : isC ["TooManyEdits"] (xD "NoPlace" fs) = ret (.bool false) := by rw [isC_x (by decide)]; exact congrArg (fun z => ret (PyData.bool z)) (by decide : _ = false)
  have i13 : isC ["TooNarrow"] (xD "NoPlace" fs) = ret (.bool false) := by rw [isC_x (by decide)]; exact congrArg (fun z => ret (PyData.bool z)) (by decide : _ = false)
  have i14 : isC ["NoPlace"] (xD "NoPlace" fs) = ret (.bool true) := by rw [isC_x (by decide)]; exact congrArg (fun z => ret (PyData.bool z)) (by decide : _ = true)
  have i15 : isC ["NoVersion"] (xD "NoPlace" fs) = ret (.bool false) := by rw [isC_x (by decide)]; exact congrArg (fun z => ret (PyData.bool z)) (by decide : _ = false)
  have i16 : isC ["NoWidth"] (xD "NoPlace" fs) = ret (.bool false) := by rw [isC_x (by decide)]; exact congrArg (fun z => ret (PyData.bool z)) (by decide : _ = false)
  have i17 : isC ["WrapError"] (xD "NoPlace" fs) = ret (.bool false) := by rw [isC_x (by decide)]; exact congrArg (fun z => ret (PyData.bool z)) (by decide : _ = false)
  have i18 : isC ["ValueError"] (xD "NoPlace" fs) = ret (.bool false) := by rw [isC_x (by decide)]; exact congrArg (fun z => ret (PyData.bool z)) (by decide : _ = false)
  have i19 : isC ["LookupError"] (xD "NoPlace" fs) = ret (.bool true) := by rw [isC_x (by decide)]; exact congrArg (fun z => ret (PyData.bool z)) (by decide : _ = true)
  have c : opCnt (.list [.bool false, .bool false, .bool false, .bool false, .bool false, .bool false, .bool false, .bool false, .bool false, .bool false, .bool false, .bool false, .bool false, .bool false, .bool true, .bool false, .bool false]) (.bool true) = ret (.int 1) := rfl
  have x : opIxOf (.list [.bool false, .bool false, .bool false, .bool false, .bool false, .bool false, .bool false, .bool false, .bool false, .bool false, .bool false, .bool false, .bool false, .bool false, .bool true, .bool false, .bool false]) (.bool true) = ret (.int 14) := rfl
  have q : opIdx (.list [.str "BadEdit", .str "BadEdits", .str "BadLength", .str "BadRow", .str "BadText", .str "BadTimes", .str "Busy", .str "LastWord", .str "NothingToUndo", .str "Rejected", .str "TooLong", .str "TooMany", .str "TooManyEdits", .str "TooNarrow", .str "NoPlace", .str "NoVersion", .str "NoWidth"]) (.int 14) = ret (.str "NoPlace") := rfl
  have y : opIdx (.list [.list [.bool true, .bool true, .bool false], .list [.bool false, .bool false, .bool true]]) (.int 1) = ret (.list [.bool false, .bool false, .bool true]) := rfl
  have z : opCmp .ne (.list [.bool false, .bool false, .bool true]) (.list [.bool false, .bool false, .bool true]) = ret false := ne_self (by decide +kernel) (by decide +kernel)
  have g : decide ((13 : Int) < 14) = true := by decide
  have ib : bi1 .int (.bool true) = ret (.int 1) := rfl
  simp only [x_var, x_con, x_bin, x_neg, x_cmp, x_chain, x_tTru, x_tNot, x_tAnd, x_tOr, x_tBool, x_tYes, x_not, x_and, x_or, x_if, x_b1, x_b2, x_is, x_idx, x_oNone, x_oSome, x_cut, x_aNil, x_aCons, x_tup, x_lst, x_call, x_callS,
    x_iSeq, x_iRng1, x_iRng2, x_bor, x_tBor, x_put1, List.map_cons, List.map_nil, List.cons_append, List.nil_append, List.length_cons, List.length_nil, Nat.zero_add, Nat.reduceAdd, Nat.reduceSub, List.reduceReplicate, start,
    List.getElem?_cons_zero, List.getElem?_cons_succ, List.set_cons_zero, List.set_cons_succ, bnd_ret, bnd_assoc, bnd_grd, b1_if, bnd_ite, small, Nat.reduceLeDiff, grd_true, o_add, o_sub, o_neg, o_eq, o_ne, o_lt, o_le, o_gt, o_ge, o_eqS, o_neS,
    decide_eq_true_eq, reduceIte, decide_true, decide_false, Bool.not_true, Bool.not_false, Bool.false_eq_true, itemsOf, asInt, bi2, endOf, isTy,
    grd_tt, nx_int, nx_bool, nx_str, nx_none, nx_tup, nx_lst, x_isC, x_fld, x_in, x_count, x_lstR, x_tupR, x_raise, x_star, bnd_thr, noX_ret, fld_x, exn_d, eSetO, Out.clear, List.zip_cons_cons, List.zip_nil_left, List.zip_nil_right, s_asg, s_par, s_own, s_parO, s_put, s_expr, s_ret, s_skip, s_seq, s_rel, x_asg, x_par, x_own, x_parO, x_put, x_expr, x_ret, x_retN, x_skip, x_rel, x_app, x_setI, x_sIf, x_for, x_brk, x_cnt, s_chk, x_ixOf, i0, i1, i2, i3, i4, i5, i6, i7, i8, i9, i10, i11, i12, i13, i14, i15, i16, i17, i18, i19, c, x, q, y, z, g, ib, add_lst]
  all_goals rfl
theorem field_BadLength (d : D) : w__law_field_0 [xD "BadLength" [("value", d)]] = ret d := by
  unfold w__law_field_0
  refine (f_fn (by rfl)).trans ?_
  have i0 : isC ["BadLength", "BadTimes", "NoPlace", "NoVersion", "NoWidth"] (xD "BadLength" [("value", d)]) = ret (.bool true) := by rw [isC_x (by decide)]; exact congrArg (fun z => ret (PyData.bool z)) (by decide : _ = true)
  have i1 : isC ["BadEdit", "BadText", "Rejected"] (xD "BadLength" [("value", d)]) = ret (.bool false) := by rw [isC_x (by decide)]; exact congrArg (fun z => ret (PyData.bool z)) (by decide : _ = false)
  have i2 : isC ["TooLong", "TooNarrow"] (xD "BadLength" [("value", d)]) = ret (.bool false) := by rw [isC_x (by decide)]; exact congrArg (fun z => ret (PyData.bool z)) (by decide : _ = false)
  have i3 : isC ["TooMany"] (xD "BadLength" [("value", d)]) = ret (.bool false) := by rw [isC_x (by decide)]; exact congrArg (fun z => ret (PyData.bool z)) (by decide : _ = false)
  have i4 : isC ["BadRow"] (xD "BadLength" [("value", d)]) = ret (.bool false) := by rw [isC_x (by decide)]; exact congrArg (fun z => ret (PyData.bool z)) (by decide : _ = false)
  have fx : fldOf (Fl.s .value) (xD "BadLength" [("value", d)]) = ret d := fld_x _ _ _
  simp only [x_var, x_con, x_bin, x_neg, x_cmp, x_chain, x_tTru, x_tNot, x_tAnd, x_tOr, x_tBool, x_tYes, x_not, x_and, x_or, x_if, x_b1, x_b2, x_is, x_idx, x_oNone, x_oSome, x_cut, x_aNil, x_aCons, x_tup, x_lst, x_call, x_callS,
    x_iSeq, x_iRng1, x_iRng2, x_bor, x_tBor, x_put1, List.map_cons, List.map_nil, List.cons_append, List.nil_append, List.length_cons, List.length_nil, Nat.zero_add, Nat.reduceAdd, Nat.reduceSub, List.reduceReplicate, start,
    List.getElem?_cons_zero, List.getElem?_cons_succ, List.set_cons_zero, List.set_cons_succ, bnd_ret, bnd_assoc, bnd_grd, b1_if, bnd_ite, small, Nat.reduceLeDiff, grd_true, o_add, o_sub, o_neg, o_eq, o_ne, o_lt, o_le, o_gt, o_ge, o_eqS, o_neS,
    decide_eq_true_eq, reduceIte, decide_true, decide_false, Bool.not_true, Bool.not_false, Bool.false_eq_true, itemsOf, asInt, bi2, endOf, isTy,
    grd_tt, nx_int, nx_bool, nx_str, nx_none, nx_tup, nx_lst, x_isC, x_fld, x_in, x_count, x_lstR, x_tupR, x_raise, x_star, bnd_thr, noX_ret, fld_x, exn_d, eSetO, Out.clear, List.zip_cons_cons, List.zip_nil_left, List.zip_nil_right, s_asg, s_par, s_own, s_parO, s_put, s_expr, s_ret, s_skip, s_seq, s_rel, x_asg, x_par, x_own, x_parO, x_put, x_expr, x_ret, x_retN, x_skip, x_rel, x_app, x_setI, x_sIf, x_for, x_brk, x_cnt, s_chk, t_bool, tru, i0, i1, i2, i3, i4, fx]
  all_goals rfl
theorem field_LastWord : w__law_field_0 [xD "LastWord" []] = ret .none := by
  unfold w__law_field_0
  refine (f_fn (by rfl)).trans ?_
  have i0 : isC ["BadLength", "BadTimes", "NoPlace", "NoVersion", "NoWidth"] (xD "LastWord" []) = ret (.bool false) := by rw [isC_x (by decide)]; exact congrArg (fun z => ret (PyData.bool z)) (by decide : _ = false)
  have i1 : isC ["BadEdit", "BadText", "Rejected"] (xD "LastWord" []) = ret (.bool false) := by rw [isC_x (by decide)]; exact congrArg (fun z => ret (PyData.bool z)) (by decide : _ = false)
  have i2 : isC ["TooLong", "TooNarrow"] (xD "LastWord" []) = ret (.bool false) := by rw [isC_x (by decide)]; exact congrArg (fun z => ret (PyData.bool z)) (by decide : _ = false)
  have i3 : isC ["TooMany"] (xD "LastWord" []) = ret (.bool false) := by rw [isC_x (by decide)]; exact congrArg (fun z => ret (PyData.bool z)) (by decide : _ = false)
  have i4 : isC ["BadRow"] (xD "LastWord" []) = ret (.bool false) := by rw [isC_x (by decide)]; exact congrArg (fun z => ret (PyData.bool z)) (by decide : _ = false)
  simp only [x_var, x_con, x_bin, x_neg, x_cmp, x_chain, x_tTru, x_tNot, x_tAnd, x_tOr, x_tBool, x_tYes, x_not, x_and, x_or, x_if, x_b1, x_b2, x_is, x_idx, x_oNone, x_oSome, x_cut, x_aNil, x_aCons, x_tup, x_lst, x_call, x_callS,
    x_iSeq, x_iRng1, x_iRng2, x_bor, x_tBor, x_put1, List.map_cons, List.map_nil, List.cons_append, List.nil_append, List.length_cons, List.length_nil, Nat.zero_add, Nat.reduceAdd, Nat.reduceSub, List.reduceReplicate, start,
    List.getElem?_cons_zero, List.getElem?_cons_succ, List.set_cons_zero, List.set_cons_succ, bnd_ret, bnd_assoc, bnd_grd, b1_if, bnd_ite, small, Nat.reduceLeDiff, grd_true, o_add, o_sub, o_neg, o_eq, o_ne, o_lt, o_le, o_gt, o_ge, o_eqS, o_neS,
    decide_eq_true_eq, reduceIte, decide_true, decide_false, Bool.not_true, Bool.not_false, Bool.false_eq_true, itemsOf, asInt, bi2, endOf, isTy,
    grd_tt, nx_int, nx_bool, nx_str, nx_none, nx_tup, nx_lst, x_isC, x_fld, x_in, x_count, x_lstR, x_tupR, x_raise, x_star, bnd_thr, noX_ret, fld_x, exn_d, eSetO, Out.clear, List.zip_cons_cons, List.zip_nil_left, List.zip_nil_right, s_asg, s_par, s_own, s_parO, s_put, s_expr, s_ret, s_skip, s_seq, s_rel, x_asg, x_par, x_own, x_parO, x_put, x_expr, x_ret, x_retN, x_skip, x_rel, x_app, x_setI, x_sIf, x_for, x_brk, x_cnt, s_chk, t_bool, tru, i0, i1, i2, i3, i4]
  all_goals rfl
theorem field_NothingToUndo : w__law_field_0 [xD "NothingToUndo" []] = ret .none := by
  unfold w__law_field_0
  refine (f_fn (by rfl)).trans ?_
  have i0 : isC ["BadLength", "BadTimes", "NoPlace", "NoVersion", "NoWidth"] (xD "NothingToUndo" []) = ret (.bool false) := by rw [isC_x (by decide)]; exact congrArg (fun z => ret (PyData.bool z)) (by decide : _ = false)
  have i1 : isC ["BadEdit", "BadText", "Rejected"] (xD "NothingToUndo" []) = ret (.bool false) := by rw [isC_x (by decide)]; exact congrArg (fun z => ret (PyData.bool z)) (by decide : _ = false)
  have i2 : isC ["TooLong", "TooNarrow"] (xD "NothingToUndo" []) = ret (.bool false) := by rw [isC_x (by decide)]; exact congrArg (fun z => ret (PyData.bool z)) (by decide : _ = false)
  have i3 : isC ["TooMany"] (xD "NothingToUndo" []) = ret (.bool false) := by rw [isC_x (by decide)]; exact congrArg (fun z => ret (PyData.bool z)) (by decide : _ = false)
  have i4 : isC ["BadRow"] (xD "NothingToUndo" []) = ret (.bool false) := by rw [isC_x (by decide)]; exact congrArg (fun z => ret (PyData.bool z)) (by decide : _ = false)
  simp only [x_var, x_con, x_bin, x_neg, x_cmp, x_chain, x_tTru, x_tNot, x_tAnd, x_tOr, x_tBool, x_tYes, x_not, x_and, x_or, x_if, x_b1, x_b2, x_is, x_idx, x_oNone, x_oSome, x_cut, x_aNil, x_aCons, x_tup, x_lst, x_call, x_callS,
    x_iSeq, x_iRng1, x_iRng2, x_bor, x_tBor, x_put1, List.map_cons, List.map_nil, List.cons_append, List.nil_append, List.length_cons, List.length_nil, Nat.zero_add, Nat.reduceAdd, Nat.reduceSub, List.reduceReplicate, start,
    List.getElem?_cons_zero, List.getElem?_cons_succ, List.set_cons_zero, List.set_cons_succ, bnd_ret, bnd_assoc, bnd_grd, b1_if, bnd_ite, small, Nat.reduceLeDiff, grd_true, o_add, o_sub, o_neg, o_eq, o_ne, o_lt, o_le, o_gt, o_ge, o_eqS, o_neS,
    decide_eq_true_eq, reduceIte, decide_true, decide_false, Bool.not_true, Bool.not_false, Bool.false_eq_true, itemsOf, asInt, bi2, endOf, isTy,
    grd_tt, nx_int, nx_bool, nx_str, nx_none, nx_tup, nx_lst, x_isC, x_fld, x_in, x_count, x_lstR, x_tupR, x_raise, x_star, bnd_thr, noX_ret, fld_x, exn_d, eSetO, Out.clear, List.zip_cons_cons, List.zip_nil_left, List.zip_nil_right, s_asg, s_par, s_own, s_parO, s_put, s_expr, s_ret, s_skip, s_seq, s_rel, x_asg, x_par, x_own, x_parO, x_put, x_expr, x_ret, x_retN, x_skip, x_rel, x_app, x_setI, x_sIf, x_for, x_brk, x_cnt, s_chk, t_bool, tru, i0, i1, i2, i3, i4]
  all_goals rfl
theorem field_TooMany (d : D) : w__law_field_0 [xD "TooMany" [("limit", d)]] = ret d := by
  unfold w__law_field_0
  refine (f_fn (by rfl)).trans ?_
  have i0 : isC ["BadLength", "BadTimes", "NoPlace", "NoVersion", "NoWidth"] (xD "TooMany" [("limit", d)]) = ret (.bool false) := by rw [isC_x (by decide)]; exact congrArg (fun z => ret (PyData.bool z)) (by decide : _ = false)
  have i1 : isC ["BadEdit", "BadText", "Rejected"] (xD "TooMany" [("limit", d)]) = ret (.bool false) := by rw [isC_x (by decide)]; exact congrArg (fun z => ret (PyData.bool z)) (by decide : _ = false)
  have i2 : isC ["TooLong", "TooNarrow"] (xD "TooMany" [("limit", d)]) = ret (.bool false) := by rw [isC_x (by decide)]; exact congrArg (fun z => ret (PyData.bool z)) (by decide : _ = false)
  have i3 : isC ["TooMany"] (xD "TooMany" [("limit", d)]) = ret (.bool true) := by rw [isC_x (by decide)]; exact congrArg (fun z => ret (PyData.bool z)) (by decide : _ = true)
  have i4 : isC ["BadRow"] (xD "TooMany" [("limit", d)]) = ret (.bool false) := by rw [isC_x (by decide)]; exact congrArg (fun z => ret (PyData.bool z)) (by decide : _ = false)
  have fx : fldOf (Fl.s .limit) (xD "TooMany" [("limit", d)]) = ret d := fld_x _ _ _
  simp only [x_var, x_con, x_bin, x_neg, x_cmp, x_chain, x_tTru, x_tNot, x_tAnd, x_tOr, x_tBool, x_tYes, x_not, x_and, x_or, x_if, x_b1, x_b2, x_is, x_idx, x_oNone, x_oSome, x_cut, x_aNil, x_aCons, x_tup, x_lst, x_call, x_callS,
    x_iSeq, x_iRng1, x_iRng2, x_bor, x_tBor, x_put1, List.map_cons, List.map_nil, List.cons_append, List.nil_append, List.length_cons, List.length_nil, Nat.zero_add, Nat.reduceAdd, Nat.reduceSub, List.reduceReplicate, start,
    List.getElem?_cons_zero, List.getElem?_cons_succ, List.set_cons_zero, List.set_cons_succ, bnd_ret, bnd_assoc, bnd_grd, b1_if, bnd_ite, small, Nat.reduceLeDiff, grd_true, o_add, o_sub, o_neg, o_eq, o_ne, o_lt, o_le, o_gt, o_ge, o_eqS, o_neS,
    decide_eq_true_eq, reduceIte, decide_true, decide_false, Bool.not_true, Bool.not_false, Bool.false_eq_true, itemsOf, asInt, bi2, endOf, isTy,
    grd_tt, nx_int, nx_bool, nx_str, nx_none, nx_tup, nx_lst, x_isC, x_fld, x_in, x_count, x_lstR, x_tupR, x_raise, x_star, bnd_thr, noX_ret, fld_x, exn_d, eSetO, Out.clear, List.zip_cons_cons, List.zip_nil_left, List.zip_nil_right, s_asg, s_par, s_own, s_parO, s_put, s_expr, s_ret, s_skip, s_seq, s_rel, x_asg, x_par, x_own, x_parO, x_put, x_expr, x_ret, x_retN, x_skip, x_rel, x_app, x_setI, x_sIf, x_for, x_brk, x_cnt, s_chk, t_bool, tru, i0, i1, i2, i3, i4, fx]
  all_goals rfl
theorem field_TooManyEdits : w__law_field_0 [xD "TooManyEdits" []] = ret .none := by
  unfold w__law_field_0
  refine (f_fn (by rfl)).trans ?_
  have i0 : isC ["BadLength", "BadTimes", "NoPlace", "NoVersion", "NoWidth"] (xD "TooManyEdits" []) = ret (.bool false) := by rw [isC_x (by decide)]; exact congrArg (fun z => ret (PyData.bool z)) (by decide : _ = false)
  have i1 : isC ["BadEdit", "BadText", "Rejected"] (xD "TooManyEdits" []) = ret (.bool false) := by rw [isC_x (by decide)]; exact congrArg (fun z => ret (PyData.bool z)) (by decide : _ = false)
  have i2 : isC ["TooLong", "TooNarrow"] (xD "TooManyEdits" []) = ret (.bool false) := by rw [isC_x (by decide)]; exact congrArg (fun z => ret (PyData.bool z)) (by decide : _ = false)
  have i3 : isC ["TooMany"] (xD "TooManyEdits" []) = ret (.bool false) := by rw [isC_x (by decide)]; exact congrArg (fun z => ret (PyData.bool z)) (by decide : _ = false)
  have i4 : isC ["BadRow"] (xD "TooManyEdits" []) = ret (.bool false) := by rw [isC_x (by decide)]; exact congrArg (fun z => ret (PyData.bool z)) (by decide : _ = false)
  simp only [x_var, x_con, x_bin, x_neg, x_cmp, x_chain, x_tTru, x_tNot, x_tAnd, x_tOr, x_tBool, x_tYes, x_not, x_and, x_or, x_if, x_b1, x_b2, x_is, x_idx, x_oNone, x_oSome, x_cut, x_aNil, x_aCons, x_tup, x_lst, x_call, x_callS,
    x_iSeq, x_iRng1, x_iRng2, x_bor, x_tBor, x_put1, List.map_cons, List.map_nil, List.cons_append, List.nil_append, List.length_cons, List.length_nil, Nat.zero_add, Nat.reduceAdd, Nat.reduceSub, List.reduceReplicate, start,
    List.getElem?_cons_zero, List.getElem?_cons_succ, List.set_cons_zero, List.set_cons_succ, bnd_ret, bnd_assoc, bnd_grd, b1_if, bnd_ite, small, Nat.reduceLeDiff, grd_true, o_add, o_sub, o_neg, o_eq, o_ne, o_lt, o_le, o_gt, o_ge, o_eqS, o_neS,
    decide_eq_true_eq, reduceIte, decide_true, decide_false, Bool.not_true, Bool.not_false, Bool.false_eq_true, itemsOf, asInt, bi2, endOf, isTy,
    grd_tt, nx_int, nx_bool, nx_str, nx_none, nx_tup, nx_lst, x_isC, x_fld, x_in, x_count, x_lstR, x_tupR, x_raise, x_star, bnd_thr, noX_ret, fld_x, exn_d, eSetO, Out.clear, List.zip_cons_cons, List.zip_nil_left, List.zip_nil_right, s_asg, s_par, s_own, s_parO, s_put, s_expr, s_ret, s_skip, s_seq, s_rel, x_asg, x_par, x_own, x_parO, x_put, x_expr, x_ret, x_retN, x_skip, x_rel, x_app, x_setI, x_sIf, x_for, x_brk, x_cnt, s_chk, t_bool, tru, i0, i1, i2, i3, i4]
  all_goals rfl
theorem field_NoPlace (d : D) : w__law_field_0 [xD "NoPlace" [("value", d)]] = ret d := by
  unfold w__law_field_0
  refine (f_fn (by rfl)).trans ?_
  have i0 : isC ["BadLength", "BadTimes", "NoPlace", "NoVersion", "NoWidth"] (xD "NoPlace" [("value", d)]) = ret (.bool true) := by rw [isC_x (by decide)]; exact congrArg (fun z => ret (PyData.bool z)) (by decide : _ = true)
  have i1 : isC ["BadEdit", "BadText", "Rejected"] (xD "NoPlace" [("value", d)]) = ret (.bool false) := by rw [isC_x (by decide)]; exact congrArg (fun z => ret (PyData.bool z)) (by decide : _ = false)
  have i2 : isC ["TooLong", "TooNarrow"] (xD "NoPlace" [("value", d)]) = ret (.bool false) := by rw [isC_x (by decide)]; exact congrArg (fun z => ret (PyData.bool z)) (by decide : _ = false)
  have i3 : isC ["TooMany"] (xD "NoPlace" [("value", d)]) = ret (.bool false) := by rw [isC_x (by decide)]; exact congrArg (fun z => ret (PyData.bool z)) (by decide : _ = false)
  have i4 : isC ["BadRow"] (xD "NoPlace" [("value", d)]) = ret (.bool false) := by rw [isC_x (by decide)]; exact congrArg (fun z => ret (PyData.bool z)) (by decide : _ = false)
  have fx : fldOf (Fl.s .value) (xD "NoPlace" [("value", d)]) = ret d := fld_x _ _ _
  simp only [x_var, x_con, x_bin, x_neg, x_cmp, x_chain, x_tTru, x_tNot, x_tAnd, x_tOr, x_tBool, x_tYes, x_not, x_and, x_or, x_if, x_b1, x_b2, x_is, x_idx, x_oNone, x_oSome, x_cut, x_aNil, x_aCons, x_tup, x_lst, x_call, x_callS,
    x_iSeq, x_iRng1, x_iRng2, x_bor, x_tBor, x_put1, List.map_cons, List.map_nil, List.cons_append, List.nil_append, List.length_cons, List.length_nil, Nat.zero_add, Nat.reduceAdd, Nat.reduceSub, List.reduceReplicate, start,
    List.getElem?_cons_zero, List.getElem?_cons_succ, List.set_cons_zero, List.set_cons_succ, bnd_ret, bnd_assoc, bnd_grd, b1_if, bnd_ite, small, Nat.reduceLeDiff, grd_true, o_add, o_sub, o_neg, o_eq, o_ne, o_lt, o_le, o_gt, o_ge, o_eqS, o_neS,
    decide_eq_true_eq, reduceIte, decide_true, decide_false, Bool.not_true, Bool.not_false, Bool.false_eq_true, itemsOf, asInt, bi2, endOf, isTy,
    grd_tt, nx_int, nx_bool, nx_str, nx_none, nx_tup, nx_lst, x_isC, x_fld, x_in, x_count, x_lstR, x_tupR, x_raise, x_star, bnd_thr, noX_ret, fld_x, exn_d, eSetO, Out.clear, List.zip_cons_cons, List.zip_nil_left, List.zip_nil_right, s_asg, s_par, s_own, s_parO, s_put, s_expr, s_ret, s_skip, s_seq, s_rel, x_asg, x_par, x_own, x_parO, x_put, x_expr, x_ret, x_retN, x_skip, x_rel, x_app, x_setI, x_sIf, x_for, x_brk, x_cnt, s_chk, t_bool, tru, i0, i1, i2, i3, i4, fx]
  all_goals rfl
end DL
end
section
namespace DL
open PySem
end DL
end
section
namespace DL
open PySem
mutual
def sharp : D → Bool
  | .none => true
  | .int _ => true
  | .str _ => true
  | .list xs => sharpAll xs
  | .tuple xs => sharpAll xs
  | _ => false
def sharpAll : List D → Bool
  | [] => true
  | x :: xs => sharp x && sharpAll xs
end
/-- what is compared as it is written; how deep -/
structure Shx (k : Nat) (d : D) : Prop extends Shp k d where
  sh : sharp d = true
theorem Shx.mono {k k' : Nat} {d : D} (h : Shx k d) (hk : k ≤ k') : Shx k' d := ⟨h.toShp.mono hk, h.sh⟩
end DL
end
section
namespace DL
open PySem
end DL
end
section
namespace DL
open PySem
/-- (u, v, m): column v is at most m greater than column u -/
abbrev Bnd := Nat × Nat × Int
abbrev Cols := Nat → Int
def Sol (bs : List Bnd) (y : Cols) : Prop := ∀ b ∈ bs, y b.2.1 ≤ y b.1 + b.2.2
/-- nodes below n; the bounds are between them -/
def In (n : Nat) (bs : List Bnd) : Prop := ∀ b ∈ bs, b.1 < n ∧ b.2.1 < n
end DL
end
section
namespace DL
open PySem
end DL
end
section
namespace DL
open PySem
end DL
end
section
namespace DL
open PySem
def fb1 (p : Nat) : List Bnd := [(p, p + 1, 61), (p + 1, p, -2)]
def fb2 (w : Int) (p : Nat) : Bnd := (p, p + 1, w + 1)
def fb3 (L : Nat) (w : Int) (e : Nat × Nat) : List Bnd := (e.1, e.2, w + 1) :: if e.2 < L then [(e.2 + 1, e.1, -2 - w)] else []
def fbQ (L : Nat) (q : Int × List Nat) : List Bnd := (List.range L).map (fb2 q.1) ++ (endN L q.2).flatMap (fb3 L q.1)
def bndsOf (L : Nat) (qs : List (Int × List Nat)) : List Bnd := (List.range L).flatMap fb1 ++ qs.flatMap (fbQ L)
end DL
end
section
namespace DL
open PySem
/-- how far the first k words reach, with a space behind each -/
def pre (ns : List Int) (k : Nat) : Int := (ns.take k).sum + k
theorem pre_ext {ns : List Int} {a b : Nat} (h : a < b) : ext ns a (b - 1) = pre ns b - pre ns a - 1 := by
  rw [← ext_sum h]
  unfold pre
  have e : (ns.take b).sum = (ns.take a).sum + ((ns.drop a).take (b - a)).sum := by
    have : ns.take b = ns.take a ++ (ns.drop a).take (b - a) := by
      rw [← List.take_add, Nat.add_sub_cancel' (Nat.le_of_lt h)]
    rw [this, List.sum_append]
  omega
theorem pre_succ {ns : List Int} {k : Nat} (h : k < ns.length) : pre ns (k + 1) = pre ns k + ns[k] + 1 := by
  unfold pre
  rw [List.take_succ_eq_append_getElem h, List.sum_append]
  simp
  omega
/-- looks of a row, as sightings -/
def looks (ns : List Int) (ws : List Int) : List (Int × List Nat) := ws.map fun w => (w, starts ns w)
theorem end_adj {L : Nat} : ∀ {l : List Nat} {e : Nat × Nat}, e ∈ endN L l → e.2 ∈ l ∨ e.2 = L → e.2 < L → e ∈ adjN l
  | [a], e, h, _, lt => by
    have : e = (a, L) := by simpa [endN] using h
    rw [this] at lt
    exact absurd lt (Nat.lt_irrefl _)
  | a :: b :: r, e, h, m, lt => by
    have h' : e ∈ (a, b) :: endN L (b :: r) := h
    rcases List.mem_cons.mp h' with rfl | h'
    · exact .head _
    · exact .tail _ (end_adj h' (end_mem h').2 lt)
/-- a row that was seen keeps the bounds -/
theorem sol_row {ns : List Int} {ws : List Int} (h1 : 0 < ns.length) (hn : ∀ x ∈ ns, 1 ≤ x ∧ x ≤ 60) (hw : ∀ w ∈ ws, ∀ x ∈ ns, x ≤ w) : Sol (bndsOf ns.length (looks ns ws)) fun k => pre ns k - pre ns ns.length := fun b hb => by
  have stp : ∀ p (h : p < ns.length), pre ns (p + 1) = pre ns p + ns[p] + 1 := fun p h => pre_succ h
  show pre ns b.2.1 - pre ns ns.length ≤ pre ns b.1 - pre ns ns.length + b.2.2
  unfold bndsOf at hb
  rcases List.mem_append.mp hb with hb | hb
  · obtain ⟨p, hp, hb⟩ := List.mem_flatMap.mp hb
    have hp := List.mem_range.mp hp
    have s := stp p hp
    have r := hn _ (List.getElem_mem hp)
    simp only [fb1, List.mem_cons, List.not_mem_nil, or_false] at hb
    rcases hb with rfl | rfl
    · show pre ns (p + 1) - _ ≤ pre ns p - _ + 61
      omega
    · show pre ns p - _ ≤ pre ns (p + 1) - _ + -2
      omega
  · obtain ⟨q, hq, hb⟩ := List.mem_flatMap.mp hb
    obtain ⟨w, hww, rfl⟩ := List.mem_map.mp hq
    unfold fbQ at hb
    rcases List.mem_append.mp hb with hb | hb
    · obtain ⟨p, hp, rfl⟩ := List.mem_map.mp hb
      have hp := List.mem_range.mp hp
      have s := stp p hp
      have r := hw w hww _ (List.getElem_mem hp)
      show pre ns (p + 1) - _ ≤ pre ns p - _ + (w + 1)
      omega
    · obtain ⟨e, he, hb⟩ := List.mem_flatMap.mp hb
      have bf := (brk_starts (w := w) h1 (hw w hww)).fits he
      have pe := pre_ext (ns := ns) bf.1
      unfold fb3 at hb
      rcases List.mem_cons.mp hb with rfl | hb
      · show pre ns e.2 - _ ≤ pre ns e.1 - _ + (w + 1)
        omega
      · split at hb
        · rename_i lt
          rw [List.mem_singleton.mp hb]
          have fa := (bar_starts (w := w) h1).fars (end_adj he (end_mem he).2 lt)
          have pe2 := pre_ext (ns := ns) (a := e.1) (b := e.2 + 1) (by omega)
          rw [Nat.add_sub_cancel] at pe2
          show pre ns e.1 - _ ≤ pre ns (e.2 + 1) - _ + (-2 - w)
          omega
        · cases hb
end DL
end
section
namespace DL
open PySem
end DL
end
section
namespace DL
open PySem
end DL
end
section
namespace DL
open PySem
/-- the least and the greatest extent of a stretch in all columns that keep the bounds -/
structure Rng (L : Nat) (qs : List (Int × List Nat)) (a b : Nat) (lo hi : Int) : Prop where
  all : ∀ u : Cols, Sol (bndsOf L qs) u → lo ≤ u (b + 1) - u a - 1 ∧ u (b + 1) - u a - 1 ≤ hi
  low : ∃ u : Cols, Sol (bndsOf L qs) u ∧ u (b + 1) - u a - 1 = lo
  high : ∃ u : Cols, Sol (bndsOf L qs) u ∧ u (b + 1) - u a - 1 = hi
end DL
end
section
namespace DL
open PySem
section
variable {ns ws : List Int} {a b c : Nat} {lo hi : Int}
theorem Rng.row (R : Rng ns.length (looks ns ws) a b lo hi) (h1 : 0 < ns.length) (hn : ∀ x ∈ ns, 1 ≤ x ∧ x ≤ 60) (hw : ∀ w ∈ ws, ∀ x ∈ ns, x ≤ w) (hab : a ≤ b) : lo ≤ ext ns a b ∧ ext ns a b ≤ hi := by
  have h := R.all _ (sol_row h1 hn hw)
  have pe := pre_ext (ns := ns) (a := a) (b := b + 1) (by omega)
  rw [Nat.add_sub_cancel] at pe
  omega
theorem Rng.one (R : Rng ns.length (looks ns ws) a a lo hi) (ha : a < ns.length) : 1 ≤ lo ∧ hi ≤ 60 := by
  have f1 : ∀ u, Sol (bndsOf ns.length (looks ns ws)) u → u (a + 1) ≤ u a + 61 ∧ u a ≤ u (a + 1) - 2 := fun u so => by
    have m : ∀ x ∈ fb1 a, x ∈ bndsOf ns.length (looks ns ws) := fun x hx => List.mem_append.mpr (.inl (List.mem_flatMap.mpr ⟨a, List.mem_range.mpr ha, hx⟩))
    have p : u (a + 1) ≤ u a + 61 := so _ (m (a, a + 1, 61) (.head _))
    have q : u a ≤ u (a + 1) + -2 := so _ (m (a + 1, a, -2) (.tail _ (.head _)))
    omega
  obtain ⟨u, u1, u2⟩ := R.low
  obtain ⟨v, v1, v2⟩ := R.high
  have p := f1 u u1
  have q := f1 v v1
  omega
theorem Rng.parts {lo1 hi1 lo2 hi2 : Int} (R : Rng ns.length (looks ns ws) a b lo hi) (A : Rng ns.length (looks ns ws) a c lo1 hi1) (B : Rng ns.length (looks ns ws) (c + 1) b lo2 hi2) : lo1 + lo2 + 1 ≤ lo ∧ hi ≤ hi1 + hi2 + 1 := by
  obtain ⟨u, u1, u2⟩ := R.low
  obtain ⟨v, v1, v2⟩ := R.high
  have p1 := A.all u u1
  have p2 := B.all u u1
  have q1 := A.all v v1
  have q2 := B.all v v1
  omega
end
end DL
end
section
namespace DL
open PySem
section
variable {ns : List Int} {m : Int}
theorem Bar.low {v w : Int} {l : List Nat} (h : Bar ns w l) (hv : v ≤ w) : Bar ns v l := by
  refine .of h.ne h.lt fun k a b h1 h2 => ?_
  have := h.fars (adj_at h1 h2)
  exact ⟨this.1, by have := this.2.2; simp at this; omega⟩
end
end DL
end
section
namespace DL
open PySem
def Itm (q : Int × List Int) : Prop := 1 ≤ q.1 ∧ q.1 ≤ 2000 ∧ q.2.length ≤ 30 ∧ ∀ x ∈ q.2, 0 ≤ x ∧ x < 24
theorem set_pair {qs : List (Int × List Int)} {i : Nat} {q : Int × List Int} : (qs.map pairD).set i (pairD q) = (qs.set i q).map pairD := List.map_set.symm
theorem itm_set {qs : List (Int × List Int)} {i : Nat} {q : Int × List Int} (h : ∀ q ∈ qs, Itm q) (hq : Itm q) : ∀ x ∈ qs.set i q, Itm x := fun x hx => by
  rcases List.mem_or_eq_of_mem_set hx with h1 | rfl
  · exact h x h1
  · exact hq
def SgI (x1 row : D) (way : Int) (L : Nat) (i : Int) (E : Env) : Prop := ∃ (qs : List (Int × List Int)) (w : Int) (ss : List Int) (e9 e10 e11 e12 : Ent),
  E = [.stm, .val x1, .val row, .val (.int way), .own (qs.map pairD), .val (.int (L : Int)), .val (.int i), .val (.int w), .val (.tuple (ss.map PyData.int)), e9, e10, e11, e12] ∧
    (0 ≤ i ∧ i < qs.length) ∧ qs.length ≤ 6 ∧ (∀ q ∈ qs, Itm q) ∧ (1 ≤ w ∧ w ≤ 2000) ∧ ss.length ≤ 25 ∧ ∀ x ∈ ss, 0 ≤ x ∧ x < 24
section
variable {x1 row : D} {way : Int} {L : Nat} {i : Int} {E : Env}
theorem SgI.mk' {qs : List (Int × List Int)} {w : Int} {ss : List Int} {e9 e10 e11 e12 : Ent} (h1 : 0 ≤ i ∧ i < qs.length) (h2 : qs.length ≤ 6) (h3 : ∀ q ∈ qs, Itm q) (h4 : 1 ≤ w ∧ w ≤ 2000) (h5 : ss.length ≤ 25) (h6 : ∀ x ∈ ss, 0 ≤ x ∧ x < 24) :
    SgI x1 row way L i [.stm, .val x1, .val row, .val (.int way), .own (qs.map pairD), .val (.int (L : Int)), .val (.int i), .val (.int w), .val (.tuple (ss.map PyData.int)), e9, e10, e11, e12] := ⟨qs, w, ss, e9, e10, e11, e12, rfl, h1, h2, h3, h4, h5, h6⟩
theorem SgI.put {qs : List (Int × List Int)} {j : Nat} {q : Int × List Int} {w : Int} {ss : List Int} {e9 e10 e11 e12 : Ent} (h1 : 0 ≤ i ∧ i < qs.length) (h2 : qs.length ≤ 6) (h3 : ∀ q ∈ qs, Itm q) (hq : Itm q) (h4 : 1 ≤ w ∧ w ≤ 2000) (h5 : ss.length ≤ 25) (h6 : ∀ x ∈ ss, 0 ≤ x ∧ x < 24) :
    SgI x1 row way L i [.stm, .val x1, .val row, .val (.int way), .own ((qs.map pairD).set j (pairD q)), .val (.int (L : Int)), .val (.int i), .val (.int w), .val (.tuple (ss.map PyData.int)), e9, e10, e11, e12] := by
  rw [set_pair]
  exact SgI.mk' ⟨h1.1, by rw [List.length_set]; exact h1.2⟩ (by rw [List.length_set]; exact h2) (itm_set h3 hq) h4 h5 h6
end
end DL
end
section
namespace DL
open PySem
section
variable {ns : List Int} {m w : Int}
theorem RowM.n {ns : List Int} {m : Int} (R : RowM ns m) : RowN ns := ⟨R.pos, R.few, R.rng⟩
theorem RowM.long {ns : List Int} {m w : Int} (R : RowM ns m) (h : m ≤ w) : Long ns w none := .no fun j x hj => Int.le_trans (R.mx x (List.mem_of_getElem? hj)) h
theorem RowM.starts_at {ns : List Int} {m w : Int} (R : RowM ns m) (h : m ≤ w) : w_starts_at_0 [.tuple (ns.map PyData.int), .int w] = ret (.tuple (natsD (starts ns w))) := starts_at_0 (R.long h) R.pos (by have := R.few; omega)
theorem intIn_yes {a b i : Int} (h : a ≤ i) (h2 : i ≤ b) : intIn a b (.int i) = true := by
  simp [intIn]
  omega
theorem RowM.call {ns : List Int} {m w : Int} (R : RowM ns m) (h : m ≤ w) (h2 : w ≤ 2000) : w_WR_call_0 [wr ns, .int w] = ret (.tuple (natsD (starts ns w))) := by
  have := R.m1
  rw [call_wr rfl, if_pos (intIn_yes (by omega) h2), R.starts_at h]
end
end DL
end
section
namespace DL
open PySem
end DL
end
section
namespace DL
open PySem
section
variable {α β : Type} {c c1 c2 : Sx} {a : Nat}
theorem at_bnd {m : W α} {f : α → W β} {x : α} (h : m c = ret x c1) : bnd m f c = f x c1 := by
  show (fun P X => m c (fun y c' => f y c' P X) X) = _
  rw [h]
  rfl
theorem at_thr {m : W α} {f : α → W β} {e : Exn} (h : m c = thr e c1) : bnd m f c = thr e c1 := by
  show (fun P X => m c (fun y c' => f y c' P X) X) = _
  rw [h]
  rfl
theorem at_noX {m : W α} {x : α} (h : m c = ret x c1) : noX m c = ret x c1 := by
  show (fun P X => m c P fun _ _ => False) = _
  rw [h]
  rfl
theorem at_grd {p : Prop} {m : W α} (h : p) : grd p m c = m c := by rw [grd_pos h]
theorem at_getI {n : Str} {fs : List (Str × D)} (h : c.mu a = some (.ins n fs)) : getI (rD a) c = ret (a, n, fs) c := by
  have e : insAt (rD a) c = some (a, n, fs) := by
    unfold insAt
    rw [rOf_rD]
    show (match c.mu a with | some (.ins n fs) => some (a, n, fs) | _ => none) = _
    rw [h]
  funext P X
  exact propext ⟨fun ⟨q, h1, h2⟩ => by rw [e] at h1; cases h1; exact h2, fun h => ⟨_, e, h⟩⟩
theorem at_getL {ds : List D} (h : c.mu a = some (.lst ds)) : getL (rD a) c = ret (a, ds) c := by
  have e : lstAt (rD a) c = some (a, ds) := by
    unfold lstAt
    rw [rOf_rD]
    show (match c.mu a with | some (.lst ds) => some (a, ds) | _ => none) = _
    rw [h]
  funext P X
  exact propext ⟨fun ⟨q, h1, h2⟩ => by rw [e] at h1; cases h1; exact h2, fun h => ⟨_, e, h⟩⟩
theorem at_putC {x : Cell} : putC a x c = ret () (c.set a x) := rfl
theorem set_mu {x : Cell} : (c.set a x).mu a = some x := if_pos rfl
theorem set_ne {b : Nat} {x : Cell} (h : b ≠ a) : (c.set a x).mu b = c.mu b := if_neg h
theorem set_n {x : Cell} : (c.set a x).n = c.n := rfl
theorem set_set {x y : Cell} : (c.set a x).set a y = c.set a y := by
  show (⟨c.n, fun b => if b = a then some y else if b = a then some x else c.mu b⟩ : Sx) = ⟨c.n, fun b => if b = a then some y else c.mu b⟩
  have e : (fun b => if b = a then some y else if b = a then some x else c.mu b) = fun b => if b = a then some y else c.mu b := by
    funext b
    by_cases h : b = a
    · rw [if_pos h, if_pos h]
    · rw [if_neg h, if_neg h, if_neg h]
  rw [e]
theorem at_vw {ds : List D} (h : c.mu a = some (.lst ds)) : vw (rD a) c = ret (.list ds) c := by
  unfold vw
  rw [at_bnd (at_getL h)]
/-- e.f -/
theorem at_get {E : Env} {e : XE} {f n : Str} {fs : List (Str × D)} {x : D} (he : e E c = ret (rD a) c) (h : c.mu a = some (.ins n fs)) (hx : fs.lookup f = some x) : eGet e f E c = ret x c := by
  unfold eGet
  rw [at_bnd he, at_bnd (at_getI h)]
  show (match fs.lookup f with | some x => ret x | none => stuck : W D) c = _
  rw [hx]
/-- e.f = v -/
theorem at_setF {E : Env} {e v : XE} {f n : Str} {fs : List (Str × D)} {x : D} (hv : v E c = ret x c) (he : e E c = ret (rD a) c) (h : c.mu a = some (.ins n fs)) (hx : flat x = true) : sSetF e f v E c = ret (.nx E) (c.set a (.ins n (putC1 f x fs))) := by
  unfold sSetF
  rw [at_bnd hv, at_bnd he, at_bnd (at_getI h), at_grd hx, at_bnd at_putC]
/-- e.m(..) -/
theorem at_met {E : Env} {tb : Tb} {e : XE} {ma : XA} {n : Str} {fs : List (Str × D)} {f : Fn} {ds : List D} (he : e E c = ret (rD a) c) (h : c.mu a = some (.ins n fs)) (ht : tb.lookup n = some f) (hm : ma E c = ret ds c) : eMetT tb e ma E c = f (rD a :: ds) c := by
  unfold eMetT
  rw [at_bnd he, at_bnd (at_getI h)]
  show (match tb.lookup n with | some f => bnd (ma E) fun ds => f (rD a :: ds) | none => stuck : W D) c = _
  rw [ht]
  exact at_bnd hm
theorem at_prop {E : Env} {tb : Tb} {e : XE} {n : Str} {fs : List (Str × D)} {f : Fn} {x : D} (he : e E c = ret (rD a) c) (h : c.mu a = some (.ins n fs)) (ht : tb.lookup n = some f) (hf : f [rD a] c = ret x c) : eProp tb e E c = ret x c := by
  unfold eProp
  rw [at_bnd he, at_bnd (at_getI h)]
  refine at_noX ?_
  show byT tb n [rD a] c = _
  unfold byT
  rw [ht]
  exact hf
theorem at_lenO {E : Env} {tb : Tb} {e : XE} {i : Int} (h : eProp tb e E c = ret (.int i) c) (hi : 0 ≤ i ∧ i < 9223372036854775808) : eLenO tb e E c = ret (.int i) c := by
  unfold eLenO
  rw [at_bnd h]
  exact at_grd hi
theorem at_strO {E : Env} {tb : Tb} {e : XE} {z : Str} (h : eProp tb e E c = ret (.str z) c) : eStrO tb e E c = ret (.str z) c := by
  unfold eStrO
  rw [at_bnd h]
end
end DL
end
section
namespace DL
open PySem
section
variable {α β : Type} {c c1 c2 : Sx} {a : Nat} {E E1 : Env}
theorem at_fn {k n : Nat} {s : XS} {ds : List D} {o : Out} {x : D} (hl : ds.length = k) (h : s (start n (ds.map Ent.val)) c = ret o c1) (ho : endOf o = ret x) : fn k n s ds c = ret x c1 := by
  unfold fn
  rw [at_grd hl, at_bnd h, ho]
theorem at_fnX {k n : Nat} {s : XS} {ds : List D} {e : Exn} (hl : ds.length = k) (h : s (start n (ds.map Ent.val)) c = thr e c1) : fn k n s ds c = thr e c1 := by
  unfold fn
  rw [at_grd hl, at_thr h]
theorem at_ret {e : XE} {x : D} (h : e E c = ret x c1) : sRet e E c = ret (.rt x) c1 := by
  unfold sRet
  rw [at_bnd h]
theorem at_fnRet {k n : Nat} {e : XE} {ds : List D} {x : D} (hl : ds.length = k) (h : e (start n (ds.map Ent.val)) c = ret x c1) : fn k n (sRet e) ds c = ret x c1 := at_fn hl (at_ret h) rfl
theorem at_seq {s t : XS} (h : s E c = ret (.nx E1) c1) : sSeq s t E c = t E1 c1 := by
  unfold sSeq
  rw [at_bnd h]
theorem at_seqX {s t : XS} {e : Exn} (h : s E c = thr e c1) : sSeq s t E c = thr e c1 := by
  unfold sSeq
  rw [at_thr h]
theorem at_seqR {s t : XS} {d : D} (h : s E c = ret (.rt d) c1) : sSeq s t E c = ret (.rt d) c1 := by
  unfold sSeq
  rw [at_bnd h]
theorem at_expr {e : XE} {x : D} (h : e E c = ret x c1) : sExpr e E c = ret (.nx E) c1 := by
  unfold sExpr
  rw [at_bnd h]
theorem at_exprX {e : XE} {x : Exn} (h : e E c = thr x c1) : sExpr e E c = thr x c1 := by
  unfold sExpr
  rw [at_thr h]
theorem at_asg {e : XE} {x : D} {i : Nat} (h : e E c = ret x c1) : sAsg i e E c = ret (.nx (E.set i (.val x))) c1 := by
  unfold sAsg
  rw [at_bnd h]
theorem at_asgX {e : XE} {x : Exn} {i : Nat} (h : e E c = thr x c1) : sAsg i e E c = thr x c1 := by
  unfold sAsg
  rw [at_thr h]
theorem at_if {t : XT} {s u : XS} {b : Bool} (h : t E c = ret b c1) : sIf t s u E c = (if b = true then s E else u E) c1 := by
  unfold sIf
  rw [at_bnd h]
theorem at_tru {e : XE} {d : D} {b : Bool} (h : e E c = ret d c1) (ht : tru d = ret b) : tTru e E c = ret b c1 := by
  unfold tTru
  rw [at_bnd h, ht]
theorem at_cmp {o : Cmp} {u v : XE} {x y : D} {b : Bool} (h1 : u E c = ret x c) (h2 : v E c = ret y c) (h : opCmp o x y = ret b) : eCmp o u v E c = ret (.bool b) c := by
  unfold eCmp
  rw [at_bnd h1, at_bnd h2, h]
  rfl
theorem at_tBool {e : XE} {b : Bool} (h : e E c = ret (.bool b) c1) : tBool e E c = ret b c1 := by
  unfold tBool
  rw [at_bnd h]
theorem at_b1 {f : B1} {e : XE} {x y : D} (h : e E c = ret x c1) (hf : bi1 f x = ret y) : eB1 f e E c = ret y c1 := by
  unfold eB1
  rw [at_bnd h, hf]
theorem at_var {i : Nat} {d : D} (h : E[i]? = some (.val d)) : eVar i E c = ret d c := by
  unfold eVar
  rw [h]
theorem at_aNil : aNil E c = ret [] c := rfl
theorem at_aCons {e : XE} {r : XA} {x : D} {xs : List D} (h : e E c = ret x c) (hr : r E c = ret xs c) : aCons e r E c = ret (x :: xs) c := by
  unfold aCons
  rw [at_bnd h, at_bnd hr]
theorem at_aStar {e : XE} {r : XA} {d : D} {ys xs : List D} (h : e E c = ret d c) (hd : itemsOf d = ret ys) (hr : r E c = ret xs c) : aStar e r E c = ret (ys ++ xs) c := by
  unfold aStar
  rw [at_bnd h, hd, bnd_ret, at_bnd hr]
theorem at_tup {r : XA} {xs : List D} (h : r E c = ret xs c) (hs : small xs.length) : eTup r E c = ret (.tuple xs) c := by
  unfold eTup
  rw [at_bnd h]
  exact at_grd hs
theorem at_call {f : Fn} {r : XA} {xs : List D} (h : r E c = ret xs c1) : eCall f r E c = f xs c1 := by
  unfold eCall
  rw [at_bnd h]
end
def pgF (row : D) (st dn : List D) (w : D) : List (Str × D) := [("now", row), ("states", .tuple st), ("done", .tuple dn), ("wanted", w), ("is_busy", .bool false)]
def T (ns : List Int) : D := .tuple (ns.map PyData.int)
section
variable {c : Sx} {a : Nat} {row w : D} {st dn : List D}
theorem page_row (h : c.mu a = some (.ins "Page" (pgF row st dn w))) : w_Page_row_0 [rD a] c = ret row c := at_fnRet rfl (at_get (at_var rfl) h rfl)
theorem page_edits (h : c.mu a = some (.ins "Page" (pgF row st dn w))) : w_Page_edits_0 [rD a] c = ret (.tuple dn) c := at_fnRet rfl (at_get (at_var rfl) h rfl)
theorem page_size {rs : List D} (h : c.mu a = some (.ins "Page" (pgF (.tuple rs) st dn w))) : w_Page_size_0 [rD a] c = ret (.int rs.length) c := at_fnRet rfl (at_b1 (at_get (at_var rfl) h rfl) rfl)
theorem page_version (h : c.mu a = some (.ins "Page" (pgF row st dn w))) : w_Page_version_0 [rD a] c = ret (.int dn.length) c := at_fnRet rfl (at_b1 (at_get (at_var rfl) h rfl) rfl)
theorem page_len (h : c.mu a = some (.ins "Page" (pgF row st dn w))) : w_Page_len_0 [rD a] c = ret (.int dn.length) c := at_fnRet rfl (at_b1 (at_get (at_var rfl) h rfl) rfl)
theorem page_accept {r : D} : w_Page_accept_0 [rD a, r] c = ret .none c := at_fn rfl rfl rfl
theorem page_idle (h : c.mu a = some (.ins "Page" (pgF row st dn w))) : w_Page_check_idle_0 [rD a] c = ret .none c :=
  at_fn (o := .nx [.val (rD a)]) rfl ((at_if (at_tru (at_get (at_var rfl) h rfl) rfl)).trans rfl) rfl
end
end DL
end
section
namespace DL
open PySem
inductive Ed where
  | put (p l : D)
  | cut (p : D)
  | resize (p l : D)
  | turn
def Ed.d : Ed → List D
  | .put p l => [.str "put", p, l]
  | .cut p => [.str "cut", p]
  | .resize p l => [.str "resize", p, l]
  | .turn => [.str "turn"]
/-- no objects within -/
def Ed.plain : Ed → Prop
  | .put p l => noXn p = true ∧ noXn l = true
  | .cut p => noXn p = true
  | .resize p l => noXn p = true ∧ noXn l = true
  | .turn => True
/-- what an edit does to a row -/
def evE (ns : List Int) : Ed → Exn ⊕ List Int
  | .put p l => if intIn 0 ns.length p = true then (if intIn 1 60 l = true then (if ns.length = 24 then .inl ⟨"TooMany", [("limit", .int 24)]⟩ else .inr (insI ns p l)) else .inl (xV "BadLength" l)) else .inl (xV "NoPlace" p)
  | .cut p => if intIn 0 (ns.length - 1) p = true then (if ns.length = 1 then .inl ⟨"LastWord", []⟩ else .inr (takI ns p)) else .inl (xV "NoPlace" p)
  | .resize p l => if intIn 0 (ns.length - 1) p = true then (if intIn 1 60 l = true then .inr (setI ns p l) else .inl (xV "BadLength" l)) else .inl (xV "NoPlace" p)
  | .turn => .inr ns.reverse
def evW : Exn ⊕ List Int → W D
  | .inl x => thr x
  | .inr ns => ret (T ns)
theorem evW_ite {c : Prop} [Decidable c] (a b : Exn ⊕ List Int) : evW (if c then a else b) = if c then evW a else evW b := by split <;> rfl
theorem seq_starT {i j : Nat} {e : XE} {t : XS} {E : Env} {x : D} {xs : List D} (h : e E = ret (.tuple (x :: xs))) (hl : xs.length ≤ 1000) : sSeq (sStarT i j e) t E = t ((E.set i (.val x)).set j (.val (.list xs))) := by
  unfold sSeq sStarT
  rw [h]
  show bnd (grd _ _) _ = _
  rw [grd_pos hl]
  rfl
theorem ix0 (x : D) (xs : List D) : opIdx (.list (x :: xs)) (.int 0) = ret x := by
  show (match L2.atI (x :: xs) 0 with | some d => ret d | none => stuck : W D) = _
  have e : L2.atI (x :: xs) 0 = some x := by
    unfold L2.atI L2.ixN
    rw [if_pos (by omega), if_pos (by rw [List.length_cons]; omega)]
    rfl
  rw [e]
theorem ix1 (x y : D) (xs : List D) : opIdx (.list (x :: y :: xs)) (.int 1) = ret y := by
  show (match L2.atI (x :: y :: xs) 1 with | some d => ret d | none => stuck : W D) = _
  have e : L2.atI (x :: y :: xs) 1 = some y := by
    unfold L2.atI L2.ixN
    rw [if_pos (by omega), if_pos (by rw [List.length_cons, List.length_cons]; omega)]
    rfl
  rw [e]
theorem edited_0 {ns : List Int} (e : Ed) (h2 : ns.length ≤ 24) (hp : e.plain) : w_edited_0 [T ns, .tuple e.d] = evW (evE ns e) := by
  unfold w_edited_0
  refine (f_fn (by rfl)).trans ?_
  cases e with
  | put p l =>
    rw [show Ed.d (.put p l) = [.str "put", p, l] from rfl, seq_starT (x := .str "put") (xs := [p, l]) rfl (by show 2 ≤ 1000; omega)]
    simp only [x_var, x_con, x_bin, x_neg, x_cmp, x_chain, x_tTru, x_tNot, x_tAnd, x_tOr, x_tBool, x_tYes, x_not, x_and, x_or, x_if, x_b1, x_b2, x_is, x_idx, x_oNone, x_oSome, x_cut, x_aNil, x_aCons, x_tup, x_lst, x_call, x_callS,
    x_iSeq, x_iRng1, x_iRng2, x_bor, x_tBor, x_put1, List.map_cons, List.map_nil, List.cons_append, List.nil_append, List.length_cons, List.length_nil, Nat.zero_add, Nat.reduceAdd, Nat.reduceSub, List.reduceReplicate, start,
    List.getElem?_cons_zero, List.getElem?_cons_succ, List.set_cons_zero, List.set_cons_succ, bnd_ret, bnd_assoc, bnd_grd, b1_if, bnd_ite, small, Nat.reduceLeDiff, grd_true, o_add, o_sub, o_neg, o_eq, o_ne, o_lt, o_le, o_gt, o_ge, o_eqS, o_neS,
    decide_eq_true_eq, reduceIte, decide_true, decide_false, Bool.not_true, Bool.not_false, Bool.false_eq_true, itemsOf, asInt, bi2, endOf, isTy,
    grd_tt, nx_int, nx_bool, nx_str, nx_none, nx_tup, nx_lst, x_isC, x_fld, x_in, x_count, x_lstR, x_tupR, x_raise, x_star, bnd_thr, noX_ret, fld_x, exn_d, eSetO, Out.clear, List.zip_cons_cons, List.zip_nil_left, List.zip_nil_right, s_asg, s_par, s_own, s_parO, s_put, s_expr, s_ret, s_skip, s_seq, s_rel, x_asg, x_par, x_own, x_parO, x_put, x_expr, x_ret, x_retN, x_skip, x_rel, x_app, x_setI, x_sIf, x_for, x_brk, x_cnt, T, s_if, ix0, ix1]
    rw [bnd_id, put_in_0 h2 hp.1 hp.2]
    unfold evE
    rw [evW_ite, evW_ite, evW_ite]
    rfl
  | cut p =>
    rw [show Ed.d (.cut p) = [.str "cut", p] from rfl, seq_starT (x := .str "cut") (xs := [p]) rfl (by show 1 ≤ 1000; omega)]
    simp only [x_var, x_con, x_bin, x_neg, x_cmp, x_chain, x_tTru, x_tNot, x_tAnd, x_tOr, x_tBool, x_tYes, x_not, x_and, x_or, x_if, x_b1, x_b2, x_is, x_idx, x_oNone, x_oSome, x_cut, x_aNil, x_aCons, x_tup, x_lst, x_call, x_callS,
    x_iSeq, x_iRng1, x_iRng2, x_bor, x_tBor, x_put1, List.map_cons, List.map_nil, List.cons_append, List.nil_append, List.length_cons, List.length_nil, Nat.zero_add, Nat.reduceAdd, Nat.reduceSub, List.reduceReplicate, start,
    List.getElem?_cons_zero, List.getElem?_cons_succ, List.set_cons_zero, List.set_cons_succ, bnd_ret, bnd_assoc, bnd_grd, b1_if, bnd_ite, small, Nat.reduceLeDiff, grd_true, o_add, o_sub, o_neg, o_eq, o_ne, o_lt, o_le, o_gt, o_ge, o_eqS, o_neS,
    decide_eq_true_eq, reduceIte, decide_true, decide_false, Bool.not_true, Bool.not_false, Bool.false_eq_true, itemsOf, asInt, bi2, endOf, isTy,
    grd_tt, nx_int, nx_bool, nx_str, nx_none, nx_tup, nx_lst, x_isC, x_fld, x_in, x_count, x_lstR, x_tupR, x_raise, x_star, bnd_thr, noX_ret, fld_x, exn_d, eSetO, Out.clear, List.zip_cons_cons, List.zip_nil_left, List.zip_nil_right, s_asg, s_par, s_own, s_parO, s_put, s_expr, s_ret, s_skip, s_seq, s_rel, x_asg, x_par, x_own, x_parO, x_put, x_expr, x_ret, x_retN, x_skip, x_rel, x_app, x_setI, x_sIf, x_for, x_brk, x_cnt, T, s_if, ix0, ix1]
    rw [if_neg (by decide), if_neg (by decide), bnd_id, taken_out_0 (by omega) hp]
    unfold evE
    rw [evW_ite, evW_ite]
    rfl
  | resize p l =>
    rw [show Ed.d (.resize p l) = [.str "resize", p, l] from rfl, seq_starT (x := .str "resize") (xs := [p, l]) rfl (by show 2 ≤ 1000; omega)]
    simp only [x_var, x_con, x_bin, x_neg, x_cmp, x_chain, x_tTru, x_tNot, x_tAnd, x_tOr, x_tBool, x_tYes, x_not, x_and, x_or, x_if, x_b1, x_b2, x_is, x_idx, x_oNone, x_oSome, x_cut, x_aNil, x_aCons, x_tup, x_lst, x_call, x_callS,
    x_iSeq, x_iRng1, x_iRng2, x_bor, x_tBor, x_put1, List.map_cons, List.map_nil, List.cons_append, List.nil_append, List.length_cons, List.length_nil, Nat.zero_add, Nat.reduceAdd, Nat.reduceSub, List.reduceReplicate, start,
    List.getElem?_cons_zero, List.getElem?_cons_succ, List.set_cons_zero, List.set_cons_succ, bnd_ret, bnd_assoc, bnd_grd, b1_if, bnd_ite, small, Nat.reduceLeDiff, grd_true, o_add, o_sub, o_neg, o_eq, o_ne, o_lt, o_le, o_gt, o_ge, o_eqS, o_neS,
    decide_eq_true_eq, reduceIte, decide_true, decide_false, Bool.not_true, Bool.not_false, Bool.false_eq_true, itemsOf, asInt, bi2, endOf, isTy,
    grd_tt, nx_int, nx_bool, nx_str, nx_none, nx_tup, nx_lst, x_isC, x_fld, x_in, x_count, x_lstR, x_tupR, x_raise, x_star, bnd_thr, noX_ret, fld_x, exn_d, eSetO, Out.clear, List.zip_cons_cons, List.zip_nil_left, List.zip_nil_right, s_asg, s_par, s_own, s_parO, s_put, s_expr, s_ret, s_skip, s_seq, s_rel, x_asg, x_par, x_own, x_parO, x_put, x_expr, x_ret, x_retN, x_skip, x_rel, x_app, x_setI, x_sIf, x_for, x_brk, x_cnt, T, s_if, ix0, ix1]
    rw [if_neg (by decide), bnd_id, changed_0 (by omega) hp.1 hp.2]
    unfold evE
    rw [evW_ite, evW_ite]
    rfl
  | turn =>
    rw [show Ed.d .turn = [.str "turn"] from rfl, seq_starT (x := .str "turn") (xs := []) rfl (by show 0 ≤ 1000; omega)]
    simp only [x_var, x_con, x_bin, x_neg, x_cmp, x_chain, x_tTru, x_tNot, x_tAnd, x_tOr, x_tBool, x_tYes, x_not, x_and, x_or, x_if, x_b1, x_b2, x_is, x_idx, x_oNone, x_oSome, x_cut, x_aNil, x_aCons, x_tup, x_lst, x_call, x_callS,
    x_iSeq, x_iRng1, x_iRng2, x_bor, x_tBor, x_put1, List.map_cons, List.map_nil, List.cons_append, List.nil_append, List.length_cons, List.length_nil, Nat.zero_add, Nat.reduceAdd, Nat.reduceSub, List.reduceReplicate, start,
    List.getElem?_cons_zero, List.getElem?_cons_succ, List.set_cons_zero, List.set_cons_succ, bnd_ret, bnd_assoc, bnd_grd, b1_if, bnd_ite, small, Nat.reduceLeDiff, grd_true, o_add, o_sub, o_neg, o_eq, o_ne, o_lt, o_le, o_gt, o_ge, o_eqS, o_neS,
    decide_eq_true_eq, reduceIte, decide_true, decide_false, Bool.not_true, Bool.not_false, Bool.false_eq_true, itemsOf, asInt, bi2, endOf, isTy,
    grd_tt, nx_int, nx_bool, nx_str, nx_none, nx_tup, nx_lst, x_isC, x_fld, x_in, x_count, x_lstR, x_tupR, x_raise, x_star, bnd_thr, noX_ret, fld_x, exn_d, eSetO, Out.clear, List.zip_cons_cons, List.zip_nil_left, List.zip_nil_right, s_asg, s_par, s_own, s_parO, s_put, s_expr, s_ret, s_skip, s_seq, s_rel, x_asg, x_par, x_own, x_parO, x_put, x_expr, x_ret, x_retN, x_skip, x_rel, x_app, x_setI, x_sIf, x_for, x_brk, x_cnt, T, s_if, ix0, ix1]
    rw [if_neg (by decide), if_neg (by decide), if_neg (by decide), bnd_id]
    unfold eRev evE
    simp only [x_var, List.getElem?_cons_zero, bnd_ret]
    show ret (.tuple (ns.map PyData.int).reverse) = ret (T ns.reverse)
    unfold T
    rw [List.map_reverse]
theorem evE_flat {ns r : List Int} {e : Ed} (h : evE ns e = .inr r) : flatAll e.d = true ∧ e.plain := by
  have yes : ∀ {lo hi : Int} {d : D}, intIn lo hi d = true → ∃ i, d = .int i := fun {lo hi d} q => by
    cases d with
    | int i => exact ⟨i, rfl⟩
    | _ => cases q
  cases e with
  | put p l =>
    simp only [evE] at h
    by_cases h1 : intIn 0 ns.length p = true
    · rw [if_pos h1] at h
      by_cases h2 : intIn 1 60 l = true
      · obtain ⟨i, rfl⟩ := yes h1
        obtain ⟨j, rfl⟩ := yes h2
        exact ⟨rfl, rfl, rfl⟩
      · rw [if_neg h2] at h; cases h
    · rw [if_neg h1] at h; cases h
  | cut p =>
    simp only [evE] at h
    by_cases h1 : intIn 0 (ns.length - 1) p = true
    · obtain ⟨i, rfl⟩ := yes h1
      exact ⟨rfl, rfl⟩
    · rw [if_neg h1] at h; cases h
  | resize p l =>
    simp only [evE] at h
    by_cases h1 : intIn 0 (ns.length - 1) p = true
    · rw [if_pos h1] at h
      by_cases h2 : intIn 1 60 l = true
      · obtain ⟨i, rfl⟩ := yes h1
        obtain ⟨j, rfl⟩ := yes h2
        exact ⟨rfl, rfl, rfl⟩
      · rw [if_neg h2] at h; cases h
    · rw [if_neg h1] at h; cases h
  | turn => exact ⟨rfl, True.intro⟩
theorem flat_T (ns : List Int) : flat (T ns) = true := by
  have : ∀ l : List Int, flatAll (l.map PyData.int) = true := by
    intro l
    induction l with
    | nil => rfl
    | cons x l ih => simp [flatAll, flat, ih]
  exact this ns
theorem flat_app : ∀ {l m : List D}, flatAll l = true → flatAll m = true → flatAll (l ++ m) = true
  | [], m, _, h => h
  | x :: l, m, h1, h2 => by
    simp only [flatAll, Bool.and_eq_true, List.cons_append] at h1 ⊢
    exact ⟨h1.1, flat_app h1.2 h2⟩
section
variable {c : Sx} {a : Nat} {w : D} {st dn : List D} {ns : List Int}
theorem page_perform {e : Ed} (h : c.mu a = some (.ins "Page" (pgF (T ns) st dn w))) (h2 : ns.length ≤ 24) (hp : e.plain) (hs : st.length ≤ 1000) (hd : dn.length ≤ 1000) (fs : flatAll st = true) (fd : flatAll dn = true) :
    w_Page_perform_0 [rD a, .tuple e.d] c = if dn.length = 60 then thr ⟨"TooManyEdits", []⟩ c else match evE ns e with
      | .inl x => thr x c
      | .inr r => ret .none (c.set a (.ins "Page" (pgF (T r) (st ++ [T r]) (dn ++ [.tuple e.d]) w))) := by
  have t0 : tBool (eCmp .eq (eB1 .len (eGet (eVar 0) "done")) (eCon (.int (60)))) (start 3 ([rD a, .tuple e.d].map Ent.val)) c = ret (decide ((dn.length : Int) = 60)) c :=
    at_tBool (at_cmp (at_b1 (at_get (at_var rfl) h rfl) rfl) rfl (o_eq _ _))
  by_cases hn : dn.length = 60
  · rw [if_pos hn]
    refine at_fnX rfl (at_seqX ((at_if t0).trans ?_))
    rw [if_pos (by simp [hn])]
    rfl
  · rw [if_neg hn]
    have s0 : sIf (tBool (eCmp .eq (eB1 .len (eGet (eVar 0) "done")) (eCon (.int (60))))) (sRaise "TooManyEdits" [] aNil) sSkip (start 3 ([rD a, .tuple e.d].map Ent.val)) c = ret (.nx (start 3 ([rD a, .tuple e.d].map Ent.val))) c := by
      refine (at_if t0).trans ?_
      rw [if_neg (by simp; omega)]
      rfl
    have e1 : eCall w_edited_0 (aCons (eGet (eVar 0) "now") (aCons (eVar 1) (aNil))) (start 3 ([rD a, .tuple e.d].map Ent.val)) c = evW (evE ns e) c := by
      rw [at_call (at_aCons (at_get (at_var rfl) h rfl) (at_aCons (at_var rfl) at_aNil)), edited_0 e h2 hp]
    cases q : evE ns e with
    | inl x =>
      rw [q] at e1
      exact at_fnX rfl ((at_seq s0).trans (at_seqX (at_asgX e1)))
    | inr r =>
      rw [q] at e1
      obtain ⟨fe, _⟩ := evE_flat q
      refine at_fn (o := .nx [.val (rD a), .val (.tuple e.d), .val (T r)]) rfl ((at_seq s0).trans ((at_seq (at_asg (x := T r) e1)).trans ((at_seq (at_expr (x := .none) ((at_met (at_var rfl) h rfl (at_aCons (at_var rfl) at_aNil)).trans page_accept))).trans ((at_seq (at_setF (at_var rfl) (at_var rfl) h (flat_T r))).trans ?_)))) rfl
      refine (at_seq (at_setF (x := .tuple (st ++ [T r])) (at_tup (at_aStar (at_get (at_var rfl) set_mu rfl) rfl (at_aCons (at_var rfl) at_aNil)) (by simp [small]; omega)) (at_var rfl) set_mu (flat_app fs (by simp [flatAll, flat_T])))).trans ?_
      refine (at_setF (x := .tuple (dn ++ [.tuple e.d])) (at_tup (at_aStar (at_get (at_var rfl) set_mu rfl) rfl (at_aCons (at_var rfl) at_aNil)) (by simp [small]; omega)) (at_var rfl) set_mu (flat_app fd (by simp [flatAll, flat, fe]))).trans ?_
      rw [set_set, set_set]
      rfl
end
end DL
end
section
namespace DL
open PySem
theorem fn_ret {k n : Nat} {e : XE} {ds : List D} {c : Sx} (hl : ds.length = k) : fn k n (sRet e) ds c = e (start n (ds.map Ent.val)) c := by
  unfold fn
  rw [at_grd hl]
  rfl
section
variable {c : Sx} {a : Nat} {w : D} {st dn : List D} {ns : List Int}
/-- what an edit of a page does -/
def pgR (c : Sx) (a : Nat) (ns : List Int) (st dn : List D) (w : D) (e : Ed) : (D → Sx → Prop) → (Exn → Sx → Prop) → Prop := if dn.length = 60 then thr ⟨"TooManyEdits", []⟩ c else match evE ns e with
  | .inl x => thr x c
  | .inr r => ret (.int ((dn.length + 1 : Nat) : Int)) (c.set a (.ins "Page" (pgF (T r) (st ++ [T r]) (dn ++ [.tuple e.d]) w)))
theorem page_alone {e : Ed} (h : c.mu a = some (.ins "Page" (pgF (T ns) st dn w))) (h2 : ns.length ≤ 24) (hp : e.plain) (hs : st.length ≤ 1000) (hd : dn.length ≤ 1000) (fs : flatAll st = true) (fd : flatAll dn = true) :
    w_Page_perform_alone_0 [rD a, .tuple e.d] c = pgR c a ns st dn w e := by
  have s0 : sExpr (eMetT [("Page", w_Page_check_idle_0)] (eVar 0) aNil) (start 2 ([rD a, .tuple e.d].map Ent.val)) c = ret (.nx (start 2 ([rD a, .tuple e.d].map Ent.val))) c := at_expr ((at_met (at_var rfl) h rfl at_aNil).trans (page_idle h))
  have e1 : eMetT [("Page", w_Page_perform_0)] (eVar 0) (aCons (eVar 1) (aNil)) (start 2 ([rD a, .tuple e.d].map Ent.val)) c = _ := (at_met (at_var rfl) h rfl (at_aCons (at_var rfl) at_aNil)).trans (page_perform h h2 hp hs hd fs fd)
  unfold pgR
  by_cases hn : dn.length = 60
  · rw [if_pos hn] at e1 ⊢
    exact at_fnX rfl ((at_seq s0).trans (at_seqX (at_exprX e1)))
  · rw [if_neg hn] at e1 ⊢
    cases q : evE ns e with
    | inl x =>
      rw [q] at e1
      exact at_fnX rfl ((at_seq s0).trans (at_seqX (at_exprX e1)))
    | inr r =>
      rw [q] at e1
      refine at_fn rfl ((at_seq s0).trans ((at_seq (at_expr e1)).trans (at_ret (at_b1 (at_get (at_var rfl) set_mu rfl) rfl)))) ?_
      show ret (PyData.int (((dn ++ [PyData.tuple e.d]).length : Nat) : Int)) = _
      rw [List.length_append]
      rfl
theorem page_put {p l : D} (h : c.mu a = some (.ins "Page" (pgF (T ns) st dn w))) (h2 : ns.length ≤ 24) (hp : noXn p = true ∧ noXn l = true) (hs : st.length ≤ 1000) (hd : dn.length ≤ 1000) (fs : flatAll st = true) (fd : flatAll dn = true) :
    w_Page_put_0 [rD a, p, l] c = pgR c a ns st dn w (.put p l) :=
  (fn_ret rfl).trans ((at_met (at_var rfl) h rfl (at_aCons (at_tup (at_aCons rfl (at_aCons (at_var rfl) (at_aCons (at_var rfl) at_aNil))) (by show 3 ≤ 1000000; omega)) at_aNil)).trans (page_alone (e := .put p l) h h2 hp hs hd fs fd))
theorem page_resize {p l : D} (h : c.mu a = some (.ins "Page" (pgF (T ns) st dn w))) (h2 : ns.length ≤ 24) (hp : noXn p = true ∧ noXn l = true) (hs : st.length ≤ 1000) (hd : dn.length ≤ 1000) (fs : flatAll st = true) (fd : flatAll dn = true) :
    w_Page_resize_0 [rD a, p, l] c = pgR c a ns st dn w (.resize p l) :=
  (fn_ret rfl).trans ((at_met (at_var rfl) h rfl (at_aCons (at_tup (at_aCons rfl (at_aCons (at_var rfl) (at_aCons (at_var rfl) at_aNil))) (by show 3 ≤ 1000000; omega)) at_aNil)).trans (page_alone (e := .resize p l) h h2 hp hs hd fs fd))
theorem page_cut {p : D} (h : c.mu a = some (.ins "Page" (pgF (T ns) st dn w))) (h2 : ns.length ≤ 24) (hp : noXn p = true) (hs : st.length ≤ 1000) (hd : dn.length ≤ 1000) (fs : flatAll st = true) (fd : flatAll dn = true) :
    w_Page_cut_0 [rD a, p] c = pgR c a ns st dn w (.cut p) :=
  (fn_ret rfl).trans ((at_met (at_var rfl) h rfl (at_aCons (at_tup (at_aCons rfl (at_aCons (at_var rfl) at_aNil)) (by show 2 ≤ 1000000; omega)) at_aNil)).trans (page_alone (e := .cut p) h h2 hp hs hd fs fd))
theorem page_turn (h : c.mu a = some (.ins "Page" (pgF (T ns) st dn w))) (h2 : ns.length ≤ 24) (hs : st.length ≤ 1000) (hd : dn.length ≤ 1000) (fs : flatAll st = true) (fd : flatAll dn = true) :
    w_Page_turn_0 [rD a] c = pgR c a ns st dn w .turn :=
  (fn_ret rfl).trans ((at_met (at_var rfl) h rfl (at_aCons (at_tup (at_aCons rfl at_aNil) (by show 1 ≤ 1000000; omega)) at_aNil)).trans (page_alone (e := .turn) h h2 True.intro hs hd fs fd))
theorem at_idx {E : Env} {u v : XE} {x y z : D} (h1 : u E c = ret x c) (h2 : v E c = ret y c) (h : opIdx x y = ret z) : eIdx u v E c = ret z c := by
  unfold eIdx
  rw [at_bnd h1, at_bnd h2, h]
end
end DL
end
section
namespace DL
open PySem
section
variable {c : Sx} {a : Nat} {w : D} {st dn : List D} {ns : List Int}
theorem page_init (h : c.mu a = some (.ins "Page" [])) (hr : w_row_error_0 [T ns] = ret .none) : w_Page_init_0 [rD a, T ns] c = ret .none (c.set a (.ins "Page" (pgF (T ns) [T ns] [] .none))) := by
  let E1 : Env := [.val (rD a), .val (T ns), .val .none]
  have s1 : sAsg 2 (eCall w_row_error_0 (aCons (eVar 1) (aNil))) (start 3 ([rD a, T ns].map Ent.val)) c = ret (.nx E1) c := at_asg (x := .none) ((at_call (at_aCons (at_var rfl) at_aNil)).trans (by rw [hr]))
  have s2 : sIf (tBool (eCmp .notN (eVar 2) (eCon .none))) (sRaise "BadRow" [Fl.s .error] (aCons (eVar 2) aNil)) sSkip E1 c = ret (.nx E1) c := (at_if (at_tBool (at_cmp (b := false) (at_var rfl) rfl (notN_none .none)))).trans rfl
  have s3 : sExpr (eMetT [("Page", w_Page_accept_0)] (eVar 0) (aCons (eVar 1) (aNil))) E1 c = ret (.nx E1) c := at_expr ((at_met (at_var rfl) h rfl (at_aCons (at_var rfl) at_aNil)).trans page_accept)
  have s4 : sSetF (eVar 0) "now" (eVar 1) E1 c = _ := at_setF (x := T ns) (at_var rfl) (at_var rfl) h (flat_T ns)
  have s5 : sSetF (eVar 0) "states" (eTup (aCons (eVar 1) (aNil))) E1 _ = _ := at_setF (c := c.set a (.ins "Page" (putC1 "now" (T ns) []))) (x := .tuple [T ns]) (at_tup (at_aCons (at_var rfl) at_aNil) (by simp [small])) (at_var rfl) set_mu (by simp [flat, flatAll, flat_T])
  rw [set_set] at s5
  have s6 : sSetF (eVar 0) "done" (eTup (aNil)) E1 _ = _ := at_setF (c := c.set a (.ins "Page" (putC1 "states" (.tuple [T ns]) (putC1 "now" (T ns) [])))) (x := .tuple []) (at_tup at_aNil (by simp [small])) (at_var rfl) set_mu rfl
  rw [set_set] at s6
  have s7 : sSetF (eVar 0) "wanted" (eCon .none) E1 _ = _ := at_setF (c := c.set a (.ins "Page" (putC1 "done" (.tuple []) (putC1 "states" (.tuple [T ns]) (putC1 "now" (T ns) []))))) (x := .none) rfl (at_var rfl) set_mu rfl
  rw [set_set] at s7
  have s8 : sSetF (eVar 0) "is_busy" (eCon (.bool false)) E1 _ = _ := at_setF (c := c.set a (.ins "Page" (putC1 "wanted" .none (putC1 "done" (.tuple []) (putC1 "states" (.tuple [T ns]) (putC1 "now" (T ns) [])))))) (x := .bool false) rfl (at_var rfl) set_mu rfl
  rw [set_set] at s8
  exact at_fn rfl ((at_seq s1).trans ((at_seq s2).trans ((at_seq s3).trans ((at_seq s4).trans ((at_seq s5).trans ((at_seq s6).trans ((at_seq s7).trans s8))))))) rfl
/-- Page(row) -/
theorem page_made {E : Env} {ma : XA} {P : D → Sx → Prop} {X : Exn → Sx → Prop} (hm : ma E c = ret [T ns] c) (hr : w_row_error_0 [T ns] = ret .none) (k : ∀ a, c.mu a = none → P (rD a) (c.set a (.ins "Page" (pgF (T ns) [T ns] [] .none)))) : eMk "Page" w_Page_init_0 ma E c P X := by
  have e : eMk "Page" w_Page_init_0 ma E c = (bnd (newC (.ins "Page" [])) fun r => bnd (w_Page_init_0 (r :: [T ns])) fun u => grd (u = .none) (ret r)) c := by
    unfold eMk
    exact at_bnd hm
  rw [e]
  intro a ha
  show (bnd (w_Page_init_0 [rD a, T ns]) fun u => grd (u = .none) (ret (rD a))) (c.set a (.ins "Page" [])) P X
  rw [at_bnd (page_init set_mu hr), set_set]
  exact ⟨rfl, k a ha⟩
end
end DL
end
section
namespace DL
open PySem
/-- a number's text -/
def numT (n : Nat) : Str := Str.ofString (toString (n : Int))
def pgText (n d : Nat) : Str := ((numT n ++ " words, ") ++ numT d) ++ " edits"
theorem numT_len {n : Nat} (h : n ≤ 1000000) : (numT n).length ≤ 46 := size_int (i := (n : Int)) (by
  have : ((n : Int)).natAbs = n := rfl
  rw [this]
  exact Nat.lt_of_le_of_lt h (by decide))
theorem numT_fmt {n : Nat} (h : n ≤ 1000000) : fmtD (.int (n : Int)) = ret (numT n) := by
  show grd (((n : Int)).natAbs.log2 < 1920) _ = _
  rw [grd_pos]
  · rfl
  · show n.log2 < 1920
    have : n < 2 ^ 1920 := Nat.lt_of_le_of_lt h (by decide)
    by_cases z : n = 0
    · subst z; decide
    · exact (Nat.log2_lt z).mpr this
section
variable {c : Sx} {a : Nat} {w : D} {st dn rs : List D}
theorem page_str (h : c.mu a = some (.ins "Page" (pgF (.tuple rs) st dn w))) (hr : rs.length ≤ 1000) (hd : dn.length ≤ 1000) : w_Page_str_0 [rD a] c = ret (.str (pgText rs.length dn.length)) c := by
  have l1 := numT_len (n := rs.length) (by omega)
  have l2 := numT_len (n := dn.length) (by omega)
  have lw : (" words, " : Str).length = 8 := by decide +kernel
  have le : (" edits" : Str).length = 6 := by decide +kernel
  refine (fn_ret rfl).trans ?_
  unfold eFs
  have b1 : eB1 .len (eGet (eVar 0) "now") (start 1 ([rD a].map Ent.val)) c = ret (.int (rs.length : Int)) c := at_b1 (at_get (at_var rfl) h rfl) rfl
  have b2 : eB1 .len (eGet (eVar 0) "done") (start 1 ([rD a].map Ent.val)) c = ret (.int (dn.length : Int)) c := at_b1 (at_get (at_var rfl) h rfl) rfl
  unfold fpL
  rw [at_bnd b1, numT_fmt (by omega), bnd_ret, PySem.Str.empty_append, at_grd (by omega)]
  unfold fpL
  show bnd (fmtD (.str " words, ")) _ c = _
  have f1 : fmtD (.str " words, ") = ret (" words, " : Str) := grd_pos (by rw [lw]; omega) _
  rw [f1, bnd_ret, at_grd (by rw [PySem.Str.length_append, lw]; omega)]
  unfold fpL
  rw [at_bnd b2, numT_fmt (by omega), bnd_ret, at_grd (by rw [PySem.Str.length_append, PySem.Str.length_append, lw]; omega)]
  unfold fpL
  show bnd (fmtD (.str " edits")) _ c = _
  have f2 : fmtD (.str " edits") = ret (" edits" : Str) := grd_pos (by rw [le]; omega) _
  rw [f2, bnd_ret, at_grd (by rw [PySem.Str.length_append, PySem.Str.length_append, PySem.Str.length_append, lw, le]; omega)]
  rfl
/-- what the law looks at -/
theorem law_seen (h : c.mu a = some (.ins "Page" (pgF (.tuple rs) st dn w))) (hr : rs.length ≤ 1000) (hd : dn.length ≤ 1000) (ok : showOk (.list [.tuple rs, .int (rs.length : Int), .int (dn.length : Int), .tuple dn, .int (dn.length : Int), .str (pgText rs.length dn.length)])) :
    w__law_seen_0 [rD a] c = ret (.str (PyData.shown (.list [.tuple rs, .int (rs.length : Int), .int (dn.length : Int), .tuple dn, .int (dn.length : Int), .str (pgText rs.length dn.length)]))) c := by
  refine (fn_ret rfl).trans (at_b1 (x := .list [.tuple rs, .int (rs.length : Int), .int (dn.length : Int), .tuple dn, .int (dn.length : Int), .str (pgText rs.length dn.length)]) ?_ (grd_pos ok _))
  unfold eLst
  rw [at_bnd (at_aCons (at_prop (at_var rfl) h rfl (page_row h)) (at_aCons (at_prop (at_var rfl) h rfl (page_size h)) (at_aCons (at_prop (at_var rfl) h rfl (page_version h)) (at_aCons ((at_met (at_var rfl) h rfl at_aNil).trans (page_edits h)) (at_aCons (at_lenO (at_prop (at_var rfl) h rfl (page_len h)) ⟨by omega, by omega⟩) (at_aCons (at_strO (at_prop (at_var rfl) h rfl (page_str h hr hd))) at_aNil))))))]
  exact at_grd (by simp [small])
end
end DL
end
section
namespace DL
open PySem
section
variable {c : Sx} {a : Nat} {E : Env}
theorem at_flt {m : W D} {z : D} (h : m = ret z) (fz : flat z = true) : flt m c = ret z c := by
  unfold flt
  rw [h, bnd_ret]
  exact at_grd fz
theorem at_V1 {f : D → W D} {u : XE} {ds : List D} {z : D} (hu : u E c = ret (rD a) c) (h : c.mu a = some (.lst ds)) (hf : f (.list ds) = ret z) (fz : flat z = true) : eV1 f u E c = ret z c := by
  unfold eV1
  rw [at_bnd hu, at_bnd (at_vw h)]
  exact at_flt hf fz
theorem at_V2 {f : D → D → W D} {u v : XE} {ds : List D} {e z : D} (hu : u E c = ret (rD a) c) (hv : v E c = ret e c) (h : c.mu a = some (.lst ds)) (hf : f (.list ds) e = ret z) (fz : flat z = true) : eV2 f u v E c = ret z c := by
  unfold eV2
  rw [at_bnd hu, at_bnd hv, at_bnd (at_vw h)]
  exact at_flt hf fz
theorem at_bin {o : Op} {u v : XE} {x y z : D} (h1 : u E c = ret x c) (h2 : v E c = ret y c) (h : opBin o x y = ret z) : eBin o u v E c = ret z c := by
  unfold eBin
  rw [at_bnd h1, at_bnd h2, h]
/-- the model: its lists at s and d -/
structure Mdl (c : Sx) (mo s d : Nat) (b : Bool) (st dn : List D) : Prop where
  m_ : c.mu mo = some (.lst [rD s, rD d, .bool b])
  s_ : c.mu s = some (.lst st)
  d_ : c.mu d = some (.lst dn)
  sd : s ≠ d
variable {mo s d : Nat} {b : Bool} {s1 dn : List D} {rs : List D}
theorem law_due_seen (M : Mdl c mo s d b (s1 ++ [.tuple rs]) dn) (fr : flat (.tuple rs) = true) (fd : flatAll dn = true) (hr : rs.length ≤ 1000) (hd : dn.length ≤ 1000) (ok : showOk (.list [.tuple rs, .int (rs.length : Int), .int (dn.length : Int), .tuple dn, .int (dn.length : Int), .str (pgText rs.length dn.length)])) :
    w__law_due_seen_0 [rD mo] c = ret (.str (PyData.shown (.list [.tuple rs, .int (rs.length : Int), .int (dn.length : Int), .tuple dn, .int (dn.length : Int), .str (pgText rs.length dn.length)]))) c := by
  have l1 := numT_len (n := rs.length) (by omega)
  have l2 := numT_len (n := dn.length) (by omega)
  have lw : (" words, " : Str).length = 8 := by decide +kernel
  have le : (" edits" : Str).length = 6 := by decide +kernel
  let E1 : Env := [.val (rD mo), .val (.tuple rs), .val (rD d), .unk]
  let E2 : Env := [.val (rD mo), .val (.tuple rs), .val (rD d), .val (.str (pgText rs.length dn.length))]
  have v0 : eV2 opIdx (eVar 0) (eCon (.int 0)) (start 4 ([rD mo].map Ent.val)) c = ret (rD s) c := at_V2 (at_var rfl) rfl M.m_ rfl rfl
  have v1 : eV2 opIdx (eVar 0) (eCon (.int 1)) (start 4 ([rD mo].map Ent.val)) c = ret (rD d) c := at_V2 (at_var rfl) rfl M.m_ rfl rfl
  have v2 : eV2 opIdx (eV2 opIdx (eVar 0) (eCon (.int 0))) (eNeg (eCon (.int 1))) (start 4 ([rD mo].map Ent.val)) c = ret (.tuple rs) c := at_V2 v0 rfl M.s_ (idx_lastL s1 _) fr
  have p1 : sPar 1 2 (eV2 opIdx (eV2 opIdx (eVar 0) (eCon (.int 0))) (eNeg (eCon (.int 1)))) (eV2 opIdx (eVar 0) (eCon (.int 1))) (start 4 ([rD mo].map Ent.val)) c = ret (.nx E1) c := by
    unfold sPar
    rw [at_bnd v2, at_bnd v1]
    rfl
  have n1 : eB1 .str (eB1 .len (eVar 1)) E1 c = ret (.str (numT rs.length)) c := at_b1 (at_b1 (at_var rfl) rfl) (str_int (i := (rs.length : Int)) (by show rs.length < 10 ^ 45; exact Nat.lt_of_le_of_lt hr (by decide)))
  have k2 : eV1 (bi1 .len) (eVar 2) E1 c = ret (.int (dn.length : Int)) c := at_V1 (at_var rfl) M.d_ rfl rfl
  have n2 : eB1 .str (eV1 (bi1 .len) (eVar 2)) E1 c = ret (.str (numT dn.length)) c := at_b1 k2 (str_int (i := (dn.length : Int)) (by show dn.length < 10 ^ 45; exact Nat.lt_of_le_of_lt hd (by decide)))
  have a1 : sAsg 3 (eBin .add (eBin .add (eBin .add (eB1 .str (eB1 .len (eVar 1))) (eCon (.str " words, "))) (eB1 .str (eV1 (bi1 .len) (eVar 2)))) (eCon (.str " edits"))) E1 c = ret (.nx E2) c := by
    refine (at_asg (x := .str (pgText rs.length dn.length)) (at_bin (at_bin (at_bin n1 rfl ((add_str _ _).trans (grd_pos ?_ _))) n2 ((add_str _ _).trans (grd_pos ?_ _))) rfl ((add_str _ _).trans (grd_pos ?_ _)))).trans rfl
    · rw [lw]; omega
    · rw [PySem.Str.length_append, lw]; omega
    · rw [PySem.Str.length_append, PySem.Str.length_append, lw, le]; omega
  have k3 : eV1 (bi1 .len) (eVar 2) E2 c = ret (.int (dn.length : Int)) c := at_V1 (at_var rfl) M.d_ rfl rfl
  have k4 : eV1 (bi1 .tuple) (eVar 2) E2 c = ret (.tuple dn) c := at_V1 (at_var rfl) M.d_ rfl fd
  refine at_fn rfl ((at_seq p1).trans ((at_seq a1).trans (at_ret (at_b1 (x := .list [.tuple rs, .int (rs.length : Int), .int (dn.length : Int), .tuple dn, .int (dn.length : Int), .str (pgText rs.length dn.length)]) ?_ (grd_pos ok _))))) rfl
  unfold eLst
  rw [at_bnd (at_aCons (at_var rfl) (at_aCons (at_b1 (at_var rfl) rfl) (at_aCons k3 (at_aCons k4 (at_aCons k3 (at_aCons (at_var rfl) at_aNil))))))]
  exact at_grd (by simp [small])
end
end DL
end
section
namespace DL
open PySem
section
variable {c c1 : Sx} {E : Env} {k n : Nat} {ds : List D}
theorem seq_eq {s s' r : XS} (h : s E c = s' E c) : sSeq s r E c = sSeq s' r E c := by
  unfold sSeq
  show (fun P X => s E c (fun o c' => _) X) = (fun P X => s' E c (fun o c' => _) X)
  rw [h]
theorem fn_yes {t : XT} {m : XE} {r : XS} (hl : ds.length = k) (ht : t (start n (ds.map Ent.val)) c = ret true c) : fn k n (sSeq (sIf t (sRet m) sSkip) r) ds c = m (start n (ds.map Ent.val)) c := by
  unfold fn
  rw [at_grd hl]
  show (fun P X => sSeq (sIf t (sRet m) sSkip) r (start n (ds.map Ent.val)) c (fun o c' => endOf o c' P X) X) = _
  rw [seq_eq (s' := sRet m) (at_if ht)]
  rfl
theorem fn_no {t : XT} {s r : XS} (hl : ds.length = k) (ht : t (start n (ds.map Ent.val)) c = ret false c) : fn k n (sSeq (sIf t s sSkip) r) ds c = fn k n r ds c := by
  unfold fn
  rw [at_grd hl, at_grd hl]
  show (fun P X => sSeq (sIf t s sSkip) r (start n (ds.map Ent.val)) c (fun o c' => endOf o c' P X) X) = _
  rw [seq_eq (s' := sSkip) (at_if ht)]
  rfl
theorem at_eIf {t : XT} {u v : XE} {b : Bool} (h : t E c = ret b c) : eIf t u v E c = (if b = true then u E else v E) c := by
  unfold eIf
  rw [at_bnd h]
theorem at_try {e : XE} {f : D → XS} {hd : Exn → XS} {x : D} (h : e E c = ret x c1) : sTry e f hd E c = noX (f x E) c1 := by
  unfold sTry
  show (fun P X => e E c (fun d n' => _) fun x n' => _) = _
  rw [h]
  rfl
theorem at_tryX {e : XE} {f : D → XS} {hd : Exn → XS} {x : Exn} (h : e E c = thr x c1) : sTry e f hd E c = hd x E c1 := by
  unfold sTry
  show (fun P X => e E c (fun d n' => _) fun x n' => _) = _
  rw [h]
  rfl
end
section
variable {c : Sx} {a : Nat} {w : D} {st dn : List D} {ns : List Int}
theorem tup0 (x : D) (xs : List D) : opIdx (.tuple (x :: xs)) (.int 0) = ret x := by
  show (match L2.atI (x :: xs) 0 with | some d => ret d | none => stuck : W D) = _
  have e : L2.atI (x :: xs) 0 = some x := by
    unfold L2.atI L2.ixN
    rw [if_pos (by omega), if_pos (by rw [List.length_cons]; omega)]
    rfl
  rw [e]
theorem tup1 (x y : D) (xs : List D) : opIdx (.tuple (x :: y :: xs)) (.int 1) = ret y := by
  show (match L2.atI (x :: y :: xs) 1 with | some d => ret d | none => stuck : W D) = _
  have e : L2.atI (x :: y :: xs) 1 = some y := by
    unfold L2.atI L2.ixN
    rw [if_pos (by omega), if_pos (by rw [List.length_cons, List.length_cons]; omega)]
    rfl
  rw [e]
theorem tup2 (x y z : D) (xs : List D) : opIdx (.tuple (x :: y :: z :: xs)) (.int 2) = ret z := by
  show (match L2.atI (x :: y :: z :: xs) 2 with | some d => ret d | none => stuck : W D) = _
  have e : L2.atI (x :: y :: z :: xs) 2 = some z := by
    unfold L2.atI L2.ixN
    rw [if_pos (by omega), if_pos (by rw [List.length_cons, List.length_cons, List.length_cons]; omega)]
    rfl
  rw [e]
theorem nm_is {x y : Str} {xs : List D} : tBool (eCmp .eq (eIdx (eVar 1) (eCon (.int 0))) (eCon (.str y))) (start 2 ([rD a, .tuple (.str x :: xs)].map Ent.val)) c = ret (decide (x = y)) c :=
  at_tBool (at_cmp (at_idx (at_var rfl) rfl (tup0 _ _)) rfl (o_eqS x y))
theorem apply_0 {e : Ed} (h : c.mu a = some (.ins "Page" (pgF (T ns) st dn w))) (h2 : ns.length ≤ 24) (hp : e.plain) (hs : st.length ≤ 1000) (hd : dn.length ≤ 1000) (fs : flatAll st = true) (fd : flatAll dn = true) :
    w__law_apply_0 [rD a, .tuple e.d] c = pgR c a ns st dn w e := by
  unfold w__law_apply_0
  cases e with
  | put p l =>
    exact (fn_yes rfl (nm_is.trans rfl)).trans ((at_met (at_var rfl) h rfl (at_aCons (at_idx (at_var rfl) rfl (tup1 _ _ _)) (at_aCons (at_idx (at_var rfl) rfl (tup2 _ _ _ _)) at_aNil))).trans (page_put h h2 hp hs hd fs fd))
  | cut p =>
    exact (fn_no rfl (nm_is.trans (congrFun (congrArg ret (decide_eq_false (by decide))) c))).trans ((fn_yes rfl (nm_is.trans rfl)).trans ((at_met (at_var rfl) h rfl (at_aCons (at_idx (at_var rfl) rfl (tup1 _ _ _)) at_aNil)).trans (page_cut h h2 hp hs hd fs fd)))
  | resize p l =>
    exact (fn_no rfl (nm_is.trans (congrFun (congrArg ret (decide_eq_false (by decide))) c))).trans ((fn_no rfl (nm_is.trans (congrFun (congrArg ret (decide_eq_false (by decide))) c))).trans ((fn_yes rfl (nm_is.trans rfl)).trans ((at_met (at_var rfl) h rfl (at_aCons (at_idx (at_var rfl) rfl (tup1 _ _ _)) (at_aCons (at_idx (at_var rfl) rfl (tup2 _ _ _ _)) at_aNil))).trans (page_resize h h2 hp hs hd fs fd))))
  | turn =>
    refine (fn_no rfl (nm_is.trans (congrFun (congrArg ret (decide_eq_false (by decide))) c))).trans ((fn_no rfl (nm_is.trans (congrFun (congrArg ret (decide_eq_false (by decide))) c))).trans ((fn_no rfl (nm_is.trans (congrFun (congrArg ret (decide_eq_false (by decide))) c))).trans ((fn_ret rfl).trans ((at_eIf (b := true) (nm_is.trans rfl)).trans ?_))))
    exact (at_met (at_var rfl) h rfl at_aNil).trans (page_turn h h2 hs hd fs fd)
end
end DL
end
section
namespace DL
open PySem
/-- an error's field, as the law tells it -/
def fldX (x : Exn) : D := match x.fs with
  | [] => .none
  | (_, d) :: _ => d
/-- the errors of edits -/
inductive EdX : Exn → Prop
  | many : EdX ⟨"TooMany", [("limit", .int 24)]⟩
  | last : EdX ⟨"LastWord", []⟩
  | len (d : D) : EdX (xV "BadLength" d)
  | place (d : D) : EdX (xV "NoPlace" d)
  | edits : EdX ⟨"TooManyEdits", []⟩
  | none : EdX ⟨"NothingToUndo", []⟩
theorem EdX.name {x : Exn} (h : EdX x) : w__law_name_0 [x.d] = ret (.str x.cls) := by
  cases h with
  | many => exact name_TooMany _
  | last => exact name_LastWord _
  | len d => exact name_BadLength _
  | place d => exact name_NoPlace _
  | edits => exact name_TooManyEdits _
  | none => exact name_NothingToUndo _
theorem EdX.fld {x : Exn} (h : EdX x) : w__law_field_0 [x.d] = ret (fldX x) := by
  cases h with
  | many => exact field_TooMany _
  | last => exact field_LastWord
  | len d => exact field_BadLength _
  | place d => exact field_NoPlace _
  | edits => exact field_TooManyEdits
  | none => exact field_NothingToUndo
theorem subE_all : (["TooMany", "LastWord", "BadLength", "NoPlace", "TooManyEdits", "NothingToUndo"] : List Str).all (fun n => ([("WrapError" : Str), ("NoPlace" : Str)]).any (subC n)) = true := by decide +kernel
theorem subE (n : Str) (h : n ∈ (["TooMany", "LastWord", "BadLength", "NoPlace", "TooManyEdits", "NothingToUndo"] : List Str)) : ([("WrapError" : Str), ("NoPlace" : Str)]).any (subC n) = true := List.all_eq_true.mp subE_all n h
theorem EdX.sub {x : Exn} (h : EdX x) : ([("WrapError" : Str), ("NoPlace" : Str)]).any (subC x.cls) = true := by
  cases h with
  | many => exact subE "TooMany" (by decide)
  | last => exact subE "LastWord" (by decide)
  | len d => exact subE "BadLength" (by decide)
  | place d => exact subE "NoPlace" (by decide)
  | edits => exact subE "TooManyEdits" (by decide)
  | none => exact subE "NothingToUndo" (by decide)
theorem evE_EdX {ns : List Int} {e : Ed} {x : Exn} (h : evE ns e = .inl x) : EdX x := by
  cases e with
  | put p l =>
    simp only [evE] at h
    split at h
    · split at h
      · split at h
        · cases h; exact .many
        · cases h
      · cases h; exact .len _
    · cases h; exact .place _
  | cut p =>
    simp only [evE] at h
    split at h
    · split at h
      · cases h; exact .last
      · cases h
    · cases h; exact .place _
  | resize p l =>
    simp only [evE] at h
    split at h
    · split at h
      · cases h
      · cases h; exact .len _
    · cases h; exact .place _
  | turn => cases h
section
variable {c c1 c2 : Sx} {E : Env}
theorem at_aConsC {e : XE} {r : XA} {x : D} {xs : List D} (h : e E c = ret x c1) (hr : r E c1 = ret xs c2) : aCons e r E c = ret (x :: xs) c2 := by
  unfold aCons
  rw [at_bnd h, at_bnd hr]
theorem at_aConsX {e : XE} {r : XA} {x : Exn} (h : e E c = thr x c1) : aCons e r E c = thr x c1 := by
  unfold aCons
  rw [at_thr h]
theorem at_aConsX2 {e : XE} {r : XA} {y : D} {x : Exn} (h : e E c = ret y c1) (hr : r E c1 = thr x c2) : aCons e r E c = thr x c2 := by
  unfold aCons
  rw [at_bnd h, at_thr hr]
theorem at_lstX {r : XA} {x : Exn} (h : r E c = thr x c1) : eLst r E c = thr x c1 := by
  unfold eLst
  rw [at_thr h]
theorem at_lst {r : XA} {xs : List D} (h : r E c = ret xs c1) (hs : small xs.length) : eLst r E c = ret (.list xs) c1 := by
  unfold eLst
  rw [at_bnd h]
  exact at_grd hs
end
section
variable {c c1 : Sx} {a : Nat} {w : D} {st dn : List D} {ns : List Int}
theorem did_ok {ed : List D} {x : D} (h : w__law_apply_0 [rD a, .tuple ed] c = ret x c1) : w__law_did_0 [rD a, .tuple ed] c = ret (.list [.str "ok", x]) c1 := by
  refine at_fn (o := .rt (.list [.str "ok", x])) rfl ?_ rfl
  have e1 : eLst (aCons (eCon (.str "ok")) (aCons (eCall w__law_apply_0 (aCons (eVar 0) (aCons (eVar 1) (aNil)))) (aNil))) (start 3 ([rD a, .tuple ed].map Ent.val)) c = ret (.list [.str "ok", x]) c1 := by
    refine at_lst (at_aConsC (c1 := c) rfl (at_aConsC (c1 := c1) ((at_call (at_aCons (at_var rfl) (at_aCons (at_var rfl) at_aNil))).trans h) rfl)) (by simp [small])
  rw [at_try e1]
  rfl
theorem did_err {ed : List D} {x : Exn} (hx : EdX x) (h : w__law_apply_0 [rD a, .tuple ed] c = thr x c1) : w__law_did_0 [rD a, .tuple ed] c = ret (.list [.str x.cls, fldX x]) c1 := by
  refine at_fn (o := .rt (.list [.str x.cls, fldX x])) rfl ?_ rfl
  have e1 : eLst (aCons (eCon (.str "ok")) (aCons (eCall w__law_apply_0 (aCons (eVar 0) (aCons (eVar 1) (aNil)))) (aNil))) (start 3 ([rD a, .tuple ed].map Ent.val)) c = thr x c1 := by
    exact at_lstX (at_aConsX2 (c1 := c) rfl (at_aConsX ((at_call (at_aCons (at_var rfl) (at_aCons (at_var rfl) at_aNil))).trans h)))
  rw [at_tryX e1]
  have hs := hx.sub
  show (if ([("WrapError" : Str), ("NoPlace" : Str)]).any (subC x.cls) = true then _ else _ : XS) _ c1 = _
  rw [if_pos hs]
  have s1 : sRet (eLst (aCons (eCall w__law_name_0 (aCons (eVar 2) (aNil))) (aCons (eCall w__law_field_0 (aCons (eVar 2) (aNil))) (aNil)))) (eSetO (some 2) (.val x.d) (start 3 ([rD a, .tuple ed].map Ent.val))) c1 = ret (.rt (.list [.str x.cls, fldX x])) c1 := by
    refine at_ret ?_
    unfold eLst
    rw [at_bnd (at_aCons (x := .str x.cls) ((at_call (at_aCons (at_var rfl) at_aNil)).trans (by rw [hx.name])) (at_aCons (x := fldX x) ((at_call (at_aCons (at_var rfl) at_aNil)).trans (by rw [hx.fld])) at_aNil))]
    exact at_grd (by simp [small])
  exact (at_bnd (at_noX s1)).trans rfl
end
end DL
end
section
namespace DL
open PySem
/-- the law's answer -/
def dueR : Exn ⊕ List Int → D
  | .inl x => .list [.str x.cls, fldX x]
  | .inr r => .list [.str "row", T r]
section
variable {c : Sx} {mo s d : Nat} {s1 dn : List D} {ns : List Int}
/-- the end: no row is too long for a page that is not narrow -/
theorem due_end {E : Env} {after : List Int} (M : Mdl c mo s d false (s1 ++ [T ns]) dn) (h0 : E[0]? = some (.val (rD mo))) (h5 : E[5]? = some (.val (T after))) (hl : E.length = 8) (hn : after.length ≤ 30) :
    sSeq (sAsg 7 (eComp (iRng1 (eB1 .len (eVar 5))) (.nm 6) (tBool (eCmp .gt (eIdx (eVar 5) (eVar 6)) (eCon (.int 12)))) (eVar 6) [6]))
      (sRet (eIf (DL.tAnd (tTru (eV2 opIdx (eVar 0) (eCon (.int 2)))) (tBool (eCmp .ne (eVar 7) (eLst (aNil))))) (eLst (aCons (eCon (.str "TooLong")) (aCons (eIdx (eVar 7) (eCon (.int 0))) (aNil)))) (eLst (aCons (eCon (.str "row")) (aCons (eVar 5) (aNil)))))) E c = ret (.rt (.list [.str "row", T after])) c := by
  have hc : ∃ xs : List D, eComp (iRng1 (eB1 .len (eVar 5))) (.nm 6) (tBool (eCmp .gt (eIdx (eVar 5) (eVar 6)) (eCon (.int 12)))) (eVar 6) [6] E = ret (.list xs) ∧ flatAll xs = true := by
    refine ⟨_, comp_filtE (ds := rng 0 (after.length : Int)) (p := fun d => match d with | .int i => decide (after.getD i.toNat 0 > 12) | _ => false) (f := id) ?_ ?_ ?_, ?_⟩
    · show bnd (bnd (eVar 5 E) (bi1 .len)) _ = _
      unfold eVar
      rw [h5]
      simp only [bnd_ret]
      show bnd (bi1 .len (.tuple (after.map PyData.int))) _ = _
      show grd (rngOk 0 ((after.map PyData.int).length : Int)) (ret (rng 0 ((after.map PyData.int).length : Int))) = _
      rw [List.length_map]
      exact grd_pos (by unfold rngOk; omega) _
    · simp [rng]
      omega
    · intro d hd
      unfold rng at hd
      obtain ⟨i, hi, rfl⟩ := List.mem_map.mp hd
      have hi' : i < after.length := by simpa using hi
      refine ⟨(E.set 6 .unk).set 6 (.val (.int (0 + (i : Int)))), rfl, ?_, fun _ => ?_⟩
      · have g5 : ((E.set 6 Ent.unk).set 6 (.val (.int (0 + (i : Int)))))[5]? = some (.val (T after)) := by rw [List.getElem?_set_ne (by omega), List.getElem?_set_ne (by omega)]; exact h5
        have g6 : ((E.set 6 Ent.unk).set 6 (.val (.int (0 + (i : Int)))))[6]? = some (.val (.int (0 + (i : Int)))) := by rw [List.getElem?_set_self (by rw [List.length_set]; omega)]
        have ix : opIdx (T after) (.int (0 + (i : Int))) = ret (.int (after[i]'hi')) := by
          have z := idx_ints (ns := after) (i := 0 + (i : Int)) (by omega) (by omega)
          simp only [Int.zero_add, Int.toNat_natCast] at z ⊢
          exact z
        funext c
        refine at_tBool (at_cmp (at_idx (at_var g5) (at_var g6) ix) rfl ?_)
        refine (o_gt _ _).trans ?_
        simp [hi']
      · unfold eVar
        rw [List.getElem?_set_self (by rw [List.length_set]; omega)]
        rfl
    · rw [List.map_id]
      have q : ∀ (l : List Nat) (f : D → Bool), flatAll ((l.map fun (i : Nat) => PyData.int (0 + (i : Int))).filter f) = true := by
        intro l f
        induction l with
        | nil => rfl
        | cons x l ih =>
          rw [List.map_cons, List.filter_cons]
          split
          · simp only [flatAll, flat, Bool.true_and]
            exact ih
          · exact ih
      exact q _ _
  obtain ⟨xs, h1, h2⟩ := hc
  have a1 : sAsg 7 (eComp (iRng1 (eB1 .len (eVar 5))) (.nm 6) (tBool (eCmp .gt (eIdx (eVar 5) (eVar 6)) (eCon (.int 12)))) (eVar 6) [6]) E c = ret (.nx (E.set 7 (.val (.list xs)))) c := at_asg (by rw [h1])
  have g0 : (E.set 7 (.val (.list xs)))[0]? = some (.val (rD mo)) := by rw [List.getElem?_set_ne (by omega)]; exact h0
  have g5 : (E.set 7 (.val (.list xs)))[5]? = some (.val (T after)) := by rw [List.getElem?_set_ne (by omega)]; exact h5
  refine (at_seq a1).trans (at_ret ?_)
  have t1 : DL.tAnd (tTru (eV2 opIdx (eVar 0) (eCon (.int 2)))) (tBool (eCmp .ne (eVar 7) (eLst (aNil)))) (E.set 7 (.val (.list xs))) c = ret false c := by
    unfold DL.tAnd
    rw [at_bnd (at_tru (b := false) (at_V2 (z := .bool false) (at_var g0) rfl M.m_ rfl rfl) rfl)]
    rfl
  refine (at_eIf t1).trans ?_
  exact at_lst (at_aCons rfl (at_aCons (at_var g5) at_aNil)) (by simp [small])
end
end DL
end
section
namespace DL
open PySem
section
variable {c : Sx} {mo s d : Nat} {s1 dn : List D} {ns : List Int}
theorem due_turn (M : Mdl c mo s d false (s1 ++ [T ns]) dn) (h2 : ns.length ≤ 24) : w__law_due_9 [rD mo, .tuple Ed.turn.d] c = ret (dueR (evE ns .turn)) c := by
  let E1 : Env := [.val (rD mo), .val (.tuple [.str "turn"]), .val (T ns), .unk, .unk, .unk, .unk, .unk]
  let E2 : Env := [.val (rD mo), .val (.tuple [.str "turn"]), .val (T ns), .val (.str "turn"), .val (.int (ns.length : Int)), .val (T ns.reverse), .unk, .unk]
  have v0 : eV2 opIdx (eVar 0) (eCon (.int 0)) (start 8 ([rD mo, .tuple Ed.turn.d].map Ent.val)) c = ret (rD s) c := at_V2 (at_var rfl) rfl M.m_ rfl rfl
  have v2 : eV2 opIdx (eV2 opIdx (eVar 0) (eCon (.int 0))) (eNeg (eCon (.int 1))) (start 8 ([rD mo, .tuple Ed.turn.d].map Ent.val)) c = ret (T ns) c := at_V2 v0 rfl M.s_ (idx_lastL s1 _) (flat_T ns)
  have a1 := at_asg (i := 2) v2
  have t1 : eTup (aCons (eIdx (eVar 1) (eCon (.int 0))) (aCons (eB1 .len (eVar 2)) (aCons (eRev (eVar 2)) (aNil)))) E1 c = ret (.tuple [.str "turn", .int (ns.length : Int), T ns.reverse]) c := by
    refine at_tup (at_aCons (at_idx (at_var rfl) rfl (tup0 _ _)) (at_aCons (at_b1 (at_var rfl) ?_) (at_aCons ?_ at_aNil))) (by simp [small])
    · show ret (PyData.int ((ns.map PyData.int).length : Int)) = _
      rw [List.length_map]
    · unfold eRev
      rw [at_bnd (at_var (d := T ns) rfl)]
      show ret (PyData.tuple (ns.map PyData.int).reverse) c = _
      unfold T
      rw [List.map_reverse]
  have p1 : sPut (.tp [3, 4, 5]) (eTup (aCons (eIdx (eVar 1) (eCon (.int 0))) (aCons (eB1 .len (eVar 2)) (aCons (eRev (eVar 2)) (aNil))))) E1 c = ret (.nx E2) c := by
    unfold sPut
    rw [at_bnd t1]
    rfl
  have n1 : tBool (eCmp .ne (eVar 3) (eCon (.str "turn"))) E2 c = ret false c := at_tBool (at_cmp (b := false) (at_var rfl) rfl ((o_neS _ _).trans rfl))
  exact at_fn rfl ((at_seq a1).trans ((at_seq p1).trans ((at_seq ((at_if n1).trans rfl)).trans (due_end M rfl rfl rfl (by rw [List.length_reverse]; omega))))) rfl
end
end DL
end
section
namespace DL
open PySem
def dueM : XS := (sSeq (sAsg 6 (eIdx (eVar 1) (eCon (.int 1))))
    (sSeq (sIf (tNot (tTru (eCall w__law_is_int_0 (aCons (eVar 6) (aCons (eCon (.int 0)) (aCons (eBin .sub (eVar 4) (eB1 .int (eCmp .ne (eVar 3) (eCon (.str "put"))))) (aNil))))))) (sRet (eLst (aCons (eCon (.str "NoPlace")) (aCons (eVar 6) (aNil))))) (sSkip))
    (sSeq (sIf (DL.tAnd (tBool (eCmp .ne (eVar 3) (eCon (.str "cut")))) (tNot (tTru (eCall w__law_is_int_0 (aCons (eIdx (eVar 1) (eCon (.int 2))) (aCons (eCon (.int 1)) (aCons (eCon (.int 60)) (aNil)))))))) (sRet (eLst (aCons (eCon (.str "BadLength")) (aCons (eIdx (eVar 1) (eCon (.int 2))) (aNil))))) (sSkip))
    (sSeq (sIf (DL.tAnd (tBool (eCmp .eq (eVar 3) (eCon (.str "put")))) (tBool (eCmp .eq (eVar 4) (eCon (.int 24))))) (sRet (eLst (aCons (eCon (.str "TooMany")) (aCons (eCon (.int 24)) (aNil))))) (sSkip))
    (sSeq (sIf (DL.tAnd (tBool (eCmp .eq (eVar 3) (eCon (.str "cut")))) (tBool (eCmp .eq (eVar 4) (eCon (.int 1))))) (sRet (eLst (aCons (eCon (.str "LastWord")) (aCons (eCon .none) (aNil))))) (sSkip))
    (sAsg 5 (eBin .add (eBin .add (eCut (eVar 2) (oNone) (oSome (eVar 6))) (eCut (eVar 1) (oSome (eCon (.int 2))) (oNone))) (eCut (eVar 2) (oSome (eBin .add (eVar 6) (eB1 .int (eCmp .ne (eVar 3) (eCon (.str "put")))))) (oNone)))))))))
section
variable {ns : List Int} {m : D}
theorem due_put {p l : D} (h2 : ns.length ≤ 24) (hp : noXn p = true) (hl : noXn l = true) :
    dueM [.val m, .val (.tuple [.str "put", p, l]), .val (T ns), .val (.str "put"), .val (.int (ns.length : Int)), .val (T ns.reverse), .unk, .unk] = match evE ns (.put p l) with
      | .inl x => ret (.rt (.list [.str x.cls, fldX x]))
      | .inr r => ret (.nx [.val m, .val (.tuple [.str "put", p, l]), .val (T ns), .val (.str "put"), .val (.int (ns.length : Int)), .val (T r), .val p, .unk]) := by
  unfold dueM
  simp only [x_var, x_con, x_bin, x_neg, x_cmp, x_chain, x_tTru, x_tNot, x_tAnd, x_tOr, x_tBool, x_tYes, x_not, x_and, x_or, x_if, x_b1, x_b2, x_is, x_idx, x_oNone, x_oSome, x_cut, x_aNil, x_aCons, x_tup, x_lst, x_call, x_callS,
    x_iSeq, x_iRng1, x_iRng2, x_bor, x_tBor, x_put1, List.map_cons, List.map_nil, List.cons_append, List.nil_append, List.length_cons, List.length_nil, Nat.zero_add, Nat.reduceAdd, Nat.reduceSub, List.reduceReplicate, start,
    List.getElem?_cons_zero, List.getElem?_cons_succ, List.set_cons_zero, List.set_cons_succ, bnd_ret, bnd_assoc, bnd_grd, b1_if, bnd_ite, small, Nat.reduceLeDiff, grd_true, o_add, o_sub, o_neg, o_eq, o_ne, o_lt, o_le, o_gt, o_ge, o_eqS, o_neS,
    decide_eq_true_eq, reduceIte, decide_true, decide_false, Bool.not_true, Bool.not_false, Bool.false_eq_true, itemsOf, asInt, bi2, endOf, isTy,
    grd_tt, nx_int, nx_bool, nx_str, nx_none, nx_tup, nx_lst, x_isC, x_fld, x_in, x_count, x_lstR, x_tupR, x_raise, x_star, bnd_thr, noX_ret, fld_x, exn_d, eSetO, Out.clear, List.zip_cons_cons, List.zip_nil_left, List.zip_nil_right, s_asg, s_par, s_own, s_parO, s_put, s_expr, s_ret, s_skip, s_seq, s_rel, x_asg, x_par, x_own, x_parO, x_put, x_expr, x_ret, x_retN, x_skip, x_rel, x_app, x_setI, x_sIf, x_for, x_brk, x_cnt, T, s_if, tup0, tup1, tup2, law_is_int_0 hp, law_is_int_0 hl]
  have b0 : bi1 B1.int (PyData.bool false) = ret (.int 0) := rfl
  have tb : ∀ b : Bool, tru (.bool b) = ret b := fun _ => rfl
  simp only [b0, bnd_ret, o_sub, Int.sub_zero, law_is_int_0 hp, law_is_int_0 hl, tb, evE]
  cases h1 : intIn 0 ns.length p with
  | false => rfl
  | true =>
    simp only [Bool.not_true, Bool.false_eq_true, if_false, if_true]
    cases h3 : intIn 1 60 l with
    | false => rfl
    | true =>
      simp only [Bool.not_true, Bool.false_eq_true, if_false, if_true]
      obtain ⟨i, rfl, i0, i1⟩ := intIn_of h1
      obtain ⟨x, rfl, x0, x1⟩ := intIn_of h3
      rw [if_pos (by decide)]
      by_cases h24 : (ns.length : Int) = 24
      · have h24' : ns.length = 24 := by omega
        rw [if_pos h24, if_pos h24']
        rfl
      · have h24' : ¬ ns.length = 24 := by omega
        rw [if_neg h24, if_neg h24', if_neg (by decide)]
        have ct : opCut (PyData.tuple [PyData.str (Str.ofString "put"), .int i, .int x]) (some 2) none = ret (.tuple [.int x]) := rfl
        have ad : ∀ a b : Int, opBin Op.add (.int a) (.int b) = ret (.int (a + b)) := fun _ _ => rfl
        have at_ : ∀ (xs ys : List D), xs.length + ys.length ≤ 1000000 → opBin Op.add (.tuple xs) (.tuple ys) = ret (.tuple (xs ++ ys)) := fun xs ys h => grd_pos h _
        simp only [bnd_ret, cut_uptoI i0, ct, ad, Int.add_zero, cut_fromI i0 i1]
        rw [at_ _ _ (by simp; omega), bnd_ret, at_ _ _ (by simp; omega), bnd_ret]
        simp [insI, T]
theorem due_cut {p : D} (h0 : 1 ≤ ns.length) (h2 : ns.length ≤ 24) (hp : noXn p = true) :
    dueM [.val m, .val (.tuple [.str "cut", p]), .val (T ns), .val (.str "cut"), .val (.int (ns.length : Int)), .val (T ns.reverse), .unk, .unk] = match evE ns (.cut p) with
      | .inl x => ret (.rt (.list [.str x.cls, fldX x]))
      | .inr r => ret (.nx [.val m, .val (.tuple [.str "cut", p]), .val (T ns), .val (.str "cut"), .val (.int (ns.length : Int)), .val (T r), .val p, .unk]) := by
  unfold dueM
  simp only [x_var, x_con, x_bin, x_neg, x_cmp, x_chain, x_tTru, x_tNot, x_tAnd, x_tOr, x_tBool, x_tYes, x_not, x_and, x_or, x_if, x_b1, x_b2, x_is, x_idx, x_oNone, x_oSome, x_cut, x_aNil, x_aCons, x_tup, x_lst, x_call, x_callS,
    x_iSeq, x_iRng1, x_iRng2, x_bor, x_tBor, x_put1, List.map_cons, List.map_nil, List.cons_append, List.nil_append, List.length_cons, List.length_nil, Nat.zero_add, Nat.reduceAdd, Nat.reduceSub, List.reduceReplicate, start,
    List.getElem?_cons_zero, List.getElem?_cons_succ, List.set_cons_zero, List.set_cons_succ, bnd_ret, bnd_assoc, bnd_grd, b1_if, bnd_ite, small, Nat.reduceLeDiff, grd_true, o_add, o_sub, o_neg, o_eq, o_ne, o_lt, o_le, o_gt, o_ge, o_eqS, o_neS,
    decide_eq_true_eq, reduceIte, decide_true, decide_false, Bool.not_true, Bool.not_false, Bool.false_eq_true, itemsOf, asInt, bi2, endOf, isTy,
    grd_tt, nx_int, nx_bool, nx_str, nx_none, nx_tup, nx_lst, x_isC, x_fld, x_in, x_count, x_lstR, x_tupR, x_raise, x_star, bnd_thr, noX_ret, fld_x, exn_d, eSetO, Out.clear, List.zip_cons_cons, List.zip_nil_left, List.zip_nil_right, s_asg, s_par, s_own, s_parO, s_put, s_expr, s_ret, s_skip, s_seq, s_rel, x_asg, x_par, x_own, x_parO, x_put, x_expr, x_ret, x_retN, x_skip, x_rel, x_app, x_setI, x_sIf, x_for, x_brk, x_cnt, T, s_if, tup0, tup1, tup2, law_is_int_0 hp]
  have b0 : bi1 B1.int (PyData.bool true) = ret (.int 1) := rfl
  have tb : ∀ b : Bool, tru (.bool b) = ret b := fun _ => rfl
  have nd : (!decide (Str.ofString "cut" = Str.ofString "put")) = true := by decide
  have nd2 : (!decide (Str.ofString "cut" = Str.ofString "cut")) = true ↔ False := by decide
  simp only [nd, nd2, b0, bnd_ret, o_sub, law_is_int_0 hp, tb, evE, if_false]
  cases h1 : intIn 0 (ns.length - 1) p with
  | false => rfl
  | true =>
    simp only [Bool.not_true, Bool.false_eq_true, if_false, if_true]
    obtain ⟨i, rfl, i0, i1⟩ := intIn_of h1
    rw [if_neg (by decide)]
    by_cases h24 : (ns.length : Int) = 1
    · have h24' : ns.length = 1 := by omega
      rw [if_pos h24, if_pos h24']
      rfl
    · have h24' : ¬ ns.length = 1 := by omega
      rw [if_neg h24, if_neg h24']
      have ct : opCut (PyData.tuple [PyData.str (Str.ofString "cut"), .int i]) (some 2) none = ret (.tuple []) := rfl
      have ad : ∀ a b : Int, opBin Op.add (.int a) (.int b) = ret (.int (a + b)) := fun _ _ => rfl
      have at_ : ∀ (xs ys : List D), xs.length + ys.length ≤ 1000000 → opBin Op.add (.tuple xs) (.tuple ys) = ret (.tuple (xs ++ ys)) := fun xs ys h => grd_pos h _
      have e1 : (i + 1).toNat = i.toNat + 1 := by omega
      simp only [bnd_ret, cut_uptoI i0, ct, ad, cut_fromI (show 0 ≤ i + 1 by omega) (show i + 1 ≤ ns.length by omega)]
      rw [at_ _ _ (by simp; omega), bnd_ret, at_ _ _ (by simp; omega), bnd_ret]
      simp [takI, T, e1]
theorem due_resize {p l : D} (h0 : 1 ≤ ns.length) (h2 : ns.length ≤ 24) (hp : noXn p = true) (hl : noXn l = true) :
    dueM [.val m, .val (.tuple [.str "resize", p, l]), .val (T ns), .val (.str "resize"), .val (.int (ns.length : Int)), .val (T ns.reverse), .unk, .unk] = match evE ns (.resize p l) with
      | .inl x => ret (.rt (.list [.str x.cls, fldX x]))
      | .inr r => ret (.nx [.val m, .val (.tuple [.str "resize", p, l]), .val (T ns), .val (.str "resize"), .val (.int (ns.length : Int)), .val (T r), .val p, .unk]) := by
  unfold dueM
  simp only [x_var, x_con, x_bin, x_neg, x_cmp, x_chain, x_tTru, x_tNot, x_tAnd, x_tOr, x_tBool, x_tYes, x_not, x_and, x_or, x_if, x_b1, x_b2, x_is, x_idx, x_oNone, x_oSome, x_cut, x_aNil, x_aCons, x_tup, x_lst, x_call, x_callS,
    x_iSeq, x_iRng1, x_iRng2, x_bor, x_tBor, x_put1, List.map_cons, List.map_nil, List.cons_append, List.nil_append, List.length_cons, List.length_nil, Nat.zero_add, Nat.reduceAdd, Nat.reduceSub, List.reduceReplicate, start,
    List.getElem?_cons_zero, List.getElem?_cons_succ, List.set_cons_zero, List.set_cons_succ, bnd_ret, bnd_assoc, bnd_grd, b1_if, bnd_ite, small, Nat.reduceLeDiff, grd_true, o_add, o_sub, o_neg, o_eq, o_ne, o_lt, o_le, o_gt, o_ge, o_eqS, o_neS,
    decide_eq_true_eq, reduceIte, decide_true, decide_false, Bool.not_true, Bool.not_false, Bool.false_eq_true, itemsOf, asInt, bi2, endOf, isTy,
    grd_tt, nx_int, nx_bool, nx_str, nx_none, nx_tup, nx_lst, x_isC, x_fld, x_in, x_count, x_lstR, x_tupR, x_raise, x_star, bnd_thr, noX_ret, fld_x, exn_d, eSetO, Out.clear, List.zip_cons_cons, List.zip_nil_left, List.zip_nil_right, s_asg, s_par, s_own, s_parO, s_put, s_expr, s_ret, s_skip, s_seq, s_rel, x_asg, x_par, x_own, x_parO, x_put, x_expr, x_ret, x_retN, x_skip, x_rel, x_app, x_setI, x_sIf, x_for, x_brk, x_cnt, T, s_if, tup0, tup1, tup2, law_is_int_0 hp, law_is_int_0 hl]
  have b0 : bi1 B1.int (PyData.bool true) = ret (.int 1) := rfl
  have tb : ∀ b : Bool, tru (.bool b) = ret b := fun _ => rfl
  have nd : (!decide (Str.ofString "resize" = Str.ofString "put")) = true := by decide
  have nd2 : (!decide (Str.ofString "resize" = Str.ofString "cut")) = true := by decide
  simp only [nd, nd2, b0, bnd_ret, o_sub, law_is_int_0 hp, law_is_int_0 hl, tb, evE, if_true]
  cases h1 : intIn 0 (ns.length - 1) p with
  | false => rfl
  | true =>
    simp only [Bool.not_true, Bool.false_eq_true, if_false, if_true]
    cases h3 : intIn 1 60 l with
    | false => rfl
    | true =>
      simp only [Bool.not_true, Bool.false_eq_true, if_false, if_true]
      obtain ⟨i, rfl, i0, i1⟩ := intIn_of h1
      obtain ⟨x, rfl, x0, x1⟩ := intIn_of h3
      rw [if_neg (by decide), if_neg (by decide)]
      have ct : opCut (PyData.tuple [PyData.str (Str.ofString "resize"), .int i, .int x]) (some 2) none = ret (.tuple [.int x]) := rfl
      have ad : ∀ a b : Int, opBin Op.add (.int a) (.int b) = ret (.int (a + b)) := fun _ _ => rfl
      have at_ : ∀ (xs ys : List D), xs.length + ys.length ≤ 1000000 → opBin Op.add (.tuple xs) (.tuple ys) = ret (.tuple (xs ++ ys)) := fun xs ys h => grd_pos h _
      have e1 : (i + 1).toNat = i.toNat + 1 := by omega
      have hi : i.toNat < ns.length := by omega
      simp only [bnd_ret, cut_uptoI i0, ct, ad, cut_fromI (show 0 ≤ i + 1 by omega) (show i + 1 ≤ ns.length by omega)]
      rw [at_ _ _ (by simp; omega), bnd_ret, at_ _ _ (by simp; omega), bnd_ret]
      simp [setI, T, e1, List.set_eq_take_append_cons_drop, hi]
end
end DL
end
section
namespace DL
open PySem
theorem evE_len {ns r : List Int} {e : Ed} (h : evE ns e = .inr r) : r.length ≤ ns.length + 1 := by
  cases e with
  | put p l =>
    simp only [evE] at h
    split at h
    · rename_i h1
      split at h
      · rename_i h3
        split at h
        · cases h
        · obtain ⟨i, rfl, i0, i1⟩ := intIn_of h1
          obtain ⟨x, rfl, _, _⟩ := intIn_of h3
          cases h
          simp [insI]
          omega
      · cases h
    · cases h
  | cut p =>
    simp only [evE] at h
    split at h
    · rename_i h1
      split at h
      · cases h
      · obtain ⟨i, rfl, i0, i1⟩ := intIn_of h1
        cases h
        simp [takI]
        omega
    · cases h
  | resize p l =>
    simp only [evE] at h
    split at h
    · rename_i h1
      split at h
      · rename_i h3
        obtain ⟨i, rfl, i0, i1⟩ := intIn_of h1
        obtain ⟨x, rfl, _, _⟩ := intIn_of h3
        cases h
        simp [setI]
      · cases h
    · cases h
  | turn => cases h; simp
section
variable {c : Sx} {mo s d : Nat} {s1 dn : List D} {ns : List Int}
theorem due_of {e : Ed} {nm : Str} {xs : List D} (he : e.d = .str nm :: xs) (hn : nm ≠ "turn") (M : Mdl c mo s d false (s1 ++ [T ns]) dn) (h2 : ns.length ≤ 24)
    (mid : dueM [.val (rD mo), .val (.tuple e.d), .val (T ns), .val (.str nm), .val (.int (ns.length : Int)), .val (T ns.reverse), .unk, .unk] = match evE ns e with
      | .inl x => ret (.rt (.list [.str x.cls, fldX x]))
      | .inr r => ret (.nx (.val (rD mo) :: .val (.tuple e.d) :: .val (T ns) :: .val (.str nm) :: .val (.int (ns.length : Int)) :: .val (T r) :: (match e with | .put p _ => .val p | .cut p => .val p | .resize p _ => .val p | .turn => .unk) :: [.unk]))) :
    w__law_due_9 [rD mo, .tuple e.d] c = ret (dueR (evE ns e)) c := by
  let E1 : Env := [.val (rD mo), .val (.tuple e.d), .val (T ns), .unk, .unk, .unk, .unk, .unk]
  let E2 : Env := [.val (rD mo), .val (.tuple e.d), .val (T ns), .val (.str nm), .val (.int (ns.length : Int)), .val (T ns.reverse), .unk, .unk]
  have v0 : eV2 opIdx (eVar 0) (eCon (.int 0)) (start 8 ([rD mo, .tuple e.d].map Ent.val)) c = ret (rD s) c := at_V2 (at_var rfl) rfl M.m_ rfl rfl
  have v2 : eV2 opIdx (eV2 opIdx (eVar 0) (eCon (.int 0))) (eNeg (eCon (.int 1))) (start 8 ([rD mo, .tuple e.d].map Ent.val)) c = ret (T ns) c := at_V2 v0 rfl M.s_ (idx_lastL s1 _) (flat_T ns)
  have a1 := at_asg (i := 2) v2
  have t1 : eTup (aCons (eIdx (eVar 1) (eCon (.int 0))) (aCons (eB1 .len (eVar 2)) (aCons (eRev (eVar 2)) (aNil)))) E1 c = ret (.tuple [.str nm, .int (ns.length : Int), T ns.reverse]) c := by
    refine at_tup (at_aCons (at_idx (at_var rfl) rfl (by rw [he]; exact tup0 _ _)) (at_aCons (at_b1 (at_var rfl) ?_) (at_aCons ?_ at_aNil))) (by simp [small])
    · show ret (PyData.int ((ns.map PyData.int).length : Int)) = _
      rw [List.length_map]
    · unfold eRev
      rw [at_bnd (at_var (d := T ns) rfl)]
      show ret (PyData.tuple (ns.map PyData.int).reverse) c = _
      unfold T
      rw [List.map_reverse]
  have p1 : sPut (.tp [3, 4, 5]) (eTup (aCons (eIdx (eVar 1) (eCon (.int 0))) (aCons (eB1 .len (eVar 2)) (aCons (eRev (eVar 2)) (aNil))))) E1 c = ret (.nx E2) c := by
    unfold sPut
    rw [at_bnd t1]
    rfl
  have n1 : tBool (eCmp .ne (eVar 3) (eCon (.str "turn"))) E2 c = ret true c := at_tBool (at_cmp (b := true) (at_var rfl) rfl ((o_neS _ _).trans (by rw [decide_eq_false hn]; rfl)))
  have mm : sIf (tBool (eCmp .ne (eVar 3) (eCon (.str "turn")))) dueM sSkip E2 c = dueM E2 c := (at_if n1).trans rfl
  have mid' := congrFun mid c
  cases q : evE ns e with
  | inl x =>
    rw [q] at mid'
    exact at_fn (o := .rt (.list [.str x.cls, fldX x])) rfl ((at_seq a1).trans ((at_seq p1).trans (at_seqR (mm.trans mid')))) rfl
  | inr r =>
    rw [q] at mid'
    exact at_fn rfl ((at_seq a1).trans ((at_seq p1).trans ((at_seq (mm.trans mid')).trans (due_end M rfl rfl rfl (by have := evE_len q; omega))))) rfl
theorem due_9 {e : Ed} (M : Mdl c mo s d false (s1 ++ [T ns]) dn) (h0 : 1 ≤ ns.length) (h2 : ns.length ≤ 24) (hp : e.plain) : w__law_due_9 [rD mo, .tuple e.d] c = ret (dueR (evE ns e)) c := by
  cases e with
  | put p l => exact due_of rfl (by decide) M h2 (due_put h2 hp.1 hp.2)
  | cut p => exact due_of rfl (by decide) M h2 (due_cut h0 h2 hp)
  | resize p l => exact due_of rfl (by decide) M h2 (due_resize h0 h2 hp.1 hp.2)
  | turn => exact due_turn M h2
end
end DL
end
section
namespace DL
open PySem
def edD (e : Ed) : D := .tuple e.d
/-- an edit that went through -/
def EdG (e : Ed) : Prop := ∃ ns r, evE ns e = .inr r ∧ ns.length ≤ 24
theorem tame_nm : ∀ z ∈ (["put", "cut", "resize", "turn"] : List Str), z.cps.toList.all (fun c => decide (c < 16 ^ 8)) = true ∧ z.cps.size ≤ 6 := by decide +kernel
theorem tame_of (z : Str) (h : z ∈ (["put", "cut", "resize", "turn"] : List Str)) : Tame 6 0 (.str z) := tame_str (tame_nm z h).1 (tame_nm z h).2
theorem EdG.flat {e : Ed} (h : EdG e) : DL.flat (edD e) = true := by
  obtain ⟨ns, r, h, _⟩ := h
  exact (evE_flat h).1
theorem EdG.plain {e : Ed} (h : EdG e) : e.plain := by
  obtain ⟨ns, r, h, _⟩ := h
  exact (evE_flat h).2
theorem EdG.tame {e : Ed} (h : EdG e) : Tame 20 1 (edD e) := by
  obtain ⟨ns, r, h, hl⟩ := h
  have ti : ∀ {lo hi i : Int}, lo ≤ i → i ≤ hi → 0 ≤ lo → hi ≤ 1000 → Tame 0 0 (.int i) := fun {lo hi i} a b c d => tame_int (by
    have : i.natAbs ≤ 1000 := by omega
    exact Nat.lt_of_le_of_lt this (by decide))
  cases e with
  | put p l =>
    simp only [evE] at h
    split at h
    · rename_i h1
      split at h
      · rename_i h3
        obtain ⟨i, rfl, i0, i1⟩ := intIn_of h1
        obtain ⟨x, rfl, x0, x1⟩ := intIn_of h3
        exact (tame_tup (tame_cons (tame_of "put" (by decide)) (tame_cons (ti i0 i1 (by omega) (by omega)) (tame_cons (ti x0 x1 (by omega) (by omega)) tame_nil)))).mono (by decide) (by decide)
      · cases h
    · cases h
  | cut p =>
    simp only [evE] at h
    split at h
    · rename_i h1
      obtain ⟨i, rfl, i0, i1⟩ := intIn_of h1
      exact (tame_tup (tame_cons (tame_of "cut" (by decide)) (tame_cons (ti i0 i1 (by omega) (by omega)) tame_nil))).mono (by decide) (by decide)
    · cases h
  | resize p l =>
    simp only [evE] at h
    split at h
    · rename_i h1
      split at h
      · rename_i h3
        obtain ⟨i, rfl, i0, i1⟩ := intIn_of h1
        obtain ⟨x, rfl, x0, x1⟩ := intIn_of h3
        exact (tame_tup (tame_cons (tame_of "resize" (by decide)) (tame_cons (ti i0 i1 (by omega) (by omega)) (tame_cons (ti x0 x1 (by omega) (by omega)) tame_nil)))).mono (by decide) (by decide)
      · cases h
    · cases h
  | turn => exact (tame_tup (tame_cons (tame_of "turn" (by decide)) tame_nil)).mono (by decide) (by decide)
theorem evE_row {ns r : List Int} {e : Ed} (hr : RowN ns) (h : evE ns e = .inr r) : RowN r := by
  have h0 := hr.one
  have h2 := hr.most
  cases e with
  | put p l =>
    simp only [evE] at h
    split at h
    · rename_i h1
      split at h
      · rename_i h3
        split at h
        · cases h
        · obtain ⟨i, rfl, i0, i1⟩ := intIn_of h1
          obtain ⟨x, rfl, x0, x1⟩ := intIn_of h3
          cases h
          refine ⟨by simp [insI]; omega, by simp [insI]; omega, fun y hy => ?_⟩
          simp only [insI, List.mem_append, List.mem_cons] at hy
          rcases hy with hy | hy | hy
          · exact hr.words y (List.mem_of_mem_take hy)
          · rw [hy]; exact ⟨x0, x1⟩
          · exact hr.words y (List.mem_of_mem_drop hy)
      · cases h
    · cases h
  | cut p =>
    simp only [evE] at h
    split at h
    · rename_i h1
      split at h
      · cases h
      · obtain ⟨i, rfl, i0, i1⟩ := intIn_of h1
        cases h
        refine ⟨by simp [takI]; omega, by simp [takI]; omega, fun y hy => ?_⟩
        simp only [takI, List.mem_append] at hy
        rcases hy with hy | hy
        · exact hr.words y (List.mem_of_mem_take hy)
        · exact hr.words y (List.mem_of_mem_drop hy)
    · cases h
  | resize p l =>
    simp only [evE] at h
    split at h
    · rename_i h1
      split at h
      · rename_i h3
        obtain ⟨i, rfl, i0, i1⟩ := intIn_of h1
        obtain ⟨x, rfl, x0, x1⟩ := intIn_of h3
        cases h
        refine ⟨by simp [setI]; omega, by simp [setI]; omega, fun y hy => ?_⟩
        rcases List.mem_or_eq_of_mem_set hy with hy | hy
        · exact hr.words y hy
        · rw [hy]; exact ⟨x0, x1⟩
      · cases h
    · cases h
  | turn =>
    cases h
    exact ⟨by simp; omega, by simp; omega, fun y hy => hr.words y (List.mem_reverse.mp hy)⟩
theorem flat_each : ∀ {l : List D}, (∀ d ∈ l, flat d = true) → flatAll l = true
  | [], _ => rfl
  | d :: l, h => by
    simp only [flatAll, Bool.and_eq_true]
    exact ⟨h d (.head _), flat_each fun x hx => h x (.tail _ hx)⟩
/-- what has been done to a page, so far: the rows before, the edits -/
structure Hist (ns : List Int) (rs : List (List Int)) (es : List Ed) : Prop where
  ln : rs.length = es.length
  le : es.length ≤ 60
  old : ∀ r ∈ rs, RowN r
  now : RowN ns
  eds : ∀ e ∈ es, EdG e
def stD (ns : List Int) (rs : List (List Int)) : List D := rs.map T ++ [T ns]
def dnD (es : List Ed) : List D := es.map edD
section
variable {ns : List Int} {rs : List (List Int)} {es : List Ed}
theorem Hist.fs (h : Hist ns rs es) : flatAll (stD ns rs) = true := flat_each fun d hd => by
  unfold stD at hd
  rcases List.mem_append.mp hd with hd | hd
  · obtain ⟨r, _, rfl⟩ := List.mem_map.mp hd
    exact flat_T r
  · rw [List.mem_singleton.mp hd]; exact flat_T ns
theorem Hist.fd (h : Hist ns rs es) : flatAll (dnD es) = true := flat_each fun d hd => by
  obtain ⟨e, he, rfl⟩ := List.mem_map.mp hd
  exact (h.eds e he).flat
theorem Hist.tame (h : Hist ns rs es) : Tame 1300 2 (.tuple (dnD es)) := by
  have h1 := tame_all (n := 20) (k := 1) (dnD es) fun d hd => by
    obtain ⟨e, he, rfl⟩ := List.mem_map.mp hd
    exact (h.eds e he).tame
  have h2 := tame_tup h1
  have h3 : (dnD es).length ≤ 60 := by rw [dnD, List.length_map]; exact h.le
  exact h2.mono (by omega) (by omega)
end
theorem pg_text : ∀ n ≤ 24, ∀ d ≤ 60, (pgText n d).cps.toList.all (fun c => decide (c < 16 ^ 8)) = true ∧ (pgText n d).cps.size ≤ 30 := by decide +kernel
def pgSee (ns : List Int) (es : List Ed) : D := .list [T ns, .int (ns.length : Int), .int (es.length : Int), .tuple (dnD es), .int (es.length : Int), .str (pgText ns.length es.length)]
theorem Hist.seen {ns : List Int} {rs : List (List Int)} {es : List Ed} (h : Hist ns rs es) : Tame 1500 3 (pgSee ns es) := by
  have hl := h.le
  have hm := h.now.most
  have ti : ∀ n : Nat, n ≤ 1000 → Tame 0 0 (.int (n : Int)) := fun n hn => tame_int (by
    have : ((n : Int)).natAbs = n := rfl
    rw [this]
    exact Nat.lt_of_le_of_lt hn (by decide))
  have tx := pg_text ns.length hm es.length hl
  exact (tame_lst (tame_cons h.now.tame (tame_cons (ti ns.length (by omega)) (tame_cons (ti es.length (by omega)) (tame_cons h.tame (tame_cons (ti es.length (by omega)) (tame_cons (tame_str tx.1 tx.2) tame_nil))))))).mono (by decide) (by decide)
/-- the page at a, its model at mo -/
structure Inv (c : Sx) (a mo s d : Nat) (ns : List Int) (rs : List (List Int)) (es : List Ed) (w : D) : Prop where
  pg : c.mu a = some (.ins "Page" (pgF (T ns) (stD ns rs) (dnD es) w))
  md : Mdl c mo s d false (stD ns rs) (dnD es)
  hs : Hist ns rs es
section
variable {c : Sx} {a mo s d : Nat} {ns : List Int} {rs : List (List Int)} {es : List Ed} {w : D}
theorem Inv.mu {c' : Sx} (h : Inv c a mo s d ns rs es w) (e : c'.mu = c.mu) : Inv c' a mo s d ns rs es w :=
  ⟨by rw [e]; exact h.pg, ⟨by rw [e]; exact h.md.m_, by rw [e]; exact h.md.s_, by rw [e]; exact h.md.d_, h.md.sd⟩, h.hs⟩
theorem stD_len : (stD ns rs).length = rs.length + 1 := by simp [stD]
theorem dnD_len : (dnD es).length = es.length := by simp [dnD]
theorem Inv.as (h : Inv c a mo s d ns rs es w) : a ≠ s := fun e => by
  have h1 := h.pg; rw [e, h.md.s_] at h1; cases h1
theorem Inv.ad (h : Inv c a mo s d ns rs es w) : a ≠ d := fun e => by
  have h1 := h.pg; rw [e, h.md.d_] at h1; cases h1
theorem Inv.am (h : Inv c a mo s d ns rs es w) : a ≠ mo := fun e => by
  have h1 := h.pg; rw [e, h.md.m_] at h1; cases h1
theorem Inv.ms (h : Inv c a mo s d ns rs es w) : mo ≠ s := fun e => by
  have h1 := h.md.m_
  rw [e, h.md.s_] at h1
  cases rs with
  | nil => cases h1
  | cons r rs => cases h1
theorem Inv.md_ (h : Inv c a mo s d ns rs es w) : mo ≠ d := fun e => by
  have h1 := h.md.m_
  rw [e, h.md.d_] at h1
  cases es with
  | nil => cases h1
  | cons r rs => cases h1
/-- both look alike -/
theorem Inv.seen (h : Inv c a mo s d ns rs es w) : w__law_seen_0 [rD a] c = ret (.str (PyData.shown (pgSee ns es))) c := by
  have hm := h.hs.now.most
  have hl := h.hs.le
  have e1 : (ns.map PyData.int).length = ns.length := List.length_map ..
  have := law_seen (rs := ns.map PyData.int) h.pg (by omega) (by rw [dnD_len]; omega) (by rw [dnD_len, e1]; exact h.hs.seen.show (by omega) (by omega))
  rw [dnD_len, e1] at this
  exact this
theorem Inv.dseen (h : Inv c a mo s d ns rs es w) : w__law_due_seen_0 [rD mo] c = ret (.str (PyData.shown (pgSee ns es))) c := by
  have hm := h.hs.now.most
  have hl := h.hs.le
  have e1 : (ns.map PyData.int).length = ns.length := List.length_map ..
  have := law_due_seen (rs := ns.map PyData.int) (s1 := rs.map T) h.md (flat_T ns) h.hs.fd (by omega) (by rw [dnD_len]; omega) (by rw [dnD_len, e1]; exact h.hs.seen.show (by omega) (by omega))
  rw [dnD_len, e1] at this
  exact this
end
end DL
end
section
namespace DL
open PySem
section
variable {c c1 c2 : Sx} {E : Env} {a b : XE} {p : Nat} {ds : List D}
theorem at_cmpC {o : Cmp} {u v : XE} {x y : D} {b : Bool} (h1 : u E c = ret x c1) (h2 : v E c1 = ret y c2) (h : opCmp o x y = ret b) : eCmp o u v E c = ret (.bool b) c2 := by
  unfold eCmp
  rw [at_bnd h1, at_bnd h2, h]
  rfl
theorem at_appC {v : XE} {y : D} (h : a E c = ret (rD p) c) (hl : c.mu p = some (.lst ds)) (hv : v E c = ret y c) (fy : flat y = true) (hs : ds.length ≤ 1000) : sAppC a v E c = ret (.nx E) (c.set p (.lst (ds ++ [y]))) := by
  unfold sAppC
  rw [at_bnd h, at_bnd (at_getL hl), at_bnd hv, at_bnd (at_getL hl), at_grd ⟨fy, by unfold small; show ds.length ≤ 1000000; omega⟩]
  rfl
theorem at_cutC {lo hi : XO} {l h : Option Int} (he : a E c = ret (rD p) c) (hl : lo E c = ret l c) (hh : hi E c = ret h c) (hd : c.mu p = some (.lst ds)) : eCutC a lo hi E c = ret (.list (cut ds l h)) c := by
  unfold eCutC
  rw [at_bnd he, at_bnd hl, at_bnd hh, at_bnd (at_getL hd)]
theorem at_put {tg : Tg} {e : XE} {x : D} {E1 : Env} (h : e E c = ret x c1) (ht : tg.put x E = some E1) : sPut tg e E c = ret (.nx E1) c1 := by
  unfold sPut
  rw [at_bnd h]
  show (match tg.put x E with | some E' => ret (.nx E') | none => stuck : W Out) c1 = _
  rw [ht]
end
theorem neS_same (x : Str) : opCmp .ne (.str x) (.str x) = ret false := (o_neS x x).trans (by rw [decide_eq_true rfl]; rfl)
theorem eqS_same (x : Str) : opCmp .eq (.str x) (.str x) = ret true := (o_eqS x x).trans (by rw [decide_eq_true rfl])
theorem Ed.nm (e : Ed) : ∃ (z : Str) (xs : List D), e.d = .str z :: xs ∧ z ≠ "undo" := by
  cases e with
  | put p l => exact ⟨"put", _, rfl, by decide⟩
  | cut p => exact ⟨"cut", _, rfl, by decide⟩
  | resize p l => exact ⟨"resize", _, rfl, by decide⟩
  | turn => exact ⟨"turn", _, rfl, by decide⟩
theorem EdX.row {x : Exn} (h : EdX x) : x.cls ≠ "row" := by
  cases h with
  | many => show ("TooMany" : Str) ≠ "row"; decide
  | last => show ("LastWord" : Str) ≠ "row"; decide
  | len d => show ("BadLength" : Str) ≠ "row"; decide
  | place d => show ("NoPlace" : Str) ≠ "row"; decide
  | edits => show ("TooManyEdits" : Str) ≠ "row"; decide
  | none => show ("NothingToUndo" : Str) ≠ "row"; decide
def wentT : XS := sSeq (sIf (tBool (eCmp .ne (eB1 .repr (eCall w__law_did_0 (aCons (eVar 0) (aCons (eVar 2) (aNil))))) (eB1 .repr (eVar 5)))) (sRet (eCon (.bool false))) (sSkip))
    (sRet (eCmp .eq (eCall w__law_seen_0 (aCons (eVar 0) (aNil))) (eCall w__law_due_seen_0 (aCons (eVar 1) (aNil)))))
section
variable {c c1 : Sx} {a mo s d : Nat} {ns : List Int} {rs : List (List Int)} {es : List Ed} {w : D}
/-- the end of w__law_went_0 -/
theorem went_tail {ed due x3 x4 : D} (hd : w__law_did_0 [rD a, ed] c = ret due c1) (ok : showOk due) (I : Inv c1 a mo s d ns rs es w) :
    wentT [.val (rD a), .val (rD mo), .val ed, .val x3, .val x4, .val due] c = ret (.rt (.bool true)) c1 := by
  have e1 : eB1 .repr (eCall w__law_did_0 (aCons (eVar 0) (aCons (eVar 2) (aNil)))) [.val (rD a), .val (rD mo), .val ed, .val x3, .val x4, .val due] c = ret (.str (PyData.shown due)) c1 :=
    at_b1 ((at_call (at_aCons (at_var rfl) (at_aCons (at_var rfl) at_aNil))).trans hd) (grd_pos ok _)
  have e2 : eB1 .repr (eVar 5) [.val (rD a), .val (rD mo), .val ed, .val x3, .val x4, .val due] c1 = ret (.str (PyData.shown due)) c1 := at_b1 (at_var rfl) (grd_pos ok _)
  have t1 := at_if (s := sRet (eCon (.bool false))) (u := sSkip) (at_tBool (at_cmpC (b := false) e1 e2 (neS_same _)))
  rw [if_neg (by decide)] at t1
  have e3 : eCall w__law_seen_0 (aCons (eVar 0) (aNil)) [.val (rD a), .val (rD mo), .val ed, .val x3, .val x4, .val due] c1 = _ := (at_call (at_aCons (at_var rfl) at_aNil)).trans I.seen
  have e4 : eCall w__law_due_seen_0 (aCons (eVar 1) (aNil)) [.val (rD a), .val (rD mo), .val ed, .val x3, .val x4, .val due] c1 = _ := (at_call (at_aCons (at_var rfl) at_aNil)).trans I.dseen
  exact (at_seq t1).trans (at_ret (at_cmp (b := true) e3 e4 (eqS_same _)))
def wentA : XS := (sSeq (sAsg 5 (eIf (tBool (eCmp .lt (eV1 (bi1 .len) (eVar 4)) (eCon (.int 60)))) (eCall w__law_due_9 (aCons (eVar 1) (aCons (eVar 2) (aNil)))) (eLst (aCons (eCon (.str "TooManyEdits")) (aCons (eCon .none) (aNil))))))
    (sIf (tBool (eCmp .eq (eIdx (eVar 5) (eCon (.int 0))) (eCon (.str "row")))) (sSeq (sAppC (eVar 3) (eIdx (eVar 5) (eCon (.int 1))))
    (sSeq (sAppC (eVar 4) (eVar 2))
    (sAsg 5 (eLst (aCons (eCon (.str "ok")) (aCons (eV1 (bi1 .len) (eVar 4)) (aNil))))))) (sSkip)))
def wentU : XS := (sIf (tBool (eV2 (cmpD .ne) (eVar 4) (eLst (aNil)))) (sSeq (sPopC (eVar 3))
    (sSeq (sPopC (eVar 4))
    (sAsg 5 (eLst (aCons (eCon (.str "ok")) (aCons (eV1 (bi1 .len) (eVar 4)) (aNil))))))) (sSkip))
theorem went_is : w__law_went_0 = fn 3 6 (sSeq (sPut (.tp [3, 4]) (eCutC (eVar 1) (oNone) (oSome (eCon (.int 2)))))
    (sSeq (sAsg 5 (eLst (aCons (eCon (.str "NothingToUndo")) (aCons (eCon .none) (aNil)))))
    (sSeq (sIf (tBool (eCmp .ne (eIdx (eVar 2) (eCon (.int 0))) (eCon (.str "undo")))) wentA wentU) wentT))) := id rfl
def wE (a mo s d : Nat) (ed due : D) : Env := [.val (rD a), .val (rD mo), .val ed, .val (rD s), .val (rD d), .val due]
/-- the beginning and the middle, put together -/
theorem went_of {ed due : D} {z : Str} {xs : List D} {b : Bool} {cm : Sx} (hz : ed = .tuple (.str z :: xs)) (hb : (!decide (z = "undo")) = b) (I : Inv c a mo s d ns rs es w)
    (hm : (if b = true then wentA else wentU) (wE a mo s d ed (.list [.str "NothingToUndo", .none])) c = ret (.nx (wE a mo s d ed due)) cm)
    (ht : wentT (wE a mo s d ed due) cm = ret (.rt (.bool true)) c1) : w__law_went_0 [rD a, rD mo, ed] c = ret (.bool true) c1 := by
  rw [went_is]
  subst hz
  have p1 : sPut (.tp [3, 4]) (eCutC (eVar 1) (oNone) (oSome (eCon (.int 2)))) (start 6 ([rD a, rD mo, .tuple (.str z :: xs)].map Ent.val)) c = ret (.nx [.val (rD a), .val (rD mo), .val (.tuple (.str z :: xs)), .val (rD s), .val (rD d), .unk]) c :=
    at_put (at_cutC (l := none) (h := some 2) (at_var rfl) rfl rfl I.md.m_) rfl
  have p2 : sAsg 5 (eLst (aCons (eCon (.str "NothingToUndo")) (aCons (eCon .none) (aNil)))) [.val (rD a), .val (rD mo), .val (.tuple (.str z :: xs)), .val (rD s), .val (rD d), .unk] c = ret (.nx (wE a mo s d (.tuple (.str z :: xs)) (.list [.str "NothingToUndo", .none]))) c :=
    at_asg (at_lst (at_aCons rfl (at_aCons rfl at_aNil)) (by simp [small]))
  have t1 : tBool (eCmp .ne (eIdx (eVar 2) (eCon (.int 0))) (eCon (.str "undo"))) (wE a mo s d (.tuple (.str z :: xs)) (.list [.str "NothingToUndo", .none])) c = ret b c :=
    at_tBool (at_cmp (at_idx (at_var rfl) rfl (tup0 _ _)) rfl ((o_neS _ _).trans (by rw [hb])))
  have p3 : sIf (tBool (eCmp .ne (eIdx (eVar 2) (eCon (.int 0))) (eCon (.str "undo")))) wentA wentU (wE a mo s d (.tuple (.str z :: xs)) (.list [.str "NothingToUndo", .none])) c = ret (.nx (wE a mo s d (.tuple (.str z :: xs)) due)) cm := by
    refine (at_if t1).trans ?_
    cases b <;> exact hm
  exact at_fn rfl ((at_seq p1).trans ((at_seq p2).trans ((at_seq p3).trans ht))) rfl
theorem went_e {e : Ed} (I : Inv c a mo s d ns rs es w) (he : e.plain) (hx : ∀ x, evE ns e = .inl x → showOk (.list [.str x.cls, fldX x])) :
    ∃ (c1 : Sx) (ns' : List Int) (rs' : List (List Int)) (es' : List Ed), w__law_went_0 [rD a, rD mo, edD e] c = ret (.bool true) c1 ∧ c1.n = c.n ∧ Inv c1 a mo s d ns' rs' es' w := by
  obtain ⟨z, xs, hz, hu⟩ := e.nm
  have hz' : edD e = .tuple (.str z :: xs) := congrArg PyData.tuple hz
  have hb : (!decide (z = "undo")) = true := by rw [decide_eq_false hu]; rfl
  have hl := I.hs.le
  have hln := I.hs.ln
  have l0 : eV1 (bi1 .len) (eVar 4) (wE a mo s d (edD e) (.list [.str "NothingToUndo", .none])) c = ret (.int ((dnD es).length : Int)) c := at_V1 (at_var rfl) I.md.d_ rfl rfl
  rw [dnD_len] at l0
  have t0 : tBool (eCmp .lt (eV1 (bi1 .len) (eVar 4)) (eCon (.int 60))) (wE a mo s d (edD e) (.list [.str "NothingToUndo", .none])) c = ret (decide ((es.length : Int) < 60)) c := at_tBool (at_cmp l0 rfl (o_lt _ _))
  have ap := apply_0 (e := e) I.pg I.hs.now.most he (by rw [stD_len]; omega) (by rw [dnD_len]; omega) I.hs.fs I.hs.fd
  unfold pgR at ap
  rw [dnD_len] at ap
  have noRow : ∀ {q : Str} {y : D}, q ≠ "row" → sIf (tBool (eCmp .eq (eIdx (eVar 5) (eCon (.int 0))) (eCon (.str "row")))) (sSeq (sAppC (eVar 3) (eIdx (eVar 5) (eCon (.int 1))))
      (sSeq (sAppC (eVar 4) (eVar 2))
      (sAsg 5 (eLst (aCons (eCon (.str "ok")) (aCons (eV1 (bi1 .len) (eVar 4)) (aNil))))))) (sSkip) (wE a mo s d (edD e) (.list [.str q, y])) c = ret (.nx (wE a mo s d (edD e) (.list [.str q, y]))) c := fun {q y} hq =>
    (at_if (at_tBool (at_cmp (b := false) (at_idx (at_var rfl) rfl (ix0 _ _)) rfl ((o_eqS _ _).trans (by rw [decide_eq_false hq]))))).trans rfl
  by_cases h60 : es.length = 60
  · rw [if_pos h60] at ap
    refine ⟨c, ns, rs, es, went_of hz' hb I (due := .list [.str "TooManyEdits", .none]) (cm := c) ?_ (went_tail (did_err .edits ap) ?_ I), rfl, I⟩
    · rw [if_pos rfl]
      refine (at_seq (at_asg ((at_eIf t0).trans ?_))).trans (noRow (q := "TooManyEdits") (y := .none) (by decide))
      rw [if_neg (by simp; omega)]
      exact at_lst (at_aCons rfl (at_aCons rfl at_aNil)) (by simp [small])
    · exact ⟨by decide +kernel, by decide +kernel, by decide +kernel, by decide +kernel⟩
  · rw [if_neg h60] at ap
    have due := due_9 (e := e) (s1 := rs.map T) (dn := dnD es) I.md I.hs.now.one I.hs.now.most he
    have dueE : eIf (tBool (eCmp .lt (eV1 (bi1 .len) (eVar 4)) (eCon (.int 60)))) (eCall w__law_due_9 (aCons (eVar 1) (aCons (eVar 2) (aNil)))) (eLst (aCons (eCon (.str "TooManyEdits")) (aCons (eCon .none) (aNil)))) (wE a mo s d (edD e) (.list [.str "NothingToUndo", .none])) c = ret (dueR (evE ns e)) c := by
      refine (at_eIf t0).trans ?_
      rw [if_pos (by simp; omega)]
      exact (at_call (at_aCons (at_var rfl) (at_aCons (at_var rfl) at_aNil))).trans due
    cases q : evE ns e with
    | inl x =>
      rw [q] at ap dueE
      have ex := evE_EdX q
      refine ⟨c, ns, rs, es, went_of hz' hb I (due := .list [.str x.cls, fldX x]) (cm := c) ?_ (went_tail (did_err ex ap) (hx x q) I), rfl, I⟩
      rw [if_pos rfl]
      exact (at_seq (at_asg dueE)).trans (noRow ex.row)
    | inr r =>
      rw [q] at ap dueE
      have ms := I.ms
      have md := I.md_
      have as := I.as
      have ad := I.ad
      have am := I.am
      have sd := I.md.sd
      have fT := flat_T r
      have fe : flat (edD e) = true := (evE_flat q).1
      have hE : Hist r (rs ++ [ns]) (es ++ [e]) := by
        refine ⟨by simp [hln], by simp; omega, fun y hy => ?_, evE_row I.hs.now q, fun y hy => ?_⟩
        · rcases List.mem_append.mp hy with hy | hy
          · exact I.hs.old y hy
          · rw [List.mem_singleton.mp hy]; exact I.hs.now
        · rcases List.mem_append.mp hy with hy | hy
          · exact I.hs.eds y hy
          · rw [List.mem_singleton.mp hy]; exact ⟨ns, r, q, I.hs.now.most⟩
      have st' : stD r (rs ++ [ns]) = stD ns rs ++ [T r] := by simp [stD]
      have dn' : dnD (es ++ [e]) = dnD es ++ [edD e] := by simp [dnD]
      let cs : Sx := c.set s (.lst (stD ns rs ++ [T r]))
      let cm : Sx := cs.set d (.lst (dnD es ++ [edD e]))
      let c1 : Sx := cm.set a (.ins "Page" (pgF (T r) (stD ns rs ++ [T r]) (dnD es ++ [edD e]) w))
      have gd : cs.mu d = some (.lst (dnD es)) := (set_ne (fun h => sd h.symm)).trans I.md.d_
      have ga : cm.mu a = some (.ins "Page" (pgF (T ns) (stD ns rs) (dnD es) w)) := ((set_ne ad).trans (set_ne as)).trans I.pg
      have gm : c1.mu mo = some (.lst [rD s, rD d, .bool false]) := (((set_ne (fun h => am h.symm)).trans (set_ne md)).trans (set_ne ms)).trans I.md.m_
      have gs : c1.mu s = some (.lst (stD ns rs ++ [T r])) := ((set_ne (fun h => as h.symm)).trans (set_ne sd)).trans set_mu
      have gdd : c1.mu d = some (.lst (dnD es ++ [edD e])) := (set_ne (fun h => ad h.symm)).trans set_mu
      have I1 : Inv c1 a mo s d r (rs ++ [ns]) (es ++ [e]) w := by
        refine ⟨?_, ⟨gm, ?_, ?_, sd⟩, hE⟩
        · rw [st', dn']; exact set_mu
        · rw [st']; exact gs
        · rw [dn']; exact gdd
      have ap1 := apply_0 (c := cm) (e := e) ga I.hs.now.most he (by rw [stD_len]; omega) (by rw [dnD_len]; omega) I.hs.fs I.hs.fd
      unfold pgR at ap1
      rw [dnD_len, if_neg h60, q] at ap1
      refine ⟨c1, r, rs ++ [ns], es ++ [e], went_of hz' hb I (due := .list [.str "ok", .int ((es.length + 1 : Nat) : Int)]) (cm := cm) ?_ (went_tail (did_ok ap1) ?_ I1), rfl, I1⟩
      · rw [if_pos rfl]
        refine (at_seq (at_asg dueE)).trans ((at_if (at_tBool (at_cmp (b := true) (at_idx (at_var rfl) rfl (ix0 _ _)) rfl ((o_eqS _ _).trans (by rw [decide_eq_true rfl]))))).trans ?_)
        rw [if_pos rfl]
        refine (at_seq (at_appC (p := s) (y := T r) (at_var rfl) I.md.s_ (at_idx (at_var rfl) rfl (ix1 _ _ _)) fT (by rw [stD_len]; omega))).trans ?_
        refine (at_seq (at_appC (p := d) (y := edD e) (c := cs) (at_var rfl) gd (at_var rfl) fe (by rw [dnD_len]; omega))).trans ?_
        have lc : eV1 (bi1 .len) (eVar 4) (wE a mo s d (edD e) (.list [.str "row", T r])) cm = ret (.int ((dnD es ++ [edD e]).length : Int)) cm := at_V1 (at_var rfl) set_mu rfl rfl
        rw [List.length_append, dnD_len] at lc
        exact at_asg (at_lst (at_aCons rfl (at_aCons lc at_aNil)) (by simp [small]))
      · exact ((tame_lst (tame_cons (tame_str (x := "ok") (n := 2) (by decide +kernel) (by decide +kernel)) (tame_cons (tame_int (i := ((es.length + 1 : Nat) : Int)) (by
          show (((es.length + 1 : Nat) : Int)).natAbs < _
          have e9 : (((es.length + 1 : Nat) : Int)).natAbs = es.length + 1 := rfl
          rw [e9]
          exact Nat.lt_of_le_of_lt (show es.length + 1 ≤ 1000 by omega) (by decide))) tame_nil))).show (by decide) (by decide))
end
end DL
end
section
namespace DL
open PySem
/-- m goes well from where I holds, with at most n draws, and then Q holds -/
def OkS {α : Type} (m : W α) (n : Nat) (I : Sx → Prop) (Q : α → Sx → Prop) : Prop := ∀ (c : Sx) (P : α → Sx → Prop) (X : Exn → Sx → Prop), c.n + n < 2 ^ 40 → I c → (∀ a c', c'.n ≤ c.n + n → Q a c' → P a c') → m c P X
section
variable {α β : Type} {m : W α} {n n' k : Nat} {I J : Sx → Prop} {Q R : α → Sx → Prop}
theorem OkS.bnd (t : Nat) {f : α → W β} {S : β → Sx → Prop} (h : OkS m n I Q) (hn : n ≤ t) (hf : ∀ a, OkS (f a) (t - n) (Q a) S) : OkS (DL.bnd m f) t I S := fun c P X hc hI kk =>
  h c _ X (by omega) hI fun a c' hc' q => hf a c' P X (by omega) q fun b c'' h2 s => kk b c'' (by omega) s
theorem OkS.mono (h : OkS m n I Q) (hn : n ≤ n') (hq : ∀ a c, Q a c → R a c) : OkS m n' I R := fun c P X hc hI kk => h c P X (by omega) hI fun a c' h1 h2 => kk a c' (by omega) (hq a c' h2)
theorem OkS.le (h : OkS m n I Q) (hn : n ≤ n') : OkS m n' I Q := h.mono hn fun _ _ h => h
theorem OkS.imp (h : OkS m n I Q) (hq : ∀ a c, Q a c → R a c) : OkS m n I R := h.mono (Nat.le_refl _) hq
theorem OkS.pre (h : OkS m n I Q) (hi : ∀ c, J c → I c) : OkS m n J Q := fun c P X hc hJ kk => h c P X hc (hi c hJ) kk
theorem OkS.prop {p : Prop} (h : p → OkS m n I Q) : OkS m n (fun c => p ∧ I c) Q := fun c P X hc hI kk => h hI.1 c P X hc hI.2 kk
theorem OkS.ex {γ : Type} {I : γ → Sx → Prop} (h : ∀ x, OkS m n (I x) Q) : OkS m n (fun c => ∃ x, I x c) Q := fun c P X hc ⟨x, hI⟩ kk => h x c P X hc hI kk
theorem OkS.eq {m' : W α} (e : m = m') (h : OkS m' n I Q) : OkS m n I Q := by rw [e]; exact h
theorem OkS.ret {a : α} (h : ∀ c, I c → Q a c) : OkS (DL.ret a) n I Q := fun c P X _ hI k => k a c (by omega) (h c hI)
theorem OkS.at (h : ∀ c, I c → ∃ x c1, m c = DL.ret x c1 ∧ c1.n = c.n ∧ Q x c1) : OkS m n I Q := fun c P X hc hI kk => by
  obtain ⟨x, c1, e, hn, q⟩ := h c hI
  rw [e]
  exact kk x c1 (by omega) q
theorem OkS.ok {Q : α → Prop} (h : Ok m n Q) (hi : ∀ c c' : Sx, c'.mu = c.mu → I c → I c') : OkS m n I fun a c => Q a ∧ I c := fun c P X hc hI kk =>
  h c P X hc fun a c' h1 q => kk a c' h1.1 ⟨q, hi c c' h1.2 hI⟩
theorem OkS.run {P : α → Prop} {X : Exn → Sx → Prop} (h : OkS m n I Q) (hn : n < 2 ^ 40) (hI : I (.z 0)) (hq : ∀ a c, Q a c → P a) : m (.z 0) (fun a _ => P a) X := h (.z 0) _ X (by show 0 + n < _; omega) hI fun a c _ q => hq a c q
end
section
variable {n k : Nat} {I : Sx → Prop} {Q : Out → Sx → Prop} {E : Env}
theorem OkS.seq (t : Nat) {a b : XS} (J : Env → Sx → Prop) (h : OkS (a E) n I fun o c => match o with | .nx E' => J E' c | o => Q o c) (hn : n ≤ t) (hb : ∀ E', OkS (b E') (t - n) (J E') Q) : OkS (sSeq a b E) t I Q := by
  refine OkS.bnd t h hn fun o => ?_
  cases o with
  | nx E' => exact hb E'
  | rt d => exact OkS.ret fun c h => h
  | bk E' => exact OkS.ret fun c h => h
  | ct E' => exact OkS.ret fun c h => h
/-- one step, that only changes names -/
theorem OkS.step {a b : XS} {t : Nat} (E1 : Env) (h : ∀ c, I c → a E c = DL.ret (.nx E1) c) (hb : OkS (b E1) t I Q) : OkS (sSeq a b E) t I Q := fun c P X hc hI kk => by
  rw [at_seq (h c hI)]
  exact hb c P X hc hI kk
theorem OkS.asg {e : XE} {b : XS} {i t : Nat} {R : D → Sx → Prop} (h : OkS (e E) n I R) (hn : n ≤ t) (hb : ∀ d, OkS (b (E.set i (.val d))) (t - n) (R d) Q) : OkS (sSeq (sAsg i e) b E) t I Q := by
  rw [show sSeq (sAsg i e) b E = DL.bnd (e E) fun d => b (E.set i (.val d)) from s_asg i e b]
  exact OkS.bnd t h hn hb
/-- a walk over what is at hand -/
theorem OkS.forL {i : Nat} {s : XS} {b : Nat} (J : Nat → Env → Sx → Prop) : ∀ (ds : List D) (k : Nat) (E : Env),
    (∀ j d E, ds[j]? = some d → OkS (s (E.set i (.val d))) b (J (k + j) E) fun o c => match o with | .nx E' => J (k + j + 1) E' c | .ct E' => J (k + j + 1) E' c | .bk E' => Q (.nx E') c | .rt d => Q (.rt d) c) →
    (∀ E c, J (k + ds.length) E c → Q (.nx E) c) → OkS (DL.forL (.nm i) s ds E) (ds.length * b) (J k E) Q
  | [], k, E, _, hd => OkS.ret fun c h => hd E c h
  | d :: ds, k, E, hs, hd => by
    show OkS (DL.bnd (s (E.set i (.val d))) fun o => match o with
      | .nx E' => DL.forL (.nm i) s ds E' | .ct E' => DL.forL (.nm i) s ds E' | .bk E' => DL.ret (.nx E') | .rt d => DL.ret (.rt d)) _ _ _
    have rest : ∀ E', OkS (DL.forL (.nm i) s ds E') ((d :: ds).length * b - b) (J (k + 1) E') Q := fun E' => (OkS.forL J ds (k + 1) E'
      (fun j d E hj => by
        have e : k + 1 + j = k + (j + 1) := by omega
        rw [e]
        exact hs (j + 1) d E hj) fun E c hI => hd E c (by
        have e : k + 1 + ds.length = k + (d :: ds).length := by simp only [List.length_cons]; omega
        rw [← e]; exact hI)).le (by rw [List.length_cons, Nat.succ_mul]; omega)
    have h0 := hs 0 d E rfl
    refine OkS.bnd _ (n := b) h0 (by rw [List.length_cons, Nat.succ_mul]; omega) fun o => ?_
    cases o with
    | nx E' => exact rest E'
    | ct E' => exact rest E'
    | bk E' => exact OkS.ret fun c h => h
    | rt d => exact OkS.ret fun c h => h
theorem OkS.for {i t : Nat} {it : XA} {s : XS} {b N : Nat} {ds : List D → Prop} (J : Nat → Env → Sx → Prop) (hit : OkS (it E) n I fun xs c => ds xs ∧ xs.length ≤ N ∧ J 0 E c) (ht : n + N * b ≤ t)
    (hs : ∀ xs j d E, ds xs → xs[j]? = some d → OkS (s (E.set i (.val d))) b (J j E) fun o c => match o with | .nx E' => J (j + 1) E' c | .ct E' => J (j + 1) E' c | .bk E' => Q (.nx E') c | .rt d => Q (.rt d) c)
    (hd : ∀ xs E c, ds xs → J xs.length E c → Q (.nx E) c) : OkS (sFor it (.nm i) s E) t I Q := by
  refine OkS.bnd t hit (by omega) fun xs => ?_
  refine OkS.prop fun h1 => OkS.prop fun h2 => ?_
  have := OkS.forL (Q := Q) (i := i) (s := s) (b := b) J xs 0 E (fun j d E hj => by rw [Nat.zero_add]; exact hs xs j d E h1 hj) fun E c h => hd xs E c h1 (by rw [Nat.zero_add] at h; exact h)
  exact this.le (by have := Nat.mul_le_mul_right b h2; omega)
end
/-- an edit of odd parts -/
def Ed.odd : Ed → Prop
  | .put p l => Odd p ∧ Odd l
  | .cut p => Odd p
  | .resize p l => Odd p ∧ Odd l
  | .turn => True
theorem Ed.odd.plain {e : Ed} (h : e.odd) : e.plain := by
  cases e with
  | put p l => exact ⟨h.1.nx, h.2.nx⟩
  | cut p => exact Odd.nx h
  | resize p l => exact ⟨h.1.nx, h.2.nx⟩
  | turn => exact True.intro
theorem Ed.odd.tame {e : Ed} (h : e.odd) : Tame 40 3 (edD e) := by
  cases e with
  | put p l => exact (tame_tup (tame_cons (tame_of "put" (by decide)) (tame_cons h.1 (tame_cons h.2 tame_nil)))).mono (by decide) (by decide)
  | cut p => exact (tame_tup (tame_cons (tame_of "cut" (by decide)) (tame_cons (show Tame 8 2 p from h) tame_nil))).mono (by decide) (by decide)
  | resize p l => exact (tame_tup (tame_cons (tame_of "resize" (by decide)) (tame_cons h.1 (tame_cons h.2 tame_nil)))).mono (by decide) (by decide)
  | turn => exact (tame_tup (tame_cons (tame_of "turn" (by decide)) tame_nil)).mono (by decide) (by decide)
theorem EdX.odd {x : Exn} (h : EdX x) (hf : Odd (fldX x)) : showOk (.list [.str x.cls, fldX x]) := by
  have tn : ∀ z ∈ (["TooMany", "LastWord", "BadLength", "NoPlace", "TooManyEdits", "NothingToUndo"] : List Str), z.cps.toList.all (fun c => decide (c < 16 ^ 8)) = true ∧ z.cps.size ≤ 20 := by decide +kernel
  have ts : ∀ z ∈ (["TooMany", "LastWord", "BadLength", "NoPlace", "TooManyEdits", "NothingToUndo"] : List Str), Tame 20 0 (.str z) := fun z hz => tame_str (tn z hz).1 (tn z hz).2
  have tc : Tame 20 0 (.str x.cls) := by
    cases h with
    | many => exact ts "TooMany" (by decide)
    | last => exact ts "LastWord" (by decide)
    | len d => exact ts "BadLength" (by decide)
    | place d => exact ts "NoPlace" (by decide)
    | edits => exact ts "TooManyEdits" (by decide)
    | none => exact ts "NothingToUndo" (by decide)
  exact (tame_lst (tame_cons tc (tame_cons hf tame_nil))).show (by decide) (by decide)
theorem evE_show {ns : List Int} {e : Ed} (he : e.odd) {x : Exn} (h : evE ns e = .inl x) : showOk (.list [.str x.cls, fldX x]) := by
  refine (evE_EdX h).odd ?_
  cases e with
  | put p l =>
    simp only [evE] at h
    split at h
    · split at h
      · split at h
        · cases h; exact odd_int (by decide)
        · cases h
      · cases h; exact he.2
    · cases h; exact he.1
  | cut p =>
    simp only [evE] at h
    split at h
    · split at h
      · cases h; exact odd_none
      · cases h
    · cases h; exact he
  | resize p l =>
    simp only [evE] at h
    split at h
    · split at h
      · cases h
      · cases h; exact he.2
    · cases h; exact he.1
  | turn => cases h
theorem odd_small {i : Int} (h0 : -1000 ≤ i) (h1 : i ≤ 1000) : Odd (.int i) := odd_int (by
  have : i.natAbs ≤ 1000 := by omega
  exact Nat.lt_of_le_of_lt this (by decide))
theorem edit_0 {ns : List Int} (R : RowN ns) : Ok (w__law_edit_0 [T ns]) 5 (fun d => ∃ e : Ed, d = edD e ∧ e.odd) := by
  have h1 := R.one
  have h2 := R.most
  unfold w__law_edit_0
  rw [x_fnS]
  refine Ok.grd rfl (Ok.fn ?_)
  simp only [x_var, x_con, x_bin, x_neg, x_cmp, x_chain, x_tTru, x_tNot, x_tAnd, x_tOr, x_tBool, x_tYes, x_not, x_and, x_or, x_if, x_b1, x_b2, x_is, x_idx, x_oNone, x_oSome, x_cut, x_aNil, x_aCons, x_tup, x_lst, x_call, x_callS,
    x_iSeq, x_iRng1, x_iRng2, x_bor, x_tBor, x_put1, List.map_cons, List.map_nil, List.cons_append, List.nil_append, List.length_cons, List.length_nil, Nat.zero_add, Nat.reduceAdd, Nat.reduceSub, List.reduceReplicate, start,
    List.getElem?_cons_zero, List.getElem?_cons_succ, List.set_cons_zero, List.set_cons_succ, bnd_ret, bnd_assoc, bnd_grd, b1_if, bnd_ite, small, Nat.reduceLeDiff, grd_true, o_add, o_sub, o_neg, o_eq, o_ne, o_lt, o_le, o_gt, o_ge, o_eqS, o_neS,
    decide_eq_true_eq, reduceIte, decide_true, decide_false, Bool.not_true, Bool.not_false, Bool.false_eq_true, itemsOf, asInt, bi2, endOf, isTy,
    grd_tt, nx_int, nx_bool, nx_str, nx_none, nx_tup, nx_lst, x_isC, x_fld, x_in, x_count, x_lstR, x_tupR, x_raise, x_star, bnd_thr, noX_ret, fld_x, exn_d, eSetO, Out.clear, List.zip_cons_cons, List.zip_nil_left, List.zip_nil_right, s_asg, s_par, s_own, s_parO, s_put, s_expr, s_ret, s_skip, s_seq, s_rel, x_asg, x_par, x_own, x_parO, x_put, x_expr, x_ret, x_retN, x_skip, x_rel, x_app, x_setI, x_sIf, x_for, x_brk, x_cnt, T, List.length_map]
  refine Ok.bnd' 5 (pick_b (by decide) (by decide)) (by decide) fun z hz => ?_
  refine Ok.drawB (n := 3) (by omega) (by omega) fun r r0 r1 => ?_
  have md : opBin .mod (.int (1 + r)) (.int 12) = ret (.int ((1 + r) % 12)) := grd_pos (by decide) _
  simp only [o_add, bnd_ret, md]
  refine Ok.drawB (n := 2) (by omega) (by omega) fun q q0 q1 => ?_
  have sz : ∃ x : Int, opIdx (.list [.int (1 + r), .int (1 + (1 + r) % 12)]) (.int q) = ret (.int x) ∧ 1 ≤ x ∧ x ≤ 60 := by
    obtain rfl | rfl : q = 0 ∨ q = 1 := by omega
    · exact ⟨1 + r, rfl, by omega, by omega⟩
    · exact ⟨1 + (1 + r) % 12, rfl, by omega, by omega⟩
  obtain ⟨x, ex, x0, x1⟩ := sz
  simp only [ex, bnd_ret]
  simp only [List.mem_cons, List.not_mem_nil, or_false] at hz
  have bl : bi1 B1.len (PyData.tuple (ns.map PyData.int)) = ret (.int (ns.length : Int)) := by
    show ret (PyData.int ((ns.map PyData.int).length : Int)) = _
    rw [List.length_map]
  have put : Ok (DL.bnd (fDraw [.int ((ns.length : Int) + 1)]) fun d => ret (Out.rt (.tuple [.str "put", d, .int x]))) 2 fun o => match o with
    | Out.rt d => ∃ e : Ed, d = edD e ∧ e.odd
    | Out.nx E => ∃ e : Ed, PyData.none = edD e ∧ e.odd
    | x => False := Ok.drawB (n := 1) (by omega) (by omega) fun p p0 p1 => Ok.ret ⟨.put (.int p) (.int x), rfl, odd_small (by omega) (by omega), odd_small (by omega) (by omega)⟩
  have cut : Ok (DL.bnd (fDraw [.int (ns.length : Int)]) fun d => ret (Out.rt (.tuple [.str "cut", d]))) 2 fun o => match o with
    | Out.rt d => ∃ e : Ed, d = edD e ∧ e.odd
    | Out.nx E => ∃ e : Ed, PyData.none = edD e ∧ e.odd
    | x => False := Ok.drawB (n := 1) (by omega) (by omega) fun p p0 p1 => Ok.ret ⟨.cut (.int p), rfl, odd_small (by omega) (by omega)⟩
  have rsz : Ok (DL.bnd (fDraw [.int (ns.length : Int)]) fun d => ret (Out.rt (.tuple [.str "resize", d, .int x]))) 2 fun o => match o with
    | Out.rt d => ∃ e : Ed, d = edD e ∧ e.odd
    | Out.nx E => ∃ e : Ed, PyData.none = edD e ∧ e.odd
    | x => False := Ok.drawB (n := 1) (by omega) (by omega) fun p p0 p1 => Ok.ret ⟨.resize (.int p) (.int x), rfl, odd_small (by omega) (by omega), odd_small (by omega) (by omega)⟩
  have d1 : decide (Str.ofString "put" = Str.ofString "put") = true := by decide
  have d2 : decide (Str.ofString "cut" = Str.ofString "put") = false := by decide
  have d3 : decide (Str.ofString "resize" = Str.ofString "put") = false := by decide
  have d4 : decide (Str.ofString "turn" = Str.ofString "put") = false := by decide
  have d5 : decide (Str.ofString "cut" = Str.ofString "turn") = false := by decide
  have d6 : decide (Str.ofString "resize" = Str.ofString "turn") = false := by decide
  have d7 : decide (Str.ofString "cut" = Str.ofString "resize") = false := by decide
  have d8 : decide (Str.ofString "turn" = Str.ofString "turn") = true := by decide
  have d9 : decide (Str.ofString "resize" = Str.ofString "resize") = true := by decide
  have drop : ∀ {t : XT} {m : XE} {s : XS} {E : Env}, t E = ret true → sSeq (sIf t (sRet m) sSkip) s E = DL.bnd (m E) fun d => ret (Out.rt d) := fun {t m s E} h => by
    rw [s_if, h, bnd_ret, if_pos rfl]
    rfl
  have next : ∀ {t : XT} {a s : XS} {E : Env}, t E = ret false → sSeq (sIf t a sSkip) s E = s E := fun {t a s E} h => by
    rw [s_if, h, bnd_ret, if_neg (by decide)]
    rfl
  rcases hz with rfl | rfl | rfl | rfl | rfl
  · rw [drop (by simp only [x_var, x_con, x_bin, x_neg, x_cmp, x_chain, x_tTru, x_tNot, x_tAnd, x_tOr, x_tBool, x_tYes, x_not, x_and, x_or, x_if, x_b1, x_b2, x_is, x_idx, x_oNone, x_oSome, x_cut, x_aNil, x_aCons, x_tup, x_lst, x_call, x_callS,
    x_iSeq, x_iRng1, x_iRng2, x_bor, x_tBor, x_put1, List.map_cons, List.map_nil, List.cons_append, List.nil_append, List.length_cons, List.length_nil, Nat.zero_add, Nat.reduceAdd, Nat.reduceSub, List.reduceReplicate, start,
    List.getElem?_cons_zero, List.getElem?_cons_succ, List.set_cons_zero, List.set_cons_succ, bnd_ret, bnd_assoc, bnd_grd, b1_if, bnd_ite, small, Nat.reduceLeDiff, grd_true, o_add, o_sub, o_neg, o_eq, o_ne, o_lt, o_le, o_gt, o_ge, o_eqS, o_neS,
    decide_eq_true_eq, reduceIte, decide_true, decide_false, Bool.not_true, Bool.not_false, Bool.false_eq_true, itemsOf, asInt, bi2, endOf, isTy,
    grd_tt, nx_int, nx_bool, nx_str, nx_none, nx_tup, nx_lst, x_isC, x_fld, x_in, x_count, x_lstR, x_tupR, x_raise, x_star, bnd_thr, noX_ret, fld_x, exn_d, eSetO, Out.clear, List.zip_cons_cons, List.zip_nil_left, List.zip_nil_right, d1])]
    simp only [x_var, x_con, x_bin, x_neg, x_cmp, x_chain, x_tTru, x_tNot, x_tAnd, x_tOr, x_tBool, x_tYes, x_not, x_and, x_or, x_if, x_b1, x_b2, x_is, x_idx, x_oNone, x_oSome, x_cut, x_aNil, x_aCons, x_tup, x_lst, x_call, x_callS,
    x_iSeq, x_iRng1, x_iRng2, x_bor, x_tBor, x_put1, List.map_cons, List.map_nil, List.cons_append, List.nil_append, List.length_cons, List.length_nil, Nat.zero_add, Nat.reduceAdd, Nat.reduceSub, List.reduceReplicate, start,
    List.getElem?_cons_zero, List.getElem?_cons_succ, List.set_cons_zero, List.set_cons_succ, bnd_ret, bnd_assoc, bnd_grd, b1_if, bnd_ite, small, Nat.reduceLeDiff, grd_true, o_add, o_sub, o_neg, o_eq, o_ne, o_lt, o_le, o_gt, o_ge, o_eqS, o_neS,
    decide_eq_true_eq, reduceIte, decide_true, decide_false, Bool.not_true, Bool.not_false, Bool.false_eq_true, itemsOf, asInt, bi2, endOf, isTy,
    grd_tt, nx_int, nx_bool, nx_str, nx_none, nx_tup, nx_lst, x_isC, x_fld, x_in, x_count, x_lstR, x_tupR, x_raise, x_star, bnd_thr, noX_ret, fld_x, exn_d, eSetO, Out.clear, List.zip_cons_cons, List.zip_nil_left, List.zip_nil_right, bl]
    exact put
  · rw [drop (by simp only [x_var, x_con, x_bin, x_neg, x_cmp, x_chain, x_tTru, x_tNot, x_tAnd, x_tOr, x_tBool, x_tYes, x_not, x_and, x_or, x_if, x_b1, x_b2, x_is, x_idx, x_oNone, x_oSome, x_cut, x_aNil, x_aCons, x_tup, x_lst, x_call, x_callS,
    x_iSeq, x_iRng1, x_iRng2, x_bor, x_tBor, x_put1, List.map_cons, List.map_nil, List.cons_append, List.nil_append, List.length_cons, List.length_nil, Nat.zero_add, Nat.reduceAdd, Nat.reduceSub, List.reduceReplicate, start,
    List.getElem?_cons_zero, List.getElem?_cons_succ, List.set_cons_zero, List.set_cons_succ, bnd_ret, bnd_assoc, bnd_grd, b1_if, bnd_ite, small, Nat.reduceLeDiff, grd_true, o_add, o_sub, o_neg, o_eq, o_ne, o_lt, o_le, o_gt, o_ge, o_eqS, o_neS,
    decide_eq_true_eq, reduceIte, decide_true, decide_false, Bool.not_true, Bool.not_false, Bool.false_eq_true, itemsOf, asInt, bi2, endOf, isTy,
    grd_tt, nx_int, nx_bool, nx_str, nx_none, nx_tup, nx_lst, x_isC, x_fld, x_in, x_count, x_lstR, x_tupR, x_raise, x_star, bnd_thr, noX_ret, fld_x, exn_d, eSetO, Out.clear, List.zip_cons_cons, List.zip_nil_left, List.zip_nil_right, d1])]
    simp only [x_var, x_con, x_bin, x_neg, x_cmp, x_chain, x_tTru, x_tNot, x_tAnd, x_tOr, x_tBool, x_tYes, x_not, x_and, x_or, x_if, x_b1, x_b2, x_is, x_idx, x_oNone, x_oSome, x_cut, x_aNil, x_aCons, x_tup, x_lst, x_call, x_callS,
    x_iSeq, x_iRng1, x_iRng2, x_bor, x_tBor, x_put1, List.map_cons, List.map_nil, List.cons_append, List.nil_append, List.length_cons, List.length_nil, Nat.zero_add, Nat.reduceAdd, Nat.reduceSub, List.reduceReplicate, start,
    List.getElem?_cons_zero, List.getElem?_cons_succ, List.set_cons_zero, List.set_cons_succ, bnd_ret, bnd_assoc, bnd_grd, b1_if, bnd_ite, small, Nat.reduceLeDiff, grd_true, o_add, o_sub, o_neg, o_eq, o_ne, o_lt, o_le, o_gt, o_ge, o_eqS, o_neS,
    decide_eq_true_eq, reduceIte, decide_true, decide_false, Bool.not_true, Bool.not_false, Bool.false_eq_true, itemsOf, asInt, bi2, endOf, isTy,
    grd_tt, nx_int, nx_bool, nx_str, nx_none, nx_tup, nx_lst, x_isC, x_fld, x_in, x_count, x_lstR, x_tupR, x_raise, x_star, bnd_thr, noX_ret, fld_x, exn_d, eSetO, Out.clear, List.zip_cons_cons, List.zip_nil_left, List.zip_nil_right, bl]
    exact put
  · rw [next (by simp only [x_var, x_con, x_bin, x_neg, x_cmp, x_chain, x_tTru, x_tNot, x_tAnd, x_tOr, x_tBool, x_tYes, x_not, x_and, x_or, x_if, x_b1, x_b2, x_is, x_idx, x_oNone, x_oSome, x_cut, x_aNil, x_aCons, x_tup, x_lst, x_call, x_callS,
    x_iSeq, x_iRng1, x_iRng2, x_bor, x_tBor, x_put1, List.map_cons, List.map_nil, List.cons_append, List.nil_append, List.length_cons, List.length_nil, Nat.zero_add, Nat.reduceAdd, Nat.reduceSub, List.reduceReplicate, start,
    List.getElem?_cons_zero, List.getElem?_cons_succ, List.set_cons_zero, List.set_cons_succ, bnd_ret, bnd_assoc, bnd_grd, b1_if, bnd_ite, small, Nat.reduceLeDiff, grd_true, o_add, o_sub, o_neg, o_eq, o_ne, o_lt, o_le, o_gt, o_ge, o_eqS, o_neS,
    decide_eq_true_eq, reduceIte, decide_true, decide_false, Bool.not_true, Bool.not_false, Bool.false_eq_true, itemsOf, asInt, bi2, endOf, isTy,
    grd_tt, nx_int, nx_bool, nx_str, nx_none, nx_tup, nx_lst, x_isC, x_fld, x_in, x_count, x_lstR, x_tupR, x_raise, x_star, bnd_thr, noX_ret, fld_x, exn_d, eSetO, Out.clear, List.zip_cons_cons, List.zip_nil_left, List.zip_nil_right, d2]), next (by simp only [x_var, x_con, x_bin, x_neg, x_cmp, x_chain, x_tTru, x_tNot, x_tAnd, x_tOr, x_tBool, x_tYes, x_not, x_and, x_or, x_if, x_b1, x_b2, x_is, x_idx, x_oNone, x_oSome, x_cut, x_aNil, x_aCons, x_tup, x_lst, x_call, x_callS,
    x_iSeq, x_iRng1, x_iRng2, x_bor, x_tBor, x_put1, List.map_cons, List.map_nil, List.cons_append, List.nil_append, List.length_cons, List.length_nil, Nat.zero_add, Nat.reduceAdd, Nat.reduceSub, List.reduceReplicate, start,
    List.getElem?_cons_zero, List.getElem?_cons_succ, List.set_cons_zero, List.set_cons_succ, bnd_ret, bnd_assoc, bnd_grd, b1_if, bnd_ite, small, Nat.reduceLeDiff, grd_true, o_add, o_sub, o_neg, o_eq, o_ne, o_lt, o_le, o_gt, o_ge, o_eqS, o_neS,
    decide_eq_true_eq, reduceIte, decide_true, decide_false, Bool.not_true, Bool.not_false, Bool.false_eq_true, itemsOf, asInt, bi2, endOf, isTy,
    grd_tt, nx_int, nx_bool, nx_str, nx_none, nx_tup, nx_lst, x_isC, x_fld, x_in, x_count, x_lstR, x_tupR, x_raise, x_star, bnd_thr, noX_ret, fld_x, exn_d, eSetO, Out.clear, List.zip_cons_cons, List.zip_nil_left, List.zip_nil_right, d5])]
    simp only [x_var, x_con, x_bin, x_neg, x_cmp, x_chain, x_tTru, x_tNot, x_tAnd, x_tOr, x_tBool, x_tYes, x_not, x_and, x_or, x_if, x_b1, x_b2, x_is, x_idx, x_oNone, x_oSome, x_cut, x_aNil, x_aCons, x_tup, x_lst, x_call, x_callS,
    x_iSeq, x_iRng1, x_iRng2, x_bor, x_tBor, x_put1, List.map_cons, List.map_nil, List.cons_append, List.nil_append, List.length_cons, List.length_nil, Nat.zero_add, Nat.reduceAdd, Nat.reduceSub, List.reduceReplicate, start,
    List.getElem?_cons_zero, List.getElem?_cons_succ, List.set_cons_zero, List.set_cons_succ, bnd_ret, bnd_assoc, bnd_grd, b1_if, bnd_ite, small, Nat.reduceLeDiff, grd_true, o_add, o_sub, o_neg, o_eq, o_ne, o_lt, o_le, o_gt, o_ge, o_eqS, o_neS,
    decide_eq_true_eq, reduceIte, decide_true, decide_false, Bool.not_true, Bool.not_false, Bool.false_eq_true, itemsOf, asInt, bi2, endOf, isTy,
    grd_tt, nx_int, nx_bool, nx_str, nx_none, nx_tup, nx_lst, x_isC, x_fld, x_in, x_count, x_lstR, x_tupR, x_raise, x_star, bnd_thr, noX_ret, fld_x, exn_d, eSetO, Out.clear, List.zip_cons_cons, List.zip_nil_left, List.zip_nil_right, s_asg, s_par, s_own, s_parO, s_put, s_expr, s_ret, s_skip, s_seq, s_rel, x_asg, x_par, x_own, x_parO, x_put, x_expr, x_ret, x_retN, x_skip, x_rel, x_app, x_setI, x_sIf, x_for, x_brk, x_cnt, bl, d7]
    exact cut
  · rw [next (by simp only [x_var, x_con, x_bin, x_neg, x_cmp, x_chain, x_tTru, x_tNot, x_tAnd, x_tOr, x_tBool, x_tYes, x_not, x_and, x_or, x_if, x_b1, x_b2, x_is, x_idx, x_oNone, x_oSome, x_cut, x_aNil, x_aCons, x_tup, x_lst, x_call, x_callS,
    x_iSeq, x_iRng1, x_iRng2, x_bor, x_tBor, x_put1, List.map_cons, List.map_nil, List.cons_append, List.nil_append, List.length_cons, List.length_nil, Nat.zero_add, Nat.reduceAdd, Nat.reduceSub, List.reduceReplicate, start,
    List.getElem?_cons_zero, List.getElem?_cons_succ, List.set_cons_zero, List.set_cons_succ, bnd_ret, bnd_assoc, bnd_grd, b1_if, bnd_ite, small, Nat.reduceLeDiff, grd_true, o_add, o_sub, o_neg, o_eq, o_ne, o_lt, o_le, o_gt, o_ge, o_eqS, o_neS,
    decide_eq_true_eq, reduceIte, decide_true, decide_false, Bool.not_true, Bool.not_false, Bool.false_eq_true, itemsOf, asInt, bi2, endOf, isTy,
    grd_tt, nx_int, nx_bool, nx_str, nx_none, nx_tup, nx_lst, x_isC, x_fld, x_in, x_count, x_lstR, x_tupR, x_raise, x_star, bnd_thr, noX_ret, fld_x, exn_d, eSetO, Out.clear, List.zip_cons_cons, List.zip_nil_left, List.zip_nil_right, d3]), next (by simp only [x_var, x_con, x_bin, x_neg, x_cmp, x_chain, x_tTru, x_tNot, x_tAnd, x_tOr, x_tBool, x_tYes, x_not, x_and, x_or, x_if, x_b1, x_b2, x_is, x_idx, x_oNone, x_oSome, x_cut, x_aNil, x_aCons, x_tup, x_lst, x_call, x_callS,
    x_iSeq, x_iRng1, x_iRng2, x_bor, x_tBor, x_put1, List.map_cons, List.map_nil, List.cons_append, List.nil_append, List.length_cons, List.length_nil, Nat.zero_add, Nat.reduceAdd, Nat.reduceSub, List.reduceReplicate, start,
    List.getElem?_cons_zero, List.getElem?_cons_succ, List.set_cons_zero, List.set_cons_succ, bnd_ret, bnd_assoc, bnd_grd, b1_if, bnd_ite, small, Nat.reduceLeDiff, grd_true, o_add, o_sub, o_neg, o_eq, o_ne, o_lt, o_le, o_gt, o_ge, o_eqS, o_neS,
    decide_eq_true_eq, reduceIte, decide_true, decide_false, Bool.not_true, Bool.not_false, Bool.false_eq_true, itemsOf, asInt, bi2, endOf, isTy,
    grd_tt, nx_int, nx_bool, nx_str, nx_none, nx_tup, nx_lst, x_isC, x_fld, x_in, x_count, x_lstR, x_tupR, x_raise, x_star, bnd_thr, noX_ret, fld_x, exn_d, eSetO, Out.clear, List.zip_cons_cons, List.zip_nil_left, List.zip_nil_right, d6])]
    simp only [x_var, x_con, x_bin, x_neg, x_cmp, x_chain, x_tTru, x_tNot, x_tAnd, x_tOr, x_tBool, x_tYes, x_not, x_and, x_or, x_if, x_b1, x_b2, x_is, x_idx, x_oNone, x_oSome, x_cut, x_aNil, x_aCons, x_tup, x_lst, x_call, x_callS,
    x_iSeq, x_iRng1, x_iRng2, x_bor, x_tBor, x_put1, List.map_cons, List.map_nil, List.cons_append, List.nil_append, List.length_cons, List.length_nil, Nat.zero_add, Nat.reduceAdd, Nat.reduceSub, List.reduceReplicate, start,
    List.getElem?_cons_zero, List.getElem?_cons_succ, List.set_cons_zero, List.set_cons_succ, bnd_ret, bnd_assoc, bnd_grd, b1_if, bnd_ite, small, Nat.reduceLeDiff, grd_true, o_add, o_sub, o_neg, o_eq, o_ne, o_lt, o_le, o_gt, o_ge, o_eqS, o_neS,
    decide_eq_true_eq, reduceIte, decide_true, decide_false, Bool.not_true, Bool.not_false, Bool.false_eq_true, itemsOf, asInt, bi2, endOf, isTy,
    grd_tt, nx_int, nx_bool, nx_str, nx_none, nx_tup, nx_lst, x_isC, x_fld, x_in, x_count, x_lstR, x_tupR, x_raise, x_star, bnd_thr, noX_ret, fld_x, exn_d, eSetO, Out.clear, List.zip_cons_cons, List.zip_nil_left, List.zip_nil_right, s_asg, s_par, s_own, s_parO, s_put, s_expr, s_ret, s_skip, s_seq, s_rel, x_asg, x_par, x_own, x_parO, x_put, x_expr, x_ret, x_retN, x_skip, x_rel, x_app, x_setI, x_sIf, x_for, x_brk, x_cnt, bl, d9]
    exact rsz
  · rw [next (by simp only [x_var, x_con, x_bin, x_neg, x_cmp, x_chain, x_tTru, x_tNot, x_tAnd, x_tOr, x_tBool, x_tYes, x_not, x_and, x_or, x_if, x_b1, x_b2, x_is, x_idx, x_oNone, x_oSome, x_cut, x_aNil, x_aCons, x_tup, x_lst, x_call, x_callS,
    x_iSeq, x_iRng1, x_iRng2, x_bor, x_tBor, x_put1, List.map_cons, List.map_nil, List.cons_append, List.nil_append, List.length_cons, List.length_nil, Nat.zero_add, Nat.reduceAdd, Nat.reduceSub, List.reduceReplicate, start,
    List.getElem?_cons_zero, List.getElem?_cons_succ, List.set_cons_zero, List.set_cons_succ, bnd_ret, bnd_assoc, bnd_grd, b1_if, bnd_ite, small, Nat.reduceLeDiff, grd_true, o_add, o_sub, o_neg, o_eq, o_ne, o_lt, o_le, o_gt, o_ge, o_eqS, o_neS,
    decide_eq_true_eq, reduceIte, decide_true, decide_false, Bool.not_true, Bool.not_false, Bool.false_eq_true, itemsOf, asInt, bi2, endOf, isTy,
    grd_tt, nx_int, nx_bool, nx_str, nx_none, nx_tup, nx_lst, x_isC, x_fld, x_in, x_count, x_lstR, x_tupR, x_raise, x_star, bnd_thr, noX_ret, fld_x, exn_d, eSetO, Out.clear, List.zip_cons_cons, List.zip_nil_left, List.zip_nil_right, d4]), drop (by simp only [x_var, x_con, x_bin, x_neg, x_cmp, x_chain, x_tTru, x_tNot, x_tAnd, x_tOr, x_tBool, x_tYes, x_not, x_and, x_or, x_if, x_b1, x_b2, x_is, x_idx, x_oNone, x_oSome, x_cut, x_aNil, x_aCons, x_tup, x_lst, x_call, x_callS,
    x_iSeq, x_iRng1, x_iRng2, x_bor, x_tBor, x_put1, List.map_cons, List.map_nil, List.cons_append, List.nil_append, List.length_cons, List.length_nil, Nat.zero_add, Nat.reduceAdd, Nat.reduceSub, List.reduceReplicate, start,
    List.getElem?_cons_zero, List.getElem?_cons_succ, List.set_cons_zero, List.set_cons_succ, bnd_ret, bnd_assoc, bnd_grd, b1_if, bnd_ite, small, Nat.reduceLeDiff, grd_true, o_add, o_sub, o_neg, o_eq, o_ne, o_lt, o_le, o_gt, o_ge, o_eqS, o_neS,
    decide_eq_true_eq, reduceIte, decide_true, decide_false, Bool.not_true, Bool.not_false, Bool.false_eq_true, itemsOf, asInt, bi2, endOf, isTy,
    grd_tt, nx_int, nx_bool, nx_str, nx_none, nx_tup, nx_lst, x_isC, x_fld, x_in, x_count, x_lstR, x_tupR, x_raise, x_star, bnd_thr, noX_ret, fld_x, exn_d, eSetO, Out.clear, List.zip_cons_cons, List.zip_nil_left, List.zip_nil_right, d8])]
    simp only [x_var, x_con, x_bin, x_neg, x_cmp, x_chain, x_tTru, x_tNot, x_tAnd, x_tOr, x_tBool, x_tYes, x_not, x_and, x_or, x_if, x_b1, x_b2, x_is, x_idx, x_oNone, x_oSome, x_cut, x_aNil, x_aCons, x_tup, x_lst, x_call, x_callS,
    x_iSeq, x_iRng1, x_iRng2, x_bor, x_tBor, x_put1, List.map_cons, List.map_nil, List.cons_append, List.nil_append, List.length_cons, List.length_nil, Nat.zero_add, Nat.reduceAdd, Nat.reduceSub, List.reduceReplicate, start,
    List.getElem?_cons_zero, List.getElem?_cons_succ, List.set_cons_zero, List.set_cons_succ, bnd_ret, bnd_assoc, bnd_grd, b1_if, bnd_ite, small, Nat.reduceLeDiff, grd_true, o_add, o_sub, o_neg, o_eq, o_ne, o_lt, o_le, o_gt, o_ge, o_eqS, o_neS,
    decide_eq_true_eq, reduceIte, decide_true, decide_false, Bool.not_true, Bool.not_false, Bool.false_eq_true, itemsOf, asInt, bi2, endOf, isTy,
    grd_tt, nx_int, nx_bool, nx_str, nx_none, nx_tup, nx_lst, x_isC, x_fld, x_in, x_count, x_lstR, x_tupR, x_raise, x_star, bnd_thr, noX_ret, fld_x, exn_d, eSetO, Out.clear, List.zip_cons_cons, List.zip_nil_left, List.zip_nil_right]
    exact Ok.ret ⟨.turn, rfl, trivial⟩
end DL
end
section
namespace DL
open PySem
theorem OkS.cong {α : Type} {m m' : W α} {n : Nat} {I : Sx → Prop} {Q : α → Sx → Prop} (e : ∀ c, I c → m c = m' c) (h : OkS m' n I Q) : OkS m n I Q := fun c P X hc hI kk => by
  rw [e c hI]
  exact h c P X hc hI kk
theorem run_bnd {α β : Type} (m : W α) (f : α → W β) (c : Sx) (P : β → Sx → Prop) (X : Exn → Sx → Prop) : bnd m f c P X = m c (fun a c' => f a c' P X) X := id rfl
section
variable {c c1 c2 : Sx} {E : Env}
theorem at_callS {f : Fn} {i : Nat} {r : XA} {xs : List D} (hs : E[i]? = some .stm) (h : r E c = ret xs c1) : eCallS f i r E c = f xs c1 := by
  unfold eCallS
  rw [hs]
  show bnd (r E) f c = _
  rw [at_bnd h]
theorem at_tNot {t : XT} {b : Bool} (h : t E c = ret b c1) : tNot t E c = ret (!b) c1 := by
  unfold tNot
  rw [at_bnd h]
theorem at_tOr {t u : XT} {b : Bool} (h : t E c = ret false c1) (h2 : u E c1 = ret b c2) : DL.tOr t u E c = ret b c2 := by
  unfold DL.tOr
  rw [at_bnd h]
  exact h2
theorem env10 {E : Env} (h : E.length = 10) : ∃ x0 x1 x2 x3 x4 x5 x6 x7 x8 x9, E = [x0, x1, x2, x3, x4, x5, x6, x7, x8, x9] := by
  match E, h with
  | [x0, x1, x2, x3, x4, x5, x6, x7, x8, x9], _ => exact ⟨x0, x1, x2, x3, x4, x5, x6, x7, x8, x9, rfl⟩
end
theorem row_none {ns : List Int} (R : RowN ns) : w_row_error_0 [T ns] = ret .none := by
  have b : Bd 2 ns.length 1 (.tuple (ns.map PyData.int)) := bd_tup (bda_ints fun x hx => by have := R.words x hx; omega)
  show w_row_error_0 [.tuple (ns.map PyData.int)] = _
  rw [row_error_d b.lf]
  have e : rowErr (.tuple (ns.map PyData.int)) = .none := by
    show (if _ then _ else firstBad (ns.map PyData.int) 0) = _
    have := R.one
    have := R.most
    rw [if_neg (by rw [List.length_map]; omega), bad_none ns 0 R.words]
  rw [e]
section
variable {E : Env} {ns : List Int} {i j r : Nat}
theorem hist_0 (R : RowN ns) : Hist ns [] [] := ⟨rfl, by decide, fun r h => absurd h (List.not_mem_nil), R, fun r h => absurd h (List.not_mem_nil)⟩
/-- a page and its model are made -/
theorem page_model (R : RowN ns) (he : E[r]? = some (.val (T ns))) : OkS (sPar i j (eMk "Page" w_Page_init_0 (aCons (eVar r) (aNil))) (eNewC (aCons (eNewC (aCons (eVar r) (aNil))) (aCons (eNewC (aNil)) (aCons (eCon (.bool false)) (aNil))))) E) 0 (fun _ => True)
    fun o c => ∃ a mo s d, o = .nx ((E.set i (.val (rD a))).set j (.val (rD mo))) ∧ Inv c a mo s d ns [] [] .none := fun c P X hc _ kk => by
  have o : ∀ (A B C : XE) (E : Env), eNewC (aCons A (aCons B (aCons C aNil))) E = bnd (A E) fun x => bnd (B E) fun y => bnd (C E) fun z => grd (flatAll [x, y, z] = true ∧ small [x, y, z].length) (newC (.lst [x, y, z])) := fun _ _ _ _ => id rfl
  have fT := flat_T ns
  have n1 : ∀ c, eNewC (aCons (eVar r) aNil) E c = newC (.lst [T ns]) c := fun c => by
    unfold eNewC
    rw [at_bnd (at_aCons (x := T ns) (xs := []) (at_var he) at_aNil), at_grd ⟨by simp [flatAll, fT], by simp [small]⟩]
  have n2 : ∀ c, eNewC aNil E c = newC (.lst []) c := fun c => by
    unfold eNewC
    rw [at_bnd at_aNil, at_grd ⟨rfl, by simp [small]⟩]
  unfold sPar
  rw [run_bnd]
  refine page_made (at_aCons (at_var he) at_aNil) (row_none R) fun a ha => ?_
  rw [run_bnd, o, run_bnd, n1]
  generalize hc1 : c.set a (.ins "Page" (pgF (T ns) [T ns] [] .none)) = c1
  have g1 : c1.mu a = some (.ins "Page" (pgF (T ns) [T ns] [] .none)) := by rw [← hc1]; exact set_mu
  intro s hs
  have as : a ≠ s := fun e => by rw [e, hs] at g1; cases g1
  rw [run_bnd, n2]
  generalize hc2 : c1.set s (.lst [T ns]) = c2
  have g2a : c2.mu a = some (.ins "Page" (pgF (T ns) [T ns] [] .none)) := by rw [← hc2]; exact (set_ne as).trans g1
  have g2s : c2.mu s = some (.lst [T ns]) := by rw [← hc2]; exact set_mu
  intro d hd
  have ad : a ≠ d := fun e => by rw [e, hd] at g2a; cases g2a
  have sd : s ≠ d := fun e => by rw [e, hd] at g2s; cases g2s
  rw [run_bnd]
  generalize hc3 : c2.set d (.lst []) = c3
  have g3a : c3.mu a = some (.ins "Page" (pgF (T ns) [T ns] [] .none)) := by rw [← hc3]; exact (set_ne ad).trans g2a
  have g3s : c3.mu s = some (.lst [T ns]) := by rw [← hc3]; exact (set_ne sd).trans g2s
  have g3d : c3.mu d = some (.lst []) := by rw [← hc3]; exact set_mu
  refine ⟨⟨rfl, by simp [small]⟩, ?_⟩
  intro mo hm
  have am : a ≠ mo := fun e => by rw [e, hm] at g3a; cases g3a
  have sm : s ≠ mo := fun e => by rw [e, hm] at g3s; cases g3s
  have dm : d ≠ mo := fun e => by rw [e, hm] at g3d; cases g3d
  refine kk _ _ ?_ ⟨a, mo, s, d, rfl, (set_ne am).trans g3a, ⟨set_mu, (set_ne sm).trans g3s, (set_ne dm).trans g3d, sd⟩, hist_0 R⟩
  rw [set_n, ← hc3, set_n, ← hc2, set_n, ← hc1, set_n]
  exact Nat.le_refl _
end
section
variable {E : Env} {a mo s d : Nat} {ns : List Int} {rs : List (List Int)} {es : List Ed} {w : D} {c : Sx} {i j : Nat}
theorem last_row (I : Inv c a mo s d ns rs es w) (h : E[j]? = some (.val (rD mo))) : eV2 opIdx (eV2 opIdx (eVar j) (eCon (.int 0))) (eNeg (eCon (.int 1))) E c = ret (T ns) c :=
  at_V2 (at_V2 (at_var h) rfl I.md.m_ rfl rfl) rfl I.md.s_ (idx_lastL (rs.map T) _) (flat_T ns)
theorem seen_same (I : Inv c a mo s d ns rs es w) (h : E[i]? = some (.val (rD a))) (h2 : E[j]? = some (.val (rD mo))) : tBool (eCmp .ne (eCall w__law_seen_0 (aCons (eVar i) (aNil))) (eCall w__law_due_seen_0 (aCons (eVar j) (aNil)))) E c = ret false c :=
  at_tBool (at_cmp (b := false) ((at_call (at_aCons (at_var h) at_aNil)).trans I.seen) ((at_call (at_aCons (at_var h2) at_aNil)).trans I.dseen) (neS_same _))
theorem seen_twice (I : Inv c a mo s d ns rs es w) (h : E[i]? = some (.val (rD a))) : tBool (eCmp .ne (eCall w__law_seen_0 (aCons (eVar i) (aNil))) (eCall w__law_seen_0 (aCons (eVar i) (aNil)))) E c = ret false c :=
  at_tBool (at_cmp (b := false) ((at_call (at_aCons (at_var h) at_aNil)).trans I.seen) ((at_call (at_aCons (at_var h) at_aNil)).trans I.seen) (neS_same _))
end
end DL
end
section
namespace DL
open PySem
def sh76 (a mo : Nat) (E : Env) : Prop := ∃ x0 x2 x3 x6 x7 x8 x9, E = [x0, .stm, x2, x3, .val (rD a), .val (rD mo), x6, x7, x8, x9]
def in76 (a mo s d : Nat) (c : Sx) : Prop := ∃ ns, ∃ rs, ∃ es, Inv c a mo s d ns rs es .none
/-- went, as the laws ask it -/
theorem went_no {E : Env} {a mo s d i j k : Nat} {c : Sx} {e : Ed} (hI : in76 a mo s d c) (he : e.odd) (h4 : E[i]? = some (.val (rD a))) (h5 : E[j]? = some (.val (rD mo))) (h7 : E[k]? = some (.val (edD e))) :
    ∃ c1, tNot (tTru (eCall w__law_went_0 (aCons (eVar i) (aCons (eVar j) (aCons (eVar k) (aNil)))))) E c = ret false c1 ∧ c1.n = c.n ∧ in76 a mo s d c1 := by
  obtain ⟨ns, rs, es, I⟩ := hI
  obtain ⟨c1, ns', rs', es', e1, hn, I1⟩ := went_e I he.plain fun x hx => evE_show he hx
  exact ⟨c1, at_tNot (at_tru ((at_call (at_aCons (at_var h4) (at_aCons (at_var h5) (at_aCons (at_var h7) at_aNil)))).trans e1) rfl), hn, ns', rs', es', I1⟩
open Wk76 in
theorem math_k76 : m_law (lawE 10 1) (.z 0) (fun o _ => o = .rt (.bool true)) fun _ _ => False := by
  suffices h : OkS (m_law (lawE 10 1)) 2000 (fun _ => True) (fun o _ => o = .rt (.bool true)) from h.run (by decide) trivial fun _ _ h => h
  unfold m_law
  refine OkS.seq 2000 (n := 1500) (fun E _ => True) ?_ (by decide) fun E => OkS.ret fun c _ => rfl
  refine OkS.for (n := 0) (N := 3) (b := 400) (ds := fun xs => xs = [.int 0, .int 1, .int 2]) (fun _ E _ => (E.length = 10 ∧ E[1]? = some .stm) ∧ True) ?_ (by decide) (fun xs j d E hx hj => ?_) (fun xs E c _ _ => trivial)
  · exact OkS.at fun c _ => ⟨[.int 0, .int 1, .int 2], c, by
      show grd (rngOk 0 3) _ c = _
      exact at_grd (by unfold rngOk; omega), rfl, rfl, Nat.le_refl _, ⟨rfl, rfl⟩, trivial⟩
  refine OkS.prop fun hE => ?_
  obtain ⟨x0, x1, x2, x3, x4, x5, x6, x7, x8, x9, rfl⟩ := env10 hE.1
  have h1 := hE.2
  simp only [List.getElem?_cons_succ, List.getElem?_cons_zero, Option.some.injEq] at h1
  subst h1
  have hm : ∃ most : Int, eCallS w__law_row_drawn_0 1 (aCons (eIdx (eLst (aCons (eCon (.int 24)) (aCons (eCon (.int 6)) (aCons (eCon (.int 1)) (aNil))))) (eVar 2)) (aNil)) [x0, .stm, .val d, x3, x4, x5, x6, x7, x8, x9] = w__law_row_drawn_0 [.int most] ∧ 1 ≤ most ∧ most ≤ 24 := by
    subst hx
    have hd := List.mem_of_getElem? hj
    simp only [List.mem_cons, List.not_mem_nil, or_false] at hd
    rcases hd with rfl | rfl | rfl
    · refine ⟨24, ?_, by decide, by decide⟩
      simp only [x_var, x_con, x_bin, x_neg, x_cmp, x_chain, x_tTru, x_tNot, x_tAnd, x_tOr, x_tBool, x_tYes, x_not, x_and, x_or, x_if, x_b1, x_b2, x_is, x_idx, x_oNone, x_oSome, x_cut, x_aNil, x_aCons, x_tup, x_lst, x_call, x_callS,
    x_iSeq, x_iRng1, x_iRng2, x_bor, x_tBor, x_put1, List.map_cons, List.map_nil, List.cons_append, List.nil_append, List.length_cons, List.length_nil, Nat.zero_add, Nat.reduceAdd, Nat.reduceSub, List.reduceReplicate, start,
    List.getElem?_cons_zero, List.getElem?_cons_succ, List.set_cons_zero, List.set_cons_succ, bnd_ret, bnd_assoc, bnd_grd, b1_if, bnd_ite, small, Nat.reduceLeDiff, grd_true, o_add, o_sub, o_neg, o_eq, o_ne, o_lt, o_le, o_gt, o_ge, o_eqS, o_neS,
    decide_eq_true_eq, reduceIte, decide_true, decide_false, Bool.not_true, Bool.not_false, Bool.false_eq_true, itemsOf, asInt, bi2, endOf, isTy,
    grd_tt, nx_int, nx_bool, nx_str, nx_none, nx_tup, nx_lst, x_isC, x_fld, x_in, x_count, x_lstR, x_tupR, x_raise, x_star, bnd_thr, noX_ret, fld_x, exn_d, eSetO, Out.clear, List.zip_cons_cons, List.zip_nil_left, List.zip_nil_right]
      rfl
    · refine ⟨6, ?_, by decide, by decide⟩
      simp only [x_var, x_con, x_bin, x_neg, x_cmp, x_chain, x_tTru, x_tNot, x_tAnd, x_tOr, x_tBool, x_tYes, x_not, x_and, x_or, x_if, x_b1, x_b2, x_is, x_idx, x_oNone, x_oSome, x_cut, x_aNil, x_aCons, x_tup, x_lst, x_call, x_callS,
    x_iSeq, x_iRng1, x_iRng2, x_bor, x_tBor, x_put1, List.map_cons, List.map_nil, List.cons_append, List.nil_append, List.length_cons, List.length_nil, Nat.zero_add, Nat.reduceAdd, Nat.reduceSub, List.reduceReplicate, start,
    List.getElem?_cons_zero, List.getElem?_cons_succ, List.set_cons_zero, List.set_cons_succ, bnd_ret, bnd_assoc, bnd_grd, b1_if, bnd_ite, small, Nat.reduceLeDiff, grd_true, o_add, o_sub, o_neg, o_eq, o_ne, o_lt, o_le, o_gt, o_ge, o_eqS, o_neS,
    decide_eq_true_eq, reduceIte, decide_true, decide_false, Bool.not_true, Bool.not_false, Bool.false_eq_true, itemsOf, asInt, bi2, endOf, isTy,
    grd_tt, nx_int, nx_bool, nx_str, nx_none, nx_tup, nx_lst, x_isC, x_fld, x_in, x_count, x_lstR, x_tupR, x_raise, x_star, bnd_thr, noX_ret, fld_x, exn_d, eSetO, Out.clear, List.zip_cons_cons, List.zip_nil_left, List.zip_nil_right]
      rfl
    · refine ⟨1, ?_, by decide, by decide⟩
      simp only [x_var, x_con, x_bin, x_neg, x_cmp, x_chain, x_tTru, x_tNot, x_tAnd, x_tOr, x_tBool, x_tYes, x_not, x_and, x_or, x_if, x_b1, x_b2, x_is, x_idx, x_oNone, x_oSome, x_cut, x_aNil, x_aCons, x_tup, x_lst, x_call, x_callS,
    x_iSeq, x_iRng1, x_iRng2, x_bor, x_tBor, x_put1, List.map_cons, List.map_nil, List.cons_append, List.nil_append, List.length_cons, List.length_nil, Nat.zero_add, Nat.reduceAdd, Nat.reduceSub, List.reduceReplicate, start,
    List.getElem?_cons_zero, List.getElem?_cons_succ, List.set_cons_zero, List.set_cons_succ, bnd_ret, bnd_assoc, bnd_grd, b1_if, bnd_ite, small, Nat.reduceLeDiff, grd_true, o_add, o_sub, o_neg, o_eq, o_ne, o_lt, o_le, o_gt, o_ge, o_eqS, o_neS,
    decide_eq_true_eq, reduceIte, decide_true, decide_false, Bool.not_true, Bool.not_false, Bool.false_eq_true, itemsOf, asInt, bi2, endOf, isTy,
    grd_tt, nx_int, nx_bool, nx_str, nx_none, nx_tup, nx_lst, x_isC, x_fld, x_in, x_count, x_lstR, x_tupR, x_raise, x_star, bnd_thr, noX_ret, fld_x, exn_d, eSetO, Out.clear, List.zip_cons_cons, List.zip_nil_left, List.zip_nil_right]
      rfl
  obtain ⟨most, hm, m1, m2⟩ := hm
  refine OkS.asg (n := 60) (t := 400) (OkS.eq hm (OkS.ok (row_drawn_0 ⟨m1, m2⟩) fun _ _ _ h => h)) (by decide) fun row => ?_
  refine OkS.prop fun hr => ?_
  obtain ⟨ns, rfl, n1, n2, n3⟩ := hr
  have R : RowN ns := ⟨n1, by omega, n3⟩
  simp only [List.set_cons_succ, List.set_cons_zero]
  refine OkS.seq (n := 0) _ (fun E c => ∃ a, ∃ mo, ∃ s, ∃ d', E = [x0, .stm, .val d, .val (T ns), .val (rD a), .val (rD mo), x6, x7, x8, x9] ∧ Inv c a mo s d' ns [] [] .none) ((page_model (i := 4) (j := 5) (r := 3) R rfl).imp ?_) (by decide) fun E => ?_
  · rintro o c ⟨a, mo, s, d', rfl, I⟩
    exact ⟨a, mo, s, d', rfl, I⟩
  refine OkS.ex fun a => OkS.ex fun mo => OkS.ex fun s => OkS.ex fun dd => OkS.prop fun hE => ?_
  subst hE
  refine OkS.step _ (fun c I => ((at_if (seen_same I rfl rfl)).trans rfl)) ?_
  refine OkS.seq (n := 200) _ (fun E c => sh76 a mo E ∧ in76 a mo s dd c) ?_ (by decide) fun E => ?_
  · refine OkS.for (n := 1) (N := 16) (b := 5) (ds := fun _ => True) (fun _ E c => sh76 a mo E ∧ in76 a mo s dd c) ?_ (by decide) (fun xs j d E _ hj => ?_) (fun xs E c _ h => h)
    · refine OkS.pre (I := fun c => in76 a mo s dd c) ?_ fun c I => ⟨ns, [], [], I⟩
      have e : iRng1 (eBin .add (eCon (.int 8)) (eCallS fDraw 1 (aCons (eCon (.int 9)) (aNil)))) [x0, .stm, .val d, .val (T ns), .val (rD a), .val (rD mo), x6, x7, x8, x9] = bnd (fDraw [.int 9]) fun x => bnd (opBin .add (.int 8) x) fun x => bnd (asInt x) fun n => grd (rngOk 0 n) (ret (rng 0 n)) := by
        simp only [x_iRng1, x_var, x_con, x_bin, x_neg, x_cmp, x_chain, x_tTru, x_tNot, x_tAnd, x_tOr, x_tBool, x_tYes, x_not, x_and, x_or, x_if, x_b1, x_b2, x_is, x_idx, x_oNone, x_oSome, x_cut, x_aNil, x_aCons, x_tup, x_lst, x_call, x_callS,
    x_iSeq, x_iRng1, x_iRng2, x_bor, x_tBor, x_put1, List.map_cons, List.map_nil, List.cons_append, List.nil_append, List.length_cons, List.length_nil, Nat.zero_add, Nat.reduceAdd, Nat.reduceSub, List.reduceReplicate, start,
    List.getElem?_cons_zero, List.getElem?_cons_succ, List.set_cons_zero, List.set_cons_succ, bnd_ret, bnd_assoc, bnd_grd, b1_if, bnd_ite, small, Nat.reduceLeDiff, grd_true, o_add, o_sub, o_neg, o_eq, o_ne, o_lt, o_le, o_gt, o_ge, o_eqS, o_neS,
    decide_eq_true_eq, reduceIte, decide_true, decide_false, Bool.not_true, Bool.not_false, Bool.false_eq_true, itemsOf, asInt, bi2, endOf, isTy,
    grd_tt, nx_int, nx_bool, nx_str, nx_none, nx_tup, nx_lst, x_isC, x_fld, x_in, x_count, x_lstR, x_tupR, x_raise, x_star, bnd_thr, noX_ret, fld_x, exn_d, eSetO, Out.clear, List.zip_cons_cons, List.zip_nil_left, List.zip_nil_right]
      refine OkS.eq e (OkS.bnd 1 (OkS.ok (Ok.draw (n := 0) (many := 9) (by decide) (by decide)) fun c c' hc h => ?_) (by decide) fun x => ?_)
      · obtain ⟨ns, rs, es, I⟩ := h
        exact ⟨ns, rs, es, I.mu hc⟩
      refine OkS.prop fun hx => ?_
      obtain ⟨r, rfl, r0, r1⟩ := hx
      simp only [o_add, bnd_ret, asInt]
      rw [grd_pos (by unfold rngOk; omega)]
      exact OkS.ret fun c h => ⟨trivial, by rw [rng_len]; omega, ⟨_, _, _, _, _, _, _, rfl⟩, h⟩
    · refine OkS.prop fun hE => ?_
      obtain ⟨y0, y2, y3, y6, y7, y8, y9, rfl⟩ := hE
      refine OkS.ex fun ms => OkS.ex fun rs => OkS.ex fun es => ?_
      refine OkS.pre (I := fun c => RowN ms ∧ Inv c a mo s dd ms rs es .none) (OkS.prop fun Rm => ?_) fun c I => ⟨I.hs.now, I⟩
      refine OkS.asg (n := 5) (t := 5) (OkS.cong (m' := w__law_edit_0 [T ms]) (fun c I => ?_) (OkS.ok (edit_0 Rm) fun c c' hc h => h.mu hc)) (by decide) fun ed => ?_
      · exact at_callS rfl (at_aCons (last_row I rfl) at_aNil)
      refine OkS.prop fun he => ?_
      obtain ⟨e, rfl, he⟩ := he
      have rp : bi1 .repr (edD e) = ret (.str (PyData.shown (edD e))) := x_repr he.tame (by decide) (by decide)
      refine OkS.step _ (fun c I => at_asg (at_b1 (at_var rfl) rp)) ?_
      refine OkS.at fun c I => ?_
      obtain ⟨c1, e1, hn, ns', rs', es', I1⟩ := went_no (i := 4) (j := 5) (k := 7) (E := [y0, .stm, y2, y3, .val (rD a), .val (rD mo), .val d, .val (edD e), .val (.str (PyData.shown (edD e))), y9]) ⟨ms, rs, es, I⟩ he rfl rfl rfl
      refine ⟨.nx [y0, .stm, y2, y3, .val (rD a), .val (rD mo), .val d, .val (edD e), .val (.str (PyData.shown (edD e))), y9], c1, ?_, hn, ⟨_, _, _, _, _, _, _, rfl⟩, ns', rs', es', I1⟩
      refine (at_if (at_tOr e1 (at_tOr (b := false) (at_tBool (at_cmp (b := false) (at_b1 (at_var rfl) rp) (at_var rfl) (neS_same _))) (seen_twice I1 rfl)))).trans rfl
  · refine OkS.prop fun hE => ?_
    obtain ⟨y0, y2, y3, y6, y7, y8, y9, rfl⟩ := hE
    refine OkS.ex fun ms => OkS.ex fun rs => OkS.ex fun es => ?_
    refine OkS.pre (I := fun c => RowN ms ∧ Inv c a mo s dd ms rs es .none) (OkS.prop fun Rm => ?_) fun c I => ⟨I.hs.now, I⟩
    refine OkS.step [y0, .stm, y2, y3, .val (rD a), .val (rD mo), y6, y7, y8, .val (.int (ms.length : Int))] (fun c I => (at_asg (at_b1 (last_row I rfl) (by
      show ret (PyData.int ((ms.map PyData.int).length : Int)) = _
      rw [List.length_map]))).trans rfl) ?_
    have h1 := Rm.one
    have h2 := Rm.most
    refine OkS.for (n := 0) (N := 6) (b := 0) (ds := fun xs => ∀ d ∈ xs, ∃ e : Ed, d = edD e ∧ e.odd) (fun _ E c => sh76 a mo E ∧ in76 a mo s dd c) ?_ (by decide) (fun xs j d E hx hj => ?_) (fun xs E c _ h => ⟨by
      obtain ⟨_, _, _, _, _, _, _, rfl⟩ := h.1
      exact ⟨rfl, rfl⟩, trivial⟩)
    · refine OkS.at fun c I => ⟨[edD (.put (.int (ms.length : Int)) (.int 60)), edD (.put (.int 0) (.int 1)), edD (.cut (.int 0)), edD (.resize (.int 0) (.int 60)), edD .turn, edD (.cut (.int ((ms.length : Int) - 1)))], c, ?_, rfl, ?_, Nat.le_refl _, ⟨_, _, _, _, _, _, _, rfl⟩, ms, rs, es, I⟩
      · refine congrFun (f := _) (g := ret _) ?_ c
        simp only [x_iSeq, x_var, x_con, x_bin, x_neg, x_cmp, x_chain, x_tTru, x_tNot, x_tAnd, x_tOr, x_tBool, x_tYes, x_not, x_and, x_or, x_if, x_b1, x_b2, x_is, x_idx, x_oNone, x_oSome, x_cut, x_aNil, x_aCons, x_tup, x_lst, x_call, x_callS,
    x_iSeq, x_iRng1, x_iRng2, x_bor, x_tBor, x_put1, List.map_cons, List.map_nil, List.cons_append, List.nil_append, List.length_cons, List.length_nil, Nat.zero_add, Nat.reduceAdd, Nat.reduceSub, List.reduceReplicate, start,
    List.getElem?_cons_zero, List.getElem?_cons_succ, List.set_cons_zero, List.set_cons_succ, bnd_ret, bnd_assoc, bnd_grd, b1_if, bnd_ite, small, Nat.reduceLeDiff, grd_true, o_add, o_sub, o_neg, o_eq, o_ne, o_lt, o_le, o_gt, o_ge, o_eqS, o_neS,
    decide_eq_true_eq, reduceIte, decide_true, decide_false, Bool.not_true, Bool.not_false, Bool.false_eq_true, itemsOf, asInt, bi2, endOf, isTy,
    grd_tt, nx_int, nx_bool, nx_str, nx_none, nx_tup, nx_lst, x_isC, x_fld, x_in, x_count, x_lstR, x_tupR, x_raise, x_star, bnd_thr, noX_ret, fld_x, exn_d, eSetO, Out.clear, List.zip_cons_cons, List.zip_nil_left, List.zip_nil_right]
        rfl
      · intro d hd
        simp only [List.mem_cons, List.not_mem_nil, or_false] at hd
        rcases hd with rfl | rfl | rfl | rfl | rfl | rfl
        · exact ⟨_, rfl, odd_small (by omega) (by omega), odd_small (by omega) (by omega)⟩
        · exact ⟨_, rfl, odd_small (by omega) (by omega), odd_small (by omega) (by omega)⟩
        · exact ⟨_, rfl, odd_small (by omega) (by omega)⟩
        · exact ⟨_, rfl, odd_small (by omega) (by omega), odd_small (by omega) (by omega)⟩
        · exact ⟨_, rfl, trivial⟩
        · exact ⟨_, rfl, odd_small (by omega) (by omega)⟩
    · obtain ⟨e, rfl, he⟩ := hx d (List.mem_of_getElem? hj)
      refine OkS.prop fun hE => ?_
      obtain ⟨y0, y2, y3, y6, y7, y8, y9, rfl⟩ := hE
      refine OkS.at fun c hI => ?_
      obtain ⟨c1, e1, hn, I1⟩ := went_no (i := 4) (j := 5) (k := 7) (E := [y0, .stm, y2, y3, .val (rD a), .val (rD mo), y6, .val (edD e), y8, y9]) hI he rfl rfl rfl
      exact ⟨.nx [y0, .stm, y2, y3, .val (rD a), .val (rD mo), y6, .val (edD e), y8, y9], c1, (at_if e1).trans rfl, hn, ⟨_, _, _, _, _, _, _, rfl⟩, I1⟩
end DL
end
theorem PySem.Challenge.cw_wrapwidths_k76_edits_of_pages_holds : PySem.Challenge.rw_wrapwidths_k76_edits_of_pages.Holds :=
  Wk76.end_ DL.math_k76
