import PyProof.Rows.All
import Wide.All
import OpenK.AllK
import Wide.FinOn
import HandS.ForMost
import HandS.ForExc
import HandS.Walk
import HandS.IsInst
import HandS.Conv
import HandS.Flow
import HandS.TupAny
import HandS.TupMul
import KE.KTupSum
import KE.DataMinMax
import HandS.Defaults
import HandS.EndBits
import HandS.HeadEnd
import HandS.Head0
import HandS.Head1
import HandS.Head2
import HandS.HeadHook1
import HandS.HeadHook2
import PySem.Challenge.RW_wrapwidths_k03_extents_of_stretches
set_option Elab.async false
set_option linter.all false
set_option maxRecDepth 100000
set_option maxHeartbeats 0
section
/-! DL: a small language over data. W: what is wanted of a value, of an error; the operations; the combinators. -/
namespace DL
open PySem

abbrev D := PyData

/-- an error: its class by name, its fields by name -/
structure Exn where
  cls : Str
  fs : List (Str × D)

/-- the number: how many draws were made so far -/
abbrev W (α : Type) := Nat → (α → Nat → Prop) → (Exn → Prop) → Prop
def ret {α : Type} (a : α) : W α := fun n P _ => P a n
def bnd {α β : Type} (m : W α) (f : α → W β) : W β := fun n P X => m n (fun a n' => f a n' P X) X
def stuck {α : Type} : W α := fun _ _ _ => False
def grd {α : Type} (c : Prop) (m : W α) : W α := fun n P X => c ∧ m n P X
def thr {α : Type} (e : Exn) : W α := fun _ _ X => X e
@[simp] theorem bnd_ret {α β : Type} (a : α) (f : α → W β) : bnd (ret a) f = f a := id rfl
@[simp] theorem bnd_stuck {α β : Type} (f : α → W β) : bnd stuck f = stuck := rfl
@[simp] theorem bnd_thr {α β : Type} (e : Exn) (f : α → W β) : bnd (thr e) f = thr e := id rfl
theorem bnd_bnd {α β γ : Type} (m : W α) (f : α → W β) (g : β → W γ) : bnd (bnd m f) g = bnd m fun a => bnd (f a) g := rfl
theorem grd_pos {α : Type} {c : Prop} (h : c) (m : W α) : grd c m = m := by
  funext n P X
  exact propext ⟨fun q => q.2, fun q => ⟨h, q⟩⟩
@[simp] theorem grd_true {α : Type} (m : W α) : grd True m = m := grd_pos True.intro m
theorem bnd_grd {α β : Type} {c : Prop} (m : W α) (f : α → W β) : bnd (grd c m) f = grd c (bnd m f) := rfl

/-- what a slot is known to hold: nothing, a value, a list of its own, the stream -/
inductive Ent where
  | unk
  | val (d : D)
  | own (ds : List D)
  | stm
  | scr (ns : List Int)
abbrev Env := List Ent

/-! ### operations -/
def isTup : D → Bool
  | .tuple _ => true
  | _ => false
mutual
/-- no list, no dict within -/
def flat : D → Bool
  | .none => true
  | .bool _ => true
  | .int _ => true
  | .str _ => true
  | .tuple xs => flatAll xs
  | .list _ => false
  | .dict _ => false
def flatAll : List D → Bool
  | [] => true
  | x :: xs => flat x && flatAll xs
end
/-- sizes that the machine lets pass -/
def small (n : Nat) : Prop := n ≤ 1000000
def mulOk (i j : Int) : Prop := (-(2 ^ 64) < i ∧ i < 2 ^ 64) ∨ (-(2 ^ 64) < j ∧ j < 2 ^ 64)
def rep (k : Int) (xs : List D) : List D := (List.replicate k.toNat xs).flatten

def opAdd : D → D → W D
  | .int a, .int b => ret (.int (a + b))
  | .tuple xs, .tuple ys => grd (small (xs.length + ys.length)) (ret (.tuple (xs ++ ys)))
  | .list xs, .list ys => grd (small (xs.length + ys.length)) (ret (.list (xs ++ ys)))
  | .str x, .str y => grd (x.length + y.length ≤ 1000000) (ret (.str (x ++ y)))
  | _, _ => stuck
def opSub : D → D → W D
  | .int a, .int b => ret (.int (a - b))
  | _, _ => stuck
def opMul : D → D → W D
  | .int a, .int b => grd (mulOk a b) (ret (.int (a * b)))
  | .tuple xs, .int k => grd (xs ≠ [] ∧ 2 ≤ k ∧ k ≤ 1000 ∧ xs.length ≤ 1000) (ret (.tuple (rep k xs)))
  | .list xs, .int k => grd (0 ≤ k ∧ k ≤ 1000 ∧ xs.length ≤ 1000) (ret (.list (rep k xs)))
  | _, _ => stuck
def opFdiv : D → D → W D
  | .int a, .int b => grd (0 < b ∧ b < 1073741824) (ret (.int (a / b)))
  | _, _ => stuck
def opMod : D → D → W D
  | .int a, .int b => grd (0 < b) (ret (.int (a % b)))
  | _, _ => stuck
def opPow : D → D → W D
  | .int a, .int b => grd (0 ≤ b ∧ b ≤ 1000 ∧ a.natAbs < 2 ^ 64) (ret (.int (a ^ b.toNat)))
  | _, _ => stuck
def opNeg : D → W D
  | .int a => ret (.int (-a))
  | _ => stuck
/-- truth -/
def tru : D → W Bool
  | .none => ret false
  | .bool b => ret b
  | .int i => ret (i != 0)
  | .str x => grd (x.length ≤ 1000000) (ret ((x.length : Int) != 0))
  | .tuple xs => ret (!xs.isEmpty)
  | .list xs => ret (!xs.isEmpty)
  | .dict _ => stuck
def eqOk : D → D → Prop
  | .str _, .str _ => True
  | a, b => SeqAt.shaped a = true ∧ SeqAt.shaped b = true
def opEq (a b : D) : W Bool := grd (eqOk a b) (ret (PyData.eqv a b))
theorem eqOk_of {a b : D} (h : SeqAt.shaped a = true) (h2 : SeqAt.shaped b = true) : eqOk a b := by
  unfold eqOk
  split
  · exact True.intro
  · exact ⟨h, h2⟩
def opLt : D → D → W Bool
  | .int a, .int b => ret (decide (a < b))
  | _, _ => stuck
def opLe : D → D → W Bool
  | .int a, .int b => ret (decide (a ≤ b))
  | _, _ => stuck
def isNone : D → Bool
  | .none => true
  | _ => false
inductive Cmp where
  | eq | ne | lt | le | gt | ge | isN | notN
def opCmp : Cmp → D → D → W Bool
  | .eq, a, b => opEq a b
  | .ne, a, b => bnd (opEq a b) fun c => ret (!c)
  | .lt, a, b => opLt a b
  | .le, a, b => opLe a b
  | .gt, a, b => opLt b a
  | .ge, a, b => opLe b a
  | .isN, a, b => grd (b = .none) (ret (isNone a))
  | .notN, a, b => grd (b = .none) (ret (!isNone a))
inductive Op where
  | add | sub | mul | fdiv | mod | pow
def opBin : Op → D → D → W D
  | .add => opAdd
  | .sub => opSub
  | .mul => opMul
  | .fdiv => opFdiv
  | .mod => opMod
  | .pow => opPow

/-- the items of a sequence -/
def itemsOf : D → W (List D)
  | .tuple xs => ret xs
  | .list xs => ret xs
  | _ => stuck
def opIdx : D → D → W D
  | .tuple xs, .int i => match L2.atI xs i with | some d => ret d | none => stuck
  | .list xs, .int i => match L2.atI xs i with | some d => ret d | none => stuck
  | _, _ => stuck
/-- a part's bound: an int, or none written -/
def sIx (n d : Nat) : Option Int → Nat := HT.sIx n d
def cut (xs : List D) (lo hi : Option Int) : List D := (xs.drop (HT.sIx xs.length 0 lo)).take (HT.sIx xs.length xs.length hi - HT.sIx xs.length 0 lo)
def opCut : D → Option Int → Option Int → W D
  | .tuple xs, lo, hi => ret (.tuple (cut xs lo hi))
  | .list xs, lo, hi => ret (.list (cut xs lo hi))
  | _, _, _ => stuck
def asInt : D → W Int
  | .int i => ret i
  | _ => stuck

/-- the ints of a list of ints -/
def ints? : List D → Option (List Int)
  | [] => some []
  | .int i :: r => (ints? r).map (i :: ·)
  | _ :: _ => none
def bools? : List D → Option (List Bool)
  | [] => some []
  | .bool i :: r => (bools? r).map (i :: ·)
  | _ :: _ => none
theorem ints?_map (ns : List Int) : ints? (ns.map PyData.int) = some ns := by
  induction ns with
  | nil => rfl
  | cons a r ih => simp [ints?, ih]
theorem ints?_eq : ∀ {ds : List D} {ns : List Int}, ints? ds = some ns → ds = ns.map PyData.int
  | [], ns, h => by simp [ints?] at h; subst h; rfl
  | .int i :: r, ns, h => by
    simp only [ints?, Option.map_eq_some_iff] at h
    obtain ⟨l, h1, rfl⟩ := h
    rw [ints?_eq h1]; rfl
  | .none :: r, ns, h => by simp [ints?] at h
  | .bool _ :: r, ns, h => by simp [ints?] at h
  | .str _ :: r, ns, h => by simp [ints?] at h
  | .list _ :: r, ns, h => by simp [ints?] at h
  | .tuple _ :: r, ns, h => by simp [ints?] at h
  | .dict _ :: r, ns, h => by simp [ints?] at h
theorem bools?_map (ns : List Bool) : bools? (ns.map PyData.bool) = some ns := by
  induction ns with
  | nil => rfl
  | cons a r ih => simp [bools?, ih]
theorem bools?_eq : ∀ {ds : List D} {ns : List Bool}, bools? ds = some ns → ds = ns.map PyData.bool
  | [], ns, h => by simp [bools?] at h; subst h; rfl
  | .bool i :: r, ns, h => by
    simp only [bools?, Option.map_eq_some_iff] at h
    obtain ⟨l, h1, rfl⟩ := h
    rw [bools?_eq h1]; rfl
  | .none :: r, ns, h => by simp [bools?] at h
  | .int _ :: r, ns, h => by simp [bools?] at h
  | .str _ :: r, ns, h => by simp [bools?] at h
  | .list _ :: r, ns, h => by simp [bools?] at h
  | .tuple _ :: r, ns, h => by simp [bools?] at h
  | .dict _ :: r, ns, h => by simp [bools?] at h
def greatest (a : Int) (l : List Int) : Int := l.foldl max a
def least (a : Int) (l : List Int) : Int := l.foldl min a

/-! ### built-in calls -/
inductive B1 where
  | len | sum | max | min | abs | repr | str | tuple | list | all | any | sorted | bool | int
def showOk (d : D) : Prop := PyData.showable d = true ∧ PyData.depth d ≤ 40 ∧ (PyData.shown d).length ≤ 1000000
def seqOf (d : D) : W (List D) := itemsOf d
def intsOf (d : D) : W (List Int) := bnd (itemsOf d) fun xs => match ints? xs with | some ns => ret ns | none => stuck
def bi1 : B1 → D → W D
  | .len, .tuple xs => ret (.int xs.length)
  | .len, .list xs => ret (.int xs.length)
  | .len, .str x => grd (x.length ≤ 1000000) (ret (.int x.length))
  | .len, _ => stuck
  | .sum, d => bnd (intsOf d) fun ns => ret (.int ns.sum)
  | .max, d => bnd (intsOf d) fun ns => match ns with | [] => stuck | a :: r => ret (.int (greatest a r))
  | .min, d => bnd (intsOf d) fun ns => match ns with | [] => stuck | a :: r => ret (.int (least a r))
  | .abs, .int i => ret (.int (if i < 0 then -i else i))
  | .abs, _ => stuck
  | .repr, d => grd (showOk d) (ret (.str (PyData.shown d)))
  | .str, .int i => grd (i.natAbs.log2 < 1920) (ret (.str (toString i)))
  | .str, .str x => ret (.str x)
  | .str, _ => stuck
  | .tuple, d => bnd (itemsOf d) fun xs => ret (.tuple xs)
  | .list, d => bnd (itemsOf d) fun xs => ret (.list xs)
  | .all, .list xs => match bools? xs with | some bs => ret (.bool (bs.all id)) | none => stuck
  | .all, _ => stuck
  | .any, .list xs => match bools? xs with | some bs => ret (.bool (bs.any id)) | none => stuck
  | .any, _ => stuck
  | .sorted, _ => stuck
  | .bool, _ => stuck
  | .int, .int i => ret (.int i)
  | .int, _ => stuck
inductive B2 where
  | max | min
def bi2 : B2 → D → D → W D
  | .max, .int i, .int j => ret (.int (if j > i then j else i))
  | .min, .int i, .int j => ret (.int (if j < i then j else i))
  | _, _, _ => stuck
/-- isinstance by a built-in type's name -/
def tyName : D → String
  | .none => "NoneType"
  | .bool _ => "bool"
  | .int _ => "int"
  | .str _ => "str"
  | .tuple _ => "tuple"
  | .list _ => "list"
  | .dict _ => "dict"
inductive Ty where
  | int | bool | tuple | str | list | dict
def isTy : Ty → D → Bool
  | .int, .int _ => true
  | .int, .bool _ => true
  | .bool, .bool _ => true
  | .tuple, .tuple _ => true
  | .str, .str _ => true
  | .list, .list _ => true
  | .dict, .dict _ => true
  | _, _ => false

/-! ### expressions -/
abbrev XE := Env → W D
abbrev XT := Env → W Bool
abbrev XA := Env → W (List D)
def eVar (i : Nat) : XE := fun E => match E[i]? with | some (.val d) => ret d | _ => stuck
def eCon (d : D) : XE := fun _ => ret d
def eBin (o : Op) (a b : XE) : XE := fun E => bnd (a E) fun x => bnd (b E) fun y => opBin o x y
def eNeg (a : XE) : XE := fun E => bnd (a E) opNeg
def eCmp (o : Cmp) (a b : XE) : XE := fun E => bnd (a E) fun x => bnd (b E) fun y => bnd (opCmp o x y) fun c => ret (.bool c)
/-- a o b o' c, o(a, b) first -/
def eChain (o o' : Cmp) (a b c : XE) : XE := fun E => bnd (a E) fun x => bnd (b E) fun y => bnd (opCmp o x y) fun k => if k = true then bnd (c E) fun z => bnd (opCmp o' y z) fun k' => ret (.bool k') else ret (.bool false)
/-- a test: the truth of a value -/
def tTru (a : XE) : XT := fun E => bnd (a E) tru
def tNot (t : XT) : XT := fun E => bnd (t E) fun c => ret (!c)
def tAnd (t u : XT) : XT := fun E => bnd (t E) fun c => if c = true then u E else ret false
def tOr (t u : XT) : XT := fun E => bnd (t E) fun c => if c = true then ret true else u E
/-- .. as values -/
def eNot (a : XE) : XE := fun E => bnd (a E) fun x => bnd (tru x) fun c => ret (.bool (!c))
def eAnd (a b : XE) : XE := fun E => bnd (a E) fun x => bnd (tru x) fun c => if c = true then b E else ret x
def eOr (a b : XE) : XE := fun E => bnd (a E) fun x => bnd (tru x) fun c => if c = true then ret x else b E
def eIf (t : XT) (a b : XE) : XE := fun E => bnd (t E) fun c => if c = true then a E else b E
def eB1 (f : B1) (a : XE) : XE := fun E => bnd (a E) (bi1 f)
def eB2 (f : B2) (a b : XE) : XE := fun E => bnd (a E) fun x => bnd (b E) fun y => bi2 f x y
def eIs (t : Ty) (a : XE) : XE := fun E => bnd (a E) fun x => ret (.bool (isTy t x))
def eIdx (a b : XE) : XE := fun E => bnd (a E) fun x => bnd (b E) fun y => opIdx x y
abbrev XO := Env → W (Option Int)
def oNone : XO := fun _ => ret none
def oSome (a : XE) : XO := fun E => bnd (a E) fun x => bnd (asInt x) fun i => ret (some i)
def eCut (a : XE) (lo hi : XO) : XE := fun E => bnd (a E) fun x => bnd (lo E) fun l => bnd (hi E) fun h => opCut x l h
def opRev : D → W D
  | .tuple xs => ret (.tuple xs.reverse)
  | .list xs => ret (.list xs.reverse)
  | _ => stuck
def eRev (a : XE) : XE := fun E => bnd (a E) opRev
def aNil : XA := fun _ => ret []
def aCons (a : XE) (r : XA) : XA := fun E => bnd (a E) fun x => bnd (r E) fun xs => ret (x :: xs)
/-- *a, .. -/
def aStar (a : XE) (r : XA) : XA := fun E => bnd (a E) fun x => bnd (itemsOf x) fun ys => bnd (r E) fun xs => ret (ys ++ xs)
def eTup (a : XA) : XE := fun E => bnd (a E) fun xs => grd (small xs.length) (ret (.tuple xs))
def eLst (a : XA) : XE := fun E => bnd (a E) fun xs => grd (small xs.length) (ret (.list xs))
/-- a call of a def: what it does of its arguments -/
abbrev Fn := List D → W D
def eCall (f : Fn) (a : XA) : XE := fun E => bnd (a E) f
/-- a call whose first argument is the stream -/
def eCallS (f : Fn) (s : Nat) (a : XA) : XE := fun E => match E[s]? with | some .stm => bnd (a E) f | _ => stuck
/-- a draw -/
def draw (many : Int) : W D := fun n P _ => (0 < many ∧ many < 1073741824 ∧ n < 2 ^ 40) ∧ ∀ r : Int, 0 ≤ r → r < many → P (.int r) (n + 1)
def fDraw : Fn := fun ds => match ds with
  | [.int many] => draw many
  | _ => stuck
/-- what a loop walks -/
def iScr (i : Nat) : XA := fun E => match E[i]? with | some (.scr ns) => ret (ns.map PyData.int) | _ => stuck
def iSeq (a : XE) : XA := fun E => bnd (a E) itemsOf
def rng (a b : Int) : List D := (List.range (b - a).toNat).map fun (i : Nat) => PyData.int (a + (i : Int))
def rngOk (a b : Int) : Prop := -(2 ^ 60) < a ∧ a < 2 ^ 60 ∧ -(2 ^ 60) < b ∧ b < 2 ^ 60
def iRng1 (a : XE) : XA := fun E => bnd (a E) fun x => bnd (asInt x) fun n => grd (rngOk 0 n) (ret (rng 0 n))
def iRng2 (a b : XE) : XA := fun E => bnd (a E) fun x => bnd (b E) fun y => bnd (asInt x) fun n => bnd (asInt y) fun m => grd (rngOk n m) (ret (rng n m))
def enumL (xs : List D) : List D := (List.range xs.length).zipWith (fun (i : Nat) x => PyData.tuple [.int (i : Int), x]) xs
def iEnum (a : XE) : XA := fun E => bnd (a E) fun x => bnd (itemsOf x) fun xs => ret (enumL xs)
def zipL (xs ys : List D) : List D := xs.zipWith (fun x y => PyData.tuple [x, y]) ys
def iZip (a b : XE) : XA := fun E => bnd (a E) fun x => bnd (b E) fun y => bnd (itemsOf x) fun xs => bnd (itemsOf y) fun ys => ret (zipL xs ys)
/-- list(range(..)), tuple(range(..)) -/
def eLstR (a : XA) : XE := fun E => bnd (a E) fun xs => grd (small xs.length) (ret (.list xs))
def eTupR (a : XA) : XE := fun E => bnd (a E) fun xs => grd (small xs.length) (ret (.tuple xs))
/-- a target: a name, names -/
inductive Tg where
  | nm (i : Nat)
  | tp (is : List Nat)
def setAll : List Nat → List D → Env → Option Env
  | [], [], E => some E
  | i :: is, d :: ds, E => setAll is ds (E.set i (.val d))
  | _, _, _ => none
def Tg.put : Tg → D → Env → Option Env
  | .nm i, d, E => some (E.set i (.val d))
  | .tp is, .tuple ds, E => setAll is ds E
  | .tp _, _, _ => none
/-- a list comprehension: its own names at vs; no error may leave it -/
def wipeE (E : Env) : List Nat → Env
  | [] => E
  | v :: vs => (wipeE E vs).set v .unk
def noX {α : Type} (m : W α) : W α := fun n P _ => m n P fun _ => False
@[simp] theorem noX_ret {α : Type} (a : α) : noX (ret a) = ret a := rfl
theorem noX_grd {α : Type} {c : Prop} (m : W α) : noX (grd c m) = grd c (noX m) := rfl
def compL (tg : Tg) (t : XT) (e : XE) : List D → List D → Env → W (List D)
  | [], acc, _ => ret acc
  | d :: ds, acc, E => match tg.put d E with
    | none => stuck
    | some E1 => bnd (t E1) fun c => if c = true then bnd (e E1) fun y => grd (small acc.length) (compL tg t e ds (acc ++ [y]) E) else compL tg t e ds acc E
def eComp (it : XA) (tg : Tg) (t : XT) (e : XE) (vs : List Nat) : XE := fun E => bnd (it E) fun ds => bnd (noX (compL tg t e ds [] (wipeE E vs))) fun ys => ret (.list ys)
def tYes : XT := fun _ => ret true
/-- an expression that reads the own list at i: what comes has no list within -/
def eBor (i : Nat) (e : XE) : XE := fun E => match E[i]? with
  | some (.own ds) => bnd (e (E.set i (.val (.list ds)))) fun d => grd (flat d = true) (ret d)
  | _ => e E
def tBor (i : Nat) (t : XT) : XT := fun E => match E[i]? with
  | some (.own ds) => t (E.set i (.val (.list ds)))
  | _ => t E

/-! ### statements -/
inductive Out where
  | nx (E : Env)
  | rt (d : D)
  | bk (E : Env)
  | ct (E : Env)
abbrev XS := Env → W Out
def sSeq (a b : XS) : XS := fun E => bnd (a E) fun o => match o with
  | .nx E' => b E'
  | o => ret o
def sSkip : XS := fun E => ret (.nx E)
def sAsg (i : Nat) (e : XE) : XS := fun E => bnd (e E) fun d => ret (.nx (E.set i (.val d)))
def sPut (tg : Tg) (e : XE) : XS := fun E => bnd (e E) fun d => match tg.put d E with
  | some E' => ret (.nx E')
  | none => stuck
/-- a, b = x, y -/
def sPar (i j : Nat) (a b : XE) : XS := fun E => bnd (a E) fun x => bnd (b E) fun y => ret (.nx ((E.set i (.val x)).set j (.val y)))
/-- name = a new list -/
def sOwn (i : Nat) (e : XE) : XS := fun E => bnd (e E) fun d => match d with
  | .list ds => ret (.nx (E.set i (.own ds)))
  | _ => stuck
/-- the own list at i is from here on a value -/
def sRel (i : Nat) (s : XS) : XS := fun E => match E[i]? with
  | some (.own ds) => s (E.set i (.val (.list ds)))
  | _ => s E
def sApp (i : Nat) (e : XE) : XS := fun E => match E[i]? with
  | some (.own ds) => bnd (e E) fun d => grd (small ds.length) (ret (.nx (E.set i (.own (ds ++ [d])))))
  | _ => stuck
/-- xs[k] = e at the own list at i -/
def sSet (i : Nat) (k e : XE) : XS := fun E => match E[i]? with
  | some (.own ds) => bnd (e E) fun d => bnd (k E) fun n => match n with
    | .int z => match L2.ixN ds.length z with
      | some j => ret (.nx (E.set i (.own (ds.set j d))))
      | none => stuck
    | _ => stuck
  | _ => stuck
def sIf (t : XT) (a b : XS) : XS := fun E => bnd (t E) fun c => if c = true then a E else b E
def forL (tg : Tg) (s : XS) : List D → XS
  | [], E => ret (.nx E)
  | d :: ds, E => match tg.put d E with
    | none => stuck
    | some E1 => bnd (s E1) fun o => match o with
      | .nx E' => forL tg s ds E'
      | .ct E' => forL tg s ds E'
      | .bk E' => ret (.nx E')
      | .rt d => ret (.rt d)
def sFor (it : XA) (tg : Tg) (s : XS) : XS := fun E => bnd (it E) fun ds => forL tg s ds E
def whileL (t : XT) (s : XS) : Nat → XS
  | 0, _ => stuck
  | n + 1, E => bnd (t E) fun c => if c = true then bnd (s E) fun o => match o with
      | .nx E' => whileL t s n E'
      | .ct E' => whileL t s n E'
      | .bk E' => ret (.nx E')
      | .rt d => ret (.rt d)
    else ret (.nx E)
def sWhile (t : XT) (s : XS) : XS := fun E c P X => ∃ n, whileL t s n E c P X
def sRet (e : XE) : XS := fun E => bnd (e E) fun d => ret (.rt d)
def sRetN : XS := fun _ => ret (.rt .none)
def sExpr (e : XE) : XS := fun E => bnd (e E) fun _ => ret (.nx E)
def sBreak : XS := fun E => ret (.bk E)
def sCont : XS := fun E => ret (.ct E)
/-- raise C(f = e) -/
def sRaise (cls : Str) (fs : List Str) (a : XA) : XS := fun E => bnd (a E) fun xs => thr ⟨cls, fs.zip xs⟩
/-- a def: so many parameters, so many slots, its body -/
def endOf : Out → W D
  | .rt d => ret d
  | .nx _ => ret .none
  | _ => stuck
def start (n : Nat) (E : Env) : Env := E ++ List.replicate (n - E.length) .unk
def fn (k n : Nat) (s : XS) : Fn := fun ds => grd (ds.length = k) (bnd (s (start n (ds.map .val))) endOf)
/-- .. whose first parameter is the stream -/
def fnS (k n : Nat) (s : XS) : Fn := fun ds => grd (ds.length + 1 = k) (bnd (s (start n (.stm :: ds.map .val))) endOf)
end DL

end

section
/-! BR1: what a value of the hand layer is as data; heaps; environments. -/
namespace DL
open PySem PySem.Spec PyProof.Rows L2

mutual
/-- the value is that data; B: places that may change, no list of the data stands there -/
inductive Rep (K : PySem.W.Frag) (B : Addr → Prop) (H : Hp) : V → PyData → Prop
  | non : Rep K B H .non .none
  | bl (b : Bool) : Rep K B H (.bl b) (.bool b)
  | int (i : Int) : Rep K B H (.int i) (.int i)
  | str (x : Str) : Rep K B H (.str x) (.str x)
  | lst {a : Addr} {xs : List V} {ds : List PyData} : H a = some (.lst xs) → ¬ B a → Reps K B H xs ds → Rep K B H (.ref a) (.list ds)
  | tup {a : Addr} {xs : List V} {ds : List PyData} : SqT K H a xs → Reps K B H xs ds → Rep K B H (.ref a) (.tuple ds)
inductive Reps (K : PySem.W.Frag) (B : Addr → Prop) (H : Hp) : List V → List PyData → Prop
  | nil : Reps K B H [] []
  | cons {v : V} {vs : List V} {d : PyData} {ds : List PyData} : Rep K B H v d → Reps K B H vs ds → Reps K B H (v :: vs) (d :: ds)
end

/-- what is kept for good: tuples, locked things -/
def Imm : HO → Prop
  | .tup _ => True
  | .frz _ _ => True
  | _ => False
/-- all is kept but what stands at places of B -/
structure Ext (B : Addr → Prop) (H H' : Hp) : Prop where
  keep : ∀ a o, H a = some o → ¬ B a → H' a = some o
  imm : ∀ a o, H a = some o → Imm o → H' a = some o
  dom : ∀ a, H a ≠ none → H' a ≠ none
abbrev All (H H' : Hp) : Prop := ∀ a o, H a = some o → H' a = some o

section
variable {K : PySem.W.Frag} {B B' B'' : Addr → Prop} {H H' H'' : Hp}
theorem All.ext (h : All H H') : Ext B H H' := ⟨fun a o e _ => h a o e, fun a o e _ => h a o e, fun a n => by
  cases e : H a with
  | none => exact absurd e n
  | some o => rw [h a o e]; exact fun z => nomatch z⟩
theorem All.refl : All H H := fun _ _ e => e
theorem All.trans (h : All H H') (h' : All H' H'') : All H H'' := fun a o e => h' a o (h a o e)
theorem All.new {p : Addr} {o : HO} (h : H p = none) : All H (upd H p o) := fun a u e => by
  rw [upd_ne (ne_of_none e h)]; exact e
theorem Ext.refl : Ext B H H := All.refl.ext
theorem Ext.trans (h : Ext B H H') (h' : Ext B H' H'') : Ext B H H'' :=
  ⟨fun a o e n => h'.keep a o (h.keep a o e n) n, fun a o e i => h'.imm a o (h.imm a o e i) i, fun a n => h'.dom a (h.dom a n)⟩
theorem Ext.more (h : Ext B H H') (s : ∀ a, B a → B' a) : Ext B' H H' :=
  ⟨fun a o e n => h.keep a o e fun z => n (s a z), h.imm, h.dom⟩
theorem some_ne {a : Addr} {o : HO} (e : H a = some o) : H a ≠ none := by rw [e]; exact fun z => nomatch z

theorem Ext.sqT (h : Ext B H H') {a : Addr} {xs : List V} (q : SqT K H a xs) : SqT K H' a xs := by
  rcases q with (q | ⟨o, q⟩) | q
  · exact .inl (.inl (h.imm a _ q True.intro))
  · exact .inl (.inr ⟨o, h.imm a _ q True.intro⟩)
  · exact .inr q
mutual
theorem Rep.mono (h : Ext B H H') : ∀ {v : V} {d : PyData}, Rep K B H v d → Rep K B H' v d
  | _, _, .non => .non
  | _, _, .bl b => .bl b
  | _, _, .int i => .int i
  | _, _, .str x => .str x
  | _, _, .lst e n r => .lst (h.keep _ _ e n) n (Reps.mono h r)
  | _, _, .tup e r => .tup (h.sqT e) (Reps.mono h r)
theorem Reps.mono (h : Ext B H H') : ∀ {vs : List V} {ds : List PyData}, Reps K B H vs ds → Reps K B H' vs ds
  | _, _, .nil => .nil
  | _, _, .cons r t => .cons (Rep.mono h r) (Reps.mono h t)
end
mutual
/-- other places: none of the data's lists stands at one -/
theorem Rep.grow (h : ∀ a, B' a → H a ≠ none → B a) : ∀ {v : V} {d : PyData}, Rep K B H v d → Rep K B' H v d
  | _, _, .non => .non
  | _, _, .bl b => .bl b
  | _, _, .int i => .int i
  | _, _, .str x => .str x
  | _, _, .lst e n r => .lst e (fun z => n (h _ z (some_ne e))) (Reps.grow h r)
  | _, _, .tup e r => .tup e (Reps.grow h r)
theorem Reps.grow (h : ∀ a, B' a → H a ≠ none → B a) : ∀ {vs : List V} {ds : List PyData}, Reps K B H vs ds → Reps K B' H vs ds
  | _, _, .nil => .nil
  | _, _, .cons r t => .cons (Rep.grow h r) (Reps.grow h t)
end
theorem Rep.less (h : ∀ a, B' a → B a) {v : V} {d : PyData} (r : Rep K B H v d) : Rep K B' H v d := r.grow fun a z _ => h a z
theorem Reps.less (h : ∀ a, B' a → B a) {vs : List V} {ds : List PyData} (r : Reps K B H vs ds) : Reps K B' H vs ds := r.grow fun a z _ => h a z
mutual
theorem Rep.flat : ∀ {v : V} {d : PyData}, DL.flat d = true → Rep K B H v d → Rep K B' H v d
  | _, _, _, .non => .non
  | _, _, _, .bl b => .bl b
  | _, _, _, .int i => .int i
  | _, _, _, .str x => .str x
  | _, _, h, .lst _ _ _ => by simp [DL.flat] at h
  | _, _, h, .tup e r => .tup e (Reps.flat (by simpa [DL.flat] using h) r)
theorem Reps.flat : ∀ {vs : List V} {ds : List PyData}, DL.flatAll ds = true → Reps K B H vs ds → Reps K B' H vs ds
  | _, _, _, .nil => .nil
  | _, _, h, .cons r t => by
    simp only [DL.flatAll, Bool.and_eq_true] at h
    exact .cons (Rep.flat h.1 r) (Reps.flat h.2 t)
end
mutual
theorem Rep.dp : ∀ {v : V} {d : PyData}, Rep K B H v d → Dp K H v d
  | _, _, .non => .non
  | _, _, .bl b => .bl b
  | _, _, .int i => .int i
  | _, _, .str x => .str x
  | _, _, .lst e _ r => .lst (SqL.of e) (Reps.dp r)
  | _, _, .tup e r => .tup e (Reps.dp r)
theorem Reps.dp : ∀ {vs : List V} {ds : List PyData}, Reps K B H vs ds → DpAll K H vs ds
  | _, _, .nil => .nil
  | _, _, .cons r t => .cons (Rep.dp r) (Reps.dp t)
end
theorem Reps.length : ∀ {vs : List V} {ds : List PyData}, Reps K B H vs ds → vs.length = ds.length
  | _, _, .nil => rfl
  | _, _, .cons _ t => by simp [Reps.length t]
theorem Reps.get : ∀ {vs : List V} {ds : List PyData}, Reps K B H vs ds → ∀ {i : Nat} {d : PyData}, ds[i]? = some d → ∃ v, vs[i]? = some v ∧ Rep K B H v d
  | _, _, .nil, i, d, e => by simp at e
  | _, _, .cons r t, 0, d, e => by
    have e' : _ = d := Option.some.inj e
    subst e'
    exact ⟨_, rfl, r⟩
  | _, _, .cons r t, i + 1, d, e => Reps.get t (i := i) e
theorem Reps.append : ∀ {vs ws : List V} {ds es : List PyData}, Reps K B H vs ds → Reps K B H ws es → Reps K B H (vs ++ ws) (ds ++ es)
  | _, _, _, _, .nil, s => s
  | _, _, _, _, .cons r t, s => .cons r (Reps.append t s)
theorem Reps.drop : ∀ (n : Nat) {vs : List V} {ds : List PyData}, Reps K B H vs ds → Reps K B H (vs.drop n) (ds.drop n)
  | 0, _, _, r => r
  | _ + 1, _, _, .nil => .nil
  | n + 1, _, _, .cons _ t => Reps.drop n t
theorem Reps.take : ∀ (n : Nat) {vs : List V} {ds : List PyData}, Reps K B H vs ds → Reps K B H (vs.take n) (ds.take n)
  | 0, _, _, _ => .nil
  | _ + 1, _, _, .nil => .nil
  | n + 1, _, _, .cons r t => .cons r (Reps.take n t)
theorem Reps.set {v : V} {d : PyData} (r : Rep K B H v d) : ∀ (n : Nat) {vs : List V} {ds : List PyData}, Reps K B H vs ds → Reps K B H (vs.set n v) (ds.set n d)
  | _, _, _, .nil => .nil
  | 0, _, _, .cons _ t => .cons r t
  | n + 1, _, _, .cons q t => .cons q (Reps.set r n t)
theorem Reps.reverse {vs : List V} {ds : List PyData} (r : Reps K B H vs ds) : Reps K B H vs.reverse ds.reverse := by
  induction r using Reps.rec (motive_1 := fun _ _ _ => True) <;> try trivial
  case nil => exact .nil
  case cons r _ _ ih =>
    rw [List.reverse_cons, List.reverse_cons]
    exact ih.append (.cons r .nil)
theorem Reps.rep {vs : List V} {ds : List PyData} (r : Reps K B H vs ds) : ∀ n : Nat, Reps K B H (List.replicate n vs).flatten (List.replicate n ds).flatten
  | 0 => .nil
  | n + 1 => by
    rw [List.replicate_succ, List.replicate_succ, List.flatten_cons, List.flatten_cons]
    exact r.append (Reps.rep r n)
theorem Reps.ints : ∀ {vs : List V} {ds : List PyData} {ns : List Int}, Reps K B H vs ds → ints? ds = some ns → vs = ns.map V.int
  | _, _, ns, .nil, h => by simp [ints?] at h; subst h; rfl
  | _, _, ns, .cons r t, h => by
    have e := ints?_eq h
    cases ns with
    | nil => cases e
    | cons a b =>
      injection e with e1 e2
      subst e1
      cases r with
      | int i =>
        subst e2
        rw [Reps.ints t (ints?_map b)]
        rfl
theorem Reps.bools : ∀ {vs : List V} {ds : List PyData} {ns : List Bool}, Reps K B H vs ds → bools? ds = some ns → vs = ns.map V.bl
  | _, _, ns, .nil, h => by simp [bools?] at h; subst h; rfl
  | _, _, ns, .cons r t, h => by
    have e := bools?_eq h
    cases ns with
    | nil => cases e
    | cons a b =>
      injection e with e1 e2
      subst e1
      cases r with
      | bl i =>
        subst e2
        rw [Reps.bools t (bools?_map b)]
        rfl
theorem Reps.of_ints : ∀ (ns : List Int), Reps K B H (ns.map V.int) (ns.map PyData.int)
  | [] => .nil
  | a :: r => .cons (.int a) (Reps.of_ints r)
end

/-! ### where one stands -/
/-- the body's own: what may change besides (the stream), its state, the entry's heap, the caller's places, what is wanted of errors -/
structure Par where
  B0 : Addr → Prop
  SI : Nat → Hp → Prop
  S : Addr
  H0 : Hp
  Bc : Addr → Prop
  XP : Exn → Prop
  EK : XK
/-- an error behind a call: its class, its fields -/
def ExRep (K : PySem.W.Frag) (mg : Str → Option Value) (B : Addr → Prop) (H : Hp) (x : Exn) (c : Value) (d : Option Addr) : Prop :=
  ∃ C : Addr, mg x.cls = some (.ref C) ∧ c = .ref C ∧ match x.fs with
    | [] => d = none
    | [(f, y)] => ∃ (dd : Addr) (v : V), d = some dd ∧ H dd = some (.xd [(f, v)]) ∧ Rep K B H v y
    | _ => False
structure Par.Ok (K : PySem.W.Frag) (mg : Str → Option Value) (p : Par) : Prop where
  stab : ∀ n H H', p.SI n H → (∀ a o, p.B0 a → H a = some o → H' a = some o) → p.SI n H'
  exc : ∀ n x c d H', p.XP x → p.SI n H' → Ext p.B0 p.H0 H' → ExRep K mg p.Bc H' x c d → p.EK c d H'
structure St0 (p : Par) (n : Nat) (B : Addr → Prop) (H : Hp) : Prop where
  sub : ∀ a, p.B0 a → B a
  subc : ∀ a, p.Bc a → B a
  trk : ∀ a, B a → H a ≠ none
  si : p.SI n H
  ext : Ext p.B0 p.H0 H
inductive Slot (K : PySem.W.Frag) (p : Par) (B : Addr → Prop) (H : Hp) : Option V → Ent → Prop
  | unk (s : Option V) : Slot K p B H s .unk
  | val {v : V} {d : D} : Rep K B H v d → Slot K p B H (some v) (.val d)
  | own {a : Addr} {xs : List V} {ds : List D} : B a → ¬ p.B0 a → ¬ p.Bc a → p.H0 a = none → H a = some (.lst xs) → Reps K B H xs ds → Slot K p B H (some (.ref a)) (.own ds)
  | stm : Slot K p B H (some (.ref p.S)) .stm
  | scr {a : Addr} {ns : List Int} : (∀ H' : Hp, (∀ o, H a = some o → Imm o → H' a = some o) → SqL K H' a (ns.map V.int)) → Slot K p B H (some (.ref a)) (.scr ns)
structure EnvR (K : PySem.W.Frag) (p : Par) (B : Addr → Prop) (H : Hp) (σ : L2.St) (E : Env) : Prop where
  len : σ.length = E.length
  at_ : ∀ (i : Nat) (e : Ent), E[i]? = some e → ∃ s, σ[i]? = some s ∧ Slot K p B H s e
  nd : ∀ (i j : Nat) (a : Addr) (xs ys : List D), E[i]? = some (.own xs) → E[j]? = some (.own ys) → σ[i]? = some (some (.ref a)) → σ[j]? = some (some (.ref a)) → i = j
/-- from a state to another: B may change, what is new is new -/
structure Tr (B : Addr → Prop) (H : Hp) (B' : Addr → Prop) (H' : Hp) : Prop where
  ext : Ext B H H'
  old : ∀ a, B' a → H a ≠ none → B a

section
variable {K : PySem.W.Frag} {mg : Str → Option Value} {p : Par} {B B' B'' : Addr → Prop} {H H' H'' : Hp} {σ : L2.St} {E : Env} {n n' : Nat}
theorem St0.go (s : St0 p n B H) (e : Ext p.B0 H H') (si : p.SI n' H') : St0 p n' B H' := ⟨s.sub, s.subc, fun a b => e.dom a (s.trk a b), si, s.ext.trans e⟩
theorem St0.all (ok : p.Ok K mg) (s : St0 p n B H) (e : All H H') : p.SI n H' := ok.stab n H H' s.si fun a o _ q => e a o q
theorem St0.up (s : St0 p n B H) (e : Ext p.B0 H H') : Ext B H H' := e.more s.sub
theorem Slot.go (e : Ext p.B0 H H') (s : St0 p n B H) {x : Option V} {y : Ent} (h : Slot K p B H x y) : Slot K p B H' x y := by
  cases h with
  | unk _ => exact .unk _
  | val r => exact .val (r.mono (s.up e))
  | own b n nc h0 hl r => exact .own b n nc h0 (e.keep _ _ hl n) (r.mono (s.up e))
  | stm => exact .stm
  | scr q => exact .scr fun H2 hk => q H2 fun o ho hi => hk o (e.imm _ o ho hi) hi
theorem EnvR.go (r : EnvR K p B H σ E) (s : St0 p n B H) (e : Ext p.B0 H H') : EnvR K p B H' σ E :=
  ⟨r.len, fun i x q => let ⟨s', h1, h2⟩ := r.at_ i x q; ⟨s', h1, h2.go e s⟩, r.nd⟩
theorem Tr.refl : Tr B H B H := ⟨Ext.refl, fun _ b _ => b⟩
theorem Tr.trans (a : Tr B H B' H') (b : Tr B' H' B'' H'') : Tr B H B'' H'' where
  ext := ⟨fun x o e n => b.ext.keep x o (a.ext.keep x o e n) fun z => n (a.old x z (some_ne e)), fun x o e i => b.ext.imm x o (a.ext.imm x o e i) i, fun x n => b.ext.dom x (a.ext.dom x n)⟩
  old := fun x z n => a.old x (b.old x z (a.ext.dom x n)) n
theorem Tr.of (e : Ext B H H') : Tr B H B H' := ⟨e, fun _ b _ => b⟩
mutual
/-- data that was known stays known -/
theorem Rep.tr (t : Tr B H B' H') : ∀ {v : V} {d : PyData}, Rep K B H v d → Rep K B' H' v d
  | _, _, .non => .non
  | _, _, .bl b => .bl b
  | _, _, .int i => .int i
  | _, _, .str x => .str x
  | _, _, .lst e n r => .lst (t.ext.keep _ _ e n) (fun z => n (t.old _ z (some_ne e))) (Reps.tr t r)
  | _, _, .tup e r => .tup (t.ext.sqT e) (Reps.tr t r)
theorem Reps.tr (t : Tr B H B' H') : ∀ {vs : List V} {ds : List PyData}, Reps K B H vs ds → Reps K B' H' vs ds
  | _, _, .nil => .nil
  | _, _, .cons r u => .cons (Rep.tr t r) (Reps.tr t u)
end
end
end DL

end

section
/-! BR2: expressions and tests. -/
namespace DL
open PySem PySem.Spec PyProof.Rows L2

/-- what is known of the body that runs -/
structure Sit (X : Cx) (p : Par) (k : Nat) : Prop where
  calm : X.calm = true
  gd : X.A.guards = some []
  rm : Room k X.A
  nd : X.N.Nodup
  ok : p.Ok X.K X.mg
  po : PassesOwn (model X.prog X.w) X.A X.env X.xe
  ps : Passes (L2.CX X.prog X.w) X p.EK

def EvR (K : PySem.W.Frag) (p : Par) (te : TE) (m : XE) : Prop :=
  ∀ (B : Addr → Prop) (H : Hp) (σ : L2.St) (E : Env) (c : Nat) (P : D → Nat → Prop) (Q : VK), St0 p c B H → EnvR K p B H σ E → m E c P p.XP →
    (∀ d c' v H', P d c' → Ext p.B0 H H' → p.SI c' H' → Rep K B H' v d → Q v H') → te σ H Q
def EvT (K : PySem.W.Frag) (p : Par) (tt : TT) (m : XT) : Prop :=
  ∀ (B : Addr → Prop) (H : Hp) (σ : L2.St) (E : Env) (c : Nat) (P : Bool → Nat → Prop) (Q : Bool → Hp → Prop), St0 p c B H → EnvR K p B H σ E → m E c P p.XP →
    (∀ b c' H', P b c' → Ext p.B0 H H' → p.SI c' H' → Q b H') → tt σ H Q
def EvA (K : PySem.W.Frag) (p : Par) (ta : TA) (m : XA) : Prop :=
  ∀ (B : Addr → Prop) (H : Hp) (σ : L2.St) (E : Env) (c : Nat) (P : List D → Nat → Prop) (Q : List V → Hp → Prop), St0 p c B H → EnvR K p B H σ E → m E c P p.XP →
    (∀ ds c' vs H', P ds c' → Ext p.B0 H H' → p.SI c' H' → Reps K B H' vs ds → Q vs H') → ta σ H Q
structure PD (X : Cx) (p : Par) (e : Expr) (m : XE) : Prop where
  ex : ∃ te, PE X e te ∧ EvR X.K p te m
structure PDT (X : Cx) (p : Par) (e : Expr) (m : XT) : Prop where
  ex : ∃ tt, PT X e tt ∧ EvT X.K p tt m
structure PDW (X : Cx) (p : Par) (e : Expr) (m : XT) : Prop where
  ex : ∃ tt, PW X e tt ∧ EvT X.K p tt m
structure PDA (X : Cx) (p : Par) (es : List Expr) (m : XA) : Prop where
  ex : ∃ ta, PA X es ta ∧ EvA X.K p ta m

section
variable {X : Cx} {p : Par} {k : Nat} {K : PySem.W.Frag}

/-! ### names, constants -/
theorem pd_var (i : Nat) {x : Str} {pos : Pos} (hN : X.N[i]? = some x := by rfl) (hv : Vis X.env.scope x := by first | exact Or.inl rfl | exact Or.inr (Or.inl rfl) | exact Or.inr (Or.inr rfl))
    (hd : (x == ("__debug__" : Str)) = false := by decide) (hcd : (x == ("__classdict__" : Str)) = false := by decide) : PD X p (.Name x pos) (eVar i) := by
  refine ⟨tVar i, pe_var hN hv hd hcd, fun B H σ E c P Q s r m k => ?_⟩
  unfold eVar at m
  cases e : E[i]? with
  | none => rw [e] at m; exact m.elim
  | some y =>
    rw [e] at m
    obtain ⟨z, h1, h2⟩ := r.at_ i y e
    cases h2 with
    | unk _ => exact m.elim
    | val q => exact ⟨_, h1, k _ _ _ H m Ext.refl s.si q⟩
    | own _ _ _ _ _ _ => exact m.elim
    | stm => exact m.elim
    | scr _ => exact m.elim
theorem ev_con {v : V} {d : D} (h : ∀ B H, Rep K B H v d) : EvR K p (tC v) (eCon d) := fun B H σ E c P Q s r m k => k d _ v H m Ext.refl s.si (h B H)
theorem pd_int {i j pos} : PD X p (.Constant (.int i) j pos) (eCon (.int i)) := ⟨_, pe_int, ev_con fun _ _ => .int i⟩
theorem pd_bl {b j pos} : PD X p (.Constant (.bool b) j pos) (eCon (.bool b)) := ⟨_, pe_bl, ev_con fun _ _ => .bl b⟩
theorem pd_non {j pos} : PD X p (.Constant .none j pos) (eCon .none) := ⟨_, pe_non, ev_con fun _ _ => .non⟩
theorem pd_str {x j pos} : PD X p (.Constant (.str x) j pos) (eCon (.str x)) := ⟨_, pe_str, ev_con fun _ _ => .str x⟩
/-- a constant of the module -/
theorem pd_glob {x : Str} {i : Int} {pos : Pos} (hm : ∃ t, X.mg x = some (.int i t)) (hg : Gl X x := by rfl) (hd : (x == ("__debug__" : Str)) = false := by decide) : PD X p (.Name x pos) (eCon (.int i)) := by
  obtain ⟨t, hm⟩ := hm
  exact ⟨_, pe_glob (v := .int i) hg hm ⟨t, rfl⟩ hd, ev_con fun _ _ => .int i⟩

/-! ### operations by data -/
/-- a two-place operation on values that are data -/
def rD2 (K : PySem.W.Frag) (f : D → D → W D) : R2 := fun x y H Q => ∃ (B : Addr → Prop) (d e : D) (c : Nat) (P : D → Nat → Prop) (Xp : Exn → Prop),
  (∀ a, B a → H a ≠ none) ∧ Rep K B H x d ∧ Rep K B H y e ∧ f d e c P Xp ∧ ∀ z v H', P z c → All H H' → Rep K B H' v z → Q v H'
def rD1 (K : PySem.W.Frag) (f : D → W D) : V → Hp → VK → Prop := fun x H Q => ∃ (B : Addr → Prop) (d : D) (c : Nat) (P : D → Nat → Prop) (Xp : Exn → Prop),
  (∀ a, B a → H a ≠ none) ∧ Rep K B H x d ∧ f d c P Xp ∧ ∀ z v H', P z c → All H H' → Rep K B H' v z → Q v H'
def rC1 (K : PySem.W.Frag) (f : D → W D) : List V → Hp → VK → Prop := fun xs H Q => ∃ x, xs = [x] ∧ rD1 K f x H Q
def rC2 (K : PySem.W.Frag) (f : D → D → W D) : List V → Hp → VK → Prop := fun xs H Q => ∃ x y, xs = [x, y] ∧ rD2 K f x y H Q

theorem ev_bnd {ta tb : TE} {ma mb : XE} {r : R2} {f : D → D → W D} (ok : p.Ok K X.mg) (hr : ∀ x y H Q, rD2 K f x y H Q → r x y H Q) (ha : EvR K p ta ma) (hb : EvR K p tb mb) :
    EvR K p (tOp r ta tb) (fun E => bnd (ma E) fun x => bnd (mb E) fun y => f x y) := by
  intro B H σ E c P Q s re m k
  refine ha B H σ E _ _ _ s re m fun d c1 v H1 m1 e1 s1 r1 => ?_
  have st1 := s.go e1 s1
  refine hb B H1 σ E _ _ _ st1 (re.go s e1) m1 fun d2 c2' v2 H2 m2 e2 s2 r2 => ?_
  have st2 := st1.go e2 s2
  refine hr _ _ _ _ ⟨B, d, d2, _, P, p.XP, st2.trk, r1.mono (st1.up e2), r2, m2, fun z v3 H3 pz a3 r3 => ?_⟩
  exact k z _ v3 H3 pz (e1.trans (e2.trans a3.ext)) (st2.all ok a3) r3
theorem ev_bnd1 {ta : TE} {ma : XE} {r : V → Hp → VK → Prop} {f : D → W D} (ok : p.Ok K X.mg) (hr : ∀ x H Q, rD1 K f x H Q → r x H Q) (ha : EvR K p ta ma) :
    EvR K p (tUn r ta) (fun E => bnd (ma E) f) := by
  intro B H σ E c P Q s re m k
  refine ha B H σ E _ _ _ s re m fun d c1 v H1 m1 e1 s1 r1 => ?_
  have st1 := s.go e1 s1
  exact hr _ _ _ ⟨B, d, _, P, p.XP, st1.trk, r1, m1, fun z v3 H3 pz a3 r3 => k z _ v3 H3 pz (e1.trans a3.ext) (st1.all ok a3) r3⟩

/-- fresh tuples, fresh lists -/
theorem rep_tup {B : Addr → Prop} {H : Hp} {q : Addr} {xs : List V} {ds : List D} (hq : H q = none) (r : Reps K B H xs ds) : Rep K B (upd H q (.tup xs)) (.ref q) (.tuple ds) :=
  .tup (SqT.of upd_same) (r.mono (All.new hq).ext)
theorem rep_lst {B : Addr → Prop} {H : Hp} {q : Addr} {xs : List V} {ds : List D} (hb : ∀ a, B a → H a ≠ none) (hq : H q = none) (r : Reps K B H xs ds) : Rep K B (upd H q (.lst xs)) (.ref q) (.list ds) :=
  .lst upd_same (fun z => hb q z hq) (r.mono (All.new hq).ext)
theorem small_line {n : Nat} (h : small n) : n ≤ sizeLine := Nat.le_trans h (by rw [sizeLine_eq]; decide)
theorem small_lt {n : Nat} (h : small n) : n < sizeLine := Nat.lt_of_le_of_lt h (by rw [sizeLine_eq]; decide)

theorem op_addD : OpR X (binaryOp .Add) (rD2 X.K opAdd) := by
  intro pins s σ H x y v u Q I rx ry h
  obtain ⟨B, d, e, c, P, Xp, hb, r1, r2, m, k⟩ := h
  cases r1 with
  | int i =>
    cases r2 with
    | int j => exact op_add pins s σ H _ _ v u Q I rx ry ⟨i, j, rfl, rfl, k _ _ H m All.refl (.int _)⟩
    | _ => exact m.elim
  | str i =>
    cases r2 with
    | str j =>
      obtain ⟨hz, m⟩ := m
      exact op_add_str pins s σ H _ _ v u Q I rx ry ⟨i, j, rfl, rfl, small_line hz, k _ _ H m All.refl (.str _)⟩
    | _ => exact m.elim
  | tup q1 s1 =>
    cases r2 with
    | tup q2 s2 =>
      obtain ⟨hz, m⟩ := m
      have l1 := s1.length
      have l2 := s2.length
      refine op_catA pins s σ H _ _ v u Q I rx ry ⟨_, _, _, _, rfl, rfl, q1, q2, by rw [l1, l2]; exact small_line hz, fun z => ?_, fun n z => ?_, fun n n2 q hq => ?_⟩
      · subst z
        cases s1
        exact k _ _ H m All.refl (.tup q2 s2)
      · subst z
        cases s2
        rw [List.append_nil] at m
        exact k _ _ H m All.refl (.tup q1 s1)
      · exact k _ _ _ m (All.new hq) (rep_tup hq (s1.append s2))
    | _ => exact m.elim
  | lst q1 b1 s1 =>
    cases r2 with
    | lst q2 b2 s2 =>
      obtain ⟨hz, m⟩ := m
      have l1 := s1.length
      have l2 := s2.length
      exact op_cat pins s σ H _ _ v u Q I rx ry ⟨_, _, _, _, rfl, rfl, q1, q2, by rw [l1, l2]; exact small_line hz, fun q hq => k _ _ _ m (All.new hq) (rep_lst hb hq (s1.append s2))⟩
    | _ => exact m.elim
  | _ => exact m.elim
theorem op_subD : OpR X (binaryOp .Sub) (rD2 X.K opSub) := by
  intro pins s σ H x y v u Q I rx ry h
  obtain ⟨B, d, e, c, P, Xp, hb, r1, r2, m, k⟩ := h
  cases r1 with
  | int i =>
    cases r2 with
    | int j => exact op_sub pins s σ H _ _ v u Q I rx ry ⟨i, j, rfl, rfl, k _ _ H m All.refl (.int _)⟩
    | _ => exact m.elim
  | _ => exact m.elim
theorem op_mulD : OpR X (binaryOp .Mult) (rD2 X.K opMul) := by
  intro pins s σ H x y v u Q I rx ry h
  obtain ⟨B, d, e, c, P, Xp, hb, r1, r2, m, k⟩ := h
  cases r1 with
  | int i =>
    cases r2 with
    | int j => exact op_mul pins s σ H _ _ v u Q I rx ry ⟨i, j, rfl, rfl, m.1, k _ _ H m.2 All.refl (.int _)⟩
    | _ => exact m.elim
  | tup q1 s1 =>
    cases r2 with
    | int j =>
      obtain ⟨⟨h0, h1, h2, h3⟩, m⟩ := m
      have l1 := s1.length
      refine op_repT pins s σ H _ _ v u Q I rx ry ⟨_, j, _, rfl, rfl, q1, fun z => ?_, h1, h2, by rw [l1]; exact h3, fun q hq => k _ _ _ m (All.new hq) (rep_tup hq (s1.rep _))⟩
      subst z
      cases s1
      exact h0 rfl
    | _ => exact m.elim
  | lst q1 b1 s1 =>
    cases r2 with
    | int j =>
      obtain ⟨⟨h0, h1, h2⟩, m⟩ := m
      have l1 := s1.length
      have hj : j.toNat ≤ 1000 := by omega
      have hm : (_ : List V).length * j.toNat ≤ 1000 * 1000 := Nat.mul_le_mul (by rw [l1]; exact h2) hj
      exact op_rep pins s σ H _ _ v u Q I rx ry ⟨_, j, _, rfl, rfl, q1, by omega, by omega, Nat.le_trans hm (by rw [sizeLine_eq]; decide), fun q hq => k _ _ _ m (All.new hq) (rep_lst hb hq (s1.rep _))⟩
    | _ => exact m.elim
  | _ => exact m.elim
theorem op_fdivD : OpR X (binaryOp .FloorDiv) (rD2 X.K opFdiv) := by
  intro pins s σ H x y v u Q I rx ry h
  obtain ⟨B, d, e, c, P, Xp, hb, r1, r2, m, k⟩ := h
  cases r1 with
  | int i =>
    cases r2 with
    | int j => exact op_fdiv pins s σ H _ _ v u Q I rx ry ⟨i, j, rfl, rfl, m.1, k _ _ H m.2 All.refl (.int _)⟩
    | _ => exact m.elim
  | _ => exact m.elim
theorem op_modD : OpR X (binaryOp .Mod) (rD2 X.K opMod) := by
  intro pins s σ H x y v u Q I rx ry h
  obtain ⟨B, d, e, c, P, Xp, hb, r1, r2, m, k⟩ := h
  cases r1 with
  | int i =>
    cases r2 with
    | int j => exact op_mod pins s σ H _ _ v u Q I rx ry ⟨i, j, rfl, rfl, m.1, k _ _ H m.2 All.refl (.int _)⟩
    | _ => exact m.elim
  | _ => exact m.elim
theorem op_powD : OpR X (binaryOp .Pow) (rD2 X.K opPow) := by
  intro pins s σ H x y v u Q I rx ry h
  obtain ⟨B, d, e, c, P, Xp, hb, r1, r2, m, k⟩ := h
  cases r1 with
  | int i =>
    cases r2 with
    | int j => exact op_pow pins s σ H _ _ v u Q I rx ry ⟨i, j, rfl, rfl, ⟨m.1.1, Int.le_trans m.1.2.1 (by decide), m.1.2.2⟩, k _ _ H m.2 All.refl (.int _)⟩
    | _ => exact m.elim
  | _ => exact m.elim
def opS : Op → Operator
  | .add => .Add
  | .sub => .Sub
  | .mul => .Mult
  | .fdiv => .FloorDiv
  | .mod => .Mod
  | .pow => .Pow
theorem op_binD : ∀ o : Op, OpR X (binaryOp (opS o)) (rD2 X.K (opBin o))
  | .add => op_addD
  | .sub => op_subD
  | .mul => op_mulD
  | .fdiv => op_fdivD
  | .mod => op_modD
  | .pow => op_powD
theorem pd_bin (S : Sit X p k) (o : Op) {a b : Expr} {ma mb : XE} {pos : Pos} (ha : PD X p a ma) (hb : PD X p b mb) : PD X p (.BinOp a (opS o) b pos) (eBin o ma mb) := by
  obtain ⟨ta, a1, a2⟩ := ha.ex
  obtain ⟨tb, b1, b2⟩ := hb.ex
  exact ⟨_, pe_op (op_binD o) a1 b1, ev_bnd S.ok (fun _ _ _ _ h => h) a2 b2⟩
theorem un_negD : UnR X (unaryOp .USub) (rD1 X.K opNeg) := by
  intro pins s σ H x v Q I rx h
  obtain ⟨B, d, c, P, Xp, hb, r1, m, k⟩ := h
  cases r1 with
  | int i => exact un_neg pins s σ H _ v Q I rx ⟨i, rfl, k _ _ H m All.refl (.int _)⟩
  | _ => exact m.elim
theorem pd_neg (S : Sit X p k) {a : Expr} {ma : XE} {pos : Pos} (ha : PD X p a ma) : PD X p (.UnaryOp .USub a pos) (eNeg ma) := by
  obtain ⟨ta, a1, a2⟩ := ha.ex
  exact ⟨_, pe_un un_negD a1, ev_bnd1 S.ok (fun _ _ _ h => h) a2⟩

/-! ### comparisons -/
def cmpD (o : Cmp) (x y : D) : W D := bnd (opCmp o x y) fun c => ret (.bool c)
def cmpS : Cmp → CmpOp
  | .eq => .Eq
  | .ne => .NotEq
  | .lt => .Lt
  | .le => .LtE
  | .gt => .Gt
  | .ge => .GtE
  | .isN => .Is
  | .notN => .IsNot
theorem rep_non {B : Addr → Prop} {H : Hp} {v : V} {d : D} (r : Rep K B H v d) : decide (v = .non) = isNone d := by
  cases r <;> rfl
theorem op_cmpD (hu : X.A.units + 64 < cLine) : ∀ o : Cmp, OpR X (compareOp (cmpS o)) (rD2 X.K (cmpD o))
  | .eq => by
    intro pins s σ H x y v u Q I rx ry h
    obtain ⟨B, d, e, c, P, Xp, hb, r1, r2, ⟨hok, m⟩, k⟩ := h
    by_cases hs : ∃ a b, d = .str a ∧ e = .str b
    · obtain ⟨a, b, rfl, rfl⟩ := hs
      cases r1
      cases r2
      have es : decide (V.str a = V.str b) = (a == b) := by
        rw [Bool.eq_iff_iff]
        simp
      refine op_eq pins s σ H _ _ v u Q I rx ry ⟨rfl, ?_⟩
      rw [es]
      exact k _ _ H m All.refl (.bl _)
    · have hh : SeqAt.shaped d = true ∧ SeqAt.shaped e = true := by
        unfold eqOk at hok
        split at hok
        · exact absurd ⟨_, _, rfl, rfl⟩ hs
        · exact hok
      exact op_eqD hu pins s σ H _ _ v u Q I rx ry ⟨d, e, r1.dp, r2.dp, hh.1, hh.2, k _ _ H m All.refl (.bl _)⟩
  | .ne => by
    intro pins s σ H x y v u Q I rx ry h
    obtain ⟨B, d, e, c, P, Xp, hb, r1, r2, ⟨hok, m⟩, k⟩ := h
    by_cases hs : ∃ a b, d = .str a ∧ e = .str b
    · obtain ⟨a, b, rfl, rfl⟩ := hs
      cases r1
      cases r2
      have es : decide (V.str a = V.str b) = (a == b) := by
        rw [Bool.eq_iff_iff]
        simp
      refine op_ne pins s σ H _ _ v u Q I rx ry ⟨rfl, ?_⟩
      rw [es]
      exact k _ _ H m All.refl (.bl _)
    · have hh : SeqAt.shaped d = true ∧ SeqAt.shaped e = true := by
        unfold eqOk at hok
        split at hok
        · exact absurd ⟨_, _, rfl, rfl⟩ hs
        · exact hok
      exact op_neD hu pins s σ H _ _ v u Q I rx ry ⟨d, e, r1.dp, r2.dp, hh.1, hh.2, k _ _ H m All.refl (.bl _)⟩
  | .lt => by
    intro pins s σ H x y v u Q I rx ry h
    obtain ⟨B, d, e, c, P, Xp, hb, r1, r2, m, k⟩ := h
    cases r1 with
    | int i =>
      cases r2 with
      | int j => exact op_lt pins s σ H _ _ v u Q I rx ry ⟨i, j, rfl, rfl, k _ _ H m All.refl (.bl _)⟩
      | _ => exact m.elim
    | _ => exact m.elim
  | .le => by
    intro pins s σ H x y v u Q I rx ry h
    obtain ⟨B, d, e, c, P, Xp, hb, r1, r2, m, k⟩ := h
    cases r1 with
    | int i =>
      cases r2 with
      | int j => exact op_le pins s σ H _ _ v u Q I rx ry ⟨i, j, rfl, rfl, k _ _ H m All.refl (.bl _)⟩
      | _ => exact m.elim
    | _ => exact m.elim
  | .gt => by
    intro pins s σ H x y v u Q I rx ry h
    obtain ⟨B, d, e, c, P, Xp, hb, r1, r2, m, k⟩ := h
    cases r1 with
    | int i =>
      cases r2 with
      | int j => exact op_gt pins s σ H _ _ v u Q I rx ry ⟨i, j, rfl, rfl, k _ _ H m All.refl (.bl _)⟩
      | _ => exact m.elim
    | _ => cases r2 <;> exact m.elim
  | .ge => by
    intro pins s σ H x y v u Q I rx ry h
    obtain ⟨B, d, e, c, P, Xp, hb, r1, r2, m, k⟩ := h
    cases r1 with
    | int i =>
      cases r2 with
      | int j => exact op_ge pins s σ H _ _ v u Q I rx ry ⟨i, j, rfl, rfl, k _ _ H m All.refl (.bl _)⟩
      | _ => exact m.elim
    | _ => cases r2 <;> exact m.elim
  | .isN => by
    intro pins s σ H x y v u Q I rx ry h
    obtain ⟨B, d, e, c, P, Xp, hb, r1, r2, ⟨h1, m⟩, k⟩ := h
    subst h1
    cases r2
    refine op_isN pins s σ H _ _ v u Q I rx ry ⟨rfl, ?_⟩
    rw [rep_non r1]
    exact k _ _ H m All.refl (.bl _)
  | .notN => by
    intro pins s σ H x y v u Q I rx ry h
    obtain ⟨B, d, e, c, P, Xp, hb, r1, r2, ⟨h1, m⟩, k⟩ := h
    subst h1
    cases r2
    refine op_notN pins s σ H _ _ v u Q I rx ry ⟨rfl, ?_⟩
    rw [rep_non r1]
    exact k _ _ H m All.refl (.bl _)
theorem Sit.un (S : Sit X p k) : X.A.units + 64 < cLine := S.rm.units
theorem cmpS_mark (o : Cmp) (b : Expr) : behindInMarks (cmpS o) b = false := by cases o <;> exact nomark b
theorem pd_cmp (S : Sit X p k) (o : Cmp) {a b : Expr} {ma mb : XE} {pos : Pos} (ha : PD X p a ma) (hb : PD X p b mb) : PD X p (.Compare a [cmpS o] [b] pos) (eCmp o ma mb) := by
  obtain ⟨ta, a1, a2⟩ := ha.ex
  obtain ⟨tb, b1, b2⟩ := hb.ex
  exact ⟨_, pe_cmpR (op_cmpD S.un o) a1 b1 (cmpS_mark o b), ev_bnd S.ok (f := cmpD o) (fun _ _ _ _ h => h) a2 b2⟩
/-- a test from a value that is a bool -/
theorem et_bool {te : TE} {m : XE} (h : EvR K p te m) : EvT K p (tTest te) (fun E => bnd (m E) fun d => match d with | .bool b => ret b | _ => stuck) := by
  intro B H σ E c P Q s re mm k
  refine h B H σ E _ _ _ s re mm fun d c1 v H1 m1 e1 s1 r1 => ?_
  cases r1 with
  | bl b => exact ⟨b, rfl, k b _ H1 m1 e1 s1⟩
  | _ => exact m1.elim
def tBool (a : XE) : XT := fun E => bnd (a E) fun d => match d with | .bool b => ret b | _ => stuck
theorem pt_cmpD (S : Sit X p k) (o : Cmp) {a b : Expr} {ma mb : XE} {pos : Pos} (ha : PD X p a ma) (hb : PD X p b mb) : PDT X p (.Compare a [cmpS o] [b] pos) (tBool (eCmp o ma mb)) := by
  obtain ⟨ta, a1, a2⟩ := ha.ex
  obtain ⟨tb, b1, b2⟩ := hb.ex
  exact ⟨_, pt_cmpR (op_cmpD S.un o) a1 b1 (cmpS_mark o b), et_bool (m := eCmp o ma mb) (ev_bnd S.ok (f := cmpD o) (fun _ _ _ _ h => h) a2 b2)⟩
theorem ev_chain {ta tb tc : TE} {ma mb mc : XE} {r r' : R2} {o o' : Cmp} (ok : p.Ok K X.mg) (hr : ∀ x y H Q, rD2 K (cmpD o) x y H Q → r x y H Q) (hr' : ∀ x y H Q, rD2 K (cmpD o') x y H Q → r' x y H Q)
    (ha : EvR K p ta ma) (hb : EvR K p tb mb) (hc : EvR K p tc mc) : EvR K p (tChain r r' ta tb tc) (eChain o o' ma mb mc) := by
  intro B H σ E c P Q s re m k
  refine ha B H σ E _ _ _ s re m fun d c1 v H1 m1 e1 s1 r1 => ?_
  have st1 := s.go e1 s1
  have re1 := re.go s e1
  refine hb B H1 σ E _ _ _ st1 re1 m1 fun d2 c2' v2 H2 m2 e2 s2 r2 => ?_
  have st2 := st1.go e2 s2
  have re2 := re1.go st1 e2
  refine hr _ _ _ _ ⟨B, d, d2, c2', (fun z n => ∃ c, z = .bool c ∧ (if c = true then bnd (mc E) fun z => bnd (opCmp o' d2 z) fun k' => ret (.bool k') else ret (.bool false)) n P p.XP), p.XP, st2.trk, r1.mono (st1.up e2), r2, ?_, fun z v3 H3 pz a3 r3 => ?_⟩
  · have e : (cmpD o d d2) = bnd (opCmp o d d2) fun c => ret (.bool c) := rfl
    rw [e]
    have q : ∀ (n : Nat) (P1 P2 : Bool → Nat → Prop) (Xp : Exn → Prop), (∀ b, P1 b n → P2 b n) → opCmp o d d2 n P1 Xp → opCmp o d d2 n P2 Xp := by
      intro n P1 P2 Xp hh h
      cases o with
      | eq => exact ⟨h.1, hh _ h.2⟩
      | ne => exact ⟨h.1, hh _ h.2⟩
      | lt => cases d <;> first | exact h.elim | (cases d2 <;> first | exact h.elim | exact hh _ h)
      | le => cases d <;> first | exact h.elim | (cases d2 <;> first | exact h.elim | exact hh _ h)
      | gt => cases d2 <;> first | exact h.elim | (cases d <;> first | exact h.elim | exact hh _ h)
      | ge => cases d2 <;> first | exact h.elim | (cases d <;> first | exact h.elim | exact hh _ h)
      | isN => exact ⟨h.1, hh _ h.2⟩
      | notN => exact ⟨h.1, hh _ h.2⟩
    exact q _ _ _ _ (fun b hb => ⟨b, rfl, hb⟩) m2
  · obtain ⟨c, rfl, mc'⟩ := pz
    have st3 := st2.go (a3.ext) (st2.all ok a3)
    have re3 := re2.go st2 a3.ext
    have e3 : Ext p.B0 H H3 := e1.trans (e2.trans a3.ext)
    cases r3
    refine ⟨c, rfl, ?_⟩
    cases c with
    | true =>
      refine hc B H3 σ E _ _ _ st3 re3 mc' fun d4 c4' v4 H4 m4 e4 s4 r4 => ?_
      have st4 := st3.go e4 s4
      refine hr' _ _ _ _ ⟨B, d2, d4, _, P, p.XP, st4.trk, (r2.mono (st2.up a3.ext)).mono (st3.up e4), r4, m4, fun z v5 H5 pz a5 r5 => ?_⟩
      exact k z _ v5 H5 pz (e3.trans (e4.trans a5.ext)) (st4.all ok a5) r5
    | false => exact k _ _ _ H3 mc' e3 st3.si (.bl false)
theorem pd_chain (S : Sit X p k) (o o' : Cmp) {a b c : Expr} {ma mb mc : XE} {pos : Pos} (ha : PD X p a ma) (hb : PD X p b mb) (hc : PD X p c mc) : PD X p (.Compare a [cmpS o, cmpS o'] [b, c] pos) (eChain o o' ma mb mc) := by
  obtain ⟨ta, a1, a2⟩ := ha.ex
  obtain ⟨tb, b1, b2⟩ := hb.ex
  obtain ⟨tc, c1, c2⟩ := hc.ex
  exact ⟨_, pe_chain (op_cmpD S.un o) (op_cmpD S.un o') a1 b1 c1 (cmpS_mark o' c), ev_chain S.ok (fun _ _ _ _ h => h) (fun _ _ _ _ h => h) a2 b2 c2⟩
theorem pt_chainD (S : Sit X p k) (o o' : Cmp) {a b c : Expr} {ma mb mc : XE} {pos : Pos} (ha : PD X p a ma) (hb : PD X p b mb) (hc : PD X p c mc) : PDT X p (.Compare a [cmpS o, cmpS o'] [b, c] pos) (tBool (eChain o o' ma mb mc)) := by
  obtain ⟨ta, a1, a2⟩ := ha.ex
  obtain ⟨tb, b1, b2⟩ := hb.ex
  obtain ⟨tc, c1, c2⟩ := hc.ex
  exact ⟨_, pt_chain (op_cmpD S.un o) (op_cmpD S.un o') a1 b1 c1 (cmpS_mark o' c), et_bool (ev_chain S.ok (fun _ _ _ _ h => h) (fun _ _ _ _ h => h) a2 b2 c2)⟩
end
end DL

end

section
/-! BR3: truth, built-in calls, displays, subscripts. -/
namespace DL
open PySem PySem.Spec PyProof.Rows L2
section
variable {X : Cx} {p : Par} {k : Nat} {K : PySem.W.Frag}

/-! ### truth -/
theorem isEmpty_reps {B : Addr → Prop} {H : Hp} {vs : List V} {ds : List D} (r : Reps K B H vs ds) : (!vs.isEmpty) = !ds.isEmpty := by
  cases r <;> rfl
theorem tru_of {B : Addr → Prop} {H : Hp} {v : V} {d : D} {n : Nat} {P : Bool → Nat → Prop} {Xp : Exn → Prop} (r : Rep K B H v d) (m : tru d n P Xp) : ∃ c, TruV K v H c ∧ P c n := by
  cases r with
  | non => exact ⟨false, rfl, m⟩
  | bl b => exact ⟨b, rfl, m⟩
  | int i => exact ⟨_, rfl, m⟩
  | str x => exact ⟨_, ⟨small_line m.1, rfl⟩, m.2⟩
  | lst e n s => exact ⟨_, Or.inl ⟨_, SqL.of e, rfl⟩, by rw [isEmpty_reps s]; exact m⟩
  | tup e s => exact ⟨_, Or.inr (Or.inl ⟨_, e, rfl⟩), by rw [isEmpty_reps s]; exact m⟩
theorem pt_tru {a : Expr} {ma : XE} (ha : PD X p a ma) (he : ∀ whole, isTrue a X.env whole = (do let v ← whole; standAt a.pos; holding [v] (truthy v)) := by intro _; rfl) : PDT X p a (tTru ma) := by
  obtain ⟨ta, a1, a2⟩ := ha.ex
  refine ⟨_, pt_truth a1 he, fun B H σ E c P Q s re m k => ?_⟩
  refine a2 B H σ E _ _ _ s re m fun d c1 v H1 m1 e1 s1 r1 => ?_
  obtain ⟨c, h1, h2⟩ := tru_of r1 m1
  exact ⟨c, h1, k c _ H1 h2 e1 s1⟩
theorem pt_notD {a : Expr} {t : XT} {pos : Pos} (ha : PDT X p a t) : PDT X p (.UnaryOp .Not a pos) (tNot t) := by
  obtain ⟨ta, a1, a2⟩ := ha.ex
  exact ⟨_, pt_not a1, fun B H σ E c P Q s re m k => a2 B H σ E _ _ _ s re m fun b c1 H1 m1 e1 s1 => k _ _ H1 m1 e1 s1⟩
theorem pd_not {a : Expr} {m : XE} {pos : Pos} (ha : PD X p a m) : PD X p (.UnaryOp .Not a pos) (eNot m) := by
  obtain ⟨ta, a1, a2⟩ := ha.ex
  refine ⟨_, pe_notT a1, fun B H σ E c P Q s re m k => ?_⟩
  refine a2 B H σ E _ _ _ s re m fun d c1 v H1 m1 e1 s1 r1 => ?_
  obtain ⟨c, h1, h2⟩ := tru_of r1 m1
  exact ⟨c, h1, k _ _ _ H1 h2 e1 s1 (.bl _)⟩
theorem et_and {t u : TT} {mt mu : XT} (h1 : EvT K p t mt) (h2 : EvT K p u mu) : EvT K p (L2.tAnd t u) (tAnd mt mu) := by
  intro B H σ E c P Q s re m k
  refine h1 B H σ E _ _ _ s re m fun b c1 H1 m1 e1 s1 => ?_
  cases b with
  | true => exact h2 B H1 σ E _ _ _ (s.go e1 s1) (re.go s e1) m1 fun b2 c2' H2 m2 e2 s2 => k b2 _ H2 m2 (e1.trans e2) s2
  | false => exact k false _ H1 m1 e1 s1
theorem et_or {t u : TT} {mt mu : XT} (h1 : EvT K p t mt) (h2 : EvT K p u mu) : EvT K p (L2.tOr t u) (tOr mt mu) := by
  intro B H σ E c P Q s re m k
  refine h1 B H σ E _ _ _ s re m fun b c1 H1 m1 e1 s1 => ?_
  cases b with
  | false => exact h2 B H1 σ E _ _ _ (s.go e1 s1) (re.go s e1) m1 fun b2 c2' H2 m2 e2 s2 => k b2 _ H2 m2 (e1.trans e2) s2
  | true => exact k true _ H1 m1 e1 s1
theorem pw_and1D {a : Expr} {t : XT} {pos : Pos} (ha : PDT X p a t) : PDW X p (.BoolOp .And [a] pos) t := by
  obtain ⟨ta, a1, a2⟩ := ha.ex
  exact ⟨_, pw_and1 a1, a2⟩
theorem pw_or1D {a : Expr} {t : XT} {pos : Pos} (ha : PDT X p a t) : PDW X p (.BoolOp .Or [a] pos) t := by
  obtain ⟨ta, a1, a2⟩ := ha.ex
  exact ⟨_, pw_or1 a1, a2⟩
theorem pw_andD {a b : Expr} {rest : List Expr} {t u : XT} {pos : Pos} (ha : PDT X p a t) (hb : PDW X p (.BoolOp .And (b :: rest) pos) u) : PDW X p (.BoolOp .And (a :: b :: rest) pos) (tAnd t u) := by
  obtain ⟨ta, a1, a2⟩ := ha.ex
  obtain ⟨tb, b1, b2⟩ := hb.ex
  exact ⟨_, pw_and a1 b1, et_and a2 b2⟩
theorem pw_orD {a b : Expr} {rest : List Expr} {t u : XT} {pos : Pos} (ha : PDT X p a t) (hb : PDW X p (.BoolOp .Or (b :: rest) pos) u) : PDW X p (.BoolOp .Or (a :: b :: rest) pos) (tOr t u) := by
  obtain ⟨ta, a1, a2⟩ := ha.ex
  obtain ⟨tb, b1, b2⟩ := hb.ex
  exact ⟨_, pw_or a1 b1, et_or a2 b2⟩
theorem PDW.pt {e : Expr} {t : XT} (h : PDW X p e t) : PDT X p e t := by
  obtain ⟨ta, a1, a2⟩ := h.ex
  exact ⟨_, a1.pt, a2⟩
theorem pd_one {op} {a : Expr} {m : XE} {pos : Pos} (ha : PD X p a m) : PD X p (.BoolOp op [a] pos) m := by
  obtain ⟨ta, a1, a2⟩ := ha.ex
  exact ⟨_, pe_one a1, a2⟩
theorem pd_and {a b : Expr} {rest : List Expr} {ma mb : XE} {pos : Pos} (ha : PD X p a ma) (hb : PD X p (.BoolOp .And (b :: rest) pos) mb) : PD X p (.BoolOp .And (a :: b :: rest) pos) (eAnd ma mb) := by
  obtain ⟨ta, a1, a2⟩ := ha.ex
  obtain ⟨tb, b1, b2⟩ := hb.ex
  refine ⟨_, pe_andT a1 b1, fun B H σ E c P Q s re m k => ?_⟩
  refine a2 B H σ E _ _ _ s re m fun d c1 v H1 m1 e1 s1 r1 => ?_
  obtain ⟨c, h1, h2⟩ := tru_of r1 m1
  refine ⟨c, h1, ?_⟩
  cases c with
  | true => exact b2 B H1 σ E _ _ _ (s.go e1 s1) (re.go s e1) h2 fun d2 c2' v2 H2 m2 e2 s2 r2 => k d2 _ v2 H2 m2 (e1.trans e2) s2 r2
  | false => exact k d _ v H1 h2 e1 s1 r1
theorem pd_or {a b : Expr} {rest : List Expr} {ma mb : XE} {pos : Pos} (ha : PD X p a ma) (hb : PD X p (.BoolOp .Or (b :: rest) pos) mb) : PD X p (.BoolOp .Or (a :: b :: rest) pos) (eOr ma mb) := by
  obtain ⟨ta, a1, a2⟩ := ha.ex
  obtain ⟨tb, b1, b2⟩ := hb.ex
  refine ⟨_, pe_orT a1 b1, fun B H σ E c P Q s re m k => ?_⟩
  refine a2 B H σ E _ _ _ s re m fun d c1 v H1 m1 e1 s1 r1 => ?_
  obtain ⟨c, h1, h2⟩ := tru_of r1 m1
  refine ⟨c, h1, ?_⟩
  cases c with
  | false => exact b2 B H1 σ E _ _ _ (s.go e1 s1) (re.go s e1) h2 fun d2 c2' v2 H2 m2 e2 s2 r2 => k d2 _ v2 H2 m2 (e1.trans e2) s2 r2
  | true => exact k d _ v H1 h2 e1 s1 r1
theorem pd_if {c a b : Expr} {t : XT} {ma mb : XE} {pos : Pos} (hc : PDT X p c t) (ha : PD X p a ma) (hb : PD X p b mb) : PD X p (.IfExp c a b pos) (eIf t ma mb) := by
  obtain ⟨tc, c1, c2⟩ := hc.ex
  obtain ⟨ta, a1, a2⟩ := ha.ex
  obtain ⟨tb, b1, b2⟩ := hb.ex
  refine ⟨_, pe_ifExp c1 a1 b1, fun B H σ E c P Q s re m k => ?_⟩
  refine c2 B H σ E _ _ _ s re m fun b c1 H1 m1 e1 s1 => ?_
  cases b with
  | true => exact a2 B H1 σ E _ _ _ (s.go e1 s1) (re.go s e1) m1 fun d2 c2' v2 H2 m2 e2 s2 r2 => k d2 _ v2 H2 m2 (e1.trans e2) s2 r2
  | false => exact b2 B H1 σ E _ _ _ (s.go e1 s1) (re.go s e1) m1 fun d2 c2' v2 H2 m2 e2 s2 r2 => k d2 _ v2 H2 m2 (e1.trans e2) s2 r2

/-! ### argument lists, displays -/
theorem pda_nil : PDA X p [] aNil := ⟨_, pa_nil, fun B H σ E c P Q s re m k => k [] _ [] H m Ext.refl s.si .nil⟩
theorem pda_cons {e : Expr} {es : List Expr} {m : XE} {r : XA} (he : PD X p e m) (hr : PDA X p es r) (hs : starEach (e :: es) X.env = (false, eval e X.env) :: starEach es X.env := by rfl) : PDA X p (e :: es) (aCons m r) := by
  obtain ⟨ta, a1, a2⟩ := he.ex
  obtain ⟨tb, b1, b2⟩ := hr.ex
  refine ⟨_, pa_cons a1 b1 hs, fun B H σ E c P Q s re m k => ?_⟩
  refine a2 B H σ E _ _ _ s re m fun d c1 v H1 m1 e1 s1 r1 => ?_
  refine b2 B H1 σ E _ _ _ (s.go e1 s1) (re.go s e1) m1 fun ds c2' vs H2 m2 e2 s2 r2 => ?_
  exact k _ _ _ H2 m2 (e1.trans e2) s2 (.cons (r1.mono ((s.go e1 s1).up e2)) r2)
theorem pd_tup (S : Sit X p k) {es : List Expr} {x1} {pos : Pos} {m : XA} (h : PDA X p es m) : PD X p (.Tuple es x1 pos) (eTup m) := by
  obtain ⟨ta, a1, a2⟩ := h.ex
  refine ⟨_, pe_tup a1, fun B H σ E c P Q s re m k => ?_⟩
  refine a2 B H σ E _ _ _ s re m fun ds c1 vs H1 m1 e1 s1 r1 => ?_
  have st1 := s.go e1 s1
  refine ⟨by rw [r1.length]; exact small_line m1.1, fun q hq => ?_⟩
  exact k _ _ _ _ m1.2 (e1.trans (All.new hq).ext) (st1.all S.ok (All.new hq)) (rep_tup hq r1)
theorem pd_lst (S : Sit X p k) {es : List Expr} {pos : Pos} {m : XA} (h : PDA X p es m) : PD X p (.List es pos) (eLst m) := by
  obtain ⟨ta, a1, a2⟩ := h.ex
  refine ⟨_, pe_lst a1, fun B H σ E c P Q s re m k => ?_⟩
  refine a2 B H σ E _ _ _ s re m fun ds c1 vs H1 m1 e1 s1 r1 => ?_
  have st1 := s.go e1 s1
  refine ⟨by rw [r1.length]; exact small_line m1.1, fun q hq => ?_⟩
  exact k _ _ _ _ m1.2 (e1.trans (All.new hq).ext) (st1.all S.ok (All.new hq)) (rep_lst st1.trk hq r1)

/-! ### built-in calls -/
theorem pd_call1 (S : Sit X p k) {x : Str} {id : String} {f : D → W D} {a : Expr} {m : XE} {pn pos : Pos} (hc : CallR X (.builtin id) (rC1 X.K f)) (hm : X.mg x = none) (ha : PD X p a m) (hg : Gl X x := by rfl) (hv : bootBuiltins x = some (.builtin id) := by decide +kernel)
    (hn : x ≠ "__name__" := by decide) (hdb : (x == ("__debug__" : Str)) = false := by decide) (hs : starEach [a] X.env = (false, eval a X.env) :: starEach [] X.env := by rfl) : PD X p (.Call (.Name x pn) [a] [] pos) (fun E => bnd (m E) f) := by
  obtain ⟨ta, a1, a2⟩ := ha.ex
  refine ⟨_, pe_callB hc hg hm hv (pa_cons a1 pa_nil hs) hn hdb hs (by rfl), fun B H σ E c P Q s re m k => ?_⟩
  refine a2 B H σ E _ _ _ s re m fun d c1 v H1 m1 e1 s1 r1 => ?_
  have st1 := s.go e1 s1
  exact ⟨v, rfl, B, d, _, P, p.XP, st1.trk, r1, m1, fun z v3 H3 pz a3 r3 => k z _ v3 H3 pz (e1.trans a3.ext) (st1.all S.ok a3) r3⟩
theorem pd_callT1 (S : Sit X p k) {x : Str} {id : String} {f : D → W D} {a : Expr} {m : XE} {pn pos : Pos} (hc : CallR X (.type id) (rC1 X.K f)) (hm : X.mg x = none) (ha : PD X p a m) (hg : Gl X x := by rfl) (hv : bootBuiltins x = some (.type id) := by decide +kernel)
    (hn : x ≠ "__name__" := by decide) (hdb : (x == ("__debug__" : Str)) = false := by decide) (hs : starEach [a] X.env = (false, eval a X.env) :: starEach [] X.env := by rfl) : PD X p (.Call (.Name x pn) [a] [] pos) (fun E => bnd (m E) f) := by
  obtain ⟨ta, a1, a2⟩ := ha.ex
  refine ⟨_, pe_callTy hc hg hm hv (pa_cons a1 pa_nil hs) hn hdb hs (by rfl), fun B H σ E c P Q s re m k => ?_⟩
  refine a2 B H σ E _ _ _ s re m fun d c1 v H1 m1 e1 s1 r1 => ?_
  have st1 := s.go e1 s1
  exact ⟨v, rfl, B, d, _, P, p.XP, st1.trk, r1, m1, fun z v3 H3 pz a3 r3 => k z _ v3 H3 pz (e1.trans a3.ext) (st1.all S.ok a3) r3⟩
theorem pd_call2 (S : Sit X p k) {x : Str} {id : String} {f : D → D → W D} {a b : Expr} {m n : XE} {pn pos : Pos} (hc : CallR X (.builtin id) (rC2 X.K f)) (hm : X.mg x = none) (ha : PD X p a m) (hb : PD X p b n) (hg : Gl X x := by rfl) (hv : bootBuiltins x = some (.builtin id) := by decide +kernel)
    (hn : x ≠ "__name__" := by decide) (hdb : (x == ("__debug__" : Str)) = false := by decide) (hs : starEach [a, b] X.env = (false, eval a X.env) :: starEach [b] X.env := by rfl) (hs2 : starEach [b] X.env = (false, eval b X.env) :: starEach [] X.env := by rfl) (hpl : (backTo pos (starEach [b] X.env)).any (·.1) = false := by rfl) :
    PD X p (.Call (.Name x pn) [a, b] [] pos) (fun E => bnd (m E) fun x => bnd (n E) fun y => f x y) := by
  obtain ⟨ta, a1, a2⟩ := ha.ex
  obtain ⟨tb, b1, b2⟩ := hb.ex
  refine ⟨_, pe_callB hc hg hm hv (pa_cons a1 (pa_cons b1 pa_nil hs2) hs) hn hdb hs hpl, fun B H σ E c P Q s re m k => ?_⟩
  refine a2 B H σ E _ _ _ s re m fun d c1 v H1 m1 e1 s1 r1 => ?_
  have st1 := s.go e1 s1
  refine b2 B H1 σ E _ _ _ st1 (re.go s e1) m1 fun d2 c2' v2 H2 m2 e2 s2 r2 => ?_
  have st2 := st1.go e2 s2
  exact ⟨v, v2, rfl, B, d, d2, _, P, p.XP, st2.trk, r1.mono (st1.up e2), r2, m2, fun z v3 H3 pz a3 r3 => k z _ v3 H3 pz (e1.trans (e2.trans a3.ext)) (st2.all S.ok a3) r3⟩

theorem c_len : CallR X (.builtin "len") (rC1 X.K (bi1 .len)) := by
  intro pins s σ H xs us Q I r h
  obtain ⟨x, rfl, B, d, c, P, Xp, hb, r1, m, k⟩ := h
  cases r1 with
  | lst e n t =>
    refine call_len_seq pins s σ H _ us Q I r ⟨_, _, rfl, .inl (SqL.of e), ?_⟩
    rw [t.length]
    exact k _ _ H m All.refl (.int _)
  | tup e t =>
    refine call_len_seq pins s σ H _ us Q I r ⟨_, _, rfl, .inr e, ?_⟩
    rw [t.length]
    exact k _ _ H m All.refl (.int _)
  | str x => exact call_len_str pins s σ H _ us Q I r ⟨x, rfl, small_line m.1, k _ _ H m.2 All.refl (.int _)⟩
  | _ => exact m.elim
theorem c_abs : CallR X (.builtin "abs") (rC1 X.K (bi1 .abs)) := by
  intro pins s σ H xs us Q I r h
  obtain ⟨x, rfl, B, d, c, P, Xp, hb, r1, m, k⟩ := h
  cases r1 with
  | int i => exact call_abs pins s σ H _ us Q I r ⟨i, rfl, k _ _ H m All.refl (.int _)⟩
  | _ => exact m.elim
theorem c_max2 (hc : X.calm = true) : CallR X (.builtin "max") (rC2 X.K (bi2 .max)) := by
  intro pins s σ H xs us Q I r h
  obtain ⟨x, y, rfl, B, d, e, c, P, Xp, hb, r1, r2, m, k⟩ := h
  cases r1 with
  | int i =>
    cases r2 with
    | int j => exact call_max2 hc pins s σ H _ us Q I r ⟨i, j, rfl, k _ _ H m All.refl (.int _)⟩
    | _ => exact m.elim
  | _ => cases r2 <;> exact m.elim
theorem c_min2 (hc : X.calm = true) : CallR X (.builtin "min") (rC2 X.K (bi2 .min)) := by
  intro pins s σ H xs us Q I r h
  obtain ⟨x, y, rfl, B, d, e, c, P, Xp, hb, r1, r2, m, k⟩ := h
  cases r1 with
  | int i =>
    cases r2 with
    | int j => exact call_min2 hc pins s σ H _ us Q I r ⟨i, j, rfl, k _ _ H m All.refl (.int _)⟩
    | _ => exact m.elim
  | _ => cases r2 <;> exact m.elim
/-- a sequence of ints -/
theorem ints_seq {B : Addr → Prop} {H : Hp} {v : V} {d : D} {c : Nat} {P : List Int → Nat → Prop} {Xp : Exn → Prop} (r : Rep K B H v d) (m : intsOf d c P Xp) :
    ∃ (a : Addr) (ns : List Int), v = .ref a ∧ (H a = some (.lst (ns.map V.int)) ∨ SqT K H a (ns.map V.int)) ∧ P ns c := by
  have go : ∀ {xs : List V} {ds : List D}, Reps K B H xs ds → (match ints? ds with | some ns => ret ns | none => stuck) c P Xp → ∃ ns : List Int, xs = ns.map V.int ∧ P ns c := by
    intro xs ds t h
    cases e : ints? ds with
    | none => rw [e] at h; exact h.elim
    | some ns => rw [e] at h; exact ⟨ns, t.ints e, h⟩
  cases r with
  | lst e n t =>
    obtain ⟨ns, h1, h2⟩ := go t m
    subst h1
    exact ⟨_, ns, rfl, .inl e, h2⟩
  | tup e t =>
    obtain ⟨ns, h1, h2⟩ := go t m
    subst h1
    exact ⟨_, ns, rfl, .inr e, h2⟩
  | _ => exact m.elim
theorem same_ints {B : Addr → Prop} {H : Hp} {v : V} {i : Int} (r : Rep K B H v (.int i)) : v = .int i := by
  cases r
  rfl
theorem c_sum (hc : X.calm = true) : CallR X (.builtin "sum") (rC1 X.K (bi1 .sum)) := by
  intro pins s σ H xs us Q I r h
  obtain ⟨x, rfl, B, d, c, P, Xp, hb, r1, m, k⟩ := h
  obtain ⟨a, ns, rfl, h1, h2⟩ := ints_seq r1 (show intsOf d c _ Xp from m)
  rcases h1 with h1 | h1
  · exact cr_sum hc pins s σ H _ us Q I r ⟨a, ns, rfl, SqL.of h1, k _ _ H h2 All.refl (.int _)⟩
  · obtain ⟨its, rv, pt, hz⟩ := I.tuple h1
    rw [Vals.ref1 r]
    have hi := rv.ints
    obtain ⟨ys, e⟩ := hi.allInts.items
    have hn : numsOf (intItems ys).toList = ns := by rw [← e]; exact hi.numsOf
    rw [nums_intItems] at hn
    rw [e] at pt
    refine PySem.W.ktm_sumG (I.ok.hd hc) pt fun h' tk t' hk => ?_
    rw [preSum_eq, List.take_of_length_le (by simp), hn]
    exact ⟨.int ns.sum, H, I.kept hk, ⟨_, rfl⟩, k _ _ H h2 All.refl (.int _)⟩
theorem reads_ints {h : Heap} : ∀ {vs : List Value} {ns : List Int}, IntsAre vs ns → ∃ as, ReadsAll h vs (ns.map PyData.int) as
  | _, _, .nil => ⟨_, .nil⟩
  | _, _, .cons n t q => by
    obtain ⟨as, r⟩ := reads_ints (h := h) q
    exact ⟨_, .cons (.int n t) r⟩
theorem alike_ints (ns : List Int) : PySem.W.AlikeAll (ns.map PyData.int) := by
  refine ⟨fun x hx y hy => ?_, fun x hx => ?_⟩
  · obtain ⟨a, _, rfl⟩ := List.mem_map.mp hx
    obtain ⟨b, _, rfl⟩ := List.mem_map.mp hy
    rfl
  · obtain ⟨a, _, rfl⟩ := List.mem_map.mp hx
    exact fun z => nomatch z
theorem depth_ints : ∀ ns : List Int, PyData.depthAll (ns.map PyData.int) = 0
  | [] => by simp [PyData.depthAll]
  | a :: r => by simp [PyData.depthAll, PyData.depth, depth_ints r]
theorem of_reads_int {h : Heap} {v : Value} {i : Int} {as : List Addr} (r : Reads h v (.int i) as) : ∃ t, v = .int i t := by
  cases r
  exact ⟨_, rfl⟩
theorem c_max (S : Sit X p k) : CallR X (.builtin "max") (rC1 X.K (bi1 .max)) := by
  intro pins s σ H xs us Q I r h
  obtain ⟨x, rfl, B, d, c, P, Xp, hb, r1, m, kk⟩ := h
  obtain ⟨a, ns, rfl, h1, h2⟩ := ints_seq r1 (show intsOf d c _ Xp from m)
  cases ns with
  | nil => exact h2.elim
  | cons n ns =>
    have hu : X.A.units + 1 + PyData.depthAll (PyData.int n :: ns.map PyData.int) < cLine := by
      have e := depth_ints (n :: ns)
      have q := S.un
      rw [List.map_cons] at e
      rw [e]
      omega
    have fin : ∀ (v : Value) (h' : Heap) (tk : Nat) (bs : List Addr), Reads h' v (PySem.W.maxD (.int n) (ns.map .int)) bs → (∀ b o, s.heap.get? b = some o → h'.get? b = some o) → EP X pins σ Q v { s with heap := h', toks := tk } := by
      intro v h' tk bs hr hk
      rw [PySem.W.maxD_ints] at hr
      obtain ⟨t, rfl⟩ := of_reads_int hr
      exact ⟨.int _, H, I.kept hk, ⟨_, rfl⟩, kk _ _ H h2 All.refl (.int _)⟩
    rw [Vals.ref1 r]
    rcases h1 with h1 | h1
    · obtain ⟨its, rv, pl, hz⟩ := I.list (SqL.of h1)
      obtain ⟨as, ra⟩ := reads_ints (h := s.heap) rv.ints
      exact PySem.W.max_list_data (I.ok.hd S.calm) pl.isList ra (alike_ints (n :: ns)) hu fun i v h' tk bs _ hr hk => fin v h' tk bs hr hk
    · obtain ⟨its, rv, pt, hz⟩ := I.tuple h1
      obtain ⟨as, ra⟩ := reads_ints (h := s.heap) rv.ints
      exact PySem.W.max_tuple_data (I.ok.hd S.calm) pt ra (alike_ints (n :: ns)) hu fun i v h' tk bs _ hr hk => fin v h' tk bs hr hk
theorem c_min (S : Sit X p k) : CallR X (.builtin "min") (rC1 X.K (bi1 .min)) := by
  intro pins s σ H xs us Q I r h
  obtain ⟨x, rfl, B, d, c, P, Xp, hb, r1, m, kk⟩ := h
  obtain ⟨a, ns, rfl, h1, h2⟩ := ints_seq r1 (show intsOf d c _ Xp from m)
  cases ns with
  | nil => exact h2.elim
  | cons n ns =>
    have hu : X.A.units + 1 + PyData.depthAll (PyData.int n :: ns.map PyData.int) < cLine := by
      have e := depth_ints (n :: ns)
      have q := S.un
      rw [List.map_cons] at e
      rw [e]
      omega
    have fin : ∀ (v : Value) (h' : Heap) (tk : Nat) (bs : List Addr), Reads h' v (PySem.W.minD (.int n) (ns.map .int)) bs → (∀ b o, s.heap.get? b = some o → h'.get? b = some o) → EP X pins σ Q v { s with heap := h', toks := tk } := by
      intro v h' tk bs hr hk
      rw [PySem.W.minD_ints] at hr
      obtain ⟨t, rfl⟩ := of_reads_int hr
      exact ⟨.int _, H, I.kept hk, ⟨_, rfl⟩, kk _ _ H h2 All.refl (.int _)⟩
    rw [Vals.ref1 r]
    rcases h1 with h1 | h1
    · obtain ⟨its, rv, pl, hz⟩ := I.list (SqL.of h1)
      obtain ⟨as, ra⟩ := reads_ints (h := s.heap) rv.ints
      exact PySem.W.min_list_data (I.ok.hd S.calm) pl.isList ra (alike_ints (n :: ns)) hu fun i v h' tk bs _ hr hk => fin v h' tk bs hr hk
    · obtain ⟨its, rv, pt, hz⟩ := I.tuple h1
      obtain ⟨as, ra⟩ := reads_ints (h := s.heap) rv.ints
      exact PySem.W.min_tuple_data (I.ok.hd S.calm) pt ra (alike_ints (n :: ns)) hu fun i v h' tk bs _ hr hk => fin v h' tk bs hr hk
mutual
theorem rep_noDict {B : Addr → Prop} {H : Hp} : ∀ {v : V} {d : D}, Rep K B H v d → d.hasDict = false
  | _, _, .non => by simp [PyData.hasDict]
  | _, _, .bl _ => by simp [PyData.hasDict]
  | _, _, .int _ => by simp [PyData.hasDict]
  | _, _, .str _ => by simp [PyData.hasDict]
  | _, _, .lst _ _ r => by simp [PyData.hasDict, reps_noDict r]
  | _, _, .tup _ r => by simp [PyData.hasDict, reps_noDict r]
theorem reps_noDict {B : Addr → Prop} {H : Hp} : ∀ {vs : List V} {ds : List D}, Reps K B H vs ds → PyData.hasDictAll ds = false
  | _, _, .nil => by simp [PyData.hasDictAll]
  | _, _, .cons r t => by simp [PyData.hasDictAll, rep_noDict r, reps_noDict t]
end
theorem c_repr (S : Sit X p k) : CallR X (.builtin "repr") (rC1 X.K (bi1 .repr)) := by
  intro pins s σ H xs us Q I r h
  obtain ⟨x, rfl, B, d, c, P, Xp, hb, r1, ⟨⟨hs, hd, hz⟩, m⟩, kk⟩ := h
  obtain ⟨u, rfl, ru⟩ := vals1 r
  obtain ⟨as, rd⟩ := Dp.reads I d x u r1.dp ru
  have hz' : d.shown.length ≤ sizeLine := small_line hz
  have fin : ∀ (h' : Heap) (t tk : Nat), (∀ b o, s.heap.get? b = some o → h'.get? b = some o) → EP X pins σ Q (.str d.shown t) { s with heap := h', toks := tk } := fun h' t tk hk =>
    ⟨.str d.shown, H, I.kept hk, ⟨_, rfl⟩, kk _ _ H m All.refl (.str _)⟩
  have nd := rep_noDict r1
  cases rd with
  | none => exact PySem.P.repr_of_none (by simpa [PyData.shown] using fin s.heap s.toks (s.toks + 1) fun _ _ e => e)
  | bool b => exact PySem.P.repr_of_bool (by simpa [PyData.shown] using fin s.heap s.toks (s.toks + 1) fun _ _ e => e)
  | int i t => exact PySem.P.repr_of_int (by simpa [PyData.showable] using hs) (by simpa [PyData.shown] using fin s.heap s.toks (s.toks + 1) fun _ _ e => e)
  | str x t => exact PySem.P.repr_of_str (by simpa [PyData.shown] using fin s.heap s.toks (s.toks + 1) fun _ _ e => e) (by simpa [PyData.shown] using hz')
  | list h1 h2 h3 h4 => exact repr_of_reads' (.list h1 h2 h3 h4) hs (PyData.noDict_hsm nd) S.gd (by have := S.un; omega) (fun _ _ e => e) (fun h' t tk hk => fin h' t tk hk) hz'
  | tuple h1 h2 h3 h4 => exact repr_of_reads' (.tuple h1 h2 h3 h4) hs (PyData.noDict_hsm nd) S.gd (by have := S.un; omega) (fun _ _ e => e) (fun h' t tk hk => fin h' t tk hk) hz'
  | dict h1 h2 h3 h4 h5 => simp [PyData.hasDict] at nd
theorem c_str : CallR X (.type "str") (rC1 X.K (bi1 .str)) := by
  intro pins s σ H xs us Q I r h
  obtain ⟨x, rfl, B, d, c, P, Xp, hb, r1, m, k⟩ := h
  cases r1 with
  | int i => exact call_str_int pins s σ H _ us Q I r ⟨i, rfl, m.1, k _ _ H m.2 All.refl (.str _)⟩
  | str x =>
    obtain ⟨u, rfl, t, rfl⟩ := vals1 r
    exact PySem.P.str_of_str ⟨.str x, H, I, ⟨t, rfl⟩, k _ _ H m All.refl (.str _)⟩
  | _ => exact m.elim
theorem c_int : CallR X (.type "int") (rC1 X.K (bi1 .int)) := by
  intro pins s σ H xs us Q I r h
  obtain ⟨x, rfl, B, d, c, P, Xp, hb, r1, m, k⟩ := h
  cases r1 with
  | int i => exact call_int1 pins s σ H _ us Q I r (.inl ⟨i, rfl, k _ _ H m All.refl (.int _)⟩)
  | _ => exact m.elim
theorem c_tuple : CallR X (.type "tuple") (rC1 X.K (bi1 .tuple)) := by
  intro pins s σ H xs us Q I r h
  obtain ⟨x, rfl, B, d, c, P, Xp, hb, r1, m, k⟩ := h
  cases r1 with
  | lst e n t => exact call_tuple_of pins s σ H _ us Q I r ⟨_, _, rfl, .inl ⟨SqL.of e, fun q hq => k _ _ _ m (All.new hq) (rep_tup hq t)⟩⟩
  | tup e t => exact call_tuple_of pins s σ H _ us Q I r ⟨_, _, rfl, .inr ⟨e, k _ _ H m All.refl (.tup e t)⟩⟩
  | _ => exact m.elim
theorem c_list : CallR X (.type "list") (rC1 X.K (bi1 .list)) := by
  intro pins s σ H xs us Q I r h
  obtain ⟨x, rfl, B, d, c, P, Xp, hb, r1, m, k⟩ := h
  cases r1 with
  | lst e n t => exact call_list_of pins s σ H _ us Q I r ⟨_, _, rfl, .inl (SqL.of e), fun q hq => k _ _ _ m (All.new hq) (rep_lst hb hq t)⟩
  | tup e t => exact call_list_of pins s σ H _ us Q I r ⟨_, _, rfl, .inr e, fun q hq => k _ _ _ m (All.new hq) (rep_lst hb hq t)⟩
  | _ => exact m.elim
theorem c_all (hc : X.calm = true) : CallR X (.builtin "all") (rC1 X.K (bi1 .all)) := by
  intro pins s σ H xs us Q I r h
  obtain ⟨x, rfl, B, d, c, P, Xp, hb, r1, m, k⟩ := h
  cases r1 with
  | @lst a vs ds e n t =>
    have m' : (match bools? ds with | some bs => (ret (PyData.bool (bs.all id)) : W D) | none => stuck) c P Xp := m
    cases eb : bools? ds with
    | none => rw [eb] at m'; exact m'.elim
    | some bs =>
      rw [eb] at m'
      have e2 := t.bools eb
      subst e2
      exact cr_all hc pins s σ H _ us Q I r ⟨_, bs, rfl, SqL.of e, k _ _ H m' All.refl (.bl _)⟩
  | _ => exact m.elim
theorem c_any (hc : X.calm = true) : CallR X (.builtin "any") (rC1 X.K (bi1 .any)) := by
  intro pins s σ H xs us Q I r h
  obtain ⟨x, rfl, B, d, c, P, Xp, hb, r1, m, k⟩ := h
  cases r1 with
  | @lst a vs ds e n t =>
    have m' : (match bools? ds with | some bs => (ret (PyData.bool (bs.any id)) : W D) | none => stuck) c P Xp := m
    cases eb : bools? ds with
    | none => rw [eb] at m'; exact m'.elim
    | some bs =>
      rw [eb] at m'
      have e2 := t.bools eb
      subst e2
      exact cr_any hc pins s σ H _ us Q I r ⟨_, bs, rfl, SqL.of e, k _ _ H m' All.refl (.bl _)⟩
  | _ => exact m.elim

/-! ### isinstance of a built-in type -/
def tyS : Ty → String
  | .int => "int"
  | .bool => "bool"
  | .tuple => "tuple"
  | .str => "str"
  | .list => "list"
  | .dict => "dict"
theorem sq_ty {H : Hp} {a : Addr} {xs : List V} (h : SqT K H a xs) : TyX K H (.ref a) (.type "tuple") := by
  rcases h with (h | ⟨o, h⟩) | ⟨o, its, n, h, hc, _⟩
  · exact .base (.tup h)
  · exact .fTuple h
  · exact .kTuple h hc
theorem ty_of {B : Addr → Prop} {H : Hp} {v : V} {d : D} (r : Rep K B H v d) : TyX K H v (.type (tyName d)) := by
  cases r with
  | non => exact .base .non
  | bl b => exact .base (.bl b)
  | int i => exact .base (.int i)
  | str x => exact .base (.str x)
  | lst e n t => exact .base (.lst e)
  | tup e t => exact sq_ty e
theorem kt_none : ∀ t : Ty, kitB "NoneType" (tyS t) = some (isTy t .none) := fun t => by cases t <;> decide +kernel
theorem kt_bool : ∀ t : Ty, kitB "bool" (tyS t) = some (isTy t (.bool true)) := fun t => by cases t <;> decide +kernel
theorem kt_int : ∀ t : Ty, kitB "int" (tyS t) = some (isTy t (.int 0)) := fun t => by cases t <;> decide +kernel
theorem kt_str : ∀ t : Ty, kitB "str" (tyS t) = some (isTy t (.str Str.empty)) := fun t => by cases t <;> decide +kernel
theorem kt_list : ∀ t : Ty, kitB "list" (tyS t) = some (isTy t (.list [])) := fun t => by cases t <;> decide +kernel
theorem kt_tuple : ∀ t : Ty, kitB "tuple" (tyS t) = some (isTy t (.tuple [])) := fun t => by cases t <;> decide +kernel
theorem kit_isTy (t : Ty) (d : D) (h : ∀ kvs, d ≠ .dict kvs) : kitB (tyName d) (tyS t) = some (isTy t d) := by
  cases d with
  | none => exact kt_none t
  | bool b => exact (kt_bool t).trans (by cases t <;> rfl)
  | int b => exact (kt_int t).trans (by cases t <;> rfl)
  | str b => exact (kt_str t).trans (by cases t <;> rfl)
  | list b => exact (kt_list t).trans (by cases t <;> rfl)
  | tuple b => exact (kt_tuple t).trans (by cases t <;> rfl)
  | dict b => exact absurd rfl (h b)
theorem pd_is (S : Sit X p k) (t : Ty) {a : Expr} {m : XE} {pn pq pos : Pos} (ha : PD X p a m) (hm : X.mg "isinstance" = none) (hmt : X.mg (tyS t : Str) = none) (hg : Gl X "isinstance" := by rfl) (hgt : Gl X (tyS t : Str) := by rfl)
    (hs : starEach [a, .Name (tyS t : Str) pq] X.env = (false, eval a X.env) :: starEach [.Name (tyS t : Str) pq] X.env := by rfl)
    (hs2 : starEach [.Name (tyS t : Str) pq] X.env = (false, eval (.Name (tyS t : Str) pq) X.env) :: starEach [] X.env := by rfl) (hpl : (backTo pos (starEach [.Name (tyS t : Str) pq] X.env)).any (·.1) = false := by rfl) :
    PD X p (.Call (.Name "isinstance" pn) [a, .Name (tyS t : Str) pq] [] pos) (eIs t m) := by
  obtain ⟨ta, a1, a2⟩ := ha.ex
  have hv : bootBuiltins (tyS t : Str) = some (.type (tyS t)) := by cases t <;> decide +kernel
  have hn : (tyS t : Str) ≠ "__name__" := by cases t <;> decide
  have hdb : ((tyS t : Str) == ("__debug__" : Str)) = false := by cases t <;> decide
  have hT : PE X (.Name (tyS t : Str) pq) (tC (.ty (tyS t))) := pe_bltn hgt hmt hv rfl hn hdb
  refine ⟨_, pe_callB call_isi hg hm (by decide +kernel) (pa_cons a1 (pa_cons hT pa_nil hs2) hs) (by decide) (by decide) hs hpl, fun B H σ E c P Q s re m k => ?_⟩
  refine a2 B H σ E _ _ _ s re m fun d c1 v H1 m1 e1 s1 r1 => ?_
  refine ⟨v, .ty (tyS t), _, _, isTy t d, rfl, .ty _, ty_of r1, kit_ty (kit_isTy t d fun kvs z => ?_), k _ _ _ H1 m1 e1 s1 (.bl _)⟩
  subst z
  cases r1

/-! ### subscripts -/
theorem atI_rep {B : Addr → Prop} {H : Hp} {xs : List V} {ds : List D} (t : Reps K B H xs ds) {i : Int} {d : D} (h : atI ds i = some d) : ∃ v, atI xs i = some v ∧ Rep K B H v d := by
  unfold atI at h ⊢
  rw [t.length]
  cases e : ixN ds.length i with
  | none => rw [e] at h; cases h
  | some j =>
    rw [e] at h
    exact t.get h
theorem ix_D : IxR X (rD2 X.K opIdx) := by
  intro value slice pins s σ H x y v u Q I rx ry h hs
  obtain ⟨B, d, e, c, P, Xp, hb, r1, r2, m, k⟩ := h
  cases r1 with
  | @tup a xs ds q t =>
    cases r2 with
    | int i =>
      have m' : (match L2.atI ds i with | some d => ret d | none => stuck) c P Xp := m
      cases ea : atI ds i with
      | none => rw [ea] at m'; exact m'.elim
      | some z =>
        rw [ea] at m'
        obtain ⟨w, h1, h2⟩ := atI_rep t ea
        exact ix_tup value slice pins s σ H _ _ v u Q I rx ry ⟨a, xs, i, w, rfl, rfl, q, h1, k _ _ H m' All.refl h2⟩ hs
    | _ => exact m.elim
  | @lst a xs ds q n t =>
    cases r2 with
    | int i =>
      have m' : (match L2.atI ds i with | some d => ret d | none => stuck) c P Xp := m
      cases ea : atI ds i with
      | none => rw [ea] at m'; exact m'.elim
      | some z =>
        rw [ea] at m'
        obtain ⟨w, h1, h2⟩ := atI_rep t ea
        exact ix_list value slice pins s σ H _ _ v u Q I rx ry ⟨a, xs, i, w, rfl, rfl, SqL.of q, h1, k _ _ H m' All.refl h2⟩ hs
    | _ => exact m.elim
  | _ => exact m.elim
theorem pd_ix (S : Sit X p k) {a b : Expr} {ma mb : XE} {pos : Pos} (ha : PD X p a ma) (hb : PD X p b mb) (hs : PlainIx b := by exact fun _ _ => rfl) : PD X p (.Subscript a b pos) (eIdx ma mb) := by
  obtain ⟨ta, a1, a2⟩ := ha.ex
  obtain ⟨tb, b1, b2⟩ := hb.ex
  exact ⟨_, pe_ix ix_D a1 b1 hs, ev_bnd S.ok (fun _ _ _ _ h => h) a2 b2⟩
structure PDO (X : Cx) (p : Par) (e : Option Expr) (m : XO) : Prop where
  ex : ∃ t, PO X e t ∧ ∀ (B : Addr → Prop) (H : Hp) (σ : L2.St) (E : Env) (c : Nat) (P : Option Int → Nat → Prop) (Q : Option Int → Hp → Prop), St0 p c B H → EnvR X.K p B H σ E → m E c P p.XP → (∀ o c' H', P o c' → Ext p.B0 H H' → p.SI c' H' → Q o H') → t σ H Q
theorem pdo_none : PDO X p none oNone := ⟨_, po_none, fun B H σ E c P Q s re m k => k none _ H m Ext.refl s.si⟩
theorem pdo_some {a : Expr} {m : XE} (ha : PD X p a m) : PDO X p (some a) (oSome m) := by
  obtain ⟨ta, a1, a2⟩ := ha.ex
  refine ⟨_, po_some a1, fun B H σ E c P Q s re m k => ?_⟩
  refine a2 B H σ E _ _ _ s re m fun d c1 v H1 m1 e1 s1 r1 => ?_
  cases r1 with
  | int i => exact ⟨i, rfl, k _ _ H1 m1 e1 s1⟩
  | _ => exact m1.elim
theorem Reps.cut {B : Addr → Prop} {H : Hp} {xs : List V} {ds : List D} (t : Reps K B H xs ds) (lo hi : Option Int) : Reps K B H (cutV xs lo hi) (DL.cut ds lo hi) := by
  unfold cutV DL.cut
  rw [t.length]
  exact (t.drop _).take _
theorem cut_whole (ds : List D) (lo hi : Option Int) (h1 : HT.sIx ds.length 0 lo = 0) (h2 : HT.sIx ds.length ds.length hi = ds.length) : DL.cut ds lo hi = ds := by
  unfold DL.cut
  rw [h1, h2]
  simp
def rCut (K : PySem.W.Frag) : V → Option Int → Option Int → Hp → VK → Prop := fun x lo hi H Q => rD1 K (fun d => opCut d lo hi) x H Q
theorem sl_D : SlR X (rCut X.K) := by
  intro pins s σ H x v vl vu lo hi sl Q I rx hs pl pu h
  obtain ⟨B, d, c, P, Xp, hb, r1, m, k⟩ := h
  cases r1 with
  | @tup a xs ds q t =>
    refine sl_tupA pins s σ H _ v vl vu lo hi sl Q I rx hs pl pu ⟨a, xs, rfl, q, fun ⟨h1, h2⟩ => ?_, fun _ w hw => k _ _ _ m (All.new hw) (rep_tup hw (t.cut lo hi))⟩
    rw [t.length] at h1 h2
    refine k _ _ H m All.refl ?_
    rw [cut_whole ds lo hi h1 h2]
    exact .tup q t
  | @lst a xs ds q n t =>
    exact sl_list pins s σ H _ v vl vu lo hi sl Q I rx hs pl pu ⟨a, xs, rfl, SqL.of q, fun w hw => k _ _ _ m (All.new hw) (rep_lst hb hw (t.cut lo hi))⟩
  | _ => exact m.elim
theorem pd_cut (S : Sit X p k) {e : Expr} {lo hi : Option Expr} {m : XE} {ml mh : XO} {p2 pos : Pos} (he : PD X p e m) (hl : PDO X p lo ml) (hh : PDO X p hi mh) : PD X p (.Subscript e (.Slice lo hi none p2) pos) (eCut m ml mh) := by
  obtain ⟨ta, a1, a2⟩ := he.ex
  obtain ⟨tl, l1, l2⟩ := hl.ex
  obtain ⟨th, h1, h2⟩ := hh.ex
  refine ⟨_, pe_slice sl_D a1 l1 h1, fun B H σ E c P Q s re m k => ?_⟩
  refine a2 B H σ E _ _ _ s re m fun d c1 v H1 m1 e1 s1 r1 => ?_
  have st1 := s.go e1 s1
  refine l2 B H1 σ E _ _ _ st1 (re.go s e1) m1 fun o1 c2' H2 m2 e2 s2 => ?_
  have st2 := st1.go e2 s2
  refine h2 B H2 σ E _ _ _ st2 ((re.go s e1).go st1 e2) m2 fun o2 c3' H3 m3 e3 s3 => ?_
  have st3 := st2.go e3 s3
  exact ⟨B, d, _, P, p.XP, st3.trk, (r1.mono (st1.up e2)).mono (st2.up e3), m3, fun z v3 H4 pz a3 r3 => k z _ v3 H4 pz (e1.trans (e2.trans (e3.trans a3.ext))) (st3.all S.ok a3) r3⟩
end
end DL

end

section
/-! BR4: statements. -/
namespace DL
open PySem PySem.Spec PyProof.Rows L2

/-! ### environments that change -/
section
variable {K : PySem.W.Frag} {p : Par} {B B' : Addr → Prop} {H H' : Hp} {σ : L2.St} {E : Env} {n : Nat}
theorem getElem?_set_cases {α : Type} {l : List α} {i j : Nat} {a b : α} (h : (l.set i a)[j]? = some b) : (i = j ∧ j < l.length ∧ a = b) ∨ (i ≠ j ∧ l[j]? = some b) := by
  by_cases e : i = j
  · subst e
    by_cases hl : i < l.length
    · rw [List.getElem?_set_self hl] at h
      exact .inl ⟨rfl, hl, Option.some.inj h⟩
    · rw [List.getElem?_eq_none (by rw [List.length_set]; omega)] at h
      cases h
  · rw [List.getElem?_set_ne e] at h
    exact .inr ⟨e, h⟩
theorem EnvR.put (r : EnvR K p B H σ E) (i : Nat) {s : Option V} {e : Ent} (h : Slot K p B H s e) (n : ∀ ds, e ≠ .own ds) : EnvR K p B H (σ.set i s) (E.set i e) := by
  refine ⟨by rw [List.length_set, List.length_set]; exact r.len, fun j e' q => ?_, fun a b x xs ys h1 h2 h3 h4 => ?_⟩
  · rcases getElem?_set_cases q with ⟨rfl, hl, rfl⟩ | ⟨ne, q⟩
    · exact ⟨s, List.getElem?_set_self (by rw [r.len]; exact hl), h⟩
    · rw [List.getElem?_set_ne ne]
      exact r.at_ j e' q
  · rcases getElem?_set_cases h1 with ⟨_, _, z⟩ | ⟨n1, h1⟩
    · exact absurd z (n xs)
    · rcases getElem?_set_cases h2 with ⟨_, _, z⟩ | ⟨n2, h2⟩
      · exact absurd z (n ys)
      · rw [List.getElem?_set_ne n1] at h3
        rw [List.getElem?_set_ne n2] at h4
        exact r.nd a b x xs ys h1 h2 h3 h4
theorem EnvR.unk (r : EnvR K p B H σ E) (i : Nat) (s : Option V) : EnvR K p B H (σ.set i s) (E.set i .unk) := r.put i (.unk s) fun _ z => nomatch z
theorem EnvR.val (r : EnvR K p B H σ E) (i : Nat) {v : V} {d : D} (h : Rep K B H v d) : EnvR K p B H (σ.set i (some v)) (E.set i (.val d)) := r.put i (.val h) fun _ z => nomatch z
theorem EnvR.wipe (r : EnvR K p B H σ E) : ∀ vs : List Nat, EnvR K p B H (L2.wipe σ vs) (wipeE E vs)
  | [] => r
  | v :: vs => (r.wipe vs).unk v none
/-- other places -/
theorem Slot.grow (h : ∀ a, B' a → H a ≠ none → B a) (k : ∀ a, B a → B' a) {x : Option V} {y : Ent} (s : Slot K p B H x y) : Slot K p B' H x y := by
  cases s with
  | unk _ => exact .unk _
  | val r => exact .val (r.grow h)
  | own b n nc h0 hl r => exact .own (k _ b) n nc h0 hl (r.grow h)
  | stm => exact .stm
  | scr q => exact .scr q
theorem EnvR.grow (r : EnvR K p B H σ E) (h : ∀ a, B' a → H a ≠ none → B a) (k : ∀ a, B a → B' a) : EnvR K p B' H σ E :=
  ⟨r.len, fun i e q => let ⟨s, h1, h2⟩ := r.at_ i e q; ⟨s, h1, h2.grow h k⟩, r.nd⟩
/-- the own list at i is a value from here on: its place is no more of B -/
def less (B : Addr → Prop) (q : Addr) : Addr → Prop := fun a => B a ∧ a ≠ q
theorem EnvR.rel (r : EnvR K p B H σ E) (st : St0 p n B H) {i : Nat} {ds : List D} (h : E[i]? = some (.own ds)) :
    ∃ q, EnvR K p (less B q) H σ (E.set i (.val (.list ds))) ∧ St0 p n (less B q) H ∧ ¬ p.B0 q ∧ ¬ p.Bc q ∧ B q := by
  obtain ⟨s, h1, h2⟩ := r.at_ i _ h
  cases h2 with
  | @own q xs _ b n nc h0 hl rs =>
    refine ⟨q, ⟨by rw [List.length_set]; exact r.len, fun j e he => ?_, fun a b x xs ys g1 g2 g3 g4 => ?_⟩, ⟨fun a z => ⟨st.sub a z, fun e => n (e ▸ z)⟩, fun a z => ⟨st.subc a z, fun e => nc (e ▸ z)⟩, fun a z => st.trk a z.1, st.si, st.ext⟩, n, nc, b⟩
    · rcases getElem?_set_cases he with ⟨rfl, _, rfl⟩ | ⟨ne, he⟩
      · exact ⟨_, h1, .val (.lst hl (fun z => z.2 rfl) (rs.less fun _ z => z.1))⟩
      · obtain ⟨s', g1, g2⟩ := r.at_ j e he
        refine ⟨s', g1, ?_⟩
        cases g2 with
        | unk _ => exact .unk _
        | val z => exact .val (z.less fun _ z => z.1)
        | own b' n' nc' h0' hl' rs' => exact .own ⟨b', fun z => ne (r.nd i j q _ _ h he h1 (z ▸ g1))⟩ n' nc' h0' hl' (rs'.less fun _ z => z.1)
        | stm => exact .stm
        | scr q => exact .scr q
    · rcases getElem?_set_cases g1 with ⟨_, _, z⟩ | ⟨n1, g1⟩
      · cases z
      · rcases getElem?_set_cases g2 with ⟨_, _, z⟩ | ⟨n2, g2⟩
        · cases z
        · exact r.nd a b x xs ys g1 g2 g3 g4
/-- a new list is owned -/
def more (B : Addr → Prop) (q : Addr) : Addr → Prop := fun a => B a ∨ a = q
theorem EnvR.own (r : EnvR K p B H σ E) (st : St0 p n B H) (i : Nat) {q : Addr} {xs : List V} {ds : List D} (hq : H q = some (.lst xs)) (nb : ¬ B q) (h0 : p.H0 q = none) (fr : ∀ a, B a → a ≠ q) (rs : Reps K (more B q) H xs ds)
    (old : ∀ (j : Nat) (v : V) (d : D), E[j]? = some (.val d) → j ≠ i → σ[j]? = some (some v) → Rep K (more B q) H v d)
    (olo : ∀ (j : Nat) (a : Addr) (ys : List V) (es : List D), E[j]? = some (.own es) → σ[j]? = some (some (.ref a)) → H a = some (.lst ys) → Reps K (more B q) H ys es) :
    EnvR K p (more B q) H (σ.set i (some (.ref q))) (E.set i (.own ds)) ∧ St0 p n (more B q) H := by
  refine ⟨⟨by rw [List.length_set, List.length_set]; exact r.len, fun j e he => ?_, fun a b x xs' ys g1 g2 g3 g4 => ?_⟩, ⟨fun a z => .inl (st.sub a z), fun a z => .inl (st.subc a z), fun a z => ?_, st.si, st.ext⟩⟩
  · rcases getElem?_set_cases he with ⟨rfl, hl, rfl⟩ | ⟨ne, he⟩
    · exact ⟨_, List.getElem?_set_self (by rw [r.len]; exact hl), .own (.inr rfl) (fun z => nb (st.sub _ z)) (fun z => nb (st.subc _ z)) h0 hq rs⟩
    · rw [List.getElem?_set_ne ne]
      obtain ⟨s, g1, g2⟩ := r.at_ j e he
      refine ⟨s, g1, ?_⟩
      cases g2 with
      | unk _ => exact .unk _
      | val z => exact .val (old j _ _ he (Ne.symm ne) g1)
      | own b' n' nc' h0' hl' rs' => exact .own (.inl b') n' nc' h0' hl' (olo j _ _ _ he g1 hl')
      | stm => exact .stm
      | scr q => exact .scr q
  · rcases getElem?_set_cases g1 with ⟨e1, l1, z1⟩ | ⟨n1, g1⟩
    · rcases getElem?_set_cases g2 with ⟨e2, l2, z2⟩ | ⟨n2, g2⟩
      · rw [← e1, ← e2]
      · subst e1
        rw [List.getElem?_set_self (by rw [r.len]; exact l1)] at g3
        rw [List.getElem?_set_ne n2] at g4
        have ex : q = x := by
          have := Option.some.inj (Option.some.inj g3)
          cases this
          rfl
        subst ex
        obtain ⟨s, k1, k2⟩ := r.at_ b _ g2
        rw [g4] at k1
        cases k1
        cases k2 with
        | own b' _ _ _ _ _ => exact absurd b' nb
    · rcases getElem?_set_cases g2 with ⟨e2, l2, z2⟩ | ⟨n2, g2⟩
      · subst e2
        rw [List.getElem?_set_self (by rw [r.len]; exact l2)] at g4
        rw [List.getElem?_set_ne n1] at g3
        have ex : q = x := by
          have := Option.some.inj (Option.some.inj g4)
          cases this
          rfl
        subst ex
        obtain ⟨s, k1, k2⟩ := r.at_ a _ g1
        rw [g3] at k1
        cases k1
        cases k2 with
        | own b' _ _ _ _ _ => exact absurd b' nb
      · rw [List.getElem?_set_ne n1] at g3
        rw [List.getElem?_set_ne n2] at g4
        exact r.nd a b x xs' ys g1 g2 g3 g4
  · rcases z with z | z
    · exact st.trk a z
    · rw [z, hq]
      exact fun z => nomatch z
end

/-! ### judgements -/
def SR (K : PySem.W.Frag) (p : Par) (ts : TS) (m : XS) : Prop :=
  ∀ (B : Addr → Prop) (H : Hp) (σ : L2.St) (E : Env) (c : Nat) (P : Out → Nat → Prop) (Dn : Ends), St0 p c B H → EnvR K p B H σ E → m E c P p.XP →
    (∀ E' c' B' σ' H', P (.nx E') c' → St0 p c' B' H' → Tr B H B' H' → EnvR K p B' H' σ' E' → Dn.nx σ' H') →
    (∀ d c' v H', P (.rt d) c' → p.SI c' H' → Ext p.B0 p.H0 H' → Rep K p.Bc H' v d → Dn.rt v H') →
    (∀ E' c' B' σ' H', P (.bk E') c' → St0 p c' B' H' → Tr B H B' H' → EnvR K p B' H' σ' E' → Dn.bk σ' H') →
    (∀ E' c' B' σ' H', P (.ct E') c' → St0 p c' B' H' → Tr B H B' H' → EnvR K p B' H' σ' E' → Dn.ct σ' H') → ts Dn σ H
structure PSD (X : Cx) (p : Par) (st : Stmt) (m : XS) : Prop where
  ex : ∃ ts, PS X st ts ∧ SR X.K p ts m
structure PSSD (X : Cx) (p : Par) (sts : List Stmt) (m : XS) : Prop where
  ex : ∃ ts, PSs X sts ts ∧ SR X.K p ts m
section
variable {X : Cx} {p : Par} {k : Nat} {K : PySem.W.Frag}
theorem ssd_nil : PSSD X p [] sSkip := ⟨_, pss_nil, fun B H σ E c P Dn st r m nx rt bk ct => nx E _ B σ H m st .refl r⟩
theorem sr_seq {t u : TS} {a b : XS} (h1 : SR K p t a) (h2 : SR K p u b) : SR K p (tSeq t u) (sSeq a b) := by
  intro B H σ E c P Dn st r m nx rt bk ct
  refine h1 B H σ E _ _ _ st r m (fun E' c1 B' σ' H' m1 st1 t1 r1 => ?_) (fun d c1 v H' m1 => rt d c1 v H' m1) (fun E' c1 B' σ' H' m1 => bk E' c1 B' σ' H' m1) (fun E' c1 B' σ' H' m1 => ct E' c1 B' σ' H' m1)
  refine h2 B' H' σ' E' _ P Dn st1 r1 m1 (fun E2 c2' B2 σ2 H2 m2 st2 t2 r2 => nx E2 c2' B2 σ2 H2 m2 st2 (t1.trans t2) r2) rt (fun E2 c2' B2 σ2 H2 m2 st2 t2 r2 => bk E2 c2' B2 σ2 H2 m2 st2 (t1.trans t2) r2) (fun E2 c2' B2 σ2 H2 m2 st2 t2 r2 => ct E2 c2' B2 σ2 H2 m2 st2 (t1.trans t2) r2)
theorem ssd_cons {st : Stmt} {rest : List Stmt} {a b : XS} (h1 : PSD X p st a) (h2 : PSSD X p rest b) : PSSD X p (st :: rest) (sSeq a b) := by
  obtain ⟨t1, a1, a2⟩ := h1.ex
  obtain ⟨t2, b1, b2⟩ := h2.ex
  exact ⟨_, pss_cons a1 b1, sr_seq a2 b2⟩
theorem ssd_one {st : Stmt} {a : XS} (h1 : PSD X p st a) : PSSD X p [st] a := by
  obtain ⟨t1, a1, a2⟩ := h1.ex
  exact ⟨_, pss_one a1, a2⟩
/-- code that is never reached -/
theorem sd_never {st : Stmt} : PSD X p st (fun _ => stuck) := ⟨_, ps_never, fun _ _ _ _ _ _ _ _ _ m => m.elim⟩
theorem ssd_never {st : List Stmt} : PSSD X p st (fun _ => stuck) := ⟨_, pss_never, fun _ _ _ _ _ _ _ _ _ m => m.elim⟩
theorem sd_pass {pos : Pos} : PSD X p (.Pass pos) sSkip := ⟨_, ps_pass, fun B H σ E c P Dn st r m nx rt bk ct => nx E _ B σ H m st .refl r⟩
theorem sd_break {pos : Pos} : PSD X p (.Break pos) sBreak := ⟨_, ps_break, fun B H σ E c P Dn st r m nx rt bk ct => bk E _ B σ H m st .refl r⟩
theorem sd_cont {pos : Pos} : PSD X p (.Continue pos) sCont := ⟨_, ps_continue, fun B H σ E c P Dn st r m nx rt bk ct => ct E _ B σ H m st .refl r⟩
theorem sd_ret {e : Expr} {m : XE} {pos : Pos} (he : PD X p e m) : PSD X p (.Return (some e) pos) (sRet m) := by
  obtain ⟨te, a1, a2⟩ := he.ex
  refine ⟨_, ps_ret a1, fun B H σ E c P Dn st r m nx rt bk ct => ?_⟩
  exact a2 B H σ E _ _ _ st r m fun d c1 v H1 m1 e1 s1 r1 => rt d _ v H1 m1 s1 (st.ext.trans e1) (r1.less st.subc)
theorem sd_retN {pos : Pos} : PSD X p (.Return none pos) sRetN := ⟨_, ps_retN, fun B H σ E c P Dn st r m nx rt bk ct => rt .none _ .non H m st.si st.ext .non⟩
theorem sd_expr {e : Expr} {m : XE} {pos : Pos} (he : PD X p e m) (hs : swapsWith e none pos.line X.env = pure false := by rfl) : PSD X p (.Expr e pos) (sExpr m) := by
  obtain ⟨te, a1, a2⟩ := he.ex
  refine ⟨_, ps_expr a1 hs, fun B H σ E c P Dn st r m nx rt bk ct => ?_⟩
  exact a2 B H σ E _ _ _ st r m fun d c1 v H1 m1 e1 s1 r1 => nx E _ B σ H1 m1 (st.go e1 s1) (.of (st.up e1)) (r.go st e1)
theorem sd_if {c : Expr} {a b : List Stmt} {t : XT} {ma mb : XS} {pos : Pos} (hc : PDT X p c t) (ha : PSSD X p a ma) (hb : PSSD X p b mb) : PSD X p (.If c a b pos) (sIf t ma mb) := by
  obtain ⟨tc, c1, c2⟩ := hc.ex
  obtain ⟨ta, a1, a2⟩ := ha.ex
  obtain ⟨tb, b1, b2⟩ := hb.ex
  refine ⟨_, ps_if c1 a1 b1, fun B H σ E c P Dn st r m nx rt bk ct => ?_⟩
  refine c2 B H σ E _ _ _ st r m fun b c1 H1 m1 e1 s1 => ?_
  have st1 := st.go e1 s1
  have t1 : Tr B H B H1 := .of (st.up e1)
  have r1 := r.go st e1
  cases b with
  | true => exact a2 B H1 σ E _ P Dn st1 r1 m1 (fun E2 c2' B2 σ2 H2 m2 st2 t2 r2 => nx E2 c2' B2 σ2 H2 m2 st2 (t1.trans t2) r2) rt (fun E2 c2' B2 σ2 H2 m2 st2 t2 r2 => bk E2 c2' B2 σ2 H2 m2 st2 (t1.trans t2) r2) (fun E2 c2' B2 σ2 H2 m2 st2 t2 r2 => ct E2 c2' B2 σ2 H2 m2 st2 (t1.trans t2) r2)
  | false => exact b2 B H1 σ E _ P Dn st1 r1 m1 (fun E2 c2' B2 σ2 H2 m2 st2 t2 r2 => nx E2 c2' B2 σ2 H2 m2 st2 (t1.trans t2) r2) rt (fun E2 c2' B2 σ2 H2 m2 st2 t2 r2 => bk E2 c2' B2 σ2 H2 m2 st2 (t1.trans t2) r2) (fun E2 c2' B2 σ2 H2 m2 st2 t2 r2 => ct E2 c2' B2 σ2 H2 m2 st2 (t1.trans t2) r2)
theorem sr_asg {te : TE} {m : XE} {i : Nat} (h : EvR K p te m) : SR K p (tAsg te (gName i)) (sAsg i m) := by
  intro B H σ E c P Dn st r m nx rt bk ct
  exact h B H σ E _ _ _ st r m fun d c1 v H1 m1 e1 s1 r1 => nx _ _ B _ H1 m1 (st.go e1 s1) (.of (st.up e1)) ((r.go st e1).val i r1)
theorem sd_set (S : Sit X p k) {i : Nat} {x : Str} {e : Expr} {m : XE} {pos pos' : Pos} (hi : X.N[i]? = some x) (hx : Loc X.env.scope x) (he : PD X p e m) (hs : swapsWith e (some (.Name x pos')) pos.line X.env = pure false := by rfl)
    (hf : X.fn x = true ∨ X.env.scope.names.lookup x = some .local := by first | exact .inl rfl | exact .inr rfl) : PSD X p (.Assign [.Name x pos'] e pos) (sAsg i m) := by
  obtain ⟨te, a1, a2⟩ := he.ex
  exact ⟨_, ps_set S.nd hi hx a1 hs hf, sr_asg a2⟩
end
end DL

end

section
/-! BR5: targets, loops, comprehensions. -/
namespace DL
open PySem PySem.Spec PyProof.Rows L2

/-! ### targets -/
def gNs : List Nat → TGs
  | [] => gNil
  | i :: is => gCons (gName i) (gNs is)
def gOf (K : PySem.W.Frag) : Tg → TG
  | .nm i => gName i
  | .tp is => gTup K is.length (gNs is)
def Tg.ix : Tg → List Nat
  | .nm i => [i]
  | .tp is => is
section
variable {K : PySem.W.Frag} {p : Par} {B B' : Addr → Prop} {H H' : Hp} {σ : L2.St} {E E' : Env}
theorem gNs_put : ∀ (is : List Nat) (vs : List V) (ds : List D) (σ : L2.St) (E : Env), EnvR K p B H σ E → Reps K B H vs ds → setAll is ds E = some E' →
    ∀ Q : L2.St → Hp → Prop, (∀ σ', EnvR K p B H σ' E' → σ'.length = σ.length → (∀ j, j ∉ is → σ'[j]? = σ[j]?) → Q σ' H) → gNs is vs σ H Q
  | [], vs, ds, σ, E, r, rs, h, Q, q => by
    cases rs with
    | nil =>
      have e : E = E' := Option.some.inj h
      subst e
      exact ⟨rfl, q σ r rfl fun _ _ => rfl⟩
    | cons _ _ => cases h
  | i :: is, vs, ds, σ, E, r, rs, h, Q, q => by
    cases rs with
    | nil => cases h
    | cons r1 rs =>
      refine ⟨_, _, rfl, gNs_put is _ _ _ _ (r.val i r1) rs h Q fun σ' g1 g2 g3 => q σ' g1 (by rw [g2, List.length_set]) fun j hj => ?_⟩
      rw [List.mem_cons, not_or] at hj
      rw [g3 j hj.2, List.getElem?_set_ne (Ne.symm hj.1)]
theorem gOf_put {t : Tg} {v : V} {d : D} (r : EnvR K p B H σ E) (rv : Rep K B H v d) (h : t.put d E = some E') (Q : L2.St → Hp → Prop)
    (q : ∀ σ', EnvR K p B H σ' E' → σ'.length = σ.length → (∀ j, j ∉ t.ix → σ'[j]? = σ[j]?) → Q σ' H) : gOf K t v σ H Q := by
  cases t with
  | nm i =>
    have e : E.set i (.val d) = E' := Option.some.inj h
    subst e
    exact q _ (r.val i rv) (List.length_set ..) fun j hj => List.getElem?_set_ne fun e => hj (by simp [Tg.ix, e])
  | tp is =>
    cases rv with
    | @tup a xs ds hs rs =>
      have h' : setAll is ds E = some E' := h
      have hl : ∀ (is : List Nat) (ds : List D) (E E' : Env), setAll is ds E = some E' → ds.length = is.length := by
        intro is
        induction is with
        | nil => intro ds E E' h; cases ds with
          | nil => rfl
          | cons _ _ => cases h
        | cons i is ih => intro ds E E' h; cases ds with
          | nil => cases h
          | cons d ds => simp [ih ds _ _ h]
      exact ⟨a, xs, rfl, hs, by rw [rs.length]; exact hl _ _ _ _ h', gNs_put is xs ds σ E r rs h' Q q⟩
    | _ => first | exact absurd h (by simp [Tg.put]) | (simp [Tg.put] at h)
theorem wipe_get (σ : L2.St) : ∀ (vs : List Nat) (j : Nat), (L2.wipe σ vs)[j]? = if j ∈ vs then (if j < σ.length then some none else none) else σ[j]?
  | [], j => by simp [L2.wipe]
  | v :: vs, j => by
    unfold L2.wipe
    by_cases e : v = j
    · subst e
      rw [if_pos (List.mem_cons_self)]
      by_cases hl : v < σ.length
      · rw [if_pos hl, List.getElem?_set_self (by rw [L2.wipe_length]; exact hl)]
      · rw [if_neg hl, List.getElem?_eq_none (by rw [List.length_set, L2.wipe_length]; omega)]
    · rw [List.getElem?_set_ne e, wipe_get σ vs j]
      by_cases hm : j ∈ vs
      · rw [if_pos hm, if_pos (List.mem_cons_of_mem _ hm)]
      · rw [if_neg hm, if_neg fun z => by
          rcases List.mem_cons.mp z with z | z
          · exact e z.symm
          · exact hm z]
theorem wipe_same {σ σ' : L2.St} {vs : List Nat} (hl : σ'.length = σ.length) (h : ∀ j, j ∉ vs → σ'[j]? = σ[j]?) : L2.wipe σ' vs = L2.wipe σ vs := by
  apply List.ext_getElem?
  intro j
  rw [wipe_get, wipe_get, hl]
  by_cases hm : j ∈ vs
  · rw [if_pos hm, if_pos hm]
  · rw [if_neg hm, if_neg hm]
    exact h j hm
theorem wipe_wipe (σ : L2.St) (vs : List Nat) : L2.wipe (L2.wipe σ vs) vs = L2.wipe σ vs :=
  wipe_same (L2.wipe_length σ vs) fun j hj => by rw [wipe_get, if_neg hj]
end

/-! ### what is walked -/
structure WalkD (K : PySem.W.Frag) (B : Addr → Prop) (Hs : Hp) (J : It) (ds : List D) : Prop where
  ex : ∃ G : Hp → Prop, G Hs ∧ (∀ B1 H1, Tr B Hs B1 H1 → G H1) ∧
    Walk J ds.length G (fun i H x H' => All H H' ∧ ∀ B1, Tr B Hs B1 H → (∀ a, B1 a → H a ≠ none) → ∃ d, ds[i]? = some d ∧ Rep K B1 H' x d)
structure PDI (X : Cx) (p : Par) (tg e : Expr) (m : XA) : Prop where
  ex : ∃ wi, PI X tg e wi ∧ ∀ (B : Addr → Prop) (H : Hp) (σ : L2.St) (E : Env) (c : Nat) (P : List D → Nat → Prop) (R : It → Hp → Prop), St0 p c B H → EnvR X.K p B H σ E → m E c P p.XP →
    (∀ ds c' J H', P ds c' → Ext p.B0 H H' → p.SI c' H' → WalkD X.K B H' J ds → R J H') → wi σ H R
section
variable {X : Cx} {p : Par} {k : Nat} {K : PySem.W.Frag} {tg : Expr}
theorem Reps.at' {B : Addr → Prop} {H : Hp} : ∀ {vs : List V} {ds : List D}, Reps K B H vs ds → ∀ {i : Nat} {v : V}, vs[i]? = some v → ∃ d, ds[i]? = some d ∧ Rep K B H v d
  | _, _, .nil, i, v, e => by simp at e
  | _, _, .cons r t, 0, v, e => by
    have e' : _ = v := Option.some.inj e
    subst e'
    exact ⟨_, rfl, r⟩
  | _, _, .cons r t, i + 1, v, e => Reps.at' t (i := i) e
theorem walkD_list {B : Addr → Prop} {H : Hp} {a : Addr} {xs : List V} {ds : List D} (hl : H a = some (.lst xs)) (nb : ¬ B a) (rs : Reps K B H xs ds) : WalkD K B H (Itl K a) ds := by
  refine ⟨fun H => SqL K H a xs, SqL.of hl, fun B1 H1 t => SqL.of (t.ext.keep _ _ hl nb), ?_⟩
  rw [← rs.length]
  refine walk_list.mono (fun _ h => h) fun i H1 x H' hi hg y => ⟨fun b o e => by rw [y.1]; exact e, fun B1 t _ => ?_⟩
  obtain ⟨d, h1, h2⟩ := rs.at' y.2
  exact ⟨d, h1, by rw [y.1]; exact h2.tr t⟩
theorem walkD_tup {B : Addr → Prop} {H : Hp} {a : Addr} {xs : List V} {ds : List D} (hl : SqT K H a xs) (rs : Reps K B H xs ds) : WalkD K B H (Itt K a) ds := by
  refine ⟨fun H => SqT K H a xs, hl, fun B1 H1 t => t.ext.sqT hl, ?_⟩
  rw [← rs.length]
  refine walk_tup.mono (fun _ h => h) fun i H1 x H' hi hg y => ⟨fun b o e => by rw [y.1]; exact e, fun B1 t _ => ?_⟩
  obtain ⟨d, h1, h2⟩ := rs.at' y.2
  exact ⟨d, h1, by rw [y.1]; exact h2.tr t⟩
theorem rng_length (a b : Int) : (rng a b).length = (b - a).toNat := by
  unfold rng
  rw [List.length_map, List.length_range]
theorem rng_get (a b : Int) {i : Nat} (h : i < (b - a).toNat) : (rng a b)[i]? = some (.int (a + (i : Int))) := by
  unfold rng
  rw [List.getElem?_map, List.getElem?_range h]
  rfl
theorem walkD_rng {B : Addr → Prop} {H : Hp} {a b : Int} : WalkD K B H (Itr a (b - a).toNat) (rng a b) := by
  refine ⟨fun _ => True, True.intro, fun _ _ _ => True.intro, ?_⟩
  rw [rng_length]
  refine walk_range.mono (fun _ h => h) fun i H1 x H' hi hg y => ⟨fun b o e => by rw [y.1]; exact e, fun B1 t _ => ?_⟩
  refine ⟨_, rng_get a b hi, ?_⟩
  rw [y.2]
  exact .int _
/-- a sequence by its reading: a list or a tuple -/
theorem pi_seqD {e : Expr} {m : XE} (he : PD X p e m) (lst : Bool) : PDI X p tg e (fun E => bnd (m E) fun d => match lst, d with | true, .list xs => ret xs | false, .tuple xs => ret xs | _, _ => stuck) := by
  obtain ⟨te, a1, a2⟩ := he.ex
  cases lst with
  | true =>
    refine ⟨_, pi_list a1, fun B H σ E c P R st r m k => ?_⟩
    refine a2 B H σ E _ _ _ st r m fun d c1 v H1 m1 e1 s1 r1 => ?_
    cases r1 with
    | lst q n t => exact ⟨_, rfl, ⟨_, SqL.of q⟩, k _ _ _ H1 m1 e1 s1 (walkD_list q n t)⟩
    | _ => exact m1.elim
  | false =>
    refine ⟨_, pi_tup a1, fun B H σ E c P R st r m k => ?_⟩
    refine a2 B H σ E _ _ _ st r m fun d c1 v H1 m1 e1 s1 r1 => ?_
    cases r1 with
    | tup q t => exact ⟨_, rfl, ⟨_, q⟩, k _ _ _ H1 m1 e1 s1 (walkD_tup q t)⟩
    | _ => exact m1.elim
def iLst (a : XE) : XA := fun E => bnd (a E) fun d => match d with | .list xs => ret xs | _ => stuck
def iTup (a : XE) : XA := fun E => bnd (a E) fun d => match d with | .tuple xs => ret xs | _ => stuck
theorem pi_lstD {e : Expr} {m : XE} (he : PD X p e m) : PDI X p tg e (iLst m) := by
  obtain ⟨te, a1, a2⟩ := he.ex
  refine ⟨_, pi_list a1, fun B H σ E c P R st r m k => ?_⟩
  refine a2 B H σ E _ _ _ st r m fun d c1 v H1 m1 e1 s1 r1 => ?_
  cases r1 with
  | lst q n t => exact ⟨_, rfl, ⟨_, SqL.of q⟩, k _ _ _ H1 m1 e1 s1 (walkD_list q n t)⟩
  | _ => exact m1.elim
theorem pi_tupD {e : Expr} {m : XE} (he : PD X p e m) : PDI X p tg e (iTup m) := by
  obtain ⟨te, a1, a2⟩ := he.ex
  refine ⟨_, pi_tup a1, fun B H σ E c P R st r m k => ?_⟩
  refine a2 B H σ E _ _ _ st r m fun d c1 v H1 m1 e1 s1 r1 => ?_
  cases r1 with
  | tup q t => exact ⟨_, rfl, ⟨_, q⟩, k _ _ _ H1 m1 e1 s1 (walkD_tup q t)⟩
  | _ => exact m1.elim
theorem pi_rng1D {a : Expr} {m : XE} {pn pos : Pos} (ha : PD X p a m) (hm : X.mg "range" = none) (hg : Gl X "range" := by rfl) (hs : starEach [a] X.env = [(false, eval a X.env)] := by rfl) : PDI X p tg (.Call (.Name "range" pn) [a] [] pos) (iRng1 m) := by
  obtain ⟨ta, a1, a2⟩ := ha.ex
  refine ⟨_, pi_range1 hg hm (pa_cons a1 pa_nil (by rw [hs] <;> rfl)) hs, fun B H σ E c P R st r m k => ?_⟩
  refine a2 B H σ E _ _ _ st r m fun d c1 v H1 m1 e1 s1 r1 => ?_
  cases r1 with
  | int n =>
    obtain ⟨⟨h1, h2, h3, h4⟩, m1⟩ := m1
    refine ⟨n, rfl, by omega, by omega, k _ _ _ H1 m1 e1 s1 ?_⟩
    have w := walkD_rng (K := X.K) (B := B) (H := H1) (a := 0) (b := n)
    rw [Int.sub_zero] at w
    exact w
  | _ => exact m1.elim
theorem pi_rng2D {a b : Expr} {m n : XE} {pn pos : Pos} (ha : PD X p a m) (hb : PD X p b n) (hm : X.mg "range" = none) (hg : Gl X "range" := by rfl) (hs : starEach [a, b] X.env = [(false, eval a X.env), (false, eval b X.env)] := by rfl) (hs2 : starEach [b] X.env = [(false, eval b X.env)] := by rfl) :
    PDI X p tg (.Call (.Name "range" pn) [a, b] [] pos) (iRng2 m n) := by
  obtain ⟨ta, a1, a2⟩ := ha.ex
  obtain ⟨tb, b1, b2⟩ := hb.ex
  refine ⟨_, pi_range2 hg hm (pa_cons a1 (pa_cons b1 pa_nil (by rw [hs2] <;> rfl)) (by rw [hs, hs2] <;> rfl)) hs hs2, fun B H σ E c P R st r m k => ?_⟩
  refine a2 B H σ E _ _ _ st r m fun d c1 v H1 m1 e1 s1 r1 => ?_
  refine b2 B H1 σ E _ _ _ (st.go e1 s1) (r.go st e1) m1 fun d2 c2' v2 H2 m2 e2 s2 r2 => ?_
  cases r1 with
  | int n =>
    cases r2 with
    | int n2 =>
      obtain ⟨⟨h1, h2, h3, h4⟩, m2⟩ := m2
      exact ⟨n, n2, rfl, ⟨by omega, by omega, by omega, by omega⟩, k _ _ _ H2 m2 (e1.trans e2) s2 walkD_rng⟩
    | _ => exact m2.elim
  | _ => exact m2.elim

/-! ### for -/
theorem forL_drop {t : Tg} {s : XS} {ds : List D} {i : Nat} {d : D} (h : ds[i]? = some d) (E : Env) : forL t s (ds.drop i) E = match t.put d E with
    | none => stuck
    | some E1 => bnd (s E1) fun o => match o with
      | .nx E' => forL t s (ds.drop (i + 1)) E'
      | .ct E' => forL t s (ds.drop (i + 1)) E'
      | .bk E' => ret (.nx E')
      | .rt d => ret (.rt d) := by
  obtain ⟨hl, e⟩ := List.getElem?_eq_some_iff.mp h
  rw [List.drop_eq_getElem_cons hl, e]
  rfl
theorem sd_for (S : Sit X p k) {iter : Expr} {body : List Stmt} {mi : XA} {t : Tg} {mb : XS} {pos : Pos} (hi : PDI X p tg iter mi) (hg : PG X tg (gOf X.K t)) (hb : PSSD X p body mb)
    (hs : ∀ x, foldedSetIterable iter X.env x = pure x := by intro _; rfl) : PSD X p (.For tg iter body [] pos) (sFor mi t mb) := by
  obtain ⟨wi, a1, a2⟩ := hi.ex
  obtain ⟨tb, b1, b2⟩ := hb.ex
  refine ⟨_, ps_for S.po S.calm a1 hg b1 hs, fun B H σ E c P Dn st r m nx rt bk ct => ?_⟩
  refine a2 B H σ E _ _ _ st r m fun ds c1 J H1 m1 e1 s1 w => ?_
  obtain ⟨G, g0, g1, wk⟩ := w.ex
  have st1 := st.go e1 s1
  refine for_it wk (fun i σ' H' => ∃ B' E' c', St0 p c' B' H' ∧ Tr B H1 B' H' ∧ EnvR X.K p B' H' σ' E' ∧ forL t mb (ds.drop i) E' c' P p.XP) ⟨B, E, _, st1, .refl, r.go st e1, m1⟩ (fun i σ' H' _ ⟨B', E', _, _, t', _, _⟩ => g1 B' H' t') ?_ ?_
  · rintro i x σ' H' H'' hi' ⟨B', E', c', st', t', r', m'⟩ ⟨al, y⟩
    obtain ⟨d, hd, rd⟩ := y B' t' st'.trk
    rw [forL_drop hd] at m'
    cases hp : t.put d E' with
    | none => rw [hp] at m'; exact m'.elim
    | some E1 =>
      rw [hp] at m'
      have st2 : St0 p c' B' H'' := st'.go al.ext (st'.all S.ok al)
      have r2 := r'.go st' al.ext
      refine gOf_put r2 rd hp _ fun σ2 r3 _ _ => ?_
      have t2 : Tr B' H' B' H'' := .of al.ext
      refine b2 B' H'' σ2 E1 _ _ _ st2 r3 m' (fun E3 c3' B3 σ3 H3 m3 st3 t3 r3 => ?_) (fun d c3' v H3 m3 => rt d c3' v H3 m3) (fun E3 c3' B3 σ3 H3 m3 st3 t3 r3 => ?_) (fun E3 c3' B3 σ3 H3 m3 st3 t3 r3 => ?_)
      · exact ⟨B3, E3, _, st3, (t'.trans t2).trans t3, r3, m3⟩
      · exact nx E3 _ B3 σ3 H3 m3 st3 ((((Tr.of (st.up e1)).trans t').trans t2).trans t3) r3
      · exact ⟨B3, E3, _, st3, (t'.trans t2).trans t3, r3, m3⟩
  · rintro σ' H' ⟨B', E', c', st', t', r', m'⟩
    rw [List.drop_length] at m'
    exact nx E' _ B' σ' H' m' st' ((Tr.of (st.up e1)).trans t') r'
/-! ### while -/
theorem sd_while (S : Sit X p k) {c : Expr} {body : List Stmt} {mt : XT} {mb : XS} {pos : Pos} (hc : PDT X p c mt) (hb : PSSD X p body mb) : PSD X p (.While c body [] pos) (sWhile mt mb) := by
  obtain ⟨tc, a1, a2⟩ := hc.ex
  obtain ⟨tb, b1, b2⟩ := hb.ex
  refine ⟨_, ps_while S.po a1 b1, fun B H σ E c P Dn st r m nx rt bk ct => ?_⟩
  obtain ⟨n0, m⟩ := m
  refine ⟨fun n σ' H' => ∃ B' E' c', St0 p c' B' H' ∧ Tr B H B' H' ∧ EnvR X.K p B' H' σ' E' ∧ whileL mt mb n E' c' P p.XP, ⟨n0, B, E, _, st, .refl, r, m⟩, ?_⟩
  rintro n σ' H' ⟨B', E', c', st', t', r', m'⟩
  cases n with
  | zero => exact m'.elim
  | succ n =>
    refine a2 B' H' σ' E' _ _ _ st' r' m' fun b c1 H1 m1 e1 s1 => ?_
    have st1 := st'.go e1 s1
    have t1 : Tr B H B' H1 := t'.trans (.of (st'.up e1))
    have r1 := r'.go st' e1
    cases b with
    | true =>
      refine ⟨fun σ2 H2 => ∃ B2 E2 c2', St0 p c2' B2 H2 ∧ Tr B H B2 H2 ∧ EnvR X.K p B2 H2 σ2 E2 ∧ whileL mt mb n E2 c2' P p.XP, fun σ2 H2 h => ⟨n, Nat.lt_succ_self n, h⟩, ?_⟩
      exact b2 B' H1 σ' E' _ _ _ st1 r1 m1 (fun E3 c3' B3 σ3 H3 m3 st3 t3 r3 => ⟨B3, E3, _, st3, t1.trans t3, r3, m3⟩) (fun d c3' v H3 m3 => rt d c3' v H3 m3) (fun E3 c3' B3 σ3 H3 m3 st3 t3 r3 => nx E3 _ B3 σ3 H3 m3 st3 (t1.trans t3) r3) (fun E3 c3' B3 σ3 H3 m3 st3 t3 r3 => ⟨B3, E3, _, st3, t1.trans t3, r3, m3⟩)
    | false => exact nx E' _ B' σ' H1 m1 st1 t1 r1
end
end DL

end

section
/-! BR6: lists of one's own, comprehensions, calls of defs. -/
namespace DL
open PySem PySem.Spec PyProof.Rows L2

/-! ### a reading that is told by the language itself -/
def teOf (K : PySem.W.Frag) (p : Par) (m : XE) : TE := fun σ H Q => ∃ (B : Addr → Prop) (E : Env) (c : Nat) (P : D → Nat → Prop), St0 p c B H ∧ EnvR K p B H σ E ∧ m E c P p.XP ∧
  ∀ d c' v H', P d c' → Ext p.B0 H H' → p.SI c' H' → Rep K B H' v d → Q v H'
def ttOf (K : PySem.W.Frag) (p : Par) (m : XT) : TT := fun σ H Q => ∃ (B : Addr → Prop) (E : Env) (c : Nat) (P : Bool → Nat → Prop), St0 p c B H ∧ EnvR K p B H σ E ∧ m E c P p.XP ∧
  ∀ b c' H', P b c' → Ext p.B0 H H' → p.SI c' H' → Q b H'
section
variable {X : Cx} {p : Par} {k : Nat} {K : PySem.W.Frag}
theorem PD.pe {e : Expr} {m : XE} (h : PD X p e m) : PE X e (teOf X.K p m) := by
  obtain ⟨te, a1, a2⟩ := h.ex
  exact ⟨fun pins s σ H Q I ⟨B, E, c, P, st, r, mm, kk⟩ => a1.run pins s σ H Q I (a2 B H σ E c P Q st r mm kk)⟩
theorem PDT.pt {e : Expr} {m : XT} (h : PDT X p e m) : PT X e (ttOf X.K p m) := by
  obtain ⟨te, a1, a2⟩ := h.ex
  exact ⟨fun pins s σ H Q I ⟨B, E, c, P, st, r, mm, kk⟩ => a1.run pins s σ H Q I (a2 B H σ E c P Q st r mm kk)⟩
structure PDTs (X : Cx) (p : Par) (ifs : List Expr) (m : XT) : Prop where
  pts : PTs X ifs (ttOf X.K p m)
theorem pdts_nil : PDTs X p [] tYes := ⟨⟨fun pins s σ H Q I ⟨B, E, c, P, st, r, mm, kk⟩ => pts_nil.run pins s σ H Q I (kk true c H mm Ext.refl st.si)⟩⟩
theorem pdts_one {e : Expr} {m : XT} (h : PDT X p e m) : PDTs X p [e] m := ⟨pts_one h.pt⟩

/-! ### new lists -/
/-- as EvR, of a list that is just made -/
def EvF (K : PySem.W.Frag) (p : Par) (te : TE) (m : XE) : Prop :=
  ∀ (B : Addr → Prop) (H : Hp) (σ : L2.St) (E : Env) (c : Nat) (P : D → Nat → Prop) (Q : VK), St0 p c B H → EnvR K p B H σ E → m E c P p.XP →
    (∀ ds c' q xs H', P (.list ds) c' → Ext p.B0 H H' → p.SI c' H' → H q = none → H' q = some (.lst xs) → Reps K (more B q) H' xs ds → Q (.ref q) H') → te σ H Q
structure PDF (X : Cx) (p : Par) (e : Expr) (m : XE) : Prop where
  ex : ∃ te, PE X e te ∧ EvF X.K p te m
theorem EvF.ev {te : TE} {m : XE} (h : EvF K p te m) : EvR K p te m := fun B H σ E c P Q st r mm kk =>
  h B H σ E c P Q st r mm fun ds c' q xs H' m1 e1 s1 hq h1 rs => kk _ c' _ H' m1 e1 s1 (.lst h1 (fun z => st.trk q z hq) (rs.less fun _ z => .inl z))
theorem PDF.pd {e : Expr} {m : XE} (h : PDF X p e m) : PD X p e m := by
  obtain ⟨te, a1, a2⟩ := h.ex
  exact ⟨te, a1, a2.ev⟩
theorem ext_none {B : Addr → Prop} {H H' : Hp} (e : Ext B H H') {q : Addr} (h : H' q = none) : H q = none := by
  cases x : H q with
  | none => rfl
  | some o => exact absurd h (e.dom q (some_ne x))
theorem reps_more {B : Addr → Prop} {H : Hp} {q : Addr} {xs : List V} {ds : List D} (hq : H q = none) (r : Reps K B H xs ds) : Reps K (more B q) H xs ds :=
  r.grow fun a z n => by
    rcases z with z | z
    · exact z
    · exact absurd (z ▸ hq) n
theorem rep_more {B : Addr → Prop} {H : Hp} {q : Addr} {v : V} {d : D} (hq : H q = none) (r : Rep K B H v d) : Rep K (more B q) H v d :=
  r.grow fun a z n => by
    rcases z with z | z
    · exact z
    · exact absurd (z ▸ hq) n
theorem pf_lst (S : Sit X p k) {es : List Expr} {pos : Pos} {m : XA} (h : PDA X p es m) : PDF X p (.List es pos) (eLst m) := by
  obtain ⟨ta, a1, a2⟩ := h.ex
  refine ⟨_, pe_lst a1, fun B H σ E c P Q s re m k => ?_⟩
  refine a2 B H σ E _ _ _ s re m fun ds c1 vs H1 m1 e1 s1 r1 => ?_
  have st1 := s.go e1 s1
  refine ⟨by rw [r1.length]; exact small_line m1.1, fun q hq => ?_⟩
  exact k _ _ q _ _ m1.2 (e1.trans (All.new hq).ext) (st1.all S.ok (All.new hq)) (ext_none e1 hq) upd_same ((reps_more hq r1).mono (All.new hq).ext)
/-- list(x) -/
theorem pf_list (S : Sit X p k) {a : Expr} {m : XE} {pn pos : Pos} (hm : X.mg "list" = none) (ha : PD X p a m) (hg : Gl X "list" := by rfl) (hs : starEach [a] X.env = (false, eval a X.env) :: starEach [] X.env := by rfl) : PDF X p (.Call (.Name "list" pn) [a] [] pos) (eB1 .list m) := by
  obtain ⟨ta, a1, a2⟩ := ha.ex
  refine ⟨_, pe_callTy call_list_of hg hm (by decide +kernel) (pa_cons a1 pa_nil hs) (by decide) (by decide) hs (by rfl), fun B H σ E c P Q s re m k => ?_⟩
  refine a2 B H σ E _ _ _ s re m fun d c1 v H1 m1 e1 s1 r1 => ?_
  have st1 := s.go e1 s1
  cases r1 with
  | lst e n t => exact ⟨_, _, rfl, .inl (SqL.of e), fun q hq => k _ _ q _ _ m1 (e1.trans (All.new hq).ext) (st1.all S.ok (All.new hq)) (ext_none e1 hq) upd_same ((reps_more hq t).mono (All.new hq).ext)⟩
  | tup e t => exact ⟨_, _, rfl, .inr e, fun q hq => k _ _ q _ _ m1 (e1.trans (All.new hq).ext) (st1.all S.ok (All.new hq)) (ext_none e1 hq) upd_same ((reps_more hq t).mono (All.new hq).ext)⟩
  | _ => exact m1.elim

/-- name = a new list, owned -/
theorem own_put {B : Addr → Prop} {H H' : Hp} {σ : L2.St} {E : Env} {n n' : Nat} {q : Addr} {xs : List V} {ds : List D} (i : Nat) (r : EnvR K p B H σ E) (st : St0 p n B H) (e : Ext p.B0 H H') (si : p.SI n' H') (hq : H q = none) (h1 : H' q = some (.lst xs)) (rs : Reps K (more B q) H' xs ds) :
    EnvR K p (more B q) H' (σ.set i (some (.ref q))) (E.set i (.own ds)) ∧ St0 p n' (more B q) H' ∧ Tr B H (more B q) H' := by
  have st1 := st.go e si
  have r1 := r.go st e
  have nb : ¬ B q := fun z => st.trk q z hq
  have em : Ext (more B q) H H' := e.more fun a z => .inl (st.sub a z)
  obtain ⟨g1, g2⟩ := r1.own st1 i h1 nb (ext_none st.ext hq) (fun a z e => nb (e ▸ z)) rs
    (fun j v d hj _ hs => by
      obtain ⟨s, k1, k2⟩ := r.at_ j _ hj
      rw [hs] at k1
      cases k1
      cases k2 with
      | val z => exact (rep_more hq z).mono em)
    (fun j a ys es hj hs hl => by
      obtain ⟨s, k1, k2⟩ := r.at_ j _ hj
      rw [hs] at k1
      cases k1
      cases k2 with
      | own b n' nc h0 hl' z =>
        have := e.keep _ _ hl' n'
        rw [hl] at this
        cases this
        exact (reps_more hq z).mono em)
  refine ⟨g1, g2, st.up e, fun a z nn => ?_⟩
  rcases z with z | z
  · exact z
  · exact absurd (z ▸ hq) nn
theorem sd_own (S : Sit X p k) {i : Nat} {x : Str} {e : Expr} {m : XE} {pos pos' : Pos} (hi : X.N[i]? = some x) (hx : Loc X.env.scope x) (he : PDF X p e m) (hs : swapsWith e (some (.Name x pos')) pos.line X.env = pure false := by rfl)
    (hf : X.fn x = true ∨ X.env.scope.names.lookup x = some .local := by first | exact .inl rfl | exact .inr rfl) : PSD X p (.Assign [.Name x pos'] e pos) (sOwn i m) := by
  obtain ⟨te, a1, a2⟩ := he.ex
  refine ⟨_, ps_set S.nd hi hx a1 hs hf, fun B H σ E c P Dn st r m nx rt bk ct => ?_⟩
  refine a2 B H σ E _ _ _ st r m fun ds c1 q xs H1 m1 e1 s1 hq h1 rs => ?_
  obtain ⟨g1, g2, g3⟩ := own_put i r st e1 s1 hq h1 rs
  exact nx _ _ _ _ H1 m1 g2 g3 g1
/-- a, b = x, y -/
theorem sd_par (S : Sit X p k) {i j : Nat} {x y : Str} {a b : Expr} {ma mb : XE} {px py pt pos : Pos} {kt k2 pt2} (hi : X.N[i]? = some x) (hj : X.N[j]? = some y) (hij : i ≠ j) (hx : X.env.scope.names.lookup x = some .local) (hy : X.env.scope.names.lookup y = some .local)
    (ha : PD X p a ma) (hb : PD X p b mb) (hw : swappedStores [.Tuple [.Name x px, .Name y py] kt pt] (.Tuple [a, b] k2 pt2) X.env = pure (some [x, y])) (hs : swapsWithSole [.Tuple [.Name x px, .Name y py] kt pt] (.Tuple [a, b] k2 pt2) pos.line X.env = pure false := by rfl)
    (h1 : starEach [a, b] X.env = (false, eval a X.env) :: starEach [b] X.env := by rfl) (h2 : starEach [b] X.env = (false, eval b X.env) :: starEach [] X.env := by rfl) :
    PSD X p (.Assign [.Tuple [.Name x px, .Name y py] kt pt] (.Tuple [a, b] k2 pt2) pos) (sPar i j ma mb) := by
  obtain ⟨ta, a1, a2⟩ := ha.ex
  obtain ⟨tb, b1, b2⟩ := hb.ex
  refine ⟨_, ps_par S.calm S.nd hi hj hij hx hy (pa_cons a1 (pa_cons b1 pa_nil h2) h1) hw hs, fun B H σ E c P Dn st r m nx rt bk ct => ?_⟩
  refine a2 B H σ E _ _ _ st r m fun d c1 v H1 m1 e1 s1 r1 => ?_
  have st1 := st.go e1 s1
  refine b2 B H1 σ E _ _ _ st1 (r.go st e1) m1 fun d2 c2' v2 H2 m2 e2 s2 r2 => ?_
  have st2 := st1.go e2 s2
  exact ⟨v, v2, rfl, nx _ _ B _ H2 m2 st2 (.of (st.up (e1.trans e2))) ((((r.go st e1).go st1 e2).val i (r1.mono (st1.up e2))).val j r2)⟩
/-- a, b = [..], y: the first one owned -/
def sParO (i j : Nat) (a b : XE) : XS := fun E => bnd (a E) fun x => bnd (b E) fun y => match x with
  | .list ds => ret (.nx ((E.set i (.own ds)).set j (.val y)))
  | _ => stuck
theorem sd_parO (S : Sit X p k) {i j : Nat} {x y : Str} {a b : Expr} {ma mb : XE} {px py pt pos : Pos} {kt k2 pt2} (hi : X.N[i]? = some x) (hj : X.N[j]? = some y) (hij : i ≠ j) (hx : X.env.scope.names.lookup x = some .local) (hy : X.env.scope.names.lookup y = some .local)
    (ha : PDF X p a ma) (hb : PD X p b mb) (hw : swappedStores [.Tuple [.Name x px, .Name y py] kt pt] (.Tuple [a, b] k2 pt2) X.env = pure (some [x, y])) (hs : swapsWithSole [.Tuple [.Name x px, .Name y py] kt pt] (.Tuple [a, b] k2 pt2) pos.line X.env = pure false := by rfl)
    (h1 : starEach [a, b] X.env = (false, eval a X.env) :: starEach [b] X.env := by rfl) (h2 : starEach [b] X.env = (false, eval b X.env) :: starEach [] X.env := by rfl) :
    PSD X p (.Assign [.Tuple [.Name x px, .Name y py] kt pt] (.Tuple [a, b] k2 pt2) pos) (sParO i j ma mb) := by
  obtain ⟨ta, a1, a2⟩ := ha.ex
  obtain ⟨tb, b1, b2⟩ := hb.ex
  refine ⟨_, ps_par S.calm S.nd hi hj hij hx hy (pa_cons a1 (pa_cons b1 pa_nil h2) h1) hw hs, fun B H σ E c P Dn st r m nx rt bk ct => ?_⟩
  refine a2 B H σ E _ _ _ st r m fun ds c1 q xs H1 m1 e1 s1 hq h1 rs => ?_
  have st1 := st.go e1 s1
  have nq : ¬ p.B0 q := fun z => st.trk q (st.sub q z) hq
  -- the second is read while the first is known by its place
  have stm : St0 p c1 (more B q) H1 := by
    refine ⟨fun a z => .inl (st1.sub a z), fun a z => .inl (st1.subc a z), fun a z => ?_, st1.si, st1.ext⟩
    rcases z with z | z
    · exact st1.trk a z
    · rw [z, h1]
      exact fun z => nomatch z
  have rm : EnvR X.K p (more B q) H1 σ E := by
    have gr : ∀ a, more B q a → H a ≠ none → B a := fun a z n => by
      rcases z with z | z
      · exact z
      · exact absurd (z ▸ hq) n
    have r0 : EnvR X.K p (more B q) H σ E := r.grow gr fun a z => .inl z
    refine ⟨r0.len, fun i' e' q' => ?_, r0.nd⟩
    obtain ⟨s, k1, k2⟩ := r0.at_ i' e' q'
    refine ⟨s, k1, ?_⟩
    have em : Ext (more B q) H H1 := e1.more fun a z => .inl (st.sub a z)
    cases k2 with
    | unk _ => exact .unk _
    | val z => exact .val (z.mono em)
    | own b n' nc h0 hl z => exact .own b n' nc h0 (e1.keep _ _ hl n') (z.mono em)
    | stm => exact .stm
    | scr z => exact .scr fun H2 hk => z H2 fun o ho hi => hk o (e1.imm _ o ho hi) hi
  refine b2 (more B q) H1 σ E _ _ _ stm rm m1 fun d2 c2' v2 H2 m2 e2 s2 r2 => ?_
  have st2 := stm.go e2 s2
  refine ⟨_, v2, rfl, ?_⟩
  obtain ⟨g1, g2, g3⟩ := own_put i r st (e1.trans e2) s2 hq (e2.keep _ _ h1 nq) (rs.mono (stm.up e2))
  exact nx _ _ _ _ H2 m2 g2 g3 (g1.val j r2)
end

/-! ### what is done to a list of one's own -/
section
variable {X : Cx} {p : Par} {k : Nat} {K : PySem.W.Frag}
/-- the own list at q is another one -/
theorem own_upd {B : Addr → Prop} {H : Hp} {σ : L2.St} {E : Env} {n : Nat} {i : Nat} {q : Addr} {xs ys : List V} {ds es : List D} (ok : p.Ok K X.mg) (r : EnvR K p B H σ E) (st : St0 p n B H) (hi : E[i]? = some (.own ds)) (hs : σ[i]? = some (some (.ref q))) (hq : H q = some (.lst xs))
    (rs : Reps K B H ys es) : EnvR K p B (upd H q (.lst ys)) σ (E.set i (.own es)) ∧ St0 p n B (upd H q (.lst ys)) ∧ Tr B H B (upd H q (.lst ys)) := by
  obtain ⟨s, k1, k2⟩ := r.at_ i _ hi
  rw [hs] at k1
  cases k1
  cases k2 with
  | own b n' nc h0 hl z =>
    have ex : Ext B H (upd H q (.lst ys)) := by
      refine ⟨fun a o e nb => ?_, fun a o e im => ?_, fun a nn => ?_⟩
      · have ne : a ≠ q := fun z => nb (by rw [z]; exact b)
        rw [upd_ne ne]
        exact e
      · have ne : a ≠ q := fun z => by
          subst z
          rw [hq] at e
          cases e
          exact im
        rw [upd_ne ne]
        exact e
      · by_cases z : a = q
        · rw [z, upd_same]
          exact fun z => nomatch z
        · rw [upd_ne z]
          exact nn
    refine ⟨⟨by rw [List.length_set]; exact r.len, fun j e he => ?_, fun a b' x zs ws g1 g2 g3 g4 => ?_⟩, ⟨st.sub, st.subc, fun a z => ex.dom a (st.trk a z), ?_, ?_⟩, .of ex⟩
    · rcases getElem?_set_cases he with ⟨rfl, hl', rfl⟩ | ⟨ne, he⟩
      · exact ⟨_, hs, .own b n' nc h0 upd_same (rs.mono ex)⟩
      · obtain ⟨s', g1, g2⟩ := r.at_ j e he
        refine ⟨s', g1, ?_⟩
        cases g2 with
        | unk _ => exact .unk _
        | val z => exact .val (z.mono ex)
        | @own a2 _ _ b2 n2 nc2 h02 hl2 z2 =>
          have na : a2 ≠ q := fun z => ne (r.nd i j q _ _ hi he hs (by rw [← z]; exact g1))
          exact .own b2 n2 nc2 h02 (by rw [upd_ne na]; exact hl2) (z2.mono ex)
        | stm => exact .stm
        | scr z => exact .scr fun H2 hk => z H2 fun o ho him => hk o (ex.imm _ o ho him) him
    · rcases getElem?_set_cases g1 with ⟨rfl, _, _⟩ | ⟨n1, g1⟩
      · rcases getElem?_set_cases g2 with ⟨rfl, _, _⟩ | ⟨n2, g2⟩
        · rfl
        · exact r.nd _ _ x _ _ hi g2 g3 g4
      · rcases getElem?_set_cases g2 with ⟨rfl, _, _⟩ | ⟨n2, g2⟩
        · exact r.nd _ _ x _ _ g1 hi g3 g4
        · exact r.nd _ _ x _ _ g1 g2 g3 g4
    · refine ok.stab n H _ st.si fun a o ha e => ?_
      have na : a ≠ q := fun z => n' (by rw [← z]; exact ha)
      rw [upd_ne na]
      exact e
    · refine ⟨fun a o e nb => ?_, fun a o e im => ex.imm a o (st.ext.imm a o e im) im, fun a nn => ex.dom a (st.ext.dom a nn)⟩
      have na : a ≠ q := fun z => by
        subst z
        rw [h0] at e
        cases e
      rw [upd_ne na]
      exact st.ext.keep a o e nb
theorem own_at {B : Addr → Prop} {H : Hp} {σ : L2.St} {E : Env} {i : Nat} {ds : List D} (r : EnvR K p B H σ E) (hi : E[i]? = some (.own ds)) : ∃ q xs, σ[i]? = some (some (.ref q)) ∧ B q ∧ ¬ p.B0 q ∧ H q = some (.lst xs) ∧ Reps K B H xs ds := by
  obtain ⟨s, k1, k2⟩ := r.at_ i _ hi
  cases k2 with
  | own b n nc h0 hl z => exact ⟨_, _, k1, b, n, hl, z⟩
/-- xs.append(e) -/
theorem sd_app (S : Sit X p k) (i : Nat) {x : Str} {e : Expr} {me : XE} {px pa pc pos : Pos} (he : PD X p e me)
    (hpe : ∀ {te : TE}, PE X e te → PE X (.Call (.Attribute (.Name x px) "append" pa) [e] [] pc) (tBM X.K "list" rAppend (tVar i) (tCons te tNil)))
    (hs : swapsWith (.Call (.Attribute (.Name x px) "append" pa) [e] [] pc) none pos.line X.env = pure false := by rfl) :
    PSD X p (.Expr (.Call (.Attribute (.Name x px) "append" pa) [e] [] pc) pos) (sApp i me) := by
  obtain ⟨te, a1, a2⟩ := he.ex
  refine ⟨_, ps_expr (hpe a1) hs, fun B H σ E c P Dn st r m nx rt bk ct => ?_⟩
  have m' : (match E[i]? with | some (.own ds) => bnd (me E) fun d => grd (small ds.length) (ret (Out.nx (E.set i (.own (ds ++ [d]))))) | _ => stuck) c P p.XP := m
  cases h : E[i]? with
  | none => rw [h] at m'; exact m'.elim
  | some y =>
    rw [h] at m'
    cases y with
    | own ds =>
      obtain ⟨q, xs, hsq, hb, hn, hl, rs⟩ := own_at r h
      refine ⟨.ref q, hsq, .inl ⟨rfl, xs, SqL.of hl⟩, ?_⟩
      refine a2 B H σ E _ _ _ st r m' fun d c1 v H1 m1 e1 s1 r1 => ?_
      have st1 := st.go e1 s1
      have rr := r.go st e1
      have hl1 := e1.keep _ _ hl hn
      have rs1 := rs.mono (st.up e1)
      obtain ⟨g1, g2, g3⟩ := own_upd (ys := xs ++ [v]) (es := ds ++ [d]) S.ok rr st1 h hsq hl1 (rs1.append (.cons r1 .nil))
      exact ⟨q, xs, v, rfl, rfl, hl1, by rw [rs.length]; exact small_lt m1.1, nx _ _ _ _ _ m1.2 g2 ((Tr.of (st.up e1)).trans g3) g1⟩
    | _ => exact m'.elim
end
end DL

end

section
/-! BR7: comprehensions, calls of defs. -/
namespace DL
open PySem PySem.Spec PyProof.Rows L2

/-! ### xs[k] = e; an own list from here on a value -/
section
variable {X : Cx} {p : Par} {k : Nat} {K : PySem.W.Frag}
theorem ixN_lt {n : Nat} {z : Int} {j : Nat} (h : ixN n z = some j) : j < n := (ixN_seq h).2.1
theorem sd_setI (S : Sit X p k) (i : Nat) {x : Str} {a e : Expr} {ma me : XE} {px pt pos : Pos} (hg : PG X (.Subscript (.Name x px) a pt) (gSub (tVar i) (teOf X.K p ma) rSetL)) (he : PD X p e me)
    (hs : swapsWithSole [.Subscript (.Name x px) a pt] e pos.line X.env = pure false := by rfl) (hw : swappedStores [.Subscript (.Name x px) a pt] e X.env = pure none := by rfl) :
    PSD X p (.Assign [.Subscript (.Name x px) a pt] e pos) (sSet i ma me) := by
  obtain ⟨te, b1, b2⟩ := he.ex
  refine ⟨_, ps_asg b1 hg hs hw, fun B H σ E c P Dn st r m nx rt bk ct => ?_⟩
  have m' : (match E[i]? with | some (.own ds) => bnd (me E) fun d => bnd (ma E) fun n => (match n with | .int z => (match L2.ixN ds.length z with | some j => ret (Out.nx (E.set i (.own (ds.set j d)))) | none => stuck) | _ => stuck) | _ => stuck) c P p.XP := m
  cases h : E[i]? with
  | none => rw [h] at m'; exact m'.elim
  | some y =>
    rw [h] at m'
    cases y with
    | own ds =>
      obtain ⟨q, xs, hsq, hb, hn, hl, rs⟩ := own_at r h
      refine b2 B H σ E _ _ _ st r m' fun d c1 v H1 m1 e1 s1 r1 => ?_
      have st1 := st.go e1 s1
      refine ⟨.ref q, hsq, ?_⟩
      refine ⟨B, E, c1, _, st1, r.go st e1, m1, fun d2 c2' v2 H2 m2 e2 s2 r2 => ?_⟩
      have st2 := st1.go e2 s2
      cases r2 with
      | int z =>
        have m2' : (match L2.ixN ds.length z with | some j => ret (Out.nx (E.set i (.own (ds.set j d)))) | none => stuck) c2' P p.XP := m2
        cases hj : L2.ixN ds.length z with
        | none => rw [hj] at m2'; exact m2'.elim
        | some j =>
          rw [hj] at m2'
          have hl2 := e2.keep _ _ (e1.keep _ _ hl hn) hn
          have rs2 := (rs.mono (st.up e1)).mono (st1.up e2)
          obtain ⟨g1, g2, g3⟩ := own_upd (ys := xs.set j v) (es := ds.set j d) S.ok ((r.go st e1).go st1 e2) st2 h hsq hl2 (Reps.set (r1.mono (st1.up e2)) j rs2)
          exact ⟨q, xs, z, j, rfl, rfl, hl2, by rw [rs.length]; exact hj, nx _ _ _ _ _ m2' g2 ((Tr.of (st.up (e1.trans e2))).trans g3) g1⟩
      | _ => exact m2.elim
    | _ => exact m'.elim
theorem less_tr {B : Addr → Prop} {H : Hp} {q : Addr} : Tr B H (less B q) H := ⟨Ext.refl, fun a z _ => z.1⟩
theorem sd_rel (i : Nat) {s : Stmt} {m : XS} (h : PSD X p s m) : PSD X p s (sRel i m) := by
  obtain ⟨ts, a1, a2⟩ := h.ex
  refine ⟨ts, a1, fun B H σ E c P Dn st r mm nx rt bk ct => ?_⟩
  have m' : (match E[i]? with | some (.own ds) => m (E.set i (.val (.list ds))) | _ => m E) c P p.XP := mm
  cases q : E[i]? with
  | none => rw [q] at m'; exact a2 B H σ E _ P Dn st r m' nx rt bk ct
  | some y =>
    rw [q] at m'
    cases y with
    | own ds =>
      obtain ⟨w, r1, st1, _, _, _⟩ := r.rel st q
      exact a2 (less B w) H σ _ _ P Dn st1 r1 m' (fun E2 c2' B2 σ2 H2 m2 st2 t2 r2 => nx E2 c2' B2 σ2 H2 m2 st2 (less_tr.trans t2) r2) rt (fun E2 c2' B2 σ2 H2 m2 st2 t2 r2 => bk E2 c2' B2 σ2 H2 m2 st2 (less_tr.trans t2) r2) (fun E2 c2' B2 σ2 H2 m2 st2 t2 r2 => ct E2 c2' B2 σ2 H2 m2 st2 (less_tr.trans t2) r2)
    | _ => exact a2 B H σ E _ P Dn st r m' nx rt bk ct
theorem pd_bor (i : Nat) {e : Expr} {m : XE} (h : PD X p e m) : PD X p e (eBor i m) := by
  obtain ⟨te, a1, a2⟩ := h.ex
  refine ⟨te, a1, fun B H σ E c P Q st r mm kk => ?_⟩
  have m' : (match E[i]? with | some (.own ds) => bnd (m (E.set i (.val (.list ds)))) fun d => grd (flat d = true) (ret d) | _ => m E) c P p.XP := mm
  cases q : E[i]? with
  | none => rw [q] at m'; exact a2 B H σ E c P Q st r m' kk
  | some y =>
    rw [q] at m'
    cases y with
    | own ds =>
      obtain ⟨w, r1, st1, n0, _, hb⟩ := r.rel st q
      exact a2 (less B w) H σ _ _ _ Q st1 r1 m' fun d c1 v H1 m1 e1 s1 r1 => kk d c1 v H1 m1.2 e1 s1 (r1.flat m1.1)
    | _ => exact a2 B H σ E c P Q st r m' kk
theorem pt_bor (i : Nat) {e : Expr} {m : XT} (h : PDT X p e m) : PDT X p e (tBor i m) := by
  obtain ⟨te, a1, a2⟩ := h.ex
  refine ⟨te, a1, fun B H σ E c P Q st r mm kk => ?_⟩
  have m' : (match E[i]? with | some (.own ds) => m (E.set i (.val (.list ds))) | _ => m E) c P p.XP := mm
  cases q : E[i]? with
  | none => rw [q] at m'; exact a2 B H σ E c P Q st r m' kk
  | some y =>
    rw [q] at m'
    cases y with
    | own ds =>
      obtain ⟨w, r1, st1, n0, _, hb⟩ := r.rel st q
      exact a2 (less B w) H σ _ _ _ Q st1 r1 m' fun d c1 H1 m1 e1 s1 => kk d c1 H1 m1 e1 s1
    | _ => exact a2 B H σ E c P Q st r m' kk

/-! ### comprehensions -/
/-- within a comprehension: no error may leave -/
def Par.quiet (p : Par) : Par := { p with XP := fun _ => False, EK := fun _ _ _ => False }
theorem St0.quiet {n : Nat} {B : Addr → Prop} {H : Hp} (s : St0 p n B H) : St0 p.quiet n B H := ⟨s.sub, s.subc, s.trk, s.si, s.ext⟩
theorem St0.loud {n : Nat} {B : Addr → Prop} {H : Hp} (s : St0 p.quiet n B H) : St0 p n B H := ⟨s.sub, s.subc, s.trk, s.si, s.ext⟩
theorem Slot.quiet {B : Addr → Prop} {H : Hp} {x : Option V} {y : Ent} (s : Slot K p B H x y) : Slot K p.quiet B H x y := by
  cases s with
  | unk _ => exact .unk _
  | val r => exact .val r
  | own b n nc h0 hl r => exact .own b n nc h0 hl r
  | stm => exact .stm (p := p.quiet)
  | scr q => exact .scr q
theorem EnvR.quiet {B : Addr → Prop} {H : Hp} {σ : L2.St} {E : Env} (r : EnvR K p B H σ E) : EnvR K p.quiet B H σ E :=
  ⟨r.len, fun i e q => let ⟨s, h1, h2⟩ := r.at_ i e q; ⟨s, h1, h2.quiet⟩, r.nd⟩
theorem Sit.quiet (S : Sit X p k) {s : Shared} {H : Hp} {scope : Scope} {cenv : PySem.Env} {fp : List Addr} : Sit (X.blk s H scope cenv fp) p.quiet k :=
  ⟨S.calm, S.gd, S.rm, S.nd, ⟨S.ok.stab, fun _ _ _ _ _ h => h.elim⟩, PassesOwn.never, passL⟩
theorem compL_drop {t : Tg} {mt : XT} {me : XE} {ds acc : List D} {i : Nat} {d : D} (h : ds[i]? = some d) (E : Env) : compL t mt me (ds.drop i) acc E = match t.put d E with
    | none => stuck
    | some E1 => bnd (mt E1) fun c => if c = true then bnd (me E1) fun y => grd (small acc.length) (compL t mt me (ds.drop (i + 1)) (acc ++ [y]) E) else compL t mt me (ds.drop (i + 1)) acc E := by
  obtain ⟨hl, e⟩ := List.getElem?_eq_some_iff.mp h
  rw [List.drop_eq_getElem_cons hl, e]
  rfl
/-- the stream's places and one new place -/
def plusQ (p : Par) (q : Addr) : Addr → Prop := fun a => p.B0 a ∨ a = q
theorem ext_q {H H' : Hp} {q : Addr} (hq : H q = none) (e : Ext (plusQ p q) H H') : Ext p.B0 H H' :=
  ⟨fun a o h n => e.keep a o h (fun z => z.elim n (fun z => absurd (z ▸ h) (by rw [hq]; exact fun z => nomatch z))), e.imm, e.dom⟩
theorem tr_q {n : Nat} {B : Addr → Prop} {H H' : Hp} {q : Addr} (st : St0 p n B H) (hq : H q = none) (e : Ext (plusQ p q) H H') : Tr B H (more B q) H' :=
  ⟨(ext_q hq e).more st.sub, fun a z n => by
    rcases z with z | z
    · exact z
    · exact absurd (z ▸ hq) n⟩
theorem st_q {n n' : Nat} {B : Addr → Prop} {H H' : Hp} {q : Addr} (st : St0 p n B H) (hq : H q = none) (e : Ext (plusQ p q) H H') (si : p.SI n' H') (hn : H' q ≠ none) : St0 p n' (more B q) H' := by
  refine ⟨fun a z => .inl (st.sub a z), fun a z => .inl (st.subc a z), fun a z => ?_, si, st.ext.trans (ext_q hq e)⟩
  rcases z with z | z
  · exact e.dom a (st.trk a z)
  · rw [z]
    exact hn
theorem env_q {n : Nat} {B : Addr → Prop} {H H' : Hp} {q : Addr} {σ : L2.St} {E : Env} (r : EnvR K p B H σ E) (st : St0 p n B H) (hq : H q = none) (e : Ext (plusQ p q) H H') : EnvR K p (more B q) H' σ E := by
  have em : Ext (more B q) H H' := e.more fun a z => z.elim (fun z => .inl (st.sub a z)) fun z => .inr z
  refine ⟨r.len, fun i x h => ?_, r.nd⟩
  obtain ⟨s, k1, k2⟩ := r.at_ i x h
  refine ⟨s, k1, ?_⟩
  cases k2 with
  | unk _ => exact .unk _
  | val z => exact .val ((rep_more hq z).mono em)
  | own b n' nc h0 hl z => exact .own (.inl b) n' nc h0 (e.keep _ _ hl fun w => w.elim n' fun w => by rw [w, hq] at hl; cases hl) ((reps_more hq z).mono em)
  | stm => exact .stm
  | scr z => exact .scr fun H2 hk => z H2 fun o ho hi => hk o (e.imm _ o ho hi) hi
theorem upd_q {B : Addr → Prop} {H : Hp} {q : Addr} {xs ys : List V} (b : B q) (hq : H q = some (.lst xs)) : Ext B H (upd H q (.lst ys)) := by
  refine ⟨fun a o e nb => ?_, fun a o e im => ?_, fun a nn => ?_⟩
  · have ne : a ≠ q := fun z => nb (by rw [z]; exact b)
    rw [upd_ne ne]
    exact e
  · have ne : a ≠ q := fun z => by
      subst z
      rw [hq] at e
      cases e
      exact im
    rw [upd_ne ne]
    exact e
  · by_cases z : a = q
    · rw [z, upd_same]
      exact fun z => nomatch z
    · rw [upd_ne z]
      exact nn
theorem ev_comp (S : Sit X p k) {wi : TI} {t : Tg} {mi : XA} {mt : XT} {me : XE} {vs : List Nat}
    (hi : ∀ (B : Addr → Prop) (H : Hp) (σ : L2.St) (E : Env) (c : Nat) (P : List D → Nat → Prop) (R : It → Hp → Prop), St0 p c B H → EnvR X.K p B H σ E → mi E c P p.XP →
      (∀ ds c' J H', P ds c' → Ext p.B0 H H' → p.SI c' H' → WalkD X.K B H' J ds → R J H') → wi σ H R) (hx : ∀ j ∈ t.ix, j ∈ vs) :
    EvF X.K p (tLc wi (gOf X.K t) (ttOf X.K p.quiet mt) (teOf X.K p.quiet me) vs) (eComp mi t mt me vs) := by
  intro B H σ E c P Q st r m kk
  refine hi B H σ E _ _ _ st r m fun ds c1 J H1 m1 e1 s1 w => ?_
  have st1 := st.go e1 s1
  intro q hq
  have q0 : H q = none := ext_none e1 hq
  obtain ⟨G, g0, g1, wk⟩ := w.ex
  have r1 := r.go st e1
  have x0 : Ext (plusQ p q) H1 (upd H1 q (.lst [])) := (All.new hq).ext
  refine lc_it wk (fun i H' => ∃ acc accD c', H' q = some (.lst acc) ∧ Reps X.K (more B q) H' acc accD ∧ p.SI c' H' ∧ Ext (plusQ p q) H1 H' ∧ compL t mt me (ds.drop i) accD (wipeE E vs) c' (fun ys n => P (.list ys) n) (fun _ => False))
    ⟨[], [], c1, upd_same, .nil, st1.all S.ok (All.new hq), x0, m1⟩ (fun i H' _ ⟨acc, accD, c', h1, h2, h3, h4, h5⟩ => g1 (more B q) H' (tr_q st1 hq h4)) ?_ ?_
  · rintro i x H' H'' hi' ⟨acc, accD, c', h1, h2, h3, h4, h5⟩ ⟨al, y⟩
    have stq := st_q st1 hq h4 h3 (by rw [h1]; exact fun z => nomatch z)
    obtain ⟨d, hd, rd⟩ := y (more B q) (tr_q st1 hq h4) stq.trk
    rw [compL_drop hd] at h5
    cases hp : t.put d (wipeE E vs) with
    | none => rw [hp] at h5; exact h5.elim
    | some E1 =>
      rw [hp] at h5
      have h4' : Ext (plusQ p q) H1 H'' := h4.trans al.ext
      have s'' : p.SI c' H'' := stq.all S.ok al
      have hq'' : H'' q = some (.lst acc) := al q _ h1
      have stq2 := st_q st1 hq h4' s'' (by rw [hq'']; exact fun z => nomatch z)
      have rq2 := env_q r1 st1 hq h4'
      refine gOf_put (rq2.wipe vs).quiet rd hp _ fun σ2 g2 gl gx => ?_
      refine ⟨?_, ?_⟩
      · exact (wipe_same gl fun j hj => gx j fun z => hj (hx j z)).trans (wipe_wipe σ vs)
      · refine ⟨more B q, E1, c', _, stq2.quiet, g2, h5, fun b c2 H3 m3 e3 s3 => ?_⟩
        have h43 : Ext (plusQ p q) H1 H3 := h4'.trans (e3.more fun a z => .inl z)
        have hq3 : H3 q = some (.lst acc) := e3.keep q _ hq'' (fun z => st1.trk q (st1.sub q z) hq)
        have rs3 : Reps X.K (more B q) H3 acc accD := (h2.mono al.ext).mono (stq2.up e3)
        cases b with
        | false => exact ⟨acc, accD, c2, hq3, rs3, s3, h43, m3⟩
        | true =>
          have stq3 := st_q st1 hq h43 s3 (by rw [hq3]; exact fun z => nomatch z)
          refine ⟨more B q, E1, c2, _, stq3.quiet, g2.go stq2.quiet e3, m3, fun y c4 v H4 m4 e4 s4 r4 => ?_⟩
          have h44 : Ext (plusQ p q) H1 H4 := h43.trans (e4.more fun a z => .inl z)
          have hq4 : H4 q = some (.lst acc) := e4.keep q _ hq3 (fun z => st1.trk q (st1.sub q z) hq)
          have rs4 := rs3.mono (stq3.up e4)
          have x5 : Ext (plusQ p q) H4 (upd H4 q (.lst (acc ++ [v]))) := upd_q (.inr rfl) hq4
          have x5' : Ext (more B q) H4 (upd H4 q (.lst (acc ++ [v]))) := upd_q (.inr rfl) hq4
          refine ⟨acc, hq4, by rw [rs4.length]; exact small_lt m4.1, acc ++ [v], accD ++ [y], c4, upd_same, (rs4.append (.cons r4 .nil)).mono x5', ?_, h44.trans x5, m4.2⟩
          refine S.ok.stab c4 H4 _ s4 fun a o ha e => ?_
          have na : a ≠ q := fun z => st1.trk q (st1.sub q (by rw [← z]; exact ha)) hq
          rw [upd_ne na]
          exact e
  · rintro H' ⟨acc, accD, c', h1, h2, h3, h4, h5⟩
    rw [List.drop_length] at h5
    exact kk accD c' q acc H' h5 (e1.trans (ext_q hq h4)) h3 q0 h1 h2
theorem pf_comp (S : Sit X p k) {elt tg iter : Expr} {ifs : List Expr} {scope : Scope} {pos : Pos} {t : Tg} {mi : XA} {mt : XT} {me : XE} (own : List (Str × Nat)) (hi : PDI X p tg iter mi) (ok : BlkOk X.N X.env.scope scope own) (hx : ∀ j ∈ t.ix, j ∈ own.map (·.2))
    (hg : ∀ (s : Shared) (H : Hp) (C : Addr) (cl : List (Str × Addr)) (fp : List Addr), PG (X.blk s H scope (compEnvC scope cl C X.env) fp) tg (gOf X.K t))
    (ht : ∀ (s : Shared) (H : Hp) (C : Addr) (cl : List (Str × Addr)) (fp : List Addr), Sit (X.blk s H scope (compEnvC scope cl C X.env) fp) p.quiet k → PDTs (X.blk s H scope (compEnvC scope cl C X.env) fp) p.quiet ifs mt)
    (he : ∀ (s : Shared) (H : Hp) (C : Addr) (cl : List (Str × Addr)) (fp : List Addr), Sit (X.blk s H scope (compEnvC scope cl C X.env) fp) p.quiet k → PD (X.blk s H scope (compEnvC scope cl C X.env) fp) p.quiet elt me)
    (hs : ∀ x, foldedSetIterable iter X.env x = pure x := by intro _; rfl) : PDF X p (.ListComp elt [⟨tg, iter, ifs, 0⟩] scope pos) (eComp mi t mt me (own.map (·.2))) := by
  obtain ⟨wi, a1, a2⟩ := hi.ex
  exact ⟨_, pe_lc (tt := ttOf X.K p.quiet mt) (te := teOf X.K p.quiet me) S.calm S.nd a1 ok hg (fun s H C cl fp => (ht s H C cl fp S.quiet).pts) (fun s H C cl fp => (he s H C cl fp S.quiet).pe) hs, ev_comp S a2 hx⟩
/-- name = [..]: the name a local; w: owned -/
theorem sd_comp (S : Sit X p k) {i : Nat} {y : Str} {py spos : Pos} {elt tg iter : Expr} {ifs : List Expr} {scope : Scope} {pos : Pos} {t : Tg} {mi : XA} {mt : XT} {me : XE} (own : List (Str × Nat)) (hy : X.N[i]? = some y) (hyl : X.env.scope.names.lookup y = some .local)
    (hsw : swapsWith (.ListComp elt [⟨tg, iter, ifs, 0⟩] scope pos) (some (.Name y py)) spos.line X.env = pure true) (hi : PDI X p tg iter mi) (ok : BlkOk X.N X.env.scope scope own) (hx : ∀ j ∈ t.ix, j ∈ own.map (·.2))
    (hg : ∀ (s : Shared) (H : Hp) (C : Addr) (cl : List (Str × Addr)) (fp : List Addr), PG (X.blk s H scope (compEnvC scope cl C X.env) fp) tg (gOf X.K t))
    (ht : ∀ (s : Shared) (H : Hp) (C : Addr) (cl : List (Str × Addr)) (fp : List Addr), Sit (X.blk s H scope (compEnvC scope cl C X.env) fp) p.quiet k → PDTs (X.blk s H scope (compEnvC scope cl C X.env) fp) p.quiet ifs mt)
    (he : ∀ (s : Shared) (H : Hp) (C : Addr) (cl : List (Str × Addr)) (fp : List Addr), Sit (X.blk s H scope (compEnvC scope cl C X.env) fp) p.quiet k → PD (X.blk s H scope (compEnvC scope cl C X.env) fp) p.quiet elt me)
    (hs : ∀ x, foldedSetIterable iter X.env x = pure x := by intro _; rfl) : PSD X p (.Assign [.Name y py] (.ListComp elt [⟨tg, iter, ifs, 0⟩] scope pos) spos) (sAsg i (eComp mi t mt me (own.map (·.2)))) := by
  obtain ⟨wi, a1, a2⟩ := hi.ex
  exact ⟨_, ps_setLc (tt := ttOf X.K p.quiet mt) (te := teOf X.K p.quiet me) S.calm S.nd hy hyl hsw a1 ok hg (fun s H C cl fp => (ht s H C cl fp S.quiet).pts) (fun s H C cl fp => (he s H C cl fp S.quiet).pe) hs, sr_asg (ev_comp S a2 hx).ev⟩
theorem sd_compO (S : Sit X p k) {i : Nat} {y : Str} {py spos : Pos} {elt tg iter : Expr} {ifs : List Expr} {scope : Scope} {pos : Pos} {t : Tg} {mi : XA} {mt : XT} {me : XE} (own : List (Str × Nat)) (hy : X.N[i]? = some y) (hyl : X.env.scope.names.lookup y = some .local)
    (hsw : swapsWith (.ListComp elt [⟨tg, iter, ifs, 0⟩] scope pos) (some (.Name y py)) spos.line X.env = pure true) (hi : PDI X p tg iter mi) (ok : BlkOk X.N X.env.scope scope own) (hx : ∀ j ∈ t.ix, j ∈ own.map (·.2))
    (hg : ∀ (s : Shared) (H : Hp) (C : Addr) (cl : List (Str × Addr)) (fp : List Addr), PG (X.blk s H scope (compEnvC scope cl C X.env) fp) tg (gOf X.K t))
    (ht : ∀ (s : Shared) (H : Hp) (C : Addr) (cl : List (Str × Addr)) (fp : List Addr), Sit (X.blk s H scope (compEnvC scope cl C X.env) fp) p.quiet k → PDTs (X.blk s H scope (compEnvC scope cl C X.env) fp) p.quiet ifs mt)
    (he : ∀ (s : Shared) (H : Hp) (C : Addr) (cl : List (Str × Addr)) (fp : List Addr), Sit (X.blk s H scope (compEnvC scope cl C X.env) fp) p.quiet k → PD (X.blk s H scope (compEnvC scope cl C X.env) fp) p.quiet elt me)
    (hs : ∀ x, foldedSetIterable iter X.env x = pure x := by intro _; rfl) : PSD X p (.Assign [.Name y py] (.ListComp elt [⟨tg, iter, ifs, 0⟩] scope pos) spos) (sOwn i (eComp mi t mt me (own.map (·.2)))) := by
  obtain ⟨wi, a1, a2⟩ := hi.ex
  refine ⟨_, ps_setLc (tt := ttOf X.K p.quiet mt) (te := teOf X.K p.quiet me) S.calm S.nd hy hyl hsw a1 ok hg (fun s H C cl fp => (ht s H C cl fp S.quiet).pts) (fun s H C cl fp => (he s H C cl fp S.quiet).pe) hs, fun B H σ E c P Dn st r m nx rt bk ct => ?_⟩
  refine ev_comp S a2 hx B H σ E _ _ _ st r m fun ds c1 q xs H1 m1 e1 s1 hq h1 rs => ?_
  obtain ⟨g1, g2, g3⟩ := own_put i r st e1 s1 hq h1 rs
  exact nx _ _ _ _ H1 m1 g2 g3 g1
end
end DL

end

section
/-! BR8: defs called where no repr is under way. -/
namespace DL
open PySem PySem.Spec PyProof.Rows L2

/-- a def of the module, without defaults -/
abbrev FnP (K : PySem.W.Frag) (x qual : Str) (st : Stmt) (f : Addr) (fd : FuncData) : Prop := FunD K x qual (defArgs st) (defBody st) (defScope st) [] [] f fd
/-- a def keeps its promise wherever no repr is under way -/
structure FnG (P : Program) (w : World) (K : PySem.W.Frag) (mg : Str → Option Value) (base : Heap) (k : Nat) (f : Addr) (fd : FuncData) (ps : List Str) (sp : Sp) : Prop where
  len : ∀ vs H Q E, sp vs H Q E → vs.length = ps.length
  go : ∀ (A : Around) (outer : List PySem.Env) (s : Shared) (H : Hp) (args : Args) (us : List Value) (vs : List V) (Q : VK) (E : XK), Room k A → A.guards = some [] → Env0 P w K mg base A outer s H →
    BindsTo s fd args (ps.zip us) → Vals vs us → sp vs H Q E → codeAny (model P w) A (.call (.ref f) args) (CR (L2.CX P w) outer P w H s Q E) s

section
variable {P : Program} {w : World} {K : PySem.W.Frag} {mg : Str → Option Value} {base : Heap}
theorem FnG.mono {j k : Nat} {f : Addr} {fd : FuncData} {ps : List Str} {sp : Sp} (F : FnG P w K mg base j f fd ps sp) (h : j ≤ k) : FnG P w K mg base k f fd ps sp :=
  ⟨F.len, fun A outer s H args us vs Q E hr => F.go A outer s H args us vs Q E (hr.mono h)⟩
/-- a body's context -/
abbrev bodyX (P : Program) (w : World) (K : PySem.W.Frag) (mg : Str → Option Value) (base : Heap) (N : List Str) (qual : Str) (st : Stmt) (f : Addr) (cdv : Value) (A : Around) (outer : List PySem.Env) (s : Shared) (H : Hp) (E : XK) : Cx :=
  cxOf (L2.CX P w) P w K mg base N qual (defScope st) f cdv A outer s H E
/-- a def by its body -/
theorem fnG_body {x qual : Str} {st : Stmt} {f : Addr} {fd : FuncData} {N ps : List Str} {k : Nat} {sp : Sp} (F : FnP K x qual st f fd) (S : FnScope N ps (defScope st)) (len : ∀ vs H Q E, sp vs H Q E → vs.length = ps.length)
    (body : ∀ (cdv : Value) (A : Around) (outer : List PySem.Env) (s : Shared) (H : Hp) (vs : List V) (Q : VK) (E : XK), Room k (A.deeper (envOfC qual (defScope st) s.heap.objs.size f cdv)) → (A.deeper (envOfC qual (defScope st) s.heap.objs.size f cdv)).guards = some [] → sp vs H Q E →
      ∃ t, PSs (bodyX P w K mg base N qual st f cdv A outer s H E) (defBody st) t ∧ t { nx := fun _ H' => Q .non H', rt := Q } (L2.start N vs) H) : FnG P w K mg base (k + 1) f fd ps sp := by
  obtain ⟨oc, od, dV, kV, doc, pm, an, cdv, ct, osl, rfl, lk, hcd, _, _⟩ := F.ex
  refine ⟨len, fun A outer s H args us vs Q E hr hgd e0 hb rv hsp => ?_⟩
  have lengths := len vs H Q E hsp
  have inHeap : K.In s.heap := e0.mod.kin.keeps (fun b o q => (e0.bs b o q).1)
  have noLimit : s.heap.NoLimit := e0.mod.nolimit.keeps (fun b o q => (e0.bs b o q).1)
  refine codeAny_call_function hr.depth (inHeap f _ lk) rfl S.co S.gen rfl (PySem.W.codeRec_of inHeap hcd) (hb _ _ _ _ ?_)
  refine wpAny_newFunctionEnv_cells S.kind (fun y hy => ?_) (fun env henv s1 entered => ?_)
  · obtain ⟨n, v⟩ := y
    rcases S.par n (List.of_mem_zip hy).1 with hl | hc
    · exact Or.inl hl
    · exact Or.inr ⟨hc, PySem.W.cellsFrom_some _ _ _ (Or.inl hc)⟩
  · subst henv
    refine ⟨noLimit.keeps entered.toInCall.keep, codeAny_func ?_⟩
    obtain ⟨t, ht, hq⟩ := body cdv A outer s H vs Q E (hr.deeper _) hgd hsp
    have J0 := inv_start (CX := L2.CX P w) (P := P) (w := w) (mg := mg) (base := base) (E := E) S hr.hd e0 lengths rv entered
    refine wpAny_mono (ht.run [] s1 (L2.start N vs) H _ J0 hq) (fun fl s' done => ?_) (fun _ _ left => left)
    cases fl with
    | brk => obtain ⟨_, _, _, no⟩ := done; exact no.elim
    | cont => obtain ⟨_, _, _, no⟩ := done; exact no.elim
    | next =>
      obtain ⟨σ', H', J, q⟩ := done
      exact ⟨V.non, H', J.os, J.bare, J.base, J.hok, rfl, q⟩
    | ret u =>
      obtain ⟨v, σ', H', J, r, q⟩ := done
      exact ⟨v, H', J.os, J.bare, J.base, J.hok, r, q⟩
end

section
variable {X : Cx} {p : Par} {k : Nat}
/-- the callee runs; what it may let out is taken -/
theorem run_G {pins : List (Addr × Obj)} {σ : L2.St} {H : Hp} {s : Shared} {Q : VK} {us : List Value} {vs : List V} {f : Addr} {fd : FuncData} {ps : List Str} {sp : Sp} {E : XK} (F : FnG X.prog X.w X.K X.mg X.base k f fd ps sp) (hr : Room k X.A) (hg : X.A.guards = some []) (hb : Binds X.K fd ps [])
    (hx : Passes (L2.CX X.prog X.w) X E) (I : Inv X pins σ H s) (r : Vals vs us) (h : sp vs H Q E) : wpAny (model X.prog X.w) X.A (call (.ref f) us) (EP X pins σ Q) X.xe s := by
  have hl : us.length = ps.length := r.length.symm.trans (F.len vs H Q E h)
  have bound := hb s us I.kIn (by rw [List.append_nil]; exact hl)
  rw [List.append_nil] at bound
  refine wpAny_call (codeAny_mono (F.go X.A X.stack s H ⟨us, []⟩ us vs Q E hr hg I.env0 bound r h) (fun res s' hq => ?_))
  match res, hq with
  | .error e, hq => exact hx pins σ H s e s' I hq
  | .ok (.ret u), hq => exact I.after hq
  | .ok .next, hq => exact hq.elim
  | .ok .brk, hq => exact hq.elim
  | .ok .cont, hq => exact hq.elim
theorem pe_G {f : Addr} {fd : FuncData} {ps : List Str} {sp : Sp} {E : XK} {x : Str} {pn pos : Pos} {e : Expr} {es : List Expr} {t : TA} (F : FnG X.prog X.w X.K X.mg X.base k f fd ps sp) (hr : Room k X.A) (hgd : X.A.guards = some []) (hm : X.mg x = some (.ref f)) (hk : PySem.W.keepIn X.K (.ref f) = true)
    (hb : Binds X.K fd ps []) (hx : Passes (L2.CX X.prog X.w) X E) (ha : PA X (e :: es) t) (hg : Gl X x := by rfl) (hdb : (x == ("__debug__" : Str)) = false := by decide) (he : starEach (e :: es) X.env = (false, eval e X.env) :: starEach es X.env := by rfl)
    (hpl : (backTo pos (starEach es X.env)).any (·.1) = false := by rfl) : PE X (.Call (.Name x pn) (e :: es) [] pos) (tCall sp [] E t) := by
  refine ⟨fun pins s σ H Q I h => wpAny_Call_Name_kw (ld_glob I hg hm ?_ hdb)⟩
  refine PySem.W.callWith_K (h₀ := X.base) I.ok.mod.kin hk (thn (ha.run pos pins s σ H _ I h) ?_) he hpl
  rintro us s1 ⟨vs, H1, I1, r1, q1⟩
  rw [List.append_nil] at q1
  exact ⟨I1.kIn, run_G F hr hgd hb hx I1 r1 q1⟩
end

/-! ### promises in the language -/
/-- a def that draws nothing: it does what m does of its arguments -/
def spF (K : PySem.W.Frag) (mg : Str → Option Value) (m : Fn) : Sp := fun vs H Q EK => ∃ (B : Addr → Prop) (ds : List D) (c : Nat) (P : D → Nat → Prop) (XP : Exn → Prop),
  (∀ a, B a → H a ≠ none) ∧ Reps K B H vs ds ∧ m ds c P XP ∧ (∀ d v H', P d c → All H H' → Rep K B H' v d → Q v H') ∧ ∀ x cl dd H', XP x → All H H' → ExRep K mg B H' x cl dd → EK cl dd H'
/-- m draws nothing -/
def Still (m : Fn) : Prop := ∀ ds c P XP, m ds c P XP → m ds c (fun d c' => c' = c ∧ P d c) XP
/-- the stream at S: its large cells at L, its cells at C -/
def strB (S L C : Addr) : Addr → Prop := fun a => a = S ∨ a = L ∨ a = C
structure StrI (S L C : Addr) (c : Nat) (H : Hp) : Prop where
  sl : S ≠ L
  sc : S ≠ C
  lc : L ≠ C
  ex : ∃ (ls cs : List Int) (t : Nat), t ≤ c ∧ H S = some (.lst [.ref L, .ref C, .int t]) ∧ H L = some (.lst (ls.map V.int)) ∧ H C = some (.lst (cs.map V.int)) ∧ cs ≠ [] ∧ (∀ x ∈ ls, 0 ≤ x) ∧ (∀ x ∈ cs, 0 ≤ x) ∧ cs.length ≤ 1000
theorem StrI.at_ {S L C a : Addr} {c : Nat} {H : Hp} (h : StrI S L C c H) (b : strB S L C a) : H a ≠ none := by
  obtain ⟨ls, cs, t, _, h1, h2, h3, _⟩ := h.ex
  rcases b with rfl | rfl | rfl
  · rw [h1]; exact fun z => nomatch z
  · rw [h2]; exact fun z => nomatch z
  · rw [h3]; exact fun z => nomatch z
/-- a def whose first argument is the stream -/
def spS (K : PySem.W.Frag) (mg : Str → Option Value) (m : Fn) : Sp := fun vs H Q EK => ∃ (S L C : Addr) (ws : List V) (B : Addr → Prop) (ds : List D) (c : Nat) (P : D → Nat → Prop) (XP : Exn → Prop),
  vs = .ref S :: ws ∧ (∀ a, strB S L C a → B a) ∧ (∀ a, B a → H a ≠ none) ∧ StrI S L C c H ∧ Reps K B H ws ds ∧ m ds c P XP ∧
  (∀ d c' v H', P d c' → Ext (strB S L C) H H' → StrI S L C c' H' → Rep K B H' v d → Q v H') ∧ ∀ x c' cl dd H', XP x → Ext (strB S L C) H H' → StrI S L C c' H' → ExRep K mg B H' x cl dd → EK cl dd H'

section
variable {P : Program} {w : World} {K : PySem.W.Frag} {mg : Str → Option Value} {base : Heap}
/-- the body's par: a def that draws nothing -/
def parF (H : Hp) (B : Addr → Prop) (c : Nat) (XP : Exn → Prop) (EK : XK) : Par := ⟨fun _ => False, fun c' _ => c' = c, 0, H, B, XP, EK⟩
def parS (S L C : Addr) (H : Hp) (B : Addr → Prop) (XP : Exn → Prop) (EK : XK) : Par := ⟨strB S L C, StrI S L C, S, H, B, XP, EK⟩
theorem sit_body {qual : Str} {st : Stmt} {f : Addr} {N ps : List Str} {k : Nat} {p : Par} {cdv : Value} {A : Around} {outer : List PySem.Env} {s : Shared} {H : Hp} (S : FnScope N ps (defScope st))
    (hr : Room k (A.deeper (envOfC qual (defScope st) s.heap.objs.size f cdv))) (hg : (A.deeper (envOfC qual (defScope st) s.heap.objs.size f cdv)).guards = some []) (ok : p.Ok K mg) : Sit (bodyX P w K mg base N qual st f cdv A outer s H p.EK) p k where
  calm := rfl
  gd := hg
  rm := hr
  nd := S.nd
  ok := ok
  po := passes_of rfl
  ps := passes_call (takes_of rfl rfl rfl rfl) fun _ _ _ _ h => h
theorem env_start {p : Par} {B : Addr → Prop} {H : Hp} {vs : List V} {E : Env} {N : List Str} (hl : vs.length ≤ N.length) (hE : vs.length = E.length) (r : ∀ (i : Nat) (e : Ent), E[i]? = some e → ∃ v, vs[i]? = some v ∧ Slot K p B H (some v) e) (no : ∀ (i : Nat) (ds : List D), E[i]? ≠ some (.own ds)) :
    EnvR K p B H (L2.start N vs) (DL.start N.length E) := by
  have l1 : (L2.start N vs).length = N.length := by
    unfold L2.start
    rw [List.length_append, List.length_map, List.length_replicate]
    omega
  have l2 : (DL.start N.length E).length = N.length := by
    unfold DL.start
    rw [List.length_append, List.length_replicate]
    omega
  have own : ∀ (i : Nat) (ds : List D), (DL.start N.length E)[i]? ≠ some (.own ds) := by
    intro i ds h
    unfold DL.start at h
    by_cases hi : i < E.length
    · rw [List.getElem?_append_left hi] at h
      exact no i ds h
    · rw [List.getElem?_append_right (by omega), List.getElem?_replicate] at h
      split at h <;> cases h
  refine ⟨l1.trans l2.symm, fun i e h => ?_, fun i j a xs ys h => absurd h (own i xs)⟩
  unfold DL.start at h
  by_cases hi : i < E.length
  · rw [List.getElem?_append_left hi] at h
    obtain ⟨v, h1, h2⟩ := r i e h
    refine ⟨some v, ?_, h2⟩
    unfold L2.start
    rw [List.getElem?_append_left (by rw [List.length_map]; omega), List.getElem?_map, h1]
    rfl
  · rw [List.getElem?_append_right (by omega), List.getElem?_replicate] at h
    split at h
    · cases h
      have : i < (L2.start N vs).length := by rw [l1]; omega
      exact ⟨_, List.getElem?_eq_getElem this, .unk _⟩
    · cases h
theorem vals_at {B : Addr → Prop} {H : Hp} {p : Par} {vs : List V} {ds : List D} (r : Reps K B H vs ds) (i : Nat) (e : Ent) (h : (ds.map Ent.val)[i]? = some e) : ∃ v, vs[i]? = some v ∧ Slot K p B H (some v) e := by
  rw [List.getElem?_map] at h
  cases q : ds[i]? with
  | none => rw [q] at h; cases h
  | some d =>
    rw [q] at h
    cases h
    obtain ⟨v, h1, h2⟩ := r.get q
    exact ⟨v, h1, .val h2⟩
theorem all_of {H H' : Hp} (e : Ext (fun _ => False) H H') : All H H' := fun a o h => e.keep a o h fun z => z
/-- a def that draws nothing, by its body's words -/
theorem fn_pure {x qual : Str} {st : Stmt} {f : Addr} {fd : FuncData} {N ps : List Str} {k : Nat} {m : XS} (F : FnP K x qual st f fd) (S : FnScope N ps (defScope st)) (hl : ps.length ≤ N.length)
    (body : ∀ (cdv : Value) (A : Around) (outer : List PySem.Env) (s : Shared) (H : Hp) (p : Par), Sit (bodyX P w K mg base N qual st f cdv A outer s H p.EK) p k → PSSD (bodyX P w K mg base N qual st f cdv A outer s H p.EK) p (defBody st) m) :
    FnG P w K mg base (k + 1) f fd ps (spF K mg (fn ps.length N.length m)) := by
  refine fnG_body F S (fun vs H Q E ⟨_, _, _, _, _, _, rs, mm, _⟩ => rs.length.trans mm.1) (fun cdv A outer s H vs Q E hr hg hsp => ?_)
  obtain ⟨B, ds, c, Pd, XP, trk, rs, ⟨hn, mm⟩, kq, ke⟩ := hsp
  have ok : (parF H B c XP E).Ok K mg := ⟨fun _ _ _ h _ => h, fun n x cl d H' hx _ he hr => ke x cl d H' hx (all_of he) hr⟩
  have S' := sit_body (P := P) (w := w) (base := base) (mg := mg) (f := f) (outer := outer) (H := H) (p := parF H B c XP E) S hr hg ok
  obtain ⟨ts, a1, a2⟩ := (body cdv A outer s H _ S').ex
  refine ⟨ts, a1, a2 B H _ (DL.start N.length (ds.map Ent.val)) c (fun o c' => endOf o c' Pd XP) _ ⟨fun _ z => z.elim, fun _ z => z, trk, rfl, Ext.refl⟩ ?_ mm ?_ ?_ ?_ ?_⟩
  · refine env_start (by rw [rs.length]; omega) (by rw [List.length_map]; exact rs.length) (fun i e h => vals_at rs i e h) fun i es h => ?_
    rw [List.getElem?_map] at h
    cases q : ds[i]? with
    | none => rw [q] at h; cases h
    | some d => rw [q] at h; cases h
  · intro E' c' B' σ' H' m1 st1 t1 r1
    have hc : c' = c := st1.si
    subst hc
    exact kq .none .non H' m1 (all_of st1.ext) .non
  · intro d c' v H' m1 s1 e1 r1
    have hc : c' = c := s1
    subst hc
    exact kq d v H' m1 (all_of e1) r1
  · intro E' c' B' σ' H' m1
    exact m1.elim
  · intro E' c' B' σ' H' m1
    exact m1.elim
/-- a def whose first argument is the stream -/
theorem fn_str {x qual : Str} {st : Stmt} {f : Addr} {fd : FuncData} {N ps : List Str} {k : Nat} {m : XS} (F : FnP K x qual st f fd) (S : FnScope N ps (defScope st)) (hl : ps.length ≤ N.length)
    (body : ∀ (cdv : Value) (A : Around) (outer : List PySem.Env) (s : Shared) (H : Hp) (p : Par), Sit (bodyX P w K mg base N qual st f cdv A outer s H p.EK) p k → (∃ S L C, p.B0 = strB S L C ∧ p.SI = StrI S L C ∧ p.S = S) → PSSD (bodyX P w K mg base N qual st f cdv A outer s H p.EK) p (defBody st) m) :
    FnG P w K mg base (k + 1) f fd ps (spS K mg (fnS ps.length N.length m)) := by
  refine fnG_body F S (fun vs H Q E ⟨_, _, _, ws, _, _, _, _, _, e, _, _, _, rs, mm, _⟩ => by rw [e, List.length_cons, rs.length]; exact mm.1) (fun cdv A outer s H vs Q E hr hg hsp => ?_)
  obtain ⟨S1, L1, C1, ws, B, ds, c, Pd, XP, rfl, sub, trk, si, rs, ⟨hn, mm⟩, kq, ke⟩ := hsp
  have hlw := rs.length
  have ok : (parS S1 L1 C1 H B XP E).Ok K mg := by
    refine ⟨fun n H1 H2 h hk => ?_, fun n x cl d H' hx hs he hr => ke x n cl d H' hx he hs hr⟩
    obtain ⟨ls, cs, t, ht, h1, h2, h3, h4⟩ := h.ex
    exact ⟨h.sl, h.sc, h.lc, ls, cs, t, ht, hk _ _ (.inl rfl) h1, hk _ _ (.inr (.inl rfl)) h2, hk _ _ (.inr (.inr rfl)) h3, h4⟩
  have S' := sit_body (P := P) (w := w) (base := base) (mg := mg) (f := f) (outer := outer) (H := H) (p := parS S1 L1 C1 H B XP E) S hr hg ok
  obtain ⟨ts, a1, a2⟩ := (body cdv A outer s H _ S' ⟨S1, L1, C1, rfl, rfl, rfl⟩).ex
  refine ⟨ts, a1, a2 B H _ (DL.start N.length (.stm :: ds.map Ent.val)) c (fun o c' => endOf o c' Pd XP) _ ⟨sub, fun _ z => z, trk, si, Ext.refl⟩ ?_ mm ?_ ?_ ?_ ?_⟩
  · refine env_start (by rw [List.length_cons, hlw]; omega) (by simp [rs.length]) (fun i e h => ?_) fun i es h => ?_
    · cases i with
      | zero =>
        cases h
        exact ⟨_, rfl, .stm (p := parS S1 L1 C1 H B XP E)⟩
      | succ i => exact vals_at rs i e h
    · cases i with
      | zero => cases h
      | succ i =>
        have h' : (ds.map Ent.val)[i]? = some (.own es) := h
        rw [List.getElem?_map] at h'
        cases q : ds[i]? with
        | none => rw [q] at h'; cases h'
        | some d => rw [q] at h'; cases h'
  · intro E' c' B' σ' H' m1 st1 t1 r1
    exact kq .none c' .non H' m1 st1.ext st1.si .non
  · intro d c' v H' m1 s1 e1 r1
    exact kq d c' v H' m1 e1 s1 r1
  · intro E' c' B' σ' H' m1
    exact m1.elim
  · intro E' c' B' σ' H' m1
    exact m1.elim
end

/-! ### calls -/
section
variable {X : Cx} {p : Par} {k : Nat}
/-- what the caller knows of a def: where it stands, how it is called -/
structure Def (K : PySem.W.Frag) (mg : Str → Option Value) (x : Str) (f : Addr) (fd : FuncData) (ps : List Str) : Prop where
  mg : mg x = some (.ref f)
  kp : PySem.W.keepIn K (.ref f) = true
  bd : Binds K fd ps []
theorem exrep_go {K : PySem.W.Frag} {mg : Str → Option Value} {B B' : Addr → Prop} {H : Hp} {x : Exn} {c : Value} {d : Option Addr} (h : ∀ a, B' a → B a) (r : ExRep K mg B H x c d) : ExRep K mg B' H x c d := by
  obtain ⟨C, h1, h2, h3⟩ := r
  refine ⟨C, h1, h2, ?_⟩
  obtain ⟨xc, xf⟩ := x
  match xf, h3 with
  | [], h3 => exact h3
  | [(f, y)], ⟨dd, v, e1, e2, e3⟩ => exact ⟨dd, v, e1, e2, e3.less h⟩
  | _ :: _ :: _, h3 => exact h3
theorem pd_fn (S : Sit X p k) {j : Nat} {x : Str} {f : Addr} {fd : FuncData} {ps : List Str} {m : Fn} {e : Expr} {es : List Expr} {ma : XA} {pn pos : Pos} (F : FnG X.prog X.w X.K X.mg X.base j f fd ps (spF X.K X.mg m)) (hj : j ≤ k) (D : Def X.K X.mg x f fd ps) (ha : PDA X p (e :: es) ma)
    (hg : Gl X x := by rfl) (hdb : (x == ("__debug__" : Str)) = false := by decide) (he : starEach (e :: es) X.env = (false, eval e X.env) :: starEach es X.env := by rfl) (hpl : (backTo pos (starEach es X.env)).any (·.1) = false := by rfl) : PD X p (.Call (.Name x pn) (e :: es) [] pos) (eCall m ma) := by
  obtain ⟨ta, a1, a2⟩ := ha.ex
  refine ⟨_, pe_G F (S.rm.mono hj) S.gd D.mg D.kp D.bd S.ps a1 hg hdb he hpl, fun B H σ E c P Q st r mm kk => ?_⟩
  refine a2 B H σ E _ _ _ st r mm fun ds c1 vs H1 m1 e1 s1 r1 => ?_
  have st1 := st.go e1 s1
  rw [List.append_nil]
  refine ⟨B, ds, c1, P, p.XP, st1.trk, r1, m1, fun d v H2 pd al rd => kk d c1 v H2 pd (e1.trans al.ext) (st1.all S.ok al) rd, fun y cl dd H2 hx al hr => ?_⟩
  exact S.ok.exc c1 y cl dd H2 hx (st1.all S.ok al) (st.ext.trans (e1.trans al.ext)) (exrep_go st.subc hr)
/-- the stream is what p says -/
def IsStr (p : Par) : Prop := ∃ S L C, p.B0 = strB S L C ∧ p.SI = StrI S L C ∧ p.S = S
theorem pd_fnS (S : Sit X p k) (Z : IsStr p) {j i : Nat} {x y : Str} {f : Addr} {fd : FuncData} {ps : List Str} {m : Fn} {es : List Expr} {ma : XA} {py pn pos : Pos} (F : FnG X.prog X.w X.K X.mg X.base j f fd ps (spS X.K X.mg m)) (hj : j ≤ k) (D : Def X.K X.mg x f fd ps) (hy : PE X (.Name y py) (tVar i)) (ha : PDA X p es ma)
    (hg : Gl X x := by rfl) (hdb : (x == ("__debug__" : Str)) = false := by decide) (he : starEach (.Name y py :: es) X.env = (false, eval (.Name y py) X.env) :: starEach es X.env := by rfl) (hpl : (backTo pos (starEach es X.env)).any (·.1) = false := by rfl) : PD X p (.Call (.Name x pn) (.Name y py :: es) [] pos) (eCallS m i ma) := by
  obtain ⟨ta, a1, a2⟩ := ha.ex
  obtain ⟨S1, L1, C1, z1, z2, z3⟩ := Z
  refine ⟨_, pe_G F (S.rm.mono hj) S.gd D.mg D.kp D.bd S.ps (pa_cons hy a1 he) hg hdb he hpl, fun B H σ E c P Q st r mm kk => ?_⟩
  have m' : (match E[i]? with | some .stm => bnd (ma E) m | _ => stuck) c P p.XP := mm
  cases h : E[i]? with
  | none => rw [h] at m'; exact m'.elim
  | some e =>
    rw [h] at m'
    cases e with
    | stm =>
      obtain ⟨s, h1, h2⟩ := r.at_ i _ h
      cases h2
      refine ⟨_, h1, ?_⟩
      refine a2 B H σ E _ _ _ st r m' fun ds c1 vs H1 m1 e1 s1 r1 => ?_
      have st1 := st.go e1 s1
      have si1 : StrI S1 L1 C1 c1 H1 := by rw [← z2]; exact s1
      show spS X.K X.mg m ((V.ref p.S :: vs) ++ []) H1 Q p.EK
      rw [List.append_nil]
      refine ⟨S1, L1, C1, vs, B, ds, c1, P, p.XP, by rw [z3], fun a ha => st.sub a (by rw [z1]; exact ha), st1.trk, si1, r1, m1, fun d c2 v H2 pd al s2 rd => ?_, fun y c2 cl dd H2 hx al s2 hr => ?_⟩
      · rw [← z1] at al
        rw [← z2] at s2
        exact kk d c2 v H2 pd (e1.trans al) s2 rd
      · rw [← z1] at al
        rw [← z2] at s2
        exact S.ok.exc c2 y cl dd H2 hx s2 (st.ext.trans (e1.trans al)) (exrep_go st.subc hr)
    | _ => exact m'.elim
end
end DL

end

section
/-! BR9: the stream, the draw, the law's own end. -/
namespace DL
open PySem PySem.Spec PyProof.Rows L2

/-! ### the draw -/
/-- the stream with its lists told -/
structure StrL (S L C : Addr) (ls cs : List Int) (t : Nat) (H : Hp) : Prop where
  sl : S ≠ L
  sc : S ≠ C
  lc : L ≠ C
  hs : H S = some (.lst [.ref L, .ref C, .int t])
  hl : H L = some (.lst (ls.map V.int))
  hc : H C = some (.lst (cs.map V.int))
  nc : cs ≠ []
  pl : ∀ x ∈ ls, 0 ≤ x
  pc : ∀ x ∈ cs, 0 ≤ x
  few : cs.length ≤ 1000
theorem StrL.str {S L C : Addr} {ls cs : List Int} {t c : Nat} {H : Hp} (h : StrL S L C ls cs t H) (ht : t ≤ c) : StrI S L C c H :=
  ⟨h.sl, h.sc, h.lc, ls, cs, t, ht, h.hs, h.hl, h.hc, h.nc, h.pl, h.pc, h.few⟩
theorem StrI.told {S L C : Addr} {c : Nat} {H : Hp} (h : StrI S L C c H) : ∃ (ls cs : List Int) (t : Nat), t ≤ c ∧ StrL S L C ls cs t H := by
  obtain ⟨ls, cs, t, ht, h1, h2, h3, h4, h5, h6, h7⟩ := h.ex
  exact ⟨ls, cs, t, ht, h.sl, h.sc, h.lc, h1, h2, h3, h4, h5, h6, h7⟩
theorem StrL.all {S L C : Addr} {ls cs : List Int} {t : Nat} {H H' : Hp} (h : StrL S L C ls cs t H) (e : All H H') : StrL S L C ls cs t H' :=
  ⟨h.sl, h.sc, h.lc, e _ _ h.hs, e _ _ h.hl, e _ _ h.hc, h.nc, h.pl, h.pc, h.few⟩
theorem upd_strB {S L C : Addr} {H : Hp} {a : Addr} {xs ys : List V} (b : strB S L C a) (hq : H a = some (.lst xs)) : Ext (strB S L C) H (upd H a (.lst ys)) := upd_q b hq
/-- no place may change -/
abbrev nB : Addr → Prop := fun _ => False
section
variable {K : PySem.W.Frag}
def tS (K : PySem.W.Frag) (i : Int) : TE := tOp (rIxL K) (tVar 0) (tC (.int i))
def tOpD (K : PySem.W.Frag) (o : Op) (a b : TE) : TE := tOp (rD2 K (opBin o)) a b
def tDrawTest (K : PySem.W.Frag) : TT := tTest (tOp (rD2 K (cmpD .ne)) (tS K 0) (tLst tNil))
def tDrawTurn (K : PySem.W.Frag) : TS := tSeq (tAsg (tOp (rD2 K opIdx) (tS K 0) (tC (.int 0))) (gName 2)) (tSeq (tIfS (tTest (tOp (rD2 K (cmpD .gt)) (tVar 2) (tC (.int 0))))
  (tSeq (tAsg (tOpD K .fdiv (tVar 2) (tVar 1)) (gSub (tS K 0) (tC (.int 0)) rSetL)) (tRet (tOpD K .mod (tVar 2) (tVar 1)))) tNext)
  (tDrop (tBM K "list" rPopAt (tS K 0) (tCons (tC (.int 0)) tNil))))
theorem s_at {S L C : Addr} {ls cs : List Int} {t : Nat} {H : Hp} {i : Int} {v : V} {Q : VK} {σ : L2.St} (h : StrL S L C ls cs t H) (h0 : σ[0]? = some (some (.ref S))) (hi : atI [V.ref L, V.ref C, V.int t] i = some v) (q : Q v H) : tS K i σ H Q :=
  ⟨_, h0, S, _, i, v, rfl, rfl, SqL.of h.hs, hi, q⟩
theorem rep_ints {B : Addr → Prop} {H : Hp} {a : Addr} {ns : List Int} (h : H a = some (.lst (ns.map V.int))) (hb : ¬ B a) : Rep K B H (.ref a) (.list (ns.map PyData.int)) :=
  .lst h hb (Reps.of_ints ns)
theorem ne_nil_int (x : Int) (ls : List Int) : PyData.eqv (.list (((x :: ls) : List Int).map PyData.int)) (.list []) = false := by rfl
theorem nil_nil_int : PyData.eqv (.list (([] : List Int).map PyData.int)) (.list []) = true := by rfl
theorem lay_ints : ∀ ns : List Int, PyData.canLayAll0 (ns.map PyData.int) = true
  | [] => rfl
  | a :: r => by
    show (PyData.canLay0 (.int a) && PyData.canLayAll0 (r.map PyData.int)) = true
    rw [lay_ints r]
    rfl
theorem shaped_ints (ns : List Int) : SeqAt.shaped (.list (ns.map PyData.int)) = true := by
  have e : PyData.depth (.list (ns.map PyData.int)) ≤ 64 := by
    simp only [PyData.depth, depth_ints]
    decide
  unfold SeqAt.shaped
  rw [decide_eq_true e, Bool.and_true]
  exact lay_ints ns
theorem ixN_zero (n : Nat) : ixN (n + 1) 0 = some 0 := by
  unfold ixN
  rw [if_pos (Int.le_refl 0), if_pos (by omega)]
  rfl
theorem atI_zero {α : Type} (x : α) (xs : List α) : atI (x :: xs) 0 = some x := by
  show (ixN (xs.length + 1) 0).bind _ = _
  rw [ixN_zero]
  rfl
theorem opIdx_zero (x : D) (xs : List D) (c : Nat) (P : D → Nat → Prop) (Xp : Exn → Prop) (h : P x c) : opIdx (.list (x :: xs)) (.int 0) c P Xp := by
  show (match L2.atI (x :: xs) 0 with | some d => ret d | none => stuck) c P Xp
  rw [atI_zero]
  exact h
theorem draw_while {S L C : Addr} {cs : List Int} {t : Nat} {many : Int} {H0 : Hp} {D : Ends} {x3 x4 x5 : Option V} (hm : 0 < many ∧ many < 1073741824)
    (nx : ∀ x2 H, Ext (strB S L C) H0 H → StrL S L C [] cs t H → D.nx [some (.ref S), some (.int many), x2, x3, x4, x5] H)
    (rt : ∀ (r : Int) ls H, Ext (strB S L C) H0 H → StrL S L C ls cs t H → 0 ≤ r → r < many → D.rt (.int r) H)
    {x2 : Option V} {ls : List Int} (hS : StrL S L C ls cs t H0) : tWhile (tDrawTest K) (tDrawTurn K) D [some (.ref S), some (.int many), x2, x3, x4, x5] H0 := by
  refine ⟨fun n σ H => ∃ (x2 : Option V) (ls : List Int), σ = [some (.ref S), some (.int many), x2, x3, x4, x5] ∧ ls.length = n ∧ Ext (strB S L C) H0 H ∧ StrL S L C ls cs t H, ⟨_, x2, ls, rfl, rfl, Ext.refl, hS⟩, ?_⟩
  rintro n σ H ⟨x2, ls, rfl, hn, e, hL⟩
  refine s_at hL rfl rfl ⟨Nat.zero_le _, fun q hq => ?_⟩
  have h1 := hL.all (All.new (o := .lst []) hq)
  have e1 : Ext (strB S L C) H0 (upd H q (.lst [])) := e.trans (All.new hq).ext
  refine ⟨nB, .list (ls.map PyData.int), .list [], 0, fun d _ => d = .bool (!(PyData.eqv (.list (ls.map PyData.int)) (.list []))), fun _ => False, fun _ z => z.elim, rep_ints h1.hl id, .lst upd_same id .nil, ⟨eqOk_of (shaped_ints ls) rfl, rfl⟩, ?_⟩
  rintro z v H2 rfl a2 rv
  cases rv
  refine ⟨_, rfl, ?_⟩
  have h2 := h1.all a2
  have e2 := e1.trans (a2.ext (B := strB S L C))
  cases ls with
  | nil =>
    rw [nil_nil_int]
    exact nx x2 H2 e2 h2
  | cons x ls =>
    rw [ne_nil_int]
    refine (if_pos rfl).mpr ?_
    refine ⟨fun σ H => ∃ (x2 : Option V) (ls' : List Int), σ = [some (.ref S), some (.int many), x2, x3, x4, x5] ∧ ls' = ls ∧ Ext (strB S L C) H0 H ∧ StrL S L C ls' cs t H, ?_, ?_⟩
    · rintro σ' H' ⟨x2', ls', rfl, rfl, e', h'⟩
      exact ⟨ls'.length, by rw [← hn]; exact Nat.lt_succ_self _, x2', ls', rfl, rfl, e', h'⟩
    · refine s_at h2 rfl rfl ⟨nB, .list ((x :: ls).map PyData.int), .int 0, 0, fun d _ => d = .int x, fun _ => False, fun _ z => z.elim, rep_ints h2.hl id, .int 0, opIdx_zero _ _ _ _ _ rfl, ?_⟩
      rintro z v H3 rfl a3 rv
      cases rv
      have h3 := h2.all a3
      have e3 := e2.trans (a3.ext (B := strB S L C))
      refine ⟨_, rfl, nB, .int x, .int 0, 0, fun d _ => d = .bool (decide (0 < x)), fun _ => False, fun _ z => z.elim, .int _, .int _, rfl, ?_⟩
      rintro z v H4 rfl a4 rv
      cases rv
      have h4 := h3.all a4
      have e4 := e3.trans (a4.ext (B := strB S L C))
      refine ⟨_, rfl, ?_⟩
      by_cases hx : 0 < x
      · rw [decide_eq_true hx]
        refine (if_pos rfl).mpr ?_
        refine ⟨_, rfl, _, rfl, nB, .int x, .int many, 0, fun d _ => d = .int (x / many), fun _ => False, fun _ z => z.elim, .int _, .int _, ⟨hm, rfl⟩, ?_⟩
        rintro z v H5 rfl a5 rv
        cases rv
        have h5 := h4.all a5
        have e5 := e4.trans (a5.ext (B := strB S L C))
        refine s_at h5 rfl rfl ⟨L, _, 0, 0, rfl, rfl, h5.hl, ixN_zero _, ?_⟩
        have h6 : StrL S L C ((x / many) :: ls) cs t (upd H5 L (.lst (((x / many) :: ls).map V.int))) := by
          refine ⟨h5.sl, h5.sc, h5.lc, ?_, upd_same, ?_, h5.nc, fun y hy => ?_, h5.pc, h5.few⟩
          · rw [upd_ne h5.sl]; exact h5.hs
          · rw [upd_ne h5.lc.symm]; exact h5.hc
          · rcases List.mem_cons.mp hy with rfl | hy
            · exact Int.ediv_nonneg (Int.le_of_lt hx) (Int.le_of_lt hm.1)
            · exact h5.pl y (.tail _ hy)
        have e6 := e5.trans (upd_strB (ys := ((x / many) :: ls).map V.int) (.inr (.inl rfl)) h5.hl)
        refine ⟨_, rfl, _, rfl, nB, .int x, .int many, 0, fun d _ => d = .int (x % many), fun _ => False, fun _ z => z.elim, .int _, .int _, ⟨hm.1, rfl⟩, ?_⟩
        rintro z v H7 rfl a7 rv
        cases rv
        exact rt _ _ H7 (e6.trans a7.ext) (h6.all a7) (Int.emod_nonneg _ (by omega)) (Int.emod_lt_of_pos _ hm.1)
      · rw [decide_eq_false hx]
        refine (if_neg (by decide)).mpr ?_
        refine s_at h4 rfl rfl ⟨.inl ⟨rfl, _, SqL.of h4.hl⟩, ?_⟩
        refine ⟨L, _, 0, 0, V.int x, rfl, rfl, h4.hl, by decide, by decide, ?_, rfl, ?_⟩
        · simp [PySem.seqIndex?]
        · refine ⟨some (.int x), ls, rfl, rfl, e4.trans (upd_strB (.inr (.inl rfl)) h4.hl), ?_⟩
          refine ⟨h4.sl, h4.sc, h4.lc, ?_, upd_same, ?_, h4.nc, fun y hy => h4.pl y (.tail _ hy), h4.pc, h4.few⟩
          · rw [upd_ne h4.sl]; exact h4.hs
          · rw [upd_ne h4.lc.symm]; exact h4.hc

/-- in every later heap it gives that value, and makes at most new things -/
def Gives (te : TE) (σ : L2.St) (H : Hp) (v : V) : Prop := ∀ H1, All H H1 → ∀ Q : VK, (∀ H', All H1 H' → Q v H') → te σ H1 Q
variable {σ : L2.St} {H : Hp}
theorem gives_var {i : Nat} {v : V} (h : σ[i]? = some (some v)) : Gives (tVar i) σ H v := fun H1 _ Q q => ⟨v, h, q H1 All.refl⟩
theorem gives_c {v : V} : Gives (tC v) σ H v := fun H1 _ Q q => q H1 All.refl
theorem gives_op {ta tb : TE} {a b r : Int} (o : Op) (ha : Gives ta σ H (.int a)) (hb : Gives tb σ H (.int b)) (h : ∀ c (P : D → Nat → Prop) Xp, P (.int r) c → opBin o (.int a) (.int b) c P Xp) : Gives (tOpD K o ta tb) σ H (.int r) := by
  intro H1 e1 Q q
  refine ha H1 e1 _ fun H2 e2 => hb H2 (e1.trans e2) _ fun H3 e3 => ?_
  refine ⟨nB, .int a, .int b, 0, fun d _ => d = .int r, fun _ => False, fun _ z => z.elim, .int _, .int _, h _ _ _ rfl, ?_⟩
  rintro z v H4 rfl a4 rv
  cases rv
  exact q H4 (e2.trans (e3.trans a4))
theorem gives_s {S L C : Addr} {ls cs : List Int} {t : Nat} {i : Int} {v : V} (h : StrL S L C ls cs t H) (h0 : σ[0]? = some (some (.ref S))) (hi : atI [V.ref L, V.ref C, V.int t] i = some v) : Gives (tS K i) σ H v :=
  fun H1 e1 Q q => s_at (h.all e1) h0 hi (q H1 All.refl)
theorem gives_len {te : TE} {a : Addr} {ns : List Int} (h : Gives te σ H (.ref a)) (ha : H a = some (.lst (ns.map V.int))) : Gives (tCB (rC1 K (bi1 .len)) (tCons te tNil)) σ H (.int ns.length) := by
  intro H1 e1 Q q
  refine h H1 e1 _ fun H2 e2 => ?_
  refine ⟨_, rfl, nB, .list (ns.map PyData.int), 0, fun d _ => d = .int ns.length, fun _ => False, fun _ z => z.elim, rep_ints (e2 _ _ (e1 _ _ ha)) id, ?_, ?_⟩
  · show (.int ((ns.map PyData.int).length : Int) : D) = .int ns.length
    rw [List.length_map]
  · rintro z v H4 rfl a4 rv
    cases rv
    exact q H4 (e2.trans a4)
theorem gives_ix {ta tb : TE} {a : Addr} {ns : List Int} {i x : Int} (h : Gives ta σ H (.ref a)) (hb : Gives tb σ H (.int i)) (ha : H a = some (.lst (ns.map V.int))) (hx : atI ns i = some x) : Gives (tOp (rD2 K opIdx) ta tb) σ H (.int x) := by
  intro H1 e1 Q q
  refine h H1 e1 _ fun H2 e2 => hb H2 (e1.trans e2) _ fun H3 e3 => ?_
  refine ⟨nB, .list (ns.map PyData.int), .int i, 0, fun d _ => d = .int x, fun _ => False, fun _ z => z.elim, rep_ints (e3 _ _ (e2 _ _ (e1 _ _ ha))) id, .int _, ?_, ?_⟩
  · show (match L2.atI (ns.map PyData.int) i with | some d => ret d | none => stuck) 0 _ _
    have e : L2.atI (ns.map PyData.int) i = some (.int x) := by
      unfold atI at hx ⊢
      rw [List.length_map]
      cases q : ixN ns.length i with
      | none => rw [q] at hx; cases hx
      | some j =>
        rw [q] at hx
        have hx' : ns[j]? = some x := hx
        show (ns.map PyData.int)[j]? = _
        rw [List.getElem?_map, hx']
        rfl
    rw [e]
    rfl
  · rintro z v H4 rfl a4 rv
    cases rv
    exact q H4 (e2.trans (e3.trans a4))
theorem asg_gives {te : TE} {i : Nat} {v : V} {D : Ends} (h : Gives te σ H v) (q : ∀ H', All H H' → D.nx (σ.set i (some v)) H') : tAsg te (gName i) D σ H := h H All.refl _ fun H' e => q H' e
def tDrawRest (K : PySem.W.Frag) : TS := tSeq (tAsg (tOpD K .add (tS K 2) (tC (.int 1))) (gName 3)) (tSeq (tAsg (tVar 3) (gSub (tVar 0) (tC (.int 2)) rSetL))
  (tSeq (tAsg (tOpD K .mod (tOp (rD2 K opIdx) (tS K 1) (tOpD K .mod (tVar 3) (tCB (rC1 K (bi1 .len)) (tCons (tS K 1) tNil)))) (tC (.int 2147483587))) (gName 4))
  (tSeq (tAsg (tOpD K .mod (tOpD K .add (tOpD K .add (tOpD K .mul (tVar 4) (tOpD K .add (tC (.int 16807)) (tOpD K .mul (tC (.int 69621)) (tVar 3)))) (tOpD K .mul (tOpD K .mul (tC (.int 40692)) (tVar 3)) (tVar 3))) (tC (.int 53))) (tC (.int 2147483647))) (gName 5))
  (tRet (tOpD K .mod (tOpD K .fdiv (tOpD K .mod (tOpD K .mul (tVar 5) (tVar 5)) (tC (.int 2147483629))) (tC (.int 16))) (tVar 1))))))
theorem g_add {ta tb : TE} {a b : Int} (ha : Gives ta σ H (.int a)) (hb : Gives tb σ H (.int b)) : Gives (tOpD K .add ta tb) σ H (.int (a + b)) := gives_op .add ha hb fun _ _ _ h => h
theorem g_mul {ta tb : TE} {a b : Int} (ha : Gives ta σ H (.int a)) (hb : Gives tb σ H (.int b)) (h : mulOk a b) : Gives (tOpD K .mul ta tb) σ H (.int (a * b)) := gives_op .mul ha hb fun _ _ _ q => ⟨h, q⟩
theorem g_mod {ta tb : TE} {a b : Int} (ha : Gives ta σ H (.int a)) (hb : Gives tb σ H (.int b)) (h : 0 < b) : Gives (tOpD K .mod ta tb) σ H (.int (a % b)) := gives_op .mod ha hb fun _ _ _ q => ⟨h, q⟩
theorem g_fdiv {ta tb : TE} {a b : Int} (ha : Gives ta σ H (.int a)) (hb : Gives tb σ H (.int b)) (h : 0 < b ∧ b < 1073741824) : Gives (tOpD K .fdiv ta tb) σ H (.int (a / b)) := gives_op .fdiv ha hb fun _ _ _ q => ⟨h, q⟩
theorem draw_rest {S L C : Addr} {ls cs : List Int} {t : Nat} {many : Int} {H0 : Hp} {D : Ends} {x2 x3 x4 x5 : Option V} (hm : 0 < many ∧ many < 1073741824) (ht : t < 2 ^ 40)
    (rt : ∀ (r : Int) H, Ext (strB S L C) H0 H → StrL S L C ls cs (t + 1) H → 0 ≤ r → r < many → D.rt (.int r) H)
    (hS : StrL S L C ls cs t H0) : tDrawRest K D [some (.ref S), some (.int many), x2, x3, x4, x5] H0 := by
  have ht' : (t : Int) < 2 ^ 40 := by exact_mod_cast ht
  have t0 : (0 : Int) ≤ t := Int.natCast_nonneg t
  refine asg_gives (g_add (gives_s hS rfl rfl) gives_c) fun H1 e1 => ?_
  have h1 := hS.all e1
  refine ⟨_, rfl, _, rfl, S, _, 2, 2, rfl, rfl, h1.hs, rfl, ?_⟩
  have x2' := (e1.ext (B := strB S L C)).trans (upd_strB (S := S) (L := L) (C := C) (ys := [.ref L, .ref C, .int ((t : Int) + 1)]) (.inl rfl) h1.hs)
  have h2 : StrL S L C ls cs (t + 1) (upd H1 S (.lst [.ref L, .ref C, .int ((t : Int) + 1)])) := by
    refine ⟨h1.sl, h1.sc, h1.lc, upd_same, ?_, ?_, h1.nc, h1.pl, h1.pc, h1.few⟩
    · rw [upd_ne h1.sl.symm]; exact h1.hl
    · rw [upd_ne h1.sc.symm]; exact h1.hc
  show tSeq _ _ D _ (upd H1 S (.lst [.ref L, .ref C, .int ((t : Int) + 1)]))
  generalize upd H1 S (.lst [.ref L, .ref C, .int ((t : Int) + 1)]) = H2 at x2' h2
  have hlen : 0 < cs.length := List.length_pos_iff.mpr h2.nc
  have hi0 : 0 ≤ ((t : Int) + 1) % (cs.length : Int) := Int.emod_nonneg _ (by omega)
  have hi1 : ((t : Int) + 1) % (cs.length : Int) < cs.length := Int.emod_lt_of_pos _ (by omega)
  obtain ⟨x, hx⟩ : ∃ x, atI cs (((t : Int) + 1) % (cs.length : Int)) = some x := by
    unfold atI ixN
    rw [if_pos hi0, if_pos hi1]
    exact ⟨_, List.getElem?_eq_getElem (by omega)⟩
  refine asg_gives (g_mod (gives_ix (gives_s h2 rfl rfl) (g_mod (gives_var rfl) (gives_len (gives_s h2 rfl rfl) h2.hc) (by omega)) h2.hc hx) gives_c (by decide)) fun H3 e3 => ?_
  have h3 := h2.all e3
  have c0 : 0 ≤ x % 2147483587 := Int.emod_nonneg _ (by decide)
  have c1 : x % 2147483587 < 2147483587 := Int.emod_lt_of_pos _ (by decide)
  refine asg_gives (g_mod (g_add (g_add (g_mul (gives_var rfl) (g_add gives_c (g_mul gives_c (gives_var rfl) (.inl (by decide)))) (.inl ⟨by omega, by omega⟩)) (g_mul (g_mul gives_c (gives_var rfl) (.inl (by decide))) (gives_var rfl) (.inr ⟨by omega, by omega⟩))) gives_c) gives_c (by decide)) fun H4 e4 => ?_
  have h4 := h3.all e4
  refine g_mod (g_fdiv (g_mod (g_mul (gives_var rfl) (gives_var rfl) (.inl ⟨?_, ?_⟩)) gives_c (by decide)) gives_c (by decide)) (gives_var rfl) hm.1 H4 All.refl _ fun H5 e5 => ?_
  · exact Int.lt_of_lt_of_le (by decide) (Int.emod_nonneg _ (by decide))
  · exact Int.lt_trans (Int.emod_lt_of_pos _ (by decide)) (by decide)
  · exact rt _ H5 (x2'.trans ((e3.trans (e4.trans e5)).ext)) (h4.all e5) (Int.emod_nonneg _ (by omega)) (Int.emod_lt_of_pos _ hm.1)
/-- the draw's body does what the draw says -/
theorem draw_sem {S L C : Addr} {c : Nat} {many : Int} {H0 : Hp} {D : Ends} (hm : 0 < many ∧ many < 1073741824) (hc : c < 2 ^ 40) (hS : StrI S L C c H0)
    (rt : ∀ (r : Int) H, Ext (strB S L C) H0 H → StrI S L C (c + 1) H → 0 ≤ r → r < many → D.rt (.int r) H) :
    tSeq (tWhile (tDrawTest K) (tDrawTurn K)) (tDrawRest K) D [some (.ref S), some (.int many), none, none, none, none] H0 := by
  obtain ⟨ls, cs, t, ht, hL⟩ := hS.told
  show tWhile (tDrawTest K) (tDrawTurn K) { D with nx := tDrawRest K D } _ _
  refine draw_while (D := { D with nx := tDrawRest K D }) hm (fun x2 H e h => ?_) (fun r ls' H e h a b => rt r H e (h.str (by omega)) a b) hL
  exact draw_rest hm (by omega) (fun r H' e' h' a b => rt r H' (e.trans e') (h'.str (by omega)) a b) h
end
section
variable {P : Program} {w : World} {K : PySem.W.Frag} {mg : Str → Option Value} {base : Heap}
theorem fdraw_told {ds : List D} {c : Nat} {P : D → Nat → Prop} {XP : Exn → Prop} (h : fDraw ds c P XP) : ∃ many : Int, ds = [.int many] ∧ (0 < many ∧ many < 1073741824 ∧ c < 2 ^ 40) ∧ ∀ r : Int, 0 ≤ r → r < many → P (.int r) (c + 1) := by
  unfold fDraw at h
  split at h
  · rename_i many
    exact ⟨many, rfl, h.1, h.2⟩
  · exact h.elim
theorem fn_draw {x qual : Str} {st : Stmt} {f : Addr} {fd : FuncData} {N : List Str} {x0 x1 : Str} {k : Nat} (F : FnP K x qual st f fd) (S : FnScope N [x0, x1] (defScope st)) (hl : N.length = 6)
    (body : ∀ (cdv : Value) (A : Around) (outer : List PySem.Env) (s : Shared) (H : Hp) (p : Par), Sit (bodyX P w K mg base N qual st f cdv A outer s H p.EK) p k → PSs (bodyX P w K mg base N qual st f cdv A outer s H p.EK) (defBody st) (tSeq (tWhile (tDrawTest K) (tDrawTurn K)) (tDrawRest K))) :
    FnG P w K mg base (k + 1) f fd [x0, x1] (spS K mg fDraw) := by
  refine fnG_body F S (fun vs H Q E ⟨_, _, _, ws, _, _, _, _, _, e, _, _, _, rs, mm, _⟩ => by
    obtain ⟨many, e2, _⟩ := fdraw_told mm
    rw [e, List.length_cons, rs.length, e2]
    rfl) (fun cdv A outer s H vs Q E hr hg hsp => ?_)
  obtain ⟨S1, L1, C1, ws, B, ds, c, Pd, XP, rfl, sub, trk, si, rs, mm, kq, ke⟩ := hsp
  obtain ⟨many, rfl, ⟨m1, m2, hc⟩, mr⟩ := fdraw_told mm
  have ok : (parS S1 L1 C1 H B XP E).Ok K mg := by
    refine ⟨fun n H1 H2 h hk => ?_, fun n x cl d H' hx hs he hr => ke x n cl d H' hx he hs hr⟩
    obtain ⟨ls, cs, t, ht, h1, h2, h3, h4⟩ := h.ex
    exact ⟨h.sl, h.sc, h.lc, ls, cs, t, ht, hk _ _ (.inl rfl) h1, hk _ _ (.inr (.inl rfl)) h2, hk _ _ (.inr (.inr rfl)) h3, h4⟩
  have S' := sit_body (P := P) (w := w) (base := base) (mg := mg) (f := f) (outer := outer) (H := H) (p := parS S1 L1 C1 H B XP E) S hr hg ok
  refine ⟨_, body cdv A outer s H _ S', ?_⟩
  cases rs with
  | cons r t =>
    cases t
    cases r
    have e : L2.start N [V.ref S1, V.int many] = [some (.ref S1), some (.int many), none, none, none, none] := by
      unfold L2.start
      rw [hl]
      rfl
    rw [e]
    exact draw_sem ⟨m1, m2⟩ hc si fun r H' e h a b => kq (.int r) (c + 1) _ H' (mr r a b) e h (.int r)
end

/-! ### the stream's making -/
section
variable {P : Program} {w : World} {K : PySem.W.Frag} {mg : Str → Option Value} {base : Heap} {X : Cx} {p : Par} {k : Nat}
/-- the script, walked -/
theorem pi_scr (i : Nat) {tg e : Expr} (he : PE X e (tVar i)) : PDI X p tg e (iScr i) := by
  refine ⟨_, pi_list he, fun B H σ E c P R st r m kk => ?_⟩
  have m' : (match E[i]? with | some (.scr ns) => ret (ns.map PyData.int) | _ => stuck) c P p.XP := m
  cases h : E[i]? with
  | none => rw [h] at m'; exact m'.elim
  | some y =>
    rw [h] at m'
    cases y with
    | scr ns =>
      obtain ⟨s, h1, h2⟩ := r.at_ i _ h
      cases h2 with
      | scr q =>
        rename_i a
        refine ⟨_, h1, a, rfl, ⟨_, q H fun o ho _ => ho⟩, kk _ c _ H m' Ext.refl st.si ?_⟩
        refine ⟨fun H' => SqL X.K H' a (ns.map V.int), q H fun o ho _ => ho, fun B1 H1 t => q H1 fun o ho hi => t.ext.imm a o ho hi, ?_⟩
        have wk := walk_list (K := X.K) (a := a) (xs := ns.map V.int)
        rw [List.length_map] at wk ⊢
        refine wk.mono (fun _ h => h) fun i H1 x H' hi hg y => ⟨fun b o e => by rw [y.1]; exact e, fun B1 t _ => ?_⟩
        obtain ⟨n, hn, rfl⟩ : ∃ n, ns[i]? = some n ∧ x = V.int n := by
          have y2 := y.2
          rw [List.getElem?_map] at y2
          cases e : ns[i]? with
          | none => rw [e] at y2; cases y2
          | some n => rw [e] at y2; exact ⟨n, rfl, (Option.some.inj y2).symm⟩
        exact ⟨.int n, by rw [List.getElem?_map, hn]; rfl, .int n⟩
    | _ => exact m'.elim
def spMake (K : PySem.W.Frag) : Sp := fun vs H Q EK => ∃ (a : Addr) (ns : List Int), vs = [.ref a] ∧ ns.length ≤ 63 ∧ (∀ H' : Hp, (∀ o, H a = some o → Imm o → H' a = some o) → SqL K H' a (ns.map V.int)) ∧
  ∀ (S L C : Addr) (H' : Hp), All H H' → StrI S L C 0 H' → Q (.ref S) H'
end
end DL

end

section
/-! BR10: the stream's def, the law's def, the law's end. -/
namespace DL
open PySem PySem.Spec PyProof.Rows L2

section
variable {P : Program} {w : World} {K : PySem.W.Frag} {mg : Str → Option Value} {base : Heap} {X : Cx} {p : Par} {k : Nat}
/-- the words of the stream's def -/
def mCells : XE := eComp (iScr 0) (.nm 2) tYes (eB1 .abs (eVar 2)) [2]
def mLarge : XE := eComp (iLst (eVar 1)) (.nm 2) (tBool (eCmp .ge (eVar 2) (eBin .pow (eCon (.int 10)) (eCon (.int 18))))) (eVar 2) [2]
def mSmall : XE := eIf (tBool (eCmp .ne (eVar 1) (eLst aNil))) (eVar 1) (eLst (aCons (eCon (.int 41)) aNil))
def absI (i : Int) : Int := if i < 0 then -i else i
theorem comp_abs (E : Env) (h : E.length = 3) : ∀ (ns : List Int) (acc : List D), acc.length + ns.length ≤ 1000 → compL (.nm 2) tYes (eB1 .abs (eVar 2)) (ns.map PyData.int) acc E = ret (acc ++ (ns.map absI).map PyData.int)
  | [], acc, _ => by simp [compL]
  | n :: ns, acc, hl => by
    simp only [List.length_cons] at hl
    have e : (E.set 2 (Ent.val (.int n)))[2]? = some (Ent.val (.int n)) := by rw [List.getElem?_set_self (by omega)]
    have hs : small acc.length := by unfold small; omega
    show bnd (tYes (E.set 2 (Ent.val (.int n)))) _ = _
    simp only [tYes, bnd_ret, if_true, eB1, eVar, e, bi1]
    rw [grd_pos hs, comp_abs E h ns _ (by rw [List.length_append]; simp only [List.length_singleton]; omega)]
    simp [absI]
theorem comp_large (E : Env) (h : E.length = 3) : ∀ (ns : List Int) (acc : List D), acc.length + ns.length ≤ 1000 → compL (.nm 2) (tBool (eCmp .ge (eVar 2) (eBin .pow (eCon (.int 10)) (eCon (.int 18))))) (eVar 2) (ns.map PyData.int) acc E =
      ret (acc ++ (ns.filter fun n => decide (10 ^ 18 ≤ n)).map PyData.int)
  | [], acc, _ => by simp [compL]
  | n :: ns, acc, hl => by
    simp only [List.length_cons] at hl
    have e : (E.set 2 (Ent.val (.int n)))[2]? = some (Ent.val (.int n)) := by rw [List.getElem?_set_self (by omega)]
    have hs : small acc.length := by unfold small; omega
    have hp : opPow (.int 10) (.int 18) = ret (.int (10 ^ 18)) := by
      show grd _ _ = _
      rw [grd_pos (by decide)]
      rfl
    show bnd (tBool _ (E.set 2 (Ent.val (.int n)))) _ = _
    simp only [tBool, eCmp, eBin, eCon, eVar, e, bnd_ret, opBin, hp, opCmp, opLe]
    by_cases hn : (10 : Int) ^ 18 ≤ n
    · rw [decide_eq_true hn, if_pos rfl, grd_pos hs, comp_large E h ns _ (by rw [List.length_append]; simp only [List.length_singleton]; omega), List.filter_cons_of_pos (by simpa using hn)]
      simp
    · rw [decide_eq_false hn, if_neg (by decide), comp_large E h ns _ (by omega), List.filter_cons_of_neg (by simpa using hn)]
theorem st_triv {Q : XK} {H : Hp} : St0 ⟨nB, fun _ _ => True, 0, H, nB, fun _ => False, Q⟩ 0 nB H := ⟨fun _ z => z, fun _ z => z, fun _ z => z.elim, True.intro, Ext.refl⟩
theorem absI_nonneg (i : Int) : 0 ≤ absI i := by unfold absI; split <;> omega
theorem stream_sem {EK : XK} {H0 : Hp} {ts1 : TS} {te1 te2 : TE} {a : Addr} {ns : List Int} {D : Ends} (hl : ns.length ≤ 63) (hq : ∀ H' : Hp, (∀ o, H0 a = some o → Imm o → H' a = some o) → SqL K H' a (ns.map V.int))
    (a2 : SR K ⟨nB, fun _ _ => True, 0, H0, nB, fun _ => False, EK⟩ ts1 (sAsg 1 mCells)) (b2 : EvF K ⟨nB, fun _ _ => True, 0, H0, nB, fun _ => False, EK⟩ te1 mLarge) (c2 : EvR K ⟨nB, fun _ _ => True, 0, H0, nB, fun _ => False, EK⟩ te2 mSmall)
    (q : ∀ (S L C : Addr) (H' : Hp), All H0 H' → StrI S L C 0 H' → D.rt (.ref S) H') :
    tSeq ts1 (tRet (tLst (tCons te1 (tCons te2 (tCons (tC (.int 0)) tNil))))) D [some (.ref a), none, none] H0 := by
  refine a2 nB H0 _ [.scr ns, .unk, .unk] 0 (fun o _ => o = .nx [.scr ns, .val (.list ((ns.map absI).map PyData.int)), .unk]) _ st_triv ?_ ?_ ?_ ?_ ?_ ?_
  · refine ⟨rfl, fun i e h => ?_, fun i j b xs ys h => ?_⟩
    · match i, h with
      | 0, h => cases h; exact ⟨_, rfl, .scr hq⟩
      | 1, h => cases h; exact ⟨_, rfl, .unk _⟩
      | 2, h => cases h; exact ⟨_, rfl, .unk _⟩
    · match i, h with
      | 0, h => cases h
      | 1, h => cases h
      | 2, h => cases h
  · show bnd (eComp (iScr 0) (.nm 2) tYes (eB1 .abs (eVar 2)) [2] [.scr ns, .unk, .unk]) _ 0 _ _
    show bnd (bnd (ret (ns.map PyData.int)) _) _ 0 _ _
    simp only [bnd_ret]
    rw [comp_abs _ rfl ns [] (by simp only [List.length_nil]; omega)]
    rfl
  · rintro E' c' B' σ' H' hE st' tr' r'
    cases hE
    refine b2 B' H' σ' _ c' (fun d _ => d = .list (((ns.map absI).filter fun n => decide (10 ^ 18 ≤ n)).map PyData.int)) _ st' r' ?_ ?_
    · show bnd (bnd (ret _) _) _ c' _ _
      show bnd (noX (compL (.nm 2) (tBool (eCmp .ge (eVar 2) (eBin .pow (eCon (.int 10)) (eCon (.int 18))))) (eVar 2) ((ns.map absI).map PyData.int) [] _)) _ c' _ _
      rw [comp_large _ rfl (ns.map absI) [] (by simp only [List.length_nil, List.length_map]; omega)]
      rfl
    · rintro ds c1 L xs H1 hds e1 _ hL h1 rs
      cases hds
      have hxs := rs.ints (ints?_map _)
      subst hxs
      have st1 := st_q st' hL (e1.more fun a z => z.elim) True.intro (some_ne h1) (n' := c1)
      have r1 := env_q r' st' hL (e1.more (B' := plusQ _ L) fun a z => z.elim)
      refine c2 _ H1 σ' _ c1 (fun d _ => d = .list ((if ns = [] then [41] else ns.map absI).map PyData.int)) _ st1 r1 ?_ ?_
      · have he : opEq (.list ((ns.map absI).map PyData.int)) (.list []) = ret (decide (ns = [])) := by
          unfold opEq
          rw [grd_pos (eqOk_of (shaped_ints _) rfl)]
          cases ns with
          | nil => rfl
          | cons n r => rfl
        have g0 : small ([] : List PyData).length := Nat.zero_le _
        have g1 : small [PyData.int 41].length := by show 1 ≤ 1000000; omega
        simp only [mSmall, eIf, tBool, eCmp, eVar, eLst, aNil, aCons, eCon, List.getElem?_cons_succ, List.getElem?_cons_zero, bnd_ret, grd_pos g0, grd_pos g1, opCmp, he]
        by_cases hn : ns = []
        · rw [hn]
          rfl
        · rw [decide_eq_false hn, if_neg hn]
          rfl
      · rintro d c3 v H2 rfl e2 _ rv
        cases rv with
        | lst h2 nb rs2 =>
          rename_i C ys
          have hys := rs2.ints (ints?_map _)
          subst hys
          have hLC : L ≠ C := fun z => nb (.inr z.symm)
          have h1' : H2 L = some (.lst (((ns.map absI).filter fun n => decide (10 ^ 18 ≤ n)).map V.int)) := e2.keep _ _ h1 fun z => z
          refine ⟨by rw [sizeLine_eq]; show 3 ≤ _; decide, fun S hS => ?_⟩
          have nL : S ≠ L := fun z => by rw [z, h1'] at hS; cases hS
          have nC : S ≠ C := fun z => by rw [z, h2] at hS; cases hS
          refine q S L C _ ((all_of st'.ext).trans ((all_of e1).trans ((all_of e2).trans (All.new hS)))) ⟨nL, nC, hLC, (ns.map absI).filter fun n => decide (10 ^ 18 ≤ n), if ns = [] then [41] else ns.map absI, 0, Nat.le_refl 0, upd_same, ?_, ?_, ?_, ?_, ?_, ?_⟩
          · rw [upd_ne nL.symm]; exact h1'
          · rw [upd_ne nC.symm]; exact h2
          · split
            · exact fun z => nomatch z
            · rename_i hn
              exact fun z => hn (List.map_eq_nil_iff.mp z)
          · intro x hx
            obtain ⟨y, _, rfl⟩ := List.mem_map.mp (List.mem_filter.mp hx).1
            exact absI_nonneg y
          · intro x hx
            split at hx
            · rw [List.mem_singleton.mp hx]; decide
            · obtain ⟨y, _, rfl⟩ := List.mem_map.mp hx
              exact absI_nonneg y
          · split
            · decide
            · rw [List.length_map]; omega
  · rintro d c' v H' h; cases h
  · rintro E' c' B' σ' H' h; cases h
  · rintro E' c' B' σ' H' h; cases h
end

section
variable {P : Program} {w : World} {K : PySem.W.Frag} {mg : Str → Option Value} {base : Heap}
/-- the stream's def -/
theorem fn_stream {x qual : Str} {st : Stmt} {f : Addr} {fd : FuncData} {N : List Str} {x0 : Str} {k : Nat} (F : FnP K x qual st f fd) (S : FnScope N [x0] (defScope st)) (hl : N.length = 3)
    (body : ∀ (cdv : Value) (A : Around) (outer : List PySem.Env) (s : Shared) (H : Hp) (p : Par), Sit (bodyX P w K mg base N qual st f cdv A outer s H p.EK) p k →
      ∃ (s1 : Stmt) (e1 e2 : Expr), (∀ t1 te1 te2, PS (bodyX P w K mg base N qual st f cdv A outer s H p.EK) s1 t1 → PE (bodyX P w K mg base N qual st f cdv A outer s H p.EK) e1 te1 → PE (bodyX P w K mg base N qual st f cdv A outer s H p.EK) e2 te2 →
          PSs (bodyX P w K mg base N qual st f cdv A outer s H p.EK) (defBody st) (tSeq t1 (tRet (tLst (tCons te1 (tCons te2 (tCons (tC (.int 0)) tNil))))))) ∧
        PSD (bodyX P w K mg base N qual st f cdv A outer s H p.EK) p s1 (sAsg 1 mCells) ∧ PDF (bodyX P w K mg base N qual st f cdv A outer s H p.EK) p e1 mLarge ∧ PD (bodyX P w K mg base N qual st f cdv A outer s H p.EK) p e2 mSmall) :
    FnG P w K mg base (k + 1) f fd [x0] (spMake K) := by
  refine fnG_body F S (fun vs H Q E ⟨_, _, e, _⟩ => by rw [e]; rfl) (fun cdv A outer s H vs Q E hr hg hsp => ?_)
  obtain ⟨a, ns, rfl, hn, hS, kq⟩ := hsp
  have ok : (Par.mk nB (fun _ _ => True) 0 H nB (fun _ => False) E).Ok K mg := ⟨fun _ _ _ _ _ => True.intro, fun _ _ _ _ _ z => z.elim⟩
  have S' := sit_body (P := P) (w := w) (base := base) (mg := mg) (f := f) (outer := outer) (H := H) (p := ⟨nB, fun _ _ => True, 0, H, nB, fun _ => False, E⟩) S hr hg ok
  obtain ⟨s1, e1, e2, mk, h1, h2, h3⟩ := body cdv A outer s H _ S'
  obtain ⟨t1, a1, a2⟩ := h1.ex
  obtain ⟨t2, b1, b2⟩ := h2.ex
  obtain ⟨t3, c1, c2⟩ := h3.ex
  refine ⟨_, mk t1 t2 t3 a1 b1 c1, ?_⟩
  have e : L2.start N [V.ref a] = [some (.ref a), none, none] := by
    unfold L2.start
    rw [hl]
    rfl
  rw [e]
  exact stream_sem hn hS a2 b2 c2 fun S L C H' al si => kq S L C H' al si
theorem pss_any {X : Cx} {ss : List Stmt} : PSs X ss (fun D σ H => ∃ ts, PSs X ss ts ∧ ts D σ H) := ⟨fun pins s σ H D I ⟨_, h, q⟩ => h.run pins s σ H D I q⟩
/-- what the law is asked -/
def spLaw (K : PySem.W.Frag) : Sp := fun vs H Q _ => ∃ (a : Addr) (ns : List Int), vs = [.ref a] ∧ ns.length ≤ 63 ∧ (∀ H' : Hp, (∀ o, H a = some o → Imm o → H' a = some o) → SqL K H' a (ns.map V.int)) ∧ ∀ H', Q (.bl true) H'
/-- the law's own environment: the stream at i -/
def lawE (n i : Nat) : Env := (List.replicate n Ent.unk).set i .stm
theorem fn_law {x qual : Str} {st : Stmt} {f fM : Addr} {fd fdM : FuncData} {N : List Str} {x0 : Str} {j k i : Nat} {m : XS} (F : FnP K x qual st f fd) (S : FnScope N [x0] (defScope st)) (hi : i < N.length) (h0 : 0 < N.length)
    (G : FnG P w K mg base j fM fdM [x0] (spMake K)) (hj : j ≤ k)
    (body : ∀ (cdv : Value) (A : Around) (outer : List PySem.Env) (s : Shared) (H : Hp) (E : XK), ∃ rest,
      (∀ ts, (Room k (bodyX P w K mg base N qual st f cdv A outer s H E).A → (bodyX P w K mg base N qual st f cdv A outer s H E).A.guards = some [] → Passes (L2.CX P w) (bodyX P w K mg base N qual st f cdv A outer s H E) E → PSs (bodyX P w K mg base N qual st f cdv A outer s H E) rest ts →
        PSs (bodyX P w K mg base N qual st f cdv A outer s H E) (defBody st) (tSeq (tAsg (tCall (spMake K) [] E (tCons (tVar 0) tNil)) (gName i)) ts))) ∧
      ∀ (p : Par), p.EK = E → Sit (bodyX P w K mg base N qual st f cdv A outer s H p.EK) p k → IsStr p → PSSD (bodyX P w K mg base N qual st f cdv A outer s H p.EK) p rest m)
    (math : m (lawE N.length i) 0 (fun o _ => o = .rt (.bool true)) fun _ => False) : FnG P w K mg base (k + 1) f fd [x0] (spLaw K) := by
  refine fnG_body F S (fun vs H Q E ⟨_, _, e, _⟩ => by rw [e]; rfl) (fun cdv A outer s H vs Q E hr hg hsp => ?_)
  obtain ⟨a, ns, rfl, hn, hS, kq⟩ := hsp
  obtain ⟨rest, mk, hb⟩ := body cdv A outer s H E
  refine ⟨_, mk _ hr hg (passes_call (takes_of rfl rfl rfl rfl) fun _ _ _ _ h => h) pss_any, ?_⟩
  have e0 : (L2.start N [V.ref a])[0]? = some (some (.ref a)) := rfl
  refine ⟨.ref a, e0, a, ns, rfl, hn, hS, fun S1 L1 C1 H1 al si => ?_⟩
  have okp : (Par.mk (strB S1 L1 C1) (StrI S1 L1 C1) S1 H1 nB (fun _ => False) E).Ok K mg := by
    refine ⟨fun n Ha Hb h hk => ?_, fun _ _ _ _ _ z => z.elim⟩
    obtain ⟨ls, cs, t, ht, h1, h2, h3, h4⟩ := h.ex
    exact ⟨h.sl, h.sc, h.lc, ls, cs, t, ht, hk _ _ (.inl rfl) h1, hk _ _ (.inr (.inl rfl)) h2, hk _ _ (.inr (.inr rfl)) h3, h4⟩
  have S' := sit_body (P := P) (w := w) (base := base) (mg := mg) (f := f) (outer := outer) (H := H) (p := ⟨strB S1 L1 C1, StrI S1 L1 C1, S1, H1, nB, fun _ => False, E⟩) S hr hg okp
  obtain ⟨ts, t1, t2⟩ := (hb _ rfl S' ⟨S1, L1, C1, rfl, rfl, rfl⟩).ex
  refine ⟨ts, t1, ?_⟩
  have l1 : (L2.start N [V.ref a]).length = N.length := by
    unfold L2.start
    rw [List.length_append, List.length_map, List.length_replicate, List.length_singleton]
    omega
  refine t2 (strB S1 L1 C1) H1 _ (lawE N.length i) 0 (fun o _ => o = .rt (.bool true)) _ ⟨fun _ z => z, fun _ z => z.elim, fun a ha => si.at_ ha, si, Ext.refl⟩ ⟨?_, fun q e h => ?_, fun q r b xs ys h => ?_⟩ math ?_ ?_ ?_ ?_
  · unfold lawE
    rw [List.length_set, List.length_set, l1, List.length_replicate]
  · unfold lawE at h
    rw [List.getElem?_set] at h ⊢
    by_cases hq : i = q
    · rw [if_pos hq] at h ⊢
      rw [List.length_replicate, if_pos hi] at h
      rw [l1, if_pos hi]
      cases h
      exact ⟨_, rfl, .stm (p := ⟨strB S1 L1 C1, StrI S1 L1 C1, S1, H1, nB, fun _ => False, E⟩)⟩
    · rw [if_neg hq] at h ⊢
      rw [List.getElem?_replicate] at h
      split at h
      · cases h
        rename_i hlt
        exact ⟨_, List.getElem?_eq_getElem (by rw [l1]; exact hlt), .unk _⟩
      · cases h
  · unfold lawE at h
    rw [List.getElem?_set] at h
    by_cases hq : i = q
    · rw [if_pos hq] at h
      split at h <;> cases h
    · rw [if_neg hq, List.getElem?_replicate] at h
      split at h <;> cases h
  · rintro E' c' B' σ' H' h; cases h
  · intro d c' v H' h _ _ rv
    cases h
    cases rv
    exact kq H'
  · rintro E' c' B' σ' H' h; cases h
  · rintro E' c' B' σ' H' h; cases h
end

/-! ### the law's end -/
section
variable {P : Program} {w : World} {K : PySem.W.Frag} {mg mb : Str → Option Value}
theorem enter_law {k : Nat} {f a : Addr} {fd : FuncData} {x : Str} {s : Shared} {us : List Value} {ns : List Int} (inK : K.In s.heap) (g : s.heap.Ns mainGlobals mg) (b : s.heap.Ns builtinsNs mb) (bb : ∀ y : Str, y ≠ "__name__" → mb y = bootBuiltins y)
    (lim : s.heap.NoLimit) (noGens : s.gens = #[]) (hObj : s.heap.get? a = some { cls := .type "list", data := .seq us.toArray }) (isI : IntsAre us ns) (few : ns.length ≤ 63) (room : Room k callerA)
    (G : ∀ bh : Heap, K.In bh → bh.Ns mainGlobals mg → FnG P w K mg bh k f fd [x] (spLaw K)) (binds : ∀ (t : Shared) (u : Value), BindsTo t fd ⟨[u], []⟩ [(x, u)]) :
    codeAny (model P w) callerA (.call (.ref f) ⟨[.ref a], []⟩) (fun r t => r = .ok (.ret (.bool true)) ∧ OldK s.heap t.heap ∧ t.os = s.os ∧ AllBare t.gens) s := by
  have vals := vals_ints isI
  have fewL : ns.length ≤ sizeLine := Nat.le_trans few (by rw [sizeLine_eq]; decide)
  have lens := isI.length
  classical
  let fz : HO := .frz { cls := .type "list", data := .seq us.toArray } (.lst (ns.map V.int))
  let H : Hp := fun c => if c = a ∧ K.lookup a = none then some fz else none
  have Hin : ∀ c o, H c = some o → c = a ∧ K.lookup a = none ∧ o = fz := fun c o h => by
    by_cases hc : c = a ∧ K.lookup a = none
    · have z := (if_pos hc).symm.trans h
      cases z
      exact ⟨hc.1, hc.2, rfl⟩
    · have z := (if_neg hc).symm.trans h
      cases z
  have Hno : ∀ c, (c ≠ a ∨ K.lookup a ≠ none) → H c = none := fun c h => if_neg fun z => h.elim (fun q => q z.1) fun q => q z.2
  have seqA : ∀ H' : Hp, (∀ o, H a = some o → Imm o → H' a = some o) → SqL K H' a (ns.map V.int) := by
    intro H' hk
    cases q : K.lookup a with
    | none => exact .inl (.inr ⟨_, hk fz (if_pos ⟨rfl, q⟩) True.intro⟩)
    | some o =>
      have e := inK a o q
      rw [hObj] at e
      cases e
      exact .inr ⟨_, us.toArray, _, q, rfl, rfl, rfl, by rw [List.size_toArray, lens]; exact fewL, by simpa using vals⟩
  have kept : ∀ {c : Addr} {o : Obj}, s.heap.get? c = some o → H c = none → (hidT s.heap H).get? c = some o := fun h1 h2 => hidT_get h1 h2
  have dictNo : ∀ {c : Addr} {o : Obj} {es : Array DictEntry} {n : Nat}, s.heap.get? c = some o → o.data = .dict es n → H c = none := fun {c o es n} h1 h2 => Hno c (.inl fun z => by
    rw [z, hObj] at h1
    cases h1
    have h3 : Data.seq us.toArray _ = Data.dict es n := h2
    cases h3)
  have nsTo : ∀ {c : Addr} {m : Str → Option Value}, s.heap.Ns c m → (hidT s.heap H).Ns c m := fun {c m} ⟨o, es, n, h1, h2, h3⟩ => ⟨o, es, n, kept h1 (dictNo h1 h2), h2, h3⟩
  have inB : K.In (hidT s.heap H) := fun c o h => kept (inK c o h) (Hno c (by
    by_cases z : c = a
    · exact .inr (by rw [← z, h]; exact fun q => nomatch q)
    · exact .inl z))
  have md : Mod K mg (hidT s.heap H) := ⟨inB, nsTo g, ⟨mb, nsTo b, bb⟩, let ⟨m2, y1, y2⟩ := lim; ⟨m2, nsTo y1, y2⟩⟩
  have good : HOk P w H s.heap := fun c o h => by
    obtain ⟨rfl, _, rfl⟩ := Hin c o h
    exact ⟨hObj, by rw [List.length_map]; exact fewL, us, _, vals, hObj⟩
  have start0 : Env0 P w K mg (hidT s.heap H) callerA [] s H := ⟨rfl, md, fun c o h => of_hidT h, Nat.le_of_eq (hidT_size _ _), trivial, fun c hc => (nomatch hc), good, .of_eq noGens⟩
  have asked : spLaw K [.ref a] H (fun v _ => v = .bl true) fun _ _ _ => False := ⟨a, ns, rfl, few, seqA, fun _ => rfl⟩
  have ran := (G _ inB (nsTo g)).go callerA [] s H ⟨[.ref a], []⟩ [.ref a] [.ref a] _ _ room rfl start0 (binds s (.ref a)) (.cons rfl .nil) asked
  refine codeAny_mono ran fun r t h => ?_
  match r, h with
  | .error e, h =>
    obtain ⟨_, _, _, _, _, _, _, _, _, _, _, _, no⟩ := h
    exact no.elim
  | .ok (.ret u), h =>
    obtain ⟨v, H2, os2, bare2, un2, ok2, rel2, veq⟩ := h
    have veq' : v = .bl true := veq
    rw [veq'] at rel2
    have ueq : u = Value.bool true := rel2
    rw [ueq]
    refine ⟨rfl, OldK.of_keep fun c o hc => ?_, os2, bare2⟩
    cases q : H c with
    | none => exact un2.keep c o hc q (fun z => (nomatch z)) (fun z => (nomatch z))
    | some o2 =>
      obtain ⟨rfl, _, rfl⟩ := Hin c o2 q
      obtain ⟨g1, _⟩ := good c _ q
      obtain ⟨g2, _⟩ := ok2 c _ (un2.frzs c _ _ q)
      rw [hc] at g1
      cases g1
      exact g2
  | .ok .next, h => exact h.elim
  | .ok .brk, h => exact h.elim
  | .ok .cont, h => exact h.elim
end
theorem walk_law {l : PySem.W.OpenLaw} {k : Nat} {q : Program} {loose : List Str} {XP : (Str → Option Value) → Heap → Prop} {YP : World → Heap → Prop} {d : DefRec} {x : Str} (hn : l.most = some 63) (hdf : d.params.defaults = []) (room : Room k callerA)
    (F : ∀ (w : World) (mg : Str → Option Value) (f : Addr) (h : Heap), YP w h → h.Ns mainGlobals mg → mg d.name = some (.ref f) →
      ∃ (K : PySem.W.Frag) (fd : FuncData), K.In h ∧ (∀ (t : Shared) (u : Value), BindsTo t fd ⟨[u], []⟩ [(x, u)]) ∧ ∀ bh : Heap, K.In bh → bh.Ns mainGlobals mg → FnG l.prog w K mg bh k f fd [x] (spLaw K)) :
    PySem.W.WalkO q loose XP YP l.row.toRowW d [] (fun f vs => PySem.call f vs) := by
  refine Att.attach_call hn hdf fun w s0 s mg mb f o pm cd doc a us ns gr Y _ _ _ hmg hObj isI few noGens => ?_
  obtain ⟨K, fd, inK, bd, G⟩ := F w mg f _ Y gr.T.g hmg
  exact enter_law inK gr.T.g gr.T.b gr.T.builtins gr.T.nolimit noGens hObj isI few room G bd
end DL

end

section
/-! BR11: walks over lists or tuples, stores into several names. -/
namespace DL
open PySem PySem.Spec PyProof.Rows L2
section
variable {X : Cx} {p : Par} {k : Nat} {tg : Expr}
def wAny (K : PySem.W.Frag) (te : TE) : TI := fun σ H R => te σ H fun x H1 => ∃ a, x = .ref a ∧ ((∃ xs, SqL K H1 a xs ∧ R (Itl K a) H1) ∨ (∃ xs, SqT K H1 a xs ∧ R (Itt K a) H1))
theorem pi_any {e : Expr} {te : TE} (he : PE X e te) : PI X tg e (wAny X.K te) := by
  constructor
  intro pins s σ H R I h
  refine thn (he.run pins s σ H _ I h) fun v s2 ⟨x, H2, I2, rel, a, xe, alt⟩ => ?_
  subst xe
  cases rel
  have youngest : ∀ c, c ∈ [s2.heap.objs.size] → FpOk X pins H2 c := fun c hc => by
    rw [List.mem_singleton.mp hc]
    exact I2.fpOk (Nat.le_refl _) (I2.hok.fresh (Nat.le_refl _))
  rcases alt with ⟨xs, sq, r⟩ | ⟨xs, sq, r⟩
  · obtain ⟨its, vals, isl, _⟩ := I2.list sq
    exact wpAny_pyIter_list isl.isList ⟨s2.heap.objs.size, [s2.heap.objs.size], _, _, H2, rfl, I2.kept (t' := s2.toks) fun c o h => Heap.get?_push_of_some _ h, turn_list a _, ⟨_, Heap.get?_push_size _ rfl, rfl, rfl⟩, youngest, r⟩
  · obtain ⟨its, vals, ist, _⟩ := I2.tuple sq
    exact wpAny_pyIter_tuple (show s2.heap.IsTuple a its.toArray from ist) ⟨s2.heap.objs.size, [s2.heap.objs.size], _, _, H2, rfl, I2.kept (t' := s2.toks) fun c o h => Heap.get?_push_of_some _ h, turn_tuple a _, ⟨_, Heap.get?_push_size _ rfl, rfl, rfl⟩, youngest, r⟩
theorem pi_seq {e : Expr} {m : XE} (he : PD X p e m) : PDI X p tg e (iSeq m) := by
  obtain ⟨te, a1, a2⟩ := he.ex
  refine ⟨_, pi_any a1, fun B H σ E c P R st r m k => ?_⟩
  refine a2 B H σ E _ _ _ st r m fun d c1 v H1 m1 e1 s1 r1 => ?_
  cases r1 with
  | lst q n t => exact ⟨_, rfl, .inl ⟨_, SqL.of q, k _ _ _ H1 m1 e1 s1 (walkD_list q n t)⟩⟩
  | tup q t => exact ⟨_, rfl, .inr ⟨_, q, k _ _ _ H1 m1 e1 s1 (walkD_tup q t)⟩⟩
  | _ => exact m1.elim
/-- names = e -/
theorem sd_put (S : Sit X p k) {e : Expr} {m : XE} {t : Tg} {pos : Pos} (hg : PG X tg (gOf X.K t)) (he : PD X p e m) (hs : swapsWithSole [tg] e pos.line X.env = pure false := by rfl) (hw : swappedStores [tg] e X.env = pure none := by rfl)
    (h1 : (assignEach [tg] X.env).map (·.2) = [assign tg X.env] := by rfl) : PSD X p (.Assign [tg] e pos) (sPut t m) := by
  obtain ⟨te, a1, a2⟩ := he.ex
  refine ⟨_, ps_asg a1 hg hs hw h1, fun B H σ E c P Dn st r m nx rt bk ct => ?_⟩
  refine a2 B H σ E _ _ _ st r m fun d c1 v H1 m1 e1 s1 r1 => ?_
  have m1' : (match t.put d E with | some E' => ret (Out.nx E') | none => stuck) c1 P p.XP := m1
  cases h : t.put d E with
  | none => rw [h] at m1'; exact m1'.elim
  | some E' =>
    rw [h] at m1'
    exact gOf_put (r.go st e1) r1 h _ fun σ' g _ _ => nx _ _ B _ H1 m1' (st.go e1 s1) (.of (st.up e1)) g
end
end DL

end

section
/-! WD: the words of the defs, as gen.py prints them. -/
namespace DL
open PySem
def w_longest_0 : Fn := fn 1 1 (sRet (eB1 .max (eVar 0)))
def w__law_row_drawn_0 : Fn := fnS 2 8 (sSeq (sPar 2 3 (eBin .add (eCon (.int 1)) (eCallS fDraw 0 (aCons (eVar 1) (aNil)))) (eCallS fDraw 0 (aCons (eCon (.int 6)) (aNil))))
    (sSeq (sAsg 4 (eIdx (eLst (aCons (eCon (.int 3)) (aCons (eCon (.int 60)) (aCons (eCon (.int 9)) (aCons (eCon (.int 2)) (aCons (eCon (.int 12)) (aCons (eCon (.int 5)) (aNil)))))))) (eVar 3)))
    (sSeq (sOwn 5 (eComp (iRng1 (eVar 2)) (.nm 7) (tYes) (eBin .add (eCon (.int 1)) (eCallS fDraw 0 (aCons (eVar 4) (aNil)))) [7]))
    (sSeq (sIf (DL.tOr (tBool (eCmp .eq (eVar 3) (eCon (.int 2)))) (tBool (eCmp .eq (eVar 3) (eCon (.int 3))))) (sSet 5 (eCallS fDraw 0 (aCons (eVar 2) (aNil))) (eBin .add (eCon (.int 1)) (eCallS fDraw 0 (aCons (eCon (.int 60)) (aNil))))) (sSkip))
    (sSeq (sIf (tBool (eCmp .eq (eVar 3) (eCon (.int 5)))) (sSeq (sAsg 6 (eBin .add (eCon (.int 1)) (eCallS fDraw 0 (aCons (eB2 .min (eVar 2) (eCon (.int 4))) (aNil)))))
    (sRel 5 (sOwn 5 (eComp (iRng1 (eVar 2)) (.nm 7) (tYes) (eIdx (eVar 5) (eBin .mod (eVar 7) (eVar 6))) [7])))) (sSkip))
    (sRel 5 (sRet (eB1 .tuple (eVar 5)))))))))
def w_is_integer_0 : Fn := fn 3 3 (sRet (eAnd (eIs .int (eVar 0)) (eAnd (eNot (eIs .bool (eVar 0))) (eChain .le .le (eVar 1) (eVar 0) (eVar 2)))))
def w_extent_of_0 : Fn := fn 3 3 (sRet (eBin .sub (eBin .add (eB1 .sum (eCut (eVar 0) (oSome (eVar 1)) (oSome (eBin .add (eVar 2) (eCon (.int 1)))))) (eVar 2)) (eVar 1)))
def w_check_place_0 : Fn := fn 2 2 (sIf (tNot (tTru (eCall w_is_integer_0 (aCons (eVar 1) (aCons (eCon (.int 0)) (aCons (eBin .sub (eB1 .len (eVar 0)) (eCon (.int 1))) (aNil))))))) ((fun _ => stuck)) (sSkip))
def w_extent_0 : Fn := fn 3 3 (sSeq (sExpr (eCall w_check_place_0 (aCons (eVar 0) (aCons (eVar 1) (aNil)))))
    (sSeq (sExpr (eCall w_check_place_0 (aCons (eVar 0) (aCons (eVar 2) (aNil)))))
    (sSeq (sIf (tBool (eCmp .lt (eVar 2) (eVar 1))) ((fun _ => stuck)) (sSkip))
    (sRet (eCall w_extent_of_0 (aCons (eVar 0) (aCons (eVar 1) (aCons (eVar 2) (aNil)))))))))
end DL

end

section
namespace Wk03
open PySem DL
def m_law : XS := sSeq (sFor (iSeq (eLst (aCons (eBin .mul (eTup (aCons (eCon (.int 60)) (aNil))) (eCon (.int 24))) (aCons (eCallS w__law_row_drawn_0 1 (aCons (eCon (.int 24)) (aNil))) (aCons (eCallS w__law_row_drawn_0 1 (aCons (eCon (.int 24)) (aNil))) (aCons (eCallS w__law_row_drawn_0 1 (aCons (eCon (.int 9)) (aNil))) (aNil))))))) (.nm 2) (sSeq (sAsg 3 (eB1 .repr (eVar 2)))
    (sSeq (sFor (iRng1 (eB1 .len (eVar 2))) (.nm 4) (sSeq (sAsg 5 (eNeg (eCon (.int 1))))
    (sFor (iRng2 (eVar 4) (eB1 .len (eVar 2))) (.nm 6) (sSeq (sAsg 5 (eBin .add (eBin .add (eVar 5) (eCon (.int 1))) (eIdx (eVar 2) (eVar 6))))
    (sIf (tBool (eCmp .ne (eB1 .repr (eLst (aCons (eCall w_extent_0 (aCons (eVar 2) (aCons (eVar 4) (aCons (eVar 6) (aNil))))) (aCons (eCall w_extent_0 (aCons (eVar 2) (aCons (eVar 4) (aCons (eVar 6) (aNil))))) (aNil))))) (eB1 .repr (eLst (aCons (eVar 5) (aCons (eVar 5) (aNil))))))) (sRet (eCon (.bool false))) (sSkip))))))
    (sIf (tBool (eCmp .ne (eB1 .repr (eVar 2)) (eVar 3))) (sRet (eCon (.bool false))) (sSkip)))))
    (sRet (eCon (.bool true)))
end Wk03

end

section
namespace Wk03
open PySem PySem.Spec PyProof.Rows DL
def top (i : Nat) : Stmt := PySem.Challenge.pw_wrapwidths_k03_extents_of_stretches.main.body.getD i (.Pass ⟨0, 0, 0, 0⟩)
abbrev s_is_integer : Stmt := top 5
abbrev s_check_place : Stmt := top 6
abbrev s_extent_of : Stmt := top 7
abbrev s_extent : Stmt := top 8
abbrev s__law_stream : Stmt := top 10
abbrev s__law_draw : Stmt := top 11
abbrev s__law_row_drawn : Stmt := top 12
abbrev s_law : Stmt := top 13
theorem sc_is_integer : L2.FnScope ["value", "low", "high"] ["value", "low", "high"] (L2.defScope s_is_integer) := ⟨rfl, rfl, rfl, by decide +kernel, rfl, by decide +kernel, by decide +kernel⟩
theorem sc_check_place : L2.FnScope ["row", "value"] ["row", "value"] (L2.defScope s_check_place) := ⟨rfl, rfl, rfl, by decide +kernel, rfl, by decide +kernel, by decide +kernel⟩
theorem sc_extent_of : L2.FnScope ["row", "first", "last"] ["row", "first", "last"] (L2.defScope s_extent_of) := ⟨rfl, rfl, rfl, by decide +kernel, rfl, by decide +kernel, by decide +kernel⟩
theorem sc_extent : L2.FnScope ["row", "first", "last"] ["row", "first", "last"] (L2.defScope s_extent) := ⟨rfl, rfl, rfl, by decide +kernel, rfl, by decide +kernel, by decide +kernel⟩
theorem sc__law_stream : L2.FnScope ["_law_script", "_law_cells", "_law_cell"] ["_law_script"] (L2.defScope s__law_stream) := ⟨rfl, rfl, rfl, by decide +kernel, rfl, by decide +kernel, by decide +kernel⟩
theorem sc__law_draw : L2.FnScope ["_law_stream_here", "_law_many", "_law_rest", "_law_turn", "_law_cell", "_law_mixed"] ["_law_stream_here", "_law_many"] (L2.defScope s__law_draw) := ⟨rfl, rfl, rfl, by decide +kernel, rfl, by decide +kernel, by decide +kernel⟩
theorem sc__law_row_drawn : L2.FnScope ["_law_stream_here", "_law_most", "_law_size", "_law_way", "_law_top", "_law_found", "_law_part", "_law_k"] ["_law_stream_here", "_law_most"] (L2.defScope s__law_row_drawn) := ⟨rfl, rfl, rfl, by decide +kernel, rfl, by decide +kernel, by decide +kernel⟩
theorem sc_law : L2.FnScope ["_law_script", "_law_stream_here", "_law_row", "_law_shown", "_law_first", "_law_due", "_law_last"] ["_law_script"] (L2.defScope s_law) := ⟨rfl, rfl, rfl, by decide +kernel, rfl, by decide +kernel, by decide +kernel⟩
structure Txt (K : PySem.W.Frag) (mg : Str → Option Value) where
  fd_is_integer : FuncData
  F_is_integer : FnP K "is_integer" "is_integer" s_is_integer (He.ga K "is_integer") fd_is_integer
  D_is_integer : Def K mg "is_integer" (He.ga K "is_integer") fd_is_integer ["value", "low", "high"]
  fd_check_place : FuncData
  F_check_place : FnP K "check_place" "check_place" s_check_place (He.ga K "check_place") fd_check_place
  D_check_place : Def K mg "check_place" (He.ga K "check_place") fd_check_place ["row", "value"]
  fd_extent_of : FuncData
  F_extent_of : FnP K "extent_of" "extent_of" s_extent_of (He.ga K "extent_of") fd_extent_of
  D_extent_of : Def K mg "extent_of" (He.ga K "extent_of") fd_extent_of ["row", "first", "last"]
  fd_extent : FuncData
  F_extent : FnP K "extent" "extent" s_extent (He.ga K "extent") fd_extent
  D_extent : Def K mg "extent" (He.ga K "extent") fd_extent ["row", "first", "last"]
  fd__law_stream : FuncData
  F__law_stream : FnP K "_law_stream" "_law_stream" s__law_stream (He.ga K "_law_stream") fd__law_stream
  D__law_stream : Def K mg "_law_stream" (He.ga K "_law_stream") fd__law_stream ["_law_script"]
  fd__law_draw : FuncData
  F__law_draw : FnP K "_law_draw" "_law_draw" s__law_draw (He.ga K "_law_draw") fd__law_draw
  D__law_draw : Def K mg "_law_draw" (He.ga K "_law_draw") fd__law_draw ["_law_stream_here", "_law_many"]
  fd__law_row_drawn : FuncData
  F__law_row_drawn : FnP K "_law_row_drawn" "_law_row_drawn" s__law_row_drawn (He.ga K "_law_row_drawn") fd__law_row_drawn
  D__law_row_drawn : Def K mg "_law_row_drawn" (He.ga K "_law_row_drawn") fd__law_row_drawn ["_law_stream_here", "_law_most"]
  fd_law : FuncData
  F_law : FnP K "law" "law" s_law (He.ga K "law") fd_law
  D_law : Def K mg "law" (He.ga K "law") fd_law ["_law_script"]
  g_abs : mg "abs" = none
  g_bool : mg "bool" = none
  g_int : mg "int" = none
  g_isinstance : mg "isinstance" = none
  g_len : mg "len" = none
  g_min : mg "min" = none
  g_range : mg "range" = none
  g_repr : mg "repr" = none
  g_sum : mg "sum" = none
  g_tuple : mg "tuple" = none
section
variable {P : Program} {w : World} {K : PySem.W.Frag} {mg : Str → Option Value} {base : Heap}
theorem Txt.ok_is_integer (T : Txt K mg) : FnG P w K mg base 1 (He.ga K "is_integer") T.fd_is_integer ["value", "low", "high"] (spF K mg w_is_integer_0) :=
  fn_pure T.F_is_integer sc_is_integer (by decide) fun cdv A outer s H p S => ssd_one (sd_ret (pd_and (pd_is S .int (pd_var 0) T.g_isinstance T.g_int) (pd_and (pd_not (pd_is S .bool (pd_var 0) T.g_isinstance T.g_bool)) (pd_one (pd_chain S .le .le (pd_var 1) (pd_var 0) (pd_var 2))))))
theorem Txt.ok_extent_of (T : Txt K mg) : FnG P w K mg base 1 (He.ga K "extent_of") T.fd_extent_of ["row", "first", "last"] (spF K mg w_extent_of_0) :=
  fn_pure T.F_extent_of sc_extent_of (by decide) fun cdv A outer s H p S => ssd_one (sd_ret (pd_bin S .sub (pd_bin S .add (pd_call1 S (c_sum S.calm) T.g_sum (pd_cut S (pd_var 0) (pdo_some (pd_var 1)) (pdo_some (pd_bin S .add (pd_var 2) (pd_int))))) (pd_var 2)) (pd_var 1)))
theorem Txt.ok__law_stream (T : Txt K mg) : FnG P w K mg base 1 (He.ga K "_law_stream") T.fd__law_stream ["_law_script"] (spMake K) :=
  fn_stream T.F__law_stream sc__law_stream rfl fun cdv A outer s H p S =>
    ⟨_, _, _, fun t1 te1 te2 h1 h2 h3 => L2.pss_cons h1 (L2.pss_one (L2.ps_ret (L2.pe_lst (L2.pa_cons h2 (L2.pa_cons h3 (L2.pa_cons L2.pe_int L2.pa_nil)))))),
      sd_comp S (i := 1) (t := .nm 2) [("_law_cell", 2)] rfl rfl (L2.sw_true rfl rfl rfl (by decide +kernel)) (pi_scr 0 (L2.pv 0)) (L2.blkOk_by (N := ["_law_script", "_law_cells", "_law_cell"]) (sc := L2.defScope s__law_stream) (by decide +kernel)) (by decide) (fun _ _ _ _ _ => L2.pg_name (i := 2) S.nd rfl (Or.inl rfl)) (fun _ _ _ _ _ S => pdts_nil) (fun _ _ _ _ _ S => pd_call1 S c_abs T.g_abs (pd_var 2)),
      pf_comp S (t := .nm 2) [("_law_cell", 2)] (pi_lstD (pd_var 1)) (L2.blkOk_by (N := ["_law_script", "_law_cells", "_law_cell"]) (sc := L2.defScope s__law_stream) (by decide +kernel)) (by decide) (fun _ _ _ _ _ => L2.pg_name (i := 2) S.nd rfl (Or.inl rfl)) (fun _ _ _ _ _ S => pdts_one (pt_cmpD S .ge (pd_var 2) (pd_bin S .pow pd_int pd_int))) (fun _ _ _ _ _ S => pd_var 2),
      pd_if (pt_cmpD S .ne (pd_var 1) (pd_lst S pda_nil)) (pd_var 1) (pd_lst S (pda_cons pd_int pda_nil))⟩
theorem Txt.ok__law_draw (T : Txt K mg) : FnG P w K mg base 1 (He.ga K "_law_draw") T.fd__law_draw ["_law_stream_here", "_law_many"] (spS K mg fDraw) :=
  fn_draw T.F__law_draw sc__law_draw rfl fun cdv A outer s H p S =>
    L2.pss_cons (L2.ps_while S.po (L2.pt_cmpR (op_cmpD S.un .ne) (L2.pe_ix L2.ix_list (L2.pv 0) L2.pe_int (fun _ _ => rfl)) (L2.pe_lst L2.pa_nil) (L2.nomark _))
      (L2.pss_cons (L2.ps_set (i := 2) S.nd rfl (Or.inl rfl) (L2.pe_ix ix_D (L2.pe_ix L2.ix_list (L2.pv 0) L2.pe_int (fun _ _ => rfl)) L2.pe_int (fun _ _ => rfl)))
        (L2.pss_cons (L2.ps_if (L2.pt_cmpR (op_cmpD S.un .gt) (L2.pv 2) L2.pe_int (L2.nomark _))
            (L2.pss_cons (L2.ps_asg (L2.pe_op (op_binD .fdiv) (L2.pv 2) (L2.pv 1)) (L2.pg_sub (L2.pe_ix L2.ix_list (L2.pv 0) L2.pe_int (fun _ _ => rfl)) L2.pe_int L2.set_list)) (L2.pss_one (L2.ps_ret (L2.pe_op (op_binD .mod) (L2.pv 2) (L2.pv 1))))) L2.pss_nil)
          (L2.pss_one (L2.ps_expr (L2.pe_bm PySem.F.plainAttrs_list PySem.F.slot_list_pop PySem.F.type_list_pop L2.mt_popAt (L2.pe_ix L2.ix_list (L2.pv 0) L2.pe_int (fun _ _ => rfl)) (L2.pa_cons L2.pe_int L2.pa_nil)))))))
    (L2.pss_cons (L2.ps_set (i := 3) S.nd rfl (Or.inl rfl) (L2.pe_op (op_binD .add) (L2.pe_ix L2.ix_list (L2.pv 0) L2.pe_int (fun _ _ => rfl)) L2.pe_int))
    (L2.pss_cons (L2.ps_asg (L2.pv 3) (L2.pg_sub (L2.pv 0) L2.pe_int L2.set_list))
    (L2.pss_cons (L2.ps_set (i := 4) S.nd rfl (Or.inl rfl) (L2.pe_op (op_binD .mod) (L2.pe_ix ix_D (L2.pe_ix L2.ix_list (L2.pv 0) L2.pe_int (fun _ _ => rfl)) (L2.pe_op (op_binD .mod) (L2.pv 3) (L2.pe_callB c_len rfl T.g_len (by decide +kernel) (L2.pa_cons (L2.pe_ix L2.ix_list (L2.pv 0) L2.pe_int (fun _ _ => rfl)) L2.pa_nil))) (fun _ _ => rfl)) L2.pe_int))
    (L2.pss_cons (L2.ps_set (i := 5) S.nd rfl (Or.inl rfl) (L2.pe_op (op_binD .mod) (L2.pe_op (op_binD .add) (L2.pe_op (op_binD .add) (L2.pe_op (op_binD .mul) (L2.pv 4) (L2.pe_op (op_binD .add) L2.pe_int (L2.pe_op (op_binD .mul) L2.pe_int (L2.pv 3)))) (L2.pe_op (op_binD .mul) (L2.pe_op (op_binD .mul) L2.pe_int (L2.pv 3)) (L2.pv 3))) L2.pe_int) L2.pe_int))
    (L2.pss_one (L2.ps_ret (L2.pe_op (op_binD .mod) (L2.pe_op (op_binD .fdiv) (L2.pe_op (op_binD .mod) (L2.pe_op (op_binD .mul) (L2.pv 5) (L2.pv 5)) L2.pe_int) L2.pe_int) (L2.pv 1))))))))
theorem Txt.ok_check_place (T : Txt K mg) : FnG P w K mg base 2 (He.ga K "check_place") T.fd_check_place ["row", "value"] (spF K mg w_check_place_0) :=
  fn_pure T.F_check_place sc_check_place (by decide) fun cdv A outer s H p S => ssd_one (sd_if (pt_notD (pt_tru (pd_fn S (T.ok_is_integer) (by decide) T.D_is_integer (pda_cons (pd_var 1) (pda_cons (pd_int) (pda_cons (pd_bin S .sub (pd_call1 S c_len T.g_len (pd_var 0)) (pd_int)) (pda_nil))))))) (ssd_one (sd_never)) (ssd_nil))
theorem Txt.ok__law_row_drawn (T : Txt K mg) : FnG P w K mg base 2 (He.ga K "_law_row_drawn") T.fd__law_row_drawn ["_law_stream_here", "_law_most"] (spS K mg w__law_row_drawn_0) :=
  fn_str T.F__law_row_drawn sc__law_row_drawn (by decide) fun cdv A outer s H p S Z => ssd_cons (sd_par S (i := 2) (j := 3) rfl rfl (by decide) rfl rfl (pd_bin S .add (pd_int) (pd_fnS S Z (T.ok__law_draw) (by decide) T.D__law_draw (L2.pv 0) (pda_cons (pd_var 1) (pda_nil)))) (pd_fnS S Z (T.ok__law_draw) (by decide) T.D__law_draw (L2.pv 0) (pda_cons (pd_int) (pda_nil))) rfl)
    (ssd_cons (sd_set S (i := 4) rfl (Or.inr rfl) (pd_ix S (pd_lst S (pda_cons (pd_int) (pda_cons (pd_int) (pda_cons (pd_int) (pda_cons (pd_int) (pda_cons (pd_int) (pda_cons (pd_int) (pda_nil)))))))) (pd_var 3)))
    (ssd_cons (sd_own S (i := 5) rfl (Or.inr rfl) (pf_comp S (t := .nm 7) [("_law_k", 7)] (pi_rng1D (pd_var 2) T.g_range) (L2.blkOk_by (N := ["_law_stream_here", "_law_most", "_law_size", "_law_way", "_law_top", "_law_found", "_law_part", "_law_k"]) (sc := L2.defScope s__law_row_drawn) (by decide +kernel)) (by decide) (fun _ _ _ _ _ => L2.pg_name (i := 7) S.nd rfl (Or.inl rfl)) (fun _ _ _ _ _ S => pdts_nil) (fun _ _ _ _ _ S => pd_bin S .add (pd_int) (pd_fnS S Z (T.ok__law_draw) (by decide) T.D__law_draw (L2.pv 0) (pda_cons (pd_var 4) (pda_nil))))))
    (ssd_cons (sd_if (PDW.pt (pw_orD (pt_cmpD S .eq (pd_var 3) (pd_int)) (pw_or1D (pt_cmpD S .eq (pd_var 3) (pd_int))))) (ssd_one (sd_setI S 5 (L2.pg_sub (L2.pv 5) (PD.pe (pd_fnS S Z (T.ok__law_draw) (by decide) T.D__law_draw (L2.pv 0) (pda_cons (pd_var 2) (pda_nil)))) L2.set_list) (pd_bin S .add (pd_int) (pd_fnS S Z (T.ok__law_draw) (by decide) T.D__law_draw (L2.pv 0) (pda_cons (pd_int) (pda_nil)))))) (ssd_nil))
    (ssd_cons (sd_if (pt_cmpD S .eq (pd_var 3) (pd_int)) (ssd_cons (sd_set S (i := 6) rfl (Or.inr rfl) (pd_bin S .add (pd_int) (pd_fnS S Z (T.ok__law_draw) (by decide) T.D__law_draw (L2.pv 0) (pda_cons (pd_call2 S (c_min2 S.calm) T.g_min (pd_var 2) (pd_int)) (pda_nil)))))
    (ssd_one (sd_rel 5 (sd_own S (i := 5) rfl (Or.inr rfl) (pf_comp S (t := .nm 7) [("_law_k", 7)] (pi_rng1D (pd_var 2) T.g_range) (L2.blkOk_by (N := ["_law_stream_here", "_law_most", "_law_size", "_law_way", "_law_top", "_law_found", "_law_part", "_law_k"]) (sc := L2.defScope s__law_row_drawn) (by decide +kernel)) (by decide) (fun _ _ _ _ _ => L2.pg_name (i := 7) S.nd rfl (Or.inl rfl)) (fun _ _ _ _ _ S => pdts_nil) (fun _ _ _ _ _ S => pd_ix S (pd_var 5) (pd_bin S .mod (pd_var 7) (pd_var 6)))))))) (ssd_nil))
    (ssd_one (sd_rel 5 (sd_ret (pd_callT1 S c_tuple T.g_tuple (pd_var 5)))))))))
theorem Txt.ok_extent (T : Txt K mg) : FnG P w K mg base 3 (He.ga K "extent") T.fd_extent ["row", "first", "last"] (spF K mg w_extent_0) :=
  fn_pure T.F_extent sc_extent (by decide) fun cdv A outer s H p S => ssd_cons (sd_expr (pd_fn S (T.ok_check_place) (by decide) T.D_check_place (pda_cons (pd_var 0) (pda_cons (pd_var 1) (pda_nil)))))
    (ssd_cons (sd_expr (pd_fn S (T.ok_check_place) (by decide) T.D_check_place (pda_cons (pd_var 0) (pda_cons (pd_var 2) (pda_nil)))))
    (ssd_cons (sd_if (pt_cmpD S .lt (pd_var 2) (pd_var 1)) (ssd_one (sd_never)) (ssd_nil))
    (ssd_one (sd_ret (pd_fn S (T.ok_extent_of) (by decide) T.D_extent_of (pda_cons (pd_var 0) (pda_cons (pd_var 1) (pda_cons (pd_var 2) (pda_nil)))))))))
theorem Txt.ok_law (T : Txt K mg) (math : m_law (lawE 7 1) 0 (fun o _ => o = .rt (.bool true)) fun _ => False) : FnG P w K mg base 4 (He.ga K "law") T.fd_law ["_law_script"] (spLaw K) :=
  fn_law (i := 1) T.F_law sc_law (by decide) (by decide) T.ok__law_stream (by decide : 1 ≤ 3) (fun cdv A outer s H E => ⟨_, fun ts hr hg hx h => L2.pss_cons (L2.ps_set (i := 1) sc_law.nd rfl (Or.inl rfl) (pe_G T.ok__law_stream (hr.mono (by decide)) hg T.D__law_stream.mg T.D__law_stream.kp T.D__law_stream.bd hx (L2.pa_cons (L2.pv 0) L2.pa_nil))) h, fun p pe S Z => ssd_cons (sd_for S (t := .nm 2) (pi_seq (pd_lst S (pda_cons (pd_bin S .mul (pd_tup S (pda_cons (pd_int) (pda_nil))) (pd_int)) (pda_cons (pd_fnS S Z (T.ok__law_row_drawn) (by decide) T.D__law_row_drawn (L2.pv 1) (pda_cons (pd_int) (pda_nil))) (pda_cons (pd_fnS S Z (T.ok__law_row_drawn) (by decide) T.D__law_row_drawn (L2.pv 1) (pda_cons (pd_int) (pda_nil))) (pda_cons (pd_fnS S Z (T.ok__law_row_drawn) (by decide) T.D__law_row_drawn (L2.pv 1) (pda_cons (pd_int) (pda_nil))) (pda_nil))))))) (L2.pg_name (i := 2) S.nd rfl (Or.inl rfl)) (ssd_cons (sd_set S (i := 3) rfl (Or.inl rfl) (pd_call1 S (c_repr S) T.g_repr (pd_var 2)))
    (ssd_cons (sd_for S (t := .nm 4) (pi_rng1D (pd_call1 S c_len T.g_len (pd_var 2)) T.g_range) (L2.pg_name (i := 4) S.nd rfl (Or.inl rfl)) (ssd_cons (sd_set S (i := 5) rfl (Or.inl rfl) (pd_neg S (pd_int)))
    (ssd_one (sd_for S (t := .nm 6) (pi_rng2D (pd_var 4) (pd_call1 S c_len T.g_len (pd_var 2)) T.g_range) (L2.pg_name (i := 6) S.nd rfl (Or.inl rfl)) (ssd_cons (sd_set S (i := 5) rfl (Or.inl rfl) (pd_bin S .add (pd_bin S .add (pd_var 5) (pd_int)) (pd_ix S (pd_var 2) (pd_var 6))))
    (ssd_one (sd_if (pt_cmpD S .ne (pd_call1 S (c_repr S) T.g_repr (pd_lst S (pda_cons (pd_fn S (T.ok_extent) (by decide) T.D_extent (pda_cons (pd_var 2) (pda_cons (pd_var 4) (pda_cons (pd_var 6) (pda_nil))))) (pda_cons (pd_fn S (T.ok_extent) (by decide) T.D_extent (pda_cons (pd_var 2) (pda_cons (pd_var 4) (pda_cons (pd_var 6) (pda_nil))))) (pda_nil))))) (pd_call1 S (c_repr S) T.g_repr (pd_lst S (pda_cons (pd_var 5) (pda_cons (pd_var 5) (pda_nil)))))) (ssd_one (sd_ret (pd_bl))) (ssd_nil))))))))
    (ssd_one (sd_if (pt_cmpD S .ne (pd_call1 S (c_repr S) T.g_repr (pd_var 2)) (pd_var 3)) (ssd_one (sd_ret (pd_bl))) (ssd_nil))))))
    (ssd_one (sd_ret (pd_bl)))⟩) math
end
def d_is_integer : He.DefD := ⟨("is_integer", none), "is_integer", "is_integer", L2.defArgs s_is_integer, L2.defBody s_is_integer, L2.defScope s_is_integer, [], []⟩
def d_check_place : He.DefD := ⟨("check_place", none), "check_place", "check_place", L2.defArgs s_check_place, L2.defBody s_check_place, L2.defScope s_check_place, [], []⟩
def d_extent_of : He.DefD := ⟨("extent_of", none), "extent_of", "extent_of", L2.defArgs s_extent_of, L2.defBody s_extent_of, L2.defScope s_extent_of, [], []⟩
def d_extent : He.DefD := ⟨("extent", none), "extent", "extent", L2.defArgs s_extent, L2.defBody s_extent, L2.defScope s_extent, [], []⟩
def d__law_stream : He.DefD := ⟨("_law_stream", none), "_law_stream", "_law_stream", L2.defArgs s__law_stream, L2.defBody s__law_stream, L2.defScope s__law_stream, [], []⟩
def d__law_draw : He.DefD := ⟨("_law_draw", none), "_law_draw", "_law_draw", L2.defArgs s__law_draw, L2.defBody s__law_draw, L2.defScope s__law_draw, [], []⟩
def d__law_row_drawn : He.DefD := ⟨("_law_row_drawn", none), "_law_row_drawn", "_law_row_drawn", L2.defArgs s__law_row_drawn, L2.defBody s__law_row_drawn, L2.defScope s__law_row_drawn, [], []⟩
def d_law : He.DefD := ⟨("law", none), "law", "law", L2.defArgs s_law, L2.defBody s_law, L2.defScope s_law, [], []⟩
def fnl : List He.DefD := [d_is_integer, d_check_place, d_extent_of, d_extent, d__law_stream, d__law_draw, d__law_row_drawn, d_law]
def fal : List He.Fa := [.glo "is_integer", .glo "check_place", .glo "extent_of", .glo "extent", .glo "_law_stream", .glo "_law_draw", .glo "_law_row_drawn", .glo "law", .free "abs", .free "bool", .free "int", .free "isinstance", .free "len", .free "min", .free "range", .free "repr", .free "sum", .free "tuple"]
abbrev R : PySem.W.OpenRow := PySem.W.OpenLaw.row PySem.Challenge.rw_wrapwidths_k03_extents_of_stretches
abbrev hk : PySem.W.Hook := He.hookD 4 fal fnl
def ob (s : PySem.W.SharedT) : He.AlD := He.obsDG 4 fal fnl (HandSHeadRun.getT s)
theorem ob_eq (s : PySem.W.SharedT) : ob s = hk.obs s.abs := He.obsDG_eq (HandSHeadRun.getT_eq s)
theorem run (w : World) : HandSHeadRun.RunEq R (PySem.W.view R.prog [13]) hk ob 1240 ["WrapError", "NoStretch", "NoPlace", "is_integer", "check_place", "extent_of", "extent", "_law_stream", "_law_draw", "_law_row_drawn"] w := by
  intro os
  kernel_rfl
theorem facts {P : Program} {w : World} {K : PySem.W.Frag} {h : Heap} {mg : Str → Option Value} {f : Addr} (X : K.In h) (G : h.Ns mainGlobals mg) (hfa : mg ("law" : Str) = some (.ref f)) (c : He.SaysD fal fnl K)
    (math : m_law (lawE 7 1) 0 (fun o _ => o = .rt (.bool true)) fun _ => False) :
    ∃ fd : FuncData, (∀ (s : Shared) (v : Value), BindsTo s fd ⟨[v], []⟩ [("_law_script", v)]) ∧ ∀ base : Heap, K.In base → base.Ns mainGlobals mg → FnG P w K mg base 4 f fd ["_law_script"] (spLaw K) := by
  obtain ⟨fd_is_integer, F_is_integer⟩ := c.def_ 0 (d := d_is_integer) rfl
  have G_is_integer : mg "is_integer" = some (.ref (He.ga K "is_integer")) := He.glo_ok X G (c.fact 0 (f := .glo "is_integer") rfl)
  have B_is_integer : L2.Binds K fd_is_integer ["value", "low", "high"] [] := L2.FunD.bindsN F_is_integer fun _ _ _ _ _ _ us hl => match us, hl with | [_, _, _], _ => rfl
  obtain ⟨fd_check_place, F_check_place⟩ := c.def_ 1 (d := d_check_place) rfl
  have G_check_place : mg "check_place" = some (.ref (He.ga K "check_place")) := He.glo_ok X G (c.fact 1 (f := .glo "check_place") rfl)
  have B_check_place : L2.Binds K fd_check_place ["row", "value"] [] := L2.FunD.bindsN F_check_place fun _ _ _ _ _ _ us hl => match us, hl with | [_, _], _ => rfl
  obtain ⟨fd_extent_of, F_extent_of⟩ := c.def_ 2 (d := d_extent_of) rfl
  have G_extent_of : mg "extent_of" = some (.ref (He.ga K "extent_of")) := He.glo_ok X G (c.fact 2 (f := .glo "extent_of") rfl)
  have B_extent_of : L2.Binds K fd_extent_of ["row", "first", "last"] [] := L2.FunD.bindsN F_extent_of fun _ _ _ _ _ _ us hl => match us, hl with | [_, _, _], _ => rfl
  obtain ⟨fd_extent, F_extent⟩ := c.def_ 3 (d := d_extent) rfl
  have G_extent : mg "extent" = some (.ref (He.ga K "extent")) := He.glo_ok X G (c.fact 3 (f := .glo "extent") rfl)
  have B_extent : L2.Binds K fd_extent ["row", "first", "last"] [] := L2.FunD.bindsN F_extent fun _ _ _ _ _ _ us hl => match us, hl with | [_, _, _], _ => rfl
  obtain ⟨fd__law_stream, F__law_stream⟩ := c.def_ 4 (d := d__law_stream) rfl
  have G__law_stream : mg "_law_stream" = some (.ref (He.ga K "_law_stream")) := He.glo_ok X G (c.fact 4 (f := .glo "_law_stream") rfl)
  have B__law_stream : L2.Binds K fd__law_stream ["_law_script"] [] := L2.FunD.bindsN F__law_stream fun _ _ _ _ _ _ us hl => match us, hl with | [_], _ => rfl
  obtain ⟨fd__law_draw, F__law_draw⟩ := c.def_ 5 (d := d__law_draw) rfl
  have G__law_draw : mg "_law_draw" = some (.ref (He.ga K "_law_draw")) := He.glo_ok X G (c.fact 5 (f := .glo "_law_draw") rfl)
  have B__law_draw : L2.Binds K fd__law_draw ["_law_stream_here", "_law_many"] [] := L2.FunD.bindsN F__law_draw fun _ _ _ _ _ _ us hl => match us, hl with | [_, _], _ => rfl
  obtain ⟨fd__law_row_drawn, F__law_row_drawn⟩ := c.def_ 6 (d := d__law_row_drawn) rfl
  have G__law_row_drawn : mg "_law_row_drawn" = some (.ref (He.ga K "_law_row_drawn")) := He.glo_ok X G (c.fact 6 (f := .glo "_law_row_drawn") rfl)
  have B__law_row_drawn : L2.Binds K fd__law_row_drawn ["_law_stream_here", "_law_most"] [] := L2.FunD.bindsN F__law_row_drawn fun _ _ _ _ _ _ us hl => match us, hl with | [_, _], _ => rfl
  obtain ⟨fd_law, F_law⟩ := c.def_ 7 (d := d_law) rfl
  have G_law : mg "law" = some (.ref (He.ga K "law")) := He.glo_ok X G (c.fact 7 (f := .glo "law") rfl)
  have B_law : L2.Binds K fd_law ["_law_script"] [] := L2.FunD.bindsN F_law fun _ _ _ _ _ _ us hl => match us, hl with | [_], _ => rfl
  have T : Txt K mg := ⟨fd_is_integer, F_is_integer, ⟨G_is_integer, F_is_integer.kp, B_is_integer⟩, fd_check_place, F_check_place, ⟨G_check_place, F_check_place.kp, B_check_place⟩, fd_extent_of, F_extent_of, ⟨G_extent_of, F_extent_of.kp, B_extent_of⟩, fd_extent, F_extent, ⟨G_extent, F_extent.kp, B_extent⟩, fd__law_stream, F__law_stream, ⟨G__law_stream, F__law_stream.kp, B__law_stream⟩, fd__law_draw, F__law_draw, ⟨G__law_draw, F__law_draw.kp, B__law_draw⟩, fd__law_row_drawn, F__law_row_drawn, ⟨G__law_row_drawn, F__law_row_drawn.kp, B__law_row_drawn⟩, fd_law, F_law, ⟨G_law, F_law.kp, B_law⟩, He.free_ok X G (c.fact 8 (f := .free "abs") rfl), He.free_ok X G (c.fact 9 (f := .free "bool") rfl), He.free_ok X G (c.fact 10 (f := .free "int") rfl), He.free_ok X G (c.fact 11 (f := .free "isinstance") rfl), He.free_ok X G (c.fact 12 (f := .free "len") rfl), He.free_ok X G (c.fact 13 (f := .free "min") rfl), He.free_ok X G (c.fact 14 (f := .free "range") rfl), He.free_ok X G (c.fact 15 (f := .free "repr") rfl), He.free_ok X G (c.fact 16 (f := .free "sum") rfl), He.free_ok X G (c.fact 17 (f := .free "tuple") rfl)⟩
  have e := hfa.symm.trans T.D_law.mg
  cases e
  have b := L2.FunD.bindsA (ps := ["_law_script"]) T.F_law fun _ _ _ _ _ _ us hl => match us, hl with | [_], _ => rfl
  exact ⟨T.fd_law, fun s v => b s [v] rfl, fun base _ _ => T.ok_law math⟩
end Wk03
open PySem PySem.W PySem.Calls PyProof.Rows
theorem Wk03.end_ (math : Wk03.m_law (DL.lawE 7 1) 0 (fun o _ => o = .rt (.bool true)) fun _ => False) : PySem.Challenge.rw_wrapwidths_k03_extents_of_stretches.Holds := by
  w_on; o_law
  refine HandSHeadRun.head_any (r := OpenLaw.row PySem.Challenge.rw_wrapwidths_k03_extents_of_stretches) (q := view (OpenLaw.row PySem.Challenge.rw_wrapwidths_k03_extents_of_stretches).prog [13]) (H := Wk03.hk) (ob := Wk03.ob) (M := 1240) (loose := ["WrapError", "NoStretch", "NoPlace", "is_integer", "check_place", "extent_of", "extent", "_law_stream", "_law_draw", "_law_row_drawn"])
    (d := HandSHeadRun.topDef (OpenLaw.row PySem.Challenge.rw_wrapwidths_k03_extents_of_stretches).prog 13) (kwd := []) Wk03.ob_eq
    (by kernel_rfl) (fun s => by kernel_rfl) Wk03.run (by kernel_rfl) (by kernel_rfl) (by kernel_rfl) (by rfl) (by first | assumption | decide +kernel) (by decide +kernel) ⟨rfl, rfl, rfl, rfl, rfl, by decide +kernel⟩ ?hw ?hc
  case hw => w_witness2
  case hc =>
    refine DL.walk_law (l := PySem.Challenge.rw_wrapwidths_k03_extents_of_stretches) (k := 4) (x := "_law_script") rfl (by kernel_rfl) ⟨rfl, by decide, by decide⟩ ?F
    intro w mg f h Y G hmg0
    obtain ⟨K, KX, c⟩ := Y
    have hmg : mg ("law" : PySem.Str) = some (.ref f) := by
      have e : (HandSHeadRun.topDef (OpenLaw.row PySem.Challenge.rw_wrapwidths_k03_extents_of_stretches).prog 13).name = ("law" : PySem.Str) := by kernel_rfl
      rw [← e]
      exact hmg0
    obtain ⟨fd, hb, hF⟩ := Wk03.facts (P := (PySem.Challenge.rw_wrapwidths_k03_extents_of_stretches).prog) (w := w) KX G hmg c math
    exact ⟨K, fd, KX, hb, hF⟩

end

section
/-! MA: how words are read: what they give, with at most so many draws; the steps as rewrites. -/
namespace DL
open PySem

/-- m gives what Q says, drawing at most n times -/
def Ok {α : Type} (m : W α) (n : Nat) (Q : α → Prop) : Prop := ∀ c (P : α → Nat → Prop) (X : Exn → Prop), c + n < 2 ^ 40 → (∀ a c', c' ≤ c + n → Q a → P a c') → m c P X
section
variable {α β : Type} {m : W α} {n n' k : Nat} {Q R : α → Prop}
theorem Ok.ret {a : α} (h : Q a) : Ok (ret a) n Q := fun c P X _ k => k a c (by omega) h
theorem Ok.bnd {f : α → W β} {S : β → Prop} (h : Ok m n Q) (hf : ∀ a, Q a → Ok (f a) k S) : Ok (bnd m f) (n + k) S := fun c P X hc kk =>
  h c _ X (by omega) fun a c' hc' q => hf a q c' P X (by omega) fun b c'' h2 s => kk b c'' (by omega) s
theorem Ok.bnd' {f : α → W β} {S : β → Prop} (t : Nat) (h : Ok m n Q) (hn : n ≤ t) (hf : ∀ a, Q a → Ok (f a) (t - n) S) : Ok (DL.bnd m f) t S := by
  have := Ok.bnd h hf
  rw [Nat.add_sub_cancel' hn] at this
  exact this
theorem Ok.mono (h : Ok m n Q) (hn : n ≤ n') (hq : ∀ a, Q a → R a) : Ok m n' R := fun c P X hc kk => h c P X (by omega) fun a c' h1 h2 => kk a c' (by omega) (hq a h2)
theorem Ok.le (h : Ok m n Q) (hn : n ≤ n') : Ok m n' Q := h.mono hn fun _ h => h
theorem Ok.imp (h : Ok m n Q) (hq : ∀ a, Q a → R a) : Ok m n R := h.mono (Nat.le_refl _) hq
theorem Ok.grd {c : Prop} (hc : c) (h : Ok m n Q) : Ok (grd c m) n Q := by rw [grd_pos hc]; exact h
theorem Ok.eq {m' : W α} (e : m = m') (h : Ok m' n Q) : Ok m n Q := by rw [e]; exact h
theorem Ok.run {P : α → Prop} {X : Exn → Prop} (h : Ok m n Q) (hn : n < 2 ^ 40) (hq : ∀ a, Q a → P a) : m 0 (fun a _ => P a) X := h 0 _ X (by omega) fun a _ _ q => hq a q
theorem Ok.draw {many : Int} (h0 : 0 < many) (h1 : many < 1073741824) : Ok (fDraw [.int many]) (n + 1) (fun d => ∃ r : Int, d = .int r ∧ 0 ≤ r ∧ r < many) := fun c P X hc k =>
  ⟨⟨h0, h1, by omega⟩, fun r a b => k _ _ (by omega) ⟨r, rfl, a, b⟩⟩
theorem Ok.drawB {many : Int} {f : D → W β} {S : β → Prop} (h0 : 0 < many) (h1 : many < 1073741824) (hf : ∀ r : Int, 0 ≤ r → r < many → Ok (f (.int r)) n S) : Ok (DL.bnd (fDraw [.int many]) f) (n + 1) S := by
  refine Ok.bnd' (n + 1) (Ok.draw (n := 0) h0 h1) (by omega) ?_
  rintro a ⟨r, rfl, h2, h3⟩
  exact hf r h2 h3
theorem Ok.noX (h : Ok m n Q) : Ok (noX m) n Q := fun c P X hc k => h c P _ hc k
theorem Ok.ite {c : Prop} [Decidable c] {a b : W α} (ha : c → Ok a n Q) (hb : ¬ c → Ok b n Q) : Ok (if c then a else b) n Q := by
  split
  · exact ha ‹_›
  · exact hb ‹_›
theorem bnd_ite {c : Prop} [Decidable c] (a b : W α) (f : α → W β) : DL.bnd (if c then a else b) f = if c then DL.bnd a f else DL.bnd b f := by split <;> rfl
theorem bnd_assoc {γ : Type} (m : W α) (f : α → W β) (g : β → W γ) : DL.bnd (DL.bnd m f) g = DL.bnd m fun a => DL.bnd (f a) g := id rfl
theorem bnd_id (m : W α) : DL.bnd m DL.ret = m := id rfl
theorem bnd_stk (f : α → W β) : DL.bnd stuck f = stuck := id rfl
end

/-! ### loops -/
/-- a walk: the invariant by the turn -/
theorem forL_ok {tg : Tg} {s : XS} {b : Nat} {Q : Out → Prop} (I : Nat → Env → Prop) : ∀ (ds : List D) (i : Nat) (E : Env), I i E →
    (∀ j d E, ds[j]? = some d → I (i + j) E → ∃ E1, tg.put d E = some E1 ∧ Ok (s E1) b fun o => match o with | .nx E' => I (i + j + 1) E' | .ct E' => I (i + j + 1) E' | .bk E' => Q (.nx E') | .rt d => Q (.rt d)) →
    (∀ E, I (i + ds.length) E → Q (.nx E)) → Ok (forL tg s ds E) (ds.length * b) Q
  | [], i, E, h0, _, hd => by
    show Ok (ret (Out.nx E)) _ _
    exact Ok.ret (hd E h0)
  | d :: ds, i, E, h0, hs, hd => by
    obtain ⟨E1, e1, h1⟩ := hs 0 d E rfl h0
    show Ok (match tg.put d E with | none => stuck | some E1 => bnd (s E1) fun o => match o with
      | .nx E' => forL tg s ds E' | .ct E' => forL tg s ds E' | .bk E' => ret (.nx E') | .rt d => ret (.rt d)) _ _
    rw [e1, List.length_cons, Nat.succ_mul, Nat.add_comm]
    have rest : ∀ E', I (i + 1) E' → Ok (forL tg s ds E') (ds.length * b) Q := fun E' h' => forL_ok I ds (i + 1) E' h'
      (fun j d E hj hI => by
        have e : i + 1 + j = i + (j + 1) := by omega
        rw [e] at hI ⊢
        exact hs (j + 1) d E hj hI) fun E hI => hd E (by
        have e : i + 1 + ds.length = i + (d :: ds).length := by simp only [List.length_cons]; omega
        rw [← e]; exact hI)
    refine Ok.bnd h1 fun o ho => ?_
    cases o with
    | nx E' => exact rest E' ho
    | ct E' => exact rest E' ho
    | bk E' => exact Ok.ret ho
    | rt d => exact Ok.ret ho
theorem for_ok {tg : Tg} {s : XS} {ds : List D} {E : Env} {b t : Nat} {Q : Out → Prop} (I : Nat → Env → Prop) (h0 : I 0 E) (ht : ds.length * b ≤ t)
    (hs : ∀ j d E, ds[j]? = some d → I j E → ∃ E1, tg.put d E = some E1 ∧ Ok (s E1) b fun o => match o with | .nx E' => I (j + 1) E' | .ct E' => I (j + 1) E' | .bk E' => Q (.nx E') | .rt d => Q (.rt d))
    (hd : ∀ E, I ds.length E → Q (.nx E)) : Ok (forL tg s ds E) t Q :=
  (forL_ok (b := b) (Q := Q) I ds 0 E h0 (fun j d E h1 h2 => by rw [Nat.zero_add] at h2 ⊢; exact hs j d E h1 h2) fun E h => hd E (by rw [Nat.zero_add] at h; exact h)).le ht
/-- the new list: each item's own words -/
theorem comp_ok {tg : Tg} {t : XT} {e : XE} {b : Nat} {E : Env} {G : D → Prop} : ∀ (ds acc : List D), acc.length + ds.length ≤ 1000000 → (∀ d ∈ acc, G d) →
    (∀ d ∈ ds, ∃ E1, tg.put d E = some E1 ∧ t E1 = ret true ∧ Ok (e E1) b G) → Ok (compL tg t e ds acc E) (ds.length * b) fun ys => ys.length = acc.length + ds.length ∧ ∀ d ∈ ys, G d
  | [], acc, _, ha, _ => Ok.ret ⟨rfl, ha⟩
  | d :: ds, acc, hl, ha, hs => by
    obtain ⟨E1, e1, e2, h1⟩ := hs d (.head _)
    show Ok (match tg.put d E with | none => stuck | some E1 => bnd (t E1) fun c => if c = true then bnd (e E1) fun y => grd (small acc.length) (compL tg t e ds (acc ++ [y]) E) else compL tg t e ds acc E) _ _
    simp only [e1, e2, bnd_ret, if_true]
    rw [List.length_cons, Nat.succ_mul, Nat.add_comm]
    simp only [List.length_cons] at hl
    refine Ok.bnd h1 fun y hy => Ok.grd (by unfold small; omega) ?_
    refine (comp_ok ds (acc ++ [y]) (by rw [List.length_append, List.length_singleton]; omega) ?_ fun d hd => hs d (.tail _ hd)).imp ?_
    · intro d hd
      rcases List.mem_append.mp hd with h | h
      · exact ha d h
      · rw [List.mem_singleton.mp h]; exact hy
    · rintro ys ⟨h2, h3⟩
      exact ⟨by rw [h2, List.length_append, List.length_cons, List.length_nil]; omega, h3⟩
/-- .. all items pure: the list itself -/
theorem comp_map {tg : Tg} {t : XT} {e : XE} {E : Env} (f : D → D) : ∀ (ds acc : List D), acc.length + ds.length ≤ 1000000 →
    (∀ d ∈ ds, ∃ E1, tg.put d E = some E1 ∧ t E1 = ret true ∧ e E1 = ret (f d)) → compL tg t e ds acc E = ret (acc ++ ds.map f)
  | [], acc, _, _ => by simp [compL]
  | d :: ds, acc, hl, hs => by
    obtain ⟨E1, e1, e2, e3⟩ := hs d (.head _)
    simp only [List.length_cons] at hl
    have hs' : small acc.length := by unfold small; omega
    show (match tg.put d E with | none => stuck | some E1 => bnd (t E1) fun c => if c = true then bnd (e E1) fun y => grd (small acc.length) (compL tg t e ds (acc ++ [y]) E) else compL tg t e ds acc E) = _
    simp only [e1, e2, e3, bnd_ret, if_true, grd_pos hs']
    rw [comp_map f ds (acc ++ [f d]) (by simp only [List.length_append, List.length_singleton]; omega) fun d hd => hs d (.tail _ hd)]
    simp
/-- .. with a test -/
theorem comp_filt {tg : Tg} {t : XT} {e : XE} {E : Env} (q : D → Bool) (f : D → D) : ∀ (ds acc : List D), acc.length + ds.length ≤ 1000000 →
    (∀ d ∈ ds, ∃ E1, tg.put d E = some E1 ∧ t E1 = ret (q d) ∧ (q d = true → e E1 = ret (f d))) → compL tg t e ds acc E = ret (acc ++ (ds.filter q).map f)
  | [], acc, _, _ => by simp [compL]
  | d :: ds, acc, hl, hs => by
    obtain ⟨E1, e1, e2, e3⟩ := hs d (.head _)
    simp only [List.length_cons] at hl
    have hs' : small acc.length := by unfold small; omega
    show (match tg.put d E with | none => stuck | some E1 => bnd (t E1) fun c => if c = true then bnd (e E1) fun y => grd (small acc.length) (compL tg t e ds (acc ++ [y]) E) else compL tg t e ds acc E) = _
    simp only [e1, e2, bnd_ret]
    cases hq : q d with
    | true =>
      simp only [if_true, e3 hq, bnd_ret, grd_pos hs']
      rw [comp_filt q f ds (acc ++ [f d]) (by simp only [List.length_append, List.length_singleton]; omega) fun d hd => hs d (.tail _ hd), List.filter_cons_of_pos hq]
      simp
    | false =>
      rw [if_neg (by decide), comp_filt q f ds acc (by omega) fun d hd => hs d (.tail _ hd), List.filter_cons_of_neg (by rw [hq]; decide)]
/-- while, with a measure -/
theorem while_ok {t : XT} {s : XS} {b : Nat} {Q : Out → Prop} (I : Nat → Env → Prop) (ht : ∀ n E, I n E → ∃ c, t E = ret c ∧ (c = true → 0 < n ∧ Ok (s E) b fun o => match o with | .nx E' => ∃ n', n' < n ∧ I n' E' | .ct E' => ∃ n', n' < n ∧ I n' E' | .bk E' => Q (.nx E') | .rt d => Q (.rt d)) ∧ (c = false → Q (.nx E))) :
    ∀ (n : Nat) (E : Env), I n E → ∀ (N : Nat), n < N → Ok (whileL t s N E) (n * b) Q
  | n, E, h0, 0, hN => by omega
  | n, E, h0, N + 1, hN => by
    obtain ⟨c, e, h1, h2⟩ := ht n E h0
    show Ok (bnd (t E) fun c => if c = true then bnd (s E) fun o => match o with
      | .nx E' => whileL t s N E' | .ct E' => whileL t s N E' | .bk E' => ret (.nx E') | .rt d => ret (.rt d) else ret (.nx E)) _ _
    rw [e, bnd_ret]
    cases c with
    | false =>
      rw [if_neg (by decide)]
      exact Ok.ret (h2 rfl)
    | true =>
      rw [if_pos rfl]
      obtain ⟨hp, h1⟩ := h1 rfl
      have rest : ∀ E', (∃ n', n' < n ∧ I n' E') → Ok (whileL t s N E') ((n - 1) * b) Q := by
        rintro E' ⟨n', hn, hI⟩
        exact (while_ok I ht n' E' hI N (by omega)).le (Nat.mul_le_mul_right b (by omega))
      have e2 : n * b = b + (n - 1) * b := by
        have : n = (n - 1) + 1 := by omega
        rw [this, Nat.succ_mul, Nat.add_comm]
        rfl
      rw [e2]
      refine Ok.bnd h1 fun o ho => ?_
      cases o with
      | nx E' => exact rest E' ho
      | ct E' => exact rest E' ho
      | bk E' => exact Ok.ret ho
      | rt d => exact Ok.ret ho
theorem sWhile_ok {t : XT} {s : XS} {b T : Nat} {Q : Out → Prop} {E : Env} (I : Nat → Env → Prop) (n : Nat) (h0 : I n E) (hT : n * b ≤ T)
    (ht : ∀ n E, I n E → ∃ c, t E = ret c ∧ (c = true → 0 < n ∧ Ok (s E) b fun o => match o with | .nx E' => ∃ n', n' < n ∧ I n' E' | .ct E' => ∃ n', n' < n ∧ I n' E' | .bk E' => Q (.nx E') | .rt d => Q (.rt d)) ∧ (c = false → Q (.nx E))) : Ok (sWhile t s E) T Q := by
  have h := (while_ok I ht n E h0 (n + 1) (Nat.lt_succ_self n)).le hT
  intro c P X hc k
  exact ⟨n + 1, h c P X hc k⟩
/-! ### the steps -/
section
variable {E : Env}
theorem x_var (i : Nat) : eVar i E = match E[i]? with | some (.val d) => ret d | _ => stuck := id rfl
theorem x_con (d : D) : eCon d E = ret d := id rfl
theorem x_bin (o : Op) (a b : XE) : eBin o a b E = bnd (a E) fun x => bnd (b E) fun y => opBin o x y := id rfl
theorem x_neg (a : XE) : eNeg a E = bnd (a E) opNeg := id rfl
theorem x_cmp (o : Cmp) (a b : XE) : eCmp o a b E = bnd (a E) fun x => bnd (b E) fun y => bnd (opCmp o x y) fun c => ret (.bool c) := id rfl
theorem x_chain (o o' : Cmp) (a b c : XE) : eChain o o' a b c E = bnd (a E) fun x => bnd (b E) fun y => bnd (opCmp o x y) fun k => if k = true then bnd (c E) fun z => bnd (opCmp o' y z) fun k' => ret (.bool k') else ret (.bool false) := id rfl
theorem x_tTru (a : XE) : tTru a E = bnd (a E) tru := id rfl
theorem x_tNot (t : XT) : tNot t E = bnd (t E) fun c => ret (!c) := id rfl
theorem x_tAnd (t u : XT) : tAnd t u E = bnd (t E) fun c => if c = true then u E else ret false := id rfl
theorem x_tOr (t u : XT) : tOr t u E = bnd (t E) fun c => if c = true then ret true else u E := id rfl
theorem x_tBool (a : XE) : tBool a E = bnd (a E) fun d => match d with | .bool b => ret b | _ => stuck := id rfl
theorem x_tYes : tYes E = ret true := id rfl
theorem x_not (a : XE) : eNot a E = bnd (a E) fun x => bnd (tru x) fun c => ret (.bool (!c)) := id rfl
theorem x_and (a b : XE) : eAnd a b E = bnd (a E) fun x => bnd (tru x) fun c => if c = true then b E else ret x := id rfl
theorem x_or (a b : XE) : eOr a b E = bnd (a E) fun x => bnd (tru x) fun c => if c = true then ret x else b E := id rfl
theorem x_if (t : XT) (a b : XE) : eIf t a b E = bnd (t E) fun c => if c = true then a E else b E := id rfl
theorem x_b1 (f : B1) (a : XE) : eB1 f a E = bnd (a E) (bi1 f) := id rfl
theorem x_b2 (f : B2) (a b : XE) : eB2 f a b E = bnd (a E) fun x => bnd (b E) fun y => bi2 f x y := id rfl
theorem x_is (t : Ty) (a : XE) : eIs t a E = bnd (a E) fun x => ret (.bool (isTy t x)) := id rfl
theorem x_idx (a b : XE) : eIdx a b E = bnd (a E) fun x => bnd (b E) fun y => opIdx x y := id rfl
theorem x_oNone : oNone E = ret none := id rfl
theorem x_oSome (a : XE) : oSome a E = bnd (a E) fun x => bnd (asInt x) fun i => ret (some i) := id rfl
theorem x_cut (a : XE) (lo hi : XO) : eCut a lo hi E = bnd (a E) fun x => bnd (lo E) fun l => bnd (hi E) fun h => opCut x l h := id rfl
theorem x_aNil : aNil E = ret [] := id rfl
theorem x_aCons (a : XE) (r : XA) : aCons a r E = bnd (a E) fun x => bnd (r E) fun xs => ret (x :: xs) := id rfl
theorem x_tup (a : XA) : eTup a E = bnd (a E) fun xs => grd (small xs.length) (ret (.tuple xs)) := id rfl
theorem x_lst (a : XA) : eLst a E = bnd (a E) fun xs => grd (small xs.length) (ret (.list xs)) := id rfl
theorem x_call (f : Fn) (a : XA) : eCall f a E = bnd (a E) f := id rfl
theorem x_callS (f : Fn) (s : Nat) (a : XA) : eCallS f s a E = match E[s]? with | some .stm => bnd (a E) f | _ => stuck := id rfl
theorem x_iSeq (a : XE) : iSeq a E = bnd (a E) itemsOf := id rfl
theorem x_iRng1 (a : XE) : iRng1 a E = bnd (a E) fun x => bnd (asInt x) fun n => grd (rngOk 0 n) (ret (rng 0 n)) := id rfl
theorem x_iRng2 (a b : XE) : iRng2 a b E = bnd (a E) fun x => bnd (b E) fun y => bnd (asInt x) fun n => bnd (asInt y) fun m => grd (rngOk n m) (ret (rng n m)) := id rfl
theorem x_comp (it : XA) (tg : Tg) (t : XT) (e : XE) (vs : List Nat) : eComp it tg t e vs E = bnd (it E) fun ds => bnd (noX (compL tg t e ds [] (wipeE E vs))) fun ys => ret (.list ys) := id rfl
theorem x_bor (i : Nat) (e : XE) : eBor i e E = match E[i]? with | some (.own ds) => bnd (e (E.set i (.val (.list ds)))) fun d => grd (flat d = true) (ret d) | _ => e E := id rfl
theorem x_tBor (i : Nat) (t : XT) : tBor i t E = match E[i]? with | some (.own ds) => t (E.set i (.val (.list ds))) | _ => t E := id rfl
theorem x_seq (a b : XS) : sSeq a b E = bnd (a E) fun o => match o with | .nx E' => b E' | o => ret o := id rfl
theorem x_skip : sSkip E = ret (.nx E) := id rfl
theorem x_asg (i : Nat) (e : XE) : sAsg i e E = bnd (e E) fun d => ret (.nx (E.set i (.val d))) := id rfl
theorem x_put (tg : Tg) (e : XE) : sPut tg e E = bnd (e E) fun d => match tg.put d E with | some E' => ret (.nx E') | none => stuck := id rfl
theorem x_par (i j : Nat) (a b : XE) : sPar i j a b E = bnd (a E) fun x => bnd (b E) fun y => ret (.nx ((E.set i (.val x)).set j (.val y))) := id rfl
theorem x_parO (i j : Nat) (a b : XE) : sParO i j a b E = bnd (a E) fun x => bnd (b E) fun y => match x with | .list ds => ret (.nx ((E.set i (.own ds)).set j (.val y))) | _ => stuck := id rfl
theorem x_own (i : Nat) (e : XE) : sOwn i e E = bnd (e E) fun d => match d with | .list ds => ret (.nx (E.set i (.own ds))) | _ => stuck := id rfl
theorem x_rel (i : Nat) (s : XS) : sRel i s E = match E[i]? with | some (.own ds) => s (E.set i (.val (.list ds))) | _ => s E := id rfl
theorem x_app (i : Nat) (e : XE) : sApp i e E = match E[i]? with | some (.own ds) => bnd (e E) fun d => grd (small ds.length) (ret (.nx (E.set i (.own (ds ++ [d]))))) | _ => stuck := id rfl
theorem x_setI (i : Nat) (k e : XE) : sSet i k e E = match E[i]? with
  | some (.own ds) => bnd (e E) fun d => bnd (k E) fun n => match n with
    | .int z => match L2.ixN ds.length z with
      | some j => ret (.nx (E.set i (.own (ds.set j d))))
      | none => stuck
    | _ => stuck
  | _ => stuck := id rfl
theorem x_sIf (t : XT) (a b : XS) : sIf t a b E = bnd (t E) fun c => if c = true then a E else b E := id rfl
theorem x_for (it : XA) (tg : Tg) (s : XS) : sFor it tg s E = bnd (it E) fun ds => forL tg s ds E := id rfl
theorem x_ret (e : XE) : sRet e E = bnd (e E) fun d => ret (.rt d) := id rfl
theorem x_retN : sRetN E = ret (.rt .none) := id rfl
theorem x_expr (e : XE) : sExpr e E = bnd (e E) fun _ => ret (.nx E) := id rfl
theorem x_brk : sBreak E = ret (.bk E) := id rfl
theorem x_cnt : sCont E = ret (.ct E) := id rfl
theorem x_fn (k n : Nat) (s : XS) (ds : List D) : fn k n s ds = grd (ds.length = k) (bnd (s (start n (ds.map .val))) endOf) := id rfl
theorem x_fnS (k n : Nat) (s : XS) (ds : List D) : fnS k n s ds = grd (ds.length + 1 = k) (bnd (s (start n (.stm :: ds.map .val))) endOf) := id rfl
theorem x_put1 (i : Nat) (d : D) (E : Env) : Tg.put (.nm i) d E = some (E.set i (.val d)) := id rfl
end
/-- ints -/
theorem o_add (a b : Int) : opBin .add (.int a) (.int b) = ret (.int (a + b)) := id rfl
theorem o_sub (a b : Int) : opBin .sub (.int a) (.int b) = ret (.int (a - b)) := id rfl
theorem o_mul (a b : Int) : opBin .mul (.int a) (.int b) = grd (mulOk a b) (ret (.int (a * b))) := id rfl
theorem o_mod (a b : Int) : opBin .mod (.int a) (.int b) = grd (0 < b) (ret (.int (a % b))) := id rfl
theorem o_fdiv (a b : Int) : opBin .fdiv (.int a) (.int b) = grd (0 < b ∧ b < 1073741824) (ret (.int (a / b))) := id rfl
theorem o_neg (a : Int) : opNeg (.int a) = ret (.int (-a)) := id rfl
theorem eqv_int (a b : Int) : opEq (.int a) (.int b) = ret (decide (a = b)) := by
  unfold opEq
  rw [grd_pos (eqOk_of rfl rfl)]
  rfl
theorem o_eq (a b : Int) : opCmp .eq (.int a) (.int b) = ret (decide (a = b)) := eqv_int a b
theorem o_ne (a b : Int) : opCmp .ne (.int a) (.int b) = ret (!decide (a = b)) := by
  show bnd (opEq _ _) _ = _
  rw [eqv_int]
  rfl
theorem o_lt (a b : Int) : opCmp .lt (.int a) (.int b) = ret (decide (a < b)) := id rfl
theorem o_le (a b : Int) : opCmp .le (.int a) (.int b) = ret (decide (a ≤ b)) := id rfl
theorem o_gt (a b : Int) : opCmp .gt (.int a) (.int b) = ret (decide (b < a)) := id rfl
theorem o_ge (a b : Int) : opCmp .ge (.int a) (.int b) = ret (decide (b ≤ a)) := id rfl
theorem eqv_str (a b : Str) : opEq (.str a) (.str b) = ret (decide (a = b)) := by
  unfold opEq
  rw [grd_pos (show eqOk (.str a) (.str b) from True.intro)]
  show ret (a == b) = _
  have e : (a == b) = decide (a = b) := by
    rw [Bool.eq_iff_iff]
    simp
  rw [e]
theorem o_eqS (a b : Str) : opCmp .eq (.str a) (.str b) = ret (decide (a = b)) := eqv_str a b
theorem o_neS (a b : Str) : opCmp .ne (.str a) (.str b) = ret (!decide (a = b)) := by
  show bnd (opEq _ _) _ = _
  rw [eqv_str]
  rfl
end DL

end

section
/-! MB: what may be shown and compared. -/
namespace DL
open PySem
/-- tame data: at most n items in all, k deep, its ints short -/
structure Tame (n k : Nat) (d : D) : Prop where
  short : PyData.leavesShort 22 d = true
  able : PyData.showable d = true
  bulk : PyData.bulk d ≤ n
  deep : PyData.depth d ≤ k
  lay : PyData.canLay0 d = true
theorem Tame.mono {n k n' k' : Nat} {d : D} (h : Tame n k d) (hn : n ≤ n') (hk : k ≤ k') : Tame n' k' d := ⟨h.short, h.able, Nat.le_trans h.bulk hn, Nat.le_trans h.deep hk, h.lay⟩
theorem tame_int {n k : Nat} {i : Int} (h : i.natAbs < 2 ^ 64) : Tame n k (.int i) := by
  refine ⟨?_, ?_, Nat.zero_le _, Nat.zero_le _, rfl⟩
  · have e : (PyData.shown (.int i)).length ≤ 21 := by
      have e := int_text_length_le10 (k := 20) (a := i) (by decide) (Nat.lt_trans h (by decide))
      show (Str.ofString (toString i)).length ≤ 21
      rw [ofString_length]
      exact e
    simp only [PyData.leavesShort, decide_eq_true_eq]
    omega
  · simp only [PyData.showable, decide_eq_true_eq]
    by_cases h0 : i.natAbs = 0
    · rw [h0]; decide
    · exact Nat.lt_of_lt_of_le ((Nat.log2_lt h0).mpr h) (by decide)
theorem tame_bool {n k : Nat} (b : Bool) : Tame n k (.bool b) := ⟨rfl, rfl, Nat.zero_le _, Nat.zero_le _, rfl⟩
theorem tame_none {n k : Nat} : Tame n k .none := ⟨rfl, rfl, Nat.zero_le _, Nat.zero_le _, rfl⟩
structure TameAll (n k : Nat) (ds : List D) : Prop where
  short : PyData.leavesShortAll 22 ds = true
  able : PyData.showableAll ds = true
  bulk : PyData.bulkAll ds ≤ n
  deep : PyData.depthAll ds ≤ k
  lay : PyData.canLayAll0 ds = true
theorem tame_nil {n k : Nat} : TameAll n k [] := ⟨rfl, rfl, Nat.zero_le _, Nat.zero_le _, rfl⟩
theorem tame_cons {n m k : Nat} {d : D} {ds : List D} (h : Tame n k d) (t : TameAll m k ds) : TameAll (n + 1 + m) k (d :: ds) := by
  refine ⟨?_, ?_, ?_, ?_, ?_⟩
  · simp only [PyData.leavesShortAll, h.short, t.short, Bool.and_self]
  · simp only [PyData.showableAll, h.able, t.able, Bool.and_self]
  · simp only [PyData.bulkAll]
    have := h.bulk; have := t.bulk
    omega
  · simp only [PyData.depthAll]
    have := h.deep; have := t.deep
    omega
  · simp only [PyData.canLayAll0, h.lay, t.lay, Bool.and_self]
theorem tame_tup {n k : Nat} {ds : List D} (h : TameAll n k ds) : Tame n (k + 1) (.tuple ds) := by
  refine ⟨?_, ?_, ?_, ?_, ?_⟩
  · simp only [PyData.leavesShort, h.short]
  · simp only [PyData.showable, h.able]
  · simp only [PyData.bulk]; exact h.bulk
  · simp only [PyData.depth]; have := h.deep; omega
  · simp only [PyData.canLay0, h.lay]
theorem tame_lst {n k : Nat} {ds : List D} (h : TameAll n k ds) : Tame n (k + 1) (.list ds) := by
  refine ⟨?_, ?_, ?_, ?_, ?_⟩
  · simp only [PyData.leavesShort, h.short]
  · simp only [PyData.showable, h.able]
  · simp only [PyData.bulk]; exact h.bulk
  · simp only [PyData.depth]; have := h.deep; omega
  · simp only [PyData.canLay0, h.lay]
theorem tame_all {n k : Nat} : ∀ (ds : List D), (∀ d ∈ ds, Tame n k d) → TameAll (ds.length * (n + 1)) k ds
  | [], _ => tame_nil
  | d :: ds, h => by
    have := tame_cons (h d (.head _)) (tame_all ds fun x hx => h x (.tail _ hx))
    rw [List.length_cons, Nat.succ_mul, Nat.add_comm]
    exact this
theorem TameAll.mono {n k n' k' : Nat} {ds : List D} (h : TameAll n k ds) (hn : n ≤ n') (hk : k ≤ k') : TameAll n' k' ds := ⟨h.short, h.able, Nat.le_trans h.bulk hn, Nat.le_trans h.deep hk, h.lay⟩
theorem tame_ints {ns : List Int} (h : ∀ x ∈ ns, x.natAbs < 2 ^ 64) : TameAll ns.length 0 (ns.map PyData.int) := by
  have := tame_all (n := 0) (k := 0) (ns.map PyData.int) fun d hd => by
    obtain ⟨x, hx, rfl⟩ := List.mem_map.mp hd
    exact tame_int (h x hx)
  rw [List.length_map, Nat.zero_add, Nat.mul_one] at this
  exact this
theorem Tame.show {n k : Nat} {d : D} (h : Tame n k d) (hn : n ≤ 40000) (hk : k ≤ 40) : showOk d := by
  refine ⟨h.able, Nat.le_trans h.deep hk, ?_⟩
  have e := PyData.shown_le_bulk 22 (by decide) d h.short
  have := h.bulk
  have : (22 + 2) * d.bulk ≤ 24 * 40000 := Nat.mul_le_mul_left _ (by omega)
  omega
theorem Tame.shaped {n k : Nat} {d : D} (h : Tame n k d) (hk : k ≤ 64) : SeqAt.shaped d = true := by
  unfold SeqAt.shaped
  rw [h.lay, decide_eq_true (Nat.le_trans h.deep hk)]
  rfl
theorem x_repr {n k : Nat} {d : D} (h : Tame n k d) (hn : n ≤ 40000) (hk : k ≤ 40) : bi1 .repr d = ret (.str (PyData.shown d)) := by
  show grd (showOk d) _ = _
  rw [grd_pos (h.show hn hk)]
/-- texts are compared by their signs -/
theorem shaped_str {x : Str} (h : PyData.canLay0 (.str x) = true) : SeqAt.shaped (.str x) = true := by
  unfold SeqAt.shaped
  rw [h]
  rfl

/-! ### statements in a row -/
section
variable {E : Env} {n k : Nat} {Q : Out → Prop}
theorem Ok.seq {a b : XS} (t : Nat) (R : Env → Prop) (h : Ok (a E) n fun o => match o with | .nx E' => R E' | .rt d => Q (.rt d) | .bk E' => Q (.bk E') | .ct E' => Q (.ct E')) (hn : n ≤ t) (hb : ∀ E', R E' → Ok (b E') (t - n) Q) : Ok (sSeq a b E) t Q := by
  refine Ok.bnd' t h hn fun o ho => ?_
  cases o with
  | nx E' => exact hb E' ho
  | rt d => exact Ok.ret ho
  | bk E' => exact Ok.ret ho
  | ct E' => exact Ok.ret ho
theorem Ok.fn {s : XS} {Q : D → Prop} (h : Ok (s E) n fun o => match o with | .rt d => Q d | .nx _ => Q .none | _ => False) : Ok (DL.bnd (s E) endOf) n Q := by
  refine Ok.bnd' n h (Nat.le_refl _) fun o ho => ?_
  cases o with
  | nx E' => exact Ok.ret ho
  | rt d => exact Ok.ret ho
  | bk E' => exact ho.elim
  | ct E' => exact ho.elim
theorem s_asg (i : Nat) (e : XE) (b : XS) : sSeq (sAsg i e) b E = bnd (e E) fun d => b (E.set i (.val d)) := id rfl
theorem s_par (i j : Nat) (x y : XE) (b : XS) : sSeq (sPar i j x y) b E = bnd (x E) fun v => bnd (y E) fun w => b ((E.set i (.val v)).set j (.val w)) := id rfl
theorem s_own (i : Nat) (e : XE) (b : XS) : sSeq (sOwn i e) b E = bnd (e E) fun d => match d with | .list ds => b (E.set i (.own ds)) | _ => stuck := by
  show bnd (bnd (e E) _) _ = _
  rw [bnd_assoc]
  congr 1
  funext d
  cases d <;> rfl
theorem s_parO (i j : Nat) (x y : XE) (b : XS) : sSeq (sParO i j x y) b E = bnd (x E) fun v => bnd (y E) fun w => match v with | .list ds => b ((E.set i (.own ds)).set j (.val w)) | _ => stuck := by
  show bnd (bnd (x E) _) _ = _
  rw [bnd_assoc]
  congr 1
  funext v
  rw [bnd_assoc]
  congr 1
  funext w
  cases v <;> rfl
theorem s_app (i : Nat) (e : XE) (b : XS) {ds : List D} (h : E[i]? = some (.own ds)) : sSeq (sApp i e) b E = bnd (e E) fun d => grd (small ds.length) (b (E.set i (.own (ds ++ [d])))) := by
  show bnd (sApp i e E) _ = _
  rw [x_app, h]
  rfl
theorem s_put (tg : Tg) (e : XE) (b : XS) : sSeq (sPut tg e) b E = bnd (e E) fun d => match tg.put d E with | some E' => b E' | none => stuck := by
  show bnd (bnd (e E) _) _ = _
  rw [bnd_assoc]
  congr 1
  funext d
  cases tg.put d E <;> rfl
theorem s_expr (e : XE) (b : XS) : sSeq (sExpr e) b E = bnd (e E) fun _ => b E := id rfl
theorem s_ret (e : XE) (b : XS) : sSeq (sRet e) b E = bnd (e E) fun d => ret (.rt d) := id rfl
theorem s_skip (b : XS) : sSeq sSkip b E = b E := id rfl
theorem s_seq (a b c : XS) : sSeq (sSeq a b) c E = sSeq a (sSeq b c) E := by
  show bnd (bnd (a E) _) _ = bnd (a E) _
  rw [bnd_assoc]
  congr 1
  funext o
  cases o <;> rfl
theorem s_if (t : XT) (x y b : XS) : sSeq (sIf t x y) b E = bnd (t E) fun c => if c = true then sSeq x b E else sSeq y b E := by
  show bnd (bnd (t E) _) _ = _
  rw [bnd_assoc]
  congr 1
  funext c
  cases c <;> rfl
theorem s_rel (i : Nat) (s b : XS) : sSeq (sRel i s) b E = match E[i]? with | some (.own ds) => sSeq s b (E.set i (.val (.list ds))) | _ => sSeq s b E := by
  show bnd (sRel i s E) _ = _
  rw [x_rel]
  cases h : E[i]? with
  | none => rfl
  | some y => cases y <;> rfl
theorem b1_if {α β : Type} (c : Bool) (x y : W α) (f : α → W β) : bnd (if c = true then x else y) f = if c = true then bnd x f else bnd y f := by cases c <;> rfl
end

/-! ### lists -/
theorem idx_list {ds : List D} {i : Int} (h0 : 0 ≤ i) (h1 : i < ds.length) : opIdx (.list ds) (.int i) = ret (ds[i.toNat]'(by omega)) := by
  show (match L2.atI ds i with | some d => ret d | none => stuck) = _
  have e : L2.atI ds i = some (ds[i.toNat]'(by omega)) := by
    unfold L2.atI L2.ixN
    rw [if_pos h0, if_pos h1]
    exact List.getElem?_eq_getElem _
  rw [e]
theorem idx_tup {ds : List D} {i : Int} (h0 : 0 ≤ i) (h1 : i < ds.length) : opIdx (.tuple ds) (.int i) = ret (ds[i.toNat]'(by omega)) := by
  show (match L2.atI ds i with | some d => ret d | none => stuck) = _
  have e : L2.atI ds i = some (ds[i.toNat]'(by omega)) := by
    unfold L2.atI L2.ixN
    rw [if_pos h0, if_pos h1]
    exact List.getElem?_eq_getElem _
  rw [e]
theorem idx_ints {ns : List Int} {i : Int} (h0 : 0 ≤ i) (h1 : i < ns.length) : opIdx (.tuple (ns.map PyData.int)) (.int i) = ret (.int (ns[i.toNat]'(by omega))) := by
  rw [idx_tup h0 (by rw [List.length_map]; exact h1), List.getElem_map]
theorem idx_intsL {ns : List Int} {i : Int} (h0 : 0 ≤ i) (h1 : i < ns.length) : opIdx (.list (ns.map PyData.int)) (.int i) = ret (.int (ns[i.toNat]'(by omega))) := by
  rw [idx_list h0 (by rw [List.length_map]; exact h1), List.getElem_map]
theorem ixN_ok {n : Nat} {i : Int} (h0 : 0 ≤ i) (h1 : i < n) : L2.ixN n i = some i.toNat := by
  unfold L2.ixN
  rw [if_pos h0, if_pos h1]
theorem ok_comp {β : Type} {it : XA} {tg : Tg} {t : XT} {e : XE} {vs : List Nat} {E : Env} {ds : List D} {b T : Nat} {G : D → Prop} {f : D → W β} {Q : β → Prop} (hit : it E = ret ds) (hl : ds.length ≤ 1000000)
    (hs : ∀ d ∈ ds, ∃ E1, tg.put d (wipeE E vs) = some E1 ∧ t E1 = ret true ∧ Ok (e E1) b G) (hT : ds.length * b ≤ T)
    (hf : ∀ ys : List D, ys.length = ds.length → (∀ d ∈ ys, G d) → Ok (f (.list ys)) (T - ds.length * b) Q) : Ok (DL.bnd (eComp it tg t e vs E) f) T Q := by
  rw [x_comp, hit, bnd_ret, bnd_assoc]
  refine Ok.bnd' T (Ok.noX (comp_ok (G := G) (b := b) ds [] (by simp only [List.length_nil]; omega) (fun d hd => (nomatch hd)) hs)) hT ?_
  rintro ys ⟨h1, h2⟩
  rw [bnd_ret]
  exact hf ys (by rw [h1, List.length_nil, Nat.zero_add]) h2
theorem ints_of {Q : Int → Prop} : ∀ {ds : List D}, (∀ d ∈ ds, ∃ x : Int, d = .int x ∧ Q x) → ∃ ns : List Int, ds = ns.map PyData.int ∧ ∀ x ∈ ns, Q x
  | [], _ => ⟨[], rfl, fun _ h => (nomatch h)⟩
  | d :: ds, h => by
    obtain ⟨x, rfl, hx⟩ := h d (.head _)
    obtain ⟨ns, rfl, hn⟩ := ints_of fun d hd => h d (.tail _ hd)
    refine ⟨x :: ns, rfl, fun y hy => ?_⟩
    rcases List.mem_cons.mp hy with rfl | hy
    · exact hx
    · exact hn y hy
theorem rng_len (a b : Int) : (rng a b).length = (b - a).toNat := by
  unfold rng
  rw [List.length_map, List.length_range]
theorem rng_mem {a b : Int} {d : D} (h : d ∈ rng a b) : ∃ i : Int, d = .int i ∧ a ≤ i ∧ i < b := by
  unfold rng at h
  obtain ⟨i, hi, rfl⟩ := List.mem_map.mp h
  exact ⟨_, rfl, by omega, by have := List.mem_range.mp hi; omega⟩
theorem rng_at {a b : Int} {j : Nat} {d : D} (h : (rng a b)[j]? = some d) : d = .int (a + j) ∧ a + j < b := by
  unfold rng at h
  rw [List.getElem?_map] at h
  cases e : (List.range (b - a).toNat)[j]? with
  | none => rw [e] at h; cases h
  | some i =>
    rw [e] at h
    obtain ⟨h1, h2⟩ := List.getElem?_eq_some_iff.mp e
    rw [List.getElem_range] at h2
    rw [List.length_range] at h1
    subst h2
    cases h
    exact ⟨rfl, by omega⟩
theorem f_fn {k n : Nat} {s : XS} {ds : List D} (h : ds.length = k) : fn k n s ds = bnd (s (start n (ds.map .val))) endOf := grd_pos h _
theorem f_fnS {k n : Nat} {s : XS} {ds : List D} (h : ds.length + 1 = k) : fnS k n s ds = bnd (s (start n (.stm :: ds.map .val))) endOf := grd_pos h _
end DL

end

section
/-! MC: what is drawn. -/
namespace DL
open PySem
/-- a row of words -/
def RowD (most : Int) (d : D) : Prop := ∃ ns : List Int, d = .tuple (ns.map PyData.int) ∧ 1 ≤ ns.length ∧ (ns.length : Int) ≤ most ∧ ∀ x ∈ ns, 1 ≤ x ∧ x ≤ 60
theorem row_drawn_0 {most : Int} (h : 1 ≤ most ∧ most ≤ 24) : Ok (w__law_row_drawn_0 [.int most]) 60 (RowD most) := by
  unfold w__law_row_drawn_0
  rw [x_fnS]
  refine Ok.grd rfl (Ok.fn ?_)
  simp only [x_var, x_con, x_bin, x_neg, x_cmp, x_chain, x_tTru, x_tNot, x_tAnd, x_tOr, x_tBool, x_tYes, x_not, x_and, x_or, x_if, x_b1, x_b2, x_is, x_idx, x_oNone, x_oSome, x_cut, x_aNil, x_aCons, x_tup, x_lst, x_call, x_callS,
    x_iSeq, x_iRng1, x_iRng2, x_bor, x_tBor, x_put1, List.map_cons, List.map_nil, List.cons_append, List.nil_append, List.length_cons, List.length_nil, Nat.zero_add, Nat.reduceAdd, Nat.reduceSub, List.reduceReplicate, start,
    List.getElem?_cons_zero, List.getElem?_cons_succ, List.set_cons_zero, List.set_cons_succ, bnd_ret, bnd_assoc, bnd_grd, b1_if, bnd_ite, small, Nat.reduceLeDiff, grd_true, o_add, o_sub, o_neg, o_eq, o_ne, o_lt, o_le, o_gt, o_ge, o_eqS, o_neS,
    decide_eq_true_eq, reduceIte, decide_true, decide_false, Bool.not_true, Bool.not_false, Bool.false_eq_true, itemsOf, asInt, bi2, endOf, isTy, s_asg, s_par, s_own, s_parO, s_put, s_expr, s_ret, s_skip, s_seq, s_rel, x_asg, x_par, x_own, x_parO, x_put, x_expr, x_ret, x_retN, x_skip, x_rel, x_app, x_setI, x_sIf, x_for, x_brk, x_cnt]
  refine Ok.drawB (n := 59) (by omega) (by omega) fun r h0 h1 => ?_
  simp only [o_add, bnd_ret]
  refine Ok.drawB (n := 58) (by omega) (by omega) fun way h2 h3 => ?_
  have top : ∃ z : Int, opIdx (PyData.list [PyData.int 3, PyData.int 60, PyData.int 9, PyData.int 2, PyData.int 12, PyData.int 5]) (.int way) = ret (.int z) ∧ 1 ≤ z ∧ z ≤ 60 := by
    obtain rfl | rfl | rfl | rfl | rfl | rfl : way = 0 ∨ way = 1 ∨ way = 2 ∨ way = 3 ∨ way = 4 ∨ way = 5 := by omega
    · exact ⟨3, rfl, by decide⟩
    · exact ⟨60, rfl, by decide⟩
    · exact ⟨9, rfl, by decide⟩
    · exact ⟨2, rfl, by decide⟩
    · exact ⟨12, rfl, by decide⟩
    · exact ⟨5, rfl, by decide⟩
  obtain ⟨z, e, z0, z1⟩ := top
  rw [e, bnd_ret]
  refine ok_comp (ds := rng 0 (1 + r)) (b := 1) (G := fun d => ∃ x : Int, d = .int x ∧ 1 ≤ x ∧ x ≤ 60) ?_ (by rw [rng_len]; omega) ?_ (by rw [rng_len]; omega) ?_
  · simp only [x_var, x_con, x_bin, x_neg, x_cmp, x_chain, x_tTru, x_tNot, x_tAnd, x_tOr, x_tBool, x_tYes, x_not, x_and, x_or, x_if, x_b1, x_b2, x_is, x_idx, x_oNone, x_oSome, x_cut, x_aNil, x_aCons, x_tup, x_lst, x_call, x_callS,
    x_iSeq, x_iRng1, x_iRng2, x_bor, x_tBor, x_put1, List.map_cons, List.map_nil, List.cons_append, List.nil_append, List.length_cons, List.length_nil, Nat.zero_add, Nat.reduceAdd, Nat.reduceSub, List.reduceReplicate, start,
    List.getElem?_cons_zero, List.getElem?_cons_succ, List.set_cons_zero, List.set_cons_succ, bnd_ret, bnd_assoc, bnd_grd, b1_if, bnd_ite, small, Nat.reduceLeDiff, grd_true, o_add, o_sub, o_neg, o_eq, o_ne, o_lt, o_le, o_gt, o_ge, o_eqS, o_neS,
    decide_eq_true_eq, reduceIte, decide_true, decide_false, Bool.not_true, Bool.not_false, Bool.false_eq_true, itemsOf, asInt, bi2, endOf, isTy]
    exact grd_pos (by unfold rngOk; omega) _
  · intro d hd
    refine ⟨_, rfl, rfl, ?_⟩
    simp only [x_var, x_con, x_bin, x_neg, x_cmp, x_chain, x_tTru, x_tNot, x_tAnd, x_tOr, x_tBool, x_tYes, x_not, x_and, x_or, x_if, x_b1, x_b2, x_is, x_idx, x_oNone, x_oSome, x_cut, x_aNil, x_aCons, x_tup, x_lst, x_call, x_callS,
    x_iSeq, x_iRng1, x_iRng2, x_bor, x_tBor, x_put1, List.map_cons, List.map_nil, List.cons_append, List.nil_append, List.length_cons, List.length_nil, Nat.zero_add, Nat.reduceAdd, Nat.reduceSub, List.reduceReplicate, start,
    List.getElem?_cons_zero, List.getElem?_cons_succ, List.set_cons_zero, List.set_cons_succ, bnd_ret, bnd_assoc, bnd_grd, b1_if, bnd_ite, small, Nat.reduceLeDiff, grd_true, o_add, o_sub, o_neg, o_eq, o_ne, o_lt, o_le, o_gt, o_ge, o_eqS, o_neS,
    decide_eq_true_eq, reduceIte, decide_true, decide_false, Bool.not_true, Bool.not_false, Bool.false_eq_true, itemsOf, asInt, bi2, endOf, isTy, wipeE]
    refine Ok.drawB (n := 0) (by omega) (by omega) fun x h4 h5 => ?_
    exact Ok.ret ⟨_, rfl, by omega, by omega⟩
  · intro ys hy hG
    obtain ⟨ns, rfl, hn⟩ := ints_of hG
    rw [List.length_map, rng_len] at hy
    rw [rng_len]
    simp only
    refine Ok.seq _ (fun E => ∃ ms : List Int, E = [.stm, .val (.int most), .val (.int (1 + r)), .val (.int way), .val (.int z), .own (ms.map PyData.int), .unk, .unk] ∧ ms.length = (1 + r).toNat ∧ ∀ x ∈ ms, 1 ≤ x ∧ x ≤ 60) (n := 2) ?_ (by omega) ?_
    · simp only [x_var, x_con, x_bin, x_neg, x_cmp, x_chain, x_tTru, x_tNot, x_tAnd, x_tOr, x_tBool, x_tYes, x_not, x_and, x_or, x_if, x_b1, x_b2, x_is, x_idx, x_oNone, x_oSome, x_cut, x_aNil, x_aCons, x_tup, x_lst, x_call, x_callS,
    x_iSeq, x_iRng1, x_iRng2, x_bor, x_tBor, x_put1, List.map_cons, List.map_nil, List.cons_append, List.nil_append, List.length_cons, List.length_nil, Nat.zero_add, Nat.reduceAdd, Nat.reduceSub, List.reduceReplicate, start,
    List.getElem?_cons_zero, List.getElem?_cons_succ, List.set_cons_zero, List.set_cons_succ, bnd_ret, bnd_assoc, bnd_grd, b1_if, bnd_ite, small, Nat.reduceLeDiff, grd_true, o_add, o_sub, o_neg, o_eq, o_ne, o_lt, o_le, o_gt, o_ge, o_eqS, o_neS,
    decide_eq_true_eq, reduceIte, decide_true, decide_false, Bool.not_true, Bool.not_false, Bool.false_eq_true, itemsOf, asInt, bi2, endOf, isTy, x_sIf, x_skip]
      have stay : Ok (ret (Out.nx [Ent.stm, .val (.int most), .val (.int (1 + r)), .val (.int way), .val (.int z), .own (ns.map PyData.int), .unk, .unk])) 2 fun o => match o with
        | .nx E' => ∃ ms : List Int, E' = [Ent.stm, .val (.int most), .val (.int (1 + r)), .val (.int way), .val (.int z), .own (ms.map PyData.int), .unk, .unk] ∧ ms.length = (1 + r).toNat ∧ ∀ x ∈ ms, 1 ≤ x ∧ x ≤ 60
        | .rt d => RowD most d
        | .bk _ => False
        | .ct _ => False := Ok.ret ⟨ns, rfl, by omega, hn⟩
      have chg : ∀ E, E = [Ent.stm, .val (.int most), .val (.int (1 + r)), .val (.int way), .val (.int z), .own (ns.map PyData.int), .unk, .unk] → Ok (sSet 5 (eCallS fDraw 0 (aCons (eVar 2) aNil)) (eBin Op.add (eCon (PyData.int 1)) (eCallS fDraw 0 (aCons (eCon (PyData.int 60)) aNil))) E) 2 fun o => match o with
        | .nx E' => ∃ ms : List Int, E' = [Ent.stm, .val (.int most), .val (.int (1 + r)), .val (.int way), .val (.int z), .own (ms.map PyData.int), .unk, .unk] ∧ ms.length = (1 + r).toNat ∧ ∀ x ∈ ms, 1 ≤ x ∧ x ≤ 60
        | .rt d => RowD most d
        | .bk _ => False
        | .ct _ => False := by
        rintro E rfl
        simp only [x_var, x_con, x_bin, x_neg, x_cmp, x_chain, x_tTru, x_tNot, x_tAnd, x_tOr, x_tBool, x_tYes, x_not, x_and, x_or, x_if, x_b1, x_b2, x_is, x_idx, x_oNone, x_oSome, x_cut, x_aNil, x_aCons, x_tup, x_lst, x_call, x_callS,
    x_iSeq, x_iRng1, x_iRng2, x_bor, x_tBor, x_put1, List.map_cons, List.map_nil, List.cons_append, List.nil_append, List.length_cons, List.length_nil, Nat.zero_add, Nat.reduceAdd, Nat.reduceSub, List.reduceReplicate, start,
    List.getElem?_cons_zero, List.getElem?_cons_succ, List.set_cons_zero, List.set_cons_succ, bnd_ret, bnd_assoc, bnd_grd, b1_if, bnd_ite, small, Nat.reduceLeDiff, grd_true, o_add, o_sub, o_neg, o_eq, o_ne, o_lt, o_le, o_gt, o_ge, o_eqS, o_neS,
    decide_eq_true_eq, reduceIte, decide_true, decide_false, Bool.not_true, Bool.not_false, Bool.false_eq_true, itemsOf, asInt, bi2, endOf, isTy, s_asg, s_par, s_own, s_parO, s_put, s_expr, s_ret, s_skip, s_seq, s_rel, x_asg, x_par, x_own, x_parO, x_put, x_expr, x_ret, x_retN, x_skip, x_rel, x_app, x_setI, x_sIf, x_for, x_brk, x_cnt]
        refine Ok.drawB (n := 1) (by omega) (by omega) fun u hu0 hu1 => ?_
        simp only [x_var, x_con, x_bin, x_neg, x_cmp, x_chain, x_tTru, x_tNot, x_tAnd, x_tOr, x_tBool, x_tYes, x_not, x_and, x_or, x_if, x_b1, x_b2, x_is, x_idx, x_oNone, x_oSome, x_cut, x_aNil, x_aCons, x_tup, x_lst, x_call, x_callS,
    x_iSeq, x_iRng1, x_iRng2, x_bor, x_tBor, x_put1, List.map_cons, List.map_nil, List.cons_append, List.nil_append, List.length_cons, List.length_nil, Nat.zero_add, Nat.reduceAdd, Nat.reduceSub, List.reduceReplicate, start,
    List.getElem?_cons_zero, List.getElem?_cons_succ, List.set_cons_zero, List.set_cons_succ, bnd_ret, bnd_assoc, bnd_grd, b1_if, bnd_ite, small, Nat.reduceLeDiff, grd_true, o_add, o_sub, o_neg, o_eq, o_ne, o_lt, o_le, o_gt, o_ge, o_eqS, o_neS,
    decide_eq_true_eq, reduceIte, decide_true, decide_false, Bool.not_true, Bool.not_false, Bool.false_eq_true, itemsOf, asInt, bi2, endOf, isTy, s_asg, s_par, s_own, s_parO, s_put, s_expr, s_ret, s_skip, s_seq, s_rel, x_asg, x_par, x_own, x_parO, x_put, x_expr, x_ret, x_retN, x_skip, x_rel, x_app, x_setI, x_sIf, x_for, x_brk, x_cnt]
        refine Ok.drawB (n := 0) (by omega) (by omega) fun i hi0 hi1 => ?_
        simp only [x_var, x_con, x_bin, x_neg, x_cmp, x_chain, x_tTru, x_tNot, x_tAnd, x_tOr, x_tBool, x_tYes, x_not, x_and, x_or, x_if, x_b1, x_b2, x_is, x_idx, x_oNone, x_oSome, x_cut, x_aNil, x_aCons, x_tup, x_lst, x_call, x_callS,
    x_iSeq, x_iRng1, x_iRng2, x_bor, x_tBor, x_put1, List.map_cons, List.map_nil, List.cons_append, List.nil_append, List.length_cons, List.length_nil, Nat.zero_add, Nat.reduceAdd, Nat.reduceSub, List.reduceReplicate, start,
    List.getElem?_cons_zero, List.getElem?_cons_succ, List.set_cons_zero, List.set_cons_succ, bnd_ret, bnd_assoc, bnd_grd, b1_if, bnd_ite, small, Nat.reduceLeDiff, grd_true, o_add, o_sub, o_neg, o_eq, o_ne, o_lt, o_le, o_gt, o_ge, o_eqS, o_neS,
    decide_eq_true_eq, reduceIte, decide_true, decide_false, Bool.not_true, Bool.not_false, Bool.false_eq_true, itemsOf, asInt, bi2, endOf, isTy, s_asg, s_par, s_own, s_parO, s_put, s_expr, s_ret, s_skip, s_seq, s_rel, x_asg, x_par, x_own, x_parO, x_put, x_expr, x_ret, x_retN, x_skip, x_rel, x_app, x_setI, x_sIf, x_for, x_brk, x_cnt]
        rw [ixN_ok hi0 (by rw [List.length_map, hy]; omega)]
        refine Ok.ret ⟨ns.set i.toNat (1 + u), by rw [List.map_set], by rw [List.length_set]; omega, fun x hx => ?_⟩
        rcases List.mem_or_eq_of_mem_set hx with h | h
        · exact hn x h
        · omega
      refine Ok.ite (fun _ => ?_) fun _ => ?_
      · exact chg _ rfl
      · refine Ok.ite (fun _ => ?_) fun _ => ?_
        · exact chg _ rfl
        · exact stay
    · rintro E ⟨ms, rfl, hl, hm⟩
      refine Ok.seq _ (fun E => ∃ (ms : List Int) (e6 e7 : Ent), E = [.stm, .val (.int most), .val (.int (1 + r)), .val (.int way), .val (.int z), .own (ms.map PyData.int), e6, e7] ∧ ms.length = (1 + r).toNat ∧ ∀ x ∈ ms, 1 ≤ x ∧ x ≤ 60) (n := 1) ?_ (by omega) ?_
      · simp only [x_var, x_con, x_bin, x_neg, x_cmp, x_chain, x_tTru, x_tNot, x_tAnd, x_tOr, x_tBool, x_tYes, x_not, x_and, x_or, x_if, x_b1, x_b2, x_is, x_idx, x_oNone, x_oSome, x_cut, x_aNil, x_aCons, x_tup, x_lst, x_call, x_callS,
    x_iSeq, x_iRng1, x_iRng2, x_bor, x_tBor, x_put1, List.map_cons, List.map_nil, List.cons_append, List.nil_append, List.length_cons, List.length_nil, Nat.zero_add, Nat.reduceAdd, Nat.reduceSub, List.reduceReplicate, start,
    List.getElem?_cons_zero, List.getElem?_cons_succ, List.set_cons_zero, List.set_cons_succ, bnd_ret, bnd_assoc, bnd_grd, b1_if, bnd_ite, small, Nat.reduceLeDiff, grd_true, o_add, o_sub, o_neg, o_eq, o_ne, o_lt, o_le, o_gt, o_ge, o_eqS, o_neS,
    decide_eq_true_eq, reduceIte, decide_true, decide_false, Bool.not_true, Bool.not_false, Bool.false_eq_true, itemsOf, asInt, bi2, endOf, isTy, s_asg, s_par, s_own, s_parO, s_put, s_expr, s_ret, s_skip, s_seq, s_rel, x_asg, x_par, x_own, x_parO, x_put, x_expr, x_ret, x_retN, x_skip, x_rel, x_app, x_setI, x_sIf, x_for, x_brk, x_cnt]
        refine Ok.ite (fun _ => ?_) fun _ => Ok.ret ⟨ms, _, _, rfl, hl, hm⟩
        refine Ok.drawB (n := 0) (by split <;> omega) (by split <;> omega) fun u hu0 hu1 => ?_
        simp only [x_var, x_con, x_bin, x_neg, x_cmp, x_chain, x_tTru, x_tNot, x_tAnd, x_tOr, x_tBool, x_tYes, x_not, x_and, x_or, x_if, x_b1, x_b2, x_is, x_idx, x_oNone, x_oSome, x_cut, x_aNil, x_aCons, x_tup, x_lst, x_call, x_callS,
    x_iSeq, x_iRng1, x_iRng2, x_bor, x_tBor, x_put1, List.map_cons, List.map_nil, List.cons_append, List.nil_append, List.length_cons, List.length_nil, Nat.zero_add, Nat.reduceAdd, Nat.reduceSub, List.reduceReplicate, start,
    List.getElem?_cons_zero, List.getElem?_cons_succ, List.set_cons_zero, List.set_cons_succ, bnd_ret, bnd_assoc, bnd_grd, b1_if, bnd_ite, small, Nat.reduceLeDiff, grd_true, o_add, o_sub, o_neg, o_eq, o_ne, o_lt, o_le, o_gt, o_ge, o_eqS, o_neS,
    decide_eq_true_eq, reduceIte, decide_true, decide_false, Bool.not_true, Bool.not_false, Bool.false_eq_true, itemsOf, asInt, bi2, endOf, isTy, s_asg, s_par, s_own, s_parO, s_put, s_expr, s_ret, s_skip, s_seq, s_rel, x_asg, x_par, x_own, x_parO, x_put, x_expr, x_ret, x_retN, x_skip, x_rel, x_app, x_setI, x_sIf, x_for, x_brk, x_cnt]
        refine ok_comp (ds := rng 0 (1 + r)) (b := 0) (G := fun d => ∃ x : Int, d = .int x ∧ 1 ≤ x ∧ x ≤ 60) ?_ (by rw [rng_len]; omega) ?_ (Nat.le_refl _) ?_
        · simp only [x_var, x_con, x_bin, x_neg, x_cmp, x_chain, x_tTru, x_tNot, x_tAnd, x_tOr, x_tBool, x_tYes, x_not, x_and, x_or, x_if, x_b1, x_b2, x_is, x_idx, x_oNone, x_oSome, x_cut, x_aNil, x_aCons, x_tup, x_lst, x_call, x_callS,
    x_iSeq, x_iRng1, x_iRng2, x_bor, x_tBor, x_put1, List.map_cons, List.map_nil, List.cons_append, List.nil_append, List.length_cons, List.length_nil, Nat.zero_add, Nat.reduceAdd, Nat.reduceSub, List.reduceReplicate, start,
    List.getElem?_cons_zero, List.getElem?_cons_succ, List.set_cons_zero, List.set_cons_succ, bnd_ret, bnd_assoc, bnd_grd, b1_if, bnd_ite, small, Nat.reduceLeDiff, grd_true, o_add, o_sub, o_neg, o_eq, o_ne, o_lt, o_le, o_gt, o_ge, o_eqS, o_neS,
    decide_eq_true_eq, reduceIte, decide_true, decide_false, Bool.not_true, Bool.not_false, Bool.false_eq_true, itemsOf, asInt, bi2, endOf, isTy]
          exact grd_pos (by unfold rngOk; omega) _
        · intro d hd
          obtain ⟨i, rfl, hi0, hi1⟩ := rng_mem hd
          refine ⟨_, rfl, rfl, ?_⟩
          simp only [x_var, x_con, x_bin, x_neg, x_cmp, x_chain, x_tTru, x_tNot, x_tAnd, x_tOr, x_tBool, x_tYes, x_not, x_and, x_or, x_if, x_b1, x_b2, x_is, x_idx, x_oNone, x_oSome, x_cut, x_aNil, x_aCons, x_tup, x_lst, x_call, x_callS,
    x_iSeq, x_iRng1, x_iRng2, x_bor, x_tBor, x_put1, List.map_cons, List.map_nil, List.cons_append, List.nil_append, List.length_cons, List.length_nil, Nat.zero_add, Nat.reduceAdd, Nat.reduceSub, List.reduceReplicate, start,
    List.getElem?_cons_zero, List.getElem?_cons_succ, List.set_cons_zero, List.set_cons_succ, bnd_ret, bnd_assoc, bnd_grd, b1_if, bnd_ite, small, Nat.reduceLeDiff, grd_true, o_add, o_sub, o_neg, o_eq, o_ne, o_lt, o_le, o_gt, o_ge, o_eqS, o_neS,
    decide_eq_true_eq, reduceIte, decide_true, decide_false, Bool.not_true, Bool.not_false, Bool.false_eq_true, itemsOf, asInt, bi2, endOf, isTy, wipeE, o_mod]
          refine Ok.grd (by omega) ?_
          have hlt : i % (1 + u) < ms.length := by
            have := Int.emod_lt_of_pos i (show 0 < 1 + u by omega)
            have hb : 1 + u ≤ 1 + r := by split at hu1 <;> omega
            omega
          rw [idx_intsL (Int.emod_nonneg _ (by omega)) hlt]
          exact Ok.ret ⟨_, rfl, hm _ (List.getElem_mem _)⟩
        · intro ys hy2 hG2
          obtain ⟨ms2, rfl, hm2⟩ := ints_of hG2
          rw [List.length_map, rng_len] at hy2
          exact Ok.ret ⟨ms2, _, _, rfl, by omega, hm2⟩
      · rintro E ⟨ms, e6, e7, rfl, hl, hm⟩
        simp only [x_var, x_con, x_bin, x_neg, x_cmp, x_chain, x_tTru, x_tNot, x_tAnd, x_tOr, x_tBool, x_tYes, x_not, x_and, x_or, x_if, x_b1, x_b2, x_is, x_idx, x_oNone, x_oSome, x_cut, x_aNil, x_aCons, x_tup, x_lst, x_call, x_callS,
    x_iSeq, x_iRng1, x_iRng2, x_bor, x_tBor, x_put1, List.map_cons, List.map_nil, List.cons_append, List.nil_append, List.length_cons, List.length_nil, Nat.zero_add, Nat.reduceAdd, Nat.reduceSub, List.reduceReplicate, start,
    List.getElem?_cons_zero, List.getElem?_cons_succ, List.set_cons_zero, List.set_cons_succ, bnd_ret, bnd_assoc, bnd_grd, b1_if, bnd_ite, small, Nat.reduceLeDiff, grd_true, o_add, o_sub, o_neg, o_eq, o_ne, o_lt, o_le, o_gt, o_ge, o_eqS, o_neS,
    decide_eq_true_eq, reduceIte, decide_true, decide_false, Bool.not_true, Bool.not_false, Bool.false_eq_true, itemsOf, asInt, bi2, endOf, isTy, s_asg, s_par, s_own, s_parO, s_put, s_expr, s_ret, s_skip, s_seq, s_rel, x_asg, x_par, x_own, x_parO, x_put, x_expr, x_ret, x_retN, x_skip, x_rel, x_app, x_setI, x_sIf, x_for, x_brk, x_cnt]
        exact Ok.ret ⟨ms, rfl, by omega, by omega, hm⟩
end DL

end

section
/-! MD: places, extents. -/
namespace DL
open PySem
theorem is_integer_0 (i lo hi : Int) : w_is_integer_0 [.int i, .int lo, .int hi] = ret (.bool (decide (lo ≤ i ∧ i ≤ hi))) := by
  unfold w_is_integer_0
  refine (f_fn (by rfl)).trans ?_
  simp only [x_var, x_con, x_bin, x_neg, x_cmp, x_chain, x_tTru, x_tNot, x_tAnd, x_tOr, x_tBool, x_tYes, x_not, x_and, x_or, x_if, x_b1, x_b2, x_is, x_idx, x_oNone, x_oSome, x_cut, x_aNil, x_aCons, x_tup, x_lst, x_call, x_callS,
    x_iSeq, x_iRng1, x_iRng2, x_bor, x_tBor, x_put1, List.map_cons, List.map_nil, List.cons_append, List.nil_append, List.length_cons, List.length_nil, Nat.zero_add, Nat.reduceAdd, Nat.reduceSub, List.reduceReplicate, start,
    List.getElem?_cons_zero, List.getElem?_cons_succ, List.set_cons_zero, List.set_cons_succ, bnd_ret, bnd_assoc, bnd_grd, b1_if, bnd_ite, small, Nat.reduceLeDiff, grd_true, o_add, o_sub, o_neg, o_eq, o_ne, o_lt, o_le, o_gt, o_ge, o_eqS, o_neS,
    decide_eq_true_eq, reduceIte, decide_true, decide_false, Bool.not_true, Bool.not_false, Bool.false_eq_true, itemsOf, asInt, bi2, endOf, isTy, s_asg, s_par, s_own, s_parO, s_put, s_expr, s_ret, s_skip, s_seq, s_rel, x_asg, x_par, x_own, x_parO, x_put, x_expr, x_ret, x_retN, x_skip, x_rel, x_app, x_setI, x_sIf, x_for, x_brk, x_cnt, tru]
  by_cases h : lo ≤ i
  · simp [h]
  · simp [h]
/-- the extent of a stretch -/
def ext (ns : List Int) (i j : Nat) : Int := ((ns.drop i).take (j + 1 - i)).sum + j - i
theorem cut_nat (ds : List D) (i j : Nat) (hi : i ≤ ds.length) (hj : j ≤ ds.length) : DL.cut ds (some (i : Int)) (some (j : Int)) = (ds.drop i).take (j - i) := by
  unfold DL.cut
  rw [HT.sIx_nat, HT.sIx_nat, Nat.min_eq_left hi, Nat.min_eq_left hj]
theorem sum_ints (ns : List Int) : bi1 .sum (.tuple (ns.map PyData.int)) = ret (.int ns.sum) := by
  show bnd (intsOf (.tuple (ns.map PyData.int))) _ = _
  simp only [intsOf, itemsOf, bnd_ret, ints?_map]
theorem extent_of_0 {ns : List Int} {i j : Nat} (h : i ≤ j) (hj : j < ns.length) : w_extent_of_0 [.tuple (ns.map PyData.int), .int i, .int j] = ret (.int (ext ns i j)) := by
  unfold w_extent_of_0
  refine (f_fn (by rfl)).trans ?_
  simp only [x_var, x_con, x_bin, x_neg, x_cmp, x_chain, x_tTru, x_tNot, x_tAnd, x_tOr, x_tBool, x_tYes, x_not, x_and, x_or, x_if, x_b1, x_b2, x_is, x_idx, x_oNone, x_oSome, x_cut, x_aNil, x_aCons, x_tup, x_lst, x_call, x_callS,
    x_iSeq, x_iRng1, x_iRng2, x_bor, x_tBor, x_put1, List.map_cons, List.map_nil, List.cons_append, List.nil_append, List.length_cons, List.length_nil, Nat.zero_add, Nat.reduceAdd, Nat.reduceSub, List.reduceReplicate, start,
    List.getElem?_cons_zero, List.getElem?_cons_succ, List.set_cons_zero, List.set_cons_succ, bnd_ret, bnd_assoc, bnd_grd, b1_if, bnd_ite, small, Nat.reduceLeDiff, grd_true, o_add, o_sub, o_neg, o_eq, o_ne, o_lt, o_le, o_gt, o_ge, o_eqS, o_neS,
    decide_eq_true_eq, reduceIte, decide_true, decide_false, Bool.not_true, Bool.not_false, Bool.false_eq_true, itemsOf, asInt, bi2, endOf, isTy, s_asg, s_par, s_own, s_parO, s_put, s_expr, s_ret, s_skip, s_seq, s_rel, x_asg, x_par, x_own, x_parO, x_put, x_expr, x_ret, x_retN, x_skip, x_rel, x_app, x_setI, x_sIf, x_for, x_brk, x_cnt, opCut]
  rw [show ((j : Int) + 1) = ((j + 1 : Nat) : Int) by omega, cut_nat _ i (j + 1) (by rw [List.length_map]; omega) (by rw [List.length_map]; omega), ← List.map_drop, ← List.map_take, sum_ints]
  simp only [x_var, x_con, x_bin, x_neg, x_cmp, x_chain, x_tTru, x_tNot, x_tAnd, x_tOr, x_tBool, x_tYes, x_not, x_and, x_or, x_if, x_b1, x_b2, x_is, x_idx, x_oNone, x_oSome, x_cut, x_aNil, x_aCons, x_tup, x_lst, x_call, x_callS,
    x_iSeq, x_iRng1, x_iRng2, x_bor, x_tBor, x_put1, List.map_cons, List.map_nil, List.cons_append, List.nil_append, List.length_cons, List.length_nil, Nat.zero_add, Nat.reduceAdd, Nat.reduceSub, List.reduceReplicate, start,
    List.getElem?_cons_zero, List.getElem?_cons_succ, List.set_cons_zero, List.set_cons_succ, bnd_ret, bnd_assoc, bnd_grd, b1_if, bnd_ite, small, Nat.reduceLeDiff, grd_true, o_add, o_sub, o_neg, o_eq, o_ne, o_lt, o_le, o_gt, o_ge, o_eqS, o_neS,
    decide_eq_true_eq, reduceIte, decide_true, decide_false, Bool.not_true, Bool.not_false, Bool.false_eq_true, itemsOf, asInt, bi2, endOf, isTy, s_asg, s_par, s_own, s_parO, s_put, s_expr, s_ret, s_skip, s_seq, s_rel, x_asg, x_par, x_own, x_parO, x_put, x_expr, x_ret, x_retN, x_skip, x_rel, x_app, x_setI, x_sIf, x_for, x_brk, x_cnt]
  unfold ext
  rfl
theorem check_place_0 {ns : List Int} {i : Int} (h0 : 0 ≤ i) (h1 : i < ns.length) : w_check_place_0 [.tuple (ns.map PyData.int), .int i] = ret .none := by
  unfold w_check_place_0
  refine (f_fn (by rfl)).trans ?_
  simp only [x_var, x_con, x_bin, x_neg, x_cmp, x_chain, x_tTru, x_tNot, x_tAnd, x_tOr, x_tBool, x_tYes, x_not, x_and, x_or, x_if, x_b1, x_b2, x_is, x_idx, x_oNone, x_oSome, x_cut, x_aNil, x_aCons, x_tup, x_lst, x_call, x_callS,
    x_iSeq, x_iRng1, x_iRng2, x_bor, x_tBor, x_put1, List.map_cons, List.map_nil, List.cons_append, List.nil_append, List.length_cons, List.length_nil, Nat.zero_add, Nat.reduceAdd, Nat.reduceSub, List.reduceReplicate, start,
    List.getElem?_cons_zero, List.getElem?_cons_succ, List.set_cons_zero, List.set_cons_succ, bnd_ret, bnd_assoc, bnd_grd, b1_if, bnd_ite, small, Nat.reduceLeDiff, grd_true, o_add, o_sub, o_neg, o_eq, o_ne, o_lt, o_le, o_gt, o_ge, o_eqS, o_neS,
    decide_eq_true_eq, reduceIte, decide_true, decide_false, Bool.not_true, Bool.not_false, Bool.false_eq_true, itemsOf, asInt, bi2, endOf, isTy, s_asg, s_par, s_own, s_parO, s_put, s_expr, s_ret, s_skip, s_seq, s_rel, x_asg, x_par, x_own, x_parO, x_put, x_expr, x_ret, x_retN, x_skip, x_rel, x_app, x_setI, x_sIf, x_for, x_brk, x_cnt, bi1, List.length_map, is_integer_0, tru]
  rw [decide_eq_true (show 0 ≤ i ∧ i ≤ (ns.length : Int) - 1 by omega)]
  rfl
theorem extent_0 {ns : List Int} {i j : Nat} (h : i ≤ j) (hj : j < ns.length) : w_extent_0 [.tuple (ns.map PyData.int), .int i, .int j] = ret (.int (ext ns i j)) := by
  unfold w_extent_0
  refine (f_fn (by rfl)).trans ?_
  simp only [x_var, x_con, x_bin, x_neg, x_cmp, x_chain, x_tTru, x_tNot, x_tAnd, x_tOr, x_tBool, x_tYes, x_not, x_and, x_or, x_if, x_b1, x_b2, x_is, x_idx, x_oNone, x_oSome, x_cut, x_aNil, x_aCons, x_tup, x_lst, x_call, x_callS,
    x_iSeq, x_iRng1, x_iRng2, x_bor, x_tBor, x_put1, List.map_cons, List.map_nil, List.cons_append, List.nil_append, List.length_cons, List.length_nil, Nat.zero_add, Nat.reduceAdd, Nat.reduceSub, List.reduceReplicate, start,
    List.getElem?_cons_zero, List.getElem?_cons_succ, List.set_cons_zero, List.set_cons_succ, bnd_ret, bnd_assoc, bnd_grd, b1_if, bnd_ite, small, Nat.reduceLeDiff, grd_true, o_add, o_sub, o_neg, o_eq, o_ne, o_lt, o_le, o_gt, o_ge, o_eqS, o_neS,
    decide_eq_true_eq, reduceIte, decide_true, decide_false, Bool.not_true, Bool.not_false, Bool.false_eq_true, itemsOf, asInt, bi2, endOf, isTy, s_asg, s_par, s_own, s_parO, s_put, s_expr, s_ret, s_skip, s_seq, s_rel, x_asg, x_par, x_own, x_parO, x_put, x_expr, x_ret, x_retN, x_skip, x_rel, x_app, x_setI, x_sIf, x_for, x_brk, x_cnt]
  rw [check_place_0 (i := (i : Int)) (by omega) (by omega), check_place_0 (i := (j : Int)) (by omega) (by omega)]
  simp only [x_var, x_con, x_bin, x_neg, x_cmp, x_chain, x_tTru, x_tNot, x_tAnd, x_tOr, x_tBool, x_tYes, x_not, x_and, x_or, x_if, x_b1, x_b2, x_is, x_idx, x_oNone, x_oSome, x_cut, x_aNil, x_aCons, x_tup, x_lst, x_call, x_callS,
    x_iSeq, x_iRng1, x_iRng2, x_bor, x_tBor, x_put1, List.map_cons, List.map_nil, List.cons_append, List.nil_append, List.length_cons, List.length_nil, Nat.zero_add, Nat.reduceAdd, Nat.reduceSub, List.reduceReplicate, start,
    List.getElem?_cons_zero, List.getElem?_cons_succ, List.set_cons_zero, List.set_cons_succ, bnd_ret, bnd_assoc, bnd_grd, b1_if, bnd_ite, small, Nat.reduceLeDiff, grd_true, o_add, o_sub, o_neg, o_eq, o_ne, o_lt, o_le, o_gt, o_ge, o_eqS, o_neS,
    decide_eq_true_eq, reduceIte, decide_true, decide_false, Bool.not_true, Bool.not_false, Bool.false_eq_true, itemsOf, asInt, bi2, endOf, isTy, s_asg, s_par, s_own, s_parO, s_put, s_expr, s_ret, s_skip, s_seq, s_rel, x_asg, x_par, x_own, x_parO, x_put, x_expr, x_ret, x_retN, x_skip, x_rel, x_app, x_setI, x_sIf, x_for, x_brk, x_cnt, s_if, extent_of_0 h hj]
  rw [if_neg (show ¬ (j : Int) < i by omega)]
theorem ext_self {ns : List Int} {i : Nat} {x : Int} (h : ns[i]? = some x) : ext ns i i = x := by
  unfold ext
  obtain ⟨hl, e⟩ := List.getElem?_eq_some_iff.mp h
  rw [show i + 1 - i = 1 by omega, List.drop_eq_getElem_cons hl, e]
  simp
theorem ext_next {ns : List Int} {i j : Nat} {x : Int} (hij : i ≤ j) (h : ns[j + 1]? = some x) : ext ns i (j + 1) = ext ns i j + 1 + x := by
  unfold ext
  have e : ((ns.drop i).take (j + 1 + 1 - i)) = (ns.drop i).take (j + 1 - i) ++ [x] := by
    rw [show j + 1 + 1 - i = (j + 1 - i) + 1 by omega, List.take_succ, List.getElem?_drop, show i + (j + 1 - i) = j + 1 by omega, h]
    rfl
  rw [e, List.sum_append]
  simp
  omega
theorem sum_bound : ∀ {ns : List Int} {b : Int}, 0 ≤ b → (∀ x ∈ ns, 0 ≤ x ∧ x ≤ b) → 0 ≤ ns.sum ∧ ns.sum ≤ b * ns.length
  | [], b, _, _ => by simp
  | x :: ns, b, hb, h => by
    have := sum_bound hb fun y hy => h y (.tail _ hy)
    have hx := h x (.head _)
    rw [List.sum_cons, List.length_cons]
    have e : b * ((ns.length + 1 : Nat) : Int) = b * ns.length + b := by rw [Int.natCast_add, Int.mul_add]; simp
    omega
theorem ext_bound {ns : List Int} {i j : Nat} (hn : ∀ x ∈ ns, 1 ≤ x ∧ x ≤ 60) (hij : i ≤ j) (hj : j < ns.length) (hl : ns.length ≤ 24) : 0 ≤ ext ns i j ∧ ext ns i j ≤ 1500 := by
  unfold ext
  have := sum_bound (ns := (ns.drop i).take (j + 1 - i)) (b := 60) (by decide) fun x hx => by
    have := hn x (List.mem_of_mem_drop (List.mem_of_mem_take hx))
    omega
  have hl2 : ((ns.drop i).take (j + 1 - i)).length ≤ 24 := by
    rw [List.length_take, List.length_drop]; omega
  omega
/-- .. of the first k words from i on; -1 without any -/
def extN (ns : List Int) (i k : Nat) : Int := ((ns.drop i).take k).sum + k - 1
theorem extN_zero (ns : List Int) (i : Nat) : extN ns i 0 = -1 := by simp [extN]
theorem extN_succ {ns : List Int} {i k : Nat} {x : Int} (h : ns[i + k]? = some x) : extN ns i (k + 1) = extN ns i k + 1 + x := by
  unfold extN
  rw [List.take_succ, List.getElem?_drop, h, List.sum_append]
  simp
  omega
theorem ext_extN (ns : List Int) (i k : Nat) : ext ns i (i + k) = extN ns i (k + 1) := by
  unfold ext extN
  rw [show i + k + 1 - i = k + 1 by omega]
  omega
end DL

end

section
namespace DL
open PySem
theorem tame_row {ns : List Int} (hl : ns.length ≤ 24) (hn : ∀ x ∈ ns, 1 ≤ x ∧ x ≤ 60) : Tame 30 1 (.tuple (ns.map PyData.int)) := (tame_tup (tame_ints fun x hx => by have := hn x hx; omega)).mono (by omega) (by decide)
theorem tame_two {a b : Int} (ha : a.natAbs < 2 ^ 64) (hb : b.natAbs < 2 ^ 64) : Tame 4 1 (.list [.int a, .int b]) :=
  (tame_lst (tame_ints (ns := [a, b]) fun x hx => by simp at hx; rcases hx with rfl | rfl <;> assumption)).mono (by simp) (by decide)
theorem r60 : opBin .mul (.tuple [.int 60]) (.int 24) = ret (.tuple ((List.replicate 24 (60 : Int)).map PyData.int)) := by
  have e : opBin .mul (.tuple [.int 60]) (.int 24) = grd ([PyData.int 60] ≠ [] ∧ (2:Int) ≤ 24 ∧ (24:Int) ≤ 1000 ∧ [PyData.int 60].length ≤ 1000) (ret (.tuple (rep 24 [.int 60]))) := rfl
  rw [e, grd_pos ⟨by simp, by decide, by decide, by decide⟩]
  have e2 : rep 24 [.int 60] = (List.replicate 24 (60 : Int)).map PyData.int := by
    simp [rep]
  rw [e2]
theorem row0 : RowD 24 (.tuple ((List.replicate 24 (60 : Int)).map PyData.int)) := ⟨_, rfl, by decide, by decide, fun x hx => by rw [List.eq_of_mem_replicate hx]; decide⟩
theorem r60' : ∃ d, opBin .mul (.tuple [.int 60]) (.int 24) = ret d ∧ RowD 24 d := ⟨_, r60, row0⟩
open Wk03 in
theorem math_k03 : m_law (lawE 7 1) 0 (fun o _ => o = .rt (.bool true)) fun _ => False := by
  suffices h : Ok (m_law (lawE 7 1)) 2000 (fun o => o = .rt (.bool true)) from h.run (by decide) fun _ h => h
  have e : lawE 7 1 = [.unk, .stm, .unk, .unk, .unk, .unk, .unk] := rfl
  rw [e]
  unfold m_law
  refine Ok.seq 2000 (fun E => True) (n := 2000) ?_ (Nat.le_refl _) fun E _ => Ok.ret rfl
  simp only [x_var, x_con, x_bin, x_neg, x_cmp, x_chain, x_tTru, x_tNot, x_tAnd, x_tOr, x_tBool, x_tYes, x_not, x_and, x_or, x_if, x_b1, x_b2, x_is, x_idx, x_oNone, x_oSome, x_cut, x_aNil, x_aCons, x_tup, x_lst, x_call, x_callS,
    x_iSeq, x_iRng1, x_iRng2, x_bor, x_tBor, x_put1, List.map_cons, List.map_nil, List.cons_append, List.nil_append, List.length_cons, List.length_nil, Nat.zero_add, Nat.reduceAdd, Nat.reduceSub, List.reduceReplicate, start,
    List.getElem?_cons_zero, List.getElem?_cons_succ, List.set_cons_zero, List.set_cons_succ, bnd_ret, bnd_assoc, bnd_grd, b1_if, bnd_ite, small, Nat.reduceLeDiff, grd_true, o_add, o_sub, o_neg, o_eq, o_ne, o_lt, o_le, o_gt, o_ge, o_eqS, o_neS,
    decide_eq_true_eq, reduceIte, decide_true, decide_false, Bool.not_true, Bool.not_false, Bool.false_eq_true, itemsOf, asInt, bi2, endOf, isTy, s_asg, s_par, s_own, s_parO, s_put, s_expr, s_ret, s_skip, s_seq, s_rel, x_asg, x_par, x_own, x_parO, x_put, x_expr, x_ret, x_retN, x_skip, x_rel, x_app, x_setI, x_sIf, x_for, x_brk, x_cnt]
  obtain ⟨row0d, r60, row0⟩ := r60'
  rw [r60]
  simp only [x_var, x_con, x_bin, x_neg, x_cmp, x_chain, x_tTru, x_tNot, x_tAnd, x_tOr, x_tBool, x_tYes, x_not, x_and, x_or, x_if, x_b1, x_b2, x_is, x_idx, x_oNone, x_oSome, x_cut, x_aNil, x_aCons, x_tup, x_lst, x_call, x_callS,
    x_iSeq, x_iRng1, x_iRng2, x_bor, x_tBor, x_put1, List.map_cons, List.map_nil, List.cons_append, List.nil_append, List.length_cons, List.length_nil, Nat.zero_add, Nat.reduceAdd, Nat.reduceSub, List.reduceReplicate, start,
    List.getElem?_cons_zero, List.getElem?_cons_succ, List.set_cons_zero, List.set_cons_succ, bnd_ret, bnd_assoc, bnd_grd, b1_if, bnd_ite, small, Nat.reduceLeDiff, grd_true, o_add, o_sub, o_neg, o_eq, o_ne, o_lt, o_le, o_gt, o_ge, o_eqS, o_neS,
    decide_eq_true_eq, reduceIte, decide_true, decide_false, Bool.not_true, Bool.not_false, Bool.false_eq_true, itemsOf, asInt, bi2, endOf, isTy, s_asg, s_par, s_own, s_parO, s_put, s_expr, s_ret, s_skip, s_seq, s_rel, x_asg, x_par, x_own, x_parO, x_put, x_expr, x_ret, x_retN, x_skip, x_rel, x_app, x_setI, x_sIf, x_for, x_brk, x_cnt]
  refine Ok.bnd' 2000 (row_drawn_0 (by decide)) (by decide) ?_
  intro row1 h1
  simp only [x_var, x_con, x_bin, x_neg, x_cmp, x_chain, x_tTru, x_tNot, x_tAnd, x_tOr, x_tBool, x_tYes, x_not, x_and, x_or, x_if, x_b1, x_b2, x_is, x_idx, x_oNone, x_oSome, x_cut, x_aNil, x_aCons, x_tup, x_lst, x_call, x_callS,
    x_iSeq, x_iRng1, x_iRng2, x_bor, x_tBor, x_put1, List.map_cons, List.map_nil, List.cons_append, List.nil_append, List.length_cons, List.length_nil, Nat.zero_add, Nat.reduceAdd, Nat.reduceSub, List.reduceReplicate, start,
    List.getElem?_cons_zero, List.getElem?_cons_succ, List.set_cons_zero, List.set_cons_succ, bnd_ret, bnd_assoc, bnd_grd, b1_if, bnd_ite, small, Nat.reduceLeDiff, grd_true, o_add, o_sub, o_neg, o_eq, o_ne, o_lt, o_le, o_gt, o_ge, o_eqS, o_neS,
    decide_eq_true_eq, reduceIte, decide_true, decide_false, Bool.not_true, Bool.not_false, Bool.false_eq_true, itemsOf, asInt, bi2, endOf, isTy, s_asg, s_par, s_own, s_parO, s_put, s_expr, s_ret, s_skip, s_seq, s_rel, x_asg, x_par, x_own, x_parO, x_put, x_expr, x_ret, x_retN, x_skip, x_rel, x_app, x_setI, x_sIf, x_for, x_brk, x_cnt]
  refine Ok.bnd' 1940 (row_drawn_0 (by decide)) (by decide) ?_
  intro row2 h2
  simp only [x_var, x_con, x_bin, x_neg, x_cmp, x_chain, x_tTru, x_tNot, x_tAnd, x_tOr, x_tBool, x_tYes, x_not, x_and, x_or, x_if, x_b1, x_b2, x_is, x_idx, x_oNone, x_oSome, x_cut, x_aNil, x_aCons, x_tup, x_lst, x_call, x_callS,
    x_iSeq, x_iRng1, x_iRng2, x_bor, x_tBor, x_put1, List.map_cons, List.map_nil, List.cons_append, List.nil_append, List.length_cons, List.length_nil, Nat.zero_add, Nat.reduceAdd, Nat.reduceSub, List.reduceReplicate, start,
    List.getElem?_cons_zero, List.getElem?_cons_succ, List.set_cons_zero, List.set_cons_succ, bnd_ret, bnd_assoc, bnd_grd, b1_if, bnd_ite, small, Nat.reduceLeDiff, grd_true, o_add, o_sub, o_neg, o_eq, o_ne, o_lt, o_le, o_gt, o_ge, o_eqS, o_neS,
    decide_eq_true_eq, reduceIte, decide_true, decide_false, Bool.not_true, Bool.not_false, Bool.false_eq_true, itemsOf, asInt, bi2, endOf, isTy, s_asg, s_par, s_own, s_parO, s_put, s_expr, s_ret, s_skip, s_seq, s_rel, x_asg, x_par, x_own, x_parO, x_put, x_expr, x_ret, x_retN, x_skip, x_rel, x_app, x_setI, x_sIf, x_for, x_brk, x_cnt]
  refine Ok.bnd' 1880 (row_drawn_0 (most := 9) (by decide)) (by decide) ?_
  rintro row3 ⟨n3, e3, h3a, h3b, h3c⟩
  have h3 : RowD 24 row3 := ⟨n3, e3, h3a, by omega, h3c⟩
  simp only [x_var, x_con, x_bin, x_neg, x_cmp, x_chain, x_tTru, x_tNot, x_tAnd, x_tOr, x_tBool, x_tYes, x_not, x_and, x_or, x_if, x_b1, x_b2, x_is, x_idx, x_oNone, x_oSome, x_cut, x_aNil, x_aCons, x_tup, x_lst, x_call, x_callS,
    x_iSeq, x_iRng1, x_iRng2, x_bor, x_tBor, x_put1, List.map_cons, List.map_nil, List.cons_append, List.nil_append, List.length_cons, List.length_nil, Nat.zero_add, Nat.reduceAdd, Nat.reduceSub, List.reduceReplicate, start,
    List.getElem?_cons_zero, List.getElem?_cons_succ, List.set_cons_zero, List.set_cons_succ, bnd_ret, bnd_assoc, bnd_grd, b1_if, bnd_ite, small, Nat.reduceLeDiff, grd_true, o_add, o_sub, o_neg, o_eq, o_ne, o_lt, o_le, o_gt, o_ge, o_eqS, o_neS,
    decide_eq_true_eq, reduceIte, decide_true, decide_false, Bool.not_true, Bool.not_false, Bool.false_eq_true, itemsOf, asInt, bi2, endOf, isTy, s_asg, s_par, s_own, s_parO, s_put, s_expr, s_ret, s_skip, s_seq, s_rel, x_asg, x_par, x_own, x_parO, x_put, x_expr, x_ret, x_retN, x_skip, x_rel, x_app, x_setI, x_sIf, x_for, x_brk, x_cnt]
  refine for_ok (b := 0) (fun _ E => ∃ e2 e3 e4 e5 e6, E = [.unk, .stm, e2, e3, e4, e5, e6]) ⟨_, _, _, _, _, rfl⟩ (by simp) ?_ fun E _ => True.intro
  rintro j d E hj ⟨e2, e3, e4, e5, e6, rfl⟩
  have hd : RowD 24 d := by
    have := List.mem_of_getElem? hj
    simp only [List.mem_cons, List.not_mem_nil, or_false] at this
    rcases this with rfl | rfl | rfl | rfl <;> assumption
  obtain ⟨ns, rfl, n1, n2, hn⟩ := hd
  have n2' : ns.length ≤ 24 := by omega
  have tm := tame_row n2' hn
  refine ⟨_, rfl, ?_⟩
  simp only [x_var, x_con, x_bin, x_neg, x_cmp, x_chain, x_tTru, x_tNot, x_tAnd, x_tOr, x_tBool, x_tYes, x_not, x_and, x_or, x_if, x_b1, x_b2, x_is, x_idx, x_oNone, x_oSome, x_cut, x_aNil, x_aCons, x_tup, x_lst, x_call, x_callS,
    x_iSeq, x_iRng1, x_iRng2, x_bor, x_tBor, x_put1, List.map_cons, List.map_nil, List.cons_append, List.nil_append, List.length_cons, List.length_nil, Nat.zero_add, Nat.reduceAdd, Nat.reduceSub, List.reduceReplicate, start,
    List.getElem?_cons_zero, List.getElem?_cons_succ, List.set_cons_zero, List.set_cons_succ, bnd_ret, bnd_assoc, bnd_grd, b1_if, bnd_ite, small, Nat.reduceLeDiff, grd_true, o_add, o_sub, o_neg, o_eq, o_ne, o_lt, o_le, o_gt, o_ge, o_eqS, o_neS,
    decide_eq_true_eq, reduceIte, decide_true, decide_false, Bool.not_true, Bool.not_false, Bool.false_eq_true, itemsOf, asInt, bi2, endOf, isTy, s_asg, s_par, s_own, s_parO, s_put, s_expr, s_ret, s_skip, s_seq, s_rel, x_asg, x_par, x_own, x_parO, x_put, x_expr, x_ret, x_retN, x_skip, x_rel, x_app, x_setI, x_sIf, x_for, x_brk, x_cnt]
  rw [x_repr tm (by decide) (by decide)]
  simp only [x_var, x_con, x_bin, x_neg, x_cmp, x_chain, x_tTru, x_tNot, x_tAnd, x_tOr, x_tBool, x_tYes, x_not, x_and, x_or, x_if, x_b1, x_b2, x_is, x_idx, x_oNone, x_oSome, x_cut, x_aNil, x_aCons, x_tup, x_lst, x_call, x_callS,
    x_iSeq, x_iRng1, x_iRng2, x_bor, x_tBor, x_put1, List.map_cons, List.map_nil, List.cons_append, List.nil_append, List.length_cons, List.length_nil, Nat.zero_add, Nat.reduceAdd, Nat.reduceSub, List.reduceReplicate, start,
    List.getElem?_cons_zero, List.getElem?_cons_succ, List.set_cons_zero, List.set_cons_succ, bnd_ret, bnd_assoc, bnd_grd, b1_if, bnd_ite, small, Nat.reduceLeDiff, grd_true, o_add, o_sub, o_neg, o_eq, o_ne, o_lt, o_le, o_gt, o_ge, o_eqS, o_neS,
    decide_eq_true_eq, reduceIte, decide_true, decide_false, Bool.not_true, Bool.not_false, Bool.false_eq_true, itemsOf, asInt, bi2, endOf, isTy, s_asg, s_par, s_own, s_parO, s_put, s_expr, s_ret, s_skip, s_seq, s_rel, x_asg, x_par, x_own, x_parO, x_put, x_expr, x_ret, x_retN, x_skip, x_rel, x_app, x_setI, x_sIf, x_for, x_brk, x_cnt, bi1, List.length_map]
  generalize hsh : (PyData.tuple (ns.map PyData.int)).shown = sh
  refine Ok.seq 0 (n := 0) (fun E => ∃ e4 e5 e6, E = [.unk, .stm, .val (.tuple (ns.map PyData.int)), .val (.str sh), e4, e5, e6]) ?_ (Nat.le_refl _) ?_
  · simp only [x_var, x_con, x_bin, x_neg, x_cmp, x_chain, x_tTru, x_tNot, x_tAnd, x_tOr, x_tBool, x_tYes, x_not, x_and, x_or, x_if, x_b1, x_b2, x_is, x_idx, x_oNone, x_oSome, x_cut, x_aNil, x_aCons, x_tup, x_lst, x_call, x_callS,
    x_iSeq, x_iRng1, x_iRng2, x_bor, x_tBor, x_put1, List.map_cons, List.map_nil, List.cons_append, List.nil_append, List.length_cons, List.length_nil, Nat.zero_add, Nat.reduceAdd, Nat.reduceSub, List.reduceReplicate, start,
    List.getElem?_cons_zero, List.getElem?_cons_succ, List.set_cons_zero, List.set_cons_succ, bnd_ret, bnd_assoc, bnd_grd, b1_if, bnd_ite, small, Nat.reduceLeDiff, grd_true, o_add, o_sub, o_neg, o_eq, o_ne, o_lt, o_le, o_gt, o_ge, o_eqS, o_neS,
    decide_eq_true_eq, reduceIte, decide_true, decide_false, Bool.not_true, Bool.not_false, Bool.false_eq_true, itemsOf, asInt, bi2, endOf, isTy, s_asg, s_par, s_own, s_parO, s_put, s_expr, s_ret, s_skip, s_seq, s_rel, x_asg, x_par, x_own, x_parO, x_put, x_expr, x_ret, x_retN, x_skip, x_rel, x_app, x_setI, x_sIf, x_for, x_brk, x_cnt, bi1, List.length_map]
    rw [grd_pos (by unfold rngOk; omega)]
    refine for_ok (b := 0) (fun _ E => ∃ e4 e5 e6, E = [.unk, .stm, .val (.tuple (ns.map PyData.int)), .val (.str sh), e4, e5, e6]) ⟨_, _, _, rfl⟩ (by simp) ?_ fun E h => h
    rintro i d E hi ⟨e4, e5, e6, rfl⟩
    obtain ⟨rfl, hi2⟩ := rng_at hi
    rw [Int.zero_add] at hi2 ⊢
    refine ⟨_, rfl, ?_⟩
    simp only [x_var, x_con, x_bin, x_neg, x_cmp, x_chain, x_tTru, x_tNot, x_tAnd, x_tOr, x_tBool, x_tYes, x_not, x_and, x_or, x_if, x_b1, x_b2, x_is, x_idx, x_oNone, x_oSome, x_cut, x_aNil, x_aCons, x_tup, x_lst, x_call, x_callS,
    x_iSeq, x_iRng1, x_iRng2, x_bor, x_tBor, x_put1, List.map_cons, List.map_nil, List.cons_append, List.nil_append, List.length_cons, List.length_nil, Nat.zero_add, Nat.reduceAdd, Nat.reduceSub, List.reduceReplicate, start,
    List.getElem?_cons_zero, List.getElem?_cons_succ, List.set_cons_zero, List.set_cons_succ, bnd_ret, bnd_assoc, bnd_grd, b1_if, bnd_ite, small, Nat.reduceLeDiff, grd_true, o_add, o_sub, o_neg, o_eq, o_ne, o_lt, o_le, o_gt, o_ge, o_eqS, o_neS,
    decide_eq_true_eq, reduceIte, decide_true, decide_false, Bool.not_true, Bool.not_false, Bool.false_eq_true, itemsOf, asInt, bi2, endOf, isTy, s_asg, s_par, s_own, s_parO, s_put, s_expr, s_ret, s_skip, s_seq, s_rel, x_asg, x_par, x_own, x_parO, x_put, x_expr, x_ret, x_retN, x_skip, x_rel, x_app, x_setI, x_sIf, x_for, x_brk, x_cnt, bi1, List.length_map]
    rw [grd_pos (by unfold rngOk; omega)]
    refine for_ok (b := 0) (fun k E => ∃ e6, E = [.unk, .stm, .val (.tuple (ns.map PyData.int)), .val (.str sh), .val (.int i), .val (.int (extN ns i k)), e6]) ⟨_, by rw [extN_zero]⟩ (by simp) ?_ ?_
    · rintro k d E hk ⟨e6, rfl⟩
      obtain ⟨rfl, hk2⟩ := rng_at hk
      refine ⟨_, rfl, ?_⟩
      simp only [x_var, x_con, x_bin, x_neg, x_cmp, x_chain, x_tTru, x_tNot, x_tAnd, x_tOr, x_tBool, x_tYes, x_not, x_and, x_or, x_if, x_b1, x_b2, x_is, x_idx, x_oNone, x_oSome, x_cut, x_aNil, x_aCons, x_tup, x_lst, x_call, x_callS,
    x_iSeq, x_iRng1, x_iRng2, x_bor, x_tBor, x_put1, List.map_cons, List.map_nil, List.cons_append, List.nil_append, List.length_cons, List.length_nil, Nat.zero_add, Nat.reduceAdd, Nat.reduceSub, List.reduceReplicate, start,
    List.getElem?_cons_zero, List.getElem?_cons_succ, List.set_cons_zero, List.set_cons_succ, bnd_ret, bnd_assoc, bnd_grd, b1_if, bnd_ite, small, Nat.reduceLeDiff, grd_true, o_add, o_sub, o_neg, o_eq, o_ne, o_lt, o_le, o_gt, o_ge, o_eqS, o_neS,
    decide_eq_true_eq, reduceIte, decide_true, decide_false, Bool.not_true, Bool.not_false, Bool.false_eq_true, itemsOf, asInt, bi2, endOf, isTy, s_asg, s_par, s_own, s_parO, s_put, s_expr, s_ret, s_skip, s_seq, s_rel, x_asg, x_par, x_own, x_parO, x_put, x_expr, x_ret, x_retN, x_skip, x_rel, x_app, x_setI, x_sIf, x_for, x_brk, x_cnt]
      have hlt : i + k < ns.length := by omega
      rw [idx_ints (by omega) (by omega)]
      have ei : ((i : Int) + k).toNat = i + k := by omega
      have hx : ns[i + k]? = some (ns[((i : Int) + k).toNat]'(by omega)) := by
        rw [← ei]
        exact List.getElem?_eq_getElem _
      have step := extN_succ hx
      rw [← ext_extN] at step
      simp only [x_var, x_con, x_bin, x_neg, x_cmp, x_chain, x_tTru, x_tNot, x_tAnd, x_tOr, x_tBool, x_tYes, x_not, x_and, x_or, x_if, x_b1, x_b2, x_is, x_idx, x_oNone, x_oSome, x_cut, x_aNil, x_aCons, x_tup, x_lst, x_call, x_callS,
    x_iSeq, x_iRng1, x_iRng2, x_bor, x_tBor, x_put1, List.map_cons, List.map_nil, List.cons_append, List.nil_append, List.length_cons, List.length_nil, Nat.zero_add, Nat.reduceAdd, Nat.reduceSub, List.reduceReplicate, start,
    List.getElem?_cons_zero, List.getElem?_cons_succ, List.set_cons_zero, List.set_cons_succ, bnd_ret, bnd_assoc, bnd_grd, b1_if, bnd_ite, small, Nat.reduceLeDiff, grd_true, o_add, o_sub, o_neg, o_eq, o_ne, o_lt, o_le, o_gt, o_ge, o_eqS, o_neS,
    decide_eq_true_eq, reduceIte, decide_true, decide_false, Bool.not_true, Bool.not_false, Bool.false_eq_true, itemsOf, asInt, bi2, endOf, isTy, s_asg, s_par, s_own, s_parO, s_put, s_expr, s_ret, s_skip, s_seq, s_rel, x_asg, x_par, x_own, x_parO, x_put, x_expr, x_ret, x_retN, x_skip, x_rel, x_app, x_setI, x_sIf, x_for, x_brk, x_cnt]
      rw [← step, show ((i : Int) + k) = ((i + k : Nat) : Int) by omega, extent_0 (by omega) hlt]
      have hb := ext_bound hn (show i ≤ i + k by omega) hlt n2'
      have t2 := tame_two (a := ext ns i (i + k)) (b := ext ns i (i + k)) (by omega) (by omega)
      simp only [x_var, x_con, x_bin, x_neg, x_cmp, x_chain, x_tTru, x_tNot, x_tAnd, x_tOr, x_tBool, x_tYes, x_not, x_and, x_or, x_if, x_b1, x_b2, x_is, x_idx, x_oNone, x_oSome, x_cut, x_aNil, x_aCons, x_tup, x_lst, x_call, x_callS,
    x_iSeq, x_iRng1, x_iRng2, x_bor, x_tBor, x_put1, List.map_cons, List.map_nil, List.cons_append, List.nil_append, List.length_cons, List.length_nil, Nat.zero_add, Nat.reduceAdd, Nat.reduceSub, List.reduceReplicate, start,
    List.getElem?_cons_zero, List.getElem?_cons_succ, List.set_cons_zero, List.set_cons_succ, bnd_ret, bnd_assoc, bnd_grd, b1_if, bnd_ite, small, Nat.reduceLeDiff, grd_true, o_add, o_sub, o_neg, o_eq, o_ne, o_lt, o_le, o_gt, o_ge, o_eqS, o_neS,
    decide_eq_true_eq, reduceIte, decide_true, decide_false, Bool.not_true, Bool.not_false, Bool.false_eq_true, itemsOf, asInt, bi2, endOf, isTy, s_asg, s_par, s_own, s_parO, s_put, s_expr, s_ret, s_skip, s_seq, s_rel, x_asg, x_par, x_own, x_parO, x_put, x_expr, x_ret, x_retN, x_skip, x_rel, x_app, x_setI, x_sIf, x_for, x_brk, x_cnt]
      rw [x_repr t2 (by decide) (by decide)]
      simp only [x_var, x_con, x_bin, x_neg, x_cmp, x_chain, x_tTru, x_tNot, x_tAnd, x_tOr, x_tBool, x_tYes, x_not, x_and, x_or, x_if, x_b1, x_b2, x_is, x_idx, x_oNone, x_oSome, x_cut, x_aNil, x_aCons, x_tup, x_lst, x_call, x_callS,
    x_iSeq, x_iRng1, x_iRng2, x_bor, x_tBor, x_put1, List.map_cons, List.map_nil, List.cons_append, List.nil_append, List.length_cons, List.length_nil, Nat.zero_add, Nat.reduceAdd, Nat.reduceSub, List.reduceReplicate, start,
    List.getElem?_cons_zero, List.getElem?_cons_succ, List.set_cons_zero, List.set_cons_succ, bnd_ret, bnd_assoc, bnd_grd, b1_if, bnd_ite, small, Nat.reduceLeDiff, grd_true, o_add, o_sub, o_neg, o_eq, o_ne, o_lt, o_le, o_gt, o_ge, o_eqS, o_neS,
    decide_eq_true_eq, reduceIte, decide_true, decide_false, Bool.not_true, Bool.not_false, Bool.false_eq_true, itemsOf, asInt, bi2, endOf, isTy, s_asg, s_par, s_own, s_parO, s_put, s_expr, s_ret, s_skip, s_seq, s_rel, x_asg, x_par, x_own, x_parO, x_put, x_expr, x_ret, x_retN, x_skip, x_rel, x_app, x_setI, x_sIf, x_for, x_brk, x_cnt]
      exact Ok.ret ⟨_, by rw [ext_extN]⟩
    · rintro E ⟨e6, rfl⟩
      exact ⟨_, _, _, rfl⟩
  · rintro E ⟨e4, e5, e6, rfl⟩
    simp only [x_var, x_con, x_bin, x_neg, x_cmp, x_chain, x_tTru, x_tNot, x_tAnd, x_tOr, x_tBool, x_tYes, x_not, x_and, x_or, x_if, x_b1, x_b2, x_is, x_idx, x_oNone, x_oSome, x_cut, x_aNil, x_aCons, x_tup, x_lst, x_call, x_callS,
    x_iSeq, x_iRng1, x_iRng2, x_bor, x_tBor, x_put1, List.map_cons, List.map_nil, List.cons_append, List.nil_append, List.length_cons, List.length_nil, Nat.zero_add, Nat.reduceAdd, Nat.reduceSub, List.reduceReplicate, start,
    List.getElem?_cons_zero, List.getElem?_cons_succ, List.set_cons_zero, List.set_cons_succ, bnd_ret, bnd_assoc, bnd_grd, b1_if, bnd_ite, small, Nat.reduceLeDiff, grd_true, o_add, o_sub, o_neg, o_eq, o_ne, o_lt, o_le, o_gt, o_ge, o_eqS, o_neS,
    decide_eq_true_eq, reduceIte, decide_true, decide_false, Bool.not_true, Bool.not_false, Bool.false_eq_true, itemsOf, asInt, bi2, endOf, isTy, s_asg, s_par, s_own, s_parO, s_put, s_expr, s_ret, s_skip, s_seq, s_rel, x_asg, x_par, x_own, x_parO, x_put, x_expr, x_ret, x_retN, x_skip, x_rel, x_app, x_setI, x_sIf, x_for, x_brk, x_cnt]
    rw [x_repr tm (by decide) (by decide), hsh]
    simp only [x_var, x_con, x_bin, x_neg, x_cmp, x_chain, x_tTru, x_tNot, x_tAnd, x_tOr, x_tBool, x_tYes, x_not, x_and, x_or, x_if, x_b1, x_b2, x_is, x_idx, x_oNone, x_oSome, x_cut, x_aNil, x_aCons, x_tup, x_lst, x_call, x_callS,
    x_iSeq, x_iRng1, x_iRng2, x_bor, x_tBor, x_put1, List.map_cons, List.map_nil, List.cons_append, List.nil_append, List.length_cons, List.length_nil, Nat.zero_add, Nat.reduceAdd, Nat.reduceSub, List.reduceReplicate, start,
    List.getElem?_cons_zero, List.getElem?_cons_succ, List.set_cons_zero, List.set_cons_succ, bnd_ret, bnd_assoc, bnd_grd, b1_if, bnd_ite, small, Nat.reduceLeDiff, grd_true, o_add, o_sub, o_neg, o_eq, o_ne, o_lt, o_le, o_gt, o_ge, o_eqS, o_neS,
    decide_eq_true_eq, reduceIte, decide_true, decide_false, Bool.not_true, Bool.not_false, Bool.false_eq_true, itemsOf, asInt, bi2, endOf, isTy, s_asg, s_par, s_own, s_parO, s_put, s_expr, s_ret, s_skip, s_seq, s_rel, x_asg, x_par, x_own, x_parO, x_put, x_expr, x_ret, x_retN, x_skip, x_rel, x_app, x_setI, x_sIf, x_for, x_brk, x_cnt]
    exact Ok.ret ⟨_, _, _, _, _, rfl⟩
end DL

end

theorem PySem.Challenge.cw_wrapwidths_k03_extents_of_stretches_holds : PySem.Challenge.rw_wrapwidths_k03_extents_of_stretches.Holds :=
  Wk03.end_ DL.math_k03
