import PyProof.Rows.All
import Wide.All
import OpenK.AllK
import Wide.FinOn
import HandS.Nested
import HandS.ForMost
import HandS.Wide
import HandS.WideBits
import HandS.Deep
import HandS.MakeKw
import HandS.MakeKwOnly
import HandS.Text
import HandS.FStr
import HandS.More
import KE.SortData
import HandS.TupAny
import HandS.TupMul
import HandS.Flow
import HandS.Exc
import HandS.ExcOwn
import HandS.WordsExc
import HandS.IsInst
import HandS.Defaults
import KE.GoesEnumKw
import KE.KDictZip
import KE.SortKeyHeap
import HandS.SortKw
import OpenK.KOps
import HandS.HeadHook4
import HandS.HeadWalk
import HandS.EndTab
import KE.KStateDown
import HandS.Head0
import HandS.Head1
import HandS.Head2
import HandS.HeadEnd
import PySem.Challenge.RW_lightshares_k37_names_too_near
set_option Elab.async false
set_option linter.all false
set_option maxRecDepth 100000
/-! LiCore: a small language over plain values, as predicate transformers. Tuples, lists that nobody changes and instances that nobody changes are plain values; what is changed is a cell of a store. -/
namespace Li
open PySem

/-- a value; adr: a cell of the store (or a def, a class); scr: the law's script -/
inductive Val where
  | non | bl (b : Bool) | int (i : Int) | str (x : Str) | adr (a : Addr) | scr (ns : List Int)
  | tup (vs : List Val) | lst (vs : List Val) | ins (C : Addr) (ns : List Str) (vs : List Val) | dct (ks : List L2.Key) (vs : List Val) | clo (f : Addr) (F : NdefX.NF)
instance : Inhabited Val := ⟨.non⟩
/-- what may change -/
inductive Cell where
  | lst (vs : List Val) | obj (C : Addr) (fs : List (Str × Val)) | dK (kvs : List (L2.Key × Val))
abbrev Sto := Addr → Option Cell
def Sto.set (S : Sto) (a : Addr) (c : Cell) : Sto := fun b => if b = a then some c else S b
def Sto.del (S : Sto) (a : Addr) : Sto := fun b => if b = a then none else S b
theorem Sto.set_same {S : Sto} {a : Addr} {c : Cell} : S.set a c a = some c := if_pos rfl
theorem Sto.set_ne {S : Sto} {a b : Addr} {c : Cell} (h : b ≠ a) : S.set a c b = S b := if_neg h
theorem Sto.del_same {S : Sto} {a : Addr} : S.del a a = none := if_pos rfl
theorem Sto.del_ne {S : Sto} {a b : Addr} (h : b ≠ a) : S.del a b = S b := if_neg h
theorem Sto.set_set {S : Sto} {a : Addr} {c d : Cell} : (S.set a c).set a d = S.set a d := by
  funext b
  unfold Sto.set
  split <;> rfl
theorem Sto.set_del {S : Sto} {a : Addr} {c : Cell} (h : S a = none) : (S.set a c).del a = S := by
  funext b
  by_cases e : b = a
  · rw [e, Sto.del_same, h]
  · rw [Sto.del_ne e, Sto.set_ne e]
theorem Sto.set_back {S : Sto} {a : Addr} {c : Cell} (h : S a = some c) : S.set a c = S := by
  funext b
  by_cases e : b = a
  · rw [e, Sto.set_same, h]
  · rw [Sto.set_ne e]
/-- an exception: its class, its fields -/
structure Exc where
  C : Addr
  fs : List (Str × Val)
abbrev VQ := Val → Sto → Prop
abbrev EQ := Exc → Sto → Prop
/-- what a def does: arguments, store, what is wanted behind it, what is wanted of what it raises -/
structure ISp where
  run : List Val → Sto → VQ → EQ → Prop
  mono : ∀ {vs S Q Q' R R'}, (∀ v S', Q v S' → Q' v S') → (∀ x S', R x S' → R' x S') → run vs S Q R → run vs S Q' R'
/-- by what it is asked, what it wants, what it leaves -/
def mkSp {α : Type} (enc : α → List Val) (pre : α → Sto → Prop) (post : α → Sto → Val → Sto → Prop) : ISp where
  run := fun vs S Q _ => ∃ a, vs = enc a ∧ pre a S ∧ ∀ v S', post a S v S' → Q v S'
  mono := fun hQ _ ⟨a, h1, h2, h3⟩ => ⟨a, h1, h2, fun v S' h => hQ v S' (h3 v S' h)⟩
/-- a pure one: a value, the store as it was -/
def puSp {α : Type} (enc : α → List Val) (pre : α → Prop) (res : α → Val) : ISp where
  run := fun vs S Q _ => ∃ a, vs = enc a ∧ pre a ∧ Q (res a) S
  mono := fun hQ _ ⟨a, h1, h2, h3⟩ => ⟨a, h1, h2, hQ _ _ h3⟩
/-- a name of the module -/
inductive G where
  | none
  | val (v : Val)
  | fn (sp : ISp) (n : Nat) (dfl : List Val)
  /-- a def called with np values and keywords ks; arr: from where its parameters come, in their order -/
  | fnk (sp : ISp) (n np : Nat) (ks : List Str) (arr : List (Nat ⊕ Val))
  /-- a class, made by its __init__; fz: its instances don't change -/
  | cls (C : Addr) (fz : Bool) (sp : ISp) (n : Nat) (dfl : List Val)
  /-- a class made by keywords -/
  | clk (C : Addr) (fz : Bool) (sp : ISp) (n np : Nat) (ks : List Str) (arr : List (Nat ⊕ Val))
/-- a def within the def: which functions it makes, how many arguments, where the names stand that it captures, what it does (arguments, then captured values) -/
structure LF where
  ok : NdefX.NF → Prop
  n : Nat
  cap : List Nat
  sp : ISp
def LF.none : LF := ⟨fun _ => False, 0, [], ⟨fun _ _ _ _ => False, fun _ _ h => h⟩⟩
structure Cxt where
  D : Nat → G
  /-- the class at C lets its instances have a field f -/
  A : Addr → Str → Prop
  er : EQ
  L : Nat → LF := fun _ => LF.none
  /-- what a class's instances have by a name, called with these keywords -/
  M : Addr → Str → List Str → G := fun _ _ _ => .none
/-- where nothing may be raised -/
def Cxt.nox (c : Cxt) : Cxt := { c with er := fun _ _ => False }

/-! ### the text -/
inductive Ty where
  | int | bool | str | tup | lst | cls (g : Nat)
inductive Tg where
  | one (i : Nat) | many (ts : List Nat)
/-- built-in functions -/
inductive Bf where
  | len | abs | int | str | repr | tuple | list | sum | min | max | all | any | sorted | isi (t : Ty)
/-- methods of built-in types -/
inductive Bm where
  | append | get | pop | insert | extend
mutual
inductive E where
  | var (i : Nat)
  | lit (v : Val)
  | glob (g : Nat)
  | bin (o : Operator) (a b : E)
  | neg (a : E)
  | cmp (o : CmpOp) (a b : E)
  | chain (o p : CmpOp) (a b c : E)
  | land (a b : E)
  | lor (a b : E)
  | lnot (a : E)
  | ife (c a b : E)
  | tup (es : Es)
  | lst (es : Es)
  | idx (a i : E)
  | slc (a : E) (lo hi : Eo)
  | call (g : Nat) (es : Es) (dn : Nat)
  /-- a call of the local def j, which slot i holds -/
  | calln (j i : Nat) (es : Es)
  | callk (g : Nat) (es : Es) (ks : List Str) (kes : Es)
  | bf (f : Bf) (es : Es)
  | bm (m : Bm) (o : E) (es : Es)
  | attr (o : E) (f : Str)
  | comp (elt : E) (t : Tg) (it : It) (ifs : Eo) (own : List Nat)
  /-- sorted(.., key=len) -/
  | srtLen (e : E)
  /-- dict(zip(a, b, strict=True)) -/
  | dzip (a b : E)
  /-- what is never reached -/
  | dead
  /-- o.m(..), m a method of an own class -/
  | callm (o : E) (m : Str) (es : Es) (dn : Nat)
  | callmk (o : E) (m : Str) (es : Es) (ks : List Str) (kes : Es)
  /-- a[i] of a dict -/
  | dget (a i : E)
  /-- i in a, i not in a, of a dict -/
  | din (neg : Bool) (i a : E)
  /-- len(o) of an own class -/
  | lenm (o : E)
inductive Es where
  | nil
  | cons (e : E) (r : Es)
inductive Eo where
  | no
  | so (e : E)
inductive It where
  | seq (e : E)
  | rng (a b : E)
  | rng1 (b : E)
  | enum (e : E)
  | zip (a b : E)
  /-- the pairs of a dict -/
  | items (e : E)
end
mutual
inductive Sm where
  | set (i : Nat) (e : E)
  /-- a name whose list is changed afterwards -/
  | setc (i : Nat) (e : E)
  /-- def .., kept in slot i -/
  | ndef (i j : Nat)
  | unp (ts : List Nat) (e : E)
  | par (i j : Nat) (ci cj : Bool) (a b : E)
  | aug (i : Nat) (o : Operator) (e : E)
  | sub (a i e : E)
  | asub (a i : E) (o : Operator) (e : E)
  | att (o : E) (f : Str) (e : E)
  /-- a field whose list is changed afterwards -/
  | attc (o : E) (f : Str) (e : E)
  /-- a name of a new dict -/
  | setd (i : Nat)
  /-- a[i] = e of a dict -/
  | dput (a i e : E)
  | dead
  | ex (e : E)
  /-- fr: the names whose cells end here -/
  | ret (e : E) (fr : List Nat)
  /-- the list handed back may be changed by whoever asked -/
  | retc (e : E)
  | retn (fr : List Nat)
  | ifs (c : E) (a b : Ss)
  | whl (c : E) (b : Ss)
  | forr (t : Tg) (it : It) (b : Ss)
  | raise (g : Nat) (es : Es)
  | pass | brk | cont
inductive Ss where
  | nil
  | cons (s : Sm) (r : Ss)
end

/-! ### values -/
abbrev Env := List (Option Val)
def optQ {α : Type} : Option α → (α → Prop) → Prop
  | some x, Q => Q x
  | none, _ => False
def brV : Option Bool → Prop → Prop → Prop
  | some true, A, _ => A
  | some false, _, B => B
  | none, _, _ => False
def intQ : Val → (Int → Prop) → Prop
  | .int i, Q => Q i
  | _, _ => False
def adrQ : Val → (Addr → Prop) → Prop
  | .adr a, Q => Q a
  | _, _ => False
def lstQ : Val → (List Val → Prop) → Prop
  | .lst vs, Q => Q vs
  | _, _ => False
def tupQ : Val → (List Val → Prop) → Prop
  | .tup vs, Q => Q vs
  | _, _ => False
def objQ (S : Sto) (a : Addr) (Q : Addr → List (Str × Val) → Prop) : Prop := match S a with
  | some (.obj C fs) => Q C fs
  | _ => False
def celQ (S : Sto) (a : Addr) (Q : List Val → Prop) : Prop := match S a with
  | some (.lst vs) => Q vs
  | _ => False
def slotQ (σ : Env) (i : Nat) (Q : Val → Prop) : Prop := match σ[i]? with
  | some (some v) => Q v
  | _ => False
def cloQ (σ : Env) (i : Nat) (Q : NdefX.NF → Prop) : Prop := match σ[i]? with
  | some (some (.clo _ F)) => Q F
  | _ => False
def capQ (σ : Env) : List Nat → (List Val → Prop) → Prop
  | [], Q => Q []
  | i :: r, Q => slotQ σ i fun v => capQ σ r fun vs => Q (v :: vs)
def gvalQ : G → (Val → Prop) → Prop
  | .val v, Q => Q v
  | _, _ => False
def asL (S : Sto) : Val → Option (List Val)
  | .lst vs => some vs
  | .adr a => match S a with
    | some (.lst vs) => some vs
    | _ => none
  | _ => none
def asInts : List Val → Option (List Int)
  | [] => some []
  | .int i :: r => (asInts r).map (i :: ·)
  | _ :: _ => none
def asBools : List Val → Option (List Bool)
  | [] => some []
  | .bl i :: r => (asBools r).map (i :: ·)
  | _ :: _ => none
def truV (S : Sto) : Val → Option Bool
  | .non => some false
  | .bl b => some b
  | .int i => some (i != 0)
  | .str x => if x.length ≤ sizeLine then some ((x.length : Int) != 0) else none
  | .tup vs => some (!vs.isEmpty)
  | .lst vs => some (!vs.isEmpty)
  | .adr a => match S a with
    | some (.lst vs) => some (!vs.isEmpty)
    | _ => none
  | _ => none
def lenV (S : Sto) : Val → Option Nat
  | .str x => if x.length ≤ sizeLine then some x.length else none
  | .tup vs => some vs.length
  | .scr ns => some ns.length
  | v => (asL S v).map (·.length)
def cut {α : Type} (xs : List α) (lo hi : Option Int) : List α := (xs.drop (HT.sIx xs.length 0 lo)).take (HT.sIx xs.length xs.length hi - HT.sIx xs.length 0 lo)
mutual
/-- data, for == -/
def toPy0 : Val → Option PyData
  | .non => some .none
  | .bl b => some (.bool b)
  | .int i => some (.int i)
  | .str x => some (.str x)
  | .tup vs => (toPys0 vs).map .tuple
  | .lst vs => (toPys0 vs).map .list
  | _ => none
def toPys0 : List Val → Option (List PyData)
  | [] => some []
  | v :: r => match toPy0 v, toPys0 r with
    | some d, some ds => some (d :: ds)
    | _, _ => none
end
def toPy (S : Sto) : Val → Option PyData
  | .adr a => match S a with
    | some (.lst vs) => (toPys0 vs).map .list
    | _ => none
  | v => toPy0 v
def addV (S : Sto) (Q : Val → Prop) : Val → Val → Prop
  | .int i, .int j => Q (.int (i + j))
  | .str a, .str b => a.length + b.length ≤ sizeLine ∧ Q (.str (a ++ b))
  | .tup a, .tup b => a.length + b.length ≤ sizeLine ∧ Q (.tup (a ++ b))
  | x, y => optQ (asL S x) fun a => optQ (asL S y) fun b => a.length + b.length ≤ sizeLine ∧ Q (.lst (a ++ b))
def int2 (C : Int → Int → Prop) (g : Int → Int → Int) (Q : Val → Prop) : Val → Val → Prop
  | .int i, .int j => C i j ∧ Q (.int (g i j))
  | _, _ => False
def mulV (S : Sto) (Q : Val → Prop) : Val → Val → Prop
  | .int i, .int j => L2.CMulX i j ∧ Q (.int (i * j))
  | .tup vs, .int k => (vs ≠ [] ∧ 2 ≤ k ∧ k ≤ 1000 ∧ vs.length ≤ 1000) ∧ Q (.tup (List.replicate k.toNat vs).flatten)
  | _, _ => False
def binV (S : Sto) (o : Operator) (x y : Val) (Q : Val → Prop) : Prop :=
  match o with
  | .Add => addV S Q x y
  | .Sub => int2 (fun _ _ => True) (fun i j => i - j) Q x y
  | .Mult => mulV S Q x y
  | .FloorDiv => int2 L2.CDivW (fun i j => i / j) Q x y
  | .Mod => int2 (fun _ j => 0 < j) (fun i j => i % j) Q x y
  | .Pow => int2 L2.CPow (fun i j => i ^ j.toNat) Q x y
  | .LShift => int2 L2.CPow (fun i j => i * 2 ^ j.toNat) Q x y
  | .RShift => int2 (fun _ j => 0 ≤ j) (fun i j => i / 2 ^ j.toNat) Q x y
  | .BitAnd => int2 (fun _ _ => True) (fun i j => Builtin.bitAnd i j) Q x y
  | _ => False
/-- x op= y of ints and texts -/
def augV (o : Operator) (x y : Val) (Q : Val → Prop) : Prop :=
  match o with
  | .Add => int2 (fun _ _ => True) (fun i j => i + j) Q x y
  | .Sub => int2 (fun _ _ => True) (fun i j => i - j) Q x y
  | .Mult => int2 L2.CMulX (fun i j => i * j) Q x y
  | _ => False
/-- arguments in the parameters' order -/
def pickV : List (Nat ⊕ Val) → List Val → List Val
  | [], _ => []
  | .inl i :: r, xs => xs.getD i .non :: pickV r xs
  | .inr v :: r, xs => v :: pickV r xs
def keyQ : Val → (L2.Key → Prop) → Prop
  | .int i, Q => Q (.inl i)
  | .str x, Q => Q (.inr x)
  | _, _ => False
/-- what a dict holds -/
def dctV (S : Sto) : Val → Option (List (L2.Key × Val))
  | .dct ks vs => some (ks.zip vs)
  | .adr a => match S a with
    | some (.dK kvs) => some kvs
    | _ => none
  | _ => none
def lookK (kvs : List (L2.Key × Val)) (k : L2.Key) : Option Val := (kvs.find? fun kv => decide (kv.1 = k)).map (·.2)
def putKV (kvs : List (L2.Key × Val)) (k : L2.Key) (v : Val) : List (L2.Key × Val) :=
  if (kvs.any fun kv => decide (kv.1 = k)) = true then kvs.map (fun kv => if kv.1 = k then (kv.1, v) else kv) else kvs ++ [(k, v)]
def dctQC (S : Sto) (a : Addr) (Q : List (L2.Key × Val) → Prop) : Prop := match S a with
  | some (.dK kvs) => Q kvs
  | _ => False
def ltV (Q : Bool → Prop) : Val → Val → Prop
  | .int i, .int j => Q (decide (i < j))
  | .str a, .str b => Q (decide (a.cps.toList < b.cps.toList))
  | _, _ => False
def inD (Q : Bool → Prop) (d : PyData) : PyData → Prop
  | .list ds => SeqAt.shaped d = true ∧ SeqAt.shaped (.list ds) = true ∧ Q (ds.any fun z => PyData.eqv z d)
  | .tuple ds => SeqAt.shaped d = true ∧ SeqAt.shaped (.tuple ds) = true ∧ Q (ds.any fun z => PyData.eqv z d)
  | .str b => match d with
    | .str a => Q (!(Builtin.Str.occurrences b a 0 b.length 1).isEmpty)
    | _ => False
  | _ => False
def inV (S : Sto) (x y : Val) (Q : Bool → Prop) : Prop := optQ (toPy S x) fun d => optQ (toPy S y) fun e => inD Q d e
def cmpI (f : Int → Int → Bool) (Q : Bool → Prop) : Val → Val → Prop
  | .int i, .int j => Q (f i j)
  | _, _ => False
def eqV (S : Sto) (f : Bool → Bool) (x y : Val) (Q : Bool → Prop) : Prop := optQ (toPy S x) fun d => optQ (toPy S y) fun e => SeqAt.shaped d = true ∧ SeqAt.shaped e = true ∧ Q (f (PyData.eqv d e))
def isNon : Val → Bool
  | .non => true
  | _ => false
def cmpV (S : Sto) (o : CmpOp) (x y : Val) (Q : Bool → Prop) : Prop :=
  match o with
  | .Lt => ltV Q x y
  | .LtE => cmpI (fun i j => decide (i ≤ j)) Q x y
  | .Gt => cmpI (fun i j => decide (j < i)) Q x y
  | .GtE => cmpI (fun i j => decide (j ≤ i)) Q x y
  | .Eq => eqV S id x y Q
  | .NotEq => eqV S not x y Q
  | .Is => isNon y = true ∧ Q (isNon x)
  | .IsNot => isNon y = true ∧ Q (!isNon x)
  | .In => inV S x y Q
  | .NotIn => inV S x y fun b => Q (!b)
def idxV (S : Sto) (x y : Val) (Q : Val → Prop) : Prop :=
  intQ y fun i => match x with
    | .tup vs => optQ (L2.atI vs i) Q
    | .scr ns => optQ (L2.atI (ns.map Val.int) i) Q
    | .str z => z.length ≤ sizeLine ∧ optQ (L2.atI z.cps.toList i) fun c => Q (.str ⟨#[c]⟩)
    | x => optQ (asL S x) fun vs => optQ (L2.atI vs i) Q
def slcV (S : Sto) (x : Val) (lo hi : Option Int) (Q : Val → Prop) : Prop :=
  match x with
  | .tup vs => Q (.tup (cut vs lo hi))
  | .scr ns => Q (.lst (cut (ns.map Val.int) lo hi))
  | .str z => z.length ≤ sizeLine ∧ Q (.str (L2.cutS z lo hi))
  | x => optQ (asL S x) fun vs => Q (.lst (cut vs lo hi))
def fldV (A : Addr → Str → Prop) (S : Sto) (f : Str) (Q : Val → Prop) : Val → Prop
  | .ins C ns vs => A C f ∧ optQ ((ns.zip vs).lookup f) Q
  | .adr a => objQ S a fun C fs => A C f ∧ optQ (fs.lookup f) Q
  | _ => False
/-- a field stored -/
def putV (f : Str) (v : Val) : List (Str × Val) → List (Str × Val)
  | [] => [(f, v)]
  | (g, u) :: r => if g = f then (g, v) :: r else (g, u) :: putV f v r
def clsA : G → Option Addr
  | .cls C _ _ _ _ => some C
  | _ => none
def insA (S : Sto) : Val → Option Addr
  | .ins C _ _ => some C
  | .adr a => match S a with
    | some (.obj C _) => some C
    | _ => none
  | _ => none
def isiC (g : G) (S : Sto) (v : Val) : Option Bool := (clsA g).bind fun C => (insA S v).bind fun C' => if C' = C then some true else none
def isiT : Ty → Val → Option Bool
  | .int, .int _ => some true
  | .int, .bl _ => some true
  | .int, .tup _ => some false
  | .int, .lst _ => some false
  | .int, .str _ => some false
  | .int, .non => some false
  | .bool, .bl _ => some true
  | .bool, .int _ => some false
  | .tup, .tup _ => some true
  | .tup, .int _ => some false
  | .tup, .non => some false
  | .str, .str _ => some true
  | _, _ => none
def isiV (D : Nat → G) (S : Sto) (t : Ty) (v : Val) : Option Bool := match t with
  | .cls g => isiC (D g) S v
  | t => isiT t v
/-- sorted by what they read as -/
def srtD (vs : List Val) (ds : List PyData) : List Val := ((vs.zip ds).mergeSort (PySem.W.dataLe false Prod.snd)).map (·.1)
def bfV (D : Nat → G) (f : Bf) (vs : List Val) (S : Sto) (Q : Val → Prop) : Prop :=
  match f, vs with
  | .len, [x] => optQ (lenV S x) fun n => Q (.int n)
  | .abs, [x] => intQ x fun i => Q (.int (if i < 0 then -i else i))
  | .int, [.int i] => Q (.int i)
  | .int, [.bl b] => Q (.int (if b = true then 1 else 0))
  | .tuple, [.tup us] => Q (.tup us)
  | .tuple, [x] => optQ (asL S x) fun us => Q (.tup us)
  | .list, [.tup us] => Q (.lst us)
  | .list, [.scr ns] => Q (.lst (ns.map Val.int))
  | .list, [x] => optQ (asL S x) fun us => Q (.lst us)
  | .sum, [x] => optQ ((asL S x).bind asInts) fun ns => Q (.int ns.sum)
  | .min, [x, y] => intQ x fun i => intQ y fun j => Q (.int (if j < i then j else i))
  | .max, [x, y] => intQ x fun i => intQ y fun j => Q (.int (if i < j then j else i))
  | .min, [x] => optQ ((asL S x).bind asInts) fun ns => 0 < ns.length ∧ ∀ m, m ∈ ns → (∀ y ∈ ns, m ≤ y) → Q (.int m)
  | .all, [x] => optQ ((asL S x).bind asBools) fun bs => Q (.bl (bs.all id))
  | .any, [x] => optQ ((asL S x).bind asBools) fun bs => Q (.bl (bs.any id))
  | .isi t, [x] => optQ (isiV D S t x) fun b => Q (.bl b)
  | .sorted, [x] => optQ (asL S x) fun vs => optQ (toPys0 vs) fun ds => (PySem.W.AllAlike ds ∧ PySem.W.Sortable ds ∧ vs.length ≤ sizeLine ∧ ∀ d ∈ ds, d.depth ≤ 60) ∧ Q (.lst (srtD vs ds))
  | _, _ => False
def wipe (σ : Env) : List Nat → Env
  | [] => σ
  | v :: vs => (wipe σ vs).set v none
def asgs : List Nat → List Val → Env → (Env → Prop) → Prop
  | [], [], σ, k => k σ
  | i :: is, v :: vs, σ, k => asgs is vs (σ.set i (some v)) k
  | _, _, _, _ => False
def asg (t : Tg) (v : Val) (σ : Env) (k : Env → Prop) : Prop :=
  match t with
  | .one i => k (σ.set i (some v))
  | .many ts => tupQ v fun vs => asgs ts vs σ k
def enumV : Nat → List Val → List Val
  | _, [] => []
  | i, v :: r => .tup [.int i, v] :: enumV (i + 1) r
def rngV (lo : Int) : Nat → List Val
  | 0 => []
  | n + 1 => .int lo :: rngV (lo + 1) n
def callG (g : G) (vs : List Val) (dn : Nat) (S : Sto) (Q : VQ) (er : EQ) : Prop :=
  match g with
  | .fn sp n dfl => (vs ++ dfl.drop (dfl.length - dn)).length = n ∧ sp.run (vs ++ dfl.drop (dfl.length - dn)) S Q er
  | .cls C fz sp n dfl => (vs ++ dfl.drop (dfl.length - dn)).length + 1 = n ∧ ∀ x, S x = none → sp.run (.adr x :: (vs ++ dfl.drop (dfl.length - dn))) (S.set x (.obj C [])) (fun v S' => v = .non ∧ ∃ fs, S' x = some (.obj C fs) ∧ (if fz = true then Q (.ins C (fs.map (·.1)) (fs.map (·.2))) (S'.del x) else Q (.adr x) S')) er
  | _ => False
def callK (g : G) (vs ws : List Val) (S : Sto) (Q : VQ) (er : EQ) : Prop :=
  match g with
  | .fnk sp n np ks arr => vs.length = np ∧ ws.length = ks.length ∧ arr.length = n ∧ sp.run (pickV arr (vs ++ ws)) S Q er
  | .clk C fz sp n np ks arr => vs.length = np ∧ ws.length = ks.length ∧ arr.length + 1 = n ∧ ∀ x, S x = none → sp.run (.adr x :: pickV arr (vs ++ ws)) (S.set x (.obj C [])) (fun v S' => v = .non ∧ ∃ fs, S' x = some (.obj C fs) ∧ (if fz = true then Q (.ins C (fs.map (·.1)) (fs.map (·.2))) (S'.del x) else Q (.adr x) S')) er
  | _ => False
def esLen : Es → Nat
  | .nil => 0
  | .cons _ r => esLen r + 1
def isCalk : G → List Str → Nat → Prop
  | .fnk _ _ np ks _, ks', m => ks' = ks ∧ m = np
  | .clk _ _ _ _ np ks _, ks', m => ks' = ks ∧ m = np
  | _, _, _ => False
/-- a method of what stands at hand -/
def mthQ (c : Cxt) (S : Sto) (m : Str) (ks : List Str) (Q : G → Prop) : Val → Prop
  | .ins C ns _ => m ∉ ns ∧ Q (c.M C m ks)
  | .adr a => objQ S a fun C fs => fs.lookup m = none ∧ Q (c.M C m ks)
  | _ => False
def isFn : G → Prop
  | .fn _ _ _ => True
  | _ => False
def isFnk : G → Prop
  | .fnk _ _ _ _ _ => True
  | _ => False
/-- what can be called -/
def isCal : G → Prop
  | .fn _ _ _ => True
  | .cls _ _ _ _ _ => True
  | _ => False
/-- the turns of a comprehension -/
def compL (step : Val → Sto → (Option Val → Sto → Prop) → Prop) (chk : Sto → Prop) : List Val → List Val → Sto → (List Val → Sto → Prop) → Prop
  | [], acc, S, Q => chk S ∧ Q acc S
  | v :: r, acc, S, Q => chk S ∧ step v S fun o S' => match o with
    | some y => acc.length < sizeLine ∧ compL step chk r (acc ++ [y]) S' Q
    | none => compL step chk r acc S' Q
def tst (Q : Bool → Sto → Prop) : VQ := fun v S => optQ (truV S v) fun b => Q b S
/-- two rows alike long, as pairs -/
def zipV : List Val → List Val → List Val
  | a :: as, b :: bs => .tup [a, b] :: zipV as bs
  | _, _ => []
def keyV : L2.Key → Val
  | .inl i => .int i
  | .inr x => .str x
def itmV : List L2.Key → List Val → List Val
  | k :: ks, v :: vs => .tup [keyV k, v] :: itmV ks vs
  | _, _ => []
def seqV (S : Sto) : Val → Option (List Val)
  | .tup vs => some vs
  | .scr ns => some (ns.map Val.int)
  | v => asL S v
/-- what a loop walks -/
def itV (S : Sto) : Val → Option (List Val)
  | .str x => some (x.cps.toList.map fun c => Val.str ⟨#[c]⟩)
  | .dct ks _ => some (ks.map keyV)
  | v => seqV S v
/-- while a cell is walked it stays -/
def chkV (S : Sto) : Val → Sto → Prop
  | .adr a => fun S' => S' a = S a
  | _ => fun _ => True
/-- sorted(.., key=len) -/
def lensV : List Val → Option (List Nat)
  | [] => some []
  | .lst us :: r => (lensV r).map (us.length :: ·)
  | _ :: _ => none
def srtV (vs : List Val) (ls : List Nat) : List Val := ((vs.zip ls).mergeSort fun a b => decide (a.2 ≤ b.2)).map (·.1)
def getV : List L2.Key → List Val → L2.Key → Option Val
  | k :: ks, v :: vs, q => if k = q then some v else getV ks vs q
  | _, _, _ => none
def dctQ : Val → (List L2.Key → List Val → Prop) → Prop
  | .dct ks vs, Q => Q ks vs
  | _, _ => False
def bmV (m : Bm) (x : Val) (vs : List Val) (S : Sto) (Q : VQ) : Prop :=
  match m, vs with
  | .append, [v] => adrQ x fun a => celQ S a fun us => us.length < sizeLine ∧ Q .non (S.set a (.lst (us ++ [v])))
  | .pop, [] => adrQ x fun a => celQ S a fun us => optQ (us[us.length - 1]?) fun v => Q v (S.set a (.lst us.dropLast))
  | .pop, [k] => adrQ x fun a => celQ S a fun us => intQ k fun i => (-(2 ^ 63) ≤ i ∧ i < 2 ^ 63) ∧ optQ (seqIndex? i us.length) fun j => optQ (us[j]?) fun v => Q v (S.set a (.lst (us.eraseIdx j)))
  | .insert, [k, v] => adrQ x fun a => celQ S a fun us => intQ k fun i => (us.length < sizeLine ∧ 0 ≤ i ∧ i < 2 ^ 63) ∧ Q .non (S.set a (.lst (us.take i.toNat ++ [v] ++ us.drop i.toNat)))
  | .extend, [v] => adrQ x fun a => celQ S a fun us => lstQ v fun ws => us.length + ws.length ≤ sizeLine ∧ Q .non (S.set a (.lst (us ++ ws)))
  | .get, [k, d] => intQ k fun i => dctQ x fun ks us => Q ((getV ks us (.inl i)).getD d) S
  | _, _ => False
/-- a method's receiver, ahead of its arguments -/
def bmP (m : Bm) (x : Val) (S : Sto) : Prop := match m with
  | .append | .pop | .insert | .extend => adrQ x fun a => celQ S a fun _ => True
  | .get => dctQ x fun _ _ => True
mutual
def evE : Cxt → E → Env → Sto → VQ → Prop
  | c, .var i, σ, S, Q => slotQ σ i fun v => Q v S
  | c, .lit v, _, S, Q => Q v S
  | c, .glob g, _, S, Q => gvalQ (c.D g) fun v => Q v S
  | c, .bin o a b, σ, S, Q => evE c a σ S fun x S1 => evE c b σ S1 fun y S2 => binV S2 o x y fun v => Q v S2
  | c, .neg a, σ, S, Q => evE c a σ S fun x S1 => intQ x fun i => Q (.int (-i)) S1
  | c, .cmp o a b, σ, S, Q => evE c a σ S fun x S1 => evE c b σ S1 fun y S2 => cmpV S2 o x y fun k => Q (.bl k) S2
  | c, .chain o p a b d, σ, S, Q => evE c a σ S fun x S1 => evE c b σ S1 fun y S2 => cmpV S2 o x y fun k => brV (some k) (evE c d σ S2 (fun z S3 => cmpV S3 p y z fun k2 => Q (.bl k2) S3)) (Q (.bl false) S2)
  | c, .land a b, σ, S, Q => evE c a σ S fun x S1 => brV (truV S1 x) (evE c b σ S1 Q) (Q x S1)
  | c, .lor a b, σ, S, Q => evE c a σ S fun x S1 => brV (truV S1 x) (Q x S1) (evE c b σ S1 Q)
  | c, .lnot a, σ, S, Q => evE c a σ S fun x S1 => optQ (truV S1 x) fun b => Q (.bl (!b)) S1
  | c, .ife t a b, σ, S, Q => evE c t σ S fun x S1 => brV (truV S1 x) (evE c a σ S1 Q) (evE c b σ S1 Q)
  | c, .tup es, σ, S, Q => evEs c es σ S fun vs S1 => vs.length ≤ sizeLine ∧ Q (.tup vs) S1
  | c, .lst es, σ, S, Q => evEs c es σ S fun vs S1 => vs.length ≤ sizeLine ∧ Q (.lst vs) S1
  | c, .idx a i, σ, S, Q => evE c a σ S fun x S1 => evE c i σ S1 fun y S2 => idxV S2 x y fun v => Q v S2
  | c, .slc a lo hi, σ, S, Q => evE c a σ S fun x S1 => evI c lo σ S1 fun l S2 => evI c hi σ S2 fun h S3 => slcV S3 x l h fun v => Q v S3
  | c, .call g es dn, σ, S, Q => isCal (c.D g) ∧ evEs c es σ S fun vs S1 => callG (c.D g) vs dn S1 Q c.er
  | c, .calln j i es, σ, S, Q => cloQ σ i (c.L j).ok ∧ evEs c es σ S fun vs S1 => vs.length = (c.L j).n ∧ capQ σ (c.L j).cap fun cs => (c.L j).sp.run (vs ++ cs) S1 Q c.er
  | c, .callk g es ks kes, σ, S, Q => isCalk (c.D g) ks (esLen es) ∧ evEs c es σ S fun vs S1 => evEs c kes σ S1 fun ws S2 => callK (c.D g) vs ws S2 Q c.er
  | c, .bf f es, σ, S, Q => evEs c es σ S fun vs S1 => bfV c.D f vs S1 fun v => Q v S1
  | c, .bm m o es, σ, S, Q => evE c o σ S fun x S1 => bmP m x S1 ∧ evEs c es σ S1 fun vs S2 => bmV m x vs S2 Q
  | c, .attr o f, σ, S, Q => evE c o σ S fun x S1 => fldV c.A S1 f (fun v => Q v S1) x
  | c, .comp elt t it ifs own, σ, S, Q => evIt c it σ S fun items chk S1 =>
      compL (fun v S2 k => asg t v (wipe σ own) fun σ2 => evO c.nox ifs σ2 S2 fun b S3 => brV (some b) (evE c.nox elt σ2 S3 (fun y S4 => k (some y) S4)) (k none S3)) chk items [] S1 fun vs S5 => Q (.lst vs) S5
  | c, .srtLen e, σ, S, Q => evE c e σ S fun x S1 => optQ (asL S1 x) fun vs => optQ (lensV vs) fun ls => Q (.lst (srtV vs ls)) S1
  | c, .dzip a b, σ, S, Q => evE c a σ S fun x S1 => evE c b σ S1 fun y S2 => optQ (seqV S2 x) fun xs => optQ (seqV S2 y) fun ys => optQ (asInts xs) fun is => xs.length = ys.length ∧ is.Nodup ∧ Q (.dct (is.map Sum.inl) ys) S2
  | c, .dead, σ, S, Q => False
  | c, .callm o m es dn, σ, S, Q => evE c o σ S fun x S1 => mthQ c S1 m [] (fun g => isFn g ∧ evEs c es σ S1 fun vs S2 => callG g (x :: vs) dn S2 Q c.er) x
  | c, .callmk o m es ks kes, σ, S, Q => evE c o σ S fun x S1 => mthQ c S1 m ks (fun g => (isFnk g ∧ isCalk g ks (esLen es + 1)) ∧ evEs c es σ S1 fun vs S2 => evEs c kes σ S2 fun ws S3 => callK g (x :: vs) ws S3 Q c.er) x
  | c, .dget a i, σ, S, Q => evE c a σ S fun x S1 => evE c i σ S1 fun y S2 => keyQ y fun k => optQ (dctV S2 x) fun kvs => optQ (lookK kvs k) fun v => Q v S2
  | c, .din neg i a, σ, S, Q => evE c i σ S fun y S1 => evE c a σ S1 fun x S2 => keyQ y fun k => optQ (dctV S2 x) fun kvs => Q (.bl (neg != (lookK kvs k).isSome)) S2
  | c, .lenm o, σ, S, Q => evE c o σ S fun x S1 => mthQ c S1 (Str.ofString "__len__") [] (fun g => isFn g ∧ callG g [x] 0 S1 (fun v S2 => intQ v fun i => (0 ≤ i ∧ i < 2 ^ 63) ∧ Q (.int i) S2) c.er) x
def evEs : Cxt → Es → Env → Sto → (List Val → Sto → Prop) → Prop
  | c, .nil, _, S, Q => Q [] S
  | c, .cons e r, σ, S, Q => evE c e σ S fun v S1 => evEs c r σ S1 fun vs S2 => Q (v :: vs) S2
/-- a part of a slice -/
def evI : Cxt → Eo → Env → Sto → (Option Int → Sto → Prop) → Prop
  | c, .no, _, S, Q => Q none S
  | c, .so e, σ, S, Q => evE c e σ S fun v S1 => intQ v fun i => Q (some i) S1
/-- an if of a comprehension -/
def evO : Cxt → Eo → Env → Sto → (Bool → Sto → Prop) → Prop
  | c, .no, _, S, Q => Q true S
  | c, .so e, σ, S, Q => evE c e σ S (tst Q)
def evIt : Cxt → It → Env → Sto → (List Val → (Sto → Prop) → Sto → Prop) → Prop
  | c, .seq e, σ, S, Q => evE c e σ S fun v S1 => optQ (itV S1 v) fun vs => Q vs (chkV S1 v) S1
  | c, .rng a b, σ, S, Q => evE c a σ S fun x S1 => evE c b σ S1 fun y S2 => intQ x fun i => intQ y fun j => (-(2 ^ 62) ≤ i ∧ i < 2 ^ 62 ∧ -(2 ^ 62) ≤ j ∧ j < 2 ^ 62) ∧ Q (rngV i (j - i).toNat) (fun _ => True) S2
  | c, .rng1 b, σ, S, Q => evE c b σ S fun y S2 => intQ y fun j => (-(2 ^ 62) ≤ j ∧ j < 2 ^ 62) ∧ Q (rngV 0 j.toNat) (fun _ => True) S2
  | c, .enum e, σ, S, Q => evE c e σ S fun v S1 => optQ (seqV S1 v) fun vs => Q (enumV 0 vs) (chkV S1 v) S1
  | c, .zip a b, σ, S, Q => evE c a σ S fun x S1 => evE c b σ S1 fun y S2 => optQ (seqV S2 x) fun xs => optQ (seqV S2 y) fun ys => xs.length = ys.length ∧ Q (zipV xs ys) (fun S => chkV S2 x S ∧ chkV S2 y S) S2
  | c, .items e, σ, S, Q => evE c e σ S fun v S1 => dctQ v fun ks vs => Q (itmV ks vs) (fun _ => True) S1
end

/-! ### statements -/
structure DE where
  nx : Env → Sto → Prop
  rt : VQ
  bk : Env → Sto → Prop := fun _ _ => False
  ct : Env → Sto → Prop := fun _ _ => False
def forL (step : Val → DE → Env → Sto → Prop) (chk : Sto → Prop) : List Val → DE → Env → Sto → Prop
  | [], D, σ, S => chk S ∧ D.nx σ S
  | v :: r, D, σ, S => chk S ∧ step v { D with nx := forL step chk r D, ct := forL step chk r D, bk := D.nx } σ S
def whlN (t : Env → Sto → (Bool → Sto → Prop) → Prop) (body : DE → Env → Sto → Prop) : Nat → DE → Env → Sto → Prop
  | 0, _, _, _ => False
  | n + 1, D, σ, S => t σ S fun b S' => brV (some b) (body { D with nx := whlN t body n D, ct := whlN t body n D, bk := D.nx } σ S') (D.nx σ S')
/-- the cell of a name ends -/
def dropC (σ : Env) (S : Sto) (i : Nat) : Sto := match σ[i]? with
  | some (some (.adr a)) => (match S a with
    | some (.lst _) => S.del a
    | some (.dK _) => S.del a
    | _ => S)
  | _ => S
def setC (i : Nat) (v : Val) (σ : Env) (S : Sto) (k : Env → Sto → Prop) : Prop := lstQ v fun vs => ∀ a, S a = none → k (σ.set i (some (.adr a))) ((dropC σ S i).set a (.lst vs))
def setB (cl : Bool) (i : Nat) (v : Val) (σ : Env) (S : Sto) (k : Env → Sto → Prop) : Prop := match cl with
  | true => setC i v σ S k
  | false => k (σ.set i (some v)) S
mutual
def sbst (a : Addr) (w : Val) : Val → Val
  | .adr b => if b = a then w else .adr b
  | .tup vs => .tup (sbsts a w vs)
  | .lst vs => .lst (sbsts a w vs)
  | v => v
def sbsts (a : Addr) (w : Val) : List Val → List Val
  | [] => []
  | v :: r => sbst a w v :: sbsts a w r
end
/-- the cell of a name, if it is one that lists -/
def cellOf (σ : Env) (S : Sto) (i : Nat) : Option (Addr × Val) := match σ[i]? with
  | some (some (.adr a)) => (match S a with
    | some (.lst vs) => some (a, .lst vs)
    | some (.dK kvs) => some (a, .dct (kvs.map (·.1)) (kvs.map (·.2)))
    | _ => none)
  | _ => none
def frz1 (o : Option (Addr × Val)) (v : Val) (S : Sto) : Val × Sto := match o with
  | some (a, w) => (sbst a w v, S.del a)
  | none => (v, S)
/-- cells end, what is handed back is a plain value -/
def frz (σ : Env) : List Nat → Val → Sto → VQ → Prop
  | [], v, S, Q => Q v S
  | i :: r, v, S, Q => frz σ r (frz1 (cellOf σ S i) v S).1 (frz1 (cellOf σ S i) v S).2 Q
mutual
def evS (c : Cxt) : Sm → DE → Env → Sto → Prop
  | .set i e, D, σ, S => evE c e σ S fun v S1 => D.nx (σ.set i (some v)) S1
  | .setc i e, D, σ, S => evE c e σ S fun v S1 => setC i v σ S1 D.nx
  | .ndef i j, D, σ, S => ∀ f F, (c.L j).ok F → S f = none → D.nx (σ.set i (some (.clo f F))) S
  | .unp ts e, D, σ, S => evE c e σ S fun v S1 => asg (.many ts) v σ fun σ2 => D.nx σ2 S1
  | .par i j ci cj a b, D, σ, S => evE c a σ S fun x S1 => evE c b σ S1 fun y S2 => setB ci i x σ S2 fun σ2 S3 => setB cj j y σ2 S3 D.nx
  | .aug i o e, D, σ, S => slotQ σ i fun x => evE c e σ S fun y S1 => augV o x y fun v => D.nx (σ.set i (some v)) S1
  | .sub a i e, D, σ, S => evE c e σ S fun v S1 => evE c a σ S1 fun x S2 => evE c i σ S2 fun y S3 => adrQ x fun p => intQ y fun k => celQ S3 p fun vs => optQ (L2.ixN vs.length k) fun j => D.nx σ (S3.set p (.lst (vs.set j v)))
  | .asub a i o e, D, σ, S => evE c a σ S fun x S1 => evE c i σ S1 fun y S2 => adrQ x fun p => intQ y fun k => celQ S2 p fun vs => optQ (L2.ixN vs.length k) fun j => optQ (vs[j]?) fun old => evE c e σ S2 fun u S3 => augV o old u fun v => celQ S3 p fun vs3 => vs3.length = vs.length ∧ D.nx σ (S3.set p (.lst (vs3.set j v)))
  | .att o f e, D, σ, S => evE c e σ S fun v S1 => evE c o σ S1 fun x S2 => adrQ x fun p => objQ S2 p fun C fs => c.A C f ∧ fs.length < 1000 ∧ D.nx σ (S2.set p (.obj C (putV f v fs)))
  | .attc o f e, D, σ, S => evE c e σ S fun v S1 => lstQ v fun vs => ∀ a, S1 a = none → evE c o σ (S1.set a (.lst vs)) fun x S2 => adrQ x fun p => objQ S2 p fun C fs => c.A C f ∧ fs.length < 1000 ∧ D.nx σ (S2.set p (.obj C (putV f (.adr a) fs)))
  | .setd i, D, σ, S => ∀ a, S a = none → D.nx (σ.set i (some (.adr a))) ((dropC σ S i).set a (.dK []))
  | .dput a i e, D, σ, S => evE c e σ S fun v S1 => evE c a σ S1 fun x S2 => evE c i σ S2 fun y S3 => adrQ x fun p => keyQ y fun k => dctQC S3 p fun kvs => kvs.length < sizeLine ∧ D.nx σ (S3.set p (.dK (putKV kvs k v)))
  | .dead, D, σ, S => False
  | .ex e, D, σ, S => evE c e σ S fun _ S1 => D.nx σ S1
  | .ret e fr, D, σ, S => evE c e σ S fun v S1 => frz σ fr v S1 D.rt
  | .retc e, D, σ, S => evE c e σ S fun v S1 => lstQ v fun vs => ∀ a, S1 a = none → D.rt (.adr a) (S1.set a (.lst vs))
  | .retn fr, D, σ, S => frz σ fr .non S D.rt
  | .ifs t a b, D, σ, S => evE c t σ S (tst fun k S1 => brV (some k) (evSs c a D σ S1) (evSs c b D σ S1))
  | .whl t b, D, σ, S => ∃ n, whlN (fun σ S Q => evE c t σ S (tst Q)) (evSs c b) n D σ S
  | .forr t it b, D, σ, S => evIt c it σ S fun items chk S1 => forL (fun v D' σ' S' => asg t v σ' fun σ2 => evSs c b D' σ2 S') chk items D σ S1
  | .raise g es, D, σ, S => False
  | .pass, D, σ, S => D.nx σ S
  | .brk, D, σ, S => D.bk σ S
  | .cont, D, σ, S => D.ct σ S
def evSs (c : Cxt) : Ss → DE → Env → Sto → Prop
  | .nil, D, σ, S => D.nx σ S
  | .cons s r, D, σ, S => evS c s { D with nx := evSs c r D } σ S
end
/-- a def's body, from its arguments -/
def evD (c : Cxt) (b : Ss) (N : Nat) (fr : List Nat) (vs : List Val) (S : Sto) (Q : VQ) : Prop :=
  evSs c b { nx := fun σ S' => frz σ fr .non S' Q, rt := Q } (vs.map some ++ List.replicate (N - vs.length) none) S
end Li
set_option Elab.async false
set_option linter.all false
set_option maxRecDepth 100000
set_option maxHeartbeats 0
namespace L37
open PySem Li
def N__law_far : List Str := [("_law_one" : Str), ("_law_other" : Str), ("_law_look" : Str), ("_law_found" : Str), ("_law_light" : Str), ("_law_apart" : Str)]
def p__law_far : List Str := [("_law_one" : Str), ("_law_other" : Str), ("_law_look" : Str)]
def b__law_far : Ss := (.cons (.set 3 (.tup (.cons (.lit (.int 0)) (.cons (.lit (.int 1)) .nil))))
  (.cons (.forr (.one 4) (.rng1 (.lit (.int 3))) (.cons (.set 5 (.call 305 (.cons (.idx (.var 0) (.var 4)) (.cons (.idx (.var 1) (.var 4)) .nil)) 0))
  (.cons (.set 3 (.call 304 (.cons (.var 3) (.cons (.call 306 (.cons (.tup (.cons (.idx (.var 2) (.var 4)) (.cons (.lit (.int 1)) .nil))) (.cons (.call 306 (.cons (.var 5) (.cons (.var 5) .nil)) 0) .nil)) 0) .nil)) 0))
  .nil)))
  (.cons (.ret (.var 3) [])
  .nil)))
def N__law_right : List Str := [("_law_tome" : Str), ("_law_look" : Str), ("_law_rows" : Str), ("_law_bound" : Str), ("_law_due" : Str), ("_law_told" : Str), ("_law_pair" : Str)]
def p__law_right : List Str := [("_law_tome" : Str), ("_law_look" : Str), ("_law_rows" : Str), ("_law_bound" : Str)]
def b__law_right : Ss := (.cons (.set 4 (.call 316 (.cons (.var 2) (.cons (.var 1) (.cons (.var 3) .nil))) 0))
  (.cons (.forr (.one 5) (.seq (.lst (.cons (.call 46 (.cons (.var 0) (.cons (.var 3) .nil)) 0) (.cons (.callk 253 .nil [("limit" : Str), ("book" : Str)] (.cons (.var 3) (.cons (.var 0) .nil))) (.cons (.call 46 (.cons (.var 0) (.cons (.var 3) .nil)) 0) .nil))))) (.cons (.ifs (.lor (.lnot (.bf (.isi .tup) (.cons (.var 5) .nil))) (.lor (.cmp .NotEq (.var 5) (.var 4)) (.lnot (.bf .all (.cons (.comp (.bf (.isi .tup) (.cons (.var 6) .nil)) (.one 6) (.seq (.var 5)) .no [6]) .nil))))) (.cons (.ret (.lit (.bl false)) [])
  .nil) .nil)
  .nil))
  (.cons (.ret (.call 315 (.cons (.var 0) (.cons (.var 1) (.cons (.var 2) .nil))) 0) [])
  .nil)))
def N_law : List Str := [("_law_script" : Str), ("_law_k" : Str), ("_law_purse_here" : Str), ("_law_great" : Str), ("_law_tome" : Str), ("_law_look" : Str), ("_law_rows" : Str), ("_law_turn" : Str), ("_law_bound" : Str), ("_law_more" : Str), ("_law_pair" : Str)]
def p_law : List Str := [("_law_script" : Str)]
def b_law : Ss := (.cons (.forr (.one 1) (.rng1 (.bf .max (.cons (.lit (.int 2)) (.cons (.bf .min (.cons (.bf .len (.cons (.var 0) .nil)) (.cons (.lit (.int 5)) .nil))) .nil)))) (.cons (.set 2 (.call 301 (.cons (.call 300 (.cons (.var 0) (.cons (.var 1) .nil)) 0) .nil) 0))
  (.cons (.set 3 (.land (.cmp .Eq (.var 1) (.lit (.int 0))) (.cmp .Eq (.call 302 (.cons (.var 2) (.cons (.lit (.int 8)) .nil)) 0) (.lit (.int 1)))))
  (.cons (.unp [4, 5, 6] (.call 313 (.cons (.var 2) (.cons (.idx (.lst (.cons (.call 302 (.cons (.var 2) (.cons (.lit (.int 8)) .nil)) 0) (.cons (.lit (.int 24)) .nil))) (.bf .int (.cons (.var 3) .nil))) .nil)) 0))
  (.cons (.forr (.one 7) (.rng1 (.idx (.lst (.cons (.lit (.int 3)) (.cons (.lit (.int 1)) .nil))) (.bf .int (.cons (.var 3) .nil)))) (.cons (.set 8 (.call 314 (.cons (.var 2) (.cons (.var 6) (.cons (.var 5) .nil))) 0))
  (.cons (.ifs (.lnot (.call 317 (.cons (.var 4) (.cons (.var 5) (.cons (.var 6) (.cons (.var 8) .nil)))) 0)) (.cons (.ret (.lit (.bl false)) [])
  .nil) .nil)
  .nil)))
  (.cons (.set 9 (.call 46 (.cons (.var 4) (.cons (.tup (.cons (.lit (.int 1000)) (.cons (.lit (.int 1)) .nil))) .nil)) 0))
  (.cons (.ifs (.lnot (.bf .all (.cons (.comp (.cmp .In (.var 10) (.var 9)) (.one 10) (.seq (.call 46 (.cons (.var 4) (.cons (.var 8) .nil)) 0)) .no [10]) .nil))) (.cons (.ret (.lit (.bl false)) [])
  .nil) .nil)
  .nil)))))))
  (.cons (.ret (.cmp .Eq (.call 46 (.cons (.call 38 .nil 1) (.cons (.tup (.cons (.lit (.int 1)) (.cons (.lit (.int 1)) .nil))) .nil)) 0) (.tup .nil)) [])
  .nil))
end L37
set_option Elab.async false
set_option linter.all false
set_option maxRecDepth 100000
set_option maxHeartbeats 0
namespace Lt
open PySem Li
def N__law_cell : List Str := [("_law_script" : Str), ("_law_k" : Str), ("_law_state" : Str), ("_law_cell_here" : Str)]
def p__law_cell : List Str := [("_law_script" : Str), ("_law_k" : Str)]
def b__law_cell : Ss := (.cons (.ifs (.cmp .Lt (.var 1) (.bf .len (.cons (.var 0) .nil))) (.cons (.ret (.idx (.var 0) (.var 1)) [])
  .nil) .nil)
  (.cons (.set 2 (.bin .Mod (.bin .Mult (.lit (.int 60013)) (.bin .Add (.bin .Add (.bin .Mult (.var 1) (.var 1)) (.bin .Mult (.lit (.int 7)) (.var 1))) (.lit (.int 3)))) (.lit (.int 999999937))))
  (.cons (.forr (.one 3) (.seq (.slc (.var 0) .no (.so (.lit (.int 4))))) (.cons (.set 2 (.bin .Mod (.bin .Add (.bin .Mult (.var 2) (.lit (.int 30103))) (.var 3)) (.lit (.int 999999937))))
  .nil))
  (.cons (.ret (.var 2) [])
  .nil))))
def N__law_purse : List Str := [("_law_cell_here" : Str)]
def p__law_purse : List Str := [("_law_cell_here" : Str)]
def b__law_purse : Ss := (.cons (.retc (.lst (.cons (.bin .Add (.bin .Mult (.bin .Mod (.var 0) (.lit (.int 999999937))) (.lit (.int 7001))) (.lit (.int 3301))) (.cons (.idx (.lst (.cons (.lit (.int 0)) (.cons (.var 0) .nil))) (.bf .int (.cons (.cmp .GtE (.var 0) (.bin .Pow (.lit (.int 10)) (.lit (.int 18)))) .nil))) (.cons (.lit (.int 0)) .nil)))))
  .nil)
def N__law_pick : List Str := [("_law_purse_here" : Str), ("_law_many" : Str), ("_law_state" : Str), ("_law_taken" : Str)]
def p__law_pick : List Str := [("_law_purse_here" : Str), ("_law_many" : Str)]
def b__law_pick : Ss := (.cons (.sub (.var 0) (.lit (.int 2)) (.bin .Add (.idx (.var 0) (.lit (.int 2))) (.lit (.int 1))))
  (.cons (.set 2 (.bin .Mod (.idx (.var 0) (.lit (.int 0))) (.lit (.int 999999937))))
  (.cons (.sub (.var 0) (.lit (.int 0)) (.bin .Add (.bin .Mult (.var 2) (.bin .Add (.bin .Mod (.var 2) (.lit (.int 50021))) (.lit (.int 20011)))) (.bin .Mult (.lit (.int 90001)) (.idx (.var 0) (.lit (.int 2))))))
  (.cons (.ifs (.cmp .Gt (.idx (.var 0) (.lit (.int 1))) (.lit (.int 0))) (.cons (.set 3 (.bin .Mod (.idx (.var 0) (.lit (.int 1))) (.var 1)))
  (.cons (.sub (.var 0) (.lit (.int 1)) (.bin .FloorDiv (.idx (.var 0) (.lit (.int 1))) (.var 1)))
  (.cons (.ret (.var 3) [])
  .nil))) .nil)
  (.cons (.ret (.bin .Mod (.bin .FloorDiv (.bin .Mod (.idx (.var 0) (.lit (.int 0))) (.lit (.int 999999937))) (.lit (.int 16))) (.var 1)) [])
  .nil)))))
def N__law_low : List Str := [("_law_top" : Str), ("_law_bottom" : Str), ("_law_one" : Str), ("_law_other" : Str)]
def p__law_low : List Str := [("_law_top" : Str), ("_law_bottom" : Str)]
def b__law_low : Ss := (.cons (.ifs (.cmp .Lt (.var 1) (.lit (.int 0))) (.cons (.par 0 1 false false (.bin .Sub (.lit (.int 0)) (.var 0)) (.bin .Sub (.lit (.int 0)) (.var 1)))
  .nil) .nil)
  (.cons (.par 2 3 false false (.bf .abs (.cons (.var 0) .nil)) (.var 1))
  (.cons (.whl (.cmp .Gt (.var 3) (.lit (.int 0))) (.cons (.par 2 3 false false (.var 3) (.bin .Mod (.var 2) (.var 3)))
  .nil))
  (.cons (.ret (.tup (.cons (.bin .FloorDiv (.var 0) (.var 2)) (.cons (.bin .FloorDiv (.var 1) (.var 2)) .nil))) [])
  .nil))))
def N__law_plus : List Str := [("_law_a" : Str), ("_law_b" : Str)]
def p__law_plus : List Str := [("_law_a" : Str), ("_law_b" : Str)]
def b__law_plus : Ss := (.cons (.ret (.call 303 (.cons (.bin .Add (.bin .Mult (.idx (.var 0) (.lit (.int 0))) (.idx (.var 1) (.lit (.int 1)))) (.bin .Mult (.idx (.var 1) (.lit (.int 0))) (.idx (.var 0) (.lit (.int 1))))) (.cons (.bin .Mult (.idx (.var 0) (.lit (.int 1))) (.idx (.var 1) (.lit (.int 1)))) .nil)) 0) [])
  .nil)
def N__law_minus : List Str := [("_law_a" : Str), ("_law_b" : Str)]
def p__law_minus : List Str := [("_law_a" : Str), ("_law_b" : Str)]
def b__law_minus : Ss := (.cons (.ret (.call 303 (.cons (.bin .Sub (.bin .Mult (.idx (.var 0) (.lit (.int 0))) (.idx (.var 1) (.lit (.int 1)))) (.bin .Mult (.idx (.var 1) (.lit (.int 0))) (.idx (.var 0) (.lit (.int 1))))) (.cons (.bin .Mult (.idx (.var 0) (.lit (.int 1))) (.idx (.var 1) (.lit (.int 1)))) .nil)) 0) [])
  .nil)
def N__law_times : List Str := [("_law_a" : Str), ("_law_b" : Str)]
def p__law_times : List Str := [("_law_a" : Str), ("_law_b" : Str)]
def b__law_times : Ss := (.cons (.ret (.call 303 (.cons (.bin .Mult (.idx (.var 0) (.lit (.int 0))) (.idx (.var 1) (.lit (.int 0)))) (.cons (.bin .Mult (.idx (.var 0) (.lit (.int 1))) (.idx (.var 1) (.lit (.int 1)))) .nil)) 0) [])
  .nil)
def N__law_below : List Str := [("_law_a" : Str), ("_law_b" : Str)]
def p__law_below : List Str := [("_law_a" : Str), ("_law_b" : Str)]
def b__law_below : Ss := (.cons (.ret (.cmp .Lt (.bin .Mult (.idx (.var 0) (.lit (.int 0))) (.idx (.var 1) (.lit (.int 1)))) (.bin .Mult (.idx (.var 1) (.lit (.int 0))) (.idx (.var 0) (.lit (.int 1))))) [])
  .nil)
def N__law_plain_share : List Str := [("_law_purse_here" : Str)]
def p__law_plain_share : List Str := [("_law_purse_here" : Str)]
def b__law_plain_share : Ss := (.cons (.ret (.call 303 (.cons (.call 302 (.cons (.var 0) (.cons (.lit (.int 61)) .nil)) 0) (.cons (.lit (.int 60)) .nil)) 0) [])
  .nil)
def N__law_eye : List Str := [("_law_purse_here" : Str), ("_law_way" : Str), ("_law_light" : Str)]
def p__law_eye : List Str := [("_law_purse_here" : Str)]
def b__law_eye : Ss := (.cons (.set 1 (.call 302 (.cons (.var 0) (.cons (.lit (.int 3)) .nil)) 0))
  (.cons (.ret (.idx (.lst (.cons (.tup (.cons (.lit (.int 1)) (.cons (.lit (.int 1)) (.cons (.lit (.int 1)) .nil)))) (.cons (.tup (.cons (.lit (.int 3)) (.cons (.lit (.int 6)) (.cons (.lit (.int 1)) .nil)))) (.cons (.bf .tuple (.cons (.comp (.bin .Add (.lit (.int 1)) (.call 302 (.cons (.var 0) (.cons (.lit (.int 99)) .nil)) 0)) (.one 2) (.rng1 (.lit (.int 3))) .no [2]) .nil)) .nil)))) (.var 1)) [])
  .nil))
def N__law_far : List Str := [("_law_one" : Str), ("_law_other" : Str), ("_law_gaze" : Str), ("_law_found" : Str), ("_law_light" : Str), ("_law_apart" : Str)]
def p__law_far : List Str := [("_law_one" : Str), ("_law_other" : Str), ("_law_gaze" : Str)]
def b__law_far : Ss := (.cons (.set 3 (.tup (.cons (.lit (.int 0)) (.cons (.lit (.int 1)) .nil))))
  (.cons (.forr (.one 4) (.rng1 (.lit (.int 3))) (.cons (.set 5 (.call 305 (.cons (.idx (.var 0) (.var 4)) (.cons (.idx (.var 1) (.var 4)) .nil)) 0))
  (.cons (.set 3 (.call 304 (.cons (.var 3) (.cons (.call 306 (.cons (.tup (.cons (.idx (.var 2) (.var 4)) (.cons (.lit (.int 1)) .nil))) (.cons (.call 306 (.cons (.var 5) (.cons (.var 5) .nil)) 0) .nil)) 0) .nil)) 0))
  .nil)))
  (.cons (.ret (.var 3) [])
  .nil)))
def N__law_lights : List Str := [("_law_purse_here" : Str), ("_law_many" : Str), ("_law_way" : Str), ("_law_rows" : Str), ("_law_k" : Str), ("_law_light" : Str), ("_law_row" : Str)]
def p__law_lights : List Str := [("_law_purse_here" : Str), ("_law_many" : Str)]
def b__law_lights : Ss := (.cons (.set 2 (.call 302 (.cons (.var 0) (.cons (.lit (.int 6)) .nil)) 0))
  (.cons (.setc 3 (.comp (.bf .tuple (.cons (.comp (.call 308 (.cons (.var 0) .nil) 0) (.one 5) (.rng1 (.lit (.int 3))) .no [5]) .nil)) (.one 4) (.rng1 (.var 1)) .no [4]))
  (.cons (.ifs (.cmp .Eq (.var 2) (.lit (.int 1))) (.cons (.setc 3 (.comp (.tup (.cons (.idx (.var 6) (.lit (.int 0))) (.cons (.idx (.var 6) (.lit (.int 0))) (.cons (.idx (.var 6) (.lit (.int 0))) .nil)))) (.one 6) (.seq (.var 3)) .no [6]))
  .nil) .nil)
  (.cons (.ifs (.cmp .Eq (.var 2) (.lit (.int 2))) (.cons (.setc 3 (.comp (.tup (.cons (.idx (.var 6) (.lit (.int 0))) (.cons (.idx (.var 6) (.lit (.int 1))) (.cons (.call 306 (.cons (.tup (.cons (.lit (.int 1)) (.cons (.lit (.int 2)) .nil))) (.cons (.call 304 (.cons (.idx (.var 6) (.lit (.int 0))) (.cons (.idx (.var 6) (.lit (.int 1))) .nil)) 0) .nil)) 0) .nil)))) (.one 6) (.seq (.var 3)) .no [6]))
  .nil) .nil)
  (.cons (.ifs (.land (.cmp .Eq (.var 2) (.lit (.int 3))) (.cmp .Gt (.var 1) (.lit (.int 1)))) (.cons (.sub (.var 3) (.bin .Sub (.var 1) (.lit (.int 1))) (.idx (.var 3) (.call 302 (.cons (.var 0) (.cons (.bin .Sub (.var 1) (.lit (.int 1))) .nil)) 0)))
  .nil) .nil)
  (.cons (.ret (.var 3) [3])
  .nil))))))
def N__law_parts : List Str := [("_law_purse_here" : Str), ("_law_many" : Str), ("_law_wide" : Str), ("_law_numbers" : Str), ("_law_k" : Str), ("_law_number" : Str)]
def p__law_parts : List Str := [("_law_purse_here" : Str), ("_law_many" : Str)]
def b__law_parts : Ss := (.cons (.set 2 (.idx (.lst (.cons (.lit (.int 2)) (.cons (.lit (.int 5)) (.cons (.lit (.int 12)) .nil)))) (.call 302 (.cons (.var 0) (.cons (.lit (.int 3)) .nil)) 0)))
  (.cons (.setc 3 (.comp (.call 302 (.cons (.var 0) (.cons (.var 2) .nil)) 0) (.one 4) (.rng1 (.var 1)) .no [4]))
  (.cons (.asub (.var 3) (.call 302 (.cons (.var 0) (.cons (.var 1) .nil)) 0) .Add (.lit (.int 1)))
  (.cons (.ret (.comp (.call 303 (.cons (.var 5) (.cons (.bf .sum (.cons (.var 3) .nil)) .nil)) 0) (.one 5) (.seq (.var 3)) .no [5]) [3])
  .nil))))
def N__law_made : List Str := [("_law_rows" : Str), ("_law_parts_here" : Str), ("_law_found" : Str), ("_law_light" : Str), ("_law_share" : Str), ("_law_k" : Str)]
def p__law_made : List Str := [("_law_rows" : Str), ("_law_parts_here" : Str)]
def b__law_made : Ss := (.cons (.setc 2 (.lst .nil))
  (.cons (.forr (.one 3) (.rng1 (.lit (.int 3))) (.cons (.set 4 (.tup (.cons (.lit (.int 0)) (.cons (.lit (.int 1)) .nil))))
  (.cons (.forr (.one 5) (.rng1 (.bf .len (.cons (.var 0) .nil))) (.cons (.set 4 (.call 304 (.cons (.var 4) (.cons (.call 306 (.cons (.idx (.var 1) (.var 5)) (.cons (.idx (.idx (.var 0) (.var 5)) (.var 3)) .nil)) 0) .nil)) 0))
  .nil))
  (.cons (.ex (.bm .append (.var 2) (.cons (.var 4) .nil)))
  .nil))))
  (.cons (.ret (.bf .tuple (.cons (.var 2) .nil)) [2])
  .nil)))
def N__law_weighed : List Str := [("_law_one" : Str), ("_law_other" : Str), ("_law_gaze" : Str), ("_law_found" : Str), ("_law_light" : Str)]
def p__law_weighed : List Str := [("_law_one" : Str), ("_law_other" : Str), ("_law_gaze" : Str)]
def b__law_weighed : Ss := (.cons (.set 3 (.tup (.cons (.lit (.int 0)) (.cons (.lit (.int 1)) .nil))))
  (.cons (.forr (.one 4) (.rng1 (.lit (.int 3))) (.cons (.set 3 (.call 304 (.cons (.var 3) (.cons (.call 306 (.cons (.tup (.cons (.idx (.var 2) (.var 4)) (.cons (.lit (.int 1)) .nil))) (.cons (.call 306 (.cons (.idx (.var 0) (.var 4)) (.cons (.idx (.var 1) (.var 4)) .nil)) 0) .nil)) 0) .nil)) 0))
  .nil))
  (.cons (.ret (.var 3) [])
  .nil)))
def N__law_gaps : List Str := [("_law_one" : Str), ("_law_other" : Str), ("_law_light" : Str)]
def p__law_gaps : List Str := [("_law_one" : Str), ("_law_other" : Str)]
def b__law_gaps : Ss := (.cons (.ret (.bf .tuple (.cons (.comp (.call 305 (.cons (.idx (.var 0) (.var 2)) (.cons (.idx (.var 1) (.var 2)) .nil)) 0) (.one 2) (.rng1 (.lit (.int 3))) .no [2]) .nil)) [])
  .nil)
def N__law_wish : List Str := [("_law_purse_here" : Str), ("_law_rows" : Str), ("_law_way" : Str), ("_law_made_here" : Str), ("_law_free" : Str), ("_law_corner" : Str), ("_law_light" : Str)]
def p__law_wish : List Str := [("_law_purse_here" : Str), ("_law_rows" : Str)]
def b__law_wish : Ss := (.cons (.set 2 (.call 302 (.cons (.var 0) (.cons (.lit (.int 4)) .nil)) 0))
  (.cons (.set 3 (.call 359 (.cons (.var 1) (.cons (.call 385 (.cons (.var 0) (.cons (.bf .len (.cons (.var 1) .nil)) .nil)) 0) .nil)) 0))
  (.cons (.set 4 (.bf .tuple (.cons (.comp (.call 308 (.cons (.var 0) .nil) 0) (.one 6) (.rng1 (.lit (.int 3))) .no [6]) .nil)))
  (.cons (.set 5 (.bf .tuple (.cons (.comp (.tup (.cons (.call 302 (.cons (.var 0) (.cons (.lit (.int 2)) .nil)) 0) (.cons (.lit (.int 1)) .nil))) (.one 6) (.rng1 (.lit (.int 3))) .no [6]) .nil)))
  (.cons (.ret (.idx (.lst (.cons (.var 3) (.cons (.var 4) (.cons (.var 4) (.cons (.var 5) .nil))))) (.var 2)) [])
  .nil)))))
def N__law_shade : List Str := [("_law_row" : Str)]
def p__law_shade : List Str := [("_law_row" : Str)]
def b__law_shade : Ss := (.cons (.ret (.call 24 (.cons (.idx (.var 0) (.lit (.int 0))) (.cons (.idx (.var 0) (.lit (.int 1))) (.cons (.idx (.var 0) (.lit (.int 2))) .nil))) 0) [])
  .nil)
def N__law_right : List Str := [("_law_purse_here" : Str), ("_law_rows" : Str), ("_law_wish_here" : Str), ("_law_gaze" : Str), ("_law_bulbs" : Str), ("_law_tint" : Str), ("_law_near" : Str), ("_law_best" : Str), ("_law_aim" : Str), ("_law_least" : Str), ("_law_others" : Str), ("_law_k" : Str), ("_law_row" : Str), ("_law_turn" : Str), ("_law_other" : Str)]
def p__law_right : List Str := [("_law_purse_here" : Str), ("_law_rows" : Str), ("_law_wish_here" : Str), ("_law_gaze" : Str)]
def b__law_right : Ss := (.cons (.par 4 5 false false (.bf .tuple (.cons (.comp (.call 388 (.cons (.var 12) .nil) 0) (.one 12) (.seq (.var 1)) .no [12]) .nil)) (.call 388 (.cons (.var 2) .nil) 0))
  (.cons (.set 6 (.idx (.callk 250 (.cons (.var 4) (.cons (.var 5) .nil)) [("eye" : Str)] (.cons (.var 3) .nil)) (.lit (.int 1))))
  (.cons (.set 7 (.tup (.cons (.attr (.var 6) ("ember" : Str)) (.cons (.attr (.var 6) ("leaf" : Str)) (.cons (.attr (.var 6) ("sky" : Str)) .nil)))))
  (.cons (.set 8 (.call 393 (.cons (.var 2) (.cons (.var 7) .nil)) 0))
  (.cons (.ifs (.bf .any (.cons (.comp (.cmp .Gt (.idx (.call 386 (.cons (.var 8) (.cons (.call 393 (.cons (.var 12) (.cons (.var 7) .nil)) 0) (.cons (.var 3) .nil))) 0) (.lit (.int 0))) (.lit (.int 0))) (.one 12) (.seq (.var 1)) .no [12]) .nil)) (.cons (.ret (.lit (.bl false)) [10])
  .nil) .nil)
  (.cons (.set 9 (.call 310 (.cons (.var 2) (.cons (.var 7) (.cons (.var 3) .nil))) 0))
  (.cons (.ifs (.cmp .NotEq (.callk 251 (.cons (.var 5) (.cons (.var 6) .nil)) [("eye" : Str)] (.cons (.var 3) .nil)) (.var 9)) (.cons (.ret (.lit (.bl false)) [10])
  .nil) .nil)
  (.cons (.setc 10 (.bin .Add (.bf .list (.cons (.var 1) .nil)) (.comp (.call 359 (.cons (.var 1) (.cons (.call 385 (.cons (.var 0) (.cons (.bf .len (.cons (.var 1) .nil)) .nil)) 0) .nil)) 0) (.one 13) (.rng1 (.lit (.int 2))) .no [13])))
  (.cons (.forr (.one 11) (.rng1 (.bin .Sub (.bf .len (.cons (.var 1) .nil)) (.lit (.int 1)))) (.cons (.ex (.bm .append (.var 10) (.cons (.call 359 (.cons (.slc (.var 1) (.so (.var 11)) (.so (.bin .Add (.var 11) (.lit (.int 2))))) (.cons (.lst (.cons (.tup (.cons (.lit (.int 1)) (.cons (.lit (.int 2)) .nil))) (.cons (.tup (.cons (.lit (.int 1)) (.cons (.lit (.int 2)) .nil))) .nil))) .nil)) 0) .nil)))
  .nil))
  (.cons (.ret (.lnot (.bf .any (.cons (.comp (.call 307 (.cons (.call 310 (.cons (.var 2) (.cons (.var 14) (.cons (.var 3) .nil))) 0) (.cons (.var 9) .nil)) 0) (.one 14) (.seq (.var 10)) .no [14]) .nil))) [10])
  .nil))))))))))
def N__law_name : List Str := [("_law_purse_here" : Str), ("_law_used" : Str), ("_law_way" : Str), ("_law_menu" : Str), ("_law_word" : Str), ("_law_k" : Str), ("_law_spare" : Str), ("_law_one" : Str)]
def p__law_name : List Str := [("_law_purse_here" : Str), ("_law_used" : Str)]
def b__law_name : Ss := (.cons (.set 2 (.call 302 (.cons (.var 0) (.cons (.lit (.int 4)) .nil)) 0))
  (.cons (.set 3 (.lst (.cons (.lit (.str ("eye" : Str))) (.cons (.lit (.str ("grey" : Str))) (.cons (.lit (.str ("turn" : Str))) (.cons (.lit (.str ("white" : Str))) (.cons (.lit (.str ("black" : Str))) (.cons (.lit (.str ("none" : Str))) (.cons (.lit (.str ("put" : Str))) (.cons (.lit (.str ("drop" : Str))) (.cons (.lit (.str ("do" : Str))) (.cons (.lit (.str ("mix" : Str))) (.cons (.lit (.str ("near" : Str))) (.cons (.lit (.str ("back" : Str))) (.cons (.lit (.str ("ok" : Str))) (.cons (.lit (.str ("of" : Str))) .nil))))))))))))))))
  (.cons (.set 4 (.idx (.var 3) (.call 302 (.cons (.var 0) (.cons (.lit (.int 14)) .nil)) 0)))
  (.cons (.ifs (.cmp .Gt (.var 2) (.lit (.int 0))) (.cons (.set 4 (.lit (.str ("" : Str))))
  (.cons (.forr (.one 5) (.rng1 (.bin .Add (.lit (.int 1)) (.call 302 (.cons (.var 0) (.cons (.lit (.int 3)) .nil)) 0))) (.cons (.set 4 (.bin .Add (.var 4) (.idx (.lit (.str ("abcdefghijklmnopqrstuvwxyz" : Str))) (.call 302 (.cons (.var 0) (.cons (.lit (.int 26)) .nil)) 0))))
  .nil))
  .nil)) .nil)
  (.cons (.ifs (.cmp .NotIn (.var 4) (.var 1)) (.cons (.ret (.var 4) [])
  .nil) .nil)
  (.cons (.set 6 (.comp (.bin .Add (.var 4) (.idx (.lit (.str ("abcdefghijklmnopqrstuvwxyz" : Str))) (.var 5))) (.one 5) (.rng1 (.lit (.int 26))) .no [5]))
  (.cons (.ret (.idx (.comp (.var 7) (.one 7) (.seq (.var 6)) (.so (.cmp .NotIn (.var 7) (.var 1))) [7]) (.lit (.int 0))) [])
  .nil)))))))
def N__law_beside : List Str := [("_law_purse_here" : Str), ("_law_row" : Str), ("_law_found" : Str), ("_law_share" : Str), ("_law_moved" : Str)]
def p__law_beside : List Str := [("_law_purse_here" : Str), ("_law_row" : Str)]
def b__law_beside : Ss := (.cons (.setc 2 (.lst .nil))
  (.cons (.forr (.one 3) (.seq (.var 1)) (.cons (.set 4 (.call 304 (.cons (.var 3) (.cons (.call 303 (.cons (.bin .Sub (.call 302 (.cons (.var 0) (.cons (.lit (.int 7)) .nil)) 0) (.lit (.int 3))) (.cons (.lit (.int 60)) .nil)) 0) .nil)) 0))
  (.cons (.ex (.bm .append (.var 2) (.cons (.idx (.lst (.cons (.var 3) (.cons (.var 4) .nil))) (.bf .int (.cons (.chain .LtE .LtE (.lit (.int 0)) (.idx (.var 4) (.lit (.int 0))) (.idx (.var 4) (.lit (.int 1)))) .nil))) .nil)))
  .nil)))
  (.cons (.ret (.bf .tuple (.cons (.var 2) .nil)) [2])
  .nil)))
def N__law_book : List Str := [("_law_purse_here" : Str), ("_law_many" : Str), ("_law_look" : Str), ("_law_tome" : Str), ("_law_rows" : Str), ("_law_turn" : Str), ("_law_used" : Str), ("_law_row" : Str), ("_law_name_here" : Str), ("_law_at" : Str), ("_law_way" : Str), ("_law_one" : Str), ("_law_light" : Str)]
def p__law_book : List Str := [("_law_purse_here" : Str), ("_law_many" : Str)]
def b__law_book : Ss := (.cons (.set 2 (.call 309 (.cons (.var 0) .nil) 0))
  (.cons (.set 3 (.idx (.lst (.cons (.call 38 (.cons (.var 2) .nil) 0) (.cons (.callk 252 .nil [("eye" : Str)] (.cons (.var 2) .nil)) .nil))) (.call 302 (.cons (.var 0) (.cons (.lit (.int 2)) .nil)) 0)))
  (.cons (.ifs (.land (.cmp .Eq (.var 2) (.tup (.cons (.lit (.int 1)) (.cons (.lit (.int 1)) (.cons (.lit (.int 1)) .nil))))) (.cmp .Eq (.call 302 (.cons (.var 0) (.cons (.lit (.int 2)) .nil)) 0) (.lit (.int 1)))) (.cons (.set 3 (.call 38 .nil 1))
  .nil) .nil)
  (.cons (.setc 4 (.lst .nil))
  (.cons (.forr (.one 5) (.rng1 (.var 1)) (.cons (.set 6 (.comp (.idx (.var 11) (.lit (.int 0))) (.one 11) (.seq (.var 4)) .no [11]))
  (.cons (.set 7 (.bf .tuple (.cons (.comp (.call 308 (.cons (.var 0) .nil) 0) (.one 12) (.rng1 (.lit (.int 3))) .no [12]) .nil)))
  (.cons (.ifs (.land (.cmp .NotEq (.var 4) (.lst .nil)) (.cmp .Eq (.call 302 (.cons (.var 0) (.cons (.lit (.int 3)) .nil)) 0) (.lit (.int 1)))) (.cons (.set 7 (.call 312 (.cons (.var 0) (.cons (.idx (.idx (.var 4) (.call 302 (.cons (.var 0) (.cons (.bf .len (.cons (.var 4) .nil)) .nil)) 0)) (.lit (.int 1))) .nil)) 0))
  .nil) .nil)
  (.cons (.set 8 (.call 311 (.cons (.var 0) (.cons (.var 6) .nil)) 0))
  (.cons (.ex (.callm (.var 3) ("put" : Str) (.cons (.var 8) (.cons (.call 24 (.cons (.idx (.var 7) (.lit (.int 0))) (.cons (.idx (.var 7) (.lit (.int 1))) (.cons (.idx (.var 7) (.lit (.int 2))) .nil))) 0) .nil)) 0))
  (.cons (.ex (.bm .append (.var 4) (.cons (.tup (.cons (.var 8) (.cons (.var 7) .nil))) .nil)))
  (.cons (.par 9 10 false false (.call 302 (.cons (.var 0) (.cons (.bf .len (.cons (.var 4) .nil)) .nil)) 0) (.call 302 (.cons (.var 0) (.cons (.lit (.int 10)) .nil)) 0))
  (.cons (.ifs (.land (.cmp .Eq (.var 10) (.lit (.int 1))) (.cmp .Gt (.bf .len (.cons (.var 4) .nil)) (.lit (.int 1)))) (.cons (.ex (.callm (.var 3) ("drop" : Str) (.cons (.idx (.bm .pop (.var 4) (.cons (.var 9) .nil)) (.lit (.int 0))) .nil) 0))
  .nil) .nil)
  (.cons (.ifs (.cmp .Eq (.var 10) (.lit (.int 2))) (.cons (.set 8 (.call 311 (.cons (.var 0) (.cons (.comp (.idx (.var 11) (.lit (.int 0))) (.one 11) (.seq (.var 4)) .no [11]) .nil)) 0))
  (.cons (.ex (.callm (.var 3) ("rename" : Str) (.cons (.idx (.idx (.var 4) (.var 9)) (.lit (.int 0))) (.cons (.var 8) .nil)) 0))
  (.cons (.sub (.var 4) (.var 9) (.tup (.cons (.var 8) (.cons (.idx (.idx (.var 4) (.var 9)) (.lit (.int 1))) .nil))))
  .nil))) .nil)
  .nil))))))))))
  (.cons (.ret (.tup (.cons (.var 3) (.cons (.var 2) (.cons (.var 4) .nil)))) [4])
  .nil))))))
def N__law_limit : List Str := [("_law_purse_here" : Str), ("_law_rows" : Str), ("_law_look" : Str), ("_law_some" : Str), ("_law_way" : Str), ("_law_at" : Str), ("_law_gap" : Str)]
def p__law_limit : List Str := [("_law_purse_here" : Str), ("_law_rows" : Str), ("_law_look" : Str)]
def b__law_limit : Ss := (.cons (.set 3 (.lst (.cons (.tup (.cons (.lit (.int 1)) (.cons (.lit (.int 1000)) .nil))) (.cons (.tup (.cons (.lit (.int 1000)) (.cons (.lit (.int 1)) .nil))) (.cons (.call 303 (.cons (.bin .Add (.lit (.int 1)) (.call 302 (.cons (.var 0) (.cons (.lit (.int 300)) .nil)) 0)) (.cons (.bin .Add (.lit (.int 1)) (.call 302 (.cons (.var 0) (.cons (.lit (.int 300)) .nil)) 0)) .nil)) 0) .nil)))))
  (.cons (.set 4 (.call 302 (.cons (.var 0) (.cons (.lit (.int 6)) .nil)) 0))
  (.cons (.ifs (.lor (.cmp .Lt (.var 4) (.lit (.int 3))) (.cmp .Lt (.bf .len (.cons (.var 1) .nil)) (.lit (.int 2)))) (.cons (.ret (.idx (.var 3) (.bin .Mod (.var 4) (.lit (.int 3)))) [])
  .nil) .nil)
  (.cons (.set 5 (.call 302 (.cons (.var 0) (.cons (.bf .len (.cons (.var 1) .nil)) .nil)) 0))
  (.cons (.set 6 (.call 310 (.cons (.idx (.idx (.var 1) (.var 5)) (.lit (.int 1))) (.cons (.idx (.idx (.var 1) (.bin .Mod (.bin .Add (.bin .Add (.var 5) (.lit (.int 1))) (.call 302 (.cons (.var 0) (.cons (.bin .Sub (.bf .len (.cons (.var 1) .nil)) (.lit (.int 1))) .nil)) 0)) (.bf .len (.cons (.var 1) .nil)))) (.lit (.int 1))) (.cons (.var 2) .nil))) 0))
  (.cons (.ifs (.cmp .Eq (.var 4) (.lit (.int 4))) (.cons (.set 6 (.call 304 (.cons (.var 6) (.cons (.tup (.cons (.lit (.int 1)) (.cons (.bin .Pow (.lit (.int 10)) (.lit (.int 6))) .nil))) .nil)) 0))
  .nil) .nil)
  (.cons (.ifs (.call 307 (.cons (.var 6) (.cons (.tup (.cons (.lit (.int 1)) (.cons (.lit (.int 1000)) .nil))) .nil)) 0) (.cons (.ret (.tup (.cons (.lit (.int 1)) (.cons (.lit (.int 1000)) .nil))) [])
  .nil) .nil)
  (.cons (.ret (.var 6) [])
  .nil))))))))
def N__law_stays : List Str := [("_law_tome" : Str), ("_law_look" : Str), ("_law_rows" : Str), ("_law_name_here" : Str), ("_law_row" : Str)]
def p__law_stays : List Str := [("_law_tome" : Str), ("_law_look" : Str), ("_law_rows" : Str)]
def b__law_stays : Ss := (.cons (.ifs (.lor (.cmp .NotEq (.attr (.var 0) ("eye" : Str)) (.var 1)) (.lor (.cmp .NotEq (.lenm (.var 0)) (.bf .len (.cons (.var 2) .nil))) (.cmp .NotEq (.callm (.var 0) ("names" : Str) .nil 2) (.bf .tuple (.cons (.comp (.var 3) (.many [3, 4]) (.seq (.var 2)) .no [3, 4]) .nil))))) (.cons (.ret (.lit (.bl false)) [])
  .nil) .nil)
  (.cons (.ret (.bf .all (.cons (.comp (.cmp .Eq (.call 27 (.cons (.callm (.var 0) ("shade" : Str) (.cons (.var 3) .nil) 0) .nil) 0) (.var 4)) (.many [3, 4]) (.seq (.var 2)) .no [3, 4]) .nil)) [])
  .nil))
def N__law_pairs : List Str := [("_law_rows" : Str), ("_law_look" : Str), ("_law_bound" : Str), ("_law_found" : Str), ("_law_name_here" : Str), ("_law_row" : Str), ("_law_other" : Str), ("_law_more" : Str)]
def p__law_pairs : List Str := [("_law_rows" : Str), ("_law_look" : Str), ("_law_bound" : Str)]
def b__law_pairs : Ss := (.cons (.setc 3 (.lst .nil))
  (.cons (.forr (.many [4, 5]) (.seq (.var 0)) (.cons (.forr (.many [6, 7]) (.seq (.var 0)) (.cons (.ifs (.land (.cmp .Lt (.var 4) (.var 6)) (.call 307 (.cons (.call 310 (.cons (.var 5) (.cons (.var 7) (.cons (.var 1) .nil))) 0) (.cons (.var 2) .nil)) 0)) (.cons (.ex (.bm .append (.var 3) (.cons (.tup (.cons (.var 4) (.cons (.var 6) .nil))) .nil)))
  .nil) .nil)
  .nil))
  .nil))
  (.cons (.ret (.bf .tuple (.cons (.bf .sorted (.cons (.var 3) .nil)) .nil)) [3])
  .nil)))
end Lt
set_option Elab.async false
set_option linter.all false
set_option maxRecDepth 100000
set_option maxHeartbeats 0
namespace Pt
open PySem Li
def N_is_whole : List Str := [("thing" : Str)]
def p_is_whole : List Str := [("thing" : Str)]
def b_is_whole : Ss := (.cons (.ret (.land (.bf (.isi .int) (.cons (.var 0) .nil)) (.lnot (.bf (.isi .bool) (.cons (.var 0) .nil)))) [])
  .nil)
def N_share_of : List Str := [("one" : Str), ("other" : Str)]
def p_share_of : List Str := [("one" : Str), ("other" : Str)]
def b_share_of : Ss := (.cons (.whl (.cmp .Gt (.var 1) (.lit (.int 0))) (.cons (.par 0 1 false false (.var 1) (.bin .Mod (.var 0) (.var 1)))
  .nil))
  (.cons (.ret (.var 0) [])
  .nil))
def N_low : List Str := [("top" : Str), ("bottom" : Str), ("shared" : Str)]
def p_low : List Str := [("top" : Str), ("bottom" : Str)]
def b_low : Ss := (.cons (.ifs (.cmp .Lt (.var 1) (.lit (.int 0))) (.cons (.par 0 1 false false (.bin .Sub (.lit (.int 0)) (.var 0)) (.bin .Sub (.lit (.int 0)) (.var 1)))
  .nil) .nil)
  (.cons (.set 2 (.call 13 (.cons (.bf .abs (.cons (.var 0) .nil)) (.cons (.var 1) .nil)) 0))
  (.cons (.ret (.tup (.cons (.bin .FloorDiv (.var 0) (.var 2)) (.cons (.bin .FloorDiv (.var 1) (.var 2)) .nil))) [])
  .nil)))
def N_is_fraction : List Str := [("thing" : Str), ("part" : Str)]
def p_is_fraction : List Str := [("thing" : Str)]
def b_is_fraction : Ss := (.cons (.ifs (.lor (.lnot (.bf (.isi .tup) (.cons (.var 0) .nil))) (.lor (.cmp .NotEq (.bf .len (.cons (.var 0) .nil)) (.lit (.int 2))) (.lnot (.bf .all (.cons (.comp (.call 12 (.cons (.var 1) .nil) 0) (.one 1) (.seq (.var 0)) .no [1]) .nil))))) (.cons (.ret (.lit (.bl false)) [])
  .nil) .nil)
  (.cons (.ret (.land (.cmp .Gt (.idx (.var 0) (.lit (.int 1))) (.lit (.int 0))) (.cmp .Eq (.call 13 (.cons (.bf .abs (.cons (.idx (.var 0) (.lit (.int 0))) .nil)) (.cons (.idx (.var 0) (.lit (.int 1))) .nil)) 0) (.lit (.int 1)))) [])
  .nil))
def N_from_zero : List Str := [("thing" : Str)]
def p_from_zero : List Str := [("thing" : Str)]
def b_from_zero : Ss := (.cons (.ret (.land (.call 15 (.cons (.var 0) .nil) 0) (.cmp .GtE (.idx (.var 0) (.lit (.int 0))) (.lit (.int 0)))) [])
  .nil)
def N_in_one : List Str := [("thing" : Str)]
def p_in_one : List Str := [("thing" : Str)]
def b_in_one : Ss := (.cons (.ret (.land (.call 16 (.cons (.var 0) .nil) 0) (.cmp .LtE (.idx (.var 0) (.lit (.int 0))) (.idx (.var 0) (.lit (.int 1))))) [])
  .nil)
def N_add : List Str := [("a" : Str), ("b" : Str)]
def p_add : List Str := [("a" : Str), ("b" : Str)]
def b_add : Ss := (.cons (.ret (.call 14 (.cons (.bin .Add (.bin .Mult (.idx (.var 0) (.lit (.int 0))) (.idx (.var 1) (.lit (.int 1)))) (.bin .Mult (.idx (.var 1) (.lit (.int 0))) (.idx (.var 0) (.lit (.int 1))))) (.cons (.bin .Mult (.idx (.var 0) (.lit (.int 1))) (.idx (.var 1) (.lit (.int 1)))) .nil)) 0) [])
  .nil)
def N_less : List Str := [("a" : Str), ("b" : Str)]
def p_less : List Str := [("a" : Str), ("b" : Str)]
def b_less : Ss := (.cons (.ret (.call 14 (.cons (.bin .Sub (.bin .Mult (.idx (.var 0) (.lit (.int 0))) (.idx (.var 1) (.lit (.int 1)))) (.bin .Mult (.idx (.var 1) (.lit (.int 0))) (.idx (.var 0) (.lit (.int 1))))) (.cons (.bin .Mult (.idx (.var 0) (.lit (.int 1))) (.idx (.var 1) (.lit (.int 1)))) .nil)) 0) [])
  .nil)
def N_mul : List Str := [("a" : Str), ("b" : Str)]
def p_mul : List Str := [("a" : Str), ("b" : Str)]
def b_mul : Ss := (.cons (.ret (.call 14 (.cons (.bin .Mult (.idx (.var 0) (.lit (.int 0))) (.idx (.var 1) (.lit (.int 0)))) (.cons (.bin .Mult (.idx (.var 0) (.lit (.int 1))) (.idx (.var 1) (.lit (.int 1)))) .nil)) 0) [])
  .nil)
def N_total : List Str := [("row" : Str), ("found" : Str), ("one" : Str)]
def p_total : List Str := [("row" : Str)]
def b_total : Ss := (.cons (.set 1 (.glob 11))
  (.cons (.forr (.one 2) (.seq (.var 0)) (.cons (.set 1 (.call 18 (.cons (.var 1) (.cons (.var 2) .nil)) 0))
  .nil))
  (.cons (.ret (.var 1) [])
  .nil)))
def N_Shade.__init__ : List Str := [("self" : Str), ("ember" : Str), ("leaf" : Str), ("sky" : Str), ("light" : Str), ("share" : Str)]
def p_Shade.__init__ : List Str := [("self" : Str), ("ember" : Str), ("leaf" : Str), ("sky" : Str)]
def b_Shade.__init__ : Ss := (.cons (.forr (.many [4, 5]) (.enum (.tup (.cons (.var 1) (.cons (.var 2) (.cons (.var 3) .nil))))) (.cons (.ifs (.lnot (.call 17 (.cons (.var 5) .nil) 0)) (.cons .dead
  .nil) .nil)
  .nil))
  (.cons (.att (.var 0) ("ember" : Str) (.var 1))
  (.cons (.att (.var 0) ("leaf" : Str) (.var 2))
  (.cons (.att (.var 0) ("sky" : Str) (.var 3))
  .nil))))
def N_is_shade : List Str := [("thing" : Str)]
def p_is_shade : List Str := [("thing" : Str)]
def b_is_shade : Ss := (.cons (.ret (.bf (.isi (.cls 24)) (.cons (.var 0) .nil)) [])
  .nil)
def N_check_shade : List Str := [("thing" : Str)]
def p_check_shade : List Str := [("thing" : Str)]
def b_check_shade : Ss := (.cons (.ifs (.lnot (.bf (.isi (.cls 24)) (.cons (.var 0) .nil))) (.cons .dead
  .nil) .nil)
  .nil)
def N_parts_of : List Str := [("shade" : Str)]
def p_parts_of : List Str := [("shade" : Str)]
def b_parts_of : Ss := (.cons (.ret (.tup (.cons (.attr (.var 0) ("ember" : Str)) (.cons (.attr (.var 0) ("leaf" : Str)) (.cons (.attr (.var 0) ("sky" : Str)) .nil)))) [])
  .nil)
def N_shade_by : List Str := [("shares" : Str)]
def p_shade_by : List Str := [("shares" : Str)]
def b_shade_by : Ss := (.cons (.ret (.call 24 (.cons (.idx (.var 0) (.lit (.int 0))) (.cons (.idx (.var 0) (.lit (.int 1))) (.cons (.idx (.var 0) (.lit (.int 2))) .nil))) 0) [])
  .nil)
def N_is_eye : List Str := [("thing" : Str), ("number" : Str)]
def p_is_eye : List Str := [("thing" : Str)]
def b_is_eye : Ss := (.cons (.ifs (.lor (.lnot (.bf (.isi .tup) (.cons (.var 0) .nil))) (.cmp .NotEq (.bf .len (.cons (.var 0) .nil)) (.bf .len (.cons (.glob 29) .nil)))) (.cons (.ret (.lit (.bl false)) [])
  .nil) .nil)
  (.cons (.ret (.bf .all (.cons (.comp (.land (.call 12 (.cons (.var 1) .nil) 0) (.chain .LtE .LtE (.lit (.int 1)) (.var 1) (.glob 28))) (.one 1) (.seq (.var 0)) .no [1]) .nil)) [])
  .nil))
def N_check_eye : List Str := [("eye" : Str)]
def p_check_eye : List Str := [("eye" : Str)]
def b_check_eye : Ss := (.cons (.ifs (.cmp .Is (.var 0) (.lit .non)) (.cons (.ret (.glob 29) [])
  .nil) .nil)
  (.cons (.ifs (.lnot (.call 30 (.cons (.var 0) .nil) 0)) (.cons .dead
  .nil) .nil)
  (.cons (.ret (.var 0) [])
  .nil)))
def N_far_by : List Str := [("one" : Str), ("other" : Str), ("eye" : Str), ("part" : Str), ("light" : Str)]
def p_far_by : List Str := [("one" : Str), ("other" : Str), ("eye" : Str)]
def b_far_by : Ss := (.cons (.ndef 3 0)
  (.cons (.ret (.call 22 (.cons (.comp (.calln 0 3 (.cons (.var 4) .nil)) (.one 4) (.rng1 (.bf .len (.cons (.var 2) .nil))) .no [4]) .nil) 0) [])
  .nil))
def NN_far_by_part : List Str := [("light" : Str), ("eye" : Str), ("one" : Str), ("other" : Str), ("gap" : Str)]
def np_far_by_part : List Str := [("light" : Str)]
def nf_far_by_part : List Str := [("eye" : Str), ("one" : Str), ("other" : Str)]
def nc_far_by_part : List Nat := [2, 0, 1]
def nb_far_by_part : Ss := (.cons (.set 4 (.call 19 (.cons (.idx (.var 2) (.var 0)) (.cons (.idx (.var 3) (.var 0)) .nil)) 0))
  (.cons (.ret (.call 20 (.cons (.tup (.cons (.idx (.var 1) (.var 0)) (.cons (.lit (.int 1)) .nil))) (.cons (.call 20 (.cons (.var 4) (.cons (.var 4) .nil)) 0) .nil)) 0) [])
  .nil))
def N_far : List Str := [("shade" : Str), ("other" : Str), ("eye" : Str)]
def p_far : List Str := [("shade" : Str), ("other" : Str), ("eye" : Str)]
def b_far : Ss := (.cons (.ex (.call 25 (.cons (.var 0) .nil) 0))
  (.cons (.ex (.call 25 (.cons (.var 1) .nil) 0))
  (.cons (.ret (.call 32 (.cons (.call 26 (.cons (.var 0) .nil) 0) (.cons (.call 26 (.cons (.var 1) .nil) 0) (.cons (.call 31 (.cons (.var 2) .nil) 0) .nil))) 0) [])
  .nil)))
def N_check_lights : List Str := [("lights" : Str), ("place" : Str), ("light" : Str)]
def p_check_lights : List Str := [("lights" : Str)]
def b_check_lights : Ss := (.cons (.ifs (.lor (.lnot (.bf (.isi .tup) (.cons (.var 0) .nil))) (.lnot (.chain .LtE .LtE (.lit (.int 1)) (.bf .len (.cons (.var 0) .nil)) (.glob 105)))) (.cons .dead
  .nil) .nil)
  (.cons (.forr (.many [1, 2]) (.enum (.var 0)) (.cons (.ifs (.lnot (.call 104 (.cons (.var 2) .nil) 0)) (.cons .dead
  .nil) .nil)
  .nil))
  .nil))
def N_gaps : List Str := [("one" : Str), ("other" : Str), ("a" : Str), ("b" : Str)]
def p_gaps : List Str := [("one" : Str), ("other" : Str)]
def b_gaps : Ss := (.cons (.ret (.bf .tuple (.cons (.comp (.call 19 (.cons (.var 2) (.cons (.var 3) .nil)) 0) (.many [2, 3]) (.zip (.var 0) (.var 1)) .no [2, 3]) .nil)) [])
  .nil)
def N_made_by : List Str := [("lights" : Str), ("parts" : Str), ("k" : Str), ("light" : Str), ("part" : Str)]
def p_made_by : List Str := [("lights" : Str), ("parts" : Str)]
def b_made_by : Ss := (.cons (.ret (.bf .tuple (.cons (.comp (.call 22 (.cons (.comp (.call 20 (.cons (.var 4) (.cons (.idx (.var 3) (.var 2)) .nil)) 0) (.many [3, 4]) (.zip (.var 0) (.var 1)) .no [3, 4]) .nil) 0) (.one 2) (.rng1 (.lit (.int 3))) .no [2]) .nil)) [])
  .nil)
def N_common_bottom : List Str := [("rows" : Str), ("found" : Str), ("row" : Str), ("share" : Str)]
def p_common_bottom : List Str := [("rows" : Str)]
def b_common_bottom : Ss := (.cons (.set 1 (.lit (.int 1)))
  (.cons (.forr (.one 2) (.seq (.var 0)) (.cons (.forr (.one 3) (.seq (.var 2)) (.cons (.aug 1 .Mult (.bin .FloorDiv (.idx (.var 3) (.lit (.int 1))) (.call 13 (.cons (.var 1) (.cons (.idx (.var 3) (.lit (.int 1))) .nil)) 0)))
  .nil))
  .nil))
  (.cons (.ret (.var 1) [])
  .nil)))
def N_products_of : List Str := [("lights" : Str), ("shares" : Str), ("eye" : Str), ("whole" : Str), ("rows" : Str), ("bottom" : Str), ("light" : Str), ("k" : Str), ("one" : Str), ("other" : Str)]
def p_products_of : List Str := [("lights" : Str), ("shares" : Str), ("eye" : Str)]
def b_products_of : Ss := (.cons (.set 5 (.call 110 (.cons (.bin .Add (.var 0) (.lst (.cons (.var 1) .nil))) .nil) 0))
  (.cons (.ndef 3 0)
  (.cons (.set 4 (.comp (.comp (.bin .Sub (.calln 0 3 (.cons (.idx (.var 6) (.var 7)) .nil)) (.calln 0 3 (.cons (.idx (.var 1) (.var 7)) .nil))) (.one 7) (.rng1 (.lit (.int 3))) .no [7]) (.one 6) (.seq (.var 0)) .no [6]))
  (.cons (.ret (.comp (.comp (.bf .sum (.cons (.comp (.bin .Mult (.bin .Mult (.idx (.var 2) (.var 7)) (.idx (.var 8) (.var 7))) (.idx (.var 9) (.var 7))) (.one 7) (.rng1 (.lit (.int 3))) .no [7]) .nil)) (.one 9) (.seq (.var 4)) .no [9]) (.one 8) (.seq (.var 4)) .no [8]) [])
  .nil))))
def NN_products_of_whole : List Str := [("share" : Str), ("bottom" : Str)]
def np_products_of_whole : List Str := [("share" : Str)]
def nf_products_of_whole : List Str := [("bottom" : Str)]
def nc_products_of_whole : List Nat := [5]
def nb_products_of_whole : Ss := (.cons (.ret (.bin .Mult (.idx (.var 0) (.lit (.int 0))) (.bin .FloorDiv (.var 1) (.idx (.var 0) (.lit (.int 1))))) [])
  .nil)
def N_size_of : List Str := [("rows" : Str), ("found" : Str), ("k" : Str), ("number" : Str), ("rest" : Str), ("row" : Str)]
def p_size_of : List Str := [("rows" : Str)]
def b_size_of : Ss := (.cons (.ifs (.cmp .Eq (.var 0) (.lst .nil)) (.cons (.ret (.lit (.int 1)) [])
  .nil) .nil)
  (.cons (.set 1 (.lit (.int 0)))
  (.cons (.forr (.many [2, 3]) (.enum (.idx (.var 0) (.lit (.int 0)))) (.cons (.set 4 (.call 112 (.cons (.comp (.bin .Add (.slc (.var 5) .no (.so (.var 2))) (.slc (.var 5) (.so (.bin .Add (.var 2) (.lit (.int 1)))) .no)) (.one 5) (.seq (.slc (.var 0) (.so (.lit (.int 1))) .no)) .no [5]) .nil) 0))
  (.cons (.aug 1 .Add (.bin .Mult (.bin .Mult (.idx (.lst (.cons (.lit (.int 1)) (.cons (.neg (.lit (.int 1))) .nil))) (.bin .Mod (.var 2) (.lit (.int 2)))) (.var 3)) (.var 4)))
  .nil)))
  (.cons (.ret (.var 1) [])
  .nil))))
def N_foot_of : List Str := [("products" : Str), ("chosen" : Str), ("first" : Str), ("rest" : Str), ("own" : Str), ("rows" : Str), ("aims" : Str), ("tops" : Str), ("k" : Str), ("bottom" : Str), ("a" : Str), ("b" : Str), ("row" : Str), ("aim" : Str)]
def p_foot_of : List Str := [("products" : Str), ("chosen" : Str)]
def b_foot_of : Ss := (.cons (.unp [2, 3] (.tup (.cons (.idx (.var 1) (.lit (.int 0))) (.cons (.slc (.var 1) (.so (.lit (.int 1))) .no) .nil))))
  (.cons (.set 4 (.idx (.var 0) (.var 2)))
  (.cons (.set 5 (.comp (.comp (.bin .Add (.bin .Sub (.bin .Sub (.idx (.idx (.var 0) (.var 10)) (.var 11)) (.idx (.var 4) (.var 10))) (.idx (.var 4) (.var 11))) (.idx (.var 4) (.var 2))) (.one 11) (.seq (.var 3)) .no [11]) (.one 10) (.seq (.var 3)) .no [10]))
  (.cons (.set 6 (.comp (.bin .Sub (.idx (.var 4) (.var 2)) (.idx (.var 4) (.var 10))) (.one 10) (.seq (.var 3)) .no [10]))
  (.cons (.setc 7 (.lst .nil))
  (.cons (.forr (.one 8) (.rng1 (.bf .len (.cons (.var 3) .nil))) (.cons (.ex (.bm .append (.var 7) (.cons (.call 112 (.cons (.comp (.bin .Add (.bin .Add (.slc (.var 12) .no (.so (.var 8))) (.lst (.cons (.var 13) .nil))) (.slc (.var 12) (.so (.bin .Add (.var 8) (.lit (.int 1)))) .no)) (.many [12, 13]) (.zip (.var 5) (.var 6)) .no [12, 13]) .nil) 0) .nil)))
  .nil))
  (.cons (.set 9 (.call 112 (.cons (.var 5) .nil) 0))
  (.cons (.ret (.tup (.cons (.bin .Add (.lst (.cons (.bin .Sub (.var 9) (.bf .sum (.cons (.var 7) .nil))) .nil)) (.var 7)) (.cons (.var 9) .nil))) [7])
  .nil))))))))
def N_is_foot : List Str := [("products" : Str), ("chosen" : Str), ("tops" : Str), ("bottom" : Str), ("pulls" : Str), ("here" : Str), ("row" : Str), ("top" : Str), ("k" : Str), ("pull" : Str)]
def p_is_foot : List Str := [("products" : Str), ("chosen" : Str), ("tops" : Str), ("bottom" : Str)]
def b_is_foot : Ss := (.cons (.ifs (.lor (.cmp .Eq (.var 3) (.lit (.int 0))) (.cmp .Lt (.bf .min (.cons (.var 2) .nil)) (.lit (.int 0)))) (.cons (.ret (.lit (.bl false)) [])
  .nil) .nil)
  (.cons (.set 4 (.comp (.bf .sum (.cons (.comp (.bin .Mult (.var 7) (.idx (.var 6) (.var 8))) (.many [7, 8]) (.zip (.var 2) (.var 1)) .no [7, 8]) .nil)) (.one 6) (.seq (.var 0)) .no [6]))
  (.cons (.set 5 (.bf .sum (.cons (.comp (.bin .Mult (.var 7) (.idx (.var 4) (.var 8))) (.many [7, 8]) (.zip (.var 2) (.var 1)) .no [7, 8]) .nil)))
  (.cons (.ret (.bf .all (.cons (.comp (.cmp .GtE (.bin .Mult (.var 3) (.var 9)) (.var 5)) (.one 9) (.seq (.var 4)) .no [9]) .nil)) [])
  .nil))))
def N_choices : List Str := [("many" : Str), ("found" : Str), ("mask" : Str), ("k" : Str), ("chosen" : Str)]
def p_choices : List Str := [("many" : Str)]
def b_choices : Ss := (.cons (.set 1 (.comp (.comp (.var 3) (.one 3) (.rng1 (.var 0)) (.so (.cmp .Eq (.bin .BitAnd (.bin .RShift (.var 2) (.var 3)) (.lit (.int 1))) (.lit (.int 1)))) [3]) (.one 2) (.rng (.lit (.int 1)) (.bin .LShift (.lit (.int 1)) (.var 0))) .no [2]))
  (.cons (.ret (.srtLen (.comp (.var 4) (.one 4) (.seq (.var 1)) (.so (.cmp .LtE (.bf .len (.cons (.var 4) .nil)) (.glob 106))) [4])) [])
  .nil))
def N_nearest_by : List Str := [("lights" : Str), ("shares" : Str), ("eye" : Str), ("products" : Str), ("chosen" : Str), ("tops" : Str), ("bottom" : Str), ("known" : Str), ("parts" : Str), ("k" : Str)]
def p_nearest_by : List Str := [("lights" : Str), ("shares" : Str), ("eye" : Str)]
def b_nearest_by : Ss := (.cons (.set 3 (.call 111 (.cons (.var 0) (.cons (.var 1) (.cons (.var 2) .nil))) 0))
  (.cons (.forr (.one 4) (.seq (.call 115 (.cons (.bf .len (.cons (.var 0) .nil)) .nil) 0)) (.cons (.unp [5, 6] (.call 113 (.cons (.var 3) (.cons (.var 4) .nil)) 0))
  (.cons (.ifs (.call 114 (.cons (.var 3) (.cons (.var 4) (.cons (.var 5) (.cons (.var 6) .nil)))) 0) (.cons (.set 7 (.dzip (.var 4) (.var 5)))
  (.cons (.set 8 (.bf .tuple (.cons (.comp (.call 14 (.cons (.bm .get (.var 7) (.cons (.var 9) (.cons (.lit (.int 0)) .nil))) (.cons (.var 6) .nil)) 0) (.one 9) (.rng1 (.bf .len (.cons (.var 0) .nil))) .no [9]) .nil)))
  (.cons (.ret (.tup (.cons (.var 8) (.cons (.call 109 (.cons (.var 0) (.cons (.var 8) .nil)) 0) .nil))) [])
  .nil))) .nil)
  .nil)))
  (.cons (.ret (.lit .non) [])
  .nil)))
def N_line_by : List Str := [("shares" : Str), ("near" : Str), ("eye" : Str), ("weights" : Str), ("number" : Str), ("gap" : Str), ("weight" : Str), ("share" : Str)]
def p_line_by : List Str := [("shares" : Str), ("near" : Str), ("eye" : Str)]
def b_line_by : Ss := (.cons (.set 3 (.bf .tuple (.cons (.comp (.call 20 (.cons (.tup (.cons (.var 4) (.cons (.lit (.int 1)) .nil))) (.cons (.var 5) .nil)) 0) (.many [4, 5]) (.zip (.var 2) (.call 108 (.cons (.var 0) (.cons (.var 1) .nil)) 0)) .no [4, 5]) .nil)))
  (.cons (.ret (.tup (.cons (.var 3) (.cons (.call 22 (.cons (.comp (.call 20 (.cons (.var 6) (.cons (.var 7) .nil)) 0) (.many [6, 7]) (.zip (.var 3) (.var 1)) .no [6, 7]) .nil) 0) .nil))) [])
  .nil))
def N_make : List Str := [("lights" : Str), ("shade" : Str), ("eye" : Str), ("numbers" : Str), ("shares" : Str), ("parts" : Str), ("near" : Str), ("light" : Str)]
def p_make : List Str := [("lights" : Str), ("shade" : Str), ("eye" : Str)]
def b_make : Ss := (.cons (.ex (.call 107 (.cons (.var 0) .nil) 0))
  (.cons (.ex (.call 25 (.cons (.var 1) .nil) 0))
  (.cons (.set 3 (.call 31 (.cons (.var 2) .nil) 0))
  (.cons (.set 4 (.call 26 (.cons (.var 1) .nil) 0))
  (.cons (.unp [5, 6] (.call 116 (.cons (.comp (.call 26 (.cons (.var 7) .nil) 0) (.one 7) (.seq (.var 0)) .no [7]) (.cons (.var 4) (.cons (.var 3) .nil))) 0))
  (.cons (.ifs (.cmp .Eq (.var 6) (.var 4)) (.cons (.ret (.tup (.cons (.var 5) (.cons (.call 47 (.cons (.var 6) .nil) 0) (.cons (.lit .non) .nil)))) [])
  .nil) .nil)
  (.cons (.ret (.tup (.cons (.var 5) (.cons (.call 47 (.cons (.var 6) .nil) 0) (.cons (.call 117 (.cons (.var 4) (.cons (.var 6) (.cons (.var 3) .nil))) 0) .nil)))) [])
  .nil)))))))
def N_is_less : List Str := [("a" : Str), ("b" : Str)]
def p_is_less : List Str := [("a" : Str), ("b" : Str)]
def b_is_less : Ss := (.cons (.ret (.cmp .Lt (.bin .Mult (.idx (.var 0) (.lit (.int 0))) (.idx (.var 1) (.lit (.int 1)))) (.bin .Mult (.idx (.var 1) (.lit (.int 0))) (.idx (.var 0) (.lit (.int 1))))) [])
  .nil)
def N_Shade.__len__ : List Str := [("self" : Str), ("share" : Str)]
def p_Shade.__len__ : List Str := [("self" : Str)]
def b_Shade.__len__ : Ss := (.cons (.ret (.bf .len (.cons (.comp (.var 1) (.one 1) (.seq (.tup (.cons (.attr (.var 0) ("ember" : Str)) (.cons (.attr (.var 0) ("leaf" : Str)) (.cons (.attr (.var 0) ("sky" : Str)) .nil))))) (.so (.cmp .NotEq (.var 1) (.glob 11))) [1]) .nil)) [])
  .nil)
def N_shares_of : List Str := [("shade" : Str)]
def p_shares_of : List Str := [("shade" : Str)]
def b_shares_of : Ss := (.cons (.ex (.call 25 (.cons (.var 0) .nil) 0))
  (.cons (.ret (.call 26 (.cons (.var 0) .nil) 0) [])
  .nil))
def N_is_name : List Str := [("thing" : Str), ("sign" : Str)]
def p_is_name : List Str := [("thing" : Str)]
def b_is_name : Ss := (.cons (.ifs (.lor (.lnot (.bf (.isi .str) (.cons (.var 0) .nil))) (.lnot (.chain .LtE .LtE (.lit (.int 1)) (.bf .len (.cons (.var 0) .nil)) (.glob 34)))) (.cons (.ret (.lit (.bl false)) [])
  .nil) .nil)
  (.cons (.ret (.bf .all (.cons (.comp (.cmp .In (.var 1) (.glob 35)) (.one 1) (.seq (.var 0)) .no [1]) .nil)) [])
  .nil))
def N_check_name : List Str := [("thing" : Str)]
def p_check_name : List Str := [("thing" : Str)]
def b_check_name : Ss := (.cons (.ifs (.lnot (.call 36 (.cons (.var 0) .nil) 0)) (.cons .dead
  .nil) .nil)
  .nil)
def N_Book.__init__ : List Str := [("self" : Str), ("eye" : Str)]
def p_Book.__init__ : List Str := [("self" : Str), ("eye" : Str)]
def b_Book.__init__ : Ss := (.cons (.att (.var 0) ("eye" : Str) (.call 31 (.cons (.var 1) .nil) 0))
  (.cons (.att (.var 0) ("rows" : Str) (.lst .nil))
  (.cons (.attc (.var 0) ("past" : Str) (.lst .nil))
  .nil)))
def N_Book.place_of : List Str := [("self" : Str), ("name" : Str), ("place" : Str), ("row" : Str)]
def p_Book.place_of : List Str := [("self" : Str), ("name" : Str)]
def b_Book.place_of : Ss := (.cons (.forr (.many [2, 3]) (.enum (.attr (.var 0) ("rows" : Str))) (.cons (.ifs (.cmp .Eq (.idx (.var 3) (.lit (.int 0))) (.var 1)) (.cons (.ret (.var 2) [])
  .nil) .nil)
  .nil))
  (.cons .dead
  .nil))
def N_Book.check_new : List Str := [("self" : Str), ("name" : Str), ("row" : Str)]
def p_Book.check_new : List Str := [("self" : Str), ("name" : Str)]
def b_Book.check_new : Ss := (.cons (.ifs (.cmp .In (.var 1) (.comp (.idx (.var 2) (.lit (.int 0))) (.one 2) (.seq (.attr (.var 0) ("rows" : Str))) .no [2])) (.cons .dead
  .nil) .nil)
  .nil)
def N_Book.turn_to : List Str := [("self" : Str), ("rows" : Str)]
def p_Book.turn_to : List Str := [("self" : Str), ("rows" : Str)]
def b_Book.turn_to : Ss := (.cons (.ex (.bm .append (.attr (.var 0) ("past" : Str)) (.cons (.attr (.var 0) ("rows" : Str)) .nil)))
  (.cons (.att (.var 0) ("rows" : Str) (.var 1))
  .nil))
def N_Book.put : List Str := [("self" : Str), ("name" : Str), ("shade" : Str)]
def p_Book.put : List Str := [("self" : Str), ("name" : Str), ("shade" : Str)]
def b_Book.put : Ss := (.cons (.ex (.call 37 (.cons (.var 1) .nil) 0))
  (.cons (.ex (.call 25 (.cons (.var 2) .nil) 0))
  (.cons (.ex (.callm (.var 0) ("check_new" : Str) (.cons (.var 1) .nil) 0))
  (.cons (.ifs (.cmp .Eq (.bf .len (.cons (.attr (.var 0) ("rows" : Str)) .nil)) (.glob 33)) (.cons .dead
  .nil) .nil)
  (.cons (.ex (.callm (.var 0) ("turn_to" : Str) (.cons (.bin .Add (.attr (.var 0) ("rows" : Str)) (.lst (.cons (.tup (.cons (.var 1) (.cons (.var 2) .nil))) .nil))) .nil) 0))
  .nil)))))
def N_Book.rename : List Str := [("self" : Str), ("name" : Str), ("new" : Str), ("place" : Str)]
def p_Book.rename : List Str := [("self" : Str), ("name" : Str), ("new" : Str)]
def b_Book.rename : Ss := (.cons (.set 3 (.callm (.var 0) ("place_of" : Str) (.cons (.var 1) .nil) 0))
  (.cons (.ex (.call 37 (.cons (.var 2) .nil) 0))
  (.cons (.ex (.callm (.var 0) ("check_new" : Str) (.cons (.var 2) .nil) 0))
  (.cons (.ex (.callm (.var 0) ("turn_to" : Str) (.cons (.bin .Add (.bin .Add (.slc (.attr (.var 0) ("rows" : Str)) .no (.so (.var 3))) (.lst (.cons (.tup (.cons (.var 2) (.cons (.idx (.idx (.attr (.var 0) ("rows" : Str)) (.var 3)) (.lit (.int 1))) .nil))) .nil))) (.slc (.attr (.var 0) ("rows" : Str)) (.so (.bin .Add (.var 3) (.lit (.int 1)))) .no)) .nil) 0))
  .nil))))
def N_Book.drop : List Str := [("self" : Str), ("name" : Str), ("place" : Str)]
def p_Book.drop : List Str := [("self" : Str), ("name" : Str)]
def b_Book.drop : Ss := (.cons (.set 2 (.callm (.var 0) ("place_of" : Str) (.cons (.var 1) .nil) 0))
  (.cons (.ex (.callm (.var 0) ("turn_to" : Str) (.cons (.bin .Add (.slc (.attr (.var 0) ("rows" : Str)) .no (.so (.var 2))) (.slc (.attr (.var 0) ("rows" : Str)) (.so (.bin .Add (.var 2) (.lit (.int 1)))) .no)) .nil) 0))
  .nil))
def N_Book.shade : List Str := [("self" : Str), ("name" : Str)]
def p_Book.shade : List Str := [("self" : Str), ("name" : Str)]
def b_Book.shade : Ss := (.cons (.ret (.idx (.idx (.attr (.var 0) ("rows" : Str)) (.callm (.var 0) ("place_of" : Str) (.cons (.var 1) .nil) 0)) (.lit (.int 1))) [])
  .nil)
def N_Book.names : List Str := [("self" : Str), ("key" : Str), ("about" : Str), ("rows" : Str), ("found" : Str), ("row" : Str)]
def p_Book.names : List Str := [("self" : Str), ("key" : Str), ("about" : Str)]
def b_Book.names : Ss := (.cons (.set 3 (.attr (.var 0) ("rows" : Str)))
  (.cons (.ifs (.cmp .IsNot (.var 1) (.lit .non)) (.cons .dead
  .nil) .nil)
  (.cons (.set 4 (.bf .tuple (.cons (.comp (.idx (.var 5) (.lit (.int 0))) (.one 5) (.seq (.var 3)) .no [5]) .nil)))
  (.cons (.ret (.ife (.var 2) .dead (.var 4)) [])
  .nil))))
def N_Book.__len__ : List Str := [("self" : Str)]
def p_Book.__len__ : List Str := [("self" : Str)]
def b_Book.__len__ : Ss := (.cons (.ret (.bf .len (.cons (.attr (.var 0) ("rows" : Str)) .nil)) [])
  .nil)
def N_rows_of : List Str := [("book" : Str), ("name" : Str), ("shade" : Str)]
def p_rows_of : List Str := [("book" : Str)]
def b_rows_of : Ss := (.cons (.ret (.comp (.tup (.cons (.var 1) (.cons (.call 26 (.cons (.var 2) .nil) 0) .nil))) (.many [1, 2]) (.seq (.attr (.var 0) ("rows" : Str))) .no [1, 2]) [])
  .nil)
def N_check_limit : List Str := [("limit" : Str)]
def p_check_limit : List Str := [("limit" : Str)]
def b_check_limit : Ss := (.cons (.ifs (.lor (.lnot (.call 15 (.cons (.var 0) .nil) 0)) (.lor (.call 21 (.cons (.var 0) (.cons (.glob 40) .nil)) 0) (.call 21 (.cons (.glob 41) (.cons (.var 0) .nil)) 0))) (.cons .dead
  .nil) .nil)
  .nil)
def N_check_book : List Str := [("thing" : Str)]
def p_check_book : List Str := [("thing" : Str)]
def b_check_book : Ss := (.cons (.ifs (.lnot (.bf (.isi (.cls 38)) (.cons (.var 0) .nil))) (.cons .dead
  .nil) .nil)
  .nil)
def N_is_near : List Str := [("one" : Str), ("other" : Str), ("eye" : Str), ("limit" : Str)]
def p_is_near : List Str := [("one" : Str), ("other" : Str), ("eye" : Str), ("limit" : Str)]
def b_is_near : Ss := (.cons (.ret (.call 21 (.cons (.call 32 (.cons (.idx (.var 0) (.lit (.int 1))) (.cons (.idx (.var 1) (.lit (.int 1))) (.cons (.var 2) .nil))) 0) (.cons (.var 3) .nil)) 0) [])
  .nil)
def N_near_names : List Str := [("book" : Str), ("limit" : Str), ("rows" : Str), ("found" : Str), ("one" : Str), ("other" : Str)]
def p_near_names : List Str := [("book" : Str), ("limit" : Str)]
def b_near_names : Ss := (.cons (.set 2 (.call 39 (.cons (.var 0) .nil) 0))
  (.cons (.setd 3)
  (.cons (.forr (.one 4) (.seq (.var 2)) (.cons (.dput (.var 3) (.idx (.var 4) (.lit (.int 0))) (.comp (.idx (.var 5) (.lit (.int 0))) (.one 5) (.seq (.var 2)) (.so (.land (.cmp .NotEq (.idx (.var 5) (.lit (.int 0))) (.idx (.var 4) (.lit (.int 0)))) (.call 44 (.cons (.var 4) (.cons (.var 5) (.cons (.attr (.var 0) ("eye" : Str)) (.cons (.var 1) .nil)))) 0))) [5]))
  .nil))
  (.cons (.ret (.var 3) [3])
  .nil))))
def N_pairs_near : List Str := [("book" : Str), ("limit" : Str), ("found" : Str), ("name" : Str), ("others" : Str), ("other" : Str)]
def p_pairs_near : List Str := [("book" : Str), ("limit" : Str)]
def b_pairs_near : Ss := (.cons (.ex (.call 43 (.cons (.var 0) .nil) 0))
  (.cons (.ex (.call 42 (.cons (.var 1) .nil) 0))
  (.cons (.setc 2 (.lst .nil))
  (.cons (.forr (.many [3, 4]) (.items (.call 45 (.cons (.var 0) (.cons (.var 1) .nil)) 0)) (.cons (.ex (.bm .extend (.var 2) (.cons (.comp (.tup (.cons (.var 3) (.cons (.var 5) .nil))) (.one 5) (.seq (.var 4)) (.so (.cmp .Lt (.var 3) (.var 5))) [5]) .nil)))
  .nil))
  (.cons (.ret (.bf .tuple (.cons (.bf .sorted (.cons (.var 2) .nil)) .nil)) [2])
  .nil)))))
end Pt
set_option Elab.async false
set_option linter.all false
set_option maxRecDepth 100000
set_option maxHeartbeats 2000000
namespace Li
open PySem
/-! LiMono: more may be wanted. -/
theorem optQ_mono {α : Type} {o : Option α} {Q Q' : α → Prop} (h : ∀ v, Q v → Q' v) : optQ o Q → optQ o Q' := by
  cases o
  · exact id
  · exact h _
theorem intQ_mono {v : Val} {Q Q' : Int → Prop} (h : ∀ v, Q v → Q' v) : intQ v Q → intQ v Q' := by
  cases v <;> first
    | exact h _
    | exact id
theorem adrQ_mono {v : Val} {Q Q' : Addr → Prop} (h : ∀ v, Q v → Q' v) : adrQ v Q → adrQ v Q' := by
  cases v <;> first
    | exact h _
    | exact id
theorem lstQ_mono {v : Val} {Q Q' : List Val → Prop} (h : ∀ v, Q v → Q' v) : lstQ v Q → lstQ v Q' := by
  cases v <;> first
    | exact h _
    | exact id
theorem tupQ_mono {v : Val} {Q Q' : List Val → Prop} (h : ∀ v, Q v → Q' v) : tupQ v Q → tupQ v Q' := by
  cases v <;> first
    | exact h _
    | exact id
theorem gvalQ_mono {v : G} {Q Q' : Val → Prop} (h : ∀ v, Q v → Q' v) : gvalQ v Q → gvalQ v Q' := by
  cases v <;> first
    | exact h _
    | exact id
theorem objQ_mono {S : Sto} {a : Addr} {Q Q' : Addr → List (Str × Val) → Prop} (h : ∀ C v, Q C v → Q' C v) : objQ S a Q → objQ S a Q' := by
  unfold objQ
  split
  · exact h _ _
  · exact id
theorem celQ_mono {S : Sto} {a : Addr} {Q Q' : List Val → Prop} (h : ∀ v, Q v → Q' v) : celQ S a Q → celQ S a Q' := by
  unfold celQ
  split
  · exact h _
  · exact id
theorem slotQ_mono {σ : Env} {a : Nat} {Q Q' : Val → Prop} (h : ∀ v, Q v → Q' v) : slotQ σ a Q → slotQ σ a Q' := by
  unfold slotQ
  split
  · exact h _
  · exact id
theorem brV_mono {o : Option Bool} {A A' B B' : Prop} (h1 : A → A') (h2 : B → B') : brV o A B → brV o A' B' := by
  match o with
  | some true => exact h1
  | some false => exact h2
  | none => exact id
theorem addV_mono {S : Sto} {Q Q' : Val → Prop} (h : ∀ v, Q v → Q' v) {x y : Val} : addV S Q x y → addV S Q' x y := by
  unfold addV
  split <;> first
    | exact h _
    | exact fun q => ⟨q.1, h _ q.2⟩
    | exact optQ_mono fun _ => optQ_mono fun _ q => ⟨q.1, h _ q.2⟩
theorem int2_mono {C : Int → Int → Prop} {g : Int → Int → Int} {Q Q' : Val → Prop} (h : ∀ v, Q v → Q' v) {x y : Val} : int2 C g Q x y → int2 C g Q' x y := by
  unfold int2
  split
  · exact fun q => ⟨q.1, h _ q.2⟩
  · exact id
theorem mulV_mono {S : Sto} {Q Q' : Val → Prop} (h : ∀ v, Q v → Q' v) {x y : Val} : mulV S Q x y → mulV S Q' x y := by
  unfold mulV
  split <;> first
    | exact fun q => ⟨q.1, h _ q.2⟩
    | exact id
theorem binV_mono {S : Sto} {o : Operator} {x y : Val} {Q Q' : Val → Prop} (h : ∀ v, Q v → Q' v) : binV S o x y Q → binV S o x y Q' := by
  unfold binV
  cases o <;> first
    | exact addV_mono h
    | exact mulV_mono h
    | exact int2_mono h
    | exact id
theorem augV_mono {o : Operator} {x y : Val} {Q Q' : Val → Prop} (h : ∀ v, Q v → Q' v) : augV o x y Q → augV o x y Q' := by
  unfold augV
  cases o <;> first
    | exact int2_mono h
    | exact id
theorem cmpI_mono {f : Int → Int → Bool} {Q Q' : Bool → Prop} (h : ∀ v, Q v → Q' v) {x y : Val} : cmpI f Q x y → cmpI f Q' x y := by
  unfold cmpI
  split
  · exact h _
  · exact id
theorem ltV_mono {Q Q' : Bool → Prop} (h : ∀ v, Q v → Q' v) {x y : Val} : ltV Q x y → ltV Q' x y := by
  unfold ltV
  split <;> first
    | exact h _
    | exact id
theorem inD_mono {Q Q' : Bool → Prop} (h : ∀ v, Q v → Q' v) {x y : PyData} : inD Q x y → inD Q' x y := by
  unfold inD
  split
  · exact fun q => ⟨q.1, q.2.1, h _ q.2.2⟩
  · exact fun q => ⟨q.1, q.2.1, h _ q.2.2⟩
  · split <;> first
      | exact h _
      | exact id
  · exact id
theorem inV_mono {S : Sto} {x y : Val} {Q Q' : Bool → Prop} (h : ∀ v, Q v → Q' v) : inV S x y Q → inV S x y Q' := optQ_mono fun _ => optQ_mono fun _ => inD_mono h
theorem keyQ_mono {x : Val} {Q Q' : L2.Key → Prop} (h : ∀ v, Q v → Q' v) : keyQ x Q → keyQ x Q' := by
  unfold keyQ
  split <;> first
    | exact h _
    | exact id
theorem dctQC_mono {S : Sto} {a : Addr} {Q Q' : List (L2.Key × Val) → Prop} (h : ∀ v, Q v → Q' v) : dctQC S a Q → dctQC S a Q' := by
  unfold dctQC
  split <;> first
    | exact h _
    | exact id
theorem mthQ_mono {c : Cxt} {S : Sto} {m : Str} {ks : List Str} {x : Val} {Q Q' : G → Prop} (h : ∀ g, Q g → Q' g) : mthQ c S m ks Q x → mthQ c S m ks Q' x := by
  unfold mthQ
  split <;> first
    | exact fun z => ⟨z.1, h _ z.2⟩
    | exact objQ_mono fun _ _ z => ⟨z.1, h _ z.2⟩
    | exact id
theorem eqV_mono {S : Sto} {f : Bool → Bool} {x y : Val} {Q Q' : Bool → Prop} (h : ∀ v, Q v → Q' v) : eqV S f x y Q → eqV S f x y Q' :=
  optQ_mono fun _ => optQ_mono fun _ q => ⟨q.1, q.2.1, h _ q.2.2⟩
theorem cmpV_mono {S : Sto} {o : CmpOp} {x y : Val} {Q Q' : Bool → Prop} (h : ∀ v, Q v → Q' v) : cmpV S o x y Q → cmpV S o x y Q' := by
  unfold cmpV
  cases o <;> first
    | exact cmpI_mono h
    | exact ltV_mono h
    | exact inV_mono h
    | exact inV_mono fun _ => h _
    | exact eqV_mono h
    | exact fun q => ⟨q.1, h _ q.2⟩
    | exact id
theorem idxV_mono {S : Sto} {x y : Val} {Q Q' : Val → Prop} (h : ∀ v, Q v → Q' v) : idxV S x y Q → idxV S x y Q' := by
  unfold idxV
  refine intQ_mono fun i => ?_
  split <;> first
    | exact optQ_mono h
    | exact fun z => ⟨z.1, optQ_mono (fun _ => h _) z.2⟩
    | exact optQ_mono fun _ => optQ_mono h
theorem slcV_mono {S : Sto} {x : Val} {l u : Option Int} {Q Q' : Val → Prop} (h : ∀ v, Q v → Q' v) : slcV S x l u Q → slcV S x l u Q' := by
  unfold slcV
  split <;> first
    | exact h _
    | exact fun z => ⟨z.1, h _ z.2⟩
    | exact optQ_mono fun _ => h _
theorem fldV_mono {A : Addr → Str → Prop} {S : Sto} {f : Str} {x : Val} {Q Q' : Val → Prop} (h : ∀ v, Q v → Q' v) : fldV A S f Q x → fldV A S f Q' x := by
  unfold fldV
  split <;> first
    | exact fun z => ⟨z.1, optQ_mono h z.2⟩
    | exact id
    | exact objQ_mono fun _ _ z => ⟨z.1, optQ_mono h z.2⟩
theorem bfV_mono {D : Nat → G} {f : Bf} {vs : List Val} {S : Sto} {Q Q' : Val → Prop} (h : ∀ v, Q v → Q' v) : bfV D f vs S Q → bfV D f vs S Q' := by
  unfold bfV
  split <;> first
    | exact h _
    | exact id
    | exact optQ_mono fun _ => h _
    | exact intQ_mono fun _ => h _
    | exact intQ_mono fun _ => intQ_mono fun _ => h _
    | exact optQ_mono fun _ q => ⟨q.1, fun m h1 h2 => h _ (q.2 m h1 h2)⟩
    | exact optQ_mono fun _ => optQ_mono fun _ q => ⟨q.1, h _ q.2⟩
theorem capQ_mono {σ : Env} : ∀ {is : List Nat} {Q Q' : List Val → Prop}, (∀ vs, Q vs → Q' vs) → capQ σ is Q → capQ σ is Q'
  | [], _, _, h, q => h _ q
  | i :: r, _, _, h, q => slotQ_mono (fun v z => capQ_mono (is := r) (fun vs z => h _ z) z) q
theorem dctQ_mono {v : Val} {Q Q' : List L2.Key → List Val → Prop} (h : ∀ a b, Q a b → Q' a b) : dctQ v Q → dctQ v Q' := by
  cases v <;> first
    | exact h _ _
    | exact id
theorem bmV_mono {m : Bm} {x : Val} {vs : List Val} {S : Sto} {Q Q' : VQ} (h : ∀ v S, Q v S → Q' v S) : bmV m x vs S Q → bmV m x vs S Q' := by
  unfold bmV
  split <;> first
    | exact adrQ_mono fun _ => celQ_mono fun _ q => ⟨q.1, h _ _ q.2⟩
    | exact adrQ_mono fun _ => celQ_mono fun _ => optQ_mono fun _ => h _ _
    | exact adrQ_mono fun _ => celQ_mono fun _ => intQ_mono fun _ q => ⟨q.1, optQ_mono (fun _ => optQ_mono fun _ => h _ _) q.2⟩
    | exact adrQ_mono fun _ => celQ_mono fun _ => intQ_mono fun _ q => ⟨q.1, h _ _ q.2⟩
    | exact adrQ_mono fun _ => celQ_mono fun _ => lstQ_mono fun _ q => ⟨q.1, h _ _ q.2⟩
    | exact intQ_mono fun _ => dctQ_mono fun _ _ => h _ _
    | exact id
theorem asgs_mono {k k' : Env → Prop} (h : ∀ σ, k σ → k' σ) : ∀ {is : List Nat} {vs : List Val} {σ : Env}, asgs is vs σ k → asgs is vs σ k'
  | [], [], _, q => h _ q
  | [], _ :: _, _, q => q
  | _ :: _, [], _, q => q
  | _ :: is, _ :: vs, _, q => asgs_mono (is := is) (vs := vs) h q
theorem asg_mono {k k' : Env → Prop} (h : ∀ σ, k σ → k' σ) {t : Tg} {v : Val} {σ : Env} : asg t v σ k → asg t v σ k' := by
  unfold asg
  split
  · exact h _
  · exact tupQ_mono fun _ => asgs_mono h
theorem callK_mono {g : G} {vs ws : List Val} {S : Sto} {Q Q' : VQ} {er : EQ} (h : ∀ v S', Q v S' → Q' v S') : callK g vs ws S Q er → callK g vs ws S Q' er := by
  unfold callK
  cases g with
  | fnk sp n np ks arr => exact fun ⟨h1, h2, h3, h4⟩ => ⟨h1, h2, h3, sp.mono h (fun _ _ z => z) h4⟩
  | clk C fz sp n np ks arr =>
    refine fun q => ⟨q.1, q.2.1, q.2.2.1, fun x hx => ISp.mono _ (fun v S' z => ?_) (fun _ _ z => z) (q.2.2.2 x hx)⟩
    obtain ⟨z1, fs, z2, z3⟩ := z
    refine ⟨z1, fs, z2, ?_⟩
    split at z3
    · rename_i hf
      rw [if_pos hf]
      exact h _ _ z3
    · rename_i hf
      rw [if_neg hf]
      exact h _ _ z3
  | _ => exact fun z => z.elim
theorem callG_mono {g : G} {vs : List Val} {dn : Nat} {S : Sto} {Q Q' : VQ} {er : EQ} (h : ∀ v S', Q v S' → Q' v S') : callG g vs dn S Q er → callG g vs dn S Q' er := by
  unfold callG
  split
  · exact fun q => ⟨q.1, (ISp.mono _ h (fun _ _ z => z)) q.2⟩
  · refine fun q => ⟨q.1, fun x hx => ISp.mono _ (fun v S' z => ?_) (fun _ _ z => z) (q.2 x hx)⟩
    obtain ⟨z1, fs, z2, z3⟩ := z
    refine ⟨z1, fs, z2, ?_⟩
    split at z3
    · rename_i hf
      rw [if_pos hf]
      exact h _ _ z3
    · rename_i hf
      rw [if_neg hf]
      exact h _ _ z3
  · exact id
theorem compL_mono {step step' : Val → Sto → (Option Val → Sto → Prop) → Prop} {chk : Sto → Prop} (hs : ∀ v S k k', (∀ o S', k o S' → k' o S') → step v S k → step' v S k') {Q Q' : List Val → Sto → Prop} (h : ∀ v S', Q v S' → Q' v S') :
    ∀ {vs acc : List Val} {S : Sto}, compL step chk vs acc S Q → compL step' chk vs acc S Q'
  | [], _, _, q => ⟨q.1, h _ _ q.2⟩
  | v :: r, acc, S, q => by
    refine ⟨q.1, hs _ _ _ _ (fun o S' z => ?_) q.2⟩
    cases o with
    | none => exact compL_mono hs h (vs := r) z
    | some y => exact ⟨z.1, compL_mono hs h (vs := r) z.2⟩
theorem tst_mono {Q Q' : Bool → Sto → Prop} (h : ∀ v S', Q v S' → Q' v S') {v : Val} {S : Sto} : tst Q v S → tst Q' v S := optQ_mono fun _ => h _ _
mutual
theorem evE_mono : ∀ (e : E) {c : Cxt} {σ : Env} {S : Sto} {Q Q' : VQ}, (∀ v S', Q v S' → Q' v S') → evE c e σ S Q → evE c e σ S Q'
  | .var i, c, σ, S, Q, Q', h, q => slotQ_mono (fun _ => h _ _) q
  | .lit v, c, σ, S, Q, Q', h, q => h _ _ q
  | .glob g, c, σ, S, Q, Q', h, q => gvalQ_mono (fun _ => h _ _) q
  | .bin o a b, c, σ, S, Q, Q', h, q => evE_mono a (fun x S1 q1 => evE_mono b (fun y S2 q2 => binV_mono (fun v q3 => h _ _ q3) q2) q1) q
  | .neg a, c, σ, S, Q, Q', h, q => evE_mono a (fun x S1 q1 => intQ_mono (fun _ => h _ _) q1) q
  | .cmp o a b, c, σ, S, Q, Q', h, q => evE_mono a (fun x S1 q1 => evE_mono b (fun y S2 q2 => cmpV_mono (fun v q3 => h _ _ q3) q2) q1) q
  | .chain o p a b d, c, σ, S, Q, Q', h, q => evE_mono a (fun x S1 q1 => evE_mono b (fun y S2 q2 => cmpV_mono (fun v q3 => brV_mono (fun q3 => evE_mono d (fun z S3 q4 => cmpV_mono (fun v q3 => h _ _ q3) q4) q3) (h _ _) q3) q2) q1) q
  | .land a b, c, σ, S, Q, Q', h, q => evE_mono a (fun x S1 q1 => brV_mono (evE_mono b h) (h _ _) q1) q
  | .lor a b, c, σ, S, Q, Q', h, q => evE_mono a (fun x S1 q1 => brV_mono (h _ _) (evE_mono b h) q1) q
  | .lnot a, c, σ, S, Q, Q', h, q => evE_mono a (fun x S1 q1 => optQ_mono (fun _ => h _ _) q1) q
  | .ife t a b, c, σ, S, Q, Q', h, q => evE_mono t (fun x S1 q1 => brV_mono (evE_mono a h) (evE_mono b h) q1) q
  | .tup es, c, σ, S, Q, Q', h, q => evEs_mono es (fun vs S1 q1 => ⟨q1.1, h _ _ q1.2⟩) q
  | .lst es, c, σ, S, Q, Q', h, q => evEs_mono es (fun vs S1 q1 => ⟨q1.1, h _ _ q1.2⟩) q
  | .idx a i, c, σ, S, Q, Q', h, q => evE_mono a (fun x S1 q1 => evE_mono i (fun y S2 q2 => idxV_mono (fun v q3 => h _ _ q3) q2) q1) q
  | .slc a lo hi, c, σ, S, Q, Q', h, q => evE_mono a (fun x S1 q1 => evI_mono lo (fun l S2 q2 => evI_mono hi (fun u S3 q3 => slcV_mono (fun v q4 => h _ _ q4) q3) q2) q1) q
  | .call g es dn, c, σ, S, Q, Q', h, q => ⟨q.1, evEs_mono es (fun vs S1 q1 => callG_mono h q1) q.2⟩
  | .calln j i es, c, σ, S, Q, Q', h, q => ⟨q.1, evEs_mono es (fun vs S1 q1 => ⟨q1.1, capQ_mono (fun cs z => (c.L j).sp.mono h (fun _ _ z => z) z) q1.2⟩) q.2⟩
  | .callk g es ks kes, c, σ, S, Q, Q', h, q => ⟨q.1, evEs_mono es (fun vs S1 q1 => evEs_mono kes (fun ws S2 q2 => callK_mono h q2) q1) q.2⟩
  | .bf f es, c, σ, S, Q, Q', h, q => evEs_mono es (fun vs S1 q1 => bfV_mono (fun v q2 => h _ _ q2) q1) q
  | .bm m o es, c, σ, S, Q, Q', h, q => evE_mono o (fun x S1 q1 => ⟨q1.1, evEs_mono es (fun vs S2 q2 => bmV_mono h q2) q1.2⟩) q
  | .attr o f, c, σ, S, Q, Q', h, q => evE_mono o (fun x S1 q1 => fldV_mono (fun v q2 => h _ _ q2) q1) q
  | .comp elt t it ifs own, c, σ, S, Q, Q', h, q => evIt_mono it (fun items chk S1 q1 => compL_mono (fun v S2 k k' hk q2 => asg_mono (fun σ2 q3 => evO_mono ifs (fun b S3 q4 => brV_mono (evE_mono elt (fun y S4 q5 => hk _ _ q5)) (hk _ _) q4) q3) q2) (fun vs S5 q6 => h _ _ q6) q1) q
  | .srtLen e, c, σ, S, Q, Q', h, q => evE_mono e (fun x S1 q1 => optQ_mono (fun _ => optQ_mono fun _ => h _ _) q1) q
  | .dzip a b, c, σ, S, Q, Q', h, q => evE_mono a (fun x S1 q1 => evE_mono b (fun y S2 q2 => optQ_mono (fun _ => optQ_mono fun _ => optQ_mono fun _ z => ⟨z.1, z.2.1, h _ _ z.2.2⟩) q2) q1) q
  | .dead, c, σ, S, Q, Q', h, q => q.elim
  | .callm o m es dn, c, σ, S, Q, Q', h, q => evE_mono o (fun x S1 q1 => mthQ_mono (fun g z => ⟨z.1, evEs_mono es (fun vs S2 q2 => callG_mono h q2) z.2⟩) q1) q
  | .callmk o m es ks kes, c, σ, S, Q, Q', h, q => evE_mono o (fun x S1 q1 => mthQ_mono (fun g z => ⟨z.1, evEs_mono es (fun vs S2 q2 => evEs_mono kes (fun ws S3 q3 => callK_mono h q3) q2) z.2⟩) q1) q
  | .dget a i, c, σ, S, Q, Q', h, q => evE_mono a (fun x S1 q1 => evE_mono i (fun y S2 q2 => keyQ_mono (fun _ => optQ_mono fun _ => optQ_mono fun _ => h _ _) q2) q1) q
  | .din neg i a, c, σ, S, Q, Q', h, q => evE_mono i (fun x S1 q1 => evE_mono a (fun y S2 q2 => keyQ_mono (fun _ => optQ_mono fun _ => h _ _) q2) q1) q
  | .lenm o, c, σ, S, Q, Q', h, q => evE_mono o (fun x S1 q1 => mthQ_mono (fun g z => ⟨z.1, callG_mono (fun v S' z => intQ_mono (fun i y => ⟨y.1, h _ _ y.2⟩) z) z.2⟩) q1) q
theorem evEs_mono : ∀ (e : Es) {c : Cxt} {σ : Env} {S : Sto} {Q Q' : List Val → Sto → Prop}, (∀ v S', Q v S' → Q' v S') → evEs c e σ S Q → evEs c e σ S Q'
  | .nil, c, σ, S, Q, Q', h, q => h _ _ q
  | .cons e r, c, σ, S, Q, Q', h, q => evE_mono e (fun v S1 q1 => evEs_mono r (fun vs S2 q2 => h _ _ q2) q1) q
theorem evI_mono : ∀ (e : Eo) {c : Cxt} {σ : Env} {S : Sto} {Q Q' : Option Int → Sto → Prop}, (∀ v S', Q v S' → Q' v S') → evI c e σ S Q → evI c e σ S Q'
  | .no, c, σ, S, Q, Q', h, q => h _ _ q
  | .so e, c, σ, S, Q, Q', h, q => evE_mono e (fun v S1 q1 => intQ_mono (fun _ => h _ _) q1) q
theorem evO_mono : ∀ (e : Eo) {c : Cxt} {σ : Env} {S : Sto} {Q Q' : Bool → Sto → Prop}, (∀ v S', Q v S' → Q' v S') → evO c e σ S Q → evO c e σ S Q'
  | .no, c, σ, S, Q, Q', h, q => h _ _ q
  | .so e, c, σ, S, Q, Q', h, q => evE_mono e (fun v S1 q1 => tst_mono h q1) q
theorem evIt_mono : ∀ (e : It) {c : Cxt} {σ : Env} {S : Sto} {Q Q' : List Val → (Sto → Prop) → Sto → Prop}, (∀ v k S', Q v k S' → Q' v k S') → evIt c e σ S Q → evIt c e σ S Q'
  | .seq e, c, σ, S, Q, Q', h, q => evE_mono e (fun v S1 q1 => optQ_mono (fun _ => h _ _ _) q1) q
  | .rng a b, c, σ, S, Q, Q', h, q => evE_mono a (fun x S1 q1 => evE_mono b (fun y S2 q2 => intQ_mono (fun _ => intQ_mono fun _ q3 => ⟨q3.1, h _ _ _ q3.2⟩) q2) q1) q
  | .rng1 b, c, σ, S, Q, Q', h, q => evE_mono b (fun y S2 q2 => intQ_mono (fun _ q3 => ⟨q3.1, h _ _ _ q3.2⟩) q2) q
  | .enum e, c, σ, S, Q, Q', h, q => evE_mono e (fun v S1 q1 => optQ_mono (fun _ => h _ _ _) q1) q
  | .zip a b, c, σ, S, Q, Q', h, q => evE_mono a (fun x S1 q1 => evE_mono b (fun y S2 q2 => optQ_mono (fun _ => optQ_mono fun _ q3 => ⟨q3.1, h _ _ _ q3.2⟩) q2) q1) q
  | .items e, c, σ, S, Q, Q', h, q => evE_mono e (fun v S1 q1 => dctQ_mono (fun _ _ => h _ _ _) q1) q
end
structure DE.le (D D' : DE) : Prop where
  nx : ∀ σ S, D.nx σ S → D'.nx σ S
  rt : ∀ v S, D.rt v S → D'.rt v S
  bk : ∀ σ S, D.bk σ S → D'.bk σ S
  ct : ∀ σ S, D.ct σ S → D'.ct σ S
theorem DE.le.refl (D : DE) : D.le D := ⟨fun _ _ h => h, fun _ _ h => h, fun _ _ h => h, fun _ _ h => h⟩
theorem forL_mono {step step' : Val → DE → Env → Sto → Prop} {chk : Sto → Prop} (hs : ∀ v D D' σ S, D.le D' → step v D σ S → step' v D' σ S) : ∀ {vs : List Val} {D D' : DE} {σ : Env} {S : Sto}, D.le D' → forL step chk vs D σ S → forL step' chk vs D' σ S
  | [], _, _, _, _, h, q => ⟨q.1, h.nx _ _ q.2⟩
  | v :: r, D, D', σ, S, h, q => ⟨q.1, hs v { D with nx := forL step chk r D, ct := forL step chk r D, bk := D.nx } { D' with nx := forL step' chk r D', ct := forL step' chk r D', bk := D'.nx } σ S
      ⟨fun _ _ z => forL_mono hs (vs := r) h z, h.rt, h.nx, fun _ _ z => forL_mono hs (vs := r) h z⟩ q.2⟩
theorem whlN_mono {t t' : Env → Sto → (Bool → Sto → Prop) → Prop} {body body' : DE → Env → Sto → Prop} (ht : ∀ σ S Q Q', (∀ v S', Q v S' → Q' v S') → t σ S Q → t' σ S Q') (hb : ∀ D D' σ S, D.le D' → body D σ S → body' D' σ S) :
    ∀ {n : Nat} {D D' : DE} {σ : Env} {S : Sto}, D.le D' → whlN t body n D σ S → whlN t' body' n D' σ S
  | 0, _, _, _, _, _, q => q.elim
  | n + 1, D, D', σ, S, h, q => ht _ _ _ _ (fun b S' z => brV_mono (fun z => hb { D with nx := whlN t body n D, ct := whlN t body n D, bk := D.nx } { D' with nx := whlN t' body' n D', ct := whlN t' body' n D', bk := D'.nx } _ _
      ⟨fun _ _ y => whlN_mono ht hb (n := n) h y, h.rt, h.nx, fun _ _ y => whlN_mono ht hb (n := n) h y⟩ z) (h.nx _ _) z) q
theorem setC_mono {i : Nat} {v : Val} {σ : Env} {S : Sto} {k k' : Env → Sto → Prop} (h : ∀ σ S, k σ S → k' σ S) : setC i v σ S k → setC i v σ S k' := lstQ_mono fun _ q a ha => h _ _ (q a ha)
theorem setB_mono {cl : Bool} {i : Nat} {v : Val} {σ : Env} {S : Sto} {k k' : Env → Sto → Prop} (h : ∀ σ S, k σ S → k' σ S) : setB cl i v σ S k → setB cl i v σ S k' := by
  cases cl
  · exact h _ _
  · exact setC_mono h
theorem frz_mono {σ : Env} {Q Q' : VQ} (h : ∀ v S, Q v S → Q' v S) : ∀ {fr : List Nat} {v : Val} {S : Sto}, frz σ fr v S Q → frz σ fr v S Q'
  | [], _, _, q => h _ _ q
  | i :: r, v, S, q => frz_mono h (fr := r) q
mutual
theorem evS_mono {c : Cxt} : ∀ (s : Sm) {D D' : DE} {σ : Env} {S : Sto}, D.le D' → evS c s D σ S → evS c s D' σ S
  | .set i e, D, D', σ, S, h, q => evE_mono e (fun v S1 q1 => h.nx _ _ q1) q
  | .setc i e, D, D', σ, S, h, q => evE_mono e (fun v S1 q1 => setC_mono h.nx q1) q
  | .ndef i j, D, D', σ, S, h, q => fun f F h1 h2 => h.nx _ _ (q f F h1 h2)
  | .unp ts e, D, D', σ, S, h, q => evE_mono e (fun v S1 q1 => asg_mono (fun σ2 q2 => h.nx _ _ q2) q1) q
  | .par i j ci cj a b, D, D', σ, S, h, q => evE_mono a (fun x S1 q1 => evE_mono b (fun y S2 q2 => setB_mono (fun σ2 S3 q3 => setB_mono h.nx q3) q2) q1) q
  | .aug i o e, D, D', σ, S, h, q => slotQ_mono (fun x q => evE_mono e (fun y S1 q1 => augV_mono (fun v q2 => h.nx _ _ q2) q1) q) q
  | .sub a i e, D, D', σ, S, h, q => evE_mono e (fun v S1 q1 => evE_mono a (fun x S2 q2 => evE_mono i (fun y S3 q3 => adrQ_mono (fun _ => intQ_mono fun _ => celQ_mono fun _ => optQ_mono fun _ => h.nx _ _) q3) q2) q1) q
  | .asub a i o e, D, D', σ, S, h, q => evE_mono a (fun x S1 q1 => evE_mono i (fun y S2 q2 => adrQ_mono (fun _ => intQ_mono fun _ => celQ_mono fun _ => optQ_mono fun _ => optQ_mono fun _ z => evE_mono e (fun u S3 q3 => augV_mono (fun v q4 => celQ_mono (fun _ z => ⟨z.1, h.nx _ _ z.2⟩) q4) q3) z) q2) q1) q
  | .att o f e, D, D', σ, S, h, q => evE_mono e (fun v S1 q1 => evE_mono o (fun x S2 q2 => adrQ_mono (fun _ => objQ_mono fun _ _ z => ⟨z.1, z.2.1, h.nx _ _ z.2.2⟩) q2) q1) q
  | .attc o f e, D, D', σ, S, h, q => evE_mono e (fun v S1 q1 => lstQ_mono (fun _ z a ha => evE_mono o (fun x S2 q2 => adrQ_mono (fun _ => objQ_mono fun _ _ z => ⟨z.1, z.2.1, h.nx _ _ z.2.2⟩) q2) (z a ha)) q1) q
  | .setd i, D, D', σ, S, h, q => fun a ha => h.nx _ _ (q a ha)
  | .dput a i e, D, D', σ, S, h, q => evE_mono e (fun v S1 q1 => evE_mono a (fun x S2 q2 => evE_mono i (fun y S3 q3 => adrQ_mono (fun _ => keyQ_mono fun _ => dctQC_mono fun _ z => ⟨z.1, h.nx _ _ z.2⟩) q3) q2) q1) q
  | .dead, D, D', σ, S, h, q => q.elim
  | .ex e, D, D', σ, S, h, q => evE_mono e (fun v S1 q1 => h.nx _ _ q1) q
  | .ret e fr, D, D', σ, S, h, q => evE_mono e (fun v S1 q1 => frz_mono h.rt q1) q
  | .retc e, D, D', σ, S, h, q => evE_mono e (fun v S1 q1 => lstQ_mono (fun _ z a ha => h.rt _ _ (z a ha)) q1) q
  | .retn fr, D, D', σ, S, h, q => frz_mono h.rt q
  | .ifs t a b, D, D', σ, S, h, q => evE_mono t (fun v S1 q1 => tst_mono (fun k S2 q2 => brV_mono (evSs_mono a h) (evSs_mono b h) q2) q1) q
  | .whl t b, D, D', σ, S, h, q => by
    obtain ⟨n, q⟩ := q
    exact ⟨n, whlN_mono (t := fun σ S Q => evE c t σ S (tst Q)) (t' := fun σ S Q => evE c t σ S (tst Q)) (body := evSs c b) (body' := evSs c b) (fun σ S Q Q' hQ z => evE_mono t (fun v S1 q1 => tst_mono hQ q1) z) (fun D D' σ S hD z => evSs_mono b hD z) h q⟩
  | .forr t it b, D, D', σ, S, h, q => evIt_mono it (fun items chk S1 q1 => forL_mono (fun v D D' σ S hD z => asg_mono (fun σ2 z2 => evSs_mono b hD z2) z) h q1) q
  | .raise g es, D, D', σ, S, h, q => q.elim
  | .pass, D, D', σ, S, h, q => h.nx _ _ q
  | .brk, D, D', σ, S, h, q => h.bk _ _ q
  | .cont, D, D', σ, S, h, q => h.ct _ _ q
theorem evSs_mono {c : Cxt} : ∀ (s : Ss) {D D' : DE} {σ : Env} {S : Sto}, D.le D' → evSs c s D σ S → evSs c s D' σ S
  | .nil, D, D', σ, S, h, q => h.nx _ _ q
  | .cons s r, D, D', σ, S, h, q => evS_mono s (D := { D with nx := evSs c r D }) (D' := { D' with nx := evSs c r D' }) ⟨fun _ _ z => evSs_mono r h z, h.rt, h.bk, h.ct⟩ q
end
end Li
set_option Elab.async false
set_option linter.all false
set_option maxRecDepth 100000
set_option maxHeartbeats 2000000
/-! LiRel: how plain values and the store lie in the abstract heap of HandS. -/
namespace Li
open PySem L2

mutual
def Rv (K : PySem.W.Frag) (M : Addr → Prop) (H : Hp) : Val → V → Prop
  | .non, x => x = .non
  | .bl b, x => x = .bl b
  | .int i, x => x = .int i
  | .str s, x => x = .str s
  | .adr a, x => x = .ref a
  | .scr ns, x => ∃ p, x = .ref p ∧ (((H p = some (.lst (ns.map V.int)) ∨ ∃ o, H p = some (.frz o (.lst (ns.map V.int)))) ∧ ¬ M p) ∨ SqL K (fun _ => none) p (ns.map V.int))
  | .tup vs, x => ∃ p xs, x = .ref p ∧ ((H p = some (.tup xs) ∧ ¬ M p) ∨ SqT K (fun _ => none) p xs) ∧ Rvs K M H vs xs
  | .lst vs, x => ∃ p xs, x = .ref p ∧ H p = some (.lst xs) ∧ ¬ M p ∧ Rvs K M H vs xs
  | .ins C ns vs, x => ∃ p dx xs, x = .ref p ∧ H p = some (.ins C dx (ns.zip xs)) ∧ ¬ M p ∧ ns.length = vs.length ∧ Rvs K M H vs xs
  | .clo f F, x => x = .ref f ∧ H f = some (NdefX.FnO f F) ∧ ¬ M f ∧ H F.c = some (LamX.CodeO F.c F.qual) ∧ ¬ M F.c
  | .dct ks vs, x => ∃ p o xs, x = .ref p ∧ H p = some (.frz o (.dK (ks.zip xs))) ∧ ¬ M p ∧ ks.length = vs.length ∧ Rvs K M H vs xs
def Rvs (K : PySem.W.Frag) (M : Addr → Prop) (H : Hp) : List Val → List V → Prop
  | [], xs => xs = []
  | v :: r, xs => ∃ x y, xs = x :: y ∧ Rv K M H v x ∧ Rvs K M H r y
end
/-- no table of code objects -/
def Solid (o : HO) : Prop := ∀ ps, o ≠ .tbl ps
theorem so_lst {xs : List V} : Solid (.lst xs) := fun _ z => nomatch z
theorem so_tup {xs : List V} : Solid (.tup xs) := fun _ z => nomatch z
theorem so_ins {C dx : Addr} {xs : List (Str × V)} : Solid (.ins C dx xs) := fun _ z => nomatch z
theorem so_frz {o : Obj} {u : HO} : Solid (.frz o u) := fun _ z => nomatch z
theorem so_dK {xs : List (Key × V)} : Solid (.dK xs) := fun _ z => nomatch z
theorem so_fn {f : Addr} {F : NdefX.NF} : Solid (NdefX.FnO f F) := fun _ z => NdefX.fnO_ne _ z
theorem so_code {c : Addr} {q : Str} : Solid (LamX.CodeO c q) := fun _ z => by
  unfold LamX.CodeO at z
  cases z
structure Keeps (M : Addr → Prop) (H : Hp) (M' : Addr → Prop) (H' : Hp) : Prop where
  keep : ∀ p o, H p = some o → Solid o → ¬ M p → H' p = some o ∧ ¬ M' p
mutual
theorem Rv.keep {K : PySem.W.Frag} {M M' : Addr → Prop} {H H' : Hp} (k : Keeps M H M' H') : ∀ {v : Val} {x : V}, Rv K M H v x → Rv K M' H' v x
  | .non, _, h => h
  | .bl _, _, h => h
  | .int _, _, h => h
  | .str _, _, h => h
  | .adr _, _, h => h
  | .scr ns, _, ⟨p, e, h⟩ => ⟨p, e, h.imp (fun ⟨h1, h2⟩ => h1.elim (fun h1 => ⟨.inl (k.keep p _ h1 so_lst h2).1, (k.keep p _ h1 so_lst h2).2⟩) fun ⟨o, h1⟩ => ⟨.inr ⟨o, (k.keep p _ h1 so_frz h2).1⟩, (k.keep p _ h1 so_frz h2).2⟩) id⟩
  | .tup vs, _, ⟨p, xs, e, h1, h2⟩ => ⟨p, xs, e, h1.imp (fun z => ⟨(k.keep p _ z.1 so_tup z.2).1, (k.keep p _ z.1 so_tup z.2).2⟩) id, Rvs.keep k h2⟩
  | .lst vs, _, ⟨p, xs, e, h1, h2, h3⟩ => ⟨p, xs, e, (k.keep p _ h1 so_lst h2).1, (k.keep p _ h1 so_lst h2).2, Rvs.keep k h3⟩
  | .ins C ns vs, _, ⟨p, dx, xs, e, h1, h2, h3, h4⟩ => ⟨p, dx, xs, e, (k.keep p _ h1 so_ins h2).1, (k.keep p _ h1 so_ins h2).2, h3, Rvs.keep k h4⟩
  | .clo f F, _, ⟨e, h1, h2, h3, h4⟩ => ⟨e, (k.keep f _ h1 so_fn h2).1, (k.keep f _ h1 so_fn h2).2, (k.keep _ _ h3 so_code h4).1, (k.keep _ _ h3 so_code h4).2⟩
  | .dct ks vs, _, ⟨p, o, xs, e, h1, h2, h3, h4⟩ => ⟨p, o, xs, e, (k.keep p _ h1 so_frz h2).1, (k.keep p _ h1 so_frz h2).2, h3, Rvs.keep k h4⟩
theorem Rvs.keep {K : PySem.W.Frag} {M M' : Addr → Prop} {H H' : Hp} (k : Keeps M H M' H') : ∀ {v : List Val} {x : List V}, Rvs K M H v x → Rvs K M' H' v x
  | [], _, h => h
  | v :: r, _, ⟨x, y, e, h1, h2⟩ => ⟨x, y, e, Rv.keep k h1, Rvs.keep k h2⟩
end
theorem Rvs.length {K : PySem.W.Frag} {M : Addr → Prop} {H : Hp} : ∀ {vs : List Val} {xs : List V}, Rvs K M H vs xs → vs.length = xs.length
  | [], _, h => by
    cases (show _ = [] from h)
    rfl
  | v :: r, _, ⟨x, y, e, h1, h2⟩ => by rw [e, List.length_cons, List.length_cons, Rvs.length h2]
theorem Rvs.append {K : PySem.W.Frag} {M : Addr → Prop} {H : Hp} : ∀ {vs us : List Val} {xs ys : List V}, Rvs K M H vs xs → Rvs K M H us ys → Rvs K M H (vs ++ us) (xs ++ ys)
  | [], _, _, _, h, g => by rw [show _ = [] from h]; exact g
  | v :: r, _, _, _, ⟨x, y, e, h1, h2⟩, g => by rw [e]; exact ⟨x, y ++ _, rfl, h1, Rvs.append h2 g⟩
theorem Rvs.take {K : PySem.W.Frag} {M : Addr → Prop} {H : Hp} : ∀ {vs : List Val} {xs : List V} (n : Nat), Rvs K M H vs xs → Rvs K M H (vs.take n) (xs.take n)
  | _, _, 0, _ => by rw [List.take_zero, List.take_zero]; exact rfl
  | [], _, n + 1, h => by rw [show _ = [] from h]; exact rfl
  | v :: r, _, n + 1, ⟨x, y, e, h1, h2⟩ => by rw [e]; exact ⟨x, y.take n, rfl, h1, Rvs.take n h2⟩
theorem Rvs.drop {K : PySem.W.Frag} {M : Addr → Prop} {H : Hp} : ∀ {vs : List Val} {xs : List V} (n : Nat), Rvs K M H vs xs → Rvs K M H (vs.drop n) (xs.drop n)
  | _, _, 0, h => by rw [List.drop_zero, List.drop_zero]; exact h
  | [], _, n + 1, h => by rw [show _ = [] from h]; exact rfl
  | v :: r, _, n + 1, ⟨x, y, e, h1, h2⟩ => by rw [e]; exact Rvs.drop n h2
theorem Rvs.get {K : PySem.W.Frag} {M : Addr → Prop} {H : Hp} : ∀ {vs : List Val} {xs : List V} {i : Nat} {v : Val}, Rvs K M H vs xs → vs[i]? = some v → ∃ x, xs[i]? = some x ∧ Rv K M H v x
  | [], _, _, _, _, g => by simp at g
  | u :: r, _, 0, v, ⟨x, y, e, h1, h2⟩, g => by
    have : u = v := by simpa using g
    rw [e, ← this]
    exact ⟨x, rfl, h1⟩
  | u :: r, _, i + 1, v, ⟨x, y, e, h1, h2⟩, g => by
    rw [e]
    exact Rvs.get (i := i) h2 (by simpa using g)
theorem Rvs.set {K : PySem.W.Frag} {M : Addr → Prop} {H : Hp} {v : Val} {x : V} (r : Rv K M H v x) : ∀ {vs : List Val} {xs : List V} (i : Nat), Rvs K M H vs xs → Rvs K M H (vs.set i v) (xs.set i x)
  | [], _, _, h => by rw [show _ = [] from h]; exact rfl
  | u :: q, _, 0, ⟨y, z, e, h1, h2⟩ => by rw [e]; exact ⟨x, z, rfl, r, h2⟩
  | u :: q, _, i + 1, ⟨y, z, e, h1, h2⟩ => by rw [e]; exact ⟨y, z.set i x, rfl, h1, Rvs.set r i h2⟩
theorem Rvs.cut {K : PySem.W.Frag} {M : Addr → Prop} {H : Hp} {vs : List Val} {xs : List V} (h : Rvs K M H vs xs) (lo hi : Option Int) : Rvs K M H (Li.cut vs lo hi) (cutV xs lo hi) := by
  unfold Li.cut cutV
  rw [← h.length]
  exact (h.drop _).take _
theorem Rvs.ints {K : PySem.W.Frag} {M : Addr → Prop} {H : Hp} : ∀ ns : List Int, Rvs K M H (ns.map Val.int) (ns.map V.int)
  | [] => rfl
  | n :: r => ⟨_, _, rfl, rfl, Rvs.ints r⟩
theorem Rvs.ofInts {K : PySem.W.Frag} {M : Addr → Prop} {H : Hp} : ∀ {vs : List Val} {ns : List Int} {xs : List V}, asInts vs = some ns → Rvs K M H vs xs → xs = ns.map V.int
  | [], _, _, e, h => by
    cases e
    exact h
  | v :: r, ns, _, e, ⟨x, y, ex, h1, h2⟩ => by
    cases v with
    | int i =>
      have e1 : (asInts r).map (i :: ·) = some ns := e
      cases q : asInts r with
      | none =>
        rw [q] at e1
        cases e1
      | some ms =>
        rw [q] at e1
        have e2 : i :: ms = ns := Option.some.inj e1
        rw [ex, ← e2, Rvs.ofInts q h2, show x = V.int i from h1]
        rfl
    | _ => cases e
theorem Rvs.ofBools {K : PySem.W.Frag} {M : Addr → Prop} {H : Hp} : ∀ {vs : List Val} {ns : List Bool} {xs : List V}, asBools vs = some ns → Rvs K M H vs xs → xs = ns.map V.bl
  | [], _, _, e, h => by
    cases e
    exact h
  | v :: r, ns, _, e, ⟨x, y, ex, h1, h2⟩ => by
    cases v with
    | bl i =>
      have e1 : (asBools r).map (i :: ·) = some ns := e
      cases q : asBools r with
      | none =>
        rw [q] at e1
        cases e1
      | some ms =>
        rw [q] at e1
        have e2 : i :: ms = ns := Option.some.inj e1
        rw [ex, ← e2, Rvs.ofBools q h2, show x = V.bl i from h1]
        rfl
    | _ => cases e
theorem atI_get {K : PySem.W.Frag} {M : Addr → Prop} {H : Hp} {vs : List Val} {xs : List V} {i : Int} {v : Val} (h : Rvs K M H vs xs) (e : atI vs i = some v) : ∃ x, atI xs i = some x ∧ Rv K M H v x := by
  unfold atI at e ⊢
  rw [← h.length]
  cases q : ixN vs.length i with
  | none =>
    rw [q] at e
    cases e
  | some j =>
    rw [q] at e
    obtain ⟨x, h1, h2⟩ := h.get (i := j) (v := v) e
    exact ⟨x, h1, h2⟩
theorem SqT.const {K : PySem.W.Frag} {p : Addr} {xs : List V} (h : SqT K (fun _ => none) p xs) (H : Hp) : SqT K H p xs := by
  rcases h with (h | ⟨o, h⟩) | h
  · cases h
  · cases h
  · exact .inr h
theorem Rv.seqT {K : PySem.W.Frag} {M : Addr → Prop} {H : Hp} {vs : List Val} {x : V} (h : Rv K M H (.tup vs) x) : ∃ p xs, x = .ref p ∧ SqT K H p xs ∧ Rvs K M H vs xs := by
  obtain ⟨p, xs, e, h1, h2⟩ := h
  rcases h1 with h1 | h1
  · exact ⟨p, xs, e, SqT.of h1.1, h2⟩
  · exact ⟨p, xs, e, SqT.const h1 H, h2⟩
theorem SqL.const {K : PySem.W.Frag} {p : Addr} {xs : List V} (h : SqL K (fun _ => none) p xs) (H : Hp) : SqL K H p xs := by
  rcases h with (h | ⟨o, h⟩) | h
  · cases h
  · cases h
  · exact .inr h
theorem Rv.seqS {K : PySem.W.Frag} {M : Addr → Prop} {H : Hp} {ns : List Int} {x : V} (h : Rv K M H (.scr ns) x) : ∃ p, x = .ref p ∧ SqL K H p (ns.map V.int) := by
  obtain ⟨p, e, h1⟩ := h
  rcases h1 with ⟨h1 | ⟨o, h1⟩, h2⟩ | h1
  · exact ⟨p, e, .inl (.inl h1)⟩
  · exact ⟨p, e, .inl (.inr ⟨o, h1⟩)⟩
  · exact ⟨p, e, SqL.const h1 H⟩
/-- a constant, whatever the heap -/
theorem Rv.const {K : PySem.W.Frag} {M : Addr → Prop} {H : Hp} {v : Val} {x : V} (h : Rv K (fun _ => True) (fun _ => none) v x) : Rv K M H v x := Rv.keep ⟨fun p o e _ _ => by cases e⟩ h
theorem Rvs.const {K : PySem.W.Frag} {M : Addr → Prop} {H : Hp} {v : List Val} {x : List V} (h : Rvs K (fun _ => True) (fun _ => none) v x) : Rvs K M H v x := Rvs.keep ⟨fun p o e _ _ => by cases e⟩ h

/-! ### the store -/
/-- addresses that stand apart; the tables of code objects that nested defs use -/
structure Hid where
  p : Addr → Prop
  T : List NdefX.NTab
instance : CoeFun Hid fun _ => Addr → Prop := ⟨Hid.p⟩
abbrev Hid.add (h : Hid) (D : Addr) : Hid := ⟨fun p => h.p p ∨ p = D, h.T⟩
def Mset (S : Sto) (hid : Hid) : Addr → Prop := fun p => S p ≠ none ∨ hid p
def RC (K : PySem.W.Frag) (M : Addr → Prop) (H : Hp) (a : Addr) : Cell → Prop
  | .lst vs => ∃ xs, H a = some (.lst xs) ∧ Rvs K M H vs xs
  | .obj C fs => ∃ dx xs, H a = some (.ins C dx ((fs.map (·.1)).zip xs)) ∧ Rvs K M H (fs.map (·.2)) xs
  | .dK kvs => ∃ xs, H a = some (.dK ((kvs.map (·.1)).zip xs)) ∧ Rvs K M H (kvs.map (·.2)) xs
structure Rel (K : PySem.W.Frag) (hid : Hid) (S : Sto) (H : Hp) : Prop where
  cells : ∀ a c, S a = some c → RC K (Mset S hid) H a c
  hids : ∀ p, hid p → ∃ xs, H p = some (.lst xs)
  dis : ∀ p, hid p → S p = none
  tabs : NdefX.TabsN hid.T H
structure Ext (S : Sto) (H : Hp) (S' : Sto) (H' : Hp) : Prop where
  keep : ∀ p o, H p = some o → Solid o → S p = none → H' p = some o ∧ S' p = none
  dom : ∀ p, H p ≠ none → H' p ≠ none
theorem Ext.refl (S : Sto) (H : Hp) : Ext S H S H := ⟨fun _ _ h _ k => ⟨h, k⟩, fun _ h => h⟩
theorem Ext.trans {S S1 S2 : Sto} {H H1 H2 : Hp} (a : Ext S H S1 H1) (b : Ext S1 H1 S2 H2) : Ext S H S2 H2 := ⟨fun p o h sd k => b.keep p o (a.keep p o h sd k).1 sd (a.keep p o h sd k).2, fun p h => b.dom p (a.dom p h)⟩
theorem Ext.keeps {S S' : Sto} {H H' : Hp} (e : Ext S H S' H') (hid : Hid) : Keeps (Mset S hid) H (Mset S' hid) H' := ⟨fun p o h sd n => by
  have hs : S p = none := Classical.byContradiction fun z => n (.inl z)
  obtain ⟨h1, h2⟩ := e.keep p o h sd hs
  exact ⟨h1, fun z => z.elim (fun q => q h2) fun q => n (.inr q)⟩⟩
theorem Ext.free {S S' : Sto} {H H' : Hp} (e : Ext S H S' H') {p : Addr} (h : H' p = none) : H p = none := Classical.byContradiction fun z => e.dom p z h
section
variable {K : PySem.W.Frag} {hid : Hid} {S : Sto} {H : Hp}
theorem tabs_new {T : List NdefX.NTab} {a : Addr} {o : HO} (t : NdefX.TabsN T H) (h : H a = none) : NdefX.TabsN T (upd H a o) := t.ext fun b u e => by
  rw [upd_ne (ne_of_none e h)]
  exact e
theorem tabs_put {T : List NdefX.NTab} {a : Addr} {o : HO} (t : NdefX.TabsN T H) (h1 : ∀ ps, H a ≠ some (.tbl ps)) (h2 : ∀ c q, H a ≠ some (LamX.CodeO c q)) : NdefX.TabsN T (upd H a o) := fun p hp => by
  obtain ⟨ps, e1, e2, e3⟩ := t p hp
  refine ⟨ps, ?_, e2, fun pos cv hc => ?_⟩
  · rw [upd_ne fun (z : p.1 = a) => h1 ps (by rw [← z]; exact e1)]
    exact e1
  · obtain ⟨c, q1, q2⟩ := e3 pos cv hc
    refine ⟨c, q1, ?_⟩
    rw [upd_ne fun (z : c = a) => h2 c (p.2 pos.line pos.col) (by rw [← z]; exact q2)]
    exact q2
theorem Rel.there (r : Rel K hid S H) {a : Addr} {c : Cell} (h : S a = some c) : H a ≠ none := by
  have q := r.cells a c h
  cases c with
  | lst vs =>
    obtain ⟨xs, e, _⟩ := q
    rw [e]
    exact fun z => nomatch z
  | obj C fs =>
    obtain ⟨dx, xs, e, _⟩ := q
    rw [e]
    exact fun z => nomatch z
  | dK kvs =>
    obtain ⟨xs, e, _⟩ := q
    rw [e]
    exact fun z => nomatch z
theorem Rel.free (r : Rel K hid S H) {a : Addr} (h : H a = none) : S a = none := by
  cases e : S a with
  | none => rfl
  | some c => exact absurd h (r.there e)
theorem Rel.nohid (r : Rel K hid S H) {a : Addr} (h : H a = none) : ¬ hid a := fun z => by
  obtain ⟨xs, e⟩ := r.hids a z
  rw [h] at e
  cases e
/-- what is new stands apart from all that was -/
theorem keeps_new {a : Addr} {o : HO} (h : H a = none) : Keeps (Mset S hid) H (Mset S hid) (upd H a o) := ⟨fun p u e sd n => ⟨by
  rw [upd_ne (ne_of_none e h)]
  exact e, n⟩⟩
theorem RC.keep {M M' : Addr → Prop} {H' : Hp} {a : Addr} {c : Cell} (k : Keeps M H M' H') (e : H' a = H a) (h : RC K M H a c) : RC K M' H' a c := by
  cases c with
  | lst vs =>
    obtain ⟨xs, e1, r⟩ := h
    exact ⟨xs, e.trans e1, r.keep k⟩
  | obj C fs =>
    obtain ⟨dx, xs, e1, r⟩ := h
    exact ⟨dx, xs, e.trans e1, r.keep k⟩
  | dK kvs =>
    obtain ⟨xs, e1, r⟩ := h
    exact ⟨xs, e.trans e1, r.keep k⟩
/-- a new plain thing -/
theorem Rel.new (r : Rel K hid S H) {a : Addr} {o : HO} (h : H a = none) : Rel K hid S (upd H a o) where
  cells := fun b c e => (r.cells b c e).keep (keeps_new h) (upd_ne (fun z => r.there e (z ▸ h)))
  hids := fun p hp => by
    obtain ⟨xs, e⟩ := r.hids p hp
    exact ⟨xs, by rw [upd_ne (ne_of_none e h)]; exact e⟩
  dis := r.dis
  tabs := tabs_new r.tabs h
theorem Ext.new (S : Sto) {a : Addr} {o : HO} (h : H a = none) : Ext S H S (upd H a o) where
  keep := fun p u e sd k => ⟨by rw [upd_ne (ne_of_none e h)]; exact e, k⟩
  dom := fun p hp => by
    by_cases e : p = a
    · rw [e, upd_same]
      exact fun z => nomatch z
    · rw [upd_ne e]
      exact hp
/-- a new cell -/
theorem keeps_cell {a : Addr} {o : HO} {c : Cell} (h : H a = none) : Keeps (Mset S hid) H (Mset (S.set a c) hid) (upd H a o) := ⟨fun p u e sd n => by
  have ne : p ≠ a := ne_of_none e h
  refine ⟨by rw [upd_ne ne]; exact e, fun z => n ?_⟩
  rcases z with z | z
  · rw [Sto.set_ne ne] at z
    exact .inl z
  · exact .inr z⟩
theorem Rel.cell (r : Rel K hid S H) {a : Addr} {o : HO} {c : Cell} (h : H a = none) (new : RC K (Mset (S.set a c) hid) (upd H a o) a c) : Rel K hid (S.set a c) (upd H a o) where
  cells := fun b d e => by
    by_cases q : b = a
    · rw [q, Sto.set_same] at e
      cases e
      rw [q]
      exact new
    · rw [Sto.set_ne q] at e
      exact (r.cells b d e).keep (keeps_cell h) (upd_ne q)
  hids := (r.new h).hids
  dis := fun p hp => by rw [Sto.set_ne fun (z : p = a) => r.nohid h (by rw [← z]; exact hp)]; exact r.dis p hp
  tabs := tabs_new r.tabs h
theorem Ext.cell {a : Addr} {o : HO} {c : Cell} (h : H a = none) : Ext S H (S.set a c) (upd H a o) where
  keep := fun p u e sd k => by
    have ne : p ≠ a := ne_of_none e h
    exact ⟨by rw [upd_ne ne]; exact e, by rw [Sto.set_ne ne]; exact k⟩
  dom := (Ext.new S h).dom
/-- a cell is changed -/
theorem keeps_put {a : Addr} {o : HO} {c d : Cell} (h : S a = some d) : Keeps (Mset S hid) H (Mset (S.set a c) hid) (upd H a o) := ⟨fun p u e sd n => by
  have ne : p ≠ a := fun z => n (.inl (by rw [z, h]; exact fun q => nomatch q))
  refine ⟨by rw [upd_ne ne]; exact e, fun z => n ?_⟩
  rcases z with z | z
  · rw [Sto.set_ne ne] at z
    exact .inl z
  · exact .inr z⟩
theorem Rel.put (r : Rel K hid S H) {a : Addr} {o : HO} {c d : Cell} (h : S a = some d) (new : RC K (Mset (S.set a c) hid) (upd H a o) a c) : Rel K hid (S.set a c) (upd H a o) where
  cells := fun b d e => by
    by_cases q : b = a
    · rw [q, Sto.set_same] at e
      cases e
      rw [q]
      exact new
    · rw [Sto.set_ne q] at e
      exact (r.cells b d e).keep (keeps_put h) (upd_ne q)
  hids := fun p hp => by
    obtain ⟨xs, e⟩ := r.hids p hp
    refine ⟨xs, ?_⟩
    rw [upd_ne fun (z : p = a) => by have := r.dis p hp; rw [z, h] at this; cases this]
    exact e
  dis := fun p hp => by rw [Sto.set_ne fun (z : p = a) => by have := r.dis p hp; rw [z, h] at this; cases this]; exact r.dis p hp
  tabs := by
    have q := r.cells a d h
    cases d with
    | lst vs =>
      obtain ⟨xs, e, _⟩ := q
      exact tabs_put r.tabs (fun ps z => by rw [e] at z; cases z) fun c q z => by rw [e] at z; cases z
    | obj C fs =>
      obtain ⟨dx, xs, e, _⟩ := q
      exact tabs_put r.tabs (fun ps z => by rw [e] at z; cases z) fun c q z => by rw [e] at z; cases z
    | dK kvs =>
      obtain ⟨xs, e, _⟩ := q
      exact tabs_put r.tabs (fun ps z => by rw [e] at z; cases z) fun c q z => by rw [e] at z; cases z
theorem Ext.put {a : Addr} {o : HO} {c d : Cell} (h : S a = some d) : Ext S H (S.set a c) (upd H a o) where
  keep := fun p u e sd k => by
    have ne : p ≠ a := fun z => by rw [z, h] at k; cases k
    exact ⟨by rw [upd_ne ne]; exact e, by rw [Sto.set_ne ne]; exact k⟩
  dom := fun p hp => by
    by_cases e : p = a
    · rw [e, upd_same]
      exact fun z => nomatch z
    · rw [upd_ne e]
      exact hp
/-- a cell ends: from now on nobody changes it -/
theorem keeps_del {a : Addr} : Keeps (Mset S hid) H (Mset (S.del a) hid) H := ⟨fun p u e sd n => ⟨e, fun z => n (z.imp (fun q => by
  by_cases hp : p = a
  · rw [hp, Sto.del_same] at q
    exact absurd rfl q
  · rw [Sto.del_ne hp] at q
    exact q) id)⟩⟩
theorem Rel.del (r : Rel K hid S H) (a : Addr) : Rel K hid (S.del a) H where
  cells := fun b d e => by
    by_cases q : b = a
    · rw [q, Sto.del_same] at e
      cases e
    · rw [Sto.del_ne q] at e
      exact (r.cells b d e).keep keeps_del rfl
  hids := r.hids
  tabs := r.tabs
  dis := fun p hp => by
    by_cases q : p = a
    · rw [q, Sto.del_same]
    · rw [Sto.del_ne q]
      exact r.dis p hp
theorem Ext.del (S : Sto) (H : Hp) (a : Addr) : Ext S H (S.del a) H where
  keep := fun p u e sd k => ⟨e, by
    by_cases hp : p = a
    · rw [hp, Sto.del_same]
    · rw [Sto.del_ne hp]
      exact k⟩
  dom := fun _ h => h
/-- a list that a comprehension fills stands apart -/
theorem keeps_hid {D : Addr} {o : HO} (h : H D = none) : Keeps (Mset S hid) H (Mset S (hid.add D)) (upd H D o) := ⟨fun p u e sd n => by
  have ne : p ≠ D := ne_of_none e h
  refine ⟨by rw [upd_ne ne]; exact e, fun z => n ?_⟩
  rcases z with z | z | z
  · exact .inl z
  · exact .inr z
  · exact absurd z ne⟩
theorem keeps_unhid {D : Addr} : Keeps (Mset S (hid.add D)) H (Mset S hid) H := ⟨fun p u e sd n => ⟨e, fun z => n (z.imp id .inl)⟩⟩
theorem keeps_acc {D : Addr} {o : HO} : Keeps (Mset S (hid.add D)) H (Mset S (hid.add D)) (upd H D o) := ⟨fun p u e sd n => ⟨by
  rw [upd_ne fun z => n (.inr (.inr z))]
  exact e, n⟩⟩
end
def Renv (K : PySem.W.Frag) (M : Addr → Prop) (H : Hp) (σ : Env) (σ' : L2.St) : Prop := σ.length = σ'.length ∧ ∀ (i : Nat) (v : Val), σ[i]? = some (some v) → ∃ x : V, σ'[i]? = some (some x) ∧ Rv K M H v x
theorem Renv.keep {K : PySem.W.Frag} {M M' : Addr → Prop} {H H' : Hp} {σ : Env} {σ' : L2.St} (k : Keeps M H M' H') (h : Renv K M H σ σ') : Renv K M' H' σ σ' := ⟨h.1, fun i v e => let ⟨x, h1, h2⟩ := h.2 i v e; ⟨x, h1, h2.keep k⟩⟩
theorem Renv.set {K : PySem.W.Frag} {M : Addr → Prop} {H : Hp} {σ : Env} {σ' : L2.St} {v : Val} {x : V} (h : Renv K M H σ σ') (i : Nat) (r : Rv K M H v x) : Renv K M H (σ.set i (some v)) (σ'.set i (some x)) := by
  refine ⟨by rw [List.length_set, List.length_set]; exact h.1, fun j u e => ?_⟩
  by_cases q : i = j
  · subst q
    have hl : i < σ.length := by
      have := (List.getElem?_eq_some_iff.mp e).1
      rwa [List.length_set] at this
    rw [List.getElem?_set_self hl] at e
    have e' : v = u := Option.some.inj (Option.some.inj e)
    subst e'
    exact ⟨x, by rw [List.getElem?_set_self (by rw [← h.1]; exact hl)], r⟩
  · rw [List.getElem?_set_ne q] at e
    obtain ⟨y, h1, h2⟩ := h.2 j u e
    exact ⟨y, by rw [List.getElem?_set_ne q]; exact h1, h2⟩
theorem Renv.unset {K : PySem.W.Frag} {M : Addr → Prop} {H : Hp} {σ : Env} {σ' : L2.St} (h : Renv K M H σ σ') (i : Nat) : Renv K M H (σ.set i none) (σ'.set i none) := by
  refine ⟨by rw [List.length_set, List.length_set]; exact h.1, fun j u e => ?_⟩
  by_cases q : i = j
  · subst q
    have hl : i < σ.length := by
      have := (List.getElem?_eq_some_iff.mp e).1
      rwa [List.length_set] at this
    rw [List.getElem?_set_self hl] at e
    cases e
  · rw [List.getElem?_set_ne q] at e
    obtain ⟨y, h1, h2⟩ := h.2 j u e
    exact ⟨y, by rw [List.getElem?_set_ne q]; exact h1, h2⟩
theorem Renv.wipe {K : PySem.W.Frag} {M : Addr → Prop} {H : Hp} {σ : Env} {σ' : L2.St} (h : Renv K M H σ σ') : ∀ own : List Nat, Renv K M H (Li.wipe σ own) (L2.wipe σ' own)
  | [] => h
  | i :: r => (Renv.wipe h r).unset i

/-! ### what is fixed while a def's body runs -/
structure SX where
  c : Cxt
  S0 : Sto
  H0 : Hp
  P : Hid → Prop
  /-- what is known of the frame's names -/
  ag : L2.St → Prop
  /-- the tables of code objects -/
  T : List NdefX.NTab
structure Wd (G : SX) (K : PySem.W.Frag) (σ : Env) (S : Sto) (hid : Hid) (σ' : L2.St) (H : Hp) : Prop where
  p : G.P hid
  ex : Ext G.S0 G.H0 S H
  rel : Rel K hid S H
  env : Renv K (Mset S hid) H σ σ'
  ag : G.ag σ'
  hT : hid.T = G.T
/-- nothing is known: a def's own body -/
class AgT (G : SX) : Prop where
  all : ∀ σ, G.ag σ
theorem Wd.step {G : SX} {K : PySem.W.Frag} {σ : Env} {S S' : Sto} {hid : Hid} {σ' : L2.St} {H H' : Hp} (w : Wd G K σ S hid σ' H) (e : Ext S H S' H') (r : Rel K hid S' H') : Wd G K σ S' hid σ' H' := ⟨w.p, w.ex.trans e, r, w.env.keep (e.keeps hid), w.ag, w.hT⟩
/-- a value handed on -/
def PoE (K : PySem.W.Frag) (hid : Hid) (S : Sto) (H : Hp) (Q : VK) : VQ := fun v S' => ∀ v' H', Ext S H S' H' → Rel K hid S' H' → Rv K (Mset S' hid) H' v v' → Q v' H'
def PoA (K : PySem.W.Frag) (hid : Hid) (S : Sto) (H : Hp) (Q : List V → Hp → Prop) : List Val → Sto → Prop := fun v S' => ∀ v' H', Ext S H S' H' → Rel K hid S' H' → Rvs K (Mset S' hid) H' v v' → Q v' H'
def PoB (K : PySem.W.Frag) (hid : Hid) (S : Sto) (H : Hp) (Q : Bool → Hp → Prop) : Bool → Sto → Prop := fun b S' => ∀ H', Ext S H S' H' → Rel K hid S' H' → Q b H'
def tEv (G : SX) (K : PySem.W.Frag) (e : E) : TE := fun σ' H Q => ∃ σ S hid, Wd G K σ S hid σ' H ∧ evE G.c e σ S (PoE K hid S H Q)
def tTv (G : SX) (K : PySem.W.Frag) (e : E) : TT := fun σ' H Q => ∃ σ S hid, Wd G K σ S hid σ' H ∧ evE G.c e σ S (tst (PoB K hid S H Q))
def tAv (G : SX) (K : PySem.W.Frag) (es : Es) : TA := fun σ' H Q => ∃ σ S hid, Wd G K σ S hid σ' H ∧ evEs G.c es σ S (PoA K hid S H Q)
theorem PE.wk {X : Cx} {e : Expr} {t t' : TE} (h : PE X e t) (w : ∀ σ H Q, t' σ H Q → t σ H Q) : PE X e t' := ⟨fun pins s σ H Q I q => h.run pins s σ H Q I (w _ _ _ q)⟩
theorem PT.wk {X : Cx} {e : Expr} {t t' : TT} (h : PT X e t) (w : ∀ σ H Q, t' σ H Q → t σ H Q) : PT X e t' := ⟨fun pins s σ H Q I q => h.run pins s σ H Q I (w _ _ _ q)⟩
theorem PW.wk {X : Cx} {e : Expr} {t t' : TT} (h : PW X e t) (w : ∀ σ H Q, t' σ H Q → t σ H Q) : PW X e t' := ⟨fun wh pins s σ H Q I q => h.run wh pins s σ H Q I (w _ _ _ q)⟩
theorem PA.wk {X : Cx} {e : List Expr} {t t' : TA} (h : PA X e t) (w : ∀ σ H Q, t' σ H Q → t σ H Q) : PA X e t' := ⟨fun pos pins s σ H Q I q => h.run pos pins s σ H Q I (w _ _ _ q)⟩
theorem PS.wk {X : Cx} {e : Stmt} {t t' : TS} (h : PS X e t) (w : ∀ D σ H, t' D σ H → t D σ H) : PS X e t' := ⟨fun pins s σ H D I q => h.run pins s σ H D I (w _ _ _ q)⟩
theorem PSs.wk {X : Cx} {e : List Stmt} {t t' : TS} (h : PSs X e t) (w : ∀ D σ H, t' D σ H → t D σ H) : PSs X e t' := ⟨fun pins s σ H D I q => h.run pins s σ H D I (w _ _ _ q)⟩
theorem PoE.here {K : PySem.W.Frag} {hid : Hid} {S : Sto} {H : Hp} {Q : VK} {v : Val} {x : V} (h : PoE K hid S H Q v S) (rel : Rel K hid S H) (r : Rv K (Mset S hid) H v x) : Q x H := h x H (Ext.refl S H) rel r
/-- a new plain thing handed on -/
theorem PoE.made {K : PySem.W.Frag} {hid : Hid} {S : Sto} {H : Hp} {Q : VK} {v : Val} {a : Addr} {o : HO} (h : PoE K hid S H Q v S) (rel : Rel K hid S H) (ha : H a = none) (r : Rv K (Mset S hid) (upd H a o) v (.ref a)) : Q (.ref a) (upd H a o) :=
  h _ _ (Ext.new S ha) (rel.new ha) r
theorem Rv.newT {K : PySem.W.Frag} {hid : Hid} {S : Sto} {H : Hp} {vs : List Val} {xs : List V} {a : Addr} (rel : Rel K hid S H) (ha : H a = none) (r : Rvs K (Mset S hid) H vs xs) : Rv K (Mset S hid) (upd H a (.tup xs)) (.tup vs) (.ref a) :=
  ⟨a, xs, rfl, .inl ⟨upd_same, fun z => z.elim (fun q => q (rel.free ha)) fun q => rel.nohid ha q⟩, r.keep (keeps_new ha)⟩
theorem Rv.newL {K : PySem.W.Frag} {hid : Hid} {S : Sto} {H : Hp} {vs : List Val} {xs : List V} {a : Addr} (rel : Rel K hid S H) (ha : H a = none) (r : Rvs K (Mset S hid) H vs xs) : Rv K (Mset S hid) (upd H a (.lst xs)) (.lst vs) (.ref a) :=
  ⟨a, xs, rfl, upd_same, fun z => z.elim (fun q => q (rel.free ha)) fun q => rel.nohid ha q, r.keep (keeps_new ha)⟩
/-- a list, plain or a cell, as the layer reads it -/
theorem asL_seq {K : PySem.W.Frag} {hid : Hid} {S : Sto} {H : Hp} {v : Val} {vs : List Val} {x : V} (rel : Rel K hid S H) (e : asL S v = some vs) (r : Rv K (Mset S hid) H v x) : ∃ p xs, x = .ref p ∧ H p = some (.lst xs) ∧ Rvs K (Mset S hid) H vs xs := by
  cases v with
  | lst us =>
    cases e
    obtain ⟨p, xs, ex, h1, _, h3⟩ := r
    exact ⟨p, xs, ex, h1, h3⟩
  | adr a =>
    have e2 : (match S a with
      | some (.lst vs) => some vs
      | _ => none) = some vs := e
    cases q : S a with
    | none =>
      rw [q] at e2
      cases e2
    | some c =>
      rw [q] at e2
      cases c with
      | lst us =>
        cases e2
        obtain ⟨xs, h1, h2⟩ := rel.cells a _ q
        exact ⟨a, xs, r, h1, h2⟩
      | _ => cases e2
  | _ => cases e
end Li
set_option Elab.async false
set_option linter.all false
set_option maxRecDepth 100000
set_option maxHeartbeats 2000000
/-! LiVal: operators, subscripts, built-in functions by values. -/
namespace Li
open PySem L2
theorem Val.asL_none_int {S : Sto} {i : Int} : asL S (.int i) = none := rfl
section
variable {X : Cx}
/-- two values in, one out -/
def r2 (K : PySem.W.Frag) (f : Sto → Val → Val → (Val → Prop) → Prop) : R2 := fun x y H Q => ∃ S hid v u, Rel K hid S H ∧ Rv K (Mset S hid) H v x ∧ Rv K (Mset S hid) H u y ∧ f S v u fun w => PoE K hid S H Q w S
theorem intQ_inv {v : Val} {Q : Int → Prop} (h : intQ v Q) : ∃ i, v = .int i ∧ Q i := by
  cases v <;> first
    | exact ⟨_, rfl, h⟩
    | exact h.elim
theorem adrQ_inv {v : Val} {Q : Addr → Prop} (h : adrQ v Q) : ∃ i, v = .adr i ∧ Q i := by
  cases v <;> first
    | exact ⟨_, rfl, h⟩
    | exact h.elim
theorem lstQ_inv {v : Val} {Q : List Val → Prop} (h : lstQ v Q) : ∃ i, v = .lst i ∧ Q i := by
  cases v <;> first
    | exact ⟨_, rfl, h⟩
    | exact h.elim
theorem optQ_inv {α : Type} {o : Option α} {Q : α → Prop} (h : optQ o Q) : ∃ x, o = some x ∧ Q x := by
  cases o
  · exact h.elim
  · exact ⟨_, rfl, h⟩
theorem celQ_inv {S : Sto} {a : Addr} {Q : List Val → Prop} (h : celQ S a Q) : ∃ vs, S a = some (.lst vs) ∧ Q vs := by
  unfold celQ at h
  split at h
  · rename_i vs e
    exact ⟨vs, e, h⟩
  · exact h.elim
theorem objQ_inv {S : Sto} {a : Addr} {Q : Addr → List (Str × Val) → Prop} (h : objQ S a Q) : ∃ C fs, S a = some (.obj C fs) ∧ Q C fs := by
  unfold objQ at h
  split at h
  · rename_i C fs e
    exact ⟨C, fs, e, h⟩
  · exact h.elim
theorem slotQ_inv {σ : Env} {i : Nat} {Q : Val → Prop} (h : slotQ σ i Q) : ∃ v, σ[i]? = some (some v) ∧ Q v := by
  unfold slotQ at h
  split at h
  · rename_i v e
    exact ⟨v, e, h⟩
  · exact h.elim
theorem gvalQ_inv {g : G} {Q : Val → Prop} (h : gvalQ g Q) : ∃ v, g = .val v ∧ Q v := by
  cases g <;> first
    | exact ⟨_, rfl, h⟩
    | exact h.elim
/-- plain tuples -/
theorem tup_keep {K : PySem.W.Frag} {hid : Hid} {S : Sto} {H : Hp} {vs us : List Val} {x : V} {xs : List V} {p : Addr} (r : Rv K (Mset S hid) H (.tup vs) x) (e : us = vs) : Rv K (Mset S hid) H (.tup us) x := by
  rw [e]
  exact r
theorem rv_tup {K : PySem.W.Frag} {M : Addr → Prop} {H : Hp} {vs : List Val} {x : V} (r : Rv K M H (.tup vs) x) : ∃ p xs, x = .ref p ∧ SqT K H p xs ∧ Rvs K M H vs xs := r.seqT
theorem Rvs.inj {K : PySem.W.Frag} {M : Addr → Prop} {H : Hp} : ∀ {vs : List Val} {xs : List V}, Rvs K M H vs xs → xs = [] → vs = []
  | [], _, _, _ => rfl
  | v :: r, _, ⟨x, y, e, _, _⟩, e2 => by rw [e] at e2; cases e2
theorem op_bin (op : Operator) : OpR X (binaryOp op) (r2 X.K fun S => binV S op) := by
  intro pins s σ H x y v u Q I rx ry ⟨S, hid, a, b, rel, r1, r2, h⟩
  have two : ∀ {C : Int → Int → Prop} {g : Int → Int → Int}, OpR X (binaryOp op) (rI C fun i j => .int (g i j)) → int2 C g (fun w => PoE X.K hid S H Q w S) a b → wpAny (model X.prog X.w) X.A (binaryOp op v u) (EP X pins σ Q) X.xe s := fun {C g} ho hh => by
    unfold int2 at hh
    split at hh
    · rename_i i j
      exact ho pins s σ H _ _ v u Q I rx ry ⟨i, j, r1, r2, hh.1, hh.2.here rel rfl⟩
    · exact hh.elim
  have h' : binV S op a b (fun w => PoE X.K hid S H Q w S) := h
  unfold binV at h'
  cases op with
  | Add =>
    have h2 : addV S (fun w => PoE X.K hid S H Q w S) a b := h'
    unfold addV at h2
    split at h2
    · rename_i i j
      exact op_add pins s σ H _ _ v u Q I rx ry ⟨i, j, r1, r2, h2.here rel rfl⟩
    · rename_i i j
      exact op_add_str pins s σ H _ _ v u Q I rx ry ⟨i, j, r1, r2, h2.1, h2.2.here rel rfl⟩
    · rename_i i j
      obtain ⟨p, xs, e1, q1, s1⟩ := r1.seqT
      obtain ⟨p2, xs2, e2, q2, s2⟩ := r2.seqT
      refine op_catA pins s σ H _ _ v u Q I rx ry ⟨p, p2, xs, xs2, e1, e2, q1, q2, by rw [← s1.length, ← s2.length]; exact h2.1, fun z => ?_, fun z1 z2 => ?_, fun z1 z2 q hq => ?_⟩
      · have e3 := Rvs.inj s1 z
        subst e3
        rw [← e2]
        exact h2.2.here rel r2
      · have e3 := Rvs.inj s2 z2
        subst e3
        rw [← e1]
        have := h2.2
        rw [List.append_nil] at this
        exact this.here rel r1
      · exact h2.2.made rel hq (Rv.newT rel hq (s1.append s2))
    · obtain ⟨vs, e1, h3⟩ := optQ_inv h2
      obtain ⟨us, e2, h4⟩ := optQ_inv h3
      obtain ⟨p, xs, ex, q1, s1⟩ := asL_seq rel e1 r1
      obtain ⟨p2, xs2, ex2, q2, s2⟩ := asL_seq rel e2 r2
      exact op_cat pins s σ H _ _ v u Q I rx ry ⟨p, p2, xs, xs2, ex, ex2, q1, q2, by rw [← s1.length, ← s2.length]; exact h4.1, fun q hq => h4.2.made rel hq (Rv.newL rel hq (s1.append s2))⟩
  | Sub => exact two (C := fun _ _ => True) (g := fun i j => i - j) (fun pins s σ H x y v u Q I rx ry ⟨i, j, e1, e2, _, q⟩ => op_sub pins s σ H x y v u Q I rx ry ⟨i, j, e1, e2, q⟩) h'
  | Mult =>
    have h2 : mulV S (fun w => PoE X.K hid S H Q w S) a b := h'
    unfold mulV at h2
    split at h2
    · rename_i i j
      exact op_mulX pins s σ H _ _ v u Q I rx ry ⟨i, j, r1, r2, h2.1, h2.2.here rel rfl⟩
    · rename_i vs k
      obtain ⟨p, xs, e1, q1, s1⟩ := r1.seqT
      obtain ⟨⟨n1, n2, n3, n4⟩, n5⟩ := h2
      have fl : ∀ n : Nat, Rvs X.K (Mset S hid) H (List.replicate n vs).flatten (List.replicate n xs).flatten := fun n => by
        induction n with
        | zero => exact rfl
        | succ n ih =>
          rw [List.replicate_succ, List.replicate_succ, List.flatten_cons, List.flatten_cons]
          exact s1.append ih
      exact op_repT pins s σ H _ _ v u Q I rx ry ⟨p, k, xs, e1, r2, q1, fun z => n1 (Rvs.inj s1 z), n2, n3, by rw [← s1.length]; exact n4, fun q hq => n5.made rel hq (Rv.newT rel hq (fl _))⟩
    · exact h2.elim
  | FloorDiv => exact two op_fdivW h'
  | Mod => exact two op_mod h'
  | Pow => exact two op_pow h'
  | LShift => exact two op_shl h'
  | RShift => exact two op_shr h'
  | BitAnd => exact two (C := fun _ _ => True) (g := fun i j => Builtin.bitAnd i j) (fun pins s σ H x y v u Q I rx ry ⟨i, j, e1, e2, _, q⟩ => op_and pins s σ H x y v u Q I rx ry ⟨i, j, e1, e2, q⟩) h'
  | _ => exact h'.elim
/-! ### == -/
mutual
theorem toPy0_dp {K : PySem.W.Frag} {M : Addr → Prop} {H : Hp} : ∀ {v : Val} {d : PyData} {x : V}, toPy0 v = some d → Rv K M H v x → Dp K H x d
  | .non, _, _, e, h => by
    cases e
    cases (show _ = V.non from h)
    exact .non
  | .bl b, _, _, e, h => by
    cases e
    cases (show _ = V.bl b from h)
    exact .bl b
  | .int b, _, _, e, h => by
    cases e
    cases (show _ = V.int b from h)
    exact .int b
  | .str b, _, _, e, h => by
    cases e
    cases (show _ = V.str b from h)
    exact .str b
  | .tup vs, _, _, e, h => by
    obtain ⟨p, xs, ex, q1, s1⟩ := h.seqT
    have e1 : (toPys0 vs).map PyData.tuple = some _ := e
    cases q : toPys0 vs with
    | none =>
      rw [q] at e1
      cases e1
    | some ds =>
      rw [q] at e1
      cases e1
      rw [ex]
      exact .tup q1 (toPys0_dp q s1)
  | .lst vs, _, _, e, h => by
    obtain ⟨p, xs, ex, q1, _, s1⟩ := h
    have e1 : (toPys0 vs).map PyData.list = some _ := e
    cases q : toPys0 vs with
    | none =>
      rw [q] at e1
      cases e1
    | some ds =>
      rw [q] at e1
      cases e1
      rw [ex]
      exact .lst (SqL.of q1) (toPys0_dp q s1)
  | .adr _, _, _, e, _ => by cases e
  | .scr _, _, _, e, _ => by cases e
  | .ins _ _ _, _, _, e, _ => by cases e
  | .dct _ _, _, _, e, _ => by cases e
  | .clo _ _, _, _, e, _ => by cases e
theorem toPys0_dp {K : PySem.W.Frag} {M : Addr → Prop} {H : Hp} : ∀ {v : List Val} {d : List PyData} {x : List V}, toPys0 v = some d → Rvs K M H v x → DpAll K H x d
  | [], _, _, e, h => by
    cases e
    cases (show _ = [] from h)
    exact .nil
  | v :: r, _, _, e, ⟨x, y, ex, h1, h2⟩ => by
    unfold toPys0 at e
    split at e
    · rename_i d ds e1 e2
      cases e
      rw [ex]
      exact .cons (toPy0_dp e1 h1) (toPys0_dp e2 h2)
    · cases e
end
theorem toPy_dp {K : PySem.W.Frag} {hid : Hid} {S : Sto} {H : Hp} {v : Val} {d : PyData} {x : V} (rel : Rel K hid S H) (e : toPy S v = some d) (h : Rv K (Mset S hid) H v x) : Dp K H x d := by
  cases v with
  | adr a =>
    have e2 : (match S a with
      | some (.lst vs) => (toPys0 vs).map PyData.list
      | _ => none) = some d := e
    cases q : S a with
    | none =>
      rw [q] at e2
      cases e2
    | some c =>
      rw [q] at e2
      cases c with
      | lst vs =>
        have e3 : (toPys0 vs).map PyData.list = some d := e2
        obtain ⟨xs, h1, h2⟩ := rel.cells a _ q
        cases q2 : toPys0 vs with
        | none =>
          rw [q2] at e3
          cases e3
        | some ds =>
          rw [q2] at e3
          cases e3
          rw [show x = V.ref a from h]
          exact .lst (SqL.of h1) (toPys0_dp q2 h2)
      | _ => cases e2
  | _ => exact toPy0_dp e h
theorem isNon_rv {K : PySem.W.Frag} {M : Addr → Prop} {H : Hp} {v : Val} {x : V} (h : Rv K M H v x) : isNon v = decide (x = V.non) := by
  cases v with
  | non => cases (show x = V.non from h); rfl
  | bl b => cases (show x = V.bl b from h); rfl
  | int b => cases (show x = V.int b from h); rfl
  | str b => cases (show x = V.str b from h); rfl
  | adr b => cases (show x = V.ref b from h); rfl
  | scr ns => obtain ⟨p, e, _⟩ := h; rw [e]; rfl
  | tup vs => obtain ⟨p, o, e, _⟩ := h; rw [e]; rfl
  | lst vs => obtain ⟨p, o, e, _⟩ := h; rw [e]; rfl
  | ins C ns vs => obtain ⟨p, dx, o, e, _⟩ := h; rw [e]; rfl
  | dct ks vs => obtain ⟨p, o, xs, e, _⟩ := h; rw [e]; rfl
  | clo f F => rw [h.1]; rfl
def rInT (K : PySem.W.Frag) : R2 := fun x y H Q => ∃ d ds, Dp K H x d ∧ Dp K H y (.tuple ds) ∧ SeqAt.shaped d = true ∧ SeqAt.shaped (.tuple ds) = true ∧ Q (.bl (ds.any fun z => PyData.eqv z d)) H
def rNotInT (K : PySem.W.Frag) : R2 := fun x y H Q => ∃ d ds, Dp K H x d ∧ Dp K H y (.tuple ds) ∧ SeqAt.shaped d = true ∧ SeqAt.shaped (.tuple ds) = true ∧ Q (.bl (!ds.any fun z => PyData.eqv z d)) H
theorem op_inT (hu : X.A.units + 65 < cLine) : OpR X (compareOp .In) (rInT X.K) := by
  intro pins s σ H x y v u Q I rx ry h
  obtain ⟨d, ds, hd, he, sd, se, q⟩ := h
  obtain ⟨as, r1⟩ := Dp.reads I d x v hd rx
  obtain ⟨bs, r2⟩ := Dp.reads I (.tuple ds) y u he ry
  exact SeqAt.in_tuple_reads r2 r1 (SeqAt.canLay_of_shaped se) (SeqAt.canLay_of_shaped sd) (PyProof.Rows.room_in_shaped sd hu) ⟨.bl _, H, I, rfl, q⟩
theorem op_notInT (hu : X.A.units + 65 < cLine) : OpR X (compareOp .NotIn) (rNotInT X.K) := by
  intro pins s σ H x y v u Q I rx ry h
  obtain ⟨d, ds, hd, he, sd, se, q⟩ := h
  obtain ⟨as, r1⟩ := Dp.reads I d x v hd rx
  obtain ⟨bs, r2⟩ := Dp.reads I (.tuple ds) y u he ry
  exact SeqAt.notIn_tuple_reads r2 r1 (SeqAt.canLay_of_shaped se) (SeqAt.canLay_of_shaped sd) (PyProof.Rows.room_in_shaped sd hu) ⟨.bl _, H, I, rfl, q⟩
theorem Dp.str {K : PySem.W.Frag} {H : Hp} {x : V} {a : Str} (h : Dp K H x (.str a)) : x = .str a := by
  cases h
  rfl
theorem op_cmp (hu : X.A.units + 65 < cLine) (op : CmpOp) : OpR X (compareOp op) (r2 X.K fun S x y Q => cmpV S op x y fun k => Q (.bl k)) := by
  intro pins s σ H x y v u Q I rx ry ⟨S, hid, a, b, rel, r1, r2, h⟩
  have two : ∀ {g : Int → Int → Bool}, OpR X (compareOp op) (rI0 fun i j => .bl (g i j)) → cmpI g (fun w => PoE X.K hid S H Q (.bl w) S) a b → wpAny (model X.prog X.w) X.A (compareOp op v u) (EP X pins σ Q) X.xe s := fun {g} ho hh => by
    unfold cmpI at hh
    split at hh
    · rename_i i j
      exact ho pins s σ H _ _ v u Q I rx ry ⟨i, j, r1, r2, hh.here rel rfl⟩
    · exact hh.elim
  have h' : cmpV S op a b (fun w => PoE X.K hid S H Q (.bl w) S) := h
  unfold cmpV at h'
  cases op with
  | Lt =>
    have h2 : ltV (fun w => PoE X.K hid S H Q (.bl w) S) a b := h'
    unfold ltV at h2
    split at h2
    · rename_i i j
      exact op_lt pins s σ H _ _ v u Q I rx ry ⟨i, j, r1, r2, h2.here rel rfl⟩
    · rename_i i j
      exact op_lt_str pins s σ H _ _ v u Q I rx ry ⟨i, j, r1, r2, h2.here rel rfl⟩
    · exact h2.elim
  | In =>
    obtain ⟨d, e1, h2⟩ := optQ_inv h'
    obtain ⟨e, e2, h3⟩ := optQ_inv h2
    have d1 := toPy_dp rel e1 r1
    have d2 := toPy_dp rel e2 r2
    unfold inD at h3
    split at h3
    · exact op_inD hu pins s σ H _ _ v u Q I rx ry ⟨_, _, d1, d2, h3.1, h3.2.1, h3.2.2.here rel rfl⟩
    · exact op_inT hu pins s σ H _ _ v u Q I rx ry ⟨_, _, d1, d2, h3.1, h3.2.1, h3.2.2.here rel rfl⟩
    · split at h3
      · exact op_in_str pins s σ H _ _ v u Q I rx ry ⟨_, _, Dp.str d1, Dp.str d2, h3.here rel rfl⟩
      · exact h3.elim
    · exact h3.elim
  | NotIn =>
    obtain ⟨d, e1, h2⟩ := optQ_inv (show inV S a b (fun k => PoE X.K hid S H Q (.bl (!k)) S) from h')
    obtain ⟨e, e2, h3⟩ := optQ_inv h2
    have d1 := toPy_dp rel e1 r1
    have d2 := toPy_dp rel e2 r2
    unfold inD at h3
    split at h3
    · exact op_notInD hu pins s σ H _ _ v u Q I rx ry ⟨_, _, d1, d2, h3.1, h3.2.1, h3.2.2.here rel rfl⟩
    · exact op_notInT hu pins s σ H _ _ v u Q I rx ry ⟨_, _, d1, d2, h3.1, h3.2.1, h3.2.2.here rel rfl⟩
    · split at h3
      · exact op_notin_str pins s σ H _ _ v u Q I rx ry ⟨_, _, Dp.str d1, Dp.str d2, h3.here rel rfl⟩
      · exact h3.elim
    · exact h3.elim
  | LtE => exact two op_le h'
  | Gt => exact two op_gt h'
  | GtE => exact two op_ge h'
  | Eq =>
    obtain ⟨d, e1, h2⟩ := optQ_inv h'
    obtain ⟨e, e2, h3⟩ := optQ_inv h2
    exact op_eqD (by omega) pins s σ H _ _ v u Q I rx ry ⟨d, e, toPy_dp rel e1 r1, toPy_dp rel e2 r2, h3.1, h3.2.1, h3.2.2.here rel rfl⟩
  | NotEq =>
    obtain ⟨d, e1, h2⟩ := optQ_inv h'
    obtain ⟨e, e2, h3⟩ := optQ_inv h2
    exact op_neD (by omega) pins s σ H _ _ v u Q I rx ry ⟨d, e, toPy_dp rel e1 r1, toPy_dp rel e2 r2, h3.1, h3.2.1, h3.2.2.here rel rfl⟩
  | Is =>
    obtain ⟨h1, h2⟩ := h'
    rw [isNon_rv r2] at h1
    refine op_isN pins s σ H _ _ v u Q I rx ry ⟨of_decide_eq_true h1, ?_⟩
    rw [← isNon_rv r1]
    exact h2.here rel rfl
  | IsNot =>
    obtain ⟨h1, h2⟩ := h'
    rw [isNon_rv r2] at h1
    refine op_notN pins s σ H _ _ v u Q I rx ry ⟨of_decide_eq_true h1, ?_⟩
    rw [← isNon_rv r1]
    exact h2.here rel rfl
/-! ### a[i], a[i:j] -/
theorem ix_idx : IxR X (r2 X.K idxV) := by
  intro value slice pins s σ H x y v u Q I rx ry ⟨S, hid, a, b, rel, r1, r2, h0⟩ hs
  obtain ⟨i, eb, h⟩ := intQ_inv h0
  clear h0
  subst eb
  split at h
  · rename_i vs
    obtain ⟨w, e, h⟩ := optQ_inv h
    obtain ⟨p, xs, ex, q1, s1⟩ := r1.seqT
    obtain ⟨z, e2, rz⟩ := atI_get s1 e
    exact ix_tup value slice pins s σ H x y v u Q I rx ry ⟨p, xs, i, z, ex, r2, q1, e2, h.here rel rz⟩ hs
  · rename_i ns
    obtain ⟨w, e, h⟩ := optQ_inv h
    obtain ⟨p, ex, q1⟩ := Rv.seqS r1
    obtain ⟨z, e2, rz⟩ := atI_get (Rvs.ints (K := X.K) (M := Mset S hid) (H := H) ns) e
    exact ix_list value slice pins s σ H x y v u Q I rx ry ⟨p, _, i, z, ex, r2, q1, e2, h.here rel rz⟩ hs
  · rename_i z
    obtain ⟨c, ec, h2⟩ := optQ_inv h.2
    exact ix_str value slice pins s σ H x y v u Q I rx ry ⟨z, i, c, r1, r2, h.1, ec, h2.here rel rfl⟩ hs
  · obtain ⟨vs, e0, h⟩ := optQ_inv h
    obtain ⟨w, e, h⟩ := optQ_inv h
    obtain ⟨p, xs, ex, q1, s1⟩ := asL_seq rel e0 r1
    obtain ⟨z, e2, rz⟩ := atI_get s1 e
    exact ix_list value slice pins s σ H x y v u Q I rx ry ⟨p, xs, i, z, ex, r2, SqL.of q1, e2, h.here rel rz⟩ hs
def rSl (K : PySem.W.Frag) : V → Option Int → Option Int → Hp → VK → Prop := fun x lo hi H Q => ∃ S hid v, Rel K hid S H ∧ Rv K (Mset S hid) H v x ∧ slcV S v lo hi fun w => PoE K hid S H Q w S
theorem cut_whole {α : Type} {xs : List α} {lo hi : Option Int} (h : HT.sIx xs.length 0 lo = 0 ∧ HT.sIx xs.length xs.length hi = xs.length) : Li.cut xs lo hi = xs := by
  unfold Li.cut
  rw [h.1, h.2, List.drop_zero, Nat.sub_zero, List.take_length]
theorem sl_slc : SlR X (rSl X.K) := by
  intro pins s σ H x v vl vu lo hi sl Q I rx hs pl pu ⟨S, hid, a, rel, r1, h⟩
  have h' : slcV S a lo hi (fun w => PoE X.K hid S H Q w S) := h
  unfold slcV at h'
  split at h'
  · rename_i vs
    obtain ⟨p, xs, ex, q1, s1⟩ := r1.seqT
    refine sl_tupA pins s σ H x v vl vu lo hi sl Q I rx hs pl pu ⟨p, xs, ex, q1, fun z => ?_, fun z q hq => ?_⟩
    · rw [← s1.length] at z
      rw [cut_whole z] at h'
      rw [← ex]
      exact h'.here rel r1
    · exact h'.made rel hq (Rv.newT rel hq (s1.cut lo hi))
  · rename_i ns
    obtain ⟨p, ex, q1⟩ := Rv.seqS r1
    exact sl_list pins s σ H x v vl vu lo hi sl Q I rx hs pl pu ⟨p, _, ex, q1, fun q hq => h'.made rel hq (Rv.newL rel hq ((Rvs.ints ns).cut lo hi))⟩
  · rename_i z
    exact sl_str pins s σ H x v vl vu lo hi sl Q I rx hs pl pu ⟨z, r1, h'.1, h'.2.here rel rfl⟩
  · obtain ⟨vs, e0, h'⟩ := optQ_inv h'
    obtain ⟨p, xs, ex, q1, s1⟩ := asL_seq rel e0 r1
    exact sl_list pins s σ H x v vl vu lo hi sl Q I rx hs pl pu ⟨p, xs, ex, SqL.of q1, fun q hq => h'.made rel hq (Rv.newL rel hq (s1.cut lo hi))⟩
/-! ### truth -/
theorem isEmpty_rvs {K : PySem.W.Frag} {M : Addr → Prop} {H : Hp} {vs : List Val} {xs : List V} (h : Rvs K M H vs xs) : vs.isEmpty = xs.isEmpty := by
  have e := h.length
  cases vs <;> cases xs <;> first
    | rfl
    | cases e
theorem truV_ok {K : PySem.W.Frag} {hid : Hid} {S : Sto} {H : Hp} {v : Val} {x : V} {b : Bool} (rel : Rel K hid S H) (r : Rv K (Mset S hid) H v x) (e : truV S v = some b) : TruV K x H b := by
  cases v with
  | non => cases (show x = V.non from r); exact (Option.some.inj e).symm
  | bl c => cases (show x = V.bl c from r); exact (Option.some.inj e).symm
  | int i => cases (show x = V.int i from r); exact (Option.some.inj e).symm
  | str z =>
    cases (show x = V.str z from r)
    have e1 : (if z.length ≤ sizeLine then some ((z.length : Int) != 0) else none) = some b := e
    by_cases hz : z.length ≤ sizeLine
    · rw [if_pos hz] at e1
      exact ⟨hz, (Option.some.inj e1).symm⟩
    · rw [if_neg hz] at e1
      cases e1
  | tup vs =>
    obtain ⟨p, xs, ex, q1, s1⟩ := r.seqT
    rw [ex]
    refine .inr (.inl ⟨xs, q1, ?_⟩)
    rw [← isEmpty_rvs s1]
    exact (Option.some.inj e).symm
  | lst vs =>
    obtain ⟨p, xs, ex, q1, _, s1⟩ := r
    rw [ex]
    refine .inl ⟨xs, SqL.of q1, ?_⟩
    rw [← isEmpty_rvs s1]
    exact (Option.some.inj e).symm
  | adr a =>
    have e2 : (match S a with
      | some (.lst vs) => some (!vs.isEmpty)
      | _ => none) = some b := e
    cases q : S a with
    | none =>
      rw [q] at e2
      cases e2
    | some c =>
      rw [q] at e2
      cases c with
      | lst vs =>
        obtain ⟨xs, h1, h2⟩ := rel.cells a _ q
        rw [show x = V.ref a from r]
        refine .inl ⟨xs, SqL.of h1, ?_⟩
        rw [← isEmpty_rvs h2]
        exact (Option.some.inj e2).symm
      | _ => cases e2
  | _ => cases e
/-! ### built-in functions -/
def rF (K : PySem.W.Frag) (f : Sto → List Val → (Val → Prop) → Prop) : List V → Hp → VK → Prop := fun xs H Q => ∃ S hid vs, Rel K hid S H ∧ Rvs K (Mset S hid) H vs xs ∧ f S vs fun w => PoE K hid S H Q w S
theorem Rvs.one {K : PySem.W.Frag} {M : Addr → Prop} {H : Hp} {v : Val} {xs : List V} (h : Rvs K M H [v] xs) : ∃ x, xs = [x] ∧ Rv K M H v x := by
  obtain ⟨x, y, e, h1, h2⟩ := h
  cases (show y = [] from h2)
  exact ⟨x, e, h1⟩
theorem Rvs.two {K : PySem.W.Frag} {M : Addr → Prop} {H : Hp} {v u : Val} {xs : List V} (h : Rvs K M H [v, u] xs) : ∃ x y, xs = [x, y] ∧ Rv K M H v x ∧ Rv K M H u y := by
  obtain ⟨x, y, e, h1, h2⟩ := h
  obtain ⟨z, e2, h3⟩ := h2.one
  exact ⟨x, z, by rw [e, e2], h1, h3⟩
theorem lenV_ok {K : PySem.W.Frag} {hid : Hid} {S : Sto} {H : Hp} {v : Val} {x : V} {n : Nat} (rel : Rel K hid S H) (r : Rv K (Mset S hid) H v x) (e : lenV S v = some n) : LenV K x H n := by
  have gen : (asL S v).map (·.length) = some n → LenV K x H n := fun e => by
    cases q : asL S v with
    | none =>
      rw [q] at e
      cases e
    | some vs =>
      rw [q] at e
      have en : vs.length = n := Option.some.inj e
      obtain ⟨p, xs, ex, q1, s1⟩ := asL_seq rel q r
      rw [ex]
      exact .inl ⟨xs, SqL.of q1, by rw [← en]; exact s1.length⟩
  cases v with
  | str z =>
    cases (show x = V.str z from r)
    have e1 : (if z.length ≤ sizeLine then some z.length else none) = some n := e
    by_cases hz : z.length ≤ sizeLine
    · rw [if_pos hz] at e1
      exact ⟨hz, (Option.some.inj e1).symm⟩
    · rw [if_neg hz] at e1
      cases e1
  | tup vs =>
    obtain ⟨p, xs, ex, q1, s1⟩ := r.seqT
    rw [ex]
    have en : vs.length = n := Option.some.inj e
    exact .inr ⟨xs, q1, by rw [← en]; exact s1.length⟩
  | scr ns =>
    obtain ⟨p, ex, q1⟩ := Rv.seqS r
    rw [ex]
    have en : ns.length = n := Option.some.inj e
    exact .inl ⟨_, q1, by rw [← en, List.length_map]⟩
  | lst vs => exact gen e
  | adr a => exact gen e
  | _ => cases e
end
end Li
set_option Elab.async false
set_option linter.all false
set_option maxRecDepth 100000
set_option maxHeartbeats 2000000
/-! LiBf: built-in functions, methods of lists, isinstance, what the names of the module are. -/
namespace Li
open PySem L2
section
variable {X : Cx}
def bfCall : Bf → Value
  | .len => .builtin "len"
  | .abs => .builtin "abs"
  | .int => .type "int"
  | .str => .type "str"
  | .repr => .builtin "repr"
  | .tuple => .type "tuple"
  | .list => .type "list"
  | .sum => .builtin "sum"
  | .min => .builtin "min"
  | .max => .builtin "max"
  | .all => .builtin "all"
  | .any => .builtin "any"
  | .sorted => .builtin "sorted"
  | .isi _ => .none
theorem ints_of {K : PySem.W.Frag} {hid : Hid} {S : Sto} {H : Hp} {v : Val} {x : V} {ns : List Int} (rel : Rel K hid S H) (r : Rv K (Mset S hid) H v x) (e : (asL S v).bind asInts = some ns) : ∃ p, x = .ref p ∧ SqL K H p (ns.map V.int) := by
  cases q : asL S v with
  | none =>
    rw [q] at e
    cases e
  | some vs =>
    rw [q] at e
    obtain ⟨p, xs, ex, q1, s1⟩ := asL_seq rel q r
    have e2 := s1.ofInts (show asInts vs = some ns from e)
    rw [e2] at q1
    exact ⟨p, ex, SqL.of q1⟩
theorem bools_of {K : PySem.W.Frag} {hid : Hid} {S : Sto} {H : Hp} {v : Val} {x : V} {ns : List Bool} (rel : Rel K hid S H) (r : Rv K (Mset S hid) H v x) (e : (asL S v).bind asBools = some ns) : ∃ p, x = .ref p ∧ SqL K H p (ns.map V.bl) := by
  cases q : asL S v with
  | none =>
    rw [q] at e
    cases e
  | some vs =>
    rw [q] at e
    obtain ⟨p, xs, ex, q1, s1⟩ := asL_seq rel q r
    have e2 := s1.ofBools (show asBools vs = some ns from e)
    rw [e2] at q1
    exact ⟨p, ex, SqL.of q1⟩
theorem toPys0_tr {K : PySem.W.Frag} {M : Addr → Prop} {H : Hp} : ∀ {vs : List Val} {ds : List PyData} {xs : List V}, toPys0 vs = some ds → Rvs K M H vs xs → ∃ tr : List (V × (Val × PyData)), tr.map (·.1) = xs ∧ tr.map (·.2) = vs.zip ds ∧ vs.length = ds.length ∧ ∀ t ∈ tr, Rv K M H t.2.1 t.1 ∧ Dp K H t.1 t.2.2
  | [], _, _, e, h => by
    cases e
    cases (show _ = [] from h)
    exact ⟨[], rfl, rfl, rfl, fun t ht => nomatch ht⟩
  | v :: r, _, _, e, ⟨x, y, ex, h1, h2⟩ => by
    unfold toPys0 at e
    split at e
    · rename_i d ds e1 e2
      cases e
      obtain ⟨tr, t1, t2, t3, t4⟩ := toPys0_tr e2 h2
      refine ⟨(x, (v, d)) :: tr, by rw [List.map_cons, t1, ex], by rw [List.map_cons, t2]; rfl, by rw [List.length_cons, List.length_cons, t3], fun t ht => ?_⟩
      rcases List.mem_cons.mp ht with q | q
      · rw [q]
        exact ⟨h1, toPy0_dp e1 h1⟩
      · exact t4 t q
    · cases e
/-- sorted(xs), xs any data that can be compared -/
theorem cr_sortedData (hu : X.A.units + 64 < cLine) : CallR X (.builtin "sorted") (fun xs H Q => ∃ (a : Addr) (tr : List (V × (Val × PyData))), xs = [V.ref a] ∧ SqL X.K H a (tr.map (·.1)) ∧ (∀ t ∈ tr, Dp X.K H t.1 t.2.2) ∧ PySem.W.AllAlike (tr.map fun t => t.2.2) ∧ PySem.W.Sortable (tr.map fun t => t.2.2) ∧ (∀ t ∈ tr, t.2.2.depth ≤ 60) ∧
    ∀ p, H p = none → Q (.ref p) (upd H p (.lst ((tr.mergeSort (PySem.W.dataLe false fun t => t.2.2)).map (·.1))))) := by
  intro pins s σ H vs us Q I r h
  obtain ⟨a, tr, rfl, hs, hd, h1, h2, h3, q⟩ := h
  obtain ⟨its, rv, hl, hz⟩ := I.list hs
  rw [Vals.ref1 r]
  rw [List.length_map] at hz
  have each : ∀ {l : List (V × (Val × PyData))} {is : List Value}, (∀ t ∈ l, Dp X.K H t.1 t.2.2) → Vals (l.map (·.1)) is → PySem.W.EachIs (fun (v : Value) (t : V × (Val × PyData)) => RelV t.1 v) is l ∧ PySem.W.EachIs (fun (v : Value) (t : V × (Val × PyData)) => ∃ as, Reads s.heap v t.2.2 as) is l := fun {l} => by
    induction l with
    | nil =>
      intro is _ r
      cases r
      exact ⟨.nil, .nil⟩
    | cons t l ih =>
      intro is hd r
      cases r with
      | cons r1 r2 =>
        obtain ⟨q1, q2⟩ := ih (fun u hu => hd u (List.mem_cons_of_mem _ hu)) r2
        exact ⟨.cons r1 q1, .cons (Dp.reads I _ _ _ (hd t List.mem_cons_self) r1) q2⟩
  obtain ⟨e1, e2⟩ := each hd rv
  have hlen : ((tr.mergeSort (PySem.W.dataLe false fun t => t.2.2)).map (·.1)).length ≤ sizeLine := by
    rw [List.length_map, List.length_mergeSort]
    exact hz
  refine PySem.W.sorted_data (enc := fun t : V × (Val × PyData) => t.2.2) hl.isList e1 e2 h1 h2 hz (fun b hb => by have := h3 b hb; omega) fun out ho eo => ?_
  obtain ⟨ep, he'⟩ := PyProof.Rows.sortedAll_at s.heap its out.toArray
  have ev : Vals ((tr.mergeSort (PySem.W.dataLe false fun t => t.2.2)).map (·.1)) out := by
    generalize (tr.mergeSort (PySem.W.dataLe false fun t => t.2.2)) = l at eo
    clear ho ep he' hlen
    induction eo with
    | nil => exact .nil
    | cons h _ ih => exact .cons h ih
  exact ⟨.ref _, upd H (s.heap.objs.size + 1) (.lst ((tr.mergeSort (PySem.W.dataLe false fun t => t.2.2)).map (·.1))), I.laid (t' := s.toks) (fun _ _ => PyProof.Rows.sortedAll_old) (Nat.le_succ _) ⟨hlen, out, ep, ev, he'⟩, rfl, q _ (I.hok.fresh (Nat.le_succ _))⟩
theorem bf_call (hc : X.calm = true) (hu : X.A.units + 64 < cLine) (D : Nat → G) (f : Bf) (hf : ∀ t, f ≠ .isi t) : CallR X (bfCall f) (rF X.K fun S vs Q => bfV D f vs S Q) := by
  intro pins s σ H xs us Q I r h
  obtain ⟨S, hid, vs, rel, rv, h⟩ := h
  have h' : bfV D f vs S (fun w => PoE X.K hid S H Q w S) := h
  clear h
  unfold bfV at h'
  split at h'
  · rename_i x
    obtain ⟨z, e, rz⟩ := rv.one
    obtain ⟨n, en, h'⟩ := optQ_inv h'
    exact call_len pins s σ H xs us Q I r ⟨z, n, e, lenV_ok rel rz en, h'.here rel rfl⟩
  · rename_i x
    obtain ⟨z, e, rz⟩ := rv.one
    obtain ⟨i, ei, h'⟩ := intQ_inv h'
    subst ei
    exact call_abs pins s σ H xs us Q I r ⟨i, by rw [e, show z = V.int i from rz], h'.here rel rfl⟩
  · rename_i i
    obtain ⟨z, e, rz⟩ := rv.one
    exact call_int1 pins s σ H xs us Q I r (.inl ⟨i, by rw [e, show z = V.int i from rz], h'.here rel rfl⟩)
  · rename_i i
    obtain ⟨z, e, rz⟩ := rv.one
    exact call_int1 pins s σ H xs us Q I r (.inr ⟨i, by rw [e, show z = V.bl i from rz], h'.here rel rfl⟩)
  · rename_i us'
    obtain ⟨z, e, rz⟩ := rv.one
    obtain ⟨p, ys, ex, q1, s1⟩ := rz.seqT
    refine call_tuple_of pins s σ H xs us Q I r ⟨p, ys, by rw [e, ex], .inr ⟨q1, ?_⟩⟩
    rw [← ex]
    exact h'.here rel rz
  · rename_i x _
    obtain ⟨z, e, rz⟩ := rv.one
    obtain ⟨vs', e0, h'⟩ := optQ_inv h'
    obtain ⟨p, ys, ex, q1, s1⟩ := asL_seq rel e0 rz
    exact call_tuple_of pins s σ H xs us Q I r ⟨p, ys, by rw [e, ex], .inl ⟨SqL.of q1, fun q hq => h'.made rel hq (Rv.newT rel hq s1)⟩⟩
  · rename_i us'
    obtain ⟨z, e, rz⟩ := rv.one
    obtain ⟨p, ys, ex, q1, s1⟩ := rz.seqT
    exact call_list_of pins s σ H xs us Q I r ⟨p, ys, by rw [e, ex], .inr q1, fun q hq => h'.made rel hq (Rv.newL rel hq s1)⟩
  · rename_i ns
    obtain ⟨z, e, rz⟩ := rv.one
    obtain ⟨p, ex, q1⟩ := Rv.seqS rz
    exact call_list_of pins s σ H xs us Q I r ⟨p, _, by rw [e, ex], .inl q1, fun q hq => h'.made rel hq (Rv.newL rel hq (Rvs.ints ns))⟩
  · rename_i x _ _
    obtain ⟨z, e, rz⟩ := rv.one
    obtain ⟨vs', e0, h'⟩ := optQ_inv h'
    obtain ⟨p, ys, ex, q1, s1⟩ := asL_seq rel e0 rz
    exact call_list_of pins s σ H xs us Q I r ⟨p, ys, by rw [e, ex], .inl (SqL.of q1), fun q hq => h'.made rel hq (Rv.newL rel hq s1)⟩
  · rename_i x
    obtain ⟨z, e, rz⟩ := rv.one
    obtain ⟨ns, e0, h'⟩ := optQ_inv h'
    obtain ⟨p, ex, q1⟩ := ints_of rel rz e0
    exact cr_sum hc pins s σ H xs us Q I r ⟨p, ns, by rw [e, ex], q1, h'.here rel rfl⟩
  · rename_i x y
    obtain ⟨z, w, e, rz, rw'⟩ := rv.two
    obtain ⟨i, ei, h'⟩ := intQ_inv h'
    obtain ⟨j, ej, h'⟩ := intQ_inv h'
    subst ei ej
    exact call_min2 hc pins s σ H xs us Q I r ⟨i, j, by rw [e, show z = V.int i from rz, show w = V.int j from rw'], h'.here rel rfl⟩
  · rename_i x y
    obtain ⟨z, w, e, rz, rw'⟩ := rv.two
    obtain ⟨i, ei, h'⟩ := intQ_inv h'
    obtain ⟨j, ej, h'⟩ := intQ_inv h'
    subst ei ej
    exact call_max2 hc pins s σ H xs us Q I r ⟨i, j, by rw [e, show z = V.int i from rz, show w = V.int j from rw'], h'.here rel rfl⟩
  · rename_i x
    obtain ⟨z, e, rz⟩ := rv.one
    obtain ⟨ns, e0, h'⟩ := optQ_inv h'
    obtain ⟨p, ex, q1⟩ := ints_of rel rz e0
    exact cr_min hc pins s σ H xs us Q I r ⟨p, ns, by rw [e, ex], q1, h'.1, fun m h1 h2 => (h'.2 m h1 h2).here rel rfl⟩
  · rename_i x
    obtain ⟨z, e, rz⟩ := rv.one
    obtain ⟨ns, e0, h'⟩ := optQ_inv h'
    obtain ⟨p, ex, q1⟩ := bools_of rel rz e0
    exact cr_all hc pins s σ H xs us Q I r ⟨p, ns, by rw [e, ex], q1, h'.here rel rfl⟩
  · rename_i x
    obtain ⟨z, e, rz⟩ := rv.one
    obtain ⟨ns, e0, h'⟩ := optQ_inv h'
    obtain ⟨p, ex, q1⟩ := bools_of rel rz e0
    exact cr_any hc pins s σ H xs us Q I r ⟨p, ns, by rw [e, ex], q1, h'.here rel rfl⟩
  · rename_i t x
    exact absurd rfl (hf t)
  · rename_i x
    obtain ⟨z, e, rz⟩ := rv.one
    obtain ⟨ws, e0, h'⟩ := optQ_inv h'
    obtain ⟨ds, e1, h'⟩ := optQ_inv h'
    obtain ⟨⟨h1, h2, h3, h4⟩, h'⟩ := h'
    obtain ⟨p, ys, ex, q1, s1⟩ := asL_seq rel e0 rz
    obtain ⟨tr, t1, t2, t3, t4⟩ := toPys0_tr e1 s1
    have tm : tr.map (fun t => t.2.2) = ds := by
      have := congrArg (List.map Prod.snd) t2
      rw [List.map_map, List.map_snd_zip (by omega)] at this
      exact this
    refine cr_sortedData hu pins s σ H xs us Q I r ⟨p, tr, by rw [e, ex], by rw [t1]; exact SqL.of q1, fun t ht => (t4 t ht).2, by rw [tm]; exact h1, by rw [tm]; exact h2, fun t ht => h4 _ (by rw [← tm]; exact List.mem_map.mpr ⟨t, ht, rfl⟩), fun d hd => h'.made rel hd (Rv.newL rel hd ?_)⟩
    have m1 : srtD ws ds = (tr.mergeSort (PySem.W.dataLe false fun t => t.2.2)).map fun t => t.2.1 := by
      unfold srtD
      rw [← t2, ← List.map_mergeSort (f := Prod.snd) (s := PySem.W.dataLe false Prod.snd) (r := PySem.W.dataLe false fun t : V × (Val × PyData) => t.2.2) (fun a _ b _ => rfl), List.map_map]
      rfl
    have rr : ∀ l : List (V × (Val × PyData)), (∀ t ∈ l, Rv X.K (Mset S hid) H t.2.1 t.1) → Rvs X.K (Mset S hid) H (l.map fun t => t.2.1) (l.map fun t => t.1) := fun l => by
      induction l with
      | nil => exact fun _ => rfl
      | cons t l ih => exact fun h => ⟨_, _, rfl, h t List.mem_cons_self, ih fun u hu => h u (List.mem_cons_of_mem _ hu)⟩
    rw [m1]
    exact rr _ fun t ht => (t4 t (List.mem_mergeSort.mp ht)).1
  · exact h'.elim
/-! ### classes -/
structure ClsOk (K : PySem.W.Frag) (C : Addr) : Prop where
  cl : Cls K C
  ha : PySem.W.findIn K (.ref C) "__class__" = some (some (.builtin "object.__class__"))
  hn : PySem.W.specialIn K (.builtin "object.__class__") "__get__" = some (some (.builtin "getset_descriptor.__get__"))
  htk : PySem.W.takesIn K (.builtin "object.__class__") = some true
  hm : PySem.W.mroIn K C (.type "object") = some true
/-! ### the names of the module -/
/-- a plain promise, over the abstract heap -/
def RExc (K : PySem.W.Frag) (M : Addr → Prop) (H : Hp) (e : Exc) (cls : Value) (d : Option Addr) : Prop :=
  cls = .ref e.C ∧ ((e.fs = [] ∧ d = none) ∨ ∃ dx xs, d = some dx ∧ H dx = some (.xd ((e.fs.map (·.1)).zip xs)) ∧ ¬ M dx ∧ Rvs K M H (e.fs.map (·.2)) xs)
def toSp (K : PySem.W.Frag) (T : List NdefX.NTab) (n : Nat) (sp : ISp) : Sp := fun vs' H Q E => ∃ vs S hid, hid.T = T ∧ vs.length = n ∧ Rvs K (Mset S hid) H vs vs' ∧ Rel K hid S H ∧
  sp.run vs S (PoE K hid S H Q) fun ex S' => ∀ cls d H', Ext S H S' H' → Rel K hid S' H' → RExc K (Mset S' hid) H' ex cls d → E cls d H'
/-- the fixed things of a law's run -/
structure Mo where
  P : Program
  w : World
  K : PySem.W.Frag
  mg : Str → Option Value
  base : Heap
  T : List NdefX.NTab
/-- behind one more argument -/
def upA : Nat ⊕ Val → Nat ⊕ Val
  | .inl i => .inl (i + 1)
  | .inr v => .inr v
theorem pickV_up {x : Val} {xs : List Val} : ∀ arr : List (Nat ⊕ Val), pickV (arr.map upA) (x :: xs) = pickV arr xs
  | [] => rfl
  | .inl i :: r => by
    show (x :: xs).getD (i + 1) .non :: pickV (r.map upA) (x :: xs) = _
    rw [pickV_up r]
    rfl
  | .inr v :: r => by
    show v :: pickV (r.map upA) (x :: xs) = _
    rw [pickV_up r]
    rfl
theorem pickV_len : ∀ {arr : List (Nat ⊕ Val)} {xs : List Val}, (pickV arr xs).length = arr.length
  | [], _ => rfl
  | .inl i :: r, xs => by
    show (pickV r xs).length + 1 = r.length + 1
    rw [pickV_len]
  | .inr v :: r, xs => by
    show (pickV r xs).length + 1 = r.length + 1
    rw [pickV_len]
/-- what a call with keywords binds -/
def KBp (K : PySem.W.Frag) (fd : FuncData) (ps : List Str) (np : Nat) (ks : List Str) (arr : List (Nat ⊕ Val)) : Prop :=
  ∃ g gV, KBn K fd ps np ks g gV ∧ ∀ M H vs ws vs' ws', vs.length = np → ws.length = ks.length → Rvs K M H vs vs' → Rvs K M H ws ws' → Rvs K M H (pickV arr (vs ++ ws)) (gV vs' ws')
/-- a method of a class -/
def MOk (m : Mo) (lvl : Nat) (C : Addr) (x : Str) (ks : List Str) : G → Prop
  | .none => True
  | .fn sp n dfl => ks = [] ∧ ∃ f fd ps k, k + 1 ≤ lvl ∧ ps.length = n ∧ FnOk m.P m.w m.K m.mg m.base (CX m.P m.w) k f fd ps (toSp m.K m.T n sp) ∧ Cls m.K C ∧ Meth m.K C x f ∧
      ∀ dn, dn ≤ dfl.length → ∃ ds dvs, Binds m.K fd ps ds ∧ Vals dvs ds ∧ Rvs m.K (fun _ => True) (fun _ => none) (dfl.drop (dfl.length - dn)) dvs
  | .fnk sp n np ks' arr => ks' = ks ∧ ∃ f fd ps k, k + 1 ≤ lvl ∧ ps.length = n ∧ FnOk m.P m.w m.K m.mg m.base (CX m.P m.w) k f fd ps (toSp m.K m.T n sp) ∧ Cls m.K C ∧ Meth m.K C x f ∧ KBp m.K fd ps np ks arr
  | _ => False
def GOk (m : Mo) (lvl : Nat) (x : Str) : G → Prop
  | .none => True
  | .val v => ∃ u y, m.mg x = some u ∧ RelV y u ∧ Rv m.K (fun _ => True) (fun _ => none) v y
  | .fn sp n dfl => ∃ f fd ps k, k ≤ lvl ∧ ps.length = n ∧ FnOk m.P m.w m.K m.mg m.base (CX m.P m.w) k f fd ps (toSp m.K m.T n sp) ∧ m.mg x = some (.ref f) ∧ PySem.W.keepIn m.K (.ref f) = true ∧
      ∀ dn, dn ≤ dfl.length → ∃ ds dvs, Binds m.K fd ps ds ∧ Vals dvs ds ∧ Rvs m.K (fun _ => True) (fun _ => none) (dfl.drop (dfl.length - dn)) dvs
  | .fnk sp n np ks arr => ∃ f fd ps k, k ≤ lvl ∧ ps.length = n ∧ FnOk m.P m.w m.K m.mg m.base (CX m.P m.w) k f fd ps (toSp m.K m.T n sp) ∧ m.mg x = some (.ref f) ∧ PySem.W.keepIn m.K (.ref f) = true ∧ KBp m.K fd ps np ks arr
  | .clk C fz sp n np ks arr => ∃ f fd ps k, k + 1 ≤ lvl ∧ ps.length = n ∧ Mk m.K C f ∧ FnOk m.P m.w m.K m.mg m.base (CX m.P m.w) k f fd ps (toSp m.K m.T n sp) ∧ m.mg x = some (.ref C) ∧ KBp m.K fd ps (np + 1) ks (.inl 0 :: arr.map upA)
  | .cls C fz sp n dfl => ∃ f fd ps k, k + 1 ≤ lvl ∧ ps.length = n ∧ Mk m.K C f ∧ FnOk m.P m.w m.K m.mg m.base (CX m.P m.w) k f fd ps (toSp m.K m.T n sp) ∧ m.mg x = some (.ref C) ∧ ClsOk m.K C ∧
      ∀ dn, dn ≤ dfl.length → ∃ ds dvs, Binds m.K fd ps ds ∧ Vals dvs ds ∧ Rvs m.K (fun _ => True) (fun _ => none) (dfl.drop (dfl.length - dn)) dvs
def moOf (X : Cx) (T : List NdefX.NTab) : Mo := ⟨X.prog, X.w, X.K, X.mg, X.base, T⟩
/-! ### isinstance -/
def tyN : Ty → Option String
  | .int => some "int"
  | .bool => some "bool"
  | .str => some "str"
  | .tup => some "tuple"
  | .lst => some "list"
  | .cls _ => none
theorem kitOne_self {K : PySem.W.Frag} {t : Value} : PySem.W.kitOne K t t = some true := by
  unfold PySem.W.kitOne
  rw [if_pos (by simp)]
theorem tup_ty {K : PySem.W.Frag} {M : Addr → Prop} {H : Hp} {vs : List Val} {x : V} (r : Rv K M H (.tup vs) x) : TyX K H x (.type "tuple") := by
  obtain ⟨p, xs, ex, h1, _⟩ := r
  rw [ex]
  rcases h1 with h1 | h1
  · exact .base (.tup h1.1)
  · rcases h1 with (h1 | ⟨o, h1⟩) | ⟨o, its, n, h1, h2, _⟩
    · cases h1
    · cases h1
    · exact .kTuple h1 h2
theorem lst_ty {K : PySem.W.Frag} {M : Addr → Prop} {H : Hp} {vs : List Val} {x : V} (r : Rv K M H (.lst vs) x) : TyX K H x (.type "list") := by
  obtain ⟨p, xs, ex, h1, _⟩ := r
  rw [ex]
  exact .base (.lst h1)
/-- isinstance by a built-in type -/
theorem isi_ty {D : Nat → G} {hid : Hid} {S : Sto} {H : Hp} {v : Val} {x : V} {t : Ty} {T : String} {b : Bool} (eT : tyN t = some T) (e : isiV D S t v = some b) (r : Rv X.K (Mset S hid) H v x) : ∃ u, TyX X.K H x u ∧ PySem.W.kitOne X.K u (.type T) = some b := by
  have e : isiT t v = some b := by
    cases t <;> first
      | exact e
      | cases eT
  cases t <;> cases eT <;> cases v <;> cases e <;> first
    | (cases (show x = V.int _ from r); exact ⟨_, .base (.int _), kit_ty (by decide +kernel)⟩)
    | (cases (show x = V.bl _ from r); exact ⟨_, .base (.bl _), kit_ty (by decide +kernel)⟩)
    | (cases (show x = V.str _ from r); exact ⟨_, .base (.str _), kit_ty (by decide +kernel)⟩)
    | (cases (show x = V.non from r); exact ⟨_, .base .non, kit_ty (by decide +kernel)⟩)
    | exact ⟨_, tup_ty r, kit_ty (by decide +kernel)⟩
    | exact ⟨_, lst_ty r, kit_ty (by decide +kernel)⟩
/-- isinstance by a class of the program -/
theorem isi_cls {T : List NdefX.NTab} {D : Nat → G} {nm : Nat → Str} {lvl : Nat} {hid : Hid} {S : Sto} {H : Hp} {v : Val} {x : V} {g : Nat} {b : Bool} (rel : Rel X.K hid S H) (ok : GOk (moOf X T) lvl (nm g) (D g)) (e : isiV D S (.cls g) v = some b) (r : Rv X.K (Mset S hid) H v x) :
    ∃ u C, X.mg (nm g) = some (.ref C) ∧ TyX X.K H x u ∧ PySem.W.kitOne X.K u (.ref C) = some b := by
  have e : isiC (D g) S v = some b := e
  unfold isiC at e
  cases q : D g with
  | cls C fz sp n dfl =>
    rw [q] at e ok
    cases q2 : insA S v with
    | none =>
      rw [q2] at e
      cases e
    | some C' =>
      rw [q2] at e
      have e2 : (if C' = C then some true else none) = some b := e
      by_cases hC : C' = C
      · rw [if_pos hC] at e2
        cases e2
        subst hC
        obtain ⟨f, fd, ps, k, _, _, _, _, hm, co, _⟩ := ok
        cases v with
        | ins C2 ns vs =>
          cases q2
          obtain ⟨p, dx, xs, ex, h1, _⟩ := r
          rw [ex]
          exact ⟨_, _, hm, .base (.ins h1 co.cl co.ha co.hn co.htk co.hm), kitOne_self⟩
        | adr a =>
          have q2 : (match S a with
            | some (.obj C _) => some C
            | _ => none) = some C' := q2
          cases q3 : S a with
          | none =>
            rw [q3] at q2
            cases q2
          | some c =>
            rw [q3] at q2
            cases c with
            | obj C2 fs =>
              cases q2
              obtain ⟨dx, xs, h1, _⟩ := rel.cells a _ q3
              rw [show x = V.ref a from r]
              exact ⟨_, _, hm, .base (.ins h1 co.cl co.ha co.hn co.htk co.hm), kitOne_self⟩
            | _ => cases q2
        | _ => cases q2
      · rw [if_neg hC] at e2
        cases e2
  | _ =>
    rw [q] at e
    cases e
end
end Li
set_option Elab.async false
set_option linter.all false
set_option maxRecDepth 100000
set_option maxHeartbeats 2000000
/-! LiExp: expressions, one rule each. -/
namespace Li
open PySem L2
def SX.EX (G : SX) (K : PySem.W.Frag) : XK := fun cls d H' => ∃ ex S' hid, G.P hid ∧ Ext G.S0 G.H0 S' H' ∧ Rel K hid S' H' ∧ RExc K (Mset S' hid) H' ex cls d ∧ G.c.er ex S'
structure Okx (G : SX) (lvl : Nat) (nm : Nat → Str) (X : Cx) : Prop where
  nd : X.N.Nodup
  calm : X.calm = true
  room : Room lvl X.A
  gok : ∀ g, GOk (moOf X G.T) lvl (nm g) (G.c.D g)
  mok : ∀ C m ks, MOk (moOf X G.T) lvl C m ks (G.c.M C m ks)
  pas : Passes (CX X.prog X.w) X (G.EX X.K)
  att : ∀ C f, G.c.A C f → Cls X.K C ∧ NoAttr X.K C f
theorem PoE.after {K : PySem.W.Frag} {hid : Hid} {S S2 S' : Sto} {H H2 : Hp} {Q : VK} {v : Val} (e : Ext S H S2 H2) (h : PoE K hid S H Q v S') : PoE K hid S2 H2 Q v S' := fun v' H' e' => h v' H' (e.trans e')
theorem PoB.after {K : PySem.W.Frag} {hid : Hid} {S S2 S' : Sto} {H H2 : Hp} {Q : Bool → Hp → Prop} {v : Bool} (e : Ext S H S2 H2) (h : PoB K hid S H Q v S') : PoB K hid S2 H2 Q v S' := fun H' e' => h H' (e.trans e')
section
variable {X : Cx} {G : SX} {lvl : Nat} {nm : Nat → Str} {σ : Env} {S : Sto} {hid : Hid} {σ' : L2.St} {H : Hp} {K : PySem.W.Frag}
/-! dicts are locked: from then on nobody changes them -/
inductive LkQ (Q : Hp → Prop) : Hp → Prop
  | here {H : Hp} : Q H → LkQ Q H
  | lock {H : Hp} (d : Addr) (kvs : List (Key × V)) : H d = some (.dK kvs) → (∀ od, LkQ Q (upd H d (.frz od (.dK kvs)))) → LkQ Q H
theorem pe_lk {e : Expr} {t : TE} (h : PE X e t) : PE X e (fun σ H Q => t σ H fun v H1 => LkQ (Q v) H1) := by
  refine ⟨fun pins s σ H Q I q => thn (h.run pins s σ H _ I q) fun v s1 ⟨x, H1, I1, r1, lk⟩ => ?_⟩
  induction lk with
  | here q => exact ⟨x, _, I1, r1, q⟩
  | lock d kvs hd _ ih =>
    obtain ⟨od, I2⟩ := I1.lock hd trivial
    exact ih od I2
theorem tEv.mono {e : E} {Q Q' : VK} (hQ : ∀ x H, Q x H → Q' x H) (h : tEv G K e σ' H Q) : tEv G K e σ' H Q' := by
  obtain ⟨σ, S, hid, w, h⟩ := h
  exact ⟨σ, S, hid, w, evE_mono e (fun v S' z v' H' a b c => hQ _ _ (z v' H' a b c)) h⟩
theorem tTv.mono {e : E} {Q Q' : Bool → Hp → Prop} (hQ : ∀ x H, Q x H → Q' x H) (h : tTv G K e σ' H Q) : tTv G K e σ' H Q' := by
  obtain ⟨σ, S, hid, w, h⟩ := h
  exact ⟨σ, S, hid, w, evE_mono e (fun v S' z => tst_mono (fun b S'' z H' a c => hQ _ _ (z H' a c)) z) h⟩
theorem tAv.mono {e : Es} {Q Q' : List V → Hp → Prop} (hQ : ∀ x H, Q x H → Q' x H) (h : tAv G K e σ' H Q) : tAv G K e σ' H Q' := by
  obtain ⟨σ, S, hid, w, h⟩ := h
  exact ⟨σ, S, hid, w, evEs_mono e (fun v S' z v' H' a b c => hQ _ _ (z v' H' a b c)) h⟩
/-- one value, and what stands behind it -/
theorem t1 {a : E} {R : Val → Sto → Prop} (w : Wd G K σ S hid σ' H) (h : evE G.c a σ S R) : tEv G K a σ' H fun x' H1 => ∃ S1 x, Ext S H S1 H1 ∧ Wd G K σ S1 hid σ' H1 ∧ Rv K (Mset S1 hid) H1 x x' ∧ R x S1 :=
  ⟨σ, S, hid, w, evE_mono a (fun v S' z v' H' e r q => ⟨S', v, e, w.step e r, q, z⟩) h⟩
theorem tT {a : E} {R : Bool → Sto → Prop} (w : Wd G K σ S hid σ' H) (h : evE G.c a σ S (tst R)) : tTv G K a σ' H fun b H1 => ∃ S1, Ext S H S1 H1 ∧ Wd G K σ S1 hid σ' H1 ∧ R b S1 :=
  ⟨σ, S, hid, w, evE_mono a (fun v S' z => tst_mono (fun b S'' z H' e r => ⟨S'', e, w.step e r, z⟩) z) h⟩
theorem tA {a : Es} {R : List Val → Sto → Prop} (w : Wd G K σ S hid σ' H) (h : evEs G.c a σ S R) : tAv G K a σ' H fun x' H1 => ∃ S1 x, Ext S H S1 H1 ∧ Wd G K σ S1 hid σ' H1 ∧ Rvs K (Mset S1 hid) H1 x x' ∧ R x S1 :=
  ⟨σ, S, hid, w, evEs_mono a (fun v S' z v' H' e r q => ⟨S', v, e, w.step e r, q, z⟩) h⟩
theorem t2 {a b : E} {R : Val → Val → Sto → Prop} (w : Wd G K σ S hid σ' H) (h : evE G.c a σ S fun x S1 => evE G.c b σ S1 fun y S2 => R x y S2) :
    tEv G K a σ' H fun x' H1 => tEv G K b σ' H1 fun y' H2 => ∃ S2 x y, Ext S H S2 H2 ∧ Wd G K σ S2 hid σ' H2 ∧ Rv K (Mset S2 hid) H2 x x' ∧ Rv K (Mset S2 hid) H2 y y' ∧ R x y S2 :=
  (t1 w h).mono fun x' H1 ⟨S1, x, e1, w1, r1, q1⟩ => (t1 w1 q1).mono fun y' H2 ⟨S2, y, e2, w2, r2, q2⟩ => ⟨S2, x, y, e1.trans e2, w2, r1.keep (e2.keeps hid), r2, q2⟩
theorem sE_var {i : Nat} {x : Str} {pos : Pos} (hN : X.N[i]? = some x) (hv : Vis X.env.scope x) (hd : (x == ("__debug__" : Str)) = false) (hcd : (x == ("__classdict__" : Str)) = false) : PE X (.Name x pos) (tEv G X.K (.var i)) :=
  PE.wk (pe_var hN hv hd hcd) fun σ' H Q ⟨σ, S, hid, w, h⟩ => by
    obtain ⟨v, e, h⟩ := slotQ_inv h
    obtain ⟨x', e', r⟩ := w.env.2 i v e
    exact ⟨x', e', h.here w.rel r⟩
theorem sE_int {i : Int} {j : Nat} {pos : Pos} : PE X (.Constant (.int i) j pos) (tEv G X.K (.lit (.int i))) := PE.wk pe_int fun σ' H Q ⟨σ, S, hid, w, h⟩ => PoE.here h w.rel rfl
theorem sE_bl {i : Bool} {j : Nat} {pos : Pos} : PE X (.Constant (.bool i) j pos) (tEv G X.K (.lit (.bl i))) := PE.wk pe_bl fun σ' H Q ⟨σ, S, hid, w, h⟩ => PoE.here h w.rel rfl
theorem sE_str {i : Str} {j : Nat} {pos : Pos} : PE X (.Constant (.str i) j pos) (tEv G X.K (.lit (.str i))) := PE.wk pe_str fun σ' H Q ⟨σ, S, hid, w, h⟩ => PoE.here h w.rel rfl
theorem sE_non {j : Nat} {pos : Pos} : PE X (.Constant .none j pos) (tEv G X.K (.lit .non)) := PE.wk pe_non fun σ' H Q ⟨σ, S, hid, w, h⟩ => PoE.here h w.rel rfl
theorem sE_glob (ok : Okx G lvl nm X) {g : Nat} {pos : Pos} (hg : Gl X (nm g)) (hd : (nm g == ("__debug__" : Str)) = false) : PE X (.Name (nm g) pos) (tEv G X.K (.glob g)) := by
  refine ⟨fun pins s σ' H Q I ⟨σ, S, hid, w, h⟩ => ?_⟩
  obtain ⟨v, e, h⟩ := gvalQ_inv h
  have go := ok.gok g
  rw [e] at go
  obtain ⟨u, y, hm, r, rv⟩ := go
  exact (pe_glob hg hm r hd).run pins s σ' H Q I (h.here w.rel rv.const)
theorem sE_bin {op : Operator} {a b : Expr} {ma mb : E} {pos : Pos} (ha : PE X a (tEv G X.K ma)) (hb : PE X b (tEv G X.K mb)) : PE X (.BinOp a op b pos) (tEv G X.K (.bin op ma mb)) :=
  PE.wk (pe_op (op_bin op) ha hb) fun σ' H Q ⟨σ, S, hid, w, h⟩ => (t2 w h).mono fun x' H1 q => q.mono fun y' H2 ⟨S2, x, y, e, w2, r1, r2, z⟩ =>
    ⟨S2, hid, x, y, w2.rel, r1, r2, binV_mono (fun v z => z.after e) z⟩
theorem sE_neg {a : Expr} {ma : E} {pos : Pos} (ha : PE X a (tEv G X.K ma)) : PE X (.UnaryOp .USub a pos) (tEv G X.K (.neg ma)) :=
  PE.wk (pe_un un_neg ha) fun σ' H Q ⟨σ, S, hid, w, h⟩ => (t1 (a := ma) w h).mono fun x' H1 ⟨S1, x, e, w1, r, z⟩ => by
    obtain ⟨i, ei, z⟩ := intQ_inv z
    subst ei
    exact ⟨i, r, (z.after e).here w1.rel rfl⟩
theorem sE_cmp (ok : Okx G lvl nm X) {op : CmpOp} {a b : Expr} {ma mb : E} {pos : Pos} (ha : PE X a (tEv G X.K ma)) (hb : PE X b (tEv G X.K mb)) (hm : behindInMarks op b = false) : PE X (.Compare a [op] [b] pos) (tEv G X.K (.cmp op ma mb)) :=
  PE.wk (pe_cmpR (op_cmp (by have := ok.room.un; omega) op) ha hb hm) fun σ' H Q ⟨σ, S, hid, w, h⟩ => (t2 w h).mono fun x' H1 q => q.mono fun y' H2 ⟨S2, x, y, e, w2, r1, r2, z⟩ =>
    ⟨S2, hid, x, y, w2.rel, r1, r2, cmpV_mono (fun v z => z.after e) z⟩
theorem sT_cmp (ok : Okx G lvl nm X) {op : CmpOp} {a b : Expr} {ma mb : E} {pos : Pos} (ha : PE X a (tEv G X.K ma)) (hb : PE X b (tEv G X.K mb)) (hm : behindInMarks op b = false) : PT X (.Compare a [op] [b] pos) (tTv G X.K (.cmp op ma mb)) :=
  PT.wk (pt_cmpR (op_cmp (by have := ok.room.un; omega) op) ha hb hm) fun σ' H Q ⟨σ, S, hid, w, h⟩ => (t2 w h).mono fun x' H1 q => q.mono fun y' H2 ⟨S2, x, y, e, w2, r1, r2, z⟩ =>
    ⟨S2, hid, x, y, w2.rel, r1, r2, cmpV_mono (fun v z v' H' e' rel' r' => ⟨v, r', (PoB.after e z) H' e' rel'⟩) z⟩
theorem brV_inv {o : Option Bool} {A B : Prop} (h : brV o A B) : (o = some true ∧ A) ∨ (o = some false ∧ B) := by
  match o with
  | some true => exact .inl ⟨rfl, h⟩
  | some false => exact .inr ⟨rfl, h⟩
  | none => exact h.elim
theorem chain_rd (ok : Okx G lvl nm X) {op op' : CmpOp} {ma mb mc : E} {R : Bool → Sto → Prop} {Q : VK} (w : Wd G X.K σ S hid σ' H)
    (hQ : ∀ k S' H', Ext S H S' H' → Rel X.K hid S' H' → R k S' → Q (.bl k) H')
    (h : evE G.c (.chain op op' ma mb mc) σ S fun v S' => ∃ k, v = .bl k ∧ R k S') :
    tChain (r2 X.K fun S x y Q => cmpV S op x y fun k => Q (.bl k)) (r2 X.K fun S x y Q => cmpV S op' x y fun k => Q (.bl k)) (tEv G X.K ma) (tEv G X.K mb) (tEv G X.K mc) σ' H Q := by
  refine (t2 w h).mono fun x' H1 q => q.mono fun y' H2 ⟨S2, x, y, e, w2, r1, r2, z⟩ => ?_
  refine ⟨S2, hid, x, y, w2.rel, r1, r2, cmpV_mono (fun v z v' H' e' rel' r' => ⟨v, r', ?_⟩) z⟩
  have w3 := w2.step e' rel'
  cases v with
  | true =>
    rw [if_pos rfl]
    have z' : evE G.c mc σ S2 (fun zv S3 => cmpV S3 op' y zv fun k2 => ∃ k, Val.bl k2 = .bl k ∧ R k S3) := z
    refine (t1 w3 z').mono fun u' H4 ⟨S4, u, e4, w4, r4, z4⟩ => ?_
    refine ⟨S4, hid, y, u, w4.rel, (r2.keep (e'.keeps hid)).keep (e4.keeps hid), r4, cmpV_mono (fun k z5 v5 H5 e5 rel5 r5 => ?_) z4⟩
    obtain ⟨k', ek, z6⟩ := z5
    cases ek
    rw [show v5 = V.bl k from r5]
    exact hQ k S4 H5 (((e.trans e').trans e4).trans e5) rel5 z6
  | false =>
    rw [if_neg Bool.false_ne_true]
    obtain ⟨k', ek, z6⟩ := (show ∃ k, Val.bl false = .bl k ∧ R k S2 from z)
    cases ek
    exact hQ false S2 H' (e.trans e') rel' z6
theorem chain_val {op op' : CmpOp} {ma mb mc : E} {c : Cxt} {Q : VQ} (h : evE c (.chain op op' ma mb mc) σ S Q) : evE c (.chain op op' ma mb mc) σ S fun v S' => ∃ k, v = .bl k ∧ Q (.bl k) S' :=
  evE_mono (c := c) ma (Q' := fun x S1 => evE c mb σ S1 fun y S2 => cmpV S2 op x y fun k => brV (some k) (evE c mc σ S2 (fun z S3 => cmpV S3 op' y z fun k2 => ∃ k, Val.bl k2 = .bl k ∧ Q (.bl k) S3)) (∃ k, Val.bl false = .bl k ∧ Q (.bl k) S2))
    (fun x S1 q1 => evE_mono mb (fun y S2 q2 => cmpV_mono (fun k q3 => brV_mono (fun q4 => evE_mono mc (fun z S3 q5 => cmpV_mono (fun k2 q6 => ⟨k2, rfl, q6⟩) q5) q4) (fun q4 => ⟨false, rfl, q4⟩) q3) q2) q1) h
theorem sE_chain (ok : Okx G lvl nm X) {op op' : CmpOp} {a b d : Expr} {ma mb md : E} {pos : Pos} (ha : PE X a (tEv G X.K ma)) (hb : PE X b (tEv G X.K mb)) (hd : PE X d (tEv G X.K md)) (hm : lastMarks [op, op'] [b, d] = false) :
    PE X (.Compare a [op, op'] [b, d] pos) (tEv G X.K (.chain op op' ma mb md)) :=
  PE.wk (pe_chain (op_cmp (by have := ok.room.un; omega) op) (op_cmp (by have := ok.room.un; omega) op') ha hb hd hm) fun σ' H Q ⟨σ, S, hid, w, h⟩ =>
    chain_rd ok (R := fun k S' => PoE X.K hid S H Q (.bl k) S') w (fun k S' H' e rel z => z (.bl k) H' e rel rfl) (chain_val h)
theorem sT_chain (ok : Okx G lvl nm X) {op op' : CmpOp} {a b d : Expr} {ma mb md : E} {pos : Pos} (ha : PE X a (tEv G X.K ma)) (hb : PE X b (tEv G X.K mb)) (hd : PE X d (tEv G X.K md)) (hm : lastMarks [op, op'] [b, d] = false) :
    PT X (.Compare a [op, op'] [b, d] pos) (tTv G X.K (.chain op op' ma mb md)) :=
  PT.wk (pt_chain (op_cmp (by have := ok.room.un; omega) op) (op_cmp (by have := ok.room.un; omega) op') ha hb hd hm) fun σ' H Q ⟨σ, S, hid, w, h⟩ =>
    chain_rd ok (R := fun k S' => PoB X.K hid S H Q k S') w (fun k S' H' e rel z => ⟨k, rfl, z H' e rel⟩) (chain_val h)
/-- a value's truth as a test -/
theorem sT_val {a : Expr} {ma : E} (ha : PE X a (tEv G X.K ma)) (he : ∀ whole, isTrue a X.env whole = (do let v ← whole; standAt a.pos; holding [v] (truthy v))) : PT X a (tTv G X.K ma) :=
  PT.wk (pt_truth ha he) fun σ' H Q ⟨σ, S, hid, w, h⟩ => (t1 (a := ma) w h).mono fun x' H1 ⟨S1, x, e, w1, r, z⟩ => by
    obtain ⟨b, eb, z⟩ := optQ_inv z
    exact ⟨b, truV_ok w1.rel r eb, z H1 e w1.rel⟩
theorem sE_not {a : Expr} {ma : E} {pos : Pos} (ha : PE X a (tEv G X.K ma)) : PE X (.UnaryOp .Not a pos) (tEv G X.K (.lnot ma)) :=
  PE.wk (pe_notT ha) fun σ' H Q ⟨σ, S, hid, w, h⟩ => (t1 (a := ma) w h).mono fun x' H1 ⟨S1, x, e, w1, r, z⟩ => by
    obtain ⟨b, eb, z⟩ := optQ_inv z
    exact ⟨b, truV_ok w1.rel r eb, (z.after e).here w1.rel rfl⟩
theorem sT_not {a : Expr} {ma : E} {pos : Pos} (ha : PT X a (tTv G X.K ma)) : PT X (.UnaryOp .Not a pos) (tTv G X.K (.lnot ma)) :=
  PT.wk (pt_not ha) fun σ' H Q ⟨σ, S, hid, w, h⟩ => (tT (a := ma) (R := fun b S' => PoB X.K hid S H Q (!b) S') w h).mono fun b H1 ⟨S1, e, w1, z⟩ => z H1 e w1.rel
theorem sE_and {a b : Expr} {rest : List Expr} {ma mb : E} {pos : Pos} (ha : PE X a (tEv G X.K ma)) (hb : PE X (.BoolOp .And (b :: rest) pos) (tEv G X.K mb)) : PE X (.BoolOp .And (a :: b :: rest) pos) (tEv G X.K (.land ma mb)) :=
  PE.wk (pe_andT ha hb) fun σ' H Q ⟨σ, S, hid, w, h⟩ => (t1 (a := ma) w h).mono fun x' H1 ⟨S1, x, e, w1, r, z⟩ => by
    rcases brV_inv z with ⟨eb, z⟩ | ⟨eb, z⟩
    · refine ⟨true, truV_ok w1.rel r eb, ?_⟩
      rw [if_pos rfl]
      exact ⟨σ, S1, hid, w1, evE_mono mb (fun v S' z => z.after e) z⟩
    · refine ⟨false, truV_ok w1.rel r eb, ?_⟩
      rw [if_neg Bool.false_ne_true]
      exact (z.after e).here w1.rel r
theorem sE_or {a b : Expr} {rest : List Expr} {ma mb : E} {pos : Pos} (ha : PE X a (tEv G X.K ma)) (hb : PE X (.BoolOp .Or (b :: rest) pos) (tEv G X.K mb)) : PE X (.BoolOp .Or (a :: b :: rest) pos) (tEv G X.K (.lor ma mb)) :=
  PE.wk (pe_orT ha hb) fun σ' H Q ⟨σ, S, hid, w, h⟩ => (t1 (a := ma) w h).mono fun x' H1 ⟨S1, x, e, w1, r, z⟩ => by
    rcases brV_inv z with ⟨eb, z⟩ | ⟨eb, z⟩
    · refine ⟨true, truV_ok w1.rel r eb, ?_⟩
      rw [if_pos rfl]
      exact (z.after e).here w1.rel r
    · refine ⟨false, truV_ok w1.rel r eb, ?_⟩
      rw [if_neg Bool.false_ne_true]
      exact ⟨σ, S1, hid, w1, evE_mono mb (fun v S' z => z.after e) z⟩
theorem tst_of {R : Bool → Sto → Prop} {v : Val} {b : Bool} (e : truV S v = some b) (h : tst R v S) : R b S := by
  unfold tst at h
  rw [e] at h
  exact h
theorem sT_and {a b : Expr} {rest : List Expr} {ma mb : E} {pos : Pos} (ha : PT X a (tTv G X.K ma)) (hb : PW X (.BoolOp .And (b :: rest) pos) (tTv G X.K mb)) : PW X (.BoolOp .And (a :: b :: rest) pos) (tTv G X.K (.land ma mb)) :=
  PW.wk (pw_and ha hb) fun σ' H Q ⟨σ, S, hid, w, h⟩ =>
    (tT (a := ma) (R := fun k S1 => brV (some k) (evE G.c mb σ S1 (tst (PoB X.K hid S H Q))) (PoB X.K hid S H Q false S1)) w (evE_mono ma (fun v S1 z => by
      rcases brV_inv z with ⟨eb, z⟩ | ⟨eb, z⟩
      · unfold tst
        rw [eb]
        exact z
      · have z2 := tst_of eb z
        unfold tst
        rw [eb]
        exact z2) h)).mono fun k H1 ⟨S1, e, w1, z⟩ => by
    cases k with
    | true =>
      rw [if_pos rfl]
      exact ⟨σ, S1, hid, w1, evE_mono mb (fun v S' z => tst_mono (fun b S'' z => z.after e) z) z⟩
    | false =>
      rw [if_neg Bool.false_ne_true]
      exact z H1 e w1.rel
theorem sT_or {a b : Expr} {rest : List Expr} {ma mb : E} {pos : Pos} (ha : PT X a (tTv G X.K ma)) (hb : PW X (.BoolOp .Or (b :: rest) pos) (tTv G X.K mb)) : PW X (.BoolOp .Or (a :: b :: rest) pos) (tTv G X.K (.lor ma mb)) :=
  PW.wk (pw_or ha hb) fun σ' H Q ⟨σ, S, hid, w, h⟩ =>
    (tT (a := ma) (R := fun k S1 => brV (some k) (PoB X.K hid S H Q true S1) (evE G.c mb σ S1 (tst (PoB X.K hid S H Q)))) w (evE_mono ma (fun v S1 z => by
      rcases brV_inv z with ⟨eb, z⟩ | ⟨eb, z⟩
      · have z2 := tst_of eb z
        unfold tst
        rw [eb]
        exact z2
      · unfold tst
        rw [eb]
        exact z) h)).mono fun k H1 ⟨S1, e, w1, z⟩ => by
    cases k with
    | true =>
      rw [if_pos rfl]
      exact z H1 e w1.rel
    | false =>
      rw [if_neg Bool.false_ne_true]
      exact ⟨σ, S1, hid, w1, evE_mono mb (fun v S' z => tst_mono (fun b S'' z => z.after e) z) z⟩
theorem sE_ife {t a b : Expr} {mt ma mb : E} {pos : Pos} (ht : PT X t (tTv G X.K mt)) (ha : PE X a (tEv G X.K ma)) (hb : PE X b (tEv G X.K mb)) : PE X (.IfExp t a b pos) (tEv G X.K (.ife mt ma mb)) :=
  PE.wk (pe_ifExp ht ha hb) fun σ' H Q ⟨σ, S, hid, w, h⟩ =>
    (tT (a := mt) (R := fun k S1 => brV (some k) (evE G.c ma σ S1 (PoE X.K hid S H Q)) (evE G.c mb σ S1 (PoE X.K hid S H Q))) w (evE_mono mt (fun v S1 z => by
      rcases brV_inv z with ⟨eb, z⟩ | ⟨eb, z⟩
      · unfold tst
        rw [eb]
        exact z
      · unfold tst
        rw [eb]
        exact z) h)).mono fun k H1 ⟨S1, e, w1, z⟩ => by
    cases k with
    | true =>
      rw [if_pos rfl]
      exact ⟨σ, S1, hid, w1, evE_mono ma (fun v S' z => z.after e) z⟩
    | false =>
      rw [if_neg Bool.false_ne_true]
      exact ⟨σ, S1, hid, w1, evE_mono mb (fun v S' z => z.after e) z⟩
/-! ### rows of arguments, displays, subscripts -/
theorem sA_nil : PA X [] (tAv G X.K .nil) := PA.wk pa_nil fun σ' H Q ⟨σ, S, hid, w, h⟩ => (show PoA X.K hid S H Q [] S from h) [] H (Ext.refl S H) w.rel rfl
theorem sA_cons {e : Expr} {es : List Expr} {me : E} {mr : Es} (he : PE X e (tEv G X.K me)) (hr : PA X es (tAv G X.K mr)) (hs : starEach (e :: es) X.env = (false, eval e X.env) :: starEach es X.env) : PA X (e :: es) (tAv G X.K (.cons me mr)) :=
  PA.wk (pa_cons he hr hs) fun σ' H Q ⟨σ, S, hid, w, h⟩ => (t1 (a := me) w h).mono fun x' H1 ⟨S1, x, e1, w1, r1, z⟩ => (tA (a := mr) w1 z).mono fun xs' H2 ⟨S2, xs, e2, w2, r2, z⟩ =>
    z (x' :: xs') H2 (e1.trans e2) w2.rel ⟨x', xs', rfl, r1.keep (e2.keeps hid), r2⟩
theorem sE_tup {es : List Expr} {ms : Es} {k : Nat} {pos : Pos} (h : PA X es (tAv G X.K ms)) : PE X (.Tuple es k pos) (tEv G X.K (.tup ms)) :=
  PE.wk (pe_tup h) fun σ' H Q ⟨σ, S, hid, w, h⟩ => (tA (a := ms) w h).mono fun xs' H1 ⟨S1, xs, e1, w1, r1, z⟩ =>
    ⟨by rw [← r1.length]; exact z.1, fun p hp => (z.2.after e1).made w1.rel hp (Rv.newT w1.rel hp r1)⟩
theorem sE_lst {es : List Expr} {ms : Es} {pos : Pos} (h : PA X es (tAv G X.K ms)) : PE X (.List es pos) (tEv G X.K (.lst ms)) :=
  PE.wk (pe_lst h) fun σ' H Q ⟨σ, S, hid, w, h⟩ => (tA (a := ms) w h).mono fun xs' H1 ⟨S1, xs, e1, w1, r1, z⟩ =>
    ⟨by rw [← r1.length]; exact z.1, fun p hp => (z.2.after e1).made w1.rel hp (Rv.newL w1.rel hp r1)⟩
theorem sE_idx {a b : Expr} {ma mb : E} {pos : Pos} (ha : PE X a (tEv G X.K ma)) (hb : PE X b (tEv G X.K mb)) (hs : PlainIx b) : PE X (.Subscript a b pos) (tEv G X.K (.idx ma mb)) :=
  PE.wk (pe_ix ix_idx ha hb hs) fun σ' H Q ⟨σ, S, hid, w, h⟩ => (t2 w h).mono fun x' H1 q => q.mono fun y' H2 ⟨S2, x, y, e, w2, r1, r2, z⟩ =>
    ⟨S2, hid, x, y, w2.rel, r1, r2, idxV_mono (fun v z => z.after e) z⟩
def tOv (G : SX) (K : PySem.W.Frag) (e : Eo) : TO := fun σ' H Q => ∃ σ S hid, Wd G K σ S hid σ' H ∧ evI G.c e σ S fun o S' => ∀ H', Ext S H S' H' → Rel K hid S' H' → Q o H'
theorem PO.wk {e : Option Expr} {t t' : TO} (h : PO X e t) (w : ∀ σ H Q, t' σ H Q → t σ H Q) : PO X e t' := ⟨fun pins s σ H Q I q => h.run pins s σ H Q I (w _ _ _ q)⟩
theorem sO_none : PO X none (tOv G X.K .no) := PO.wk po_none fun σ' H Q ⟨σ, S, hid, w, h⟩ => h H (Ext.refl S H) w.rel
theorem sO_some {a : Expr} {ma : E} (ha : PE X a (tEv G X.K ma)) : PO X (some a) (tOv G X.K (.so ma)) := PO.wk (po_some ha) fun σ' H Q ⟨σ, S, hid, w, h⟩ => (t1 (a := ma) w h).mono fun x' H1 ⟨S1, x, e1, w1, r1, z⟩ => by
  obtain ⟨i, ei, z⟩ := intQ_inv z
  subst ei
  exact ⟨i, r1, z H1 e1 w1.rel⟩
theorem tO {a : Eo} {R : Option Int → Sto → Prop} (w : Wd G K σ S hid σ' H) (h : evI G.c a σ S R) : tOv G K a σ' H fun o H1 => ∃ S1, Ext S H S1 H1 ∧ Wd G K σ S1 hid σ' H1 ∧ R o S1 :=
  ⟨σ, S, hid, w, evI_mono a (fun v S' z H' e r => ⟨S', e, w.step e r, z⟩) h⟩
theorem tOv.mono {e : Eo} {Q Q' : Option Int → Hp → Prop} (hQ : ∀ x H, Q x H → Q' x H) (h : tOv G K e σ' H Q) : tOv G K e σ' H Q' := by
  obtain ⟨σ, S, hid, w, h⟩ := h
  exact ⟨σ, S, hid, w, evI_mono e (fun v S' z H' a c => hQ _ _ (z H' a c)) h⟩
theorem sE_slc {a : Expr} {lo hi : Option Expr} {ma : E} {ml mh : Eo} {p2 pos : Pos} (ha : PE X a (tEv G X.K ma)) (hl : PO X lo (tOv G X.K ml)) (hh : PO X hi (tOv G X.K mh)) : PE X (.Subscript a (.Slice lo hi none p2) pos) (tEv G X.K (.slc ma ml mh)) :=
  PE.wk (pe_slice sl_slc ha hl hh) fun σ' H Q ⟨σ, S, hid, w, h⟩ => (t1 (a := ma) w h).mono fun x' H1 ⟨S1, x, e1, w1, r1, z⟩ => (tO (a := ml) w1 z).mono fun l H2 ⟨S2, e2, w2, z⟩ => (tO (a := mh) w2 z).mono fun u H3 ⟨S3, e3, w3, z⟩ =>
    ⟨S3, hid, x, w3.rel, r1.keep ((e2.trans e3).keeps hid), slcV_mono (fun v z => z.after (e1.trans (e2.trans e3))) z⟩
/-! ### calls -/
theorem sE_bf (ok : Okx G lvl nm X) {f : Bf} {x : Str} {id : String} {e : Expr} {es : List Expr} {ms : Es} {p pos : Pos} (hf : ∀ t, f ≠ .isi t) (hc : bfCall f = .builtin id) (hg : Gl X x) (hm : X.mg x = none) (hv : bootBuiltins x = some (.builtin id))
    (ha : PA X (e :: es) (tAv G X.K ms)) (hn : x ≠ "__name__") (hdb : (x == ("__debug__" : Str)) = false) (he : starEach (e :: es) X.env = (false, eval e X.env) :: starEach es X.env) (hpl : (backTo pos (starEach es X.env)).any (·.1) = false) :
    PE X (.Call (.Name x p) (e :: es) [] pos) (tEv G X.K (.bf f ms)) :=
  PE.wk (pe_callB (r := rF X.K fun S vs Q => bfV G.c.D f vs S Q) (by have := bf_call ok.calm (by have := ok.room.un; omega) G.c.D f hf; rw [hc] at this; exact this) hg hm hv ha hn hdb he hpl) fun σ' H Q ⟨σ, S, hid, w, h⟩ => (tA (a := ms) w h).mono fun xs' H1 ⟨S1, xs, e1, w1, r1, z⟩ =>
    ⟨S1, hid, xs, w1.rel, r1, bfV_mono (fun v z => z.after e1) z⟩
theorem sE_bfT (ok : Okx G lvl nm X) {f : Bf} {x : Str} {T : String} {e : Expr} {es : List Expr} {ms : Es} {p pos : Pos} (hf : ∀ t, f ≠ .isi t) (hc : bfCall f = .type T) (hg : Gl X x) (hm : X.mg x = none) (hv : bootBuiltins x = some (.type T))
    (ha : PA X (e :: es) (tAv G X.K ms)) (hn : x ≠ "__name__") (hdb : (x == ("__debug__" : Str)) = false) (he : starEach (e :: es) X.env = (false, eval e X.env) :: starEach es X.env) (hpl : (backTo pos (starEach es X.env)).any (·.1) = false) :
    PE X (.Call (.Name x p) (e :: es) [] pos) (tEv G X.K (.bf f ms)) :=
  PE.wk (pe_callTy (r := rF X.K fun S vs Q => bfV G.c.D f vs S Q) (by have := bf_call ok.calm (by have := ok.room.un; omega) G.c.D f hf; rw [hc] at this; exact this) hg hm hv ha hn hdb he hpl) fun σ' H Q ⟨σ, S, hid, w, h⟩ => (tA (a := ms) w h).mono fun xs' H1 ⟨S1, xs, e1, w1, r1, z⟩ =>
    ⟨S1, hid, xs, w1.rel, r1, bfV_mono (fun v z => z.after e1) z⟩
theorem evEs_one {c : Cxt} {m : E} {R : List Val → Sto → Prop} (h : evEs c (.cons m .nil) σ S R) : evE c m σ S fun v S1 => R [v] S1 := h
theorem sE_isiT {t : Ty} {x : Str} {T : String} {e : Expr} {me : E} {p pos p2 : Pos} (hT : tyN t = some T) (hg : Gl X "isinstance") (hm : X.mg "isinstance" = none) (hg2 : Gl X x) (hm2 : X.mg x = none) (hv2 : bootBuiltins x = some (.type T))
    (he : PE X e (tEv G X.K me)) (hn2 : x ≠ "__name__") (hdb2 : (x == ("__debug__" : Str)) = false) (hst : starEach [e, .Name x p2] X.env = (false, eval e X.env) :: starEach [.Name x p2] X.env) :
    PE X (.Call (.Name "isinstance" p) [e, .Name x p2] [] pos) (tEv G X.K (.bf (.isi t) (.cons me .nil))) :=
  PE.wk (pe_callB call_isi hg hm (by decide +kernel) (pa_cons he (pa_cons (pe_bltn (v := .ty T) hg2 hm2 hv2 rfl hn2 hdb2) pa_nil) hst) (he := hst)) fun σ' H Q ⟨σ, S, hid, w, h⟩ => (t1 (a := me) w (evEs_one h)).mono fun x' H1 ⟨S1, x, e1, w1, r1, z⟩ => by
    obtain ⟨b, eb, z⟩ := optQ_inv (show optQ (isiV G.c.D S1 t x) (fun b => PoE X.K hid S H Q (.bl b) S1) from z)
    obtain ⟨u, ty, k⟩ := isi_ty hT eb r1
    exact ⟨x', .ty T, u, .type T, b, rfl, .ty T, ty, k, (z.after e1).here w1.rel rfl⟩
theorem sE_isiC (ok : Okx G lvl nm X) {g : Nat} {e : Expr} {me : E} {p pos p2 : Pos} (hg : Gl X "isinstance") (hm : X.mg "isinstance" = none) (hg2 : Gl X (nm g))
    (he : PE X e (tEv G X.K me)) (hdb2 : (nm g == ("__debug__" : Str)) = false) (hst : starEach [e, .Name (nm g) p2] X.env = (false, eval e X.env) :: starEach [.Name (nm g) p2] X.env) :
    PE X (.Call (.Name "isinstance" p) [e, .Name (nm g) p2] [] pos) (tEv G X.K (.bf (.isi (.cls g)) (.cons me .nil))) := by
  have go := ok.gok g
  cases q : G.c.D g with
  | cls C fz sp n dfl =>
    rw [q] at go
    obtain ⟨f, fd, ps, k, _, _, _, _, hmC0, co, _⟩ := go
    have hmC : X.mg (nm g) = some (.ref C) := hmC0
    refine PE.wk (pe_callB call_isi hg hm (by decide +kernel) (pa_cons he (pa_cons (pe_glob (v := .ref C) hg2 hmC rfl hdb2) pa_nil) hst) (he := hst)) fun σ' H Q ⟨σ, S, hid, w, h⟩ => (t1 (a := me) w (evEs_one h)).mono fun x' H1 ⟨S1, x, e1, w1, r1, z⟩ => ?_
    obtain ⟨b, eb, z⟩ := optQ_inv (show optQ (isiV G.c.D S1 (.cls g) x) (fun b => PoE X.K hid S H Q (.bl b) S1) from z)
    obtain ⟨u, C', hm', ty, k⟩ := isi_cls w1.rel (ok.gok g) eb r1
    rw [hmC] at hm'
    cases hm'
    exact ⟨x', .ref C, u, .ref C, b, rfl, .own C, ty, k, (z.after e1).here w1.rel rfl⟩
  | _ =>
    refine PE.wk (pe_callB call_isi hg hm (by decide +kernel) (pa_cons he (pa_cons (te := fun _ _ _ => False) ⟨fun _ _ _ _ _ _ z => z.elim⟩ pa_nil) hst) (he := hst)) fun σ' H Q ⟨σ, S, hid, w, h⟩ => (t1 (a := me) w (evEs_one h)).mono fun x' H1 ⟨S1, x, e1, w1, r1, z⟩ => ?_
    obtain ⟨b, eb, z⟩ := optQ_inv (show optQ (isiV G.c.D S1 (.cls g) x) (fun b => PoE X.K hid S H Q (.bl b) S1) from z)
    have eb : isiC (G.c.D g) S1 x = some b := eb
    rw [q] at eb
    cases eb
end
end Li
set_option Elab.async false
set_option linter.all false
set_option maxRecDepth 100000
set_option maxHeartbeats 2000000
/-! LiCall: calls of defs and classes, fields, list.append; comprehensions. -/
namespace Li
open PySem L2
section
variable {X : Cx} {G : SX} {lvl : Nat} {nm : Nat → Str} {σ : Env} {S : Sto} {hid : Hid} {σ' : L2.St} {H : Hp} {K : PySem.W.Frag}
theorem drop_min {α : Type} (l : List α) (dn : Nat) : l.drop (l.length - min dn l.length) = l.drop (l.length - dn) := by
  by_cases h : dn ≤ l.length
  · rw [Nat.min_eq_left h]
  · rw [Nat.min_eq_right (by omega)]
    rw [show l.length - l.length = 0 by omega, show l.length - dn = 0 by omega]
/-- the promise of a def, for arguments that stand -/
theorem sp_of {n : Nat} {sp : ISp} {xs : List Val} {xs' : List V} {S1 : Sto} {H1 : Hp} {Q : VK} (w1 : Wd G K σ S1 hid σ' H1) (e1 : Ext S H S1 H1) (hn : xs.length = n) (r : Rvs K (Mset S1 hid) H1 xs xs') (z : sp.run xs S1 (PoE K hid S H Q) G.c.er) :
    toSp K G.T n sp xs' H1 Q (G.EX K) :=
  ⟨xs, S1, hid, w1.hT, hn, r, w1.rel, sp.mono (fun v S' z => z.after e1) (fun ex S' her cls d H' e' rel' rx => ⟨ex, S', hid, w1.p, w1.ex.trans e', rel', rx, her⟩) z⟩
theorem sE_call (ok : Okx G lvl nm X) {g dn : Nat} {e : Expr} {es : List Expr} {ms : Es} {p pos : Pos} {sp : ISp} {n : Nat} {dfl : List Val} (hD : G.c.D g = .fn sp n dfl) (hg : Gl X (nm g)) (hdb : (nm g == ("__debug__" : Str)) = false)
    (ha : PA X (e :: es) (tAv G X.K ms)) (he : starEach (e :: es) X.env = (false, eval e X.env) :: starEach es X.env) (hpl : (backTo pos (starEach es X.env)).any (·.1) = false) :
    PE X (.Call (.Name (nm g) p) (e :: es) [] pos) (tEv G X.K (.call g ms dn)) := by
  have go := ok.gok g
  rw [hD] at go
  obtain ⟨f, fd, ps, k, hk, hpl2, F, hm, kp, hb⟩ := go
  obtain ⟨ds, dvs, b, hv, rd⟩ := hb (min dn dfl.length) (Nat.min_le_right _ _)
  rw [drop_min] at rd
  refine PE.wk (pe_call (E := G.EX X.K) F (ok.room.mono hk) hg hm kp b hv ok.pas ha hdb he hpl) fun σ' H Q ⟨σ, S, hid, w, h⟩ => (tA (a := ms) w h.2).mono fun xs' H1 ⟨S1, xs, e1, w1, r1, z⟩ => ?_
  rw [hD] at z
  exact sp_of w1 e1 z.1 (r1.append rd.const) z.2
def tKv (G : SX) (K : PySem.W.Frag) (es : Es) : TA := tAv G K es
theorem PK.wk {X : Cx} {e : List Keyword} {t t' : TA} (h : PK X e t) (w : ∀ σ H Q, t' σ H Q → t σ H Q) : PK X e t' := ⟨fun pos pins s σ H Q I q => h.run pos pins s σ H Q I (w _ _ _ q)⟩
theorem sK_nil : PK X [] (tAv G X.K .nil) := PK.wk pk_nil fun σ' H Q ⟨σ, S, hid, w, h⟩ => (show PoA X.K hid S H Q [] S from h) [] H (Ext.refl S H) w.rel rfl
theorem sK_cons {e : Expr} {kws : List Keyword} {nm : Option Str} {kpos : Pos} {me : E} {mr : Es} (he : PE X e (tEv G X.K me)) (hr : PK X kws (tAv G X.K mr)) : PK X (⟨nm, e, kpos⟩ :: kws) (tAv G X.K (.cons me mr)) :=
  PK.wk (pk_cons he hr) fun σ' H Q ⟨σ, S, hid, w, h⟩ => (t1 (a := me) w h).mono fun x' H1 ⟨S1, x, e1, w1, r1, z⟩ => (tA (a := mr) w1 z).mono fun xs' H2 ⟨S2, xs, e2, w2, r2, z⟩ =>
    z (x' :: xs') H2 (e1.trans e2) w2.rel ⟨x', xs', rfl, r1.keep (e2.keeps hid), r2⟩
section
variable {CX : CXT} {k n : Nat} {f C : Addr} {fd : FuncData} {ps ks : List Str} {sp : Sp} {E : XK} {x : Str} {p pos : Pos} {kws : List Keyword} {tk : TA} {g : List Value → List Value → List Value} {gV : List V → List V → List V}
/-- f(k = v, ..) -/
theorem pe_callN0 (F : FnOk X.prog X.w X.K X.mg X.base CX k f fd ps sp) (hr : Room k X.A) (hg : Gl X x) (hm : X.mg x = some (.ref f)) (hk : PySem.W.keepIn X.K (.ref f) = true) (hb : KBn X.K fd ps 0 ks g gV) (hx : Passes CX X E)
    (hkw : PK X kws tk) (hall : (backToKw pos (keywordEach kws X.env)).all (·.1.isSome) = true) (hks : (backToKw pos (keywordEach kws X.env)).filterMap (·.1) = ks) (hdb : (x == ("__debug__" : Str)) = false)
    (hpl : ((backTo pos (starEach [] X.env)).any (·.1) || (backToKw pos (keywordEach kws X.env)).any (·.1.isNone)) = false) :
    PE X (.Call (.Name x p) [] kws pos) (tCallN 0 ks.length sp gV E tNil tk) := by
  refine ⟨fun pins s σ H Q I h => ?_⟩
  refine wpAny_Call_Name_kw (ld_glob I hg hm ?_ hdb)
  refine PySem.W.callWith_KW0 (h₀ := X.base) I.ok.mod.kin hk hall ?_ hpl
  refine thn (hkw.run pos pins s σ H _ I h) fun ws s2 ⟨zs, H2, I2, rz, l1, l2, q2⟩ => ⟨I2.kIn, ?_⟩
  rw [hks]
  exact run_fnN (us := []) (vs := []) F hr hb hx I2 .nil rz rfl l2 q2
end
theorem sE_callk (ok : Okx G lvl nm X) {g : Nat} {e : Expr} {es : List Expr} {kws : List Keyword} {ms mk : Es} {p pos : Pos} {sp : ISp} {n np : Nat} {ks : List Str} {arr : List (Nat ⊕ Val)} (hD : G.c.D g = .fnk sp n np ks arr) (hg : Gl X (nm g)) (hdb : (nm g == ("__debug__" : Str)) = false)
    (ha : PA X (e :: es) (tAv G X.K ms)) (hk : PK X kws (tAv G X.K mk)) (hall : (backToKw pos (keywordEach kws X.env)).all (·.1.isSome) = true) (hks : (backToKw pos (keywordEach kws X.env)).filterMap (·.1) = ks) (he : starEach (e :: es) X.env = (false, eval e X.env) :: starEach es X.env)
    (hpl : ((backTo pos (starEach (e :: es) X.env)).any (·.1) || (backToKw pos (keywordEach kws X.env)).any (·.1.isNone)) = false) :
    PE X (.Call (.Name (nm g) p) (e :: es) kws pos) (tEv G X.K (.callk g ms ks mk)) := by
  have go := ok.gok g
  rw [hD] at go
  obtain ⟨f, fd, ps, k, hk1, hpl2, F, hm, kp, g', gV, hb, hr⟩ := go
  refine PE.wk (pe_callN (E := G.EX X.K) F (ok.room.mono hk1) hg hm kp hb ok.pas ha hk hall hks hdb he hpl) fun σ' H Q ⟨σ, S, hid, w, h⟩ => (tA (a := ms) w h.2).mono fun xs' H1 ⟨S1, xs, e1, w1, r1, z⟩ =>
    (tA (a := mk) w1 z).mono fun ys' H2 ⟨S2, ys, e2, w2, r2, z2⟩ => ?_
  rw [hD] at z2
  obtain ⟨z3, z4, z5, z6⟩ := z2
  exact ⟨by rw [← r1.length]; exact z3, by rw [← r2.length]; exact z4, sp_of w2 (e1.trans e2) (by rw [pickV_len]; exact z5) (hr _ _ _ _ _ _ z3 z4 (r1.keep (e2.keeps hid)) r2) z6⟩
theorem sE_callk0 (ok : Okx G lvl nm X) {g : Nat} {kws : List Keyword} {mk : Es} {p pos : Pos} {sp : ISp} {n np : Nat} {ks : List Str} {arr : List (Nat ⊕ Val)} (hD : G.c.D g = .fnk sp n np ks arr) (hg : Gl X (nm g)) (hdb : (nm g == ("__debug__" : Str)) = false)
    (hk : PK X kws (tAv G X.K mk)) (hall : (backToKw pos (keywordEach kws X.env)).all (·.1.isSome) = true) (hks : (backToKw pos (keywordEach kws X.env)).filterMap (·.1) = ks)
    (hpl : ((backTo pos (starEach [] X.env)).any (·.1) || (backToKw pos (keywordEach kws X.env)).any (·.1.isNone)) = false) :
    PE X (.Call (.Name (nm g) p) [] kws pos) (tEv G X.K (.callk g .nil ks mk)) := by
  by_cases hz : np = 0
  · subst hz
    have go := ok.gok g
    rw [hD] at go
    obtain ⟨f, fd, ps, k, hk1, hpl2, F, hm, kp, g', gV, hb, hr⟩ := go
    refine PE.wk (pe_callN0 (E := G.EX X.K) F (ok.room.mono hk1) hg hm kp hb ok.pas hk hall hks hdb hpl) fun σ' H Q ⟨σ, S, hid, w, h⟩ => (tA (a := mk) w (show evEs G.c mk σ S _ from h.2)).mono fun ys' H2 ⟨S2, ys, e2, w2, r2, z2⟩ => ?_
    rw [hD] at z2
    obtain ⟨z3, z4, z5, z6⟩ := z2
    exact ⟨rfl, by rw [← r2.length]; exact z4, sp_of w2 e2 (by rw [pickV_len]; exact z5) (hr _ _ [] _ [] _ z3 z4 rfl r2) z6⟩
  · refine ⟨fun pins s σ' H Q I ⟨σ, S, hid, w, h⟩ => ?_⟩
    have h1 : isCalk (G.c.D g) ks 0 := h.1
    rw [hD] at h1
    exact absurd h1.2.symm hz
theorem sE_call0 (ok : Okx G lvl nm X) {g dn : Nat} {p pos : Pos} {sp : ISp} {n : Nat} {dfl : List Val} (hD : G.c.D g = .fn sp n dfl) (hg : Gl X (nm g)) (hdb : (nm g == ("__debug__" : Str)) = false) :
    PE X (.Call (.Name (nm g) p) [] [] pos) (tEv G X.K (.call g .nil dn)) := by
  have go := ok.gok g
  rw [hD] at go
  obtain ⟨f, fd, ps, k, hk, hpl2, F, hm, kp, hb⟩ := go
  obtain ⟨ds, dvs, b, hv, rd⟩ := hb (min dn dfl.length) (Nat.min_le_right _ _)
  rw [drop_min] at rd
  refine PE.wk (pe_call0 (E := G.EX X.K) F (ok.room.mono hk) hg hm kp b hv ok.pas hdb) fun σ' H Q ⟨σ, S, hid, w, h⟩ => ?_
  have z : callG (G.c.D g) [] dn S (PoE X.K hid S H Q) G.c.er := h.2
  rw [hD] at z
  exact sp_of w (Ext.refl S H) z.1 (Rvs.append (vs := []) (xs := []) rfl rd.const) z.2
theorem zip_lookup {K : PySem.W.Frag} {M : Addr → Prop} {H : Hp} {f : Str} : ∀ {ns : List Str} {vs : List Val} {xs : List V} {v : Val}, Rvs K M H vs xs → (ns.zip vs).lookup f = some v → ∃ x, (ns.zip xs).lookup f = some x ∧ Rv K M H v x
  | [], _, _, _, _, e => by cases e
  | n :: ns, [], _, _, _, e => by cases e
  | n :: ns, u :: us, _, v, ⟨x, y, ex, h1, h2⟩, e => by
    rw [ex]
    rw [List.zip_cons_cons, List.lookup_cons] at e ⊢
    cases q : f == n with
    | true =>
      rw [q] at e
      cases e
      exact ⟨x, rfl, h1⟩
    | false =>
      rw [q] at e
      exact zip_lookup (ns := ns) h2 e
/-- an instance just made -/
theorem made_rd {C x dx : Addr} {xs : List Val} {xs' : List V} {S1 : Sto} {H1 : Hp} {n : Nat} {sp : ISp} {fz : Bool} {Q : VK} (w1 : Wd G K σ S1 hid σ' H1) (e1 : Ext S H S1 H1) (hn : xs.length + 1 = n) (r : Rvs K (Mset S1 hid) H1 xs xs')
    (z : ∀ x, S1 x = none → sp.run (.adr x :: xs) (S1.set x (.obj C [])) (fun v S' => v = .non ∧ ∃ fs, S' x = some (.obj C fs) ∧ (if fz = true then PoE K hid S H Q (.ins C (fs.map (·.1)) (fs.map (·.2))) (S'.del x) else PoE K hid S H Q (.adr x) S')) G.c.er)
    (hx : H1 x = none) (hdx : H1 dx = none) (ne : dx ≠ x) :
    toSp K G.T n sp (.ref x :: xs') (upd (upd H1 dx (.own x)) x (.ins C dx [])) (fun v H2 => v = .non ∧ Q (.ref x) H2) (G.EX K) := by
  have hx2 : upd H1 dx (.own x) x = none := by rw [upd_ne ne.symm]; exact hx
  have rel1 := w1.rel.new (o := .own x) hdx
  have rel2 : Rel K hid (S1.set x (.obj C [])) (upd (upd H1 dx (.own x)) x (.ins C dx [])) := rel1.cell hx2 ⟨dx, [], upd_same, rfl⟩
  have ee : Ext S1 H1 (S1.set x (.obj C [])) (upd (upd H1 dx (.own x)) x (.ins C dx [])) := (Ext.new S1 hdx).trans (Ext.cell hx2)
  refine ⟨.adr x :: xs, S1.set x (.obj C []), hid, w1.hT, hn, ⟨_, _, rfl, rfl, r.keep (ee.keeps hid)⟩, rel2, sp.mono (fun v S' q => ?_) (fun ex S' her cls d H' e' rel' rx => ⟨ex, S', hid, w1.p, w1.ex.trans (ee.trans e'), rel', rx, her⟩) (z x (w1.rel.free hx))⟩
  intro v' H' e' rel' rv
  obtain ⟨ev, fs, hS, q⟩ := q
  subst ev
  refine ⟨rv, ?_⟩
  have e2 := e1.trans (ee.trans e')
  by_cases hf : fz = true
  · rw [if_pos hf] at q
    refine q (.ref x) H' (e2.trans (Ext.del S' H' x)) (rel'.del x) ?_
    obtain ⟨dx', ys, h1, h2⟩ := rel'.cells x _ hS
    refine ⟨x, dx', ys, rfl, h1, fun m => ?_, by rw [List.length_map, List.length_map], h2.keep keeps_del⟩
    rcases m with m | m
    · exact m Sto.del_same
    · exact w1.rel.nohid hx m
  · rw [if_neg hf] at q
    exact q (.ref x) H' e2 rel' rfl
theorem sE_make (ok : Okx G lvl nm X) {g dn : Nat} {e : Expr} {es : List Expr} {ms : Es} {p pos : Pos} {C : Addr} {fz : Bool} {sp : ISp} {n : Nat} {dfl : List Val} (hD : G.c.D g = .cls C fz sp n dfl) (hg : Gl X (nm g)) (hdb : (nm g == ("__debug__" : Str)) = false)
    (ha : PA X (e :: es) (tAv G X.K ms)) (he : starEach (e :: es) X.env = (false, eval e X.env) :: starEach es X.env) (hpl : (backTo pos (starEach es X.env)).any (·.1) = false) :
    PE X (.Call (.Name (nm g) p) (e :: es) [] pos) (tEv G X.K (.call g ms dn)) := by
  have go := ok.gok g
  rw [hD] at go
  obtain ⟨f, fd, ps, k, hk, hpl2, M, F, hm, co, hb⟩ := go
  obtain ⟨ds, dvs, b, hv, rd⟩ := hb (min dn dfl.length) (Nat.min_le_right _ _)
  rw [drop_min] at rd
  refine PE.wk (pe_make (E := G.EX X.K) M F (ok.room.mono hk) hg hm b hv ok.pas ha hdb he hpl) fun σ' H Q ⟨σ, S, hid, w, h⟩ => (tA (a := ms) w h.2).mono fun xs' H1 ⟨S1, xs, e1, w1, r1, z⟩ x dx hx hdx ne => ?_
  rw [hD] at z
  exact made_rd w1 e1 z.1 (r1.append rd.const) z.2 hx hdx ne
theorem sE_make0 (ok : Okx G lvl nm X) {g dn : Nat} {p pos : Pos} {C : Addr} {fz : Bool} {sp : ISp} {n : Nat} {dfl : List Val} (hD : G.c.D g = .cls C fz sp n dfl) (hg : Gl X (nm g)) (hdb : (nm g == ("__debug__" : Str)) = false) :
    PE X (.Call (.Name (nm g) p) [] [] pos) (tEv G X.K (.call g .nil dn)) := by
  have go := ok.gok g
  rw [hD] at go
  obtain ⟨f, fd, ps, k, hk, hpl2, M, F, hm, co, hb⟩ := go
  obtain ⟨ds, dvs, b, hv, rd⟩ := hb (min dn dfl.length) (Nat.min_le_right _ _)
  rw [drop_min] at rd
  refine PE.wk (pe_make0 (E := G.EX X.K) M F (ok.room.mono hk) hg hm b hv ok.pas hdb) fun σ' H Q ⟨σ, S, hid, w, h⟩ x dx hx hdx ne => ?_
  have z : callG (G.c.D g) [] dn S (PoE X.K hid S H Q) G.c.er := h.2
  rw [hD] at z
  exact made_rd w (Ext.refl S H) z.1 (Rvs.append (vs := []) (xs := []) rfl rd.const) z.2 hx hdx ne
theorem made_rdK {C x dx : Addr} {fs' : List V} {us : List Val} {S2 : Sto} {H2 : Hp} {n : Nat} {sp : ISp} {fz : Bool} {Q : VK} (w2 : Wd G K σ S2 hid σ' H2) (e2 : Ext S H S2 H2) (hn : us.length + 1 = n)
    (z : ∀ x, S2 x = none → sp.run (.adr x :: us) (S2.set x (.obj C [])) (fun v S' => v = .non ∧ ∃ fs, S' x = some (.obj C fs) ∧ (if fz = true then PoE K hid S H Q (.ins C (fs.map (·.1)) (fs.map (·.2))) (S'.del x) else PoE K hid S H Q (.adr x) S')) G.c.er)
    (hr : ∀ M H', Keeps (Mset S2 hid) H2 M H' → Rvs K M H' (.adr x :: us) fs') (hx : H2 x = none) (hdx : H2 dx = none) (ne : dx ≠ x) :
    toSp K G.T n sp fs' (upd (upd H2 dx (.own x)) x (.ins C dx [])) (fun v H3 => v = .non ∧ Q (.ref x) H3) (G.EX K) := by
  have q := hr _ _ (Keeps.mk fun p o h _ n => ⟨h, n⟩ : Keeps (Mset S2 hid) H2 (Mset S2 hid) H2)
  obtain ⟨x', us', ef, ex, ru⟩ := q
  cases (show x' = V.ref x from ex)
  subst ef
  exact made_rd w2 e2 hn ru z hx hdx ne
theorem sE_clk (ok : Okx G lvl nm X) {g : Nat} {e : Expr} {es : List Expr} {kws : List Keyword} {ms mk : Es} {p pos : Pos} {C : Addr} {fz : Bool} {sp : ISp} {n np : Nat} {ks : List Str} {arr : List (Nat ⊕ Val)} (hD : G.c.D g = .clk C fz sp n np ks arr) (hg : Gl X (nm g)) (hdb : (nm g == ("__debug__" : Str)) = false)
    (ha : PA X (e :: es) (tAv G X.K ms)) (hk : PK X kws (tAv G X.K mk)) (hall : (backToKw pos (keywordEach kws X.env)).all (·.1.isSome) = true) (hks : (backToKw pos (keywordEach kws X.env)).filterMap (·.1) = ks) (he : starEach (e :: es) X.env = (false, eval e X.env) :: starEach es X.env)
    (hpl : ((backTo pos (starEach (e :: es) X.env)).any (·.1) || (backToKw pos (keywordEach kws X.env)).any (·.1.isNone)) = false) :
    PE X (.Call (.Name (nm g) p) (e :: es) kws pos) (tEv G X.K (.callk g ms ks mk)) := by
  have go := ok.gok g
  rw [hD] at go
  obtain ⟨f, fd, ps, k, hk1, hpl2, M, F, hm, g', gV, hb, hr⟩ := go
  refine PE.wk (pe_makeN (E := G.EX X.K) M F (ok.room.mono hk1) hg hm hb ok.pas ha hk hall hks hdb he hpl) fun σ' H Q ⟨σ, S, hid, w, h⟩ => (tA (a := ms) w h.2).mono fun xs' H1 ⟨S1, xs, e1, w1, r1, z⟩ =>
    (tA (a := mk) w1 z).mono fun ys' H2 ⟨S2, ys, e2, w2, r2, z2⟩ => ?_
  rw [hD] at z2
  obtain ⟨z3, z4, z5, z6⟩ := z2
  refine ⟨by rw [← r1.length]; exact z3, by rw [← r2.length]; exact z4, fun x dx hx hdx ne => made_rdK w2 (e1.trans e2) (by rw [pickV_len]; exact z5) z6 (fun M' H' kp => ?_) hx hdx ne⟩
  have q := hr M' H' (.adr x :: xs) ys (.ref x :: xs') ys' (by rw [List.length_cons, z3]) z4 ⟨_, _, rfl, rfl, (r1.keep (e2.keeps hid)).keep kp⟩ (r2.keep kp)
  rw [List.cons_append] at q
  rw [← pickV_up (x := .adr x) arr]
  exact q
theorem sE_clk0 (ok : Okx G lvl nm X) {g : Nat} {kws : List Keyword} {mk : Es} {p pos : Pos} {C : Addr} {fz : Bool} {sp : ISp} {n np : Nat} {ks : List Str} {arr : List (Nat ⊕ Val)} (hD : G.c.D g = .clk C fz sp n np ks arr) (hg : Gl X (nm g)) (hdb : (nm g == ("__debug__" : Str)) = false)
    (hk : PK X kws (tAv G X.K mk)) (hall : (backToKw pos (keywordEach kws X.env)).all (·.1.isSome) = true) (hks : (backToKw pos (keywordEach kws X.env)).filterMap (·.1) = ks)
    (hpl : ((backTo pos (starEach [] X.env)).any (·.1) || (backToKw pos (keywordEach kws X.env)).any (·.1.isNone)) = false) :
    PE X (.Call (.Name (nm g) p) [] kws pos) (tEv G X.K (.callk g .nil ks mk)) := by
  by_cases hz : np = 0
  · subst hz
    have go := ok.gok g
    rw [hD] at go
    obtain ⟨f, fd, ps, k, hk1, hpl2, M, F, hm, g', gV, hb, hr⟩ := go
    refine PE.wk (pe_makeK0 (E := G.EX X.K) M F (ok.room.mono hk1) hg hm hb ok.pas hk hall hks hdb hpl) fun σ' H Q ⟨σ, S, hid, w, h⟩ => (tA (a := mk) w (show evEs G.c mk σ S _ from h.2)).mono fun ys' H2 ⟨S2, ys, e2, w2, r2, z2⟩ => ?_
    rw [hD] at z2
    obtain ⟨z3, z4, z5, z6⟩ := z2
    refine ⟨rfl, by rw [← r2.length]; exact z4, fun x dx hx hdx ne => made_rdK w2 e2 (by rw [pickV_len]; exact z5) z6 (fun M' H' kp => ?_) hx hdx ne⟩
    have q := hr M' H' [.adr x] ys [.ref x] ys' rfl z4 ⟨_, _, rfl, rfl, rfl⟩ (r2.keep kp)
    rw [List.cons_append] at q
    rw [← pickV_up (x := .adr x) arr]
    exact q
  · refine ⟨fun pins s σ' H Q I ⟨σ, S, hid, w, h⟩ => ?_⟩
    have h1 : isCalk (G.c.D g) ks 0 := h.1
    rw [hD] at h1
    exact absurd h1.2.symm hz
theorem objL {fs : List (Str × Val)} {f : Str} : fs.lookup f = ((fs.map (·.1)).zip (fs.map (·.2))).lookup f := by
  congr 1
  induction fs with
  | nil => rfl
  | cons a r ih => rw [List.map_cons, List.map_cons, List.zip_cons_cons, ← ih]
theorem sE_attr (ok : Okx G lvl nm X) {o : Expr} {mo : E} {f : Str} {pos : Pos} (ho : PE X o (tEv G X.K mo)) (hb : attributeBase o f X.env (eval o X.env) = eval o X.env) : PE X (.Attribute o f pos) (tEv G X.K (.attr mo f)) :=
  PE.wk (pe_fld ho hb) fun σ' H Q ⟨σ, S, hid, w, h⟩ => (t1 (a := mo) w h).mono fun x' H1 ⟨S1, x, e1, w1, r1, z⟩ => by
    have zz : fldV G.c.A S1 f (fun v => PoE X.K hid S H Q v S1) x := z
    clear z
    unfold fldV at zz
    split at zz
    · rename_i C ns vs
      have z := zz
      obtain ⟨v, ev, q⟩ := optQ_inv z.2
      obtain ⟨p, dx, xs, ex, h1, _, _, h4⟩ := r1
      obtain ⟨y, ey, ry⟩ := zip_lookup h4 ev
      obtain ⟨c1, c2⟩ := ok.att C f z.1
      exact ⟨p, C, dx, _, y, ex, h1, c1, c2, ey, (q.after e1).here w1.rel ry⟩
    · rename_i a
      obtain ⟨C, fs, hS, zA, z⟩ := objQ_inv zz
      obtain ⟨v, ev, q⟩ := optQ_inv z
      obtain ⟨dx, xs, h1, h4⟩ := w1.rel.cells a _ hS
      rw [objL] at ev
      obtain ⟨y, ey, ry⟩ := zip_lookup h4 ev
      obtain ⟨c1, c2⟩ := ok.att C f zA
      exact ⟨a, C, dx, _, y, r1, h1, c1, c2, ey, (q.after e1).here w1.rel ry⟩
    · exact zz.elim
/-- methods of lists that are cells -/
theorem cel_rd {x : Val} {x' : V} {S1 : Sto} {H1 : Hp} (w1 : Wd G K σ S1 hid σ' H1) (r1 : Rv K (Mset S1 hid) H1 x x') (z : adrQ x fun a => celQ S1 a fun _ => True) : ∃ a xs, x = .adr a ∧ x' = .ref a ∧ H1 a = some (.lst xs) := by
  obtain ⟨a, ea, z1⟩ := adrQ_inv z
  obtain ⟨us, hS, _⟩ := celQ_inv z1
  subst ea
  obtain ⟨xs, h1, h2⟩ := w1.rel.cells a _ hS
  exact ⟨a, xs, rfl, r1, h1⟩
theorem bm_put {a : Addr} {us vs : List Val} {ys : List V} {v : Val} {v' : V} {S2 : Sto} {H2 : Hp} {Q : VK} (w2 : Wd G K σ S2 hid σ' H2) (e2 : Ext S H S2 H2) (hS : S2 a = some (.lst us)) (r : Rvs K (Mset S2 hid) H2 vs ys) (rv : Rv K (Mset S2 hid) H2 v v') (z : PoE K hid S H Q v (S2.set a (.lst vs))) :
    Q v' (upd H2 a (.lst ys)) :=
  z v' _ (e2.trans (Ext.put hS)) (w2.rel.put hS ⟨_, upd_same, r.keep (keeps_put hS)⟩) (rv.keep (keeps_put hS))
theorem bm_rd {m : Bm} {name : Str} {id : String} {rM : V → List V → Hp → VK → Prop} {o e : Expr} {es : List Expr} {mo : E} {ms : Es} {apos cpos : Pos} (hmP : ∀ x S, bmP m x S → adrQ x fun a => celQ S a fun _ => True) (slot : Slot "list" name id) (hty : typeOf (.builtin id) = pure (.type "method_descriptor")) (hm : MtR X id rM) (ho : PE X o (tEv G X.K mo)) (ha : PA X (e :: es) (tAv G X.K ms))
    (hbase : attributeBase o name X.env (eval o X.env) = eval o X.env)
    (hfew : ((backTo cpos (starEach (e :: es) X.env)).all (fun x => !x.1) && (backToKw cpos (keywordEach [] X.env)).all (fun x => x.1.isSome)
      && decide ((e :: es).length + ([] : List Keyword).length + (if ([] : List Keyword).isEmpty then 0 else 1) < 30)) = true)
    (hline : (apos.endLine == cpos.line) = true) (hs : starEach (e :: es) X.env = (false, eval e X.env) :: starEach es X.env) (hplain : (backTo cpos (starEach es X.env)).any (·.1) = false)
    (go : ∀ {σ σ' S H S2 H2 hid a us us' Q}, Wd G X.K σ S2 hid σ' H2 → Ext S H S2 H2 → Rvs X.K (Mset S2 hid) H2 us us' → bmV m (.adr a) us S2 (PoE X.K hid S H Q) → rM (.ref a) us' H2 Q) :
    PE X (.Call (.Attribute o name apos) (e :: es) [] cpos) (tEv G X.K (.bm m mo ms)) :=
  PE.wk (pe_bm PySem.F.plainAttrs_list slot hty hm ho ha hbase hfew hline hs hplain) fun σ' H Q ⟨σ, S, hid, w, h⟩ => (t1 (a := mo) w h).mono fun x' H1 ⟨S1, x, e1, w1, r1, z⟩ => by
    obtain ⟨a, xs, ex, ex', h1⟩ := cel_rd w1 r1 (hmP _ _ z.1)
    subst ex ex'
    exact ⟨.inl ⟨rfl, xs, SqL.of h1⟩, (tA (a := ms) w1 z.2).mono fun ys' H2 ⟨S2, ys, e2, w2, r2, z2⟩ => go w2 (e1.trans e2) r2 z2⟩
section
variable {o e : Expr} {es : List Expr} {mo : E} {ms : Es} {apos cpos : Pos} (ho : PE X o (tEv G X.K mo)) (ha : PA X (e :: es) (tAv G X.K ms))
    (hfew : ((backTo cpos (starEach (e :: es) X.env)).all (fun x => !x.1) && (backToKw cpos (keywordEach [] X.env)).all (fun x => x.1.isSome)
      && decide ((e :: es).length + ([] : List Keyword).length + (if ([] : List Keyword).isEmpty then 0 else 1) < 30)) = true)
    (hline : (apos.endLine == cpos.line) = true) (hs : starEach (e :: es) X.env = (false, eval e X.env) :: starEach es X.env) (hplain : (backTo cpos (starEach es X.env)).any (·.1) = false)
include ho ha hfew hline hs hplain
theorem sE_append (hbase : attributeBase o "append" X.env (eval o X.env) = eval o X.env) : PE X (.Call (.Attribute o "append" apos) (e :: es) [] cpos) (tEv G X.K (.bm .append mo ms)) := by
  refine bm_rd (m := .append) (fun _ _ h => h) PySem.F.slot_list_append PySem.F.type_list_append mt_append ho ha hbase hfew hline hs hplain fun {σ σ' S H S2 H2 hid a us us' Q} w2 e2 r2 z2 => ?_
  unfold bmV at z2
  split at z2 <;> first
    | (rename_i hm; cases hm; done)
    | exact z2.elim
    | skip
  rename_i v _
  obtain ⟨us3, hS', z4⟩ := celQ_inv (show celQ S2 a _ from z2)
  obtain ⟨xs2, h12, h22⟩ := w2.rel.cells a _ hS'
  obtain ⟨y, ey, ry⟩ := Rvs.one r2
  exact ⟨a, xs2, y, rfl, ey, h12, by rw [← h22.length]; exact z4.1, bm_put w2 e2 hS' (h22.append (show Rvs X.K _ H2 [v] [y] from ⟨y, [], rfl, ry, rfl⟩)) (show Rv X.K (Mset S2 hid) H2 .non .non from rfl) z4.2⟩
theorem sE_popAt (hbase : attributeBase o "pop" X.env (eval o X.env) = eval o X.env) : PE X (.Call (.Attribute o "pop" apos) (e :: es) [] cpos) (tEv G X.K (.bm .pop mo ms)) := by
  refine bm_rd (m := .pop) (rM := fun x vs H Q => rPop x vs H Q ∨ rPopAt x vs H Q) (fun _ _ h => h) PySem.F.slot_list_pop PySem.F.type_list_pop (fun pins s σ H x xs v us Q I r rs z => z.elim (mt_pop pins s σ H x xs v us Q I r rs) (mt_popAt pins s σ H x xs v us Q I r rs)) ho ha hbase hfew hline hs hplain fun {σ σ' S H S2 H2 hid a us us' Q} w2 e2 r2 z2 => ?_
  unfold bmV at z2
  split at z2 <;> first
    | (rename_i hm; cases hm; done)
    | exact z2.elim
    | skip
  · obtain ⟨us3, hS', z4⟩ := celQ_inv (show celQ S2 a _ from z2)
    obtain ⟨v, ev, z5⟩ := optQ_inv z4
    obtain ⟨xs2, h12, h22⟩ := w2.rel.cells a _ hS'
    obtain ⟨y, ey, ry⟩ := h22.get ev
    rw [h22.length] at ey
    exact .inl ⟨a, xs2, y, rfl, r2, h12, ey, bm_put w2 e2 hS' (by rw [List.dropLast_eq_take, List.dropLast_eq_take, h22.length]; exact h22.take _) ry z5⟩
  · rename_i k _
    obtain ⟨us3, hS', z4⟩ := celQ_inv (show celQ S2 a _ from z2)
    obtain ⟨i, ei, z5⟩ := intQ_inv z4
    subst ei
    obtain ⟨j, ej, z6⟩ := optQ_inv z5.2
    obtain ⟨v, ev, z7⟩ := optQ_inv z6
    obtain ⟨xs2, h12, h22⟩ := w2.rel.cells a _ hS'
    obtain ⟨y, ey, ry⟩ := h22.get ev
    obtain ⟨q, eq, rq⟩ := Rvs.one r2
    cases (show q = V.int i from rq)
    rw [h22.length] at ej
    refine .inr ⟨a, xs2, i, j, y, rfl, eq, h12, z5.1.1, z5.1.2, ej, ey, bm_put w2 e2 hS' ?_ ry z7⟩
    rw [List.eraseIdx_eq_take_drop_succ, List.eraseIdx_eq_take_drop_succ]
    exact (h22.take j).append (h22.drop (j + 1))
theorem sE_insert (hbase : attributeBase o "insert" X.env (eval o X.env) = eval o X.env) : PE X (.Call (.Attribute o "insert" apos) (e :: es) [] cpos) (tEv G X.K (.bm .insert mo ms)) := by
  refine bm_rd (m := .insert) (fun _ _ h => h) PySem.F.slot_list_insert PySem.F.type_list_insert mt_insert ho ha hbase hfew hline hs hplain fun {σ σ' S H S2 H2 hid a us us' Q} w2 e2 r2 z2 => ?_
  unfold bmV at z2
  split at z2 <;> first
    | (rename_i hm; cases hm; done)
    | exact z2.elim
    | skip
  rename_i k v _
  obtain ⟨us3, hS', z4⟩ := celQ_inv (show celQ S2 a _ from z2)
  obtain ⟨i, ei, z5⟩ := intQ_inv z4
  subst ei
  obtain ⟨xs2, h12, h22⟩ := w2.rel.cells a _ hS'
  obtain ⟨q, y, eq, rq, ry⟩ := Rvs.two r2
  cases (show q = V.int i from rq)
  exact ⟨a, xs2, i, y, rfl, eq, h12, by rw [← h22.length]; exact z5.1.1, z5.1.2.1, z5.1.2.2, bm_put w2 e2 hS' (((h22.take _).append (show Rvs X.K _ H2 [v] [y] from ⟨y, [], rfl, ry, rfl⟩)).append (h22.drop _)) (show Rv X.K (Mset S2 hid) H2 .non .non from rfl) z5.2⟩
theorem sE_extend (hbase : attributeBase o "extend" X.env (eval o X.env) = eval o X.env) : PE X (.Call (.Attribute o "extend" apos) (e :: es) [] cpos) (tEv G X.K (.bm .extend mo ms)) := by
  refine bm_rd (m := .extend) (fun _ _ h => h) PySem.F.slot_list_extend PySem.F.type_list_extend mt_extend ho ha hbase hfew hline hs hplain fun {σ σ' S H S2 H2 hid a us us' Q} w2 e2 r2 z2 => ?_
  unfold bmV at z2
  split at z2 <;> first
    | (rename_i hm; cases hm; done)
    | exact z2.elim
    | skip
  rename_i v _
  obtain ⟨us3, hS', z4⟩ := celQ_inv (show celQ S2 a _ from z2)
  obtain ⟨ws, ev, z5⟩ := lstQ_inv z4
  subst ev
  obtain ⟨xs2, h12, h22⟩ := w2.rel.cells a _ hS'
  obtain ⟨q, eq, rq⟩ := Rvs.one r2
  obtain ⟨p, ys, ep, h1, h2, h3⟩ := rq
  subst ep
  exact ⟨a, p, xs2, ys, rfl, eq, h12, h1, by rw [← h22.length, ← h3.length]; exact z5.1, bm_put w2 e2 hS' (h22.append h3) (show Rv X.K (Mset S2 hid) H2 .non .non from rfl) z5.2⟩
end
theorem sE_pop0 {o : Expr} {mo : E} {apos cpos : Pos} (ho : PE X o (tEv G X.K mo)) (hline : (apos.endLine == cpos.line) = true) (hbase : attributeBase o "pop" X.env (eval o X.env) = eval o X.env) : PE X (.Call (.Attribute o "pop" apos) [] [] cpos) (tEv G X.K (.bm .pop mo .nil)) :=
  PE.wk (pe_bm0 PySem.F.plainAttrs_list PySem.F.slot_list_pop PySem.F.type_list_pop mt_pop ho hbase hline) fun σ' H Q ⟨σ, S, hid, w, h⟩ => (t1 (a := mo) w h).mono fun x' H1 ⟨S1, x, e1, w1, r1, z⟩ => by
    obtain ⟨a, xs, ex, ex', h1⟩ := cel_rd w1 r1 z.1
    subst ex ex'
    refine ⟨.inl ⟨rfl, xs, SqL.of h1⟩, ?_⟩
    obtain ⟨us3, hS', z4⟩ := celQ_inv (show celQ S1 a _ from z.2)
    obtain ⟨v, ev, z5⟩ := optQ_inv z4
    obtain ⟨xs2, h12, h22⟩ := w1.rel.cells a _ hS'
    obtain ⟨y, ey, ry⟩ := h22.get ev
    rw [h22.length] at ey
    exact ⟨a, xs2, y, rfl, rfl, h12, ey, bm_put w1 e1 hS' (by rw [List.dropLast_eq_take, List.dropLast_eq_take, h22.length]; exact h22.take _) ry z5⟩
end
end Li
set_option Elab.async false
set_option linter.all false
set_option maxRecDepth 100000
set_option maxHeartbeats 2000000
/-! LiIt: what a loop or a comprehension walks; targets; comprehensions. -/
namespace Li
open PySem L2
/-! ### targets -/
def gsOf : List Nat → TGs
  | [] => gNil
  | i :: r => gCons (gName i) (gsOf r)
def gOf (K : PySem.W.Frag) : Tg → TG
  | .one i => gName i
  | .many ts => gTup K ts.length (gsOf ts)
def tgs : Tg → List Nat
  | .one i => [i]
  | .many ts => ts
theorem tupQ_inv {v : Val} {Q : List Val → Prop} (h : tupQ v Q) : ∃ vs, v = .tup vs ∧ Q vs := by
  cases v <;> first
    | exact ⟨_, rfl, h⟩
    | exact h.elim
theorem wipe_in {σ : L2.St} {i : Nat} : ∀ {vs : List Nat}, i ∈ vs → (L2.wipe σ vs)[i]? = if i < σ.length then some none else none
  | v :: vs, h => by
    show ((L2.wipe σ vs).set v none)[i]? = _
    by_cases e : v = i
    · subst e
      by_cases hl : v < σ.length
      · rw [List.getElem?_set_self (by rw [L2.wipe_length]; exact hl), if_pos hl]
      · rw [if_neg hl, List.getElem?_eq_none (by rw [List.length_set, L2.wipe_length]; omega)]
    · rw [List.getElem?_set_ne e]
      rcases List.mem_cons.mp h with q | q
      · exact absurd q.symm e
      · exact wipe_in q
theorem wipe_off {σ : L2.St} {i : Nat} : ∀ {vs : List Nat}, i ∉ vs → (L2.wipe σ vs)[i]? = σ[i]?
  | [], _ => rfl
  | v :: vs, h => by
    show ((L2.wipe σ vs).set v none)[i]? = _
    rw [List.getElem?_set_ne fun (e : v = i) => h (by rw [e]; exact List.mem_cons_self)]
    exact wipe_off fun q => h (List.mem_cons_of_mem _ q)
theorem wipe_eq {σ τ : L2.St} {vs : List Nat} (hl : σ.length = τ.length) (h : ∀ i, i ∉ vs → σ[i]? = τ[i]?) : L2.wipe σ vs = L2.wipe τ vs := by
  apply List.ext_getElem?
  intro i
  by_cases hi : i ∈ vs
  · rw [wipe_in hi, wipe_in hi, hl]
  · rw [wipe_off hi, wipe_off hi, h i hi]
/-- what a target stores -/
structure Put (K : PySem.W.Frag) (M : Addr → Prop) (H : Hp) (ts : List Nat) (σ' : L2.St) (σ2 : Env) (σ2' : L2.St) : Prop where
  env : Renv K M H σ2 σ2'
  len : σ2'.length = σ'.length
  out : ∀ i, i ∉ ts → σ2'[i]? = σ'[i]?
theorem asgs_rd {K : PySem.W.Frag} {M : Addr → Prop} {H : Hp} {k : Env → Prop} {Q : L2.St → Hp → Prop} : ∀ {ts : List Nat} {vs : List Val} {xs : List V} {σ : Env} {σ' : L2.St}, asgs ts vs σ k → Renv K M H σ σ' → Rvs K M H vs xs →
    (∀ σ2 σ2', k σ2 → Put K M H ts σ' σ2 σ2' → Q σ2' H) → gsOf ts xs σ' H Q ∧ xs.length = ts.length
  | [], [], xs, σ, σ', h, e, r, q => by
    cases (show xs = [] from r)
    exact ⟨⟨rfl, q σ σ' h ⟨e, rfl, fun _ _ => rfl⟩⟩, rfl⟩
  | [], v :: vs, xs, σ, σ', h, e, r, q => h.elim
  | t :: ts, [], xs, σ, σ', h, e, r, q => h.elim
  | t :: ts, v :: vs, xs, σ, σ', h, e, ⟨x, y, ex, r1, r2⟩, q => by
    obtain ⟨h1, h2⟩ := asgs_rd (ts := ts) (vs := vs) (xs := y) (σ := σ.set t (some v)) (σ' := σ'.set t (some x)) h (e.set t r1) r2 (Q := Q) fun σ2 σ2' hk p =>
      q σ2 σ2' hk ⟨p.env, by rw [p.len, List.length_set], fun i hi => by
        rw [p.out i fun z => hi (List.mem_cons_of_mem _ z), List.getElem?_set_ne fun (z : t = i) => hi (by rw [z]; exact List.mem_cons_self)]⟩
    exact ⟨⟨x, y, ex, h1⟩, by rw [ex, List.length_cons, List.length_cons, h2]⟩
theorem asg_rd {K : PySem.W.Frag} {M : Addr → Prop} {H : Hp} {k : Env → Prop} {Q : L2.St → Hp → Prop} {t : Tg} {v : Val} {x : V} {σ : Env} {σ' : L2.St} (h : asg t v σ k) (e : Renv K M H σ σ') (r : Rv K M H v x)
    (q : ∀ σ2 σ2', k σ2 → Put K M H (tgs t) σ' σ2 σ2' → Q σ2' H) : gOf K t x σ' H Q := by
  cases t with
  | one i => exact q _ _ h ⟨e.set i r, by rw [List.length_set], fun j hj => List.getElem?_set_ne fun (z : i = j) => hj (by rw [z]; exact List.mem_cons_self)⟩
  | many ts =>
    obtain ⟨vs, ev, h⟩ := tupQ_inv h
    subst ev
    obtain ⟨p, xs, ex, q1, s1⟩ := r.seqT
    obtain ⟨h1, h2⟩ := asgs_rd h e s1 q
    exact ⟨p, xs, ex, q1, h2, h1⟩
/-! ### what is walked -/
structure Feeds (K : PySem.W.Frag) (hid : Hid) (S1 : Sto) (H1 : Hp) (J : L2.It) (items : List Val) (chk : Sto → Prop) : Prop where
  go : ∀ {S2 H2 hid2}, (∀ p, hid2 p → hid p ∨ H1 p = none) → Ext S1 H1 S2 H2 → Rel K hid2 S2 H2 → chk S2 → ∀ {i v}, items[i]? = some v →
    J.go i H2 ∧ ∀ x H3, J.yld i H2 x H3 → Ext S2 H2 S2 H3 ∧ Rel K hid2 S2 H3 ∧ Rv K (Mset S2 hid2) H3 v x ∧ ∀ p, H3 p = none → H2 p = none
  stop : ∀ {S2 H2 hid2}, (∀ p, hid2 p → hid p ∨ H1 p = none) → Ext S1 H1 S2 H2 → Rel K hid2 S2 H2 → chk S2 → J.stop items.length H2
def iEv (G : SX) (K : PySem.W.Frag) (it : It) : TI := fun σ' H R => ∃ σ S hid, Wd G K σ S hid σ' H ∧ evIt G.c it σ S fun items chk S1 => ∀ J H1, Ext S H S1 H1 → Rel K hid S1 H1 → Feeds K hid S1 H1 J items chk → R J H1
theorem keeps_later {S1 S2 : Sto} {H1 H2 : Hp} {hid hid2 : Hid} (hh : ∀ p, hid2 p → hid p ∨ H1 p = none) (e : Ext S1 H1 S2 H2) : Keeps (Mset S1 hid) H1 (Mset S2 hid2) H2 := ⟨fun p o h sd n => by
  have hs : S1 p = none := Classical.byContradiction fun z => n (.inl z)
  obtain ⟨h1, h2⟩ := e.keep p o h sd hs
  refine ⟨h1, fun z => ?_⟩
  rcases z with z | z
  · exact z h2
  · rcases hh p z with q | q
    · exact n (.inr q)
    · rw [h] at q; cases q⟩
section
variable {X : Cx} {G : SX} {lvl : Nat} {nm : Nat → Str} {σ : Env} {S : Sto} {hid : Hid} {σ' : L2.St} {H : Hp} {K : PySem.W.Frag}
theorem PI.wk {tg it : Expr} {t t' : TI} (h : PI X tg it t) (w : ∀ σ H R, t' σ H R → t σ H R) : PI X tg it t' := ⟨fun pins s σ H R I q => h.run pins s σ H R I (w _ _ _ q)⟩
theorem feeds_tup {vs : List Val} {a : Addr} {xs : List V} {S1 : Sto} {H1 : Hp} {chk : Sto → Prop} (h1 : (H1 a = some (.tup xs) ∧ ¬ Mset S1 hid a) ∨ SqT K (fun _ => none) a xs) (r : Rvs K (Mset S1 hid) H1 vs xs) : Feeds K hid S1 H1 (Itt K a) vs chk := by
  have at2 : ∀ {S2 : Sto} {H2 : Hp} {hid2 : Hid}, (∀ p, hid2 p → hid p ∨ H1 p = none) → Ext S1 H1 S2 H2 → SqT K H2 a xs := fun hh e => by
    rcases h1 with h1 | h1
    · exact SqT.of ((keeps_later hh e).keep a _ h1.1 so_tup h1.2).1
    · exact SqT.const h1 _
  refine ⟨fun {S2 H2 hid2} hh e rel _ {i v} hv => ?_, fun {S2 H2 hid2} hh e rel _ => ⟨xs, at2 hh e, by rw [r.length]; exact Nat.le_refl _⟩⟩
  obtain ⟨x, hx, rx⟩ := (r.keep (keeps_later hh e)).get hv
  refine ⟨⟨xs, x, at2 hh e, hx⟩, fun y H3 ⟨eH, ey⟩ => ?_⟩
  subst eH
  have := ey xs (at2 hh e)
  rw [hx] at this
  cases this
  exact ⟨Ext.refl _ _, rel, rx, fun _ h => h⟩
theorem feeds_lst {vs : List Val} {a : Addr} {xs : List V} {S1 : Sto} {H1 : Hp} {chk : Sto → Prop} (h1 : H1 a = some (.lst xs)) (h2 : ¬ Mset S1 hid a) (r : Rvs K (Mset S1 hid) H1 vs xs) : Feeds K hid S1 H1 (Itl K a) vs chk := by
  have at2 : ∀ {S2 : Sto} {H2 : Hp} {hid2 : Hid}, (∀ p, hid2 p → hid p ∨ H1 p = none) → Ext S1 H1 S2 H2 → SqL K H2 a xs := fun hh e => SqL.of ((keeps_later hh e).keep a _ h1 so_lst h2).1
  refine ⟨fun {S2 H2 hid2} hh e rel _ {i v} hv => ?_, fun {S2 H2 hid2} hh e rel _ => ⟨xs, at2 hh e, by rw [r.length]; exact Nat.le_refl _⟩⟩
  obtain ⟨x, hx, rx⟩ := (r.keep (keeps_later hh e)).get hv
  refine ⟨⟨xs, x, at2 hh e, hx⟩, fun y H3 ⟨eH, ey⟩ => ?_⟩
  subst eH
  have := ey xs (at2 hh e)
  rw [hx] at this
  cases this
  exact ⟨Ext.refl _ _, rel, rx, fun _ h => h⟩
theorem feeds_scr {ns : List Int} {a : Addr} {S1 : Sto} {H1 : Hp} {chk : Sto → Prop} (h1 : ((H1 a = some (.lst (ns.map V.int)) ∨ ∃ o, H1 a = some (.frz o (.lst (ns.map V.int)))) ∧ ¬ Mset S1 hid a) ∨ SqL K (fun _ => none) a (ns.map V.int)) : Feeds K hid S1 H1 (Itl K a) (ns.map Val.int) chk := by
  have at2 : ∀ {S2 : Sto} {H2 : Hp} {hid2 : Hid}, (∀ p, hid2 p → hid p ∨ H1 p = none) → Ext S1 H1 S2 H2 → SqL K H2 a (ns.map V.int) := fun hh e => h1.elim (fun ⟨q1, q2⟩ => q1.elim (fun q1 => .inl (.inl ((keeps_later hh e).keep a _ q1 so_lst q2).1)) fun ⟨o, q1⟩ => .inl (.inr ⟨o, ((keeps_later hh e).keep a _ q1 so_frz q2).1⟩)) fun q => SqL.const q _
  refine ⟨fun {S2 H2 hid2} hh e rel _ {i v} hv => ?_, fun {S2 H2 hid2} hh e rel _ => ⟨_, at2 hh e, by rw [List.length_map, List.length_map]; exact Nat.le_refl _⟩⟩
  obtain ⟨x, hx, rx⟩ := (Rvs.ints (K := K) ns).get hv
  refine ⟨⟨_, x, at2 hh e, hx⟩, fun y H3 ⟨eH, ey⟩ => ?_⟩
  subst eH
  have := ey _ (at2 hh e)
  rw [hx] at this
  cases this
  exact ⟨Ext.refl _ _, rel, rx, fun _ h => h⟩
theorem feeds_cel {vs : List Val} {a : Addr} {S1 : Sto} {H1 : Hp} {chk : Sto → Prop} (hS : S1 a = some (.lst vs)) (hc : ∀ S, chk S → S a = S1 a) : Feeds K hid S1 H1 (Itl K a) vs chk := by
  refine ⟨fun {S2 H2 hid2} hh e rel ck {i v} hv => ?_, fun {S2 H2 hid2} hh e rel ck => ?_⟩
  · obtain ⟨xs, h1, r⟩ := rel.cells a _ ((hc _ ck).trans hS)
    obtain ⟨x, hx, rx⟩ := r.get hv
    refine ⟨⟨xs, x, SqL.of h1, hx⟩, fun y H3 ⟨eH, ey⟩ => ?_⟩
    subst eH
    have := ey xs (SqL.of h1)
    rw [hx] at this
    cases this
    exact ⟨Ext.refl _ _, rel, rx, fun _ h => h⟩
  · obtain ⟨xs, h1, r⟩ := rel.cells a _ ((hc _ ck).trans hS)
    exact ⟨xs, SqL.of h1, by rw [r.length]; exact Nat.le_refl _⟩
theorem rngV_get : ∀ {n : Nat} {lo : Int} {i : Nat} {v : Val}, (rngV lo n)[i]? = some v → i < n ∧ v = .int (lo + i)
  | 0, _, _, _, h => by simp [rngV] at h
  | n + 1, lo, 0, v, h => by
    have : Val.int lo = v := by simpa [rngV] using h
    exact ⟨Nat.succ_pos _, by rw [← this]; simp⟩
  | n + 1, lo, i + 1, v, h => by
    obtain ⟨h1, h2⟩ := rngV_get (n := n) (lo := lo + 1) (i := i) (v := v) (by simpa [rngV] using h)
    exact ⟨Nat.succ_lt_succ h1, by rw [h2]; congr 1; omega⟩
theorem rngV_len : ∀ {n : Nat} {lo : Int}, (rngV lo n).length = n
  | 0, _ => rfl
  | n + 1, lo => by rw [rngV, List.length_cons, rngV_len]
theorem feeds_rng {lo : Int} {n : Nat} {S1 : Sto} {H1 : Hp} {chk : Sto → Prop} : Feeds K hid S1 H1 (Itr lo n) (rngV lo n) chk := by
  refine ⟨fun {S2 H2 hid2} hh e rel _ {i v} hv => ?_, fun {S2 H2 hid2} hh e rel _ => by show n ≤ _; rw [rngV_len]; exact Nat.le_refl _⟩
  obtain ⟨h1, h2⟩ := rngV_get hv
  refine ⟨h1, fun x H3 ⟨eH, ex⟩ => ?_⟩
  subst eH ex h2
  exact ⟨Ext.refl _ _, rel, rfl, fun _ h => h⟩
/-! a list or a tuple, by what it is -/
theorem it_lst {pins : List (Addr × Obj)} {s : Shared} {σ : L2.St} {H : Hp} {tg : Expr} {a : Addr} {xs : List V} {R : L2.It → Hp → Prop} {E : Value → Shared → Prop} (J : L2.Inv X pins σ H s) (hq : SqL X.K H a xs) (q : R (Itl X.K a) H) : wpAny (model X.prog X.w) X.A (pyIter (.ref a)) (PIE X pins σ tg R) E s := by
  obtain ⟨vals, rel, pl, len⟩ := J.list hq
  apply wpAny_pyIter_list pl.isList
  have J2 := J.kept (t' := s.toks) (h' := s.heap.push { cls := .type "list_iterator", data := .fields #[.ref a, .int 0 0] }) fun b o e => Heap.get?_push_of_some _ e
  exact ⟨s.heap.objs.size, [s.heap.objs.size], _, _, H, rfl, J2, turn_list a _, ⟨_, Heap.get?_push_size _ rfl, rfl, rfl⟩, fun b hb => by
    rw [List.mem_singleton.mp hb]
    exact J.fpOk (Nat.le_refl _) (J.hok.fresh (Nat.le_refl _)), q⟩
theorem it_tup {pins : List (Addr × Obj)} {s : Shared} {σ : L2.St} {H : Hp} {tg : Expr} {a : Addr} {xs : List V} {R : L2.It → Hp → Prop} {E : Value → Shared → Prop} (J : L2.Inv X pins σ H s) (hq : SqT X.K H a xs) (q : R (Itt X.K a) H) : wpAny (model X.prog X.w) X.A (pyIter (.ref a)) (PIE X pins σ tg R) E s := by
  obtain ⟨vals, rel, pl, len⟩ := J.tuple hq
  apply wpAny_pyIter_tuple (show s.heap.IsTuple a vals.toArray from pl)
  have J2 := J.kept (t' := s.toks) (h' := s.heap.push { cls := .type "tuple_iterator", data := .fields #[.ref a, .int 0 0] }) fun b o e => Heap.get?_push_of_some _ e
  exact ⟨s.heap.objs.size, [s.heap.objs.size], _, _, H, rfl, J2, turn_tuple a _, ⟨_, Heap.get?_push_size _ rfl, rfl, rfl⟩, fun b hb => by
    rw [List.mem_singleton.mp hb]
    exact J.fpOk (Nat.le_refl _) (J.hok.fresh (Nat.le_refl _)), q⟩
theorem it_str {pins : List (Addr × Obj)} {s : Shared} {σ : L2.St} {H : Hp} {tg : Expr} {x : Str} {x' : V} {v : Value} {R : L2.It → Hp → Prop} {E : Value → Shared → Prop} (I1 : L2.Inv X pins σ H s) (ex : x' = .str x) (r1 : RelV x' v) (q : R (Its x) H) : wpAny (model X.prog X.w) X.A (pyIter v) (PIE X pins σ tg R) E s := by
  subst ex
  obtain ⟨t, rfl⟩ := r1
  cases ha : x.cps.all (· < 128)
  · exact wpAny_pyIter_wide ha (pi_one (tk := s.toks) I1 _ (turn_str _ x t "str_iterator" (.inr rfl)) ⟨_, Heap.get?_push_size _ rfl, rfl, rfl⟩ q)
  · exact wpAny_pyIter_ascii ha (pi_one (tk := s.toks) I1 _ (turn_str _ x t "str_ascii_iterator" (.inl rfl)) ⟨_, Heap.get?_push_size _ rfl, rfl, rfl⟩ q)
theorem it_keys {pins : List (Addr × Obj)} {s : Shared} {σ : L2.St} {H : Hp} {tg : Expr} {d : Addr} {o : Obj} {kvs : List (Key × V)} {R : L2.It → Hp → Prop} {E : Value → Shared → Prop} (I1 : L2.Inv X pins σ H s) (hd : H d = some (.frz o (.dK kvs))) (q : R (Itk d o kvs) H) : wpAny (model X.prog X.w) X.A (pyIter (.ref d)) (PIE X pins σ tg R) E s := by
  obtain ⟨hs, hgd, hx, es, ep, vs, hdt, hsz, kv, hm⟩ := I1.frzK hd
  refine iter_keys hs hgd hx hdt (pi_one (tk := s.toks) I1 _ (turn_keys _ hdt) ⟨_, Heap.get?_push_size _ rfl, rfl, ?_⟩ q)
  rw [hsz] <;> rfl
theorem asL_inv {v : Val} {vs : List Val} (e : asL S v = some vs) : v = .lst vs ∨ ∃ a, v = .adr a ∧ S a = some (.lst vs) := by
  cases v with
  | lst us => cases e; exact .inl rfl
  | adr a =>
    have e2 : (match S a with
      | some (.lst vs) => some vs
      | _ => none) = some vs := e
    cases q : S a with
    | none => rw [q] at e2; cases e2
    | some c =>
      rw [q] at e2
      cases c with
      | lst us => cases e2; exact .inr ⟨a, rfl, q⟩
      | _ => cases e2
  | _ => cases e
theorem seqV_inv {v : Val} {vs : List Val} (e : seqV S v = some vs) : v = .tup vs ∨ (∃ ns, v = .scr ns ∧ vs = ns.map Val.int) ∨ v = .lst vs ∨ ∃ a, v = .adr a ∧ S a = some (.lst vs) := by
  cases v with
  | tup us => cases e; exact .inl rfl
  | scr ns => cases e; exact .inr (.inl ⟨ns, rfl, rfl⟩)
  | lst us => exact .inr (.inr (asL_inv (S := S) e))
  | adr a => exact .inr (.inr (asL_inv (S := S) e))
  | _ => cases e
theorem itV_inv {v : Val} {vs : List Val} (e : itV S v = some vs) : (∃ x, v = .str x ∧ vs = x.cps.toList.map fun c => Val.str ⟨#[c]⟩) ∨ (∃ ks us, v = .dct ks us ∧ vs = ks.map keyV) ∨ seqV S v = some vs := by
  cases v with
  | str x => exact .inl ⟨x, rfl, (Option.some.inj e).symm⟩
  | dct ks us => exact .inr (.inl ⟨ks, us, rfl, (Option.some.inj e).symm⟩)
  | _ => exact .inr (.inr e)
theorem feeds_str {x : Str} {S1 : Sto} {H1 : Hp} {chk : Sto → Prop} : Feeds K hid S1 H1 (Its x) (x.cps.toList.map fun c => Val.str ⟨#[c]⟩) chk := by
  refine ⟨fun {S2 H2 hid2} hh e rel _ {i v} hv => ?_, fun {S2 H2 hid2} hh e rel _ => by show x.cps.size ≤ _; rw [List.length_map]; simp⟩
  rw [List.getElem?_map] at hv
  cases q : x.cps.toList[i]? with
  | none =>
    rw [q] at hv
    cases hv
  | some c =>
    rw [q] at hv
    have hc : x.cps[i]? = some c := by
      rw [← Array.getElem?_toList]
      exact q
    have hl : i < x.cps.size := (Array.getElem?_eq_some_iff.mp hc).1
    refine ⟨hl, fun y H3 ⟨eH, c', ec, ey⟩ => ?_⟩
    subst eH ey
    rw [hc] at ec
    cases ec
    cases hv
    exact ⟨Ext.refl _ _, rel, rfl, fun _ h => h⟩
theorem kV_rv {M : Addr → Prop} {k : Key} : Rv K M H (keyV k) (kV k) := by
  cases k <;> exact rfl
theorem zip_get {α β : Type} {xs : List α} {ys : List β} {i : Nat} {a : α} (hl : xs.length = ys.length) (h : xs[i]? = some a) : ∃ b, ys[i]? = some b ∧ (xs.zip ys)[i]? = some (a, b) := by
  have h1 := (List.getElem?_eq_some_iff.mp h).1
  have h2 : i < ys.length := by omega
  exact ⟨ys[i], List.getElem?_eq_getElem h2, by rw [List.getElem?_zip_eq_some]; exact ⟨h, List.getElem?_eq_getElem h2⟩⟩
theorem feeds_keys {ks : List Key} {us : List Val} {xs : List V} {d : Addr} {o : Obj} {S1 : Sto} {H1 : Hp} {chk : Sto → Prop} (h1 : H1 d = some (.frz o (.dK (ks.zip xs)))) (h2 : ¬ Mset S1 hid d) (hl : ks.length = us.length) (r : Rvs K (Mset S1 hid) H1 us xs) : Feeds K hid S1 H1 (Itk d o (ks.zip xs)) (ks.map keyV) chk := by
  have lx : ks.length = xs.length := hl.trans r.length
  have at2 : ∀ {S2 : Sto} {H2 : Hp} {hid2 : Hid}, (∀ p, hid2 p → hid p ∨ H1 p = none) → Ext S1 H1 S2 H2 → H2 d = some (.frz o (.dK (ks.zip xs))) := fun hh e => ((keeps_later hh e).keep d _ h1 so_frz h2).1
  refine ⟨fun {S2 H2 hid2} hh e rel _ {i v} hv => ?_, fun {S2 H2 hid2} hh e rel _ => ⟨at2 hh e, by rw [List.length_map, List.length_zip]; omega⟩⟩
  rw [List.getElem?_map] at hv
  cases q : ks[i]? with
  | none =>
    rw [q] at hv
    cases hv
  | some k =>
    rw [q] at hv
    cases hv
    obtain ⟨x, hx, hz⟩ := zip_get lx q
    refine ⟨⟨at2 hh e, by rw [List.length_zip]; have := (List.getElem?_eq_some_iff.mp q).1; omega⟩, fun y H3 ⟨eH, k', v', ek, ey⟩ => ?_⟩
    subst eH ey
    rw [hz] at ek
    cases ek
    exact ⟨Ext.refl _ _, rel, kV_rv, fun _ h => h⟩
theorem itmV_get : ∀ {ks : List Key} {us : List Val} {i : Nat} {v : Val}, (itmV ks us)[i]? = some v → ∃ k u, ks[i]? = some k ∧ us[i]? = some u ∧ v = .tup [keyV k, u]
  | k :: ks, u :: us, 0, v, h => ⟨k, u, rfl, rfl, (Option.some.inj h).symm⟩
  | k :: ks, u :: us, i + 1, v, h => itmV_get (ks := ks) (us := us) (i := i) h
  | [], _, _, _, h => by simp [itmV] at h
  | _ :: _, [], _, _, h => by simp [itmV] at h
theorem itmV_len : ∀ {ks : List Key} {us : List Val}, ks.length = us.length → (itmV ks us).length = ks.length
  | k :: ks, u :: us, h => by
    show (itmV ks us).length + 1 = ks.length + 1
    rw [itmV_len (Nat.succ.inj h)]
  | [], _, h => rfl
  | _ :: _, [], h => by cases h
theorem feeds_items {ks : List Key} {us : List Val} {xs : List V} {d : Addr} {o : Obj} {S1 : Sto} {H1 : Hp} {chk : Sto → Prop} (h1 : H1 d = some (.frz o (.dK (ks.zip xs)))) (h2 : ¬ Mset S1 hid d) (hl : ks.length = us.length) (r : Rvs K (Mset S1 hid) H1 us xs) : Feeds K hid S1 H1 (Iti d o (ks.zip xs)) (itmV ks us) chk := by
  have lx : ks.length = xs.length := hl.trans r.length
  have at2 : ∀ {S2 : Sto} {H2 : Hp} {hid2 : Hid}, (∀ p, hid2 p → hid p ∨ H1 p = none) → Ext S1 H1 S2 H2 → H2 d = some (.frz o (.dK (ks.zip xs))) := fun hh e => ((keeps_later hh e).keep d _ h1 so_frz h2).1
  refine ⟨fun {S2 H2 hid2} hh e rel _ {i v} hv => ?_, fun {S2 H2 hid2} hh e rel _ => ⟨at2 hh e, by rw [itmV_len hl, List.length_zip]; omega⟩⟩
  obtain ⟨k, u, ek, eu, ev⟩ := itmV_get hv
  subst ev
  obtain ⟨x, hx, rx⟩ := (r.keep (keeps_later hh e)).get eu
  have hz : (ks.zip xs)[i]? = some (k, x) := by rw [List.getElem?_zip_eq_some]; exact ⟨ek, hx⟩
  refine ⟨⟨at2 hh e, by rw [List.length_zip]; have := (List.getElem?_eq_some_iff.mp ek).1; omega⟩, fun y H3 ⟨T, k', v', ek', ey, hT, eH⟩ => ?_⟩
  rw [hz] at ek'
  cases ek'
  subst ey eH
  refine ⟨Ext.new S2 hT, rel.new hT, ?_, fun p hp => ?_⟩
  · exact Rv.newT rel hT (show Rvs K (Mset S2 hid2) H2 [keyV k, u] [kV k, x] from ⟨_, _, rfl, kV_rv, _, _, rfl, rx, rfl⟩)
  · by_cases e : p = T
    · rw [e, upd_same] at hp
      cases hp
    · rw [upd_ne e] at hp
      exact hp
/-- a dict that is locked -/
theorem sI_items {elts : List Expr} {kk : Nat} {tpos : Pos} {e : Expr} {m : E} {apos cpos : Pos} (he : PE X e (tEv G X.K m)) (hbase : attributeBase e "items" X.env (eval e X.env) = eval e X.env) (hline : (apos.endLine == cpos.line) = true) :
    PI X (.Tuple elts kk tpos) (.Call (.Attribute e "items" apos) [] [] cpos) (iEv G X.K (.items m)) :=
  PI.wk (pi_items he hbase hline) fun σ' H R ⟨σ, S, hid, w, h⟩ => (t1 (a := m) w h).mono fun x' H1 ⟨S1, x, e1, w1, rx, z⟩ => by
    cases x with
    | dct ks us =>
      obtain ⟨p, o, xs, ex, h1, h2, h3, h4⟩ := rx
      exact ⟨p, o, _, ex, h1, z _ _ e1 w1.rel (feeds_items h1 h2 h3 h4)⟩
    | _ => exact z.elim
theorem sI_seq {tg e : Expr} {m : E} (he : PE X e (tEv G X.K m)) : PI X tg e (iEv G X.K (.seq m)) := by
  refine ⟨fun pins s σ' H R I ⟨σ, S, hid, w, h⟩ => thn (he.run pins s σ' H _ I (t1 (a := m) w h)) fun v s1 ⟨x', H1, I1, r1, S1, x, e1, w1, rx, z⟩ => ?_⟩
  obtain ⟨vs, ev, z⟩ := optQ_inv z
  rcases itV_inv ev with ⟨y, ex, en⟩ | ⟨ks, us, ex, en⟩ | ev
  · subst ex en
    exact it_str I1 (show x' = V.str y from rx) r1 (z _ _ e1 w1.rel feeds_str)
  · subst ex en
    obtain ⟨p, o, xs, exx, h1, h2, h3, h4⟩ := rx
    subst exx
    cases r1
    exact it_keys I1 h1 (z _ _ e1 w1.rel (feeds_keys h1 h2 h3 h4))
  rcases seqV_inv ev with ex | ⟨ns, ex, en⟩ | ex | ⟨a, ex, hS⟩
  · subst ex
    obtain ⟨p, xs, exx, h1, s1⟩ := rx
    subst exx
    cases r1
    have hq : SqT X.K H1 p xs := by
      rcases h1 with h1 | h1
      · exact SqT.of h1.1
      · exact SqT.const h1 _
    exact it_tup I1 hq (z _ _ e1 w1.rel (feeds_tup h1 s1))
  · subst ex en
    obtain ⟨p', ep, q0⟩ := Rv.seqS rx
    obtain ⟨p, exx, h1⟩ := rx
    subst exx
    cases ep
    cases r1
    exact it_lst I1 q0 (z _ _ e1 w1.rel (feeds_scr h1))
  · subst ex
    obtain ⟨p, xs, exx, h1, h2, s1⟩ := rx
    subst exx
    cases r1
    exact it_lst I1 (SqL.of h1) (z _ _ e1 w1.rel (feeds_lst h1 h2 s1))
  · subst ex
    cases (show x' = V.ref a from rx)
    cases r1
    obtain ⟨xs, h1, s1⟩ := w1.rel.cells a _ hS
    exact it_lst I1 (SqL.of h1) (z _ _ e1 w1.rel (feeds_cel hS fun S' q => q))
theorem sI_rng1 {tg b : Expr} {mb : E} {p pos : Pos} (hg : Gl X "range") (hm : X.mg "range" = none) (hb : PE X b (tEv G X.K mb)) (hs : starEach [b] X.env = [(false, eval b X.env)]) : PI X tg (.Call (.Name "range" p) [b] [] pos) (iEv G X.K (.rng1 mb)) :=
  PI.wk (pi_range1 hg hm (pa_cons hb pa_nil (by rw [hs]; rfl)) hs) fun σ' H R ⟨σ, S, hid, w, h⟩ => (t1 (a := mb) w h).mono fun x' H1 ⟨S1, x, e1, w1, rx, z⟩ => by
    obtain ⟨j, ej, z⟩ := intQ_inv z
    subst ej
    exact ⟨j, by rw [show x' = V.int j from rx], z.1.1, z.1.2, z.2 _ _ e1 w1.rel feeds_rng⟩
theorem sI_rng {tg a b : Expr} {ma mb : E} {p pos : Pos} (hg : Gl X "range") (hm : X.mg "range" = none) (ha : PE X a (tEv G X.K ma)) (hb : PE X b (tEv G X.K mb)) (hs : starEach [a, b] X.env = [(false, eval a X.env), (false, eval b X.env)]) (hs2 : starEach [b] X.env = [(false, eval b X.env)]) :
    PI X tg (.Call (.Name "range" p) [a, b] [] pos) (iEv G X.K (.rng ma mb)) :=
  PI.wk (pi_range2 hg hm (pa_cons ha (pa_cons hb pa_nil (by rw [hs2]; rfl)) (by rw [hs, hs2])) hs hs2) fun σ' H R ⟨σ, S, hid, w, h⟩ => (t2 (a := ma) (b := mb) w h).mono fun x' H1 q => q.mono fun y' H2 ⟨S2, x, y, e, w2, r1, r2, z⟩ => by
    obtain ⟨i, ei, z⟩ := intQ_inv z
    obtain ⟨j, ej, z⟩ := intQ_inv z
    subst ei ej
    exact ⟨i, j, by rw [show x' = V.int i from r1, show y' = V.int j from r2], z.1, z.2 _ _ e w2.rel feeds_rng⟩
end
end Li
set_option Elab.async false
set_option linter.all false
set_option maxRecDepth 100000
set_option maxHeartbeats 2000000
/-! LiLc: a list comprehension whose parts may use what stands where its block begins. -/
namespace LiC
open PySem PySem.Spec PyProof.Rows L2
section
variable {X : Cx}
/-- the block of a comprehension that begins at u -/
abbrev blkAt (X : Cx) (u : Shared) (G : Hp) (scope : Scope) (C : Addr) (cl : List (Str × Addr)) (fp : List Addr) : Cx := X.blk u G scope (compEnvC scope cl C X.env) fp
/-- what an iterator stands on is no cell -/
def NoCell (u : Shared) (fp : List Addr) : Prop := ∀ b ∈ fp, ∃ o, u.heap.get? b = some o ∧ ∀ v, o.data ≠ .cell v
theorem lc_in {pn : List (Addr × Obj)} {s0 : Shared} {σ : L2.St} {G0 : Hp} {Q : VK} {el tg it : Expr} {fs : List Expr} {scope : Scope} {own : List (Str × Nat)} {pos p2 : Pos} {wi : TI} {g : TG} {tt : TT} {te : TE} {use : Option (Value → Sem Unit)} {Qf : Value → Shared → Prop}
    (calm : X.calm = true) (nd : X.N.Nodup) (J0 : L2.Inv X pn σ G0 s0) (hi : PI X tg it wi) (ok : BlkOk X.N X.env.scope scope own)
    (hg : ∀ u G, L2.Inv X pn σ G u → ∀ C cl fp, NoCell u fp → PG (blkAt X u G scope C cl fp) tg g) (ht : ∀ u G, L2.Inv X pn σ G u → ∀ C cl fp, NoCell u fp → PTs (blkAt X u G scope C cl fp) fs tt) (he : ∀ u G, L2.Inv X pn σ G u → ∀ C cl fp, NoCell u fp → PE (blkAt X u G scope C cl fp) el te)
    (hs : ∀ x, foldedSetIterable it X.env x = pure x) (h : tLc wi g tt te (own.map (·.2)) σ G0 Q)
    (fin : ∀ D C u m G, L2.Inv X pn σ G u → Q (.ref D) G → u.heap.Ns C m → FpOk X pn G C → compPost (model X.prog X.w) X.A X.xe use Qf (.ref D) C (.ok .next) u) :
    wpAny (model X.prog X.w) X.A (comprehension (.ListComp el [⟨tg, it, fs, 0⟩] scope pos) scope X.env p2 (newList []) false (eval it X.env) use) Qf X.xe s0 := by
  have free : ∀ y ∈ scope.names, y.2 = .free → ∃ c, X.env.cells.lookup y.1 = some c := fun y hy e => (ok.free y hy e).elim (fun k => J0.ok.has _ (.inl k)) fun k => J0.ok.has _ (.inr k)
  refine wpAny_comprehension_free (use := use) rfl hs (closure_ok free) ok.kind (fun y hy e => by rw [ok.uniq y hy, e]) (thn (hi.run pn s0 σ G0 _ J0 h) fun xv u1 hx => thn hx fun itv u2 h2 => ?_)
  obtain ⟨ia, fp, tn, J, G2, rfl, J2, T, st2, f2, q⟩ := h2
  refine wpAny_newObj_type (newEnv_comp ?_) (by show 0 ≤ sizeLine; decide)
  have Dn : G2 u2.heap.objs.size = none := J2.hok.fresh (Nat.le_refl _)
  obtain ⟨W, ⟨m0, w0⟩, turn⟩ := q _ Dn
  -- behind the new list, which lies at D
  obtain ⟨D, eD⟩ : ∃ D, D = u2.heap.objs.size := ⟨_, rfl⟩
  rw [← eD] at w0 turn Dn ⊢
  obtain ⟨u3, e3⟩ : ∃ u3 : Shared, u3 = { u2 with heap := u2.heap.push { cls := .type "list", data := .seq ([] : List Value).toArray } } := ⟨_, rfl⟩
  obtain ⟨G3, eG⟩ : ∃ G3, G3 = upd G2 D (.lst []) := ⟨_, rfl⟩
  have J3 : L2.Inv X pn σ G3 u3 := by
    rw [e3, eG]
    refine J2.laid (t' := u2.toks) (fun b o e => Heap.get?_push_of_some _ e) (Nat.le_of_eq eD.symm) ⟨Nat.zero_le _, [], 0, .nil, ?_⟩
    rw [eD]
    exact Heap.get?_push_size _ rfl
  have grown : ∀ b o, u2.heap.get? b = some o → u3.heap.get? b = some o := fun b o e => by
    rw [e3]
    exact Heap.get?_push_of_some _ e
  have low : ∀ b ∈ fp, b < u2.heap.objs.size := fun b hb => (T.obj _ _ st2 b hb).elim fun o e => Heap.lt_size e.1
  have f3 : ∀ b ∈ fp, FpOk X pn G3 b ∧ b < u3.heap.objs.size := fun b hb => by
    refine ⟨⟨?_, (f2 b hb).2⟩, ?_⟩
    · rw [eG, upd_ne (by rw [eD]; exact Nat.ne_of_lt (low b hb))]
      exact (f2 b hb).1
    · obtain ⟨o, e, _⟩ := T.obj _ _ st2 b hb
      exact Heap.lt_size (grown b o e)
  have st3 : tn 0 u3.heap := T.keep _ _ _ st2 fun b _ o e => grown b o e
  have J4 := block_start J3 ok nd f3
  rw [← e3]
  obtain ⟨L, eL⟩ : ∃ L, L = u3.heap.objs.size := ⟨_, rfl⟩
  obtain ⟨cl, ecl⟩ : ∃ cl, cl = cellsFrom (u3.heap.objs.size + 1) scope.names (cloFrom X.env.cells scope.names []) := ⟨_, rfl⟩
  have nc : NoCell u3 fp := fun b hb => T.obj _ _ st3 b hb
  have pg := hg u3 G3 J3 L cl fp nc
  have pt := ht u3 G3 J3 L cl fp nc
  have pe := he u3 G3 J3 L cl fp nc
  obtain ⟨u4, e4⟩ : ∃ u4 : Shared, u4 = { u3 with heap := pushCells (u3.heap.push { cls := .type "dict", data := .dict #[] }) scope.names } := ⟨_, rfl⟩
  refine (?_ : codeAny _ _ (.compStart (.ListComp el [⟨tg, it, fs, 0⟩] scope pos) 0 (.ref ia) (.ref D) (compEnvC scope (cellsFrom (u3.heap.objs.size + 1) scope.names (cloFrom X.env.cells scope.names [])) u3.heap.objs.size X.env)) (compPost (model X.prog X.w) X.A X.xe use Qf (.ref D) u3.heap.objs.size) { u3 with heap := pushCells (u3.heap.push { cls := .type "dict", data := .dict #[] }) scope.names })
  rw [← e4, ← ecl, ← eL]
  rw [← e4, ← ecl, ← eL] at J4
  have none3 : ∀ b ∈ fp, G3 b = none := fun b hb => (f3 b hb).1.1
  have st4 : tn 0 u4.heap := T.keep _ _ _ st3 fun b _ o e => by
    rw [e4]
    exact pushCells_keeps _ _ _ _ (Heap.get?_push_of_some _ e)
  have still : ∀ {σ' : L2.St} {G' : Hp} {u' : Shared}, L2.Inv (blkAt X u3 G3 scope L cl fp) [] σ' G' u' → (∀ b ∈ fp, G' b = none) → ∀ b ∈ fp, FpOk (blkAt X u3 G3 scope L cl fp) [] G' b := fun {σ' G' u'} J' hn b hb =>
    ⟨hn b hb, (J'.ok.exf b hb).1, J'.ok.exfs b hb, .inl hb, fun x c e => (J'.ok.exf b hb).2 x c e, fun p hp => absurd (show p ∈ ([] : List (Addr × Obj)) ++ [] from hp) (by simp)⟩
  have walk : codeAny (model X.prog X.w) X.A (.compLoop (.ListComp el [⟨tg, it, fs, 0⟩] scope pos) 0 (.ref ia) (.ref D) (compEnvC scope cl L X.env)) (compPost (model X.prog X.w) X.A X.xe use Qf (.ref D) L) u4 := by
    refine compLoop_any (fun n u => ∃ i G, L2.Inv (blkAt X u3 G3 scope L cl fp) [] (L2.wipe σ (own.map (·.2))) G u ∧ tn i u.heap ∧ (∀ b ∈ fp, G b = none) ∧ W i n G) ?_ m0 ⟨0, G3, J4, st4, none3, by rw [eG]; exact w0⟩
    rintro n u5 ⟨i, G5, J5, st5, n5, w5⟩
    rcases turn i n G5 w5 with ⟨stop, qq⟩ | ⟨go, Nx, hNx, step⟩
    · refine thnF (T.done (blkAt X u3 G3 scope L cl fp) rfl rfl rfl calm i [] u5 _ G5 (fun _ _ => False) J5 (still J5 n5) st5 stop) fun r u6 ⟨hr, J6⟩ => ?_
      subst hr
      have J7 : L2.Inv X pn σ G5 u6 := J3.call' (ch := fp) J6.os J6.base J6.hok J6.bare fun b hb => ⟨(f3 b hb).1.2.2.2.1, (f3 b hb).1.2.1, (f3 b hb).1.2.2.2.2.1, (f3 b hb).1.2.2.2.2.2⟩
      have nL : G5 L = none := J6.free
      obtain ⟨m, hn, _⟩ := J6.loc
      exact fin D L u6 m G5 J7 qq hn (J3.fpOk (Nat.le_of_eq eL.symm) nL)
    · refine thnF (T.item (blkAt X u3 G3 scope L cl fp) rfl rfl rfl calm i [] u5 _ G5 (fun _ _ => False) J5 (still J5 n5) st5 go) fun r u6 ⟨v, hr, h6⟩ => ?_
      subst hr
      refine thnF h6 fun _ u7 ⟨x, G7, J7, r7, y7, st7, n7⟩ => ?_
      refine thnF (pg.run _ u7 _ G7 x v _ (J7.pinned (still J7 n7) (T.obj _ _ st7)) r7 (step x G7 y7)) fun _ u8 ⟨σ8, G8, J8, hw8, q8⟩ => ?_
      refine thnF (pt.run _ u8 σ8 G8 _ J8 q8) fun b u9 ⟨G9, J9, q9⟩ => ?_
      have last : ∀ {u' : Shared} {G' : Hp}, L2.Inv (blkAt X u3 G3 scope L cl fp) ([] ++ pinsAt fp u7.heap) σ8 G' u' → Nx G' → ∃ m, m < n ∧ ∃ i G, L2.Inv (blkAt X u3 G3 scope L cl fp) [] (L2.wipe σ (own.map (·.2))) G u' ∧ tn i u'.heap ∧ (∀ b ∈ fp, G b = none) ∧ W i m G := fun {u' G'} J' nx => by
        obtain ⟨m', hm, w'⟩ := hNx G' nx
        have pinned : ∀ b ∈ fp, ∀ o, u7.heap.get? b = some o → u'.heap.get? b = some o ∧ G' b = none := fun b hb o e => by
          obtain ⟨a1, a2, _⟩ := J'.pin (b, o) (List.mem_append_right _ (List.mem_append_right _ (mem_pinsAt hb e)))
          exact ⟨a1, a2⟩
        have len8 : (L2.wipe σ (own.map (·.2))).length = σ8.length := by rw [← hw8, L2.wipe_length]
        refine ⟨m', hm, i + 1, G', (J'.unpinned (pins := [])).weak len8 (fun j v e => ?_), T.keep _ _ _ st7 fun b hb o e => (pinned b hb o e).1, fun b hb => ?_, w'⟩
        · rw [← hw8] at e
          exact (L2.wipe_some e).1
        · exact (T.obj _ _ st7 b hb).elim fun o e => (pinned b hb o e.1).2
      cases b with
      | false =>
        rw [if_neg Bool.false_ne_true] at q9 ⊢
        exact last J9 q9
      | true =>
        rw [if_pos rfl] at q9 ⊢
        refine thnF (pe.run _ u9 σ8 G9 _ J9 q9) fun z u10 ⟨yv, G10, J10, r10, acc, hD10, hz10, nx⟩ => ?_
        exact app_ok (X := blkAt X u3 G3 scope L cl fp) J10 hD10 hz10 r10 fun u11 J11 => last J11 nx
  exact codeAny_compStart_list walk (T.self X.A 0 _ _ _ st4 walk)
/-- .. as a value -/
theorem pe_lcI {el tg it : Expr} {fs : List Expr} {scope : Scope} {own : List (Str × Nat)} {pos : Pos} {wi : TI} {g : TG} {tt : L2.St → TT} {te : L2.St → TE} {ag : L2.St → Prop} (calm : X.calm = true) (nd : X.N.Nodup) (hi : PI X tg it wi) (ok : BlkOk X.N X.env.scope scope own)
    (hg : ∀ pn σ u G, L2.Inv X pn σ G u → ag σ → ∀ C cl fp, NoCell u fp → PG (blkAt X u G scope C cl fp) tg g) (ht : ∀ pn σ u G, L2.Inv X pn σ G u → ag σ → ∀ C cl fp, NoCell u fp → PTs (blkAt X u G scope C cl fp) fs (tt σ)) (he : ∀ pn σ u G, L2.Inv X pn σ G u → ag σ → ∀ C cl fp, NoCell u fp → PE (blkAt X u G scope C cl fp) el (te σ))
    (hs : ∀ x, foldedSetIterable it X.env x = pure x) : PE X (.ListComp el [⟨tg, it, fs, 0⟩] scope pos) (fun σ H Q => ag σ ∧ tLc wi g (tt σ) (te σ) (own.map (·.2)) σ H Q) := by
  refine ⟨fun pn s σ H Q I ⟨hag, h⟩ => ?_⟩
  rw [eval_ListComp]
  refine lc_in calm nd I hi ok (fun u G J => hg pn σ u G J hag) (fun u G J => ht pn σ u G J hag) (fun u G J => he pn σ u G J hag) hs h fun D C u m G J q hn f => ⟨m, hn, fun h2 sb => ?_⟩
  obtain ⟨f0, f1, f2, f3, f4, f5⟩ := f
  exact ⟨.ref D, G, J.turned (t' := u.toks) (fun b o hb e => (sb.2 b hb).trans e) f0 f1 f3 f4 f5, rfl, q⟩
/-- name = [..] on one line, a local name -/
theorem ps_lcI {i : Nat} {y : Str} {py : Pos} {el tg it : Expr} {fs : List Expr} {scope : Scope} {own : List (Str × Nat)} {pos spos : Pos} {wi : TI} {g : TG} {tt : L2.St → TT} {te : L2.St → TE} {ag : L2.St → Prop} (calm : X.calm = true) (nd : X.N.Nodup) (hy : X.N[i]? = some y) (hyl : X.env.scope.names.lookup y = some .local)
    (hsw : swapsWith (.ListComp el [⟨tg, it, fs, 0⟩] scope pos) (some (.Name y py)) spos.line X.env = pure true) (hi : PI X tg it wi) (ok : BlkOk X.N X.env.scope scope own)
    (hg : ∀ pn σ u G, L2.Inv X pn σ G u → ag σ → ∀ C cl fp, NoCell u fp → PG (blkAt X u G scope C cl fp) tg g) (ht : ∀ pn σ u G, L2.Inv X pn σ G u → ag σ → ∀ C cl fp, NoCell u fp → PTs (blkAt X u G scope C cl fp) fs (tt σ)) (he : ∀ pn σ u G, L2.Inv X pn σ G u → ag σ → ∀ C cl fp, NoCell u fp → PE (blkAt X u G scope C cl fp) el (te σ))
    (hs : ∀ x, foldedSetIterable it X.env x = pure x) : PS X (.Assign [.Name y py] (.ListComp el [⟨tg, it, fs, 0⟩] scope pos) spos) (fun D σ H => ag σ ∧ tLc wi g (tt σ) (te σ) (own.map (·.2)) σ H fun x H1 => D.nx (σ.set i (some x)) H1) := by
  refine ⟨fun pn s σ H D I ⟨hag, h⟩ => ?_⟩
  rw [exec_Assign_Name_used _ _ _ _ hsw]
  refine wpAny_bind (wpAny_standAt (wpAny_bind ?_))
  refine (?_ : wpAny _ X.A (do let _ ← comprehension (.ListComp el [⟨tg, it, fs, 0⟩] scope pos) scope X.env (firstIterPos [⟨tg, it, fs, 0⟩] pos) (newList []) false (eval it X.env) (some (assign (.Name y py) X.env))) _ _ s)
  refine wpAny_bind (thn (lc_in (Qf := fun _ u => SP X pn D .next u) calm nd I hi ok (fun u G J => hg pn σ u G J hag) (fun u G J => ht pn σ u G J hag) (fun u G J => he pn σ u G J hag) hs h fun L C u m G J q hn f => ?_) fun _ u hq => wpAny_pure (wpAny_pure hq))
  refine (?_ : wpAny _ _ (assign (.Name y py) X.env (.ref L)) _ _ _)
  refine wpAny_assign_Name (store_ok2 (v := V.ref L) J nd hy (.inl hyl) rfl (fun u2 J2 ⟨a, sb, ha⟩ => ?_) (.inr hyl))
  obtain ⟨f0, f1, f2, f3, f4, f5⟩ := f
  have apart : C ≠ a := ha.elim (fun z => by rw [z]; exact f1) fun z e => f4 y a z e.symm
  exact ⟨m, hn.sameBut sb apart, fun h3 sb3 => ⟨_, G, J2.turned (t' := u2.toks) (fun b o hb e => (sb3.2 b hb).trans e) f0 f1 f3 f4 f5, q⟩⟩
end
end LiC
set_option Elab.async false
set_option linter.all false
set_option maxRecDepth 100000
set_option maxHeartbeats 2000000
/-! LiComp: comprehensions. -/
namespace Li
open PySem L2
theorem Ext.acc {S S' : Sto} {H H' : Hp} {D : Addr} {o : HO} (e : Ext S H S' H') (h : H D = none) : Ext S H S' (upd H' D o) where
  keep := fun p u hp sd k => by
    rw [upd_ne (ne_of_none hp h)]
    exact e.keep p u hp sd k
  dom := fun p hp => by
    rw [upd_ne fun (z : p = D) => hp (by rw [z]; exact h)]
    exact e.dom p hp
theorem Rel.hide {K : PySem.W.Frag} {hid : Hid} {S : Sto} {H : Hp} {D : Addr} {ys : List V} (r : Rel K hid S H) (h : H D = none) : Rel K (hid.add D) S (upd H D (.lst ys)) where
  cells := fun b c e => (r.cells b c e).keep (keeps_hid h) (upd_ne fun (z : b = D) => r.there e (by rw [z]; exact h))
  hids := fun p hp => by
    by_cases e : p = D
    · exact ⟨ys, by rw [e, upd_same]⟩
    · obtain ⟨xs, q⟩ := r.hids p (hp.resolve_right e)
      exact ⟨xs, by rw [upd_ne e]; exact q⟩
  dis := fun p hp => hp.elim (r.dis p) fun e => by rw [e]; exact r.free h
  tabs := tabs_new r.tabs h
theorem Rel.unhide {K : PySem.W.Frag} {hid : Hid} {S : Sto} {H : Hp} {D : Addr} (r : Rel K (hid.add D) S H) : Rel K hid S H where
  cells := fun b c e => (r.cells b c e).keep keeps_unhid rfl
  hids := fun p hp => r.hids p (.inl hp)
  dis := fun p hp => r.dis p (.inl hp)
  tabs := r.tabs
theorem Rel.accu {K : PySem.W.Frag} {hid : Hid} {S : Sto} {H : Hp} {D : Addr} {ys : List V} (r : Rel K (hid.add D) S H) (h : S D = none) {xs : List V} (hl : H D = some (.lst xs)) : Rel K (hid.add D) S (upd H D (.lst ys)) where
  cells := fun b c e => (r.cells b c e).keep keeps_acc (upd_ne fun z => by rw [z, h] at e; cases e)
  hids := fun p hp => by
    by_cases e : p = D
    · exact ⟨ys, by rw [e, upd_same]⟩
    · obtain ⟨xs, q⟩ := r.hids p hp
      exact ⟨xs, by rw [upd_ne e]; exact q⟩
  dis := r.dis
  tabs := tabs_put r.tabs (fun ps z => by rw [hl] at z; cases z) fun c q z => by rw [hl] at z; cases z
def SX.blk (G : SX) (σb : L2.St) (own : List Nat) : SX := { c := G.c.nox, S0 := fun _ => none, H0 := fun _ => none, P := fun _ => True, ag := fun σ => ∀ j, j ∉ own → σ[j]? = σb[j]?, T := G.T }
theorem Ext.nil {S : Sto} {H : Hp} : Ext (fun _ => none) (fun _ => none) S H := { keep := fun p o e _ _ => absurd (show (none : Option HO) = some o from e) (by simp), dom := fun p h => absurd rfl h }
def tBo (G : SX) (K : PySem.W.Frag) (e : Eo) : TT := fun σ' H Q => ∃ σ S hid, Wd G K σ S hid σ' H ∧ evO G.c e σ S (PoB K hid S H Q)
section
variable {X : Cx} {G : SX} {lvl : Nat} {nm : Nat → Str} {σ : Env} {S : Sto} {hid : Hid} {σ' : L2.St} {H : Hp} {K : PySem.W.Frag}
theorem PTs.wk {es : List Expr} {t t' : TT} (h : PTs X es t) (w : ∀ σ H Q, t' σ H Q → t σ H Q) : PTs X es t' := ⟨fun pins s σ H Q I q => h.run pins s σ H Q I (w _ _ _ q)⟩
theorem sB_none : PTs X [] (tBo G X.K .no) := PTs.wk pts_nil fun σ' H Q ⟨σ, S, hid, w, h⟩ => (show PoB X.K hid S H Q true S from h) H (Ext.refl S H) w.rel
theorem sB_some {a : Expr} {ma : E} (ha : PT X a (tTv G X.K ma)) : PTs X [a] (tBo G X.K (.so ma)) := PTs.wk (pts_one ha) fun σ' H Q h => h
theorem comp_rdG {melt : E} {t : Tg} {mi : It} {mifs : Eo} {own : List Nat} {Q : VK} {R : VQ} (ht : ∀ i, i ∈ tgs t → i ∈ own) (w : Wd G K σ S hid σ' H) (h : evE G.c (.comp melt t mi mifs own) σ S R)
    (fin : ∀ vs S5 D H2 xs, H D = none → Ext S H S5 H2 → Rel K (hid.add D) S5 H2 → S5 D = none → H2 D = some (.lst xs) → Rvs K (Mset S5 (hid.add D)) H2 vs xs → R (.lst vs) S5 → Q (.ref D) H2) :
    tLc (iEv G K mi) (gOf K t) (tBo (G.blk σ' own) K mifs) (tEv (G.blk σ' own) K melt) own σ' H Q := by
  refine ⟨σ, S, hid, w, evIt_mono mi (fun items chk S1 z J H1 e1 rel1 fd D hD => ?_) h⟩
  have env1 : Renv K (Mset S1 hid) H1 σ σ' := w.env.keep (e1.keeps hid)
  have hh : ∀ p, (hid p ∨ p = D) → hid p ∨ H1 p = none := fun p z => z.imp id fun e => by rw [e]; exact hD
  refine ⟨fun i m H2 => m = items.length - i ∧ i ≤ items.length ∧ ∃ S2 acc xs, Ext S1 H1 S2 H2 ∧ S2 D = none ∧ H2 D = some (.lst xs) ∧ Rvs K (Mset S2 (hid.add D)) H2 acc xs ∧ Rel K (hid.add D) S2 H2 ∧
    Renv K (Mset S2 (hid.add D)) H2 σ σ' ∧ compL (fun v S2 k => asg t v (Li.wipe σ own) fun σ2 => evO G.c.nox mifs σ2 S2 fun b S3 => brV (some b) (evE G.c.nox melt σ2 S3 (fun y S4 => k (some y) S4)) (k none S3)) chk (items.drop i) acc S2 (fun vs S5 => R (.lst vs) S5),
    ⟨items.length, by simp, Nat.zero_le _, S1, [], [], Ext.new S1 hD, rel1.free hD, upd_same, rfl, rel1.hide hD, env1.keep (keeps_hid hD), by rw [List.drop_zero]; exact z⟩, ?_⟩
  rintro i m H2 ⟨rfl, hi, S2, acc, xs, e2, sD, hD2, racc, rel2, env2, hc⟩
  by_cases hlt : i < items.length
  · rw [List.drop_eq_getElem_cons hlt] at hc
    obtain ⟨ck, st⟩ := hc
    obtain ⟨go, yl⟩ := fd.go hh e2 rel2 ck (show items[i]? = some items[i] by simp [hlt])
    refine .inr ⟨go, fun H' => i + 1 ≤ items.length ∧ ∃ S2 acc xs, Ext S1 H1 S2 H' ∧ S2 D = none ∧ H' D = some (.lst xs) ∧ Rvs K (Mset S2 (hid.add D)) H' acc xs ∧ Rel K (hid.add D) S2 H' ∧
      Renv K (Mset S2 (hid.add D)) H' σ σ' ∧ compL (fun v S2 k => asg t v (Li.wipe σ own) fun σ2 => evO G.c.nox mifs σ2 S2 fun b S3 => brV (some b) (evE G.c.nox melt σ2 S3 (fun y S4 => k (some y) S4)) (k none S3)) chk (items.drop (i + 1)) acc S2 (fun vs S5 => R (.lst vs) S5),
      fun H' q => ⟨items.length - (i + 1), by omega, rfl, q⟩, fun x H3 hy => ?_⟩
    obtain ⟨e3, rel3, rx, fr⟩ := yl x H3 hy
    have env3 := env2.keep (e3.keeps (hid.add D))
    refine asg_rd st (env3.wipe own) rx fun σ2 σ2' hk put => ?_
    have agb : (G.blk σ' own).ag σ2' := fun j hj => by rw [put.out j fun q => hj (ht j q), wipe_off hj]
    refine ⟨?_, σ2, S2, _, ⟨trivial, Ext.nil, rel3, put.env, agb, w.hT⟩, evO_mono mifs (fun b S3 z3 H4 e4 rel4 => ?_) hk⟩
    · refine wipe_eq (put.len.trans (L2.wipe_length _ _)) fun j hj => ?_
      rw [put.out j fun q => hj (ht j q), wipe_off hj]
    · have put4 := put.env.keep (e4.keeps (hid.add D))
      have env4 := env3.keep (e4.keeps (hid.add D))
      have e24 := e3.trans e4
      cases b with
      | true =>
        refine L2.iteT ?_
        refine ⟨σ2, S3, _, ⟨trivial, Ext.nil, rel4, put4, agb, w.hT⟩, evE_mono melt (fun y S4 z4 y' H5 e5 rel5 ry => ?_) z3⟩
        have e25 := e24.trans e5
        obtain ⟨h5, s5⟩ := e25.keep D _ hD2 so_lst sD
        have ka : Keeps (Mset S4 (hid.add D)) H5 (Mset S4 (hid.add D)) (upd H5 D (.lst (xs ++ [y']))) := keeps_acc
        refine ⟨xs, h5, by rw [← racc.length]; exact z4.1, hlt, S4, acc ++ [y], xs ++ [y'], (e2.trans e25).acc hD, s5, upd_same, ?_, rel5.accu s5 h5, ((env4.keep (e5.keeps _)).keep ka), z4.2⟩
        exact ((racc.keep (e25.keeps _)).keep ka).append ⟨y', [], rfl, ry.keep ka, rfl⟩
      | false =>
        refine L2.iteF ?_
        obtain ⟨h4, s4⟩ := e24.keep D _ hD2 so_lst sD
        exact ⟨hlt, S3, acc, xs, e2.trans e24, s4, h4, racc.keep (e24.keeps _), rel4, env4, z3⟩
  · have ei : i = items.length := by omega
    subst ei
    rw [List.drop_length] at hc
    exact .inl ⟨fd.stop hh e2 rel2 hc.1, fin acc S2 D H2 xs (e1.free hD) (e1.trans e2) rel2 sD hD2 racc hc.2⟩
theorem comp_rd {melt : E} {t : Tg} {mi : It} {mifs : Eo} {own : List Nat} {Q : VK} (ht : ∀ i, i ∈ tgs t → i ∈ own) (h : tEv G K (.comp melt t mi mifs own) σ' H Q) :
    tLc (iEv G K mi) (gOf K t) (tBo (G.blk σ' own) K mifs) (tEv (G.blk σ' own) K melt) own σ' H Q := by
  obtain ⟨σ, S, hid, w, h⟩ := h
  refine comp_rdG ht w h fun vs S5 D H2 xs hD e rel sD hD2 rv z => z (.ref D) H2 e rel.unhide ⟨D, xs, rfl, hD2, fun q => ?_, rv.keep keeps_unhid⟩
  rcases q with q | q
  · exact q sD
  · exact w.rel.nohid hD q
/-- the parts of a comprehension, where its block begins -/
structure BlkP (X : Cx) (G : SX) (scope : Scope) (own : List Nat) (tg : Expr) (fs : List Expr) (el : Expr) (t : Tg) (mifs : Eo) (melt : E) : Prop where
  hg : ∀ pn σ u G0, L2.Inv X pn σ G0 u → G.ag σ → ∀ C cl fp, LiC.NoCell u fp → PG (LiC.blkAt X u G0 scope C cl fp) tg (gOf X.K t)
  ht : ∀ pn σ u G0, L2.Inv X pn σ G0 u → G.ag σ → ∀ C cl fp, LiC.NoCell u fp → PTs (LiC.blkAt X u G0 scope C cl fp) fs (tBo (G.blk σ own) X.K mifs)
  he : ∀ pn σ u G0, L2.Inv X pn σ G0 u → G.ag σ → ∀ C cl fp, LiC.NoCell u fp → PE (LiC.blkAt X u G0 scope C cl fp) el (tEv (G.blk σ own) X.K melt)
theorem okx_blk (ok : Okx G lvl nm X) (σb : L2.St) (own : List Nat) (s : Shared) (H : Hp) (scope : Scope) (cenv : PySem.Env) (fp : List Addr) : Okx (G.blk σb own) lvl nm (X.blk s H scope cenv fp) where
  nd := ok.nd
  calm := ok.calm
  room := ok.room
  gok := ok.gok
  mok := ok.mok
  pas := fun pins σ H s e s' I h => by
    obtain ⟨_, _, _, _, _, _, _, _, _, _, _, _, _, _, _, _, _, _, _, z⟩ := h
    exact z.elim
  att := ok.att
theorem sE_comp (ok : Okx G lvl nm X) {elt tg iter : Expr} {ifs : List Expr} {scope : Scope} {own : List (Str × Nat)} {pos : Pos} {melt : E} {t : Tg} {mi : It} {mifs : Eo} (hi : PI X tg iter (iEv G X.K mi)) (blk : BlkOk X.N X.env.scope scope own) (ht : ∀ i, i ∈ tgs t → i ∈ own.map (·.2))
    (bp : BlkP X G scope (own.map (·.2)) tg ifs elt t mifs melt) (hs : ∀ x, foldedSetIterable iter X.env x = pure x) : PE X (.ListComp elt [⟨tg, iter, ifs, 0⟩] scope pos) (tEv G X.K (.comp melt t mi mifs (own.map (·.2)))) :=
  PE.wk (LiC.pe_lcI ok.calm ok.nd hi blk bp.hg bp.ht bp.he hs) fun σ' H Q h => ⟨let ⟨_, _, _, w, _⟩ := h; w.ag, comp_rd ht h⟩
end
end Li
set_option Elab.async false
set_option linter.all false
set_option maxRecDepth 100000
set_option maxHeartbeats 2000000
/-! LiStm: statements, one rule each. -/
namespace Li
open PySem L2
def lift (K : PySem.W.Frag) (hid : Hid) (S : Sto) (H : Hp) (D : Ends) : DE where
  nx := fun σ2 S2 => ∀ σ2' H2, Ext S H S2 H2 → Rel K hid S2 H2 → Renv K (Mset S2 hid) H2 σ2 σ2' → D.nx σ2' H2
  rt := fun v S2 => ∀ v' H2, Ext S H S2 H2 → Rel K hid S2 H2 → Rv K (Mset S2 hid) H2 v v' → D.rt v' H2
  bk := fun σ2 S2 => ∀ σ2' H2, Ext S H S2 H2 → Rel K hid S2 H2 → Renv K (Mset S2 hid) H2 σ2 σ2' → D.bk σ2' H2
  ct := fun σ2 S2 => ∀ σ2' H2, Ext S H S2 H2 → Rel K hid S2 H2 → Renv K (Mset S2 hid) H2 σ2 σ2' → D.ct σ2' H2
def tSv (G : SX) (K : PySem.W.Frag) (b : Sm) : TS := fun D σ' H => ∃ σ S hid, Wd G K σ S hid σ' H ∧ evS G.c b (lift K hid S H D) σ S
def tSs (G : SX) (K : PySem.W.Frag) (b : Ss) : TS := fun D σ' H => ∃ σ S hid, Wd G K σ S hid σ' H ∧ evSs G.c b (lift K hid S H D) σ S
theorem lift_le {K : PySem.W.Frag} {hid : Hid} {S S2 : Sto} {H H2 : Hp} {D : Ends} (e : Ext S H S2 H2) : (lift K hid S H D).le (lift K hid S2 H2 D) :=
  ⟨fun _ _ z σ' H' e' => z σ' H' (e.trans e'), fun _ _ z σ' H' e' => z σ' H' (e.trans e'), fun _ _ z σ' H' e' => z σ' H' (e.trans e'), fun _ _ z σ' H' e' => z σ' H' (e.trans e')⟩
section
variable {X : Cx} {G : SX} [AgT G] {lvl : Nat} {nm : Nat → Str} {σ : Env} {S : Sto} {hid : Hid} {σ' : L2.St} {H : Hp} {K : PySem.W.Frag}
theorem sS_nil : PSs X [] (tSs G X.K .nil) := PSs.wk pss_nil fun D σ' H ⟨σ, S, hid, w, h⟩ => h σ' H (Ext.refl S H) w.rel w.env
theorem sS_cons {st : Stmt} {rest : List Stmt} {m : Sm} {r : Ss} (h1 : PS X st (tSv G X.K m)) (h2 : PSs X rest (tSs G X.K r)) : PSs X (st :: rest) (tSs G X.K (.cons m r)) :=
  PSs.wk (pss_cons h1 h2) fun D σ' H ⟨σ, S, hid, w, h⟩ => ⟨σ, S, hid, w, evS_mono m (D := { lift X.K hid S H D with nx := evSs G.c r (lift X.K hid S H D) }) (D' := lift X.K hid S H { D with nx := tSs G X.K r D })
    ⟨fun σ2 S2 z σ2' H2 e rel env => ⟨σ2, S2, hid, ⟨w.p, w.ex.trans e, rel, env, AgT.all _, w.hT⟩, evSs_mono r (lift_le e) z⟩, fun _ _ z => z, fun _ _ z => z, fun _ _ z => z⟩ h⟩
theorem sS_pass {pos : Pos} : PS X (.Pass pos) (tSv G X.K .pass) := PS.wk ps_pass fun D σ' H ⟨σ, S, hid, w, h⟩ => h σ' H (Ext.refl S H) w.rel w.env
theorem sS_brk {pos : Pos} : PS X (.Break pos) (tSv G X.K .brk) := PS.wk ps_break fun D σ' H ⟨σ, S, hid, w, h⟩ => h σ' H (Ext.refl S H) w.rel w.env
theorem sS_cont {pos : Pos} : PS X (.Continue pos) (tSv G X.K .cont) := PS.wk ps_continue fun D σ' H ⟨σ, S, hid, w, h⟩ => h σ' H (Ext.refl S H) w.rel w.env
theorem sS_set {i : Nat} {x : Str} {e : Expr} {me : E} {pos pos' : Pos} (hN : X.N.Nodup) (hi : X.N[i]? = some x) (hx : Loc X.env.scope x) (he : PE X e (tEv G X.K me)) (hs : swapsWith e (some (.Name x pos')) pos.line X.env = pure false) (hf : X.fn x = true ∨ X.env.scope.names.lookup x = some .local) :
    PS X (.Assign [.Name x pos'] e pos) (tSv G X.K (.set i me)) :=
  PS.wk (ps_set hN hi hx he hs hf) fun D σ' H ⟨σ, S, hid, w, h⟩ => (t1 (a := me) w h).mono fun x' H1 ⟨S1, v, e1, w1, r, z⟩ => z _ H1 e1 w1.rel (w1.env.set i r)
theorem sS_setLc (ok : Okx G lvl nm X) {i : Nat} {y : Str} {py spos : Pos} {elt tg iter : Expr} {ifs : List Expr} {scope : Scope} {own : List (Str × Nat)} {pos : Pos} {melt : E} {t : Tg} {mi : It} {mifs : Eo} (hy : X.N[i]? = some y) (hyl : X.env.scope.names.lookup y = some .local)
    (hsw : swapsWith (.ListComp elt [⟨tg, iter, ifs, 0⟩] scope pos) (some (.Name y py)) spos.line X.env = pure true) (hi : PI X tg iter (iEv G X.K mi)) (blk : BlkOk X.N X.env.scope scope own) (ht : ∀ i, i ∈ tgs t → i ∈ own.map (·.2))
    (bp : BlkP X G scope (own.map (·.2)) tg ifs elt t mifs melt) (hs : ∀ x, foldedSetIterable iter X.env x = pure x) :
    PS X (.Assign [.Name y py] (.ListComp elt [⟨tg, iter, ifs, 0⟩] scope pos) spos) (tSv G X.K (.set i (.comp melt t mi mifs (own.map (·.2))))) :=
  PS.wk (LiC.ps_lcI ok.calm ok.nd hy hyl hsw hi blk bp.hg bp.ht bp.he hs) fun D σ' H ⟨σ, S, hid, w, h⟩ => ⟨w.ag, comp_rd ht ((t1 (a := .comp melt t mi mifs (own.map fun q : Str × Nat => q.2)) (R := fun v S1 => (lift X.K hid S H D).nx (σ.set i (some v)) S1) w h).mono fun x' H1 ⟨S1, v, e1, w1, r, z⟩ => z _ H1 e1 w1.rel (w1.env.set i r))⟩
theorem sS_unp {ts : List Nat} {es : List Expr} {k : Nat} {p2 : Pos} {e : Expr} {me : E} {pos : Pos} (he : PE X e (tEv G X.K me)) (hg : PG X (.Tuple es k p2) (gOf X.K (.many ts))) (hs : swapsWithSole [.Tuple es k p2] e pos.line X.env = pure false) (hw : swappedStores [.Tuple es k p2] e X.env = pure none)
    (h1 : (assignEach [.Tuple es k p2] X.env).map (·.2) = [assign (.Tuple es k p2) X.env]) : PS X (.Assign [.Tuple es k p2] e pos) (tSv G X.K (.unp ts me)) :=
  PS.wk (ps_asg he hg hs hw h1) fun D σ' H ⟨σ, S, hid, w, h⟩ => (t1 (a := me) w h).mono fun x' H1 ⟨S1, v, e1, w1, r, z⟩ => asg_rd z w1.env r fun σ2 σ2' hk put => hk σ2' H1 e1 w1.rel put.env
theorem sS_par {i j : Nat} {x y : Str} {a b : Expr} {ma mb : E} {px py pt pos : Pos} {kt k2 : Nat} {pt2 : Pos} (hc : X.calm = true) (hN : X.N.Nodup) (hi : X.N[i]? = some x) (hj : X.N[j]? = some y) (hij : i ≠ j) (hx : X.env.scope.names.lookup x = some .local) (hy : X.env.scope.names.lookup y = some .local)
    (ha : PE X a (tEv G X.K ma)) (hb : PE X b (tEv G X.K mb)) (st1 : starEach [a, b] X.env = (false, eval a X.env) :: starEach [b] X.env) (st2 : starEach [b] X.env = (false, eval b X.env) :: starEach [] X.env)
    (hw : swappedStores [.Tuple [.Name x px, .Name y py] kt pt] (.Tuple [a, b] k2 pt2) X.env = pure (some [x, y])) (hs : swapsWithSole [.Tuple [.Name x px, .Name y py] kt pt] (.Tuple [a, b] k2 pt2) pos.line X.env = pure false) :
    PS X (.Assign [.Tuple [.Name x px, .Name y py] kt pt] (.Tuple [a, b] k2 pt2) pos) (tSv G X.K (.par i j false false ma mb)) :=
  PS.wk (ps_par hc hN hi hj hij hx hy (pa_cons ha (pa_cons hb pa_nil st2) st1) hw hs) fun D σ' H ⟨σ, S, hid, w, h⟩ => (t2 (a := ma) (b := mb) w h).mono fun x' H1 q => q.mono fun y' H2 ⟨S2, v, u, e, w2, r1, r2, z⟩ =>
    ⟨x', y', rfl, z _ H2 e w2.rel ((w2.env.set i r1).set j r2)⟩
theorem iop_mulX : OpR X (inplaceOp .Mult) (rI CMulX fun i j => .int (i * j)) := opI fun _ _ _ _ _ _ _ hc q => PyProof.Rows.imul_int q hc.ok
def rAug (K : PySem.W.Frag) (op : Operator) : R2 := fun x y H Q => ∃ S hid v u, Rel K hid S H ∧ Rv K (Mset S hid) H v x ∧ Rv K (Mset S hid) H u y ∧ augV op v u fun w => PoE K hid S H Q w S
theorem op_aug (op : Operator) : PIp X op (rAug X.K op) := by
  intro pins s σ H x y v u Q I rx ry ⟨S, hid, a, b, rel, r1, r2, h⟩
  have two : ∀ {C : Int → Int → Prop} {g : Int → Int → Int}, OpR X (inplaceOp op) (rI C fun i j => .int (g i j)) → int2 C g (fun w => PoE X.K hid S H Q w S) a b → wpAny (model X.prog X.w) X.A (inplaceOp op v u) (EP X pins σ Q) X.xe s := fun {C g} ho hh => by
    unfold int2 at hh
    split at hh
    · rename_i i j
      exact ho pins s σ H _ _ v u Q I rx ry ⟨i, j, r1, r2, hh.1, hh.2.here rel rfl⟩
    · exact hh.elim
  cases op with
  | Add => exact two (C := fun _ _ => True) (g := fun i j => i + j) (fun pins s σ H x y v u Q I rx ry ⟨i, j, e1, e2, _, q⟩ => iop_add pins s σ H x y v u Q I rx ry ⟨i, j, e1, e2, q⟩) h
  | Sub => exact two (C := fun _ _ => True) (g := fun i j => i - j) (fun pins s σ H x y v u Q I rx ry ⟨i, j, e1, e2, _, q⟩ => iop_sub pins s σ H x y v u Q I rx ry ⟨i, j, e1, e2, q⟩) h
  | Mult => exact two (C := CMulX) (g := fun i j => i * j) iop_mulX h
  | _ => exact h.elim
theorem sS_aug {i : Nat} {x : Str} {e : Expr} {me : E} {op : Operator} {pos pos' : Pos} (hN : X.N.Nodup) (hi : X.N[i]? = some x) (hx : Loc X.env.scope x) (he : PE X e (tEv G X.K me)) (hf : X.fn x = true ∨ X.env.scope.names.lookup x = some .local) :
    PS X (.AugAssign (.Name x pos') op e pos) (tSv G X.K (.aug i op me)) :=
  PS.wk (ps_aug hN hi hx he (op_aug op) hf) fun D σ' H ⟨σ, S, hid, w, h⟩ => by
    obtain ⟨v, ev, h⟩ := slotQ_inv h
    obtain ⟨x', ex, r0⟩ := w.env.2 i v ev
    refine ⟨x', ex, (t1 (a := me) w h).mono fun y' H1 ⟨S1, u, e1, w1, r, z⟩ => ⟨S1, hid, v, u, w1.rel, r0.keep (e1.keeps hid), r, augV_mono (fun q z v' H2 e2 rel2 r2 => ?_) z⟩⟩
    exact z _ H2 (e1.trans e2) rel2 ((w1.env.keep (e2.keeps hid)).set i r2)
theorem sS_sub {a i e : Expr} {ma mi me : E} {pos tp : Pos} (he : PE X e (tEv G X.K me)) (ha : PE X a (tEv G X.K ma)) (hi : PE X i (tEv G X.K mi))
    (hs : swapsWithSole [.Subscript a i tp] e pos.line X.env = pure false) (hw : swappedStores [.Subscript a i tp] e X.env = pure none) (h1 : (assignEach [.Subscript a i tp] X.env).map (·.2) = [assign (.Subscript a i tp) X.env])
    (hp : ∀ v, assign (.Subscript a i tp) X.env v = (do
      let ov ← holding [v] (eval a X.env)
      let iv ← holding [v, ov] (eval i X.env)
      standAt tp
      holding [v, ov, iv] (setItem ov iv v)
      release [v, ov, iv] [])) : PS X (.Assign [.Subscript a i tp] e pos) (tSv G X.K (.sub ma mi me)) :=
  PS.wk (ps_asg he (pg_sub ha hi set_list hp) hs hw h1) fun D σ' H ⟨σ, S, hid, w, h⟩ => (t1 (a := me) w h).mono fun v' H1 ⟨S1, v, e1, w1, r1, z⟩ => (t2 (a := ma) (b := mi) w1 z).mono fun x' H2 q => q.mono fun y' H3 ⟨S3, x, y, e3, w3, rx, ry, z⟩ => by
    obtain ⟨p, ep, z1⟩ := adrQ_inv z
    obtain ⟨k, ek, z2⟩ := intQ_inv z1
    obtain ⟨vs, hS, z3⟩ := celQ_inv z2
    obtain ⟨j, ej, z4⟩ := optQ_inv z3
    subst ep ek
    obtain ⟨xs, h1, s1⟩ := w3.rel.cells p _ hS
    refine ⟨p, xs, k, j, rx, ry, h1, by rw [← s1.length]; exact ej, ?_⟩
    have kp : Keeps (Mset S3 hid) H3 (Mset (S3.set p (.lst (vs.set j v))) hid) (upd H3 p (.lst (xs.set j v'))) := keeps_put hS
    exact z4 σ' _ ((e1.trans e3).trans (Ext.put hS)) (w3.rel.put hS ⟨_, upd_same, (s1.keep kp).set ((r1.keep (e3.keeps hid)).keep kp) j⟩) (w3.env.keep kp)
theorem putF_zip {M : Addr → Prop} {f : Str} {v : Val} {x : V} (r : Rv K M H v x) : ∀ {fs : List (Str × Val)} {xs : List V}, Rvs K M H (fs.map (·.2)) xs → ∃ ys, putF f x ((fs.map (·.1)).zip xs) = ((putV f v fs).map (·.1)).zip ys ∧ Rvs K M H ((putV f v fs).map (·.2)) ys
  | [], xs, h => by
    cases (show xs = [] from h)
    exact ⟨[x], rfl, x, [], rfl, r, rfl⟩
  | (g, u) :: fs, xs, ⟨y, ys, e, h1, h2⟩ => by
    subst e
    by_cases hg : g = f
    · refine ⟨x :: ys, ?_, ?_⟩
      · show (if g = f then (g, x) :: _ else _) = ((if g = f then (g, v) :: fs else _).map _).zip _
        rw [if_pos hg, if_pos hg]
        rfl
      · show Rvs K M H ((if g = f then (g, v) :: fs else _).map _) _
        rw [if_pos hg]
        exact ⟨x, ys, rfl, r, h2⟩
    · obtain ⟨zs, e1, r1⟩ := putF_zip r h2
      refine ⟨y :: zs, ?_, ?_⟩
      · show (if g = f then _ else (g, y) :: putF f x ((fs.map (·.1)).zip ys)) = ((if g = f then _ else (g, u) :: putV f v fs).map _).zip _
        rw [if_neg hg, if_neg hg, e1]
        rfl
      · show Rvs K M H ((if g = f then _ else (g, u) :: putV f v fs).map _) _
        rw [if_neg hg]
        exact ⟨y, zs, rfl, h1, r1⟩
theorem sS_att (ok : Okx G lvl nm X) {o e : Expr} {mo me : E} {f : Str} {pos pos' : Pos} (he : PE X e (tEv G X.K me)) (ho : PE X o (tEv G X.K mo)) (hs : swapsWith e (some (.Attribute o f pos')) pos.line X.env = pure false) : PS X (.Assign [.Attribute o f pos'] e pos) (tSv G X.K (.att mo f me)) :=
  PS.wk (ps_fld ho he hs) fun D σ' H ⟨σ, S, hid, w, h⟩ => (t2 (a := me) (b := mo) w h).mono fun v' H1 q => q.mono fun x' H2 ⟨S2, v, x, e2, w2, rv, rx, z⟩ => by
    obtain ⟨p, ep, z1⟩ := adrQ_inv z
    obtain ⟨C, fs, hS, zA, zl, z2⟩ := objQ_inv z1
    subst ep
    obtain ⟨dx, xs, h1, s1⟩ := w2.rel.cells p _ hS
    obtain ⟨c1, c2⟩ := ok.att C f zA
    have l1 := s1.length
    rw [List.length_map] at l1
    refine ⟨p, C, dx, _, rx, h1, c1, c2, by rw [List.length_zip, List.length_map, ← l1, Nat.min_self]; exact zl, ?_⟩
    obtain ⟨ys, e1, r1⟩ := putF_zip (f := f) rv s1
    rw [e1]
    have kp : Keeps (Mset S2 hid) H2 (Mset (S2.set p (.obj C (putV f v fs))) hid) (upd H2 p (.ins C dx (((putV f v fs).map (·.1)).zip ys))) := keeps_put hS
    exact z2 σ' _ (e2.trans (Ext.put hS)) (w2.rel.put hS ⟨dx, ys, upd_same, r1.keep kp⟩) (w2.env.keep kp)
theorem sS_ex {e : Expr} {me : E} {pos : Pos} (he : PE X e (tEv G X.K me)) (hs : swapsWith e none pos.line X.env = pure false) : PS X (.Expr e pos) (tSv G X.K (.ex me)) :=
  PS.wk (ps_expr he hs) fun D σ' H ⟨σ, S, hid, w, h⟩ => (t1 (a := me) w h).mono fun x' H1 ⟨S1, v, e1, w1, r, z⟩ => z σ' H1 e1 w1.rel w1.env
/-! ### cells end -/
mutual
theorem sbst_rv {a : Addr} {w : Val} {H' : Hp} {M M' : Addr → Prop} (kp : Keeps M H M' H') (r : Rv K M' H' w (.ref a)) : ∀ {v : Val} {x : V}, Rv K M H v x → Rv K M' H' (sbst a w v) x
  | .non, _, h => h
  | .bl _, _, h => h
  | .int _, _, h => h
  | .str _, _, h => h
  | .scr ns, _, h => Rv.keep (v := .scr ns) kp h
  | .ins C ns us, _, h => Rv.keep (v := .ins C ns us) kp h
  | .dct ks us, _, h => Rv.keep (v := .dct ks us) kp h
  | .clo f F, _, h => Rv.keep (v := .clo f F) kp h
  | .adr b, x, h => by
    show Rv K _ H' (if b = a then _ else _) x
    have hx : x = V.ref b := h
    by_cases e : b = a
    · rw [if_pos e, hx, e]
      exact r
    · rw [if_neg e]
      exact h
  | .tup us, _, ⟨p, ys, e, h1, h2⟩ => ⟨p, ys, e, h1.imp (fun z => (kp.keep p _ z.1 so_tup z.2)) id, sbsts_rv kp r h2⟩
  | .lst us, _, ⟨p, ys, e, h1, h2, h3⟩ => ⟨p, ys, e, (kp.keep p _ h1 so_lst h2).1, (kp.keep p _ h1 so_lst h2).2, sbsts_rv kp r h3⟩
theorem sbsts_rv {a : Addr} {w : Val} {H' : Hp} {M M' : Addr → Prop} (kp : Keeps M H M' H') (r : Rv K M' H' w (.ref a)) : ∀ {v : List Val} {x : List V}, Rvs K M H v x → Rvs K M' H' (sbsts a w v) x
  | [], _, h => h
  | v :: us, _, ⟨x, y, e, h1, h2⟩ => ⟨x, y, e, sbst_rv kp r h1, sbsts_rv kp r h2⟩
end
theorem cellOf_inv {i : Nat} {a : Addr} {w : Val} (h : cellOf σ S i = some (a, w)) : (∃ vs, S a = some (.lst vs) ∧ w = .lst vs) ∨ ∃ kvs, S a = some (.dK kvs) ∧ w = .dct (kvs.map (·.1)) (kvs.map (·.2)) := by
  unfold cellOf at h
  split at h
  · split at h
    · rename_i e
      cases h
      exact .inl ⟨_, e, rfl⟩
    · rename_i e
      cases h
      exact .inr ⟨_, e, rfl⟩
    · cases h
  · cases h
/-- nothing is handed back -/
theorem frz_rd {Q : VQ} : ∀ {fr : List Nat} {S : Sto} {x : V}, frz σ fr .non S Q → Rel K hid S H → x = .non → ∃ u S2, Q u S2 ∧ Ext S H S2 H ∧ Rel K hid S2 H ∧ Rv K (Mset S2 hid) H u x
  | [], S, x, h, rel, r => ⟨.non, S, h, Ext.refl S H, rel, r⟩
  | i :: fr, S, x, h, rel, r => by
    have h' : frz σ fr (frz1 (cellOf σ S i) .non S).1 (frz1 (cellOf σ S i) .non S).2 Q := h
    cases e : cellOf σ S i with
    | none =>
      rw [e] at h'
      exact frz_rd (fr := fr) h' rel r
    | some q =>
      obtain ⟨a, vs⟩ := q
      rw [e] at h'
      obtain ⟨u, S2, q1, q2, q3, q4⟩ := frz_rd (fr := fr) (S := S.del a) h' (rel.del a) r
      exact ⟨u, S2, q1, (Ext.del S H a).trans q2, q3, q4⟩
theorem keeps_lock {a : Addr} {o : HO} {c : Cell} (hS : S a = some c) : Keeps (Mset S hid) H (Mset (S.del a) hid) (upd H a o) := ⟨fun p u e sd n => by
  have ne : p ≠ a := fun z => n (.inl (by rw [z, hS]; exact fun q => nomatch q))
  refine ⟨by rw [upd_ne ne]; exact e, fun z => n ?_⟩
  rcases z with z | z
  · rw [Sto.del_ne ne] at z
    exact .inl z
  · exact .inr z⟩
theorem Rel.lock (r : Rel K hid S H) {a : Addr} {o : Obj} {kvs : List (Key × Val)} {u : HO} (hS : S a = some (.dK kvs)) : Rel K hid (S.del a) (upd H a (.frz o u)) where
  cells := fun b d e => by
    by_cases q : b = a
    · rw [q, Sto.del_same] at e
      cases e
    · rw [Sto.del_ne q] at e
      exact (r.cells b d e).keep (keeps_lock hS) (upd_ne q)
  hids := fun p hp => by
    obtain ⟨xs, e⟩ := r.hids p hp
    refine ⟨xs, ?_⟩
    rw [upd_ne fun (z : p = a) => by have := r.dis p hp; rw [z, hS] at this; cases this]
    exact e
  dis := (r.del a).dis
  tabs := by
    obtain ⟨xs, e, _⟩ := r.cells a _ hS
    exact tabs_put r.tabs (fun ps z => by rw [e] at z; cases z) fun c q z => by rw [e] at z; cases z
theorem Ext.lock {a : Addr} {o : HO} {c : Cell} (hS : S a = some c) : Ext S H (S.del a) (upd H a o) where
  keep := fun p u e sd k => by
    have ne : p ≠ a := fun z => by rw [z, hS] at k; cases k
    exact ⟨by rw [upd_ne ne]; exact e, by rw [Sto.del_ne ne]; exact k⟩
  dom := fun p hp => by
    by_cases e : p = a
    · rw [e, upd_same]
      exact fun z => nomatch z
    · rw [upd_ne e]
      exact hp
theorem frz_lk {Q : VQ} {R : Hp → Prop} : ∀ {fr : List Nat} {v : Val} {S : Sto} {H : Hp} {x : V}, frz σ fr v S Q → Rel K hid S H → Rv K (Mset S hid) H v x →
    (∀ u S2 H2, Q u S2 → Ext S H S2 H2 → Rel K hid S2 H2 → Rv K (Mset S2 hid) H2 u x → R H2) → LkQ R H
  | [], v, S, H, x, h, rel, r, go => .here (go v S H h (Ext.refl S H) rel r)
  | i :: fr, v, S, H, x, h, rel, r, go => by
    have h' : frz σ fr (frz1 (cellOf σ S i) v S).1 (frz1 (cellOf σ S i) v S).2 Q := h
    cases e : cellOf σ S i with
    | none =>
      rw [e] at h'
      exact frz_lk (fr := fr) h' rel r go
    | some q =>
      obtain ⟨a, w⟩ := q
      rw [e] at h'
      have nh : ∀ {c : Cell}, S a = some c → ¬ Mset (S.del a) hid a := fun hS z => by
        rcases z with z | z
        · exact z Sto.del_same
        · have := rel.dis a z
          rw [hS] at this
          cases this
      rcases cellOf_inv e with ⟨vs, hS, ew⟩ | ⟨kvs, hS, ew⟩
      · subst ew
        obtain ⟨xs, hA, rs⟩ := rel.cells a _ hS
        exact frz_lk (fr := fr) h' (rel.del a) (sbst_rv keeps_del (show Rv K (Mset (S.del a) hid) H (.lst vs) (.ref a) from ⟨a, xs, rfl, hA, nh hS, rs.keep keeps_del⟩) r) fun u S2 H2 q1 q2 => go u S2 H2 q1 ((Ext.del S H a).trans q2)
      · subst ew
        obtain ⟨xs, hA, rs⟩ := rel.cells a _ hS
        exact .lock a _ hA fun od =>
          frz_lk (fr := fr) h' (rel.lock hS) (sbst_rv (keeps_lock hS) (show Rv K (Mset (S.del a) hid) _ (.dct (kvs.map (·.1)) (kvs.map (·.2))) (.ref a) from ⟨a, od, xs, rfl, upd_same, nh hS, by rw [List.length_map, List.length_map], rs.keep (keeps_lock hS)⟩) r) fun u S2 H2 q1 q2 => go u S2 H2 q1 ((Ext.lock hS).trans q2)
theorem sS_ret {e : Expr} {me : E} {fr : List Nat} {pos : Pos} (he : PE X e (tEv G X.K me)) : PS X (.Return (some e) pos) (tSv G X.K (.ret me fr)) :=
  PS.wk (ps_ret (pe_lk he)) fun D σ' H ⟨σ, S, hid, w, h⟩ => (t1 (a := me) w h).mono fun x' H1 ⟨S1, v, e1, w1, r, z⟩ =>
    frz_lk z w1.rel r fun u S2 H2 q1 q2 q3 q4 => q1 x' H2 (e1.trans q2) q3 q4
theorem sS_retn {fr : List Nat} {pos : Pos} : PS X (.Return none pos) (tSv G X.K (.retn fr)) :=
  PS.wk ps_retN fun D σ' H ⟨σ, S, hid, w, h⟩ => by
    obtain ⟨u, S2, q1, q2, q3, q4⟩ := frz_rd (x := .non) h w.rel rfl
    exact q1 .non H q2 q3 q4
theorem sS_if {t : Expr} {a b : List Stmt} {mt : E} {ma mb : Ss} {pos : Pos} (ht : PT X t (tTv G X.K mt)) (ha : PSs X a (tSs G X.K ma)) (hb : PSs X b (tSs G X.K mb)) : PS X (.If t a b pos) (tSv G X.K (.ifs mt ma mb)) :=
  PS.wk (ps_if ht ha hb) fun D σ' H ⟨σ, S, hid, w, h⟩ => (tT (a := mt) w h).mono fun k H1 ⟨S1, e1, w1, z⟩ => by
    cases k with
    | true => exact iteT ⟨σ, S1, hid, w1, evSs_mono ma (lift_le e1) z⟩
    | false => exact iteF ⟨σ, S1, hid, w1, evSs_mono mb (lift_le e1) z⟩
theorem sS_while {t : Expr} {b : List Stmt} {mt : E} {mb : Ss} {pos : Pos} (hp : PassesOwn (model X.prog X.w) X.A X.env X.xe) (ht : PT X t (tTv G X.K mt)) (hb : PSs X b (tSs G X.K mb)) : PS X (.While t b [] pos) (tSv G X.K (.whl mt mb)) :=
  PS.wk (ps_while hp ht hb) fun D σ' H ⟨σ, S, hid, w, h⟩ => by
    obtain ⟨n, h⟩ := h
    refine ⟨fun m σ2' H2 => ∃ σ2 S2, Wd G X.K σ2 S2 hid σ2' H2 ∧ Ext S H S2 H2 ∧ whlN (fun σ S Q => evE G.c mt σ S (tst Q)) (evSs G.c mb) m (lift X.K hid S H D) σ2 S2, ⟨n, σ, S, w, Ext.refl S H, h⟩, ?_⟩
    rintro m σ2' H2 ⟨σ2, S2, w2, e2, h2⟩
    cases m with
    | zero => exact h2.elim
    | succ m =>
      refine (tT (a := mt) w2 h2).mono fun k H3 ⟨S3, e3, w3, z⟩ => ?_
      cases k with
      | true =>
        refine iteT ⟨fun σ4' H4 => ∃ σ4 S4, Wd G X.K σ4 S4 hid σ4' H4 ∧ Ext S H S4 H4 ∧ whlN (fun σ S Q => evE G.c mt σ S (tst Q)) (evSs G.c mb) m (lift X.K hid S H D) σ4 S4, fun σ4' H4 q => ⟨m, Nat.lt_succ_self m, q⟩, σ2, S3, hid, w3, ?_⟩
        refine evSs_mono mb (D := { lift X.K hid S H D with nx := whlN (fun σ S Q => evE G.c mt σ S (tst Q)) (evSs G.c mb) m (lift X.K hid S H D), ct := whlN (fun σ S Q => evE G.c mt σ S (tst Q)) (evSs G.c mb) m (lift X.K hid S H D), bk := (lift X.K hid S H D).nx }) ⟨fun σ4 S4 q σ4' H4 e4 rel4 env4 => ?_, fun v S4 q v' H4 e4 => q v' H4 ((e2.trans e3).trans e4), fun σ4 S4 q σ4' H4 e4 => q σ4' H4 ((e2.trans e3).trans e4), fun σ4 S4 q σ4' H4 e4 rel4 env4 => ?_⟩ z
        · exact ⟨σ4, S4, ⟨w3.p, w3.ex.trans e4, rel4, env4, AgT.all _, w3.hT⟩, (e2.trans e3).trans e4, q⟩
        · exact ⟨σ4, S4, ⟨w3.p, w3.ex.trans e4, rel4, env4, AgT.all _, w3.hT⟩, (e2.trans e3).trans e4, q⟩
      | false => exact iteF (z σ2' H3 (e2.trans e3) w3.rel w3.env)
theorem sS_for {tg iter : Expr} {b : List Stmt} {t : Tg} {mi : It} {mb : Ss} {pos : Pos} (hp : PassesOwn (model X.prog X.w) X.A X.env X.xe) (hc : X.calm = true) (hi : PI X tg iter (iEv G X.K mi)) (hg : PG X tg (gOf X.K t)) (hb : PSs X b (tSs G X.K mb)) (hs : ∀ x, foldedSetIterable iter X.env x = pure x) :
    PS X (.For tg iter b [] pos) (tSv G X.K (.forr t mi mb)) :=
  PS.wk (ps_for hp hc hi hg hb hs) fun D σ' H ⟨σ, S, hid, w, h⟩ => by
    refine ⟨σ, S, hid, w, evIt_mono mi (fun items chk S1 z J H1 e1 rel1 fd => ?_) h⟩
    have w1 := w.step e1 rel1
    have hh : ∀ p, hid p → hid p ∨ H1 p = none := fun p z => .inl z
    refine ⟨fun i m σ2' H2 => m = items.length - i ∧ i ≤ items.length ∧ ∃ σ2 S2, Wd G X.K σ2 S2 hid σ2' H2 ∧ Ext S1 H1 S2 H2 ∧ forL (fun v D' σ' S' => asg t v σ' fun σ2 => evSs G.c mb D' σ2 S') chk (items.drop i) (lift X.K hid S H D) σ2 S2,
      ⟨items.length, by simp, Nat.zero_le _, σ, S1, w1, Ext.refl S1 H1, by rw [List.drop_zero]; exact z⟩, ?_⟩
    rintro i m σ2' H2 ⟨rfl, hle, σ2, S2, w2, e2, hf⟩
    by_cases hlt : i < items.length
    · rw [List.drop_eq_getElem_cons hlt] at hf
      obtain ⟨ck, st⟩ := hf
      obtain ⟨go, yl⟩ := fd.go hh e2 w2.rel ck (show items[i]? = some items[i] by simp [hlt])
      refine .inr ⟨go, fun σ4' H4 => i + 1 ≤ items.length ∧ ∃ σ4 S4, Wd G X.K σ4 S4 hid σ4' H4 ∧ Ext S1 H1 S4 H4 ∧ forL (fun v D' σ' S' => asg t v σ' fun σ2 => evSs G.c mb D' σ2 S') chk (items.drop (i + 1)) (lift X.K hid S H D) σ4 S4,
        fun σ4' H4 q => ⟨items.length - (i + 1), by omega, rfl, q⟩, fun x H3 hy => ?_⟩
      obtain ⟨e3, rel3, rx, fr⟩ := yl x H3 hy
      have w3 := w2.step e3 rel3
      refine asg_rd st w3.env rx fun σ3 σ3' hk put => ⟨σ3, S2, hid, ⟨w3.p, w3.ex, rel3, put.env, AgT.all _, w3.hT⟩, ?_⟩
      have e13 := e2.trans e3
      refine evSs_mono mb (D := { lift X.K hid S H D with nx := forL (fun v D' σ' S' => asg t v σ' fun σ2 => evSs G.c mb D' σ2 S') chk (items.drop (i + 1)) (lift X.K hid S H D), ct := forL (fun v D' σ' S' => asg t v σ' fun σ2 => evSs G.c mb D' σ2 S') chk (items.drop (i + 1)) (lift X.K hid S H D), bk := (lift X.K hid S H D).nx })
        ⟨fun σ4 S4 q σ4' H4 e4 rel4 env4 => ?_, fun v S4 q v' H4 e4 => q v' H4 (e1.trans (e13.trans e4)), fun σ4 S4 q σ4' H4 e4 => q σ4' H4 (e1.trans (e13.trans e4)), fun σ4 S4 q σ4' H4 e4 rel4 env4 => ?_⟩ hk
      · exact ⟨hlt, σ4, S4, ⟨w3.p, w3.ex.trans e4, rel4, env4, AgT.all _, w3.hT⟩, e13.trans e4, q⟩
      · exact ⟨hlt, σ4, S4, ⟨w3.p, w3.ex.trans e4, rel4, env4, AgT.all _, w3.hT⟩, e13.trans e4, q⟩
    · have ei : i = items.length := by omega
      subst ei
      rw [List.drop_length] at hf
      exact .inl ⟨fd.stop hh e2 w2.rel hf.1, hf.2 σ2' H2 (e1.trans e2) w2.rel w2.env⟩
end
end Li
set_option Elab.async false
set_option linter.all false
set_option maxRecDepth 100000
set_option maxHeartbeats 2000000
/-! LiZip: zip(a, b, strict=True) of two rows alike long, lists or tuples, at the model's level. -/
namespace LiZ
open PySem
section
variable {P : Program} {w : World} {A : Around} {E : Value → Shared → Prop} {s : Shared}
theorem endOr_item {it : Addr} {fp : List Addr} {n i : Nat} {Pv : Nat → Value → Prop} {St : Nat → Heap → Prop} {Q : Option Value → Shared → Prop} (D : Draws P w A it fp n Pv St) (hi : i < n) (st : St i s.heap)
    (q : ∀ x h' tk, Pv i x → St (i + 1) h' → Heap.SameBut it s.heap h' → Q (some x) { s with heap := h', toks := tk }) : wpAny (model P w) A (Builtin.SmallTypes.nextOrEnd (.ref it)) Q E s := by
  unfold Builtin.SmallTypes.nextOrEnd
  exact wpAny_bind (wpAny_attempt (D.item i s _ _ hi st fun x h' tk a b c => wpAny_pure (q x h' tk a b c)))
theorem endOr_done {it : Addr} {fp : List Addr} {n : Nat} {Pv : Nat → Value → Prop} {St : Nat → Heap → Prop} {Q : Option Value → Shared → Prop} (D : Draws P w A it fp n Pv St) (st : St n s.heap)
    (q : ∀ h', Heap.ExtBut it s.heap h' → Q none { s with heap := h' }) : wpAny (model P w) A (Builtin.SmallTypes.nextOrEnd (.ref it)) Q E s := by
  unfold Builtin.SmallTypes.nextOrEnd
  refine wpAny_bind (wpAny_attempt (D.done s _ _ st fun h' e k he => ?_))
  obtain ⟨o, ho, hc⟩ := he
  refine wpAny_bind (wpAny_isInstance (T := "StopIteration") (b := true) ⟨o, ho, hc⟩ isSubtype_stop ?_)
  exact wpAny_pure (q h' k)
theorem stop_now {α : Type} {Q : α → Shared → Prop} (hh : A.handled = none) (q : ∀ h' e, (∀ b o, s.heap.get? b = some o → h'.get? b = some o) → (∃ o, h'.get? e = some o ∧ o.cls = .type "StopIteration") → E (.ref e) { s with heap := h' }) :
    wpAny (model P w) A (Builtin.SmallTypes.stopIteration : Sem α) Q E s := by
  show wpAny _ _ (newExc (.type "StopIteration") [] >>= fun e => raiseNew e) _ _ _
  refine wpAny_bind ?_
  simp only [newExc, newTuple]
  refine wpAny_bind (wpAny_newObj_type ?_ (by size_fits))
  refine wpAny_bind (m := firstArgMember _ _) (wpAny_of_eq (a := Value.none) (by first | rfl | (simp only [firstArgMember]; rfl)) ?_)
  refine wpAny_newObj_type ?_ (by size_fits)
  simp only [raiseNew]
  refine wpAny_bind (wpAny_handled ?_)
  rw [hh]
  refine wpAny_bind (wpAny_pure (wpAny_throw (q _ _ (fun b o e => Heap.get?_push_of_some _ (Heap.get?_push_of_some _ e)) ⟨_, Heap.get?_push_size _ rfl, rfl⟩)))
end
/-- a zip that wants its rows alike long -/
abbrev ZipS (h : Heap) (z TI TO : Addr) (f0 : Value) : Prop := h.get? z = some { cls := .type "zip", data := .fields #[f0, .bool false, .bool true, .ref TI, .ref TO] }
section
variable {P : Program} {w : World} {A : Around} {E : Value → Shared → Prop} {s : Shared} {z TI TO i1 i2 : Addr} {fp1 fp2 : List Addr} {n i : Nat} {P1 P2 : Nat → Value → Prop} {St1 St2 : Nat → Heap → Prop} {a1 a2 : Value}
theorem next_item {Q : Value → Shared → Prop} (S : ZipSep2 z TI TO i1 i2 fp1 fp2) (D1 : Draws P w A i1 fp1 n P1 St1) (D2 : Draws P w A i2 fp2 n P2 St2)
    (hz : ZipS s.heap z TI TO .none) (hI : IsTupOf2 s.heap TI (.ref i1) (.ref i2)) (hO : IsTupOf2 s.heap TO a1 a2) (t1 : St1 i s.heap) (t2 : St2 i s.heap) (hi : i < n)
    (q : ∀ x1 x2 h' tk, P1 i x1 → P2 i x2 → ZipS h' z TI TO (rawInt s.heap.objs.size) → IsTupOf2 h' TO x1 x2 → St1 (i + 1) h' → St2 (i + 1) h' → IsTupOf2 h' s.heap.objs.size x1 x2 → h'.objs.size = s.heap.objs.size + 1 →
      (∀ c o, c ≠ z → c ≠ TO → c ≠ i1 → c ≠ i2 → s.heap.get? c = some o → h'.get? c = some o) → Q (.ref s.heap.objs.size) { s with heap := h', toks := tk }) :
    wpAny (model P w) A (Builtin.«zip.__next__» ⟨[.ref z], []⟩) (fun fin s' => ∃ v, fin = .done (.ret v) ∧ Q v s') E s := by
  obtain ⟨m, gn, dr, t0, os⟩ := s
  show wpAny _ A (field (.ref z) 2 >>= _) _ E _
  refine wpAny_bind (wpAny_field hz rfl (x := .bool true) rfl ?_)
  show wpAny _ A (field (.ref z) 3 >>= _) _ E _
  refine wpAny_bind (wpAny_field hz rfl (x := .ref TI) rfl (wpAny_bind (wpAny_seqItems hI rfl ?_)))
  show wpAny _ A (Builtin.SmallTypes.ownedTupleIsFree (.ref z) >>= _) _ E _
  refine wpAny_bind ?_
  unfold Builtin.SmallTypes.ownedTupleIsFree
  refine wpAny_bind (wpAny_field hz rfl (x := .none) rfl (wpAny_pure ?_))
  simp only [if_true]
  refine wpAny_bind (wpAny_rule (wpAny_bind (wpAny_field hz rfl (x := .ref TO) rfl (wpAny_bind (wpAny_setField_rec hz (by simp) fun m0 z0 k0 => ?_)))))
  replace z0 : ZipS m0 z TI TO .ellipsis := z0
  replace k0 : Heap.SameBut z m m0 := k0
  refine wpAny_bind ?_
  simp only [List.zipIdx_cons, List.zipIdx_nil, List.forIn_cons, List.forIn_nil]
  refine wpAny_bind (wpAny_bind (wpAny_onRaise ?_))
  show wpAny _ A (Builtin.SmallTypes.nextOrEnd (.ref i1)) _ _ ⟨m0, gn, dr, t0, os⟩
  refine endOr_item D1 hi (D1.over t1 k0 S.zf1) fun x1 u1 tk1 p1 r1 c1 => ?_
  replace c1 : Heap.SameBut i1 m0 u1 := c1
  have o1 : IsTupOf2 u1 TO a1 a2 := c1.extBut _ _ S.Ti1 (k0.extBut _ _ S.TOz hO)
  refine wpAny_bind (wpAny_seqItems (s := ⟨u1, gn, dr, tk1, os⟩) o1 rfl (wpAny_bind (updateSeq_IsTupOf2 (s := ⟨u1, gn, dr, tk1, os⟩) o1 fun m1 o1' k1 => ?_)))
  replace o1' : IsTupOf2 m1 TO x1 a2 := o1'
  replace k1 : Heap.SameBut TO u1 m1 := k1
  refine wpAny_bind (wpAny_letGo (wpAny_pure (wpAny_bind (wpAny_bind (wpAny_onRaise ?_)))))
  show wpAny _ A (Builtin.SmallTypes.nextOrEnd (.ref i2)) _ _ ⟨m1, gn, dr, tk1, os⟩
  refine endOr_item D2 hi (D2.over (D2.over (D2.over t2 k0 S.zf2) c1 S.sep1_2) k1 S.Tf2) fun x2 u2 tk2 p2 r2 c2 => ?_
  replace c2 : Heap.SameBut i2 m1 u2 := c2
  have o2 : IsTupOf2 u2 TO x1 a2 := c2.extBut _ _ S.Ti2 o1'
  refine wpAny_bind (wpAny_seqItems (s := ⟨u2, gn, dr, tk2, os⟩) o2 rfl (wpAny_bind (updateSeq_IsTupOf2 (s := ⟨u2, gn, dr, tk2, os⟩) o2 fun m2 o2' k2 => ?_)))
  replace o2' : IsTupOf2 m2 TO x1 x2 := o2'
  replace k2 : Heap.SameBut TO u2 m2 := k2
  refine wpAny_bind (wpAny_letGo (wpAny_pure (wpAny_pure (wpAny_bind (wpAny_seqItems (s := ⟨m2, gn, dr, tk2, os⟩) o2' rfl (wpAny_bind (wpAny_newTuple ?_)))))))
  have sz : m2.objs.size = m.objs.size := by rw [k2.1, c2.1, k1.1, c1.1, k0.1]
  have zz : ZipS m2 z TI TO .ellipsis := k2.extBut _ _ S.TOz.symm (c2.extBut _ _ S.zi2 (k1.extBut _ _ S.TOz.symm (c1.extBut _ _ S.zi1 z0)))
  have old : ∀ c o, c ≠ z → c ≠ TO → c ≠ i1 → c ≠ i2 → m.get? c = some o → m2.get? c = some o := fun c o h1 h2 h3 h4 e => k2.extBut _ _ h2 (c2.extBut _ _ h4 (k1.extBut _ _ h2 (c1.extBut _ _ h3 (k0.extBut _ _ h1 e))))
  have f1 : St1 (i + 1) m2 := D1.over (D1.over (D1.over r1 k1 S.Tf1) c2 S.sep2_1) k2 S.Tf1
  have f2 : St2 (i + 1) m2 := D2.over r2 k2 S.Tf2
  have lt : z < m2.objs.size := Heap.lt_size zz
  show wpAny _ A (Builtin.SmallTypes.ownedTupleHandOut (.ref z) (.ref m2.objs.size) >>= _) _ E ⟨m2.push { cls := .type "tuple", data := .seq #[x1, x2] }, gn, dr, tk2, os⟩
  refine wpAny_bind ?_
  unfold Builtin.SmallTypes.ownedTupleHandOut
  have z3 : ZipS (m2.push { cls := .type "tuple", data := .seq #[x1, x2] }) z TI TO .ellipsis := Heap.get?_push_of_some _ zz
  refine wpAny_bind (wpAny_setField_rec z3 (by simp) fun m4 z4 k4 => ?_)
  replace z4 : ZipS m4 z TI TO (rawInt m2.objs.size) := z4
  refine wpAny_setField_rec z4 (by simp) fun m5 z5 k5 => ?_
  replace z5 : ZipS m5 z TI TO (rawInt m2.objs.size) := z5
  replace k4 : Heap.SameBut z (m2.push { cls := .type "tuple", data := .seq #[x1, x2] }) m4 := k4
  replace k5 : Heap.SameBut z m4 m5 := k5
  have up : ∀ c o, c ≠ z → m2.get? c = some o → m5.get? c = some o := fun c o h1 e => k5.extBut _ _ h1 (k4.extBut _ _ h1 (Heap.get?_push_of_some _ e))
  have tn : IsTupOf2 m5 m2.objs.size x1 x2 := k5.extBut _ _ (Nat.ne_of_gt lt) (k4.extBut _ _ (Nat.ne_of_gt lt) (Heap.get?_push_size _ rfl))
  have s5 : m5.objs.size = m2.objs.size + 1 := by rw [k5.1, k4.1, Heap.size_push]
  rw [sz] at z5 tn s5
  refine wpAny_pure ⟨_, rfl, ?_⟩
  show Q (.ref m2.objs.size) ⟨m5, gn, dr, tk2, os⟩
  rw [sz]
  exact q x1 x2 m5 tk2 p1 p2 z5 (up _ _ S.TOz o2') (D1.frame _ _ _ f1 fun b hb o e => up b o (fun y => S.zf1 (y ▸ hb)) e) (D2.frame _ _ _ f2 fun b hb o e => up b o (fun y => S.zf2 (y ▸ hb)) e) tn s5 fun c o h1 h2 h3 h4 e => up c o h1 (old c o h1 h2 h3 h4 e)
theorem next_end {Q : PySem.Fin → Shared → Prop} (hh : A.handled = none) (S : ZipSep2 z TI TO i1 i2 fp1 fp2) (D1 : Draws P w A i1 fp1 n P1 St1) (D2 : Draws P w A i2 fp2 n P2 St2)
    (hz : ZipS s.heap z TI TO .none) (hI : IsTupOf2 s.heap TI (.ref i1) (.ref i2)) (hO : IsTupOf2 s.heap TO a1 a2) (t1 : St1 n s.heap) (t2 : St2 n s.heap)
    (q : ∀ h' e, (∀ c o, c ≠ z → c ≠ TO → c ≠ i1 → c ≠ i2 → s.heap.get? c = some o → h'.get? c = some o) → (∃ o, h'.get? e = some o ∧ o.cls = .type "StopIteration") → E (.ref e) { s with heap := h' }) :
    wpAny (model P w) A (Builtin.«zip.__next__» ⟨[.ref z], []⟩) Q E s := by
  obtain ⟨m, gn, dr, t0, os⟩ := s
  show wpAny _ A (field (.ref z) 2 >>= _) _ E _
  refine wpAny_bind (wpAny_field hz rfl (x := .bool true) rfl ?_)
  show wpAny _ A (field (.ref z) 3 >>= _) _ E _
  refine wpAny_bind (wpAny_field hz rfl (x := .ref TI) rfl (wpAny_bind (wpAny_seqItems hI rfl ?_)))
  show wpAny _ A (Builtin.SmallTypes.ownedTupleIsFree (.ref z) >>= _) _ E _
  refine wpAny_bind ?_
  unfold Builtin.SmallTypes.ownedTupleIsFree
  refine wpAny_bind (wpAny_field hz rfl (x := .none) rfl (wpAny_pure ?_))
  simp only [if_true]
  refine wpAny_bind (wpAny_rule (wpAny_bind (wpAny_field hz rfl (x := .ref TO) rfl (wpAny_bind (wpAny_setField_rec hz (by simp) fun m0 z0 k0 => ?_)))))
  replace z0 : ZipS m0 z TI TO .ellipsis := z0
  replace k0 : Heap.SameBut z m m0 := k0
  refine wpAny_bind ?_
  simp only [List.zipIdx_cons, List.zipIdx_nil, List.forIn_cons, List.forIn_nil]
  refine wpAny_bind (wpAny_bind (wpAny_onRaise ?_))
  show wpAny _ A (Builtin.SmallTypes.nextOrEnd (.ref i1)) _ _ ⟨m0, gn, dr, t0, os⟩
  refine endOr_done D1 (D1.over t1 k0 S.zf1) fun u1 c1 => ?_
  replace c1 : Heap.ExtBut i1 m0 u1 := c1
  have z1 : ZipS u1 z TI TO .ellipsis := c1 _ _ S.zi1 z0
  have x2 : St2 n u1 := D2.frame _ _ _ (D2.over t2 k0 S.zf2) fun b hb o e => c1 b o (fun y => S.sep1_2 (y ▸ hb)) e
  refine wpAny_bind (wpAny_setField_rec (s := ⟨u1, gn, dr, t0, os⟩) z1 (by simp) fun m1 z2 k1 => ?_)
  replace k1 : Heap.SameBut z u1 m1 := k1
  refine wpAny_bind ?_
  refine (?_ : wpAny _ A (_ >>= _) _ _ _)
  refine wpAny_bind ?_
  show wpAny _ A (forIn [((Value.ref i2), 1)] PUnit.unit _) _ _ _
  simp only [List.forIn_cons, List.forIn_nil]
  replace x2 : St2 n m1 := D2.over x2 k1 S.zf2
  refine wpAny_bind (wpAny_bind (endOr_done (s := ⟨m1, gn, dr, t0, os⟩) D2 x2 fun u2 c2 => ?_))
  replace c2 : Heap.ExtBut i2 m1 u2 := c2
  refine wpAny_pure (wpAny_pure (wpAny_bind (wpAny_rule ?_)))
  refine stop_now (s := ⟨u2, gn, dr, t0, os⟩) hh fun m3 e k3 he => ?_
  exact q m3 e (fun c o h1 h2 h3 h4 y => k3 _ _ (c2 _ _ h4 (k1.extBut _ _ h1 (c1 _ _ h3 (k0.extBut _ _ h1 y))))) he
theorem py_item {Q : Option Value → Shared → Prop} (S : ZipSep2 z TI TO i1 i2 fp1 fp2) (D1 : Draws P w A.in1 i1 fp1 n P1 St1) (D2 : Draws P w A.in1 i2 fp2 n P2 St2)
    (hz : ZipS s.heap z TI TO .none) (hI : IsTupOf2 s.heap TI (.ref i1) (.ref i2)) (hO : IsTupOf2 s.heap TO a1 a2) (t1 : St1 i s.heap) (t2 : St2 i s.heap) (hi : i < n)
    (q : ∀ x1 x2 h' tk, P1 i x1 → P2 i x2 → ZipS h' z TI TO (rawInt s.heap.objs.size) → IsTupOf2 h' TO x1 x2 → St1 (i + 1) h' → St2 (i + 1) h' → IsTupOf2 h' s.heap.objs.size x1 x2 → h'.objs.size = s.heap.objs.size + 1 →
      (∀ c o, c ≠ z → c ≠ TO → c ≠ i1 → c ≠ i2 → s.heap.get? c = some o → h'.get? c = some o) → Q (some (.ref s.heap.objs.size)) { s with heap := h', toks := tk }) : wpAny (model P w) A (pyNext (.ref z)) Q E s := by
  have ty : s.TypeIs (.ref z) "zip" := ⟨_, hz, rfl⟩
  unfold pyNext
  exact wpAny_bind (wpAny_attempt (wpAny_callSpecial?_slot (name := Str.ofString "__next__") ty F.slot_zip_next (wpAny_call_entry F.slot_zip_next ty F.entry_zip_next
    (next_item S D1 D2 hz hI hO t1 t2 hi fun x1 x2 h' tk b1 b2 b3 b4 b5 b6 b7 b8 b9 => wpAny_pure (q x1 x2 h' tk b1 b2 b3 b4 b5 b6 b7 b8 b9)) (F.args_zip_next_1 _))))
theorem py_end {Q : Option Value → Shared → Prop} (hh : A.handled = none) (S : ZipSep2 z TI TO i1 i2 fp1 fp2) (D1 : Draws P w A.in1 i1 fp1 n P1 St1) (D2 : Draws P w A.in1 i2 fp2 n P2 St2)
    (hz : ZipS s.heap z TI TO .none) (hI : IsTupOf2 s.heap TI (.ref i1) (.ref i2)) (hO : IsTupOf2 s.heap TO a1 a2) (t1 : St1 n s.heap) (t2 : St2 n s.heap)
    (q : ∀ h', (∀ c o, c ≠ z → c ≠ TO → c ≠ i1 → c ≠ i2 → s.heap.get? c = some o → h'.get? c = some o) → Q none { s with heap := h' }) : wpAny (model P w) A (pyNext (.ref z)) Q E s := by
  have ty : s.TypeIs (.ref z) "zip" := ⟨_, hz, rfl⟩
  unfold pyNext
  refine wpAny_bind (wpAny_attempt (wpAny_callSpecial?_slot (name := Str.ofString "__next__") ty F.slot_zip_next (wpAny_call_entry F.slot_zip_next ty F.entry_zip_next (next_end (A := A.in1) hh S D1 D2 hz hI hO t1 t2 fun h' e k he => ?_) (F.args_zip_next_1 _))))
  obtain ⟨o, ho, hc⟩ := he
  exact wpAny_bind (wpAny_isInstance (T := "StopIteration") (b := true) ⟨o, ho, hc⟩ isSubtype_stop (wpAny_pure (q _ k)))
theorem let_go {elts : List Expr} {k : Nat} {pos : Pos} {T : Addr} {Q : Unit → Shared → Prop} (hz : ZipS s.heap z TI TO (rawInt T)) (q : ∀ h', ZipS h' z TI TO .none → Heap.SameBut z s.heap h' → Q () { s with heap := h' }) :
    wpAny (model P w) A (letOwnedTupleGo (.Tuple elts k pos) (.ref z) (.ref T)) Q E s := by
  unfold letOwnedTupleGo
  refine wpAny_bind (wpAny_load hz ?_)
  refine (?_ : wpAny _ A (if (["enumerate", "zip", "dict_itemiterator", "dict_reverseitemiterator", "odict_iterator", "itertools.zip_longest", "itertools.pairwise"].contains "zip" && (#[rawInt T, .bool false, .bool true, .ref TI, .ref TO] : Array Value)[0]? == some (rawInt T)) = true then _ else _) Q E s)
  rw [if_pos (by simp)]
  refine wpAny_bind (wpAny_rule (?_ : wpAny _ A (setField (.ref z) 0 .none) Q E s))
  exact wpAny_setField_rec hz (by simp) fun h' hz' hs' => q h' hz' hs'
theorem py_iter {f0 : Value} {Q : Value → Shared → Prop} (hz : ZipS s.heap z TI TO f0) (h : Q (.ref z) s) : wpAny (model P w) A (pyIter (.ref z)) Q E s := by
  have ty : s.TypeIs (.ref z) "zip" := ⟨_, hz, rfl⟩
  refine wpAny_pyIter_slot ty F.slot_zip_iter (wpAny_call_entry F.slot_zip_iter ty F.entry_zip_iter (?_ : wpAny _ _ (ret (.ref z)) _ _ s) (F.args_zip_iter_1 _))
  exact wpAny_pure ⟨_, rfl, "zip", _, ty, F.slot_zip_next.lookup, h⟩
end
theorem type_call (a b c : Value) : checkTypeCall "zip" ⟨[a, b], [(Str.ofString "strict", c)]⟩ = pure () := by kernel_rfl
theorem new_call (a b c : Value) : checkBuiltinCall "zip.__new__" ⟨[.type "zip", a, b], [(Str.ofString "strict", c)]⟩ = pure () := by kernel_rfl
theorem init_args (obj a b c : Value) : argsOk "object.__init__" ⟨[obj, a, b], [(Str.ofString "strict", c)]⟩ := by unfold argsOk; kernel_rfl
abbrev hT2 (h : Heap) (o1 o2 : Obj) : Heap := ((h.push o1).push o2).push { cls := .type "tuple", data := .seq #[.ref h.objs.size, .ref (h.push o1).objs.size] }
abbrev hO2 (h : Heap) (o1 o2 : Obj) : Heap := (hT2 h o1 o2).push { cls := .type "tuple", data := .seq #[.none, .none] }
abbrev hZ2 (h : Heap) (o1 o2 : Obj) : Heap := (hO2 h o1 o2).push { cls := .type "zip", data := .fields #[.none, .bool false, .bool true, .ref ((h.push o1).push o2).objs.size, .ref (hT2 h o1 o2).objs.size] }
theorem meets_new {v1 v2 : Value} {o1 o2 : Obj} {H1 H2 : Heap → Prop} (B1 : Begins v1 o1 H1) (B2 : Begins v2 o2 H2) :
    Meets (Builtin.«zip.__new__» ⟨[.type "zip", v1, v2], [(Str.ofString "strict", .bool true)]⟩) (fun _ R s => (H1 s.heap ∧ H2 s.heap) ∧ R (.ok (.ret (.ref (hO2 s.heap o1 o2).objs.size))) { s with heap := hZ2 s.heap o1 o2 }) :=
  .of_wp fun prog w A R s h => by
    obtain ⟨m, gn, dr, tk, os⟩ := s
    obtain ⟨⟨h1, h2⟩, h⟩ := h
    have hsub := sub_zip
    have e2 : (Str.ofString "strict" != ("strict" : Str)) = false := by decide +kernel
    have q1 : ∀ {A' : Around} {E : Value → Shared → Prop} {Q : Value → Shared → Prop}, Q (.ref m.objs.size) ⟨m.push o1, gn, dr, tk, os⟩ → wpAny (model prog w) A' (pyIter v1) Q E ⟨m, gn, dr, tk, os⟩ :=
      fun q => B1.iter prog w _ _ ⟨m, gn, dr, tk, os⟩ _ h1 q
    have q2 : ∀ {A' : Around} {E : Value → Shared → Prop} {Q : Value → Shared → Prop}, Q (.ref (m.push o1).objs.size) ⟨(m.push o1).push o2, gn, dr, tk, os⟩ → wpAny (model prog w) A' (pyIter v2) Q E ⟨m.push o1, gn, dr, tk, os⟩ :=
      fun q => B2.iter prog w _ _ ⟨m.push o1, gn, dr, tk, os⟩ _ (B2.keeps _ _ h2 fun b o' e => Heap.get?_push_of_some _ e) q
    wp_walk using q1, q2
    exact ⟨_, rfl, h⟩
end LiZ
set_option Elab.async false
set_option linter.all false
set_option maxRecDepth 100000
set_option maxHeartbeats 2000000
/-! LiZipI: zip(a, b, strict=True) and enumerate(x) as what a loop walks. -/
namespace LiZ
open PySem
section
variable {P : Program} {w : World} {A : Around} {E : Value → Shared → Prop} {s : Shared}
theorem begins {v1 v2 : Value} {o1 o2 : Obj} {H1 H2 : Heap → Prop} {Q : Value → Shared → Prop} (B1 : Begins v1 o1 H1) (B2 : Begins v2 o2 H2) (h1 : H1 s.heap) (h2 : H2 s.heap)
    (h : ∀ h', ZipS h' (s.heap.objs.size + 4) (s.heap.objs.size + 2) (s.heap.objs.size + 3) .none → IsTupOf2 h' (s.heap.objs.size + 2) (.ref s.heap.objs.size) (.ref (s.heap.objs.size + 1)) →
      IsTupOf2 h' (s.heap.objs.size + 3) .none .none → h'.get? s.heap.objs.size = some o1 → h'.get? (s.heap.objs.size + 1) = some o2 →
      (∀ c o, s.heap.get? c = some o → h'.get? c = some o) → Q (.ref (s.heap.objs.size + 4)) { s with heap := h' }) : wpAny (model P w) A (call (.type "zip") [v1, v2] [(Str.ofString "strict", .bool true)]) Q E s := by
  refine callType_newKw F.called_zip (by decide) (type_call _ _ _) (new_call _ _ _) (fun obj => init_args obj _ _ _) F.entry_zip_new (meets_new B1 B2) ⟨⟨h1, h2⟩, ?_⟩
  have n1 : (s.heap.push o1).objs.size = s.heap.objs.size + 1 := by rw [Heap.size_push]
  have n2 : ((s.heap.push o1).push o2).objs.size = s.heap.objs.size + 2 := by rw [Heap.size_push, n1]
  have n3 : (hT2 s.heap o1 o2).objs.size = s.heap.objs.size + 3 := by rw [Heap.size_push, n2]
  have n4 : (hO2 s.heap o1 o2).objs.size = s.heap.objs.size + 4 := by rw [Heap.size_push, n3]
  have c4 : (hZ2 s.heap o1 o2).get? (hO2 s.heap o1 o2).objs.size = some _ := Heap.get?_push_size _ rfl
  have c3 : (hZ2 s.heap o1 o2).get? (hT2 s.heap o1 o2).objs.size = some _ := Heap.get?_push_of_some _ (Heap.get?_push_size _ rfl)
  have c2 : (hZ2 s.heap o1 o2).get? ((s.heap.push o1).push o2).objs.size = some _ := Heap.get?_push_of_some _ (Heap.get?_push_of_some _ (Heap.get?_push_size _ rfl))
  have c0 : (hZ2 s.heap o1 o2).get? s.heap.objs.size = some o1 := Heap.get?_push_of_some _ (Heap.get?_push_of_some _ (Heap.get?_push_of_some _ (Heap.get?_push_of_some _ (Heap.get?_push_size _ B1.free))))
  have c1 : (hZ2 s.heap o1 o2).get? (s.heap.push o1).objs.size = some o2 := Heap.get?_push_of_some _ (Heap.get?_push_of_some _ (Heap.get?_push_of_some _ (Heap.get?_push_size _ B2.free)))
  rw [n4, n3, n2] at c4
  rw [n3] at c3
  rw [n2, n1] at c2
  rw [n1] at c1
  refine (?_ : _ ∧ _)
  rw [n4]
  exact ⟨⟨_, c4, rfl⟩, h _ c4 c2 c3 c0 c1 fun c o e => Heap.get?_push_of_some _ (Heap.get?_push_of_some _ (Heap.get?_push_of_some _ (Heap.get?_push_of_some _ (Heap.get?_push_of_some _ e))))⟩
/-- f(e, .., k = v) of a built-in class -/
theorem callTyKw {M : Model} {env : PySem.Env} {pos : Pos} {T : String} {e : Expr} {rest : List Expr} {kws : List Keyword} {Q : Value → Shared → Prop}
    (h : wpAny M A (spliced (backTo pos (starEach (e :: rest) env))) (fun vs s1 => wpAny M A (evalAll ((backToKw pos (keywordEach kws env)).map (·.2))) (fun ws s2 => wpAny M A (call (.type T) vs (((backToKw pos (keywordEach kws env)).filterMap (·.1)).zip ws)) Q E s2) E s1) E s)
    (he : starEach (e :: rest) env = (false, eval e env) :: starEach rest env) (hpl : (backTo pos (starEach (e :: rest) env)).any (·.1) = false) (hall : (backToKw pos (keywordEach kws env)).all (·.1.isSome) = true) (hno : (backToKw pos (keywordEach kws env)).any (·.1.isNone) = false) :
    wpAny M A (callWith pos (.type T) [] (backTo pos (starEach (e :: rest) env)) (backToKw pos (keywordEach kws env))) Q E s := by
  unfold callWith
  refine wpAny_bind (wpAny_holding (PyProof.Rows.evalArgs_kw2 hall (L2.thn h fun vs s1 h1 => L2.thn h1 fun ws s2 h2 => ?_) he))
  refine wpAny_bind (wpAny_standAt ?_)
  simp only [hpl, hno, Bool.or_false]
  refine wpAny_bind (wpAny_pure ?_)
  exact wpAny_bind (L2.thn h2 fun r s3 hr => wpAny_bind (wpAny_holding (wpAny_point (wpAny_pure hr))))
end
end LiZ
namespace L2
open PySem
/-- a row: a list or a tuple -/
def SqB (k : Bool) (K : PySem.W.Frag) (H : Hp) (a : Addr) (xs : List V) : Prop := match k with
  | false => SqL K H a xs
  | true => SqT K H a xs
def RowAt (k : Bool) (h : Heap) (a : Addr) (vs : Array Value) : Prop := match k with
  | false => h.IsList a vs
  | true => h.IsTuple a vs
def IterAt (k : Bool) (h : Heap) (it a : Addr) (i : Nat) : Prop := match k with
  | false => h.IsListIter it a i
  | true => h.IsTupleIter it a i
def iterObj (k : Bool) (a : Addr) : Obj := match k with
  | false => { cls := .type "list_iterator", data := .fields #[.ref a, .int 0 0] }
  | true => { cls := .type "tuple_iterator", data := .fields #[.ref a, .int 0 0] }
theorem drawsB {P : Program} {w : World} {A : Around} (k : Bool) (hh : A.handled = none) (it l : Addr) (hne : l ≠ it) (items : Array Value) : Draws P w A it [it, l] items.size (fun i v => items[i]? = some v) (fun i h => IterAt k h it l i ∧ RowAt k h l items) := by
  cases k with
  | false => exact Draws.list hh it l hne items
  | true => exact Draws.tuple hh it l hne items
theorem beginsB (k : Bool) (a : Addr) (items : Array Value) : Begins (.ref a) (iterObj k a) (fun h => RowAt k h a items) := by
  cases k with
  | false => exact begins_list a items
  | true => exact begins_tuple a items
theorem iterB0 {k : Bool} {h : Heap} {it a : Addr} (e : h.get? it = some (iterObj k a)) : IterAt k h it a 0 := by
  cases k with
  | false => exact ⟨_, e, rfl, rfl⟩
  | true => exact ⟨_, e, rfl, rfl⟩
theorem iterB_at {k : Bool} {h h' : Heap} {it a : Addr} {i : Nat} (x : IterAt k h it a i) (e : ∀ o, h.get? it = some o → h'.get? it = some o) : IterAt k h' it a i := by
  cases k with
  | false => exact Heap.IsListIter.at x e
  | true => exact Heap.IsTupleIter.at x e
theorem iterB_obj {k : Bool} {h : Heap} {it a : Addr} {i : Nat} (x : IterAt k h it a i) : ∃ o, h.get? it = some o ∧ ∀ v, o.data ≠ .cell v := by
  cases k with
  | false =>
    obtain ⟨o, e, _, d⟩ := x
    exact ⟨o, e, fun v q => by rw [d] at q; cases q⟩
  | true =>
    obtain ⟨o, e, _, d⟩ := x
    exact ⟨o, e, fun v q => by rw [d] at q; cases q⟩
section
variable {X : Cx} {pins : List (Addr × Obj)} {σ : L2.St} {H : Hp} {s : Shared}
theorem Inv.rowB {k : Bool} {a : Addr} {xs : List V} (I : L2.Inv X pins σ H s) (h : SqB k X.K H a xs) : ∃ its : List Value, Vals xs its ∧ RowAt k s.heap a its.toArray ∧ xs.length ≤ sizeLine ∧ a < s.heap.objs.size := by
  cases k with
  | false =>
    obtain ⟨its, r, p, z⟩ := I.list h
    exact ⟨its, r, p.isList, z, p.lt⟩
  | true =>
    obtain ⟨its, r, p, z⟩ := I.tuple h
    obtain ⟨o, e, _⟩ := id p
    exact ⟨its, r, p, z, Heap.lt_size e⟩
theorem Inv.injB {k : Bool} {a : Addr} {xs ys : List V} (I : L2.Inv X pins σ H s) (h : SqB k X.K H a xs) (h' : SqB k X.K H a ys) : xs = ys := by
  cases k with
  | false => exact I.list_inj h h'
  | true => exact I.tuple_inj h h'
end
/-- the rows at a and b as they stand at each turn, alike long, the items in new pairs -/
def ItzS (k1 k2 : Bool) (K : PySem.W.Frag) (a b : Addr) : L2.It :=
  ⟨fun i H => ∃ (xs ys : List V) (x y : V), SqB k1 K H a xs ∧ SqB k2 K H b ys ∧ xs.length = ys.length ∧ xs[i]? = some x ∧ ys[i]? = some y,
    fun i H v H' => ∃ T x y, v = .ref T ∧ H T = none ∧ H' = upd H T (.tup [x, y]) ∧ (∀ xs, SqB k1 K H a xs → xs[i]? = some x) ∧ ∀ ys, SqB k2 K H b ys → ys[i]? = some y,
    fun i H => ∃ xs ys : List V, SqB k1 K H a xs ∧ SqB k2 K H b ys ∧ xs.length = i ∧ ys.length = i⟩
structure Five (z TI TO i1 i2 a b : Addr) : Prop where
  sep : ZipSep2 z TI TO i1 i2 [i1, a] [i2, b]
  a1 : a ≠ i1
  b2 : b ≠ i2
theorem na {x y : Nat} (h : x < y ∨ y < x) : @Ne Addr x y := fun e => by
  have e2 : @Eq Nat x y := e
  omega
theorem five_at (n a b : Nat) (ha : a < n) (hb : b < n) : Five (n + 4) (n + 2) (n + 3) n (n + 1) a b := by
  have m : ∀ (x y c : Addr), x ≠ y → x ≠ c → x ∉ [y, c] := fun x y c h1 h2 q => by
    rcases List.mem_cons.mp q with q | q
    · exact h1 q
    · exact h2 (List.mem_singleton.mp q)
  refine ⟨⟨na (by omega), na (by omega), na (by omega), na (by omega), by simp, m _ _ _ (na (by omega)) (na (by omega)), m _ _ _ (na (by omega)) (na (by omega)), na (by omega), by simp, m _ _ _ (na (by omega)) (na (by omega)), m _ _ _ (na (by omega)) (na (by omega)), m _ _ _ (na (by omega)) (na (by omega)), m _ _ _ (na (by omega)) (na (by omega))⟩, na (by omega), na (by omega)⟩
theorem turn_zipS {P : Program} {w : World} {K : PySem.W.Frag} {elts : List Expr} {kk : Nat} {tpos : Pos} {k1 k2 : Bool} {a b z TI TO i1 i2 : Addr} (F5 : Five z TI TO i1 i2 a b) :
    Turn P w K (.Tuple elts kk tpos) (ItzS k1 k2 K a b) [z, TI, TO, i1, i2] z (fun i h => LiZ.ZipS h z TI TO .none ∧ IsTupOf2 h TI (.ref i1) (.ref i2) ∧ (∃ x y, IsTupOf2 h TO x y) ∧ IterAt k1 h i1 a i ∧ IterAt k2 h i2 b i) where
  mem := by simp
  obj := fun i h st c hc => by
    obtain ⟨hz, hI, ⟨x, y, hO⟩, h1, h2⟩ := st
    have e' : c = z ∨ c = TI ∨ c = TO ∨ c = i1 ∨ c = i2 := by simpa using hc
    rcases e' with rfl | rfl | rfl | rfl | rfl
    · exact ⟨_, hz, fun v q => nomatch q⟩
    · exact ⟨_, hI, fun v q => nomatch q⟩
    · exact ⟨_, hO, fun v q => nomatch q⟩
    · exact iterB_obj h1
    · exact iterB_obj h2
  keep := fun i h h' st k => by
    obtain ⟨hz, hI, ⟨x, y, hO⟩, h1, h2⟩ := st
    exact ⟨k z (by simp) _ hz, k TI (by simp) _ hI, ⟨x, y, k TO (by simp) _ hO⟩, iterB_at h1 fun o q => k i1 (by simp) o q, iterB_at h2 fun o q => k i2 (by simp) o q⟩
  item := by
    intro X hP hw hK hc i pins s σ H E I hf st hg
    subst hP hw hK
    obtain ⟨hz, hI, ⟨x0, y0, hO⟩, h1, h2⟩ := st
    obtain ⟨xs, ys, x, y, qx, qy, ql, hx, hy⟩ := hg
    obtain ⟨its, rv, p, _, _⟩ := I.rowB qx
    obtain ⟨its2, rv2, p2, _, _⟩ := I.rowB qy
    have l1 := rv.length
    have l2 := rv2.length
    have hi : i < its.toArray.size := by
      have := (List.getElem?_eq_some_iff.mp hx).1
      rw [List.size_toArray]
      omega
    have sz : its2.toArray.size = its.toArray.size := by rw [List.size_toArray, List.size_toArray]; omega
    have hh := I.ok.hd hc
    have D2 := drawsB (P := X.prog) (w := X.w) (A := X.A.in1) k2 hh i2 b F5.b2 its2.toArray
    rw [sz] at D2
    have hzl : z < s.heap.objs.size := Heap.lt_size hz
    refine LiZ.py_item F5.sep (drawsB (P := X.prog) (w := X.w) (A := X.A.in1) k1 hh i1 a F5.a1 its.toArray) D2 hz hI hO ⟨h1, p⟩ ⟨h2, p2⟩ hi fun u u2 h' tk e1 e2 z' O' r1 r2 hT hsz hk => ?_
    have ru : RelV x u := by
      obtain ⟨u', hu, ru⟩ := rv.get hx
      have : its.toArray[i]? = some u' := by simpa using hu
      rw [this] at e1
      cases e1
      exact ru
    have ru2 : RelV y u2 := by
      obtain ⟨u', hu, ru⟩ := rv2.get hy
      have : its2.toArray[i]? = some u' := by simpa using hu
      rw [this] at e2
      cases e2
      exact ru
    refine ⟨_, rfl, LiZ.let_go (s := { s with heap := h', toks := tk }) z' fun h'' z'' sb => ?_⟩
    have hT2 : h''.get? s.heap.objs.size = some { cls := .type "tuple", data := .seq #[u, u2] } := (sb.2 _ (Nat.ne_of_gt hzl)).trans hT
    have new : ObjOk X.prog X.w (upd H s.heap.objs.size (.tup [x, y])) h'' s.heap.objs.size (.tup [x, y]) := ⟨by show 2 ≤ sizeLine; decide, [u, u2], .cons ru (.cons ru2 .nil), ⟨_, hT2, rfl, _, rfl⟩⟩
    have old : ∀ c o, c ∉ [z, TI, TO, i1, i2] → s.heap.get? c = some o → h''.get? c = some o := fun c o hb q =>
      (sb.2 c fun q' => hb (by simp [q'])).trans (hk c o (fun q' => hb (by simp [q'])) (fun q' => hb (by simp [q'])) (fun q' => hb (by simp [q'])) (fun q' => hb (by simp [q'])) q)
    have I1 : L2.Inv X pins σ (upd H s.heap.objs.size (.tup [x, y])) { s with heap := h'', toks := tk } := I.turnedNew (t' := tk) (ch := [z, TI, TO, i1, i2]) old hf (Nat.le_refl _) new
    refine ⟨.ref s.heap.objs.size, _, I1, rfl, ⟨_, x, y, rfl, I.hok.fresh (Nat.le_refl _), rfl, fun l hl => by rw [I.injB hl qx]; exact hx, fun l hl => by rw [I.injB hl qy]; exact hy⟩, ⟨z'', ?_, ⟨u, u2, ?_⟩, ?_, ?_⟩, fun c hcm => ?_⟩
    · exact (sb.2 _ F5.sep.TIz).trans (hk _ _ F5.sep.TIz F5.sep.TITO F5.sep.TIi1 F5.sep.TIi2 hI)
    · exact (sb.2 _ F5.sep.TOz).trans O'
    · exact iterB_at r1.1 fun o q => (sb.2 _ (Ne.symm F5.sep.zi1)).trans q
    · exact iterB_at r2.1 fun o q => (sb.2 _ (Ne.symm F5.sep.zi2)).trans q
    · have hlt : c < s.heap.objs.size := by
        have e' : c = z ∨ c = TI ∨ c = TO ∨ c = i1 ∨ c = i2 := by simpa using hcm
        rcases e' with rfl | rfl | rfl | rfl | rfl
        · exact hzl
        · exact Heap.lt_size hI
        · exact Heap.lt_size hO
        · obtain ⟨_, q, _⟩ := iterB_obj h1
          exact Heap.lt_size q
        · obtain ⟨_, q, _⟩ := iterB_obj h2
          exact Heap.lt_size q
      rw [upd_ne (Nat.ne_of_lt hlt)]
      exact (hf c hcm).1
  done := by
    intro X hP hw hK hc i pins s σ H E I hf st hg
    subst hP hw hK
    obtain ⟨hz, hI, ⟨x0, y0, hO⟩, h1, h2⟩ := st
    obtain ⟨xs, ys, qx, qy, e1, e2⟩ := hg
    obtain ⟨its, rv, p, _, _⟩ := I.rowB qx
    obtain ⟨its2, rv2, p2, _, _⟩ := I.rowB qy
    have l1 := rv.length
    have l2 := rv2.length
    have hh := I.ok.hd hc
    have D1 := drawsB (P := X.prog) (w := X.w) (A := X.A.in1) k1 hh i1 a F5.a1 its.toArray
    have D2 := drawsB (P := X.prog) (w := X.w) (A := X.A.in1) k2 hh i2 b F5.b2 its2.toArray
    rw [show its.toArray.size = i by rw [List.size_toArray]; omega] at D1
    rw [show its2.toArray.size = i by rw [List.size_toArray]; omega] at D2
    exact LiZ.py_end hh F5.sep D1 D2 hz hI hO ⟨h1, p⟩ ⟨h2, p2⟩ fun h' hk => ⟨rfl, I.turnedL (t' := s.toks) (ch := [z, TI, TO, i1, i2]) (fun c o hb q =>
      hk c o (fun q' => hb (by simp [q'])) (fun q' => hb (by simp [q'])) (fun q' => hb (by simp [q'])) (fun q' => hb (by simp [q'])) q) hf⟩
  self := fun A i s Q E st h => LiZ.py_iter st.1 h
def iZipS (K : PySem.W.Frag) (ta : TA) : TI := fun σ H R => ta σ H fun vs H1 => ∃ a b k1 k2 xs ys, vs = [.ref a, .ref b] ∧ SqB k1 K H1 a xs ∧ SqB k2 K H1 b ys ∧ R (ItzS k1 k2 K a b) H1
theorem pi_zipS {X : Cx} {e e2 : Expr} {ta : TA} {p pos tpos kpos cpos : Pos} {ck : Nat} {elts : List Expr} {kk : Nat} (hg : Gl X "zip") (hm : X.mg "zip" = none) (ha : PA X [e, e2] ta)
    (hs : starEach [e, e2] X.env = (false, eval e X.env) :: starEach [e2] X.env) (hpl : (backTo pos (starEach [e, e2] X.env)).any (·.1) = false) :
    PI X (.Tuple elts kk tpos) (.Call (.Name "zip" p) [e, e2] [⟨some (Str.ofString "strict"), .Constant (.bool true) ck cpos, kpos⟩] pos) (iZipS X.K ta) := by
  refine ⟨fun pins s σ H R I h => ?_⟩
  refine wpAny_Call_Name_kw (ld_blt I hg hm PyProof.Rows.boot_zip (LiZ.callTyKw (thn (ha.run pos pins s σ H _ I h) fun us s1 ⟨vs, H1, I1, r1, q1⟩ => ?_) hs hpl rfl rfl))
  obtain ⟨a, b, k1, k2, xs, ys, ex, qx, qy, q⟩ := q1
  subst ex
  refine thn ((pk_cons (nm := some (Str.ofString "strict")) (kpos := kpos) (pe_bl (X := X) (j := ck) (pos := cpos) (b := true)) pk_nil).run pos pins s1 σ H1 (fun zs H2 => zs = [.bl true] ∧ H2 = H1) I1 ⟨rfl, rfl⟩) fun ws s2 ⟨zs, H2, I2, rz, ez, eH⟩ => ?_
  subst ez eH
  cases rz with
  | cons rb rr =>
    cases rr
    cases rb
    cases r1 with
    | cons r rr =>
      cases rr with
      | cons r' rr =>
        cases rr
        cases r
        cases r'
        obtain ⟨its, rv, p1, _, la⟩ := I2.rowB qx
        obtain ⟨its2, rv2, p2, _, lb⟩ := I2.rowB qy
        refine LiZ.begins (beginsB k1 a its.toArray) (beginsB k2 b its2.toArray) p1 p2 fun h' hz hI hO c0 c1 hk => LiZ.py_iter hz ?_
        have I3 : L2.Inv X pins σ H2 { s2 with heap := h' } := I2.kept (t' := s2.toks) hk
        have F5 : Five (s2.heap.objs.size + 4) (s2.heap.objs.size + 2) (s2.heap.objs.size + 3) s2.heap.objs.size (s2.heap.objs.size + 1) a b := by
          exact five_at _ _ _ la lb
        refine ⟨s2.heap.objs.size + 4, [s2.heap.objs.size + 4, s2.heap.objs.size + 2, s2.heap.objs.size + 3, s2.heap.objs.size, s2.heap.objs.size + 1], _, _, H2, rfl, I3, turn_zipS F5, ⟨hz, hI, ⟨_, _, hO⟩, iterB0 c0, iterB0 c1⟩, fun c hcm => ?_, q⟩
        have hle : s2.heap.objs.size ≤ c := by
          have e' : c = s2.heap.objs.size + 4 ∨ c = s2.heap.objs.size + 2 ∨ c = s2.heap.objs.size + 3 ∨ c = s2.heap.objs.size ∨ c = s2.heap.objs.size + 1 := by simpa using hcm
          rcases e' with e | e | e | e | e <;> (have e2 : @Eq Nat c _ := e; omega)
        exact I2.fpOk hle (I2.hok.fresh hle)
end L2
set_option Elab.async false
set_option linter.all false
set_option maxRecDepth 100000
set_option maxHeartbeats 2000000
/-! LiEnum: enumerate(x) of a list or a tuple; what zip and enumerate feed, in Li. -/
namespace LiZ
open PySem
abbrev hE1 (h : Heap) (o : Obj) : Heap := (h.push o).push { cls := .type "enumerate", data := .fields #[.none, .bool false, .ref h.objs.size, rawInt 0, .none, .none] }
theorem meets_enum {v : Value} {o : Obj} {H : Heap → Prop} (B : Begins v o H) : Meets (Builtin.«enumerate.__new__» ⟨[.type "enumerate", v], []⟩) (fun _ R s => H s.heap ∧ R (.ok (.ret (.ref (s.heap.push o).objs.size))) { s with heap := hE1 s.heap o }) :=
  .of_wp fun prog w A R s h => by
    obtain ⟨m, gn, dr, tk, os⟩ := s
    obtain ⟨h1, h⟩ := h
    have hsub := sub_enumerate
    have q1 : ∀ {A' : Around} {E : Value → Shared → Prop} {Q : Value → Shared → Prop}, Q (.ref m.objs.size) ⟨m.push o, gn, dr, tk, os⟩ → wpAny (model prog w) A' (pyIter v) Q E ⟨m, gn, dr, tk, os⟩ :=
      fun q => B.iter prog w _ _ ⟨m, gn, dr, tk, os⟩ _ h1 q
    wp_walk using q1
    refine wpAny_stack_any fun st => wpAny_pure ?_
    split
    · rename_i c _ _ _ _ _
      generalize (c == Value.type "enumerate") = bb
      cases bb <;> (wp_walk using q1; exact ⟨_, rfl, h⟩)
    · wp_walk using q1
      exact ⟨_, rfl, h⟩
theorem enum_new {P : Program} {w : World} {A : Around} {E : Value → Shared → Prop} {s : Shared} {v : Value} {o : Obj} {H : Heap → Prop} {Q : Value → Shared → Prop} (B : Begins v o H) (h1 : H s.heap)
    (h : ∀ h', IsEnum h' (s.heap.objs.size + 1) s.heap.objs.size 0 .none → h'.get? s.heap.objs.size = some o → (∀ b o, s.heap.get? b = some o → h'.get? b = some o) → Q (.ref (s.heap.objs.size + 1)) { s with heap := h' }) :
    wpAny (model P w) A (call (.type "enumerate") [v]) Q E s := by
  refine callType_new F.called_enumerate (by decide) (F.typeCall_enumerate_1 _) (F.newCall_enumerate_1 _) (fun obj => F.args_object_init_2 obj _) F.entry_enumerate_new (meets_enum B) ⟨h1, ?_⟩
  have n1 : (s.heap.push o).objs.size = s.heap.objs.size + 1 := Heap.size_push ..
  have c1 : (hE1 s.heap o).get? (s.heap.push o).objs.size = some _ := Heap.get?_push_size _ rfl
  rw [n1] at c1
  refine (?_ : _ ∧ _)
  rw [n1]
  exact ⟨⟨_, c1, rfl⟩, h _ c1 (Heap.get?_push_of_some _ (Heap.get?_push_size _ B.free)) fun b o' x => Heap.get?_push_of_some _ (Heap.get?_push_of_some _ x)⟩
end LiZ
namespace L2
open PySem PyProof.Rows
/-- the row at a as it stands at each turn, each item in a new pair with its place -/
def IteB (k : Bool) (K : PySem.W.Frag) (a : Addr) : L2.It :=
  ⟨fun i H => ∃ (xs : List V) (x : V), SqB k K H a xs ∧ xs[i]? = some x, fun i H v H' => ∃ T x, v = .ref T ∧ H T = none ∧ H' = upd H T (.tup [.int (i : Nat), x]) ∧ ∀ xs, SqB k K H a xs → xs[i]? = some x, fun i H => ∃ xs : List V, SqB k K H a xs ∧ xs.length = i⟩
theorem turn_enumB {P : Program} {w : World} {K : PySem.W.Frag} {elts : List Expr} {kk : Nat} {tpos : Pos} {k : Bool} {a e it : Addr} (hne : e ≠ it) (hea : e ≠ a) (hai : a ≠ it) :
    Turn P w K (.Tuple elts kk tpos) (IteB k K a) [e, it] e (fun i h => (∃ old, IsEnum h e it ((i : Nat) : Int) old) ∧ IterAt k h it a i) where
  mem := by simp
  obj := fun i h st b hb => by
    obtain ⟨⟨old, he⟩, hi⟩ := st
    have e' : b = e ∨ b = it := by simpa using hb
    rcases e' with rfl | rfl
    · exact ⟨_, he, fun v q => nomatch q⟩
    · exact iterB_obj hi
  keep := fun i h h' st k => let ⟨⟨old, he⟩, hi⟩ := st; ⟨⟨old, k e (by simp) _ he⟩, iterB_at hi fun o q => k it (by simp) o q⟩
  item := by
    intro X hP hw hK hc i pins s σ H E I hf st hg
    subst hP hw hK
    obtain ⟨⟨old, he⟩, hit⟩ := st
    obtain ⟨xs, x, hq, hx⟩ := hg
    obtain ⟨its, rv, p, _, la⟩ := I.rowB hq
    obtain ⟨u0, hu0, ru0⟩ := rv.get hx
    have l1 := rv.length
    have hi : i < its.toArray.size := by
      have := (List.getElem?_eq_some_iff.mp hx).1
      rw [List.size_toArray]
      omega
    have hel : e < s.heap.objs.size := Heap.lt_size he
    have hil : it < s.heap.objs.size := by obtain ⟨_, q, _⟩ := iterB_obj hit; exact Heap.lt_size q
    have hef : e ∉ [it, a] := fun q => by
      rcases List.mem_cons.mp q with q | q
      · exact hne q
      · exact hea (List.mem_singleton.mp q)
    refine wpAny_pyNext_enum_itemD (drawsB (P := X.prog) (w := X.w) (A := X.A.in1) k (I.ok.hd hc) it a hai its.toArray) he ⟨hit, p⟩ hi hne hef fun u h' tk eu ho st' hT hsz hk => ?_
    have ru : RelV x u := by
      have : its.toArray[i]? = some u0 := by simpa using hu0
      rw [this] at eu
      cases eu
      exact ru0
    refine ⟨_, rfl, wpAny_letOwnedTupleGo_enum (s := { s with heap := h', toks := tk + 1 }) ho fun h'' he' sb => ?_⟩
    have hT2 : h''.get? s.heap.objs.size = some { cls := .type "tuple", data := .seq #[.int i tk, u] } := (sb.2 _ (Nat.ne_of_gt hel)).trans hT
    have new : ObjOk X.prog X.w (upd H s.heap.objs.size (.tup [.int (i : Nat), x])) h'' s.heap.objs.size (.tup [.int (i : Nat), x]) := ⟨by show 2 ≤ sizeLine; decide, [.int i tk, u], .cons ⟨_, rfl⟩ (.cons ru .nil), ⟨_, hT2, rfl, _, rfl⟩⟩
    have I1 : L2.Inv X pins σ (upd H s.heap.objs.size (.tup [.int (i : Nat), x])) { s with heap := h'', toks := tk + 1 } :=
      I.turnedNew (t' := tk + 1) (ch := [e, it]) (fun b ob hb q => (sb.2 b (fun z => hb (by simp [z]))).trans (hk b ob (fun z => hb (by simp [z])) (fun z => hb (by simp [z])) q)) hf (Nat.le_refl _) new
    refine ⟨.ref s.heap.objs.size, _, I1, rfl, ⟨_, x, rfl, I.hok.fresh (Nat.le_refl _), rfl, fun ys hy => by rw [I.injB hy hq]; exact hx⟩, ⟨⟨u, ?_⟩, iterB_at st'.1 fun o q => (sb.2 it (Ne.symm hne)).trans q⟩, fun b hb => ?_⟩
    · have e1 : ((i + 1 : Nat) : Int) = (i : Int) + 1 := by omega
      rw [e1]
      exact he'
    · have hb' : b < s.heap.objs.size := by
        have e' : b = e ∨ b = it := by simpa using hb
        rcases e' with rfl | rfl
        · exact hel
        · exact hil
      rw [upd_ne (Nat.ne_of_lt hb')]
      exact (hf b hb).1
  done := by
    intro X hP hw hK hc i pins s σ H E I hf st hg
    subst hP hw hK
    obtain ⟨⟨old, he⟩, hit⟩ := st
    obtain ⟨xs, hq, hx⟩ := hg
    obtain ⟨its, rv, p, _, la⟩ := I.rowB hq
    obtain ⟨f0, f1, f2, f3, f4, f5⟩ := hf it (by simp)
    have l1 := rv.length
    have D := drawsB (P := X.prog) (w := X.w) (A := X.A.in1) k (I.ok.hd hc) it a hai its.toArray
    rw [show its.toArray.size = i by rw [List.size_toArray]; omega] at D
    exact wpAny_pyNext_enum_endD D he ⟨hit, p⟩ fun h' eb => ⟨rfl, I.turned (t' := s.toks) (fun b o hb q => eb b o hb q) f0 f1 f3 f4 f5⟩
  self := fun A i s Q E st h => let ⟨⟨_, he⟩, _⟩ := st; wpAny_pyIter_enum he h
def iEnumB (K : PySem.W.Frag) (ta : TA) : TI := fun σ H R => ta σ H fun vs H1 => ∃ a k xs, vs = [.ref a] ∧ SqB k K H1 a xs ∧ R (IteB k K a) H1
theorem pi_enumB {X : Cx} {e : Expr} {ta : TA} {p pos tpos : Pos} {elts : List Expr} {kk : Nat} (hg : Gl X "enumerate") (hm : X.mg "enumerate" = none) (ha : PA X [e] ta) (hs : starEach [e] X.env = [(false, eval e X.env)]) :
    PI X (.Tuple elts kk tpos) (.Call (.Name "enumerate" p) [e] [] pos) (iEnumB X.K ta) := by
  refine ⟨fun pins s σ H R I h => ?_⟩
  refine Call_ (ld_blt I hg hm PyProof.Rows.boot_enumerate (PyProof.Rows.callWith_type1 (thn (ha.run pos pins s σ H _ I h) fun us s1 ⟨vs, H1, I1, r1, q1⟩ => ?_) hs rfl))
  obtain ⟨a, k, xs, ex, hq, q⟩ := q1
  subst ex
  cases r1 with
  | cons r rr =>
    cases rr
    cases r
    obtain ⟨its, rv, p', _, la⟩ := I1.rowB hq
    refine LiZ.enum_new (beginsB k a its.toArray) p' fun h' he c0 hk => wpAny_pyIter_enum he ?_
    have I2 : L2.Inv X pins σ H1 { s1 with heap := h' } := I1.kept (t' := s1.toks) hk
    refine ⟨s1.heap.objs.size + 1, [s1.heap.objs.size + 1, s1.heap.objs.size], _, _, H1, rfl, I2, turn_enumB (na (by omega)) (na (.inr (Nat.lt_succ_of_lt la))) (na (.inl la)), ⟨⟨.none, he⟩, iterB0 c0⟩, fun b hb => ?_, q⟩
    have hle : s1.heap.objs.size ≤ b := by
      have e' : b = s1.heap.objs.size + 1 ∨ b = s1.heap.objs.size := by simpa using hb
      rcases e' with e | e <;> (have e2 : @Eq Nat b _ := e; omega)
    exact I1.fpOk hle (I1.hok.fresh hle)
end L2
namespace Li
open PySem L2
section
variable {X : Cx} {G : SX} {lvl : Nat} {nm : Nat → Str} {σ : Env} {S : Sto} {hid : Hid} {σ' : L2.St} {H : Hp} {K : PySem.W.Frag}
/-- a row, as long as it stands -/
structure RowF (K : PySem.W.Frag) (hid : Hid) (S1 : Sto) (H1 : Hp) (v : Val) (vs : List Val) (k : Bool) (a : Addr) : Prop where
  at' : ∀ {S2 H2 hid2}, (∀ p, hid2 p → hid p ∨ H1 p = none) → Ext S1 H1 S2 H2 → Rel K hid2 S2 H2 → chkV S1 v S2 → ∃ xs, SqB k K H2 a xs ∧ Rvs K (Mset S2 hid2) H2 vs xs
theorem row_rd {v : Val} {vs : List Val} {x : V} {S1 : Sto} {H1 : Hp} (e : seqV S1 v = some vs) (rx : Rv K (Mset S1 hid) H1 v x) : ∃ k a, x = .ref a ∧ RowF K hid S1 H1 v vs k a := by
  rcases seqV_inv e with ex | ⟨ns, ex, en⟩ | ex | ⟨a, ex, hS⟩
  · subst ex
    obtain ⟨p, xs, exx, h1, s1⟩ := rx
    refine ⟨true, p, exx, ⟨fun {S2 H2 hid2} hh e rel _ => ⟨xs, ?_, s1.keep (keeps_later hh e)⟩⟩⟩
    rcases h1 with h1 | h1
    · exact SqT.of ((keeps_later hh e).keep p _ h1.1 so_tup h1.2).1
    · exact SqT.const h1 _
  · subst ex en
    obtain ⟨p, exx, h1⟩ := rx
    refine ⟨false, p, exx, ⟨fun {S2 H2 hid2} hh e rel _ => ⟨_, ?_, Rvs.ints ns⟩⟩⟩
    rcases h1 with ⟨q1 | ⟨o, q1⟩, q2⟩ | h1
    · exact .inl (.inl ((keeps_later hh e).keep p _ q1 so_lst q2).1)
    · exact .inl (.inr ⟨o, ((keeps_later hh e).keep p _ q1 so_frz q2).1⟩)
    · exact SqL.const h1 _
  · subst ex
    obtain ⟨p, xs, exx, h1, h2, s1⟩ := rx
    exact ⟨false, p, exx, ⟨fun {S2 H2 hid2} hh e rel _ => ⟨xs, SqL.of ((keeps_later hh e).keep p _ h1 so_lst h2).1, s1.keep (keeps_later hh e)⟩⟩⟩
  · subst ex
    refine ⟨false, a, rx, ⟨fun {S2 H2 hid2} hh e rel ck => ?_⟩⟩
    obtain ⟨xs, h1, r⟩ := rel.cells a _ ((show S2 a = S1 a from ck).trans hS)
    exact ⟨xs, SqL.of h1, r⟩
theorem RowF.now {v : Val} {vs : List Val} {k : Bool} {a : Addr} {S1 : Sto} {H1 : Hp} (r : RowF K hid S1 H1 v vs k a) (rel : Rel K hid S1 H1) : ∃ xs, SqB k K H1 a xs ∧ Rvs K (Mset S1 hid) H1 vs xs :=
  r.at' (fun p h => .inl h) (Ext.refl S1 H1) rel (by cases v <;> first | trivial | rfl)
/-- a row stands through a later step -/
theorem RowF.later {v : Val} {vs : List Val} {k : Bool} {a : Addr} {S1 S2 : Sto} {H1 H2 : Hp} (r : RowF K hid S1 H1 v vs k a) (e : Ext S1 H1 S2 H2) (hs : chkV S1 v S2) : RowF K hid S2 H2 v vs k a :=
  ⟨fun {S3 H3 hid3} hh e' rel ck => r.at' (fun p h => (hh p h).imp id fun z => e.free z) (e.trans e') rel (by
    cases v <;> first
      | trivial
      | exact (show S3 _ = S2 _ from ck).trans hs)⟩
theorem zipV_get : ∀ {xs ys : List Val} {i : Nat} {v : Val}, (zipV xs ys)[i]? = some v → ∃ x y, xs[i]? = some x ∧ ys[i]? = some y ∧ v = .tup [x, y]
  | [], ys, i, v, h => by simp [zipV] at h
  | x :: xs, [], i, v, h => by simp [zipV] at h
  | x :: xs, y :: ys, 0, v, h => ⟨x, y, rfl, rfl, by simpa [zipV] using h.symm⟩
  | x :: xs, y :: ys, i + 1, v, h => zipV_get (xs := xs) (ys := ys) (i := i) (by simpa [zipV] using h)
theorem zipV_len : ∀ {xs ys : List Val}, xs.length = ys.length → (zipV xs ys).length = xs.length
  | [], [], _ => rfl
  | x :: xs, y :: ys, h => by
    rw [zipV, List.length_cons, List.length_cons, zipV_len (by simpa using h)]
theorem enumV_get : ∀ {xs : List Val} {n i : Nat} {v : Val}, (enumV n xs)[i]? = some v → ∃ x, xs[i]? = some x ∧ v = .tup [.int ((n + i : Nat) : Int), x]
  | [], n, i, v, h => by simp [enumV] at h
  | x :: xs, n, 0, v, h => ⟨x, rfl, by simpa [enumV] using h.symm⟩
  | x :: xs, n, i + 1, v, h => by
    obtain ⟨y, h1, h2⟩ := enumV_get (xs := xs) (n := n + 1) (i := i) (v := v) (by simpa [enumV] using h)
    exact ⟨y, by simpa using h1, by rw [h2, show n + 1 + i = n + (i + 1) by omega]⟩
theorem enumV_len : ∀ {xs : List Val} {n : Nat}, (enumV n xs).length = xs.length
  | [], n => rfl
  | x :: xs, n => by rw [enumV, List.length_cons, List.length_cons, enumV_len]
/-- a new pair -/
theorem pair_new {S2 : Sto} {H2 : Hp} {hid2 : Hid} {T : Addr} {vs : List Val} {xs : List V} (rel : Rel K hid2 S2 H2) (hT : H2 T = none) (r : Rvs K (Mset S2 hid2) H2 vs xs) :
    Ext S2 H2 S2 (upd H2 T (.tup xs)) ∧ Rel K hid2 S2 (upd H2 T (.tup xs)) ∧ Rv K (Mset S2 hid2) (upd H2 T (.tup xs)) (.tup vs) (.ref T) ∧ ∀ p, upd H2 T (.tup xs) p = none → H2 p = none := by
  refine ⟨Ext.new S2 hT, rel.new hT, Rv.newT rel hT r, fun p hp => ?_⟩
  by_cases e : p = T
  · rw [e]
    exact hT
  · rw [upd_ne e] at hp
    exact hp
theorem feeds_zip {u v : Val} {us vs : List Val} {k1 k2 : Bool} {a b : Addr} {S1 : Sto} {H1 : Hp} (r1 : RowF K hid S1 H1 u us k1 a) (r2 : RowF K hid S1 H1 v vs k2 b) (hl : us.length = vs.length) : Feeds K hid S1 H1 (ItzS k1 k2 K a b) (zipV us vs) (fun S => chkV S1 u S ∧ chkV S1 v S) := by
  refine ⟨fun {S2 H2 hid2} hh e rel ck {i w} hw => ?_, fun {S2 H2 hid2} hh e rel ck => ?_⟩
  · obtain ⟨xs, q1, s1⟩ := r1.at' hh e rel ck.1
    obtain ⟨ys, q2, s2⟩ := r2.at' hh e rel ck.2
    obtain ⟨x0, y0, g1, g2, ew⟩ := zipV_get hw
    subst ew
    obtain ⟨x, hx, rx⟩ := s1.get g1
    obtain ⟨y, hy, ry⟩ := s2.get g2
    refine ⟨⟨xs, ys, x, y, q1, q2, by rw [← s1.length, ← s2.length, hl], hx, hy⟩, fun z H3 ⟨T, x', y', ez, hT, eH, e1, e2⟩ => ?_⟩
    subst ez eH
    have h1 := e1 xs q1
    have h2 := e2 ys q2
    rw [hx] at h1
    rw [hy] at h2
    cases h1
    cases h2
    exact pair_new rel hT ⟨x, [y], rfl, rx, y, [], rfl, ry, rfl⟩
  · obtain ⟨xs, q1, s1⟩ := r1.at' hh e rel ck.1
    obtain ⟨ys, q2, s2⟩ := r2.at' hh e rel ck.2
    exact ⟨xs, ys, q1, q2, by rw [zipV_len hl, s1.length], by rw [zipV_len hl, hl, s2.length]⟩
theorem feeds_enum {u : Val} {us : List Val} {k : Bool} {a : Addr} {S1 : Sto} {H1 : Hp} (r1 : RowF K hid S1 H1 u us k a) : Feeds K hid S1 H1 (IteB k K a) (enumV 0 us) (chkV S1 u) := by
  refine ⟨fun {S2 H2 hid2} hh e rel ck {i w} hw => ?_, fun {S2 H2 hid2} hh e rel ck => ?_⟩
  · obtain ⟨xs, q1, s1⟩ := r1.at' hh e rel ck
    obtain ⟨x0, g1, ew⟩ := enumV_get hw
    subst ew
    obtain ⟨x, hx, rx⟩ := s1.get g1
    refine ⟨⟨xs, x, q1, hx⟩, fun z H3 ⟨T, x', ez, hT, eH, e1⟩ => ?_⟩
    subst ez eH
    have h1 := e1 xs q1
    rw [hx] at h1
    cases h1
    rw [Nat.zero_add]
    exact pair_new rel hT ⟨.int i, [x], rfl, rfl, x, [], rfl, rx, rfl⟩
  · obtain ⟨xs, q1, s1⟩ := r1.at' hh e rel ck
    exact ⟨xs, q1, by rw [enumV_len, s1.length]⟩
theorem sI_enum {e : Expr} {m : E} {p pos tpos : Pos} {elts : List Expr} {kk : Nat} (hg : Gl X "enumerate") (hm : X.mg "enumerate" = none) (he : PE X e (tEv G X.K m)) (hs : starEach [e] X.env = [(false, eval e X.env)]) :
    PI X (.Tuple elts kk tpos) (.Call (.Name "enumerate" p) [e] [] pos) (iEv G X.K (.enum m)) :=
  PI.wk (pi_enumB hg hm (pa_cons he pa_nil (by rw [hs]; rfl)) hs) fun σ' H R ⟨σ, S, hid, w, h⟩ => (t1 (a := m) w h).mono fun x' H1 ⟨S1, x, e1, w1, rx, z⟩ => by
    obtain ⟨vs, ev, z⟩ := optQ_inv z
    obtain ⟨k, a, ea, rf⟩ := row_rd ev rx
    obtain ⟨xs, q1, s1⟩ := rf.now w1.rel
    exact ⟨a, k, xs, by rw [ea], q1, z _ _ e1 w1.rel (feeds_enum rf)⟩
theorem sI_zip {e e2 : Expr} {m m2 : E} {p pos tpos kpos cpos : Pos} {ck : Nat} {elts : List Expr} {kk : Nat} (hg : Gl X "zip") (hm : X.mg "zip" = none) (he : PE X e (tEv G X.K m)) (he2 : PE X e2 (tEv G X.K m2))
    (hs : starEach [e, e2] X.env = (false, eval e X.env) :: starEach [e2] X.env) (hs2 : starEach [e2] X.env = [(false, eval e2 X.env)]) (hpl : (backTo pos (starEach [e, e2] X.env)).any (·.1) = false) :
    PI X (.Tuple elts kk tpos) (.Call (.Name "zip" p) [e, e2] [⟨some (Str.ofString "strict"), .Constant (.bool true) ck cpos, kpos⟩] pos) (iEv G X.K (.zip m m2)) :=
  PI.wk (pi_zipS hg hm (pa_cons he (pa_cons he2 pa_nil (by rw [hs2]; rfl)) hs) hs hpl) fun σ' H R ⟨σ, S, hid, w, h⟩ => (t2 (a := m) (b := m2) w h).mono fun x' H1 q => q.mono fun y' H2 ⟨S2, x, y, e, w2, r1, r2, z⟩ => by
    obtain ⟨us, eu, z⟩ := optQ_inv z
    obtain ⟨vs, ev, z⟩ := optQ_inv z
    obtain ⟨k, a, ea, rf⟩ := row_rd eu r1
    obtain ⟨k2, b, eb, rf2⟩ := row_rd ev r2
    obtain ⟨xs, q1, s1⟩ := rf.now w2.rel
    obtain ⟨ys, q2, s2⟩ := rf2.now w2.rel
    exact ⟨a, b, k, k2, xs, ys, by rw [ea, eb], q1, q2, z.2 _ _ e w2.rel (feeds_zip rf rf2 z.1)⟩
end
end Li
set_option Elab.async false
set_option linter.all false
set_option maxRecDepth 100000
set_option maxHeartbeats 2000000
/-! LiDict: dict(zip(a, b, strict=True)) at the model's level. -/
namespace LiZ
open PySem L2
/-- such a zip whose last pair is still out -/
abbrev ZipO (h : Heap) (z TI TO T : Addr) (f : Bool) : Prop := h.get? z = some { cls := .type "zip", data := .fields #[rawInt T, .bool f, .bool true, .ref TI, .ref TO] }
section
variable {P : Program} {w : World} {A : Around} {E : Value → Shared → Prop} {s : Shared} {z TI TO T i1 i2 : Addr} {fp1 fp2 : List Addr} {n i : Nat} {P1 P2 : Nat → Value → Prop} {St1 St2 : Nat → Heap → Prop} {f : Bool} {oT : Obj}
theorem not_free {Q : Bool → Shared → Prop} (hz : ZipO s.heap z TI TO T f) (hT : s.heap.get? T = some oT) (q : ∀ h', ZipO h' z TI TO T true → Heap.SameBut z s.heap h' → Q false { s with heap := h' }) :
    wpAny (model P w) A (Builtin.SmallTypes.ownedTupleIsFree (.ref z)) Q E s := by
  unfold Builtin.SmallTypes.ownedTupleIsFree
  refine wpAny_bind (wpAny_field hz rfl (x := rawInt T) rfl ?_)
  refine (?_ : wpAny _ A (loadIfAlive ((T : Int).toNat) >>= _) Q E s)
  rw [Int.toNat_natCast]
  refine wpAny_bind (PySem.W.kdx_alive hT ?_)
  simp only [Option.isNone_some, Bool.false_eq_true, if_false]
  refine wpAny_bind (wpAny_field hz rfl (x := .bool f) rfl ?_)
  cases f with
  | true =>
    rw [if_neg (by exact Bool.false_ne_true)]
    exact wpAny_pure (q s.heap hz (Heap.SameBut.refl _ _))
  | false =>
    rw [if_pos (by rfl)]
    exact wpAny_bind (wpAny_setField_rec hz (by simp) fun m1 z1 k1 => wpAny_pure (q m1 z1 k1))
theorem held_item {Q : Value → Shared → Prop} (S : ZipSep2 z TI TO i1 i2 fp1 fp2) (D1 : Draws P w A i1 fp1 n P1 St1) (D2 : Draws P w A i2 fp2 n P2 St2)
    (hz : ZipO s.heap z TI TO T f) (hT : s.heap.get? T = some oT) (hI : IsTupOf2 s.heap TI (.ref i1) (.ref i2)) (t1 : St1 i s.heap) (t2 : St2 i s.heap) (hi : i < n)
    (q : ∀ x1 x2 h' tk, P1 i x1 → P2 i x2 → ZipO h' z TI TO T true → St1 (i + 1) h' → St2 (i + 1) h' → IsTupOf2 h' s.heap.objs.size x1 x2 → (∀ c o, c ≠ z → c ≠ i1 → c ≠ i2 → s.heap.get? c = some o → h'.get? c = some o) → Q (.ref s.heap.objs.size) { s with heap := h', toks := tk }) :
    wpAny (model P w) A (Builtin.«zip.__next__» ⟨[.ref z], []⟩) (fun fin s' => ∃ v, fin = .done (.ret v) ∧ Q v s') E s := by
  obtain ⟨m, gn, dr, t0, os⟩ := s
  show wpAny _ A (field (.ref z) 2 >>= _) _ E _
  refine wpAny_bind (wpAny_field hz rfl (x := .bool true) rfl ?_)
  show wpAny _ A (field (.ref z) 3 >>= _) _ E _
  refine wpAny_bind (wpAny_field hz rfl (x := .ref TI) rfl (wpAny_bind (wpAny_seqItems hI rfl ?_)))
  show wpAny _ A (Builtin.SmallTypes.ownedTupleIsFree (.ref z) >>= _) _ E _
  refine wpAny_bind (not_free hz hT fun m0 z0 k0 => ?_)
  replace k0 : Heap.SameBut z m m0 := k0
  simp only [Bool.false_eq_true, if_false]
  refine wpAny_bind ?_
  rw [← Array.forIn_toList]
  simp only [List.forIn_cons, List.forIn_nil]
  refine wpAny_bind (wpAny_bind (wpAny_holding ?_))
  show wpAny _ A (Builtin.SmallTypes.nextOrEnd (.ref i1)) _ _ ⟨m0, gn, dr, t0, os⟩
  refine endOr_item D1 hi (D1.over t1 k0 S.zf1) fun x1 u1 tk1 p1 r1 c1 => ?_
  replace c1 : Heap.SameBut i1 m0 u1 := c1
  refine wpAny_pure (wpAny_bind (wpAny_bind (wpAny_holding ?_)))
  show wpAny _ A (Builtin.SmallTypes.nextOrEnd (.ref i2)) _ _ ⟨u1, gn, dr, tk1, os⟩
  refine endOr_item D2 hi (D2.over (D2.over t2 k0 S.zf2) c1 S.sep1_2) fun x2 u2 tk2 p2 r2 c2 => ?_
  replace c2 : Heap.SameBut i2 u1 u2 := c2
  refine wpAny_pure (wpAny_pure ?_)
  show wpAny _ A (newTuple [x1, x2] >>= _) _ E ⟨u2, gn, dr, tk2, os⟩
  refine wpAny_bind (wpAny_newTuple ?_)
  have sz : u2.objs.size = m.objs.size := by rw [c2.1, c1.1, k0.1]
  have zz : ZipO u2 z TI TO T true := c2.extBut _ _ S.zi2 (c1.extBut _ _ S.zi1 z0)
  have old : ∀ c o, c ≠ z → c ≠ i1 → c ≠ i2 → m.get? c = some o → u2.get? c = some o := fun c o h1 h3 h4 e => c2.extBut _ _ h4 (c1.extBut _ _ h3 (k0.extBut _ _ h1 e))
  refine wpAny_pure ⟨_, rfl, ?_⟩
  have tp : IsTupOf2 (u2.push { cls := .type "tuple", data := .seq #[x1, x2] }) u2.objs.size x1 x2 := Heap.get?_push_size _ rfl
  show Q (.ref u2.objs.size) _
  rw [sz] at tp ⊢
  exact q x1 x2 _ tk2 p1 p2 (Heap.get?_push_of_some _ zz) (D1.frame _ _ _ (D1.over r1 c2 S.sep2_1) fun b _ o e => Heap.get?_push_of_some _ e) (D2.frame _ _ _ r2 fun b _ o e => Heap.get?_push_of_some _ e) tp fun c o h1 h3 h4 e => Heap.get?_push_of_some _ (old c o h1 h3 h4 e)
theorem held_end {Q : PySem.Fin → Shared → Prop} (hh : A.handled = none) (S : ZipSep2 z TI TO i1 i2 fp1 fp2) (D1 : Draws P w A i1 fp1 n P1 St1) (D2 : Draws P w A i2 fp2 n P2 St2)
    (hz : ZipO s.heap z TI TO T f) (hT : s.heap.get? T = some oT) (hI : IsTupOf2 s.heap TI (.ref i1) (.ref i2)) (t1 : St1 n s.heap) (t2 : St2 n s.heap)
    (q : ∀ h' e, (∀ c o, c ≠ z → c ≠ i1 → c ≠ i2 → s.heap.get? c = some o → h'.get? c = some o) → (∃ o, h'.get? e = some o ∧ o.cls = .type "StopIteration") → E (.ref e) { s with heap := h' }) :
    wpAny (model P w) A (Builtin.«zip.__next__» ⟨[.ref z], []⟩) Q E s := by
  obtain ⟨m, gn, dr, t0, os⟩ := s
  show wpAny _ A (field (.ref z) 2 >>= _) _ E _
  refine wpAny_bind (wpAny_field hz rfl (x := .bool true) rfl ?_)
  show wpAny _ A (field (.ref z) 3 >>= _) _ E _
  refine wpAny_bind (wpAny_field hz rfl (x := .ref TI) rfl (wpAny_bind (wpAny_seqItems hI rfl ?_)))
  show wpAny _ A (Builtin.SmallTypes.ownedTupleIsFree (.ref z) >>= _) _ E _
  refine wpAny_bind (not_free hz hT fun m0 z0 k0 => ?_)
  replace k0 : Heap.SameBut z m m0 := k0
  simp only [Bool.false_eq_true, if_false]
  refine wpAny_bind ?_
  rw [← Array.forIn_toList]
  simp only [List.forIn_cons, List.forIn_nil]
  refine wpAny_bind (wpAny_bind (wpAny_holding ?_))
  show wpAny _ A (Builtin.SmallTypes.nextOrEnd (.ref i1)) _ _ ⟨m0, gn, dr, t0, os⟩
  refine endOr_done D1 (D1.over t1 k0 S.zf1) fun u1 c1 => ?_
  replace c1 : Heap.ExtBut i1 m0 u1 := c1
  have x2 : St2 n u1 := D2.frame _ _ _ (D2.over t2 k0 S.zf2) fun b hb o e => c1 b o (fun y => S.sep1_2 (y ▸ hb)) e
  refine wpAny_bind ?_
  refine (?_ : wpAny _ A (_ >>= _) _ _ _)
  refine wpAny_bind ?_
  show wpAny _ A (forIn [((Value.ref i2), 1)] PUnit.unit _) _ _ _
  simp only [List.forIn_cons, List.forIn_nil]
  refine wpAny_bind (wpAny_bind (endOr_done (s := ⟨u1, gn, dr, t0, os⟩) D2 x2 fun u2 c2 => ?_))
  replace c2 : Heap.ExtBut i2 u1 u2 := c2
  refine wpAny_pure (wpAny_pure (wpAny_bind (wpAny_rule ?_)))
  refine stop_now (s := ⟨u2, gn, dr, t0, os⟩) hh fun m3 e k3 he => ?_
  exact q m3 e (fun c o h1 h3 h4 y => k3 _ _ (c2 _ _ h4 (c1 _ _ h3 (k0.extBut _ _ h1 y)))) he
theorem py_held {Q : Option Value → Shared → Prop} (S : ZipSep2 z TI TO i1 i2 fp1 fp2) (D1 : Draws P w A.in1 i1 fp1 n P1 St1) (D2 : Draws P w A.in1 i2 fp2 n P2 St2)
    (hz : ZipO s.heap z TI TO T f) (hT : s.heap.get? T = some oT) (hI : IsTupOf2 s.heap TI (.ref i1) (.ref i2)) (t1 : St1 i s.heap) (t2 : St2 i s.heap) (hi : i < n)
    (q : ∀ x1 x2 h' tk, P1 i x1 → P2 i x2 → ZipO h' z TI TO T true → St1 (i + 1) h' → St2 (i + 1) h' → IsTupOf2 h' s.heap.objs.size x1 x2 → (∀ c o, c ≠ z → c ≠ i1 → c ≠ i2 → s.heap.get? c = some o → h'.get? c = some o) → Q (some (.ref s.heap.objs.size)) { s with heap := h', toks := tk }) :
    wpAny (model P w) A (pyNext (.ref z)) Q E s := by
  have ty : s.TypeIs (.ref z) "zip" := ⟨_, hz, rfl⟩
  unfold pyNext
  exact wpAny_bind (wpAny_attempt (wpAny_callSpecial?_slot (name := Str.ofString "__next__") ty F.slot_zip_next (wpAny_call_entry F.slot_zip_next ty F.entry_zip_next
    (held_item S D1 D2 hz hT hI t1 t2 hi fun x1 x2 h' tk b1 b2 b3 b4 b5 b6 b7 => wpAny_pure (q x1 x2 h' tk b1 b2 b3 b4 b5 b6 b7)) (F.args_zip_next_1 _))))
theorem py_heldEnd {Q : Option Value → Shared → Prop} (hh : A.handled = none) (S : ZipSep2 z TI TO i1 i2 fp1 fp2) (D1 : Draws P w A.in1 i1 fp1 n P1 St1) (D2 : Draws P w A.in1 i2 fp2 n P2 St2)
    (hz : ZipO s.heap z TI TO T f) (hT : s.heap.get? T = some oT) (hI : IsTupOf2 s.heap TI (.ref i1) (.ref i2)) (t1 : St1 n s.heap) (t2 : St2 n s.heap)
    (q : ∀ h', (∀ c o, c ≠ z → c ≠ i1 → c ≠ i2 → s.heap.get? c = some o → h'.get? c = some o) → Q none { s with heap := h' }) : wpAny (model P w) A (pyNext (.ref z)) Q E s := by
  have ty : s.TypeIs (.ref z) "zip" := ⟨_, hz, rfl⟩
  unfold pyNext
  refine wpAny_bind (wpAny_attempt (wpAny_callSpecial?_slot (name := Str.ofString "__next__") ty F.slot_zip_next (wpAny_call_entry F.slot_zip_next ty F.entry_zip_next (held_end (A := A.in1) hh S D1 D2 hz hT hI t1 t2 fun h' e k he => ?_) (F.args_zip_next_1 _))))
  obtain ⟨o, ho, hc⟩ := he
  exact wpAny_bind (wpAny_isInstance (T := "StopIteration") (b := true) ⟨o, ho, hc⟩ isSubtype_stop (wpAny_pure (q _ k)))
end
theorem rowB_at {k : Bool} {h h' : Heap} {a : Addr} {vs : Array Value} (x : RowAt k h a vs) (e : ∀ o, h.get? a = some o → h'.get? a = some o) : RowAt k h' a vs := by
  cases k with
  | false => exact Heap.IsList.at x e
  | true => exact Heap.IsTuple.at x e
theorem rowB_obj {k : Bool} {h : Heap} {a : Addr} {vs : Array Value} (x : RowAt k h a vs) : ∃ o, h.get? a = some o := by
  cases k with
  | false =>
    obtain ⟨o, e, _⟩ := x
    exact ⟨o, e⟩
  | true =>
    obtain ⟨o, e, _⟩ := x
    exact ⟨o, e⟩
section
variable {P : Program} {w : World}
/-- the pairs of a strict zip, as an argument of dict() -/
theorem pairs_zip (k1 k2 : Bool) {z TI TO i1 i2 l1 l2 : Addr} (F5 : Five z TI TO i1 i2 l1 l2) (lT : l1 ≠ z ∧ l1 ≠ TO ∧ l1 ≠ i2 ∧ l2 ≠ z ∧ l2 ≠ TO ∧ l2 ≠ i1) (xs ys : Array Value) (hs : xs.size = ys.size) :
    PairArg P w "zip" z [z, TI, TO, i1, i2, l1, l2] [z, TO, i1, i2] xs.size (fun i k v => xs[i]? = some k ∧ ys[i]? = some v)
      (fun h => ZipS h z TI TO .none ∧ IsTupOf2 h TI (.ref i1) (.ref i2) ∧ (∃ a b, IsTupOf2 h TO a b) ∧ IterAt k1 h i1 l1 0 ∧ IterAt k2 h i2 l2 0 ∧ RowAt k1 h l1 xs ∧ RowAt k2 h l2 ys) where
  type := fun s ok => ⟨_, ok.1, rfl⟩
  notDict := by decide
  keep := fun h h' ok hk => by
    obtain ⟨hz, hI, ⟨a, b, hO⟩, h1, h2, q1, q2⟩ := ok
    exact ⟨hk _ _ hz, hk _ _ hI, ⟨a, b, hk _ _ hO⟩, iterB_at h1 fun o e => hk _ o e, iterB_at h2 fun o e => hk _ o e, rowB_at q1 fun o e => hk _ o e, rowB_at q2 fun o e => hk _ o e⟩
  there := fun h ok b hb => by
    obtain ⟨hz, hI, ⟨a, c, hO⟩, h1, h2, q1, q2⟩ := ok
    simp only [List.mem_cons, List.not_mem_nil, or_false] at hb
    rcases hb with e | e | e | e | e | e | e <;> subst e
    · exact ⟨_, hz⟩
    · exact ⟨_, hI⟩
    · exact ⟨_, hO⟩
    · exact (iterB_obj h1).imp fun o q => q.1
    · exact (iterB_obj h2).imp fun o q => q.1
    · exact rowB_obj q1
    · exact rowB_obj q2
  sub := fun b hb => by
    simp only [List.mem_cons, List.not_mem_nil, or_false] at hb ⊢
    rcases hb with e | e | e | e <;> simp [e]
  noKeys := fun A s Q E hA ok h => getAttrOr_miss_zip ok.1 rfl rfl rfl zip_no_keys (by decide +kernel) hA h
  iter := fun A s d Q E hA ok hd hdf h => by
    obtain ⟨hz, hI, ⟨a, b, hO⟩, h1, h2, q1, q2⟩ := ok
    simp only [List.mem_cons, List.not_mem_nil, or_false, not_or] at hdf
    obtain ⟨dz, dI, dO, d1, d2, dl1, dl2⟩ := hdf
    obtain ⟨e1, e2, e3, e4, e5, e6⟩ := lT
    refine py_iter hz (h z [z, TO, i1, i2] (fun i h => IsTupOf2 h TI (.ref i1) (.ref i2) ∧ (IterAt k1 h i1 l1 i ∧ RowAt k1 h l1 xs) ∧ (IterAt k2 h i2 l2 i ∧ RowAt k2 h l2 ys) ∧
      ((ZipS h z TI TO .none ∧ ∃ a b, IsTupOf2 h TO a b) ∨ ∃ T f oT, ZipO h z TI TO T f ∧ h.get? T = some oT ∧ T ≠ z ∧ T ≠ i1 ∧ T ≠ i2 ∧ T ≠ d)) s.heap s.toks ?_ ⟨hI, ⟨h1, q1⟩, ⟨h2, q2⟩, .inl ⟨hz, a, b, hO⟩⟩ (fun _ _ e => e) fun b hb => .inl hb)
    have drw : ∀ (s1 : Shared), Draws P w A.in1 i1 [i1, l1] xs.size (fun i v => xs[i]? = some v) (fun i h => IterAt k1 h i1 l1 i ∧ RowAt k1 h l1 xs) ∧ Draws P w A.in1 i2 [i2, l2] xs.size (fun i v => ys[i]? = some v) (fun i h => IterAt k2 h i2 l2 i ∧ RowAt k2 h l2 ys) := fun _ =>
      ⟨drawsB (P := P) (w := w) (A := A.in1) k1 hA i1 l1 F5.a1 xs, by rw [hs]; exact drawsB (P := P) (w := w) (A := A.in1) k2 hA i2 l2 F5.b2 ys⟩
    exact {
      off := fun hm => by
        simp only [List.mem_cons, List.not_mem_nil, or_false] at hm
        rcases hm with e | e | e | e
        · exact dz e
        · exact dO e
        · exact d1 e
        · exact d2 e
      frame := fun i ha hb st hk => by
        obtain ⟨hI, ⟨h1, q1⟩, ⟨h2, q2⟩, hz⟩ := st
        refine ⟨hk _ _ (Ne.symm dI) hI, ⟨iterB_at h1 fun o e => hk _ o (Ne.symm d1) e, rowB_at q1 fun o e => hk _ o (Ne.symm dl1) e⟩, ⟨iterB_at h2 fun o e => hk _ o (Ne.symm d2) e, rowB_at q2 fun o e => hk _ o (Ne.symm dl2) e⟩, ?_⟩
        rcases hz with ⟨hz, a, b, hO⟩ | ⟨T, f, oT, hz, hT, r1, r2, r3, r4⟩
        · exact .inl ⟨hk _ _ (Ne.symm dz) hz, a, b, hk _ _ (Ne.symm dO) hO⟩
        · exact .inr ⟨T, f, oT, hk _ _ (Ne.symm dz) hz, hk _ _ r4 hT, r1, r2, r3, r4⟩
      item := fun i s1 Q1 E1 hi st hds hQ => by
        obtain ⟨hI, t1, t2, hz⟩ := st
        obtain ⟨D1, D2⟩ := drw s1
        have lt : ∀ {c o}, s1.heap.get? c = some o → s1.heap.objs.size ≠ c := fun e => Nat.ne_of_gt (Heap.lt_size e)
        have n1 : s1.heap.objs.size ≠ i1 := let ⟨_, e, _⟩ := iterB_obj t1.1; lt e
        have n2 : s1.heap.objs.size ≠ i2 := let ⟨_, e, _⟩ := iterB_obj t2.1; lt e
        rcases hz with ⟨hz, a, b, hO⟩ | ⟨T, f, oT, hz, hT, r1, r2, r3, r4⟩
        · refine py_item F5.sep D1 D2 hz hI hO t1 t2 hi fun x1 x2 h' tk p1 p2 z' O' u1 u2 tp hsz hk => ?_
          exact hQ s1.heap.objs.size _ _ h' tk ⟨p1, p2⟩ (.inl ⟨_, tp, rfl, _, rfl⟩) ⟨hk _ _ F5.sep.TIz F5.sep.TITO F5.sep.TIi1 F5.sep.TIi2 hI, u1, u2, .inr ⟨s1.heap.objs.size, false, _, z', tp, lt hz, n1, n2, Nat.ne_of_gt hds⟩⟩
            fun c o hc e => hk c o (fun x => hc (by simp [x])) (fun x => hc (by simp [x])) (fun x => hc (by simp [x])) (fun x => hc (by simp [x])) e
        · refine py_held F5.sep D1 D2 hz hT hI t1 t2 hi fun x1 x2 h' tk p1 p2 z' u1 u2 tp hk => ?_
          exact hQ s1.heap.objs.size _ _ h' tk ⟨p1, p2⟩ (.inl ⟨_, tp, rfl, _, rfl⟩) ⟨hk _ _ F5.sep.TIz F5.sep.TIi1 F5.sep.TIi2 hI, u1, u2, .inr ⟨T, true, oT, z', hk _ _ r1 r2 r3 hT, r1, r2, r3, r4⟩⟩
            fun c o hc e => hk c o (fun x => hc (by simp [x])) (fun x => hc (by simp [x])) (fun x => hc (by simp [x])) e
      done := fun s1 Q1 E1 st hQ => by
        obtain ⟨hI, t1, t2, hz⟩ := st
        obtain ⟨D1, D2⟩ := drw s1
        rcases hz with ⟨hz, a, b, hO⟩ | ⟨T, f, oT, hz, hT, r1, r2, r3, r4⟩
        · exact py_end hA F5.sep D1 D2 hz hI hO t1 t2 fun h' hk => hQ h' s1.toks fun c o hc e => hk c o (fun x => hc (by simp [x])) (fun x => hc (by simp [x])) (fun x => hc (by simp [x])) (fun x => hc (by simp [x])) e
        · exact py_heldEnd hA F5.sep D1 D2 hz hT hI t1 t2 fun h' hk => hQ h' s1.toks fun c o hc e => hk c o (fun x => hc (by simp [x])) (fun x => hc (by simp [x])) (fun x => hc (by simp [x])) e }
end
end LiZ
set_option Elab.async false
set_option linter.all false
set_option maxRecDepth 100000
set_option maxHeartbeats 2000000
/-! LiDz: dict(zip(a, b, strict=True)), d.get(k, x), sorted(xs, key=len). -/
namespace Li
open PySem L2
section
variable {X : Cx} {G : SX} {lvl : Nat} {nm : Nat → Str} {σ : Env} {S : Sto} {hid : Hid} {σ' : L2.St} {H : Hp} {K : PySem.W.Frag}
/-! ### d.get(k, x) -/
theorem dctQ_inv {v : Val} {Q : List Key → List Val → Prop} (h : dctQ v Q) : ∃ ks vs, v = .dct ks vs ∧ Q ks vs := by
  cases v <;> first
    | exact ⟨_, _, rfl, h⟩
    | exact h.elim
theorem getV_val {M : Addr → Prop} {k : Key} : ∀ {ks : List Key} {vs : List Val} {xs : List V}, Rvs K M H vs xs → (∃ v x, getV ks vs k = some v ∧ valV (ks.zip xs) k = some x ∧ Rv K M H v x) ∨ (getV ks vs k = none ∧ valV (ks.zip xs) k = none)
  | [], vs, xs, h => .inr ⟨rfl, rfl⟩
  | q :: ks, [], xs, h => by
    cases (show xs = [] from h)
    exact .inr ⟨rfl, rfl⟩
  | q :: ks, v :: vs, xs, ⟨x, y, e, h1, h2⟩ => by
    subst e
    by_cases hq : q = k
    · exact .inl ⟨v, x, if_pos hq, valV_pos (p := (q, x)) hq, h1⟩
    · rcases getV_val (k := k) (ks := ks) h2 with ⟨u, z, e1, e2, e3⟩ | ⟨e1, e2⟩
      · exact .inl ⟨u, z, (if_neg hq).trans e1, by
          show valV ((q, x) :: ks.zip y) k = some z
          rw [← e2]
          simp [valV, List.find?_cons, hq], e3⟩
      · exact .inr ⟨(if_neg hq).trans e1, by
          show valV ((q, x) :: ks.zip y) k = none
          rw [← e2]
          simp [valV, List.find?_cons, hq]⟩
theorem sE_get (ok : Okx G lvl nm X) {o e f : Expr} {mo me mf : E} {apos cpos : Pos} (ho : PE X o (tEv G X.K mo)) (he : PE X e (tEv G X.K me)) (hf : PE X f (tEv G X.K mf)) (m : M2 X o "get" apos e f cpos) :
    PE X (.Call (.Attribute o "get" apos) [e, f] [] cpos) (tEv G X.K (.bm .get mo (.cons me (.cons mf .nil)))) :=
  PE.wk (pe_dget2 (by have := ok.room.units; omega) ho he hf m) fun σ' H Q ⟨σ, S, hid, w, h⟩ => (t1 (a := mo) w h).mono fun x' H1 ⟨S1, x, e1, w1, r1, z⟩ => by
    obtain ⟨ks, us, ed, _⟩ := dctQ_inv (show dctQ x fun _ _ => True from z.1)
    subst ed
    obtain ⟨p, o, xs, ex, h1, h2, h3, h4⟩ := r1
    refine ⟨p, ex, .inl ⟨_, .inr ⟨o, h1⟩⟩, ?_⟩
    have z2 : evE G.c me σ S1 fun y S2 => evE G.c mf σ S2 fun d S3 => bmV .get (.dct ks us) [y, d] S3 (PoE X.K hid S H Q) := z.2
    refine (t2 (a := me) (b := mf) w1 z2).mono fun y' H2 q => q.mono fun d' H3 ⟨S3, y, d, e3, w3, ry, rd, z3⟩ => ?_
    obtain ⟨i, ei, z4⟩ := intQ_inv (show intQ y fun i => dctQ (.dct ks us) fun ks us => PoE X.K hid S H Q ((getV ks us (.inl i)).getD d) S3 from z3)
    subst ei
    have kp := e3.keeps hid
    obtain ⟨h5, h6⟩ := kp.keep p _ h1 so_frz h2
    have r4 := h4.keep kp
    rcases getV_val (k := .inl i) (ks := ks) r4 with ⟨v, x, e1', e2', rv⟩ | ⟨e1', e2'⟩
    · refine ⟨some x, .inl ⟨_, .inl i, .inr ⟨o, h5⟩, ry, e2'.symm⟩, ?_⟩
      have z5 : PoE X.K hid S H Q ((getV ks us (.inl i)).getD d) S3 := z4
      rw [e1'] at z5
      exact z5 x H3 (e1.trans e3) w3.rel rv
    · refine ⟨none, .inl ⟨_, .inl i, .inr ⟨o, h5⟩, ry, e2'.symm⟩, ?_⟩
      have z5 : PoE X.K hid S H Q ((getV ks us (.inl i)).getD d) S3 := z4
      rw [e1'] at z5
      exact z5 d' H3 (e1.trans e3) w3.rel rd
/-! ### dict(zip(a, b, strict=True)) -/
theorem merge_nodup : ∀ {more acc : List (Key × V)}, ((acc ++ more).map (·.1)).Nodup → mergeK acc more = acc ++ more
  | [], acc, _ => by rw [List.append_nil]; rfl
  | q :: more, acc, h => by
    have e : putK acc q.1 q.2 = acc ++ [q] := by
      unfold putK
      rw [if_neg]
      intro z
      obtain ⟨p, hp, hq⟩ := List.any_eq_true.mp z
      have hq : p.1 = q.1 := of_decide_eq_true hq
      rw [List.map_append, List.nodup_append] at h
      exact h.2.2 p.1 (List.mem_map_of_mem hp) q.1 (by simp) hq
    show mergeK (putK acc q.1 q.2) more = _
    rw [e, merge_nodup (more := more) (acc := acc ++ [q]) (by rw [List.append_assoc]; exact h), List.append_assoc]
    rfl
theorem kv_zip : ∀ {ks : List Key} {xs : List V} {us : List Value}, Vals xs us → KV (ks.zip xs) (ks.zip us)
  | [], xs, us, r => .nil
  | k :: ks, [], us, r => by
    cases r
    exact .nil
  | k :: ks, x :: xs, us, r => by
    cases r with
    | cons h t => exact .cons ⟨rfl, h⟩ (kv_zip t)
theorem dict_zip {tq : TA} {e e2 : Expr} {p p2 pos zpos kpos cpos : Pos} {ck : Nat} (hc : X.calm = true) (hg : Gl X "zip") (hm : X.mg "zip" = none) (hg2 : Gl X "dict") (hm2 : X.mg "dict" = none) (ha : PA X [e, e2] tq)
    (hs : starEach [e, e2] X.env = (false, eval e X.env) :: starEach [e2] X.env) (hpl : (backTo zpos (starEach [e, e2] X.env)).any (·.1) = false) :
    PE X (.Call (.Name "dict" p) [.Call (.Name "zip" p2) [e, e2] [⟨some (Str.ofString "strict"), .Constant (.bool true) ck cpos, kpos⟩] zpos] [] pos)
      (fun σ H Q => tq σ H fun vs H1 => ∃ (a b : Addr) (k1 k2 : Bool) (ns : List Int) (ys : List V), vs = [.ref a, .ref b] ∧ SqB k1 X.K H1 a (ns.map V.int) ∧ SqB k2 X.K H1 b ys ∧ ns.length = ys.length ∧ ns.Nodup ∧ ∀ d, H1 d = none → Q (.ref d) (upd H1 d (.dK ((ns.map Sum.inl).zip ys)))) := by
  refine ⟨fun pins s σ H Q I h => ?_⟩
  refine wpAny_Call_Name_kw (ld_blt I hg2 hm2 PyProof.Rows.boot_dict (PyProof.Rows.callWith_type1 ?_ rfl rfl))
  refine (?_ : wpAny _ _ (spliced [(false, eval (.Call (.Name "zip" p2) [e, e2] [⟨some (Str.ofString "strict"), .Constant (.bool true) ck cpos, kpos⟩] zpos) X.env)]) _ _ _)
  refine Calls.spliced_cons (wpAny_Call_Name_kw (ld_blt I hg hm PyProof.Rows.boot_zip (LiZ.callTyKw (thn (ha.run zpos pins s σ H _ I h) fun us s1 ⟨vs, H1, I1, r1, q1⟩ => ?_) hs hpl rfl rfl)))
  obtain ⟨a, b, k1, k2, ns, ys, ex, qx, qy, hl, hnd, q⟩ := q1
  subst ex
  refine thn ((pk_cons (nm := some (Str.ofString "strict")) (kpos := kpos) (pe_bl (X := X) (j := ck) (pos := cpos) (b := true)) pk_nil).run zpos pins s1 σ H1 (fun zs H2 => zs = [.bl true] ∧ H2 = H1) I1 ⟨rfl, rfl⟩) fun ws s2 ⟨zs, H2, I2, rz, ez, eH⟩ => ?_
  subst ez eH
  cases rz with
  | cons rb rr =>
    cases rr
    cases rb
    cases r1 with
    | cons r rr =>
      cases rr with
      | cons r' rr =>
        cases rr
        cases r
        cases r'
        obtain ⟨its, rv, p1, z1, la⟩ := I2.rowB qx
        obtain ⟨its2, rv2, p2', z2, lb⟩ := I2.rowB qy
        refine LiZ.begins (beginsB k1 a its.toArray) (beginsB k2 b its2.toArray) p1 p2' fun h' hz hI hO c0 c1 hk => Calls.spliced_nil ?_
        have I3 : L2.Inv X pins σ H2 { s2 with heap := h' } := I2.kept (t' := s2.toks) hk
        have l1 := rv.length
        have l2 := rv2.length
        rw [List.length_map] at l1
        have sz : its.toArray.size = its2.toArray.size := by
          rw [List.size_toArray, List.size_toArray]
          omega
        have F5 := five_at s2.heap.objs.size a b la lb
        have lT : a ≠ s2.heap.objs.size + 4 ∧ a ≠ s2.heap.objs.size + 3 ∧ a ≠ s2.heap.objs.size + 1 ∧ b ≠ s2.heap.objs.size + 4 ∧ b ≠ s2.heap.objs.size + 3 ∧ b ≠ s2.heap.objs.size :=
          ⟨na (.inl (Nat.lt_of_lt_of_le la (by omega))), na (.inl (Nat.lt_of_lt_of_le la (by omega))), na (.inl (Nat.lt_of_lt_of_le la (by omega))), na (.inl (Nat.lt_of_lt_of_le lb (by omega))), na (.inl (Nat.lt_of_lt_of_le lb (by omega))), na (.inl lb)⟩
        have PZ := LiZ.pairs_zip (P := X.prog) (w := X.w) k1 k2 F5 lT its.toArray its2.toArray sz
        have keyAt : ∀ (i : Nat) (u : Value), its.toArray[i]? = some u → ∃ n t, ns[i]? = some n ∧ u = .int n t := fun i u hu => by
          have hu : its[i]? = some u := by simpa using hu
          have hi : i < ns.length := by
            have := (List.getElem?_eq_some_iff.mp hu).1
            omega
          obtain ⟨u', e1, e2⟩ := rv.get (i := i) (x := .int ns[i]) (by rw [List.getElem?_map, List.getElem?_eq_getElem hi]; rfl)
          rw [hu] at e1
          cases e1
          obtain ⟨t, ht⟩ := e2
          exact ⟨ns[i], t, List.getElem?_eq_getElem hi, ht⟩
        refine PySem.call_dict_pairs (s := { s2 with heap := h' }) (knd := mixKind X.prog X.w) (kvs := (ns.map Sum.inl).zip its2) PZ (I2.ok.hd hc)
          ⟨hz, hI, ⟨_, _, hO⟩, iterB0 c0, iterB0 c1, LiZ.rowB_at p1 fun o e => hk _ o e, LiZ.rowB_at p2' fun o e => hk _ o e⟩ ⟨by rw [List.length_zip, List.length_map, List.size_toArray, ← l1, ← l2, hl, Nat.min_self], fun i key v ⟨e1, e2⟩ => ?_⟩ (by rw [List.size_toArray, ← l1, ← List.length_map (f := V.int)]; exact z1) fun h'' tk hd ko => ?_
        · obtain ⟨n, t, en, eu⟩ := keyAt i key e1
          subst eu
          refine ⟨.inl n, ?_, keyIs_int n t⟩
          rw [List.getElem?_zip_eq_some]
          exact ⟨by rw [List.getElem?_map, en]; rfl, by simpa using e2⟩
        · have hle : s2.heap.objs.size ≤ h'.objs.size := by
            have := Heap.lt_size hz
            exact Nat.le_of_lt (Nat.lt_of_le_of_lt (Nat.le_add_right _ _) this)
          have kv0 : KV ((ns.map Sum.inl).zip ys) ((ns.map Sum.inl).zip its2) := kv_zip rv2
          have keys : ((ns.map (Sum.inl : Int → Key)).zip ys).map (·.1) = ns.map Sum.inl := by
            rw [List.map_fst_zip (by rw [List.length_map, hl]; exact Nat.le_refl _)]
          have mk : mergeK [] ((ns.map Sum.inl).zip ys) = (ns.map Sum.inl).zip ys := by
            rw [merge_nodup (acc := []) (by rw [List.nil_append, keys]; exact List.Pairwise.map _ (fun x y h z => h (Sum.inl.inj z)) hnd)]
            rfl
          have new : ObjOk X.prog X.w (upd H2 h'.objs.size (.dK ((ns.map Sum.inl).zip ys))) h'' h'.objs.size (.dK ((ns.map Sum.inl).zip ys)) := by
            refine ⟨?_, beq_eq_false_iff_ne.mpr (Nat.ne_of_gt I3.big), merged [] ((ns.map Sum.inl).zip its2), ?_, hd⟩
            · rw [List.length_zip, List.length_map, hl, Nat.min_self]
              exact z2
            · rw [← mk]
              exact KV.merge kv0 .nil
          refine ⟨.ref h'.objs.size, upd H2 h'.objs.size (.dK ((ns.map Sum.inl).zip ys)), I3.turnedNew (t' := tk) (ch := [s2.heap.objs.size + 4, s2.heap.objs.size + 3, s2.heap.objs.size, s2.heap.objs.size + 1]) (fun c o hb e => ko c o hb e) (fun c hcm => ?_) (Nat.le_refl _) new, rfl, q _ (I2.hok.fresh hle)⟩
          have hlc : s2.heap.objs.size ≤ c := by
            have e' : c = s2.heap.objs.size + 4 ∨ c = s2.heap.objs.size + 3 ∨ c = s2.heap.objs.size ∨ c = s2.heap.objs.size + 1 := by simpa using hcm
            rcases e' with e | e | e | e <;> (have e2 : @Eq Nat c _ := e; omega)
          exact I2.fpOk hlc (I2.hok.fresh hlc)
theorem sE_dzip {e e2 : Expr} {m m2 : E} {p p2 pos zpos kpos cpos : Pos} {ck : Nat} (ok : Okx G lvl nm X) (hg : Gl X "zip") (hm : X.mg "zip" = none) (hg2 : Gl X "dict") (hm2 : X.mg "dict" = none) (he : PE X e (tEv G X.K m)) (he2 : PE X e2 (tEv G X.K m2))
    (hs : starEach [e, e2] X.env = (false, eval e X.env) :: starEach [e2] X.env) (hs2 : starEach [e2] X.env = [(false, eval e2 X.env)]) (hpl : (backTo zpos (starEach [e, e2] X.env)).any (·.1) = false) :
    PE X (.Call (.Name "dict" p) [.Call (.Name "zip" p2) [e, e2] [⟨some (Str.ofString "strict"), .Constant (.bool true) ck cpos, kpos⟩] zpos] [] pos) (tEv G X.K (.dzip m m2)) :=
  PE.wk (pe_lk (dict_zip ok.calm hg hm hg2 hm2 (pa_cons he (pa_cons he2 pa_nil (by rw [hs2]; rfl)) hs) hs hpl)) fun σ' H Q ⟨σ, S, hid, w, h⟩ => (t2 (a := m) (b := m2) w h).mono fun x' H1 q => q.mono fun y' H2 ⟨S2, x, y, e, w2, r1, r2, z⟩ => by
    obtain ⟨us, eu, z⟩ := optQ_inv z
    obtain ⟨vs, ev, z⟩ := optQ_inv z
    obtain ⟨ns, en, z⟩ := optQ_inv z
    obtain ⟨k, a, ea, rf⟩ := row_rd eu r1
    obtain ⟨k2, b, eb, rf2⟩ := row_rd ev r2
    obtain ⟨xs, q1, s1⟩ := rf.now w2.rel
    obtain ⟨ys, q2, s2⟩ := rf2.now w2.rel
    have ex := s1.ofInts en
    subst ex
    have l1 := s1.length
    rw [List.length_map] at l1
    have l2 := s2.length
    refine ⟨a, b, k, k2, ns, ys, by rw [ea, eb], q1, q2, by rw [← l1, z.1, l2], z.2.1, fun d hd => .lock d _ upd_same fun od => .here ?_⟩
    rw [upd_upd]
    refine (z.2.2.after e).made w2.rel hd ⟨d, od, ys, rfl, upd_same, fun q => ?_, by rw [List.length_map, ← l1, z.1], s2.keep (keeps_new hd)⟩
    exact q.elim (fun q => q (w2.rel.free hd)) fun q => w2.rel.nohid hd q
/-! ### sorted(xs, key=len) -/
theorem data_le : (PySem.W.dataLe false fun p : Addr × List V => PyData.int (p.2.length : Int)) = fun a b => decide (a.2.length ≤ b.2.length) := by
  funext a b
  show (!PyProof.Rows.lexLt PyProof.Rows.itemOrd [Sum.inl (b.2.length : Int)] [Sum.inl (a.2.length : Int)]) = _
  simp only [PyProof.Rows.lexLt, PyProof.Rows.itemOrd, PyProof.Rows.itemLt]
  by_cases h : a.2.length ≤ b.2.length
  · have h1 : ¬ ((b.2.length : Int) < (a.2.length : Int)) := by omega
    simp [h, h1]
  · have h1 : ((b.2.length : Int) < (a.2.length : Int)) := by omega
    simp [h, h1]
theorem sorted_len {te : TE} {e : Expr} {p lp pos kpos : Pos} (hr : X.A.units + 64 < cLine) (hc : X.calm = true) (hg : Gl X "sorted") (hm : X.mg "sorted" = none) (hg2 : Gl X "len") (hm2 : X.mg "len" = none) (he : PE X e te) (hs : starEach [e] X.env = [(false, eval e X.env)]) :
    PE X (.Call (.Name "sorted" p) [e] [⟨some (Str.ofString "key"), .Name "len" lp, kpos⟩] pos)
      (fun σ H Q => te σ H fun x H1 => ∃ (a : Addr) (ps : List (Addr × List V)), x = .ref a ∧ SqL X.K H1 a (ps.map fun q => V.ref q.1) ∧ (∀ q ∈ ps, SqL X.K H1 q.1 q.2) ∧ ∀ d, H1 d = none → Q (.ref d) (upd H1 d (.lst ((ps.mergeSort fun a b => decide (a.2.length ≤ b.2.length)).map fun q => V.ref q.1)))) := by
  refine ⟨fun pins s σ H Q I h => ?_⟩
  refine wpAny_Call_Name_kw (ld_blt I hg hm PyProof.Rows.boot_sorted (PyProof.Rows.callWith_kw ?_ (by rw [hs]; rfl) (by rw [hs]; rfl) rfl rfl))
  rw [hs]
  refine (?_ : wpAny _ _ (spliced [(false, eval e X.env)]) _ _ _)
  refine Calls.spliced_cons (thn (he.run pins s σ H _ I h) fun u s1 ⟨x, H1, I1, r1, a, ps, ex, hq, hp, q⟩ => Calls.spliced_nil ?_)
  subst ex
  cases r1
  refine (?_ : wpAny _ _ (evalAll [(do let v ← eval (.Name "len" lp) X.env; standAt pos; pure v)]) _ _ _)
  refine wpAny_evalAll_cons (wpAny_bind (ld_blt I1 hg2 hm2 boot_len (wpAny_bind (wpAny_standAt (wpAny_pure (wpAny_evalAll_nil ?_))))))
  obtain ⟨its, rv, pl, hz⟩ := I1.list hq
  have ei : its = ps.map fun q => Value.ref q.1 := by
    have := refs_at (ps := ps.map (·.1)) (us := its) (by rw [List.map_map]; exact rv)
    rw [this, List.map_map]
    rfl
  subst ei
  rw [List.length_map] at hz
  have each : PySem.W.EachIs (fun (v : Value) (p : Addr × List V) => v = .ref p.1) (ps.map fun q => Value.ref q.1) ps := by
    clear hq hp q rv pl hz
    induction ps with
    | nil => exact .nil
    | cons p ps ih => exact .cons rfl ih
  have all : ∀ d, d ∈ ps.map (fun q : Addr × List V => PyData.int (q.2.length : Int)) → ∃ n : Int, d = .int n := fun d hd => by
    obtain ⟨q, _, e⟩ := List.mem_map.mp hd
    exact ⟨_, e.symm⟩
  refine PySem.W.sorted_key_data (k := fun q : Addr × List V => PyData.int (q.2.length : Int)) (b := false) (f := .builtin "len") pl.isList each (fun d hd d' hd' => ?_) (.inr fun d hd => ?_) hz (fun q _ => ?_) (PyProof.Rows.ksk_s1 _ _) (fun _ => PyProof.Rows.ksk_l1 _ _) (fun x => PyProof.Rows.ksk_t4 "len" x) (fun v q ev hq h tk kp => ?_) fun out c h' tk ko _ hd le eo => ?_
  · obtain ⟨n, rfl⟩ := all d hd
    obtain ⟨n', rfl⟩ := all d' hd'
    rfl
  · obtain ⟨n, rfl⟩ := all d hd
    exact ⟨(fun z => nomatch z), (fun xs z => nomatch z)⟩
  · have e1 : (PyData.int (q.2.length : Int)).depth ≤ 1 := by simp [PyData.depth]
    omega
  · subst ev
    obtain ⟨its, rv2, pl2, hz2⟩ := I1.list (hp q hq)
    have l2 := rv2.length
    have sz : its.toArray.size = q.2.length := by rw [List.size_toArray, l2]
    have hl : (h : Heap).IsList q.1 its.toArray := pl2.isList.at fun o e => kp _ o e
    have n63 := line63
    refine Calls.call_len_list (s := { s1 with heap := h, toks := tk }) hl (by rw [sz]; omega) ?_
    rw [sz]
    exact ⟨h, tk + 1 + 1, rfl, fun _ _ e => e, .int _ _⟩
  · rw [data_le] at eo
    have eq : out = (ps.mergeSort fun a b => decide (a.2.length ≤ b.2.length)).map fun q => Value.ref q.1 := by
      clear hd le
      generalize (ps.mergeSort fun a b => decide (a.2.length ≤ b.2.length)) = l at eo
      induction eo with
      | nil => rfl
      | cons h _ ih => rw [List.map_cons, h, ih]
    subst eq
    have vals : ∀ l : List (Addr × List V), Vals (l.map fun q => V.ref q.1) (l.map fun q => Value.ref q.1) := fun l => by
      induction l with
      | nil => exact .nil
      | cons p l ih => exact .cons rfl ih
    have hlen : ((ps.mergeSort fun a b => decide (a.2.length ≤ b.2.length)).map fun q => V.ref q.1).length ≤ sizeLine := by
      rw [List.length_map, List.length_mergeSort]
      exact hz
    exact ⟨.ref (s1.heap.objs.size + 1), upd H1 (s1.heap.objs.size + 1) (.lst ((ps.mergeSort fun a b => decide (a.2.length ≤ b.2.length)).map fun q => V.ref q.1)), I1.laid (t' := tk) ko (Nat.le_succ _) ⟨hlen, _, c, vals _, hd⟩, rfl, q _ (I1.hok.fresh (Nat.le_succ _))⟩
theorem lens_rd {M : Addr → Prop} : ∀ {vs : List Val} {ls : List Nat} {xs : List V}, lensV vs = some ls → Rvs K M H vs xs → ∃ tr : List ((Val × Nat) × (Addr × List V)), tr.map (·.1) = vs.zip ls ∧ xs = (tr.map (·.2)).map (fun q => V.ref q.1) ∧
    (∀ q ∈ tr.map (·.2), SqL K H q.1 q.2) ∧ ∀ t ∈ tr, Rv K M H t.1.1 (.ref t.2.1) ∧ t.1.2 = t.2.2.length
  | [], ls, xs, e, r => by
    cases (show xs = [] from r)
    exact ⟨[], rfl, rfl, fun q hq => (nomatch hq), fun q hq => (nomatch hq)⟩
  | v :: vs, ls, xs, e, ⟨x, ys, ex, h1, h2⟩ => by
    subst ex
    cases v with
    | lst us =>
      have e : (lensV vs).map (us.length :: ·) = some ls := e
      cases el : lensV vs with
      | none =>
        rw [el] at e
        cases e
      | some ls' =>
        rw [el] at e
        cases e
        obtain ⟨tr, t1, t2, t3, t4⟩ := lens_rd el h2
        obtain ⟨p, zs, ez, q1, q2, q3⟩ := id h1
        subst ez
        refine ⟨((.lst us, us.length), (p, zs)) :: tr, by rw [List.map_cons, t1]; rfl, by rw [List.map_cons, List.map_cons, ← t2], fun q hq => ?_, fun t ht => ?_⟩
        · rcases List.mem_cons.mp hq with e | e
          · rw [e]
            exact SqL.of q1
          · exact t3 q e
        · rcases List.mem_cons.mp ht with e | e
          · rw [e]
            exact ⟨h1, q3.length⟩
          · exact t4 t e
    | _ => cases e
theorem sE_srtLen (ok : Okx G lvl nm X) {e : Expr} {m : E} {p lp pos kpos : Pos} (hg : Gl X "sorted") (hm : X.mg "sorted" = none) (hg2 : Gl X "len") (hm2 : X.mg "len" = none) (he : PE X e (tEv G X.K m)) (hs : starEach [e] X.env = [(false, eval e X.env)]) :
    PE X (.Call (.Name "sorted" p) [e] [⟨some (Str.ofString "key"), .Name "len" lp, kpos⟩] pos) (tEv G X.K (.srtLen m)) :=
  PE.wk (sorted_len (by have := ok.room.units; omega) ok.calm hg hm hg2 hm2 he hs) fun σ' H Q ⟨σ, S, hid, w, h⟩ => (t1 (a := m) w h).mono fun x' H1 ⟨S1, x, e1, w1, r1, z⟩ => by
    obtain ⟨vs, ev, z⟩ := optQ_inv z
    obtain ⟨ls, el, z⟩ := optQ_inv z
    obtain ⟨a, xs, ea, q1, s1⟩ := asL_seq w1.rel ev r1
    obtain ⟨tr, t1, t2, t3, t4⟩ := lens_rd el s1
    refine ⟨a, tr.map (·.2), ea, by rw [← t2]; exact SqL.of q1, t3, fun d hd => (z.after e1).made w1.rel hd ?_⟩
    have m1 : srtV vs ls = (tr.mergeSort fun a b => decide (a.1.2 ≤ b.1.2)).map fun t => t.1.1 := by
      unfold srtV
      rw [← t1, ← List.map_mergeSort (r := fun a b => decide (a.1.2 ≤ b.1.2)) (fun a _ b _ => rfl), List.map_map]
      rfl
    have m2 : ((tr.map (·.2)).mergeSort fun a b => decide (a.2.length ≤ b.2.length)).map (fun q => V.ref q.1) = (tr.mergeSort fun a b => decide (a.1.2 ≤ b.1.2)).map fun t => V.ref t.2.1 := by
      rw [← List.map_mergeSort (r := fun a b => decide (a.1.2 ≤ b.1.2)) (fun a ha b hb => by rw [(t4 a ha).2, (t4 b hb).2]), List.map_map]
      rfl
    have rr : ∀ l : List ((Val × Nat) × (Addr × List V)), (∀ t ∈ l, Rv X.K (Mset S1 hid) H1 t.1.1 (.ref t.2.1)) → Rvs X.K (Mset S1 hid) H1 (l.map fun t => t.1.1) (l.map fun t => V.ref t.2.1) := fun l => by
      induction l with
      | nil => exact fun _ => rfl
      | cons t l ih => exact fun h => ⟨_, _, rfl, h t List.mem_cons_self, ih fun u hu => h u (List.mem_cons_of_mem _ hu)⟩
    rw [m1, m2]
    exact Rv.newL w1.rel hd (rr _ fun t ht => (t4 t ((List.mem_mergeSort).mp ht)).1)
end
end Li
set_option Elab.async false
set_option linter.all false
set_option maxRecDepth 100000
set_option maxHeartbeats 2000000
/-! LiFresh: lists just made that are changed afterwards; xs[i] op= e. -/
namespace Li
open PySem L2
def PoF (K : PySem.W.Frag) (hid : Hid) (S : Sto) (H : Hp) (Q : VK) : List Val → Sto → Prop := fun vs S1 => ∀ p xs H1, H p = none → Ext S H S1 H1 → Rel K (hid.add p) S1 H1 → S1 p = none → H1 p = some (.lst xs) →
  Rvs K (Mset S1 (hid.add p)) H1 vs xs → Q (.ref p) H1
def tEf (G : SX) (K : PySem.W.Frag) (e : E) : TE := fun σ' H Q => ∃ σ S hid, Wd G K σ S hid σ' H ∧ evE G.c e σ S fun v S1 => lstQ v fun vs => PoF K hid S H Q vs S1
section
variable {X : Cx} {G : SX} {lvl : Nat} {nm : Nat → Str} {σ : Env} {S : Sto} {hid : Hid} {σ' : L2.St} {H : Hp} {K : PySem.W.Frag}
theorem PoF.new {Q : VK} {vs : List Val} {S1 : Sto} {H1 : Hp} {xs : List V} (z : PoF K hid S H Q vs S1) (e : Ext S H S1 H1) (rel : Rel K hid S1 H1) (r : Rvs K (Mset S1 hid) H1 vs xs) : ∀ q, H1 q = none → Q (.ref q) (upd H1 q (.lst xs)) := fun q hq =>
  z q xs _ (e.free hq) (e.trans (Ext.new S1 hq)) (rel.hide hq) (rel.free hq) upd_same (r.keep (keeps_hid hq))
theorem tEf.mono {e : E} {Q Q' : VK} (hQ : ∀ x H, Q x H → Q' x H) (h : tEf G K e σ' H Q) : tEf G K e σ' H Q' := by
  obtain ⟨σ, S, hid, w, h⟩ := h
  exact ⟨σ, S, hid, w, evE_mono e (fun v S' z => lstQ_mono (fun vs z p xs H1 a b c d e f => hQ _ _ (z p xs H1 a b c d e f)) z) h⟩
theorem sF_lst {es : List Expr} {ms : Es} {pos : Pos} (h : PA X es (tAv G X.K ms)) : PE X (.List es pos) (tEf G X.K (.lst ms)) :=
  PE.wk (pe_lst h) fun σ' H Q ⟨σ, S, hid, w, h⟩ => (tA (a := ms) w h).mono fun xs' H1 ⟨S1, xs, e1, w1, r1, z⟩ =>
    ⟨by rw [← r1.length]; exact z.1, PoF.new (show PoF X.K hid S H Q xs S1 from z.2) e1 w1.rel r1⟩
theorem comp_rdF {melt : E} {t : Tg} {mi : It} {mifs : Eo} {own : List Nat} {Q : VK} (ht : ∀ i, i ∈ tgs t → i ∈ own) (h : tEf G K (.comp melt t mi mifs own) σ' H Q) :
    tLc (iEv G K mi) (gOf K t) (tBo (G.blk σ' own) K mifs) (tEv (G.blk σ' own) K melt) own σ' H Q := by
  obtain ⟨σ, S, hid, w, h⟩ := h
  exact comp_rdG ht w h fun vs S5 D H2 xs hD e rel sD hD2 rv z => (show PoF K hid S H Q vs S5 from z) D xs H2 hD e rel sD hD2 rv
theorem sF_comp (ok : Okx G lvl nm X) {elt tg iter : Expr} {ifs : List Expr} {scope : Scope} {own : List (Str × Nat)} {pos : Pos} {melt : E} {t : Tg} {mi : It} {mifs : Eo} (hi : PI X tg iter (iEv G X.K mi)) (blk : BlkOk X.N X.env.scope scope own) (ht : ∀ i, i ∈ tgs t → i ∈ own.map (·.2))
    (bp : BlkP X G scope (own.map (·.2)) tg ifs elt t mifs melt) (hs : ∀ x, foldedSetIterable iter X.env x = pure x) :
    PE X (.ListComp elt [⟨tg, iter, ifs, 0⟩] scope pos) (tEf G X.K (.comp melt t mi mifs (own.map (·.2)))) :=
  PE.wk (LiC.pe_lcI ok.calm ok.nd hi blk bp.hg bp.ht bp.he hs) fun σ' H Q h => ⟨let ⟨_, _, _, w, _⟩ := h; w.ag, comp_rdF ht h⟩
/-- list(x) -/
theorem sF_list (ok : Okx G lvl nm X) {x : Str} {e : Expr} {es : List Expr} {ms : Es} {p pos : Pos} (hg : Gl X x) (hm : X.mg x = none) (hv : bootBuiltins x = some (.type "list"))
    (ha : PA X (e :: es) (tAv G X.K ms)) (hn : x ≠ "__name__") (hdb : (x == ("__debug__" : Str)) = false) (he : starEach (e :: es) X.env = (false, eval e X.env) :: starEach es X.env) (hpl : (backTo pos (starEach es X.env)).any (·.1) = false) :
    PE X (.Call (.Name x p) (e :: es) [] pos) (tEf G X.K (.bf .list ms)) :=
  PE.wk (pe_callTy call_list_of hg hm hv ha hn hdb he hpl) fun σ' H Q ⟨σ, S, hid, w, h⟩ => (tA (a := ms) w h).mono fun xs' H1 ⟨S1, xs, e1, w1, rv, z⟩ => by
    have h' : bfV G.c.D .list xs S1 (fun v => lstQ v fun vs => PoF X.K hid S H Q vs S1) := z
    unfold bfV at h'
    split at h' <;> first
      | (rename_i hf; cases hf; done)
      | skip
    · rename_i us' hf
      obtain ⟨z, e, rz⟩ := rv.one
      obtain ⟨p, ys, ex, q1, s1⟩ := rz.seqT
      exact ⟨p, ys, by rw [e, ex], .inr q1, PoF.new h' e1 w1.rel s1⟩
    · rename_i ns hf
      obtain ⟨z, e, rz⟩ := rv.one
      obtain ⟨p, ex, q1⟩ := Rv.seqS rz
      exact ⟨p, _, by rw [e, ex], .inl q1, PoF.new h' e1 w1.rel (Rvs.ints ns)⟩
    · rename_i x _ _ hf
      obtain ⟨z, e, rz⟩ := rv.one
      obtain ⟨vs', e0, h'⟩ := optQ_inv h'
      obtain ⟨p, ys, ex, q1, s1⟩ := asL_seq w1.rel e0 rz
      exact ⟨p, ys, by rw [e, ex], .inl (SqL.of q1), PoF.new h' e1 w1.rel s1⟩
    · exact h'.elim
/-- list + list -/
theorem sF_add {a b : Expr} {ma mb : E} {pos : Pos} (ha : PE X a (tEv G X.K ma)) (hb : PE X b (tEv G X.K mb)) : PE X (.BinOp a .Add b pos) (tEf G X.K (.bin .Add ma mb)) :=
  PE.wk (pe_op op_cat ha hb) fun σ' H Q ⟨σ, S, hid, w, h⟩ => (t2 w h).mono fun x' H1 q => q.mono fun y' H2 ⟨S2, x, y, e, w2, r1, r2, z⟩ => by
    have h2 : addV S2 (fun v => lstQ v fun vs => PoF X.K hid S H Q vs S2) x y := z
    unfold addV at h2
    split at h2
    · exact h2.elim
    · exact h2.2.elim
    · exact h2.2.elim
    · obtain ⟨vs, e1, h3⟩ := optQ_inv h2
      obtain ⟨us, e2, h4⟩ := optQ_inv h3
      obtain ⟨p, xs, ex, q1, s1⟩ := asL_seq w2.rel e1 r1
      obtain ⟨p2, xs2, ex2, q2, s2⟩ := asL_seq w2.rel e2 r2
      exact ⟨p, p2, xs, xs2, ex, ex2, q1, q2, by rw [← s1.length, ← s2.length]; exact h4.1, PoF.new h4.2 e w2.rel (s1.append s2)⟩
/-! ### a hidden list becomes a cell -/
theorem mset_cell {p : Addr} {c : Cell} : Keeps (Mset S (hid.add p)) H (Mset (S.set p c) hid) H := ⟨fun q o e _ n => ⟨e, fun z => n (by
  rcases z with z | z
  · by_cases hq : q = p
    · exact .inr (.inr hq)
    · rw [Sto.set_ne hq] at z
      exact .inl z
  · exact .inr (.inl z))⟩⟩
theorem Rel.cellize {p : Addr} {vs : List Val} {xs : List V} (r : Rel K (hid.add p) S H) (nh : ¬ hid p) (h : H p = some (.lst xs)) (rv : Rvs K (Mset S (hid.add p)) H vs xs) : Rel K hid (S.set p (.lst vs)) H where
  cells := fun b d e => by
    by_cases q : b = p
    · rw [q, Sto.set_same] at e
      cases e
      rw [q]
      exact ⟨xs, h, rv.keep mset_cell⟩
    · rw [Sto.set_ne q] at e
      exact (r.cells b d e).keep mset_cell rfl
  hids := fun q hq => r.hids q (.inl hq)
  tabs := r.tabs
  dis := fun q hq => by
    rw [Sto.set_ne fun (z : q = p) => nh (z ▸ hq)]
    exact r.dis q (.inl hq)
theorem Ext.cellize {S0 : Sto} {H0 : Hp} {p : Addr} {c : Cell} (e : Ext S0 H0 S H) (h : H0 p = none) : Ext S0 H0 (S.set p c) H where
  keep := fun q o hq sd k => ⟨(e.keep q o hq sd k).1, by
    rw [Sto.set_ne fun (z : q = p) => by rw [z, h] at hq; cases hq]
    exact (e.keep q o hq sd k).2⟩
  dom := e.dom
theorem dropC_cases (σ : Env) (S : Sto) (i : Nat) : dropC σ S i = S ∨ ∃ a, dropC σ S i = S.del a := by
  unfold dropC
  split
  · split
    · exact .inr ⟨_, rfl⟩
    · exact .inr ⟨_, rfl⟩
    · exact .inl rfl
  · exact .inl rfl
theorem cell_made {i : Nat} {R : Env → Sto → Prop} {Q : Env → Sto → VK → Prop} {vs : List Val} {S1 : Sto} {H1 : Hp} {p : Addr} {xs : List V} (w : Wd G K σ S hid σ' H) (z : setC i (.lst vs) σ S1 R) (hp : H p = none) (e : Ext S H S1 H1) (rel : Rel K (hid.add p) S1 H1) (sp : S1 p = none) (h1 : H1 p = some (.lst xs))
    (rv : Rvs K (Mset S1 (hid.add p)) H1 vs xs) : ∃ S2, R (σ.set i (some (.adr p))) S2 ∧ Ext S H S2 H1 ∧ Rel K hid S2 H1 ∧ Renv K (Mset S2 hid) H1 (σ.set i (some (.adr p))) (σ'.set i (some (.ref p))) := by
  have z1 : R (σ.set i (some (.adr p))) ((dropC σ S1 i).set p (.lst vs)) := z p sp
  have nh : ¬ hid p := fun q => w.rel.nohid hp q
  have fin : ∀ S1', Rel K (hid.add p) S1' H1 → Ext S H S1' H1 → Rvs K (Mset S1' (hid.add p)) H1 vs xs → Ext S H (S1'.set p (.lst vs)) H1 ∧ Rel K hid (S1'.set p (.lst vs)) H1 ∧ Renv K (Mset (S1'.set p (.lst vs)) hid) H1 (σ.set i (some (.adr p))) (σ'.set i (some (.ref p))) :=
    fun S1' rel' e' rv' => ⟨e'.cellize hp, rel'.cellize nh h1 rv', (w.env.keep ((e'.cellize hp).keeps hid)).set i rfl⟩
  rcases dropC_cases σ S1 i with d | ⟨a, d⟩
  · rw [d] at z1
    exact ⟨_, z1, fin S1 rel e rv⟩
  · rw [d] at z1
    exact ⟨_, z1, fin _ (rel.del a) (e.trans (Ext.del S1 H1 a)) (rv.keep keeps_del)⟩
theorem sS_setc {i : Nat} {x : Str} {e : Expr} {me : E} {pos pos' : Pos} (hN : X.N.Nodup) (hi : X.N[i]? = some x) (hx : Loc X.env.scope x) (he : PE X e (tEf G X.K me)) (hs : swapsWith e (some (.Name x pos')) pos.line X.env = pure false) (hf : X.fn x = true ∨ X.env.scope.names.lookup x = some .local) :
    PS X (.Assign [.Name x pos'] e pos) (tSv G X.K (.setc i me)) :=
  PS.wk (ps_set hN hi hx he hs hf) fun D σ' H ⟨σ, S, hid, w, h⟩ => ⟨σ, S, hid, w, evE_mono me (fun v S1 z => lstQ_mono (fun vs z => z) (by
    obtain ⟨vs, ev, _⟩ := lstQ_inv (show lstQ v fun vs => True by
      have z : setC i v σ S1 (lift X.K hid S H D).nx := z
      unfold setC at z
      exact lstQ_mono (fun _ _ => trivial) z)
    subst ev
    intro p xs H1 hp e rel sp h1 rv
    obtain ⟨S2, q1, q2, q3, q4⟩ := cell_made (Q := fun _ _ _ => True) w z hp e rel sp h1 rv
    exact q1 _ H1 q2 q3 q4)) h⟩
theorem sS_setcLc (ok : Okx G lvl nm X) {i : Nat} {y : Str} {py spos : Pos} {elt tg iter : Expr} {ifs : List Expr} {scope : Scope} {own : List (Str × Nat)} {pos : Pos} {melt : E} {t : Tg} {mi : It} {mifs : Eo} (hy : X.N[i]? = some y) (hyl : X.env.scope.names.lookup y = some .local)
    (hsw : swapsWith (.ListComp elt [⟨tg, iter, ifs, 0⟩] scope pos) (some (.Name y py)) spos.line X.env = pure true) (hi : PI X tg iter (iEv G X.K mi)) (blk : BlkOk X.N X.env.scope scope own) (ht : ∀ i, i ∈ tgs t → i ∈ own.map (·.2))
    (bp : BlkP X G scope (own.map (·.2)) tg ifs elt t mifs melt) (hs : ∀ x, foldedSetIterable iter X.env x = pure x) :
    PS X (.Assign [.Name y py] (.ListComp elt [⟨tg, iter, ifs, 0⟩] scope pos) spos) (tSv G X.K (.setc i (.comp melt t mi mifs (own.map (·.2))))) :=
  PS.wk (LiC.ps_lcI ok.calm ok.nd hy hyl hsw hi blk bp.hg bp.ht bp.he hs) fun D σ' H ⟨σ, S, hid, w, h⟩ => ⟨w.ag, comp_rdG (R := fun v S1 => setC i v σ S1 (lift X.K hid S H D).nx) ht w h fun vs S5 Dd H2 xs hD e rel sD hD2 rv z => by
    obtain ⟨S2, q1, q2, q3, q4⟩ := cell_made (Q := fun _ _ _ => True) w z hD e rel sD hD2 rv
    exact q1 _ H2 q2 q3 q4⟩
theorem sS_attc (ok : Okx G lvl nm X) {o e : Expr} {mo me : E} {f : Str} {pos pos' : Pos} (he : PE X e (tEf G X.K me)) (ho : PE X o (tEv G X.K mo)) (hs : swapsWith e (some (.Attribute o f pos')) pos.line X.env = pure false) : PS X (.Assign [.Attribute o f pos'] e pos) (tSv G X.K (.attc mo f me)) :=
  PS.wk (ps_fld ho he hs) fun D σ' H ⟨σ, S, hid, w, h⟩ => ⟨σ, S, hid, w, evE_mono me (fun v S1 z => lstQ_mono (fun vs z => by
    intro p xs H1 hp e rel sp h1 rv
    have nh : ¬ hid p := fun q => w.rel.nohid hp q
    have ee := e.cellize (c := .lst vs) hp
    have w1 : Wd G X.K σ (S1.set p (.lst vs)) hid σ' H1 := w.step ee (rel.cellize nh h1 rv)
    refine (t1 (a := mo) w1 (z p sp)).mono fun x' H2 ⟨S2, x, e2, w2, rx, z⟩ => ?_
    obtain ⟨q, ep, z1⟩ := adrQ_inv z
    obtain ⟨C, fs, hS, zA, zl, z2⟩ := objQ_inv z1
    subst ep
    obtain ⟨dx, ys, h2, s1⟩ := w2.rel.cells q _ hS
    obtain ⟨c1, c2⟩ := ok.att C f zA
    have l1 := s1.length
    rw [List.length_map] at l1
    refine ⟨q, C, dx, _, rx, h2, c1, c2, by rw [List.length_zip, List.length_map, ← l1, Nat.min_self]; exact zl, ?_⟩
    obtain ⟨zs, e1, r1⟩ := putF_zip (f := f) (v := .adr p) (x := .ref p) (show Rv X.K (Mset S2 hid) H2 (.adr p) (.ref p) from rfl) s1
    rw [e1]
    have kp : Keeps (Mset S2 hid) H2 (Mset (S2.set q (.obj C (putV f (.adr p) fs))) hid) (upd H2 q (.ins C dx (((putV f (.adr p) fs).map (·.1)).zip zs))) := keeps_put hS
    exact z2 σ' _ (ee.trans (e2.trans (Ext.put hS))) (w2.rel.put hS ⟨dx, zs, upd_same, r1.keep kp⟩) (w2.env.keep kp)) z) h⟩
theorem sS_retc {e : Expr} {me : E} {pos : Pos} (he : PE X e (tEf G X.K me)) : PS X (.Return (some e) pos) (tSv G X.K (.retc me)) :=
  PS.wk (ps_ret he) fun D σ' H ⟨σ, S, hid, w, h⟩ => ⟨σ, S, hid, w, evE_mono me (fun v S1 z => lstQ_mono (fun vs z => by
    intro p xs H1 hp e rel sp h1 rv
    exact z p sp (.ref p) H1 (e.cellize hp) (rel.cellize (fun q => w.rel.nohid hp q) h1 rv) rfl) z) h⟩
/-! ### xs[i] op= e -/
def rGetL (K : PySem.W.Frag) : R2 := fun x y H Q => ∃ p xs i v, x = .ref p ∧ y = .int i ∧ H p = some (.lst xs) ∧ atI xs i = some v ∧ Q v H
theorem get_list : PGet X (rGetL X.K) := by
  intro pins s σ H x y v u Q I rx ry h
  obtain ⟨p, xs, i, z, rfl, rfl, hq, he, q⟩ := h
  cases rx
  obtain ⟨t, rfl⟩ := ry
  obtain ⟨its, r, pl, hz⟩ := I.list (SqL.of hq)
  obtain ⟨j, h1, h2, h3, h4, h5⟩ := L2.atI_get he
  obtain ⟨w, ew, rw'⟩ := r.get h2
  have hl := r.length
  have hn := line63
  have fin : EP X pins σ Q w s := ⟨z, H, I, rw', q⟩
  by_cases h0 : 0 ≤ i
  · have hj : i.toNat = j := by
      rw [seqIndex_of h0 h5] at h1
      exact Option.some.inj h1
    exact wpAny_getItem_list pl.isList h0 (by omega) (by rw [hj]; simpa using ew) fin
  · have hj : (i + (its.toArray.size : Int)).toNat = j := by
      rw [seqIndex_neg (by omega) h4] at h1
      rw [List.size_toArray, ← hl]
      exact Option.some.inj h1
    exact wpAny_getItem_list_neg pl.isList (by omega) (by rw [List.size_toArray] <;> omega) (by omega) (by rw [hj]; simpa using ew) fin
theorem sS_asub {a i e : Expr} {ma mi me : E} {op : Operator} {pos tp : Pos} (ha : PE X a (tEv G X.K ma)) (hi : PE X i (tEv G X.K mi)) (he : PE X e (tEv G X.K me))
    (hs : ∀ ov iv new, augStore i ov iv new = (do holding [new, ov, iv] (setItem ov iv new); release [new, ov, iv] []; pure .next)) : PS X (.AugAssign (.Subscript a i tp) op e pos) (tSv G X.K (.asub ma mi op me)) :=
  PS.wk (ps_augS ha hi get_list he (op_aug op) set_list hs) fun D σ' H ⟨σ, S, hid, w, h⟩ => (t2 (a := ma) (b := mi) w h).mono fun x' H2 q => q.mono fun y' H3 ⟨S3, x, y, e3, w3, rx, ry, z⟩ => by
    obtain ⟨p, ep, z1⟩ := adrQ_inv z
    obtain ⟨k, ek, z2⟩ := intQ_inv z1
    obtain ⟨vs, hS, z3⟩ := celQ_inv z2
    obtain ⟨j, ej, z4⟩ := optQ_inv z3
    obtain ⟨old, eo, z5⟩ := optQ_inv z4
    subst ep ek
    obtain ⟨xs, h1, s1⟩ := w3.rel.cells p _ hS
    obtain ⟨old', eo', ro⟩ := s1.get eo
    cases (show x' = V.ref p from rx)
    cases (show y' = V.int k from ry)
    refine ⟨p, xs, k, old', rfl, rfl, h1, by unfold atI; rw [← s1.length, ej]; exact eo', (t1 (a := me) w3 z5).mono fun u' H4 ⟨S4, u, e4, w4, ru, z6⟩ => ?_⟩
    refine ⟨S4, hid, old, u, w4.rel, ro.keep (e4.keeps hid), ru, augV_mono (fun v z7 v' H5 e5 rel5 rv => ?_) z6⟩
    obtain ⟨vs3, hS3, z8⟩ := celQ_inv z7
    obtain ⟨xs3, h3, s3⟩ := rel5.cells p _ hS3
    refine ⟨p, xs3, k, j, rfl, rfl, h3, by rw [← s3.length, z8.1]; exact ej, ?_⟩
    have kp : Keeps (Mset S4 hid) H5 (Mset (S4.set p (.lst (vs3.set j v))) hid) (upd H5 p (.lst (xs3.set j v'))) := keeps_put hS3
    exact z8.2 σ' _ ((e3.trans e4).trans (e5.trans (Ext.put hS3))) (rel5.put hS3 ⟨_, upd_same, (s3.keep kp).set (rv.keep kp) j⟩) ((w4.env.keep (e5.keeps hid)).keep kp)
end
end Li
set_option Elab.async false
set_option linter.all false
set_option maxRecDepth 100000
set_option maxHeartbeats 2000000
/-! LiDct: dicts: made, read, written. -/
namespace Li
open PySem L2
section
variable {X : Cx} {G : SX} {lvl : Nat} {nm : Nat → Str} {σ : Env} {S : Sto} {hid : Hid} {σ' : L2.St} {H : Hp} {K : PySem.W.Frag}
theorem keyQ_inv {v : Val} {Q : Key → Prop} (h : keyQ v Q) : ∃ k, v = keyV k ∧ Q k := by
  unfold keyQ at h
  split at h
  · exact ⟨.inl _, rfl, h⟩
  · exact ⟨.inr _, rfl, h⟩
  · exact h.elim
theorem key_rv {M : Addr → Prop} {k : Key} {x : V} (r : Rv K M H (keyV k) x) : x = kV k := by
  cases k <;> exact r
theorem dctQC_inv {a : Addr} {Q : List (Key × Val) → Prop} (h : dctQC S a Q) : ∃ kvs, S a = some (.dK kvs) ∧ Q kvs := by
  unfold dctQC at h
  split at h
  · rename_i kvs e
    exact ⟨kvs, e, h⟩
  · exact h.elim
theorem look_rd {M : Addr → Prop} {k : Key} : ∀ {kvs : List (Key × Val)} {xs : List V}, Rvs K M H (kvs.map (·.2)) xs → (∃ v x, lookK kvs k = some v ∧ valV ((kvs.map (·.1)).zip xs) k = some x ∧ Rv K M H v x) ∨ (lookK kvs k = none ∧ valV ((kvs.map (·.1)).zip xs) k = none)
  | [], xs, h => .inr ⟨rfl, rfl⟩
  | (q, v) :: r, _, ⟨x, y, e, h1, h2⟩ => by
    subst e
    by_cases hq : q = k
    · exact .inl ⟨v, x, by simp [lookK, List.find?_cons, hq], valV_pos (p := (q, x)) hq, h1⟩
    · rcases look_rd (k := k) h2 with ⟨u, z, e1, e2, e3⟩ | ⟨e1, e2⟩
      · exact .inl ⟨u, z, by rw [← e1]; simp [lookK, List.find?_cons, hq], by
          show valV ((q, x) :: (r.map (·.1)).zip y) k = some z
          rw [← e2]
          exact valV_neg (p := (q, x)) hq, e3⟩
      · exact .inr ⟨by rw [← e1]; simp [lookK, List.find?_cons, hq], by
          show valV ((q, x) :: (r.map (·.1)).zip y) k = none
          rw [← e2]
          exact valV_neg (p := (q, x)) hq⟩
theorem zip_maps {α β : Type} : ∀ {ks : List α} {vs : List β}, ks.length = vs.length → (ks.zip vs).map (·.1) = ks ∧ (ks.zip vs).map (·.2) = vs
  | [], [], _ => ⟨rfl, rfl⟩
  | k :: ks, v :: vs, h => by
    obtain ⟨h1, h2⟩ := zip_maps (ks := ks) (vs := vs) (Nat.succ.inj h)
    rw [List.zip_cons_cons, List.map_cons, List.map_cons, h1, h2]
    exact ⟨rfl, rfl⟩
  | [], _ :: _, h => by cases h
  | _ :: _, [], h => by cases h
/-- what a dict holds, as the layer reads it -/
theorem dct_rd {v : Val} {kvs : List (Key × Val)} {x : V} (rel : Rel K hid S H) (e : dctV S v = some kvs) (r : Rv K (Mset S hid) H v x) : ∃ a xs, x = .ref a ∧ Rd H a (.dK ((kvs.map (·.1)).zip xs)) ∧ Rvs K (Mset S hid) H (kvs.map (·.2)) xs := by
  cases v with
  | dct ks vs =>
    obtain ⟨p, o, xs, ex, h1, h2, h3, h4⟩ := r
    cases (show ks.zip vs = kvs from Option.some.inj e)
    obtain ⟨q1, q2⟩ := zip_maps h3
    exact ⟨p, xs, ex, .inr ⟨o, by rw [q1]; exact h1⟩, by rw [q2]; exact h4⟩
  | adr a =>
    have e2 : (match S a with
      | some (.dK kvs) => some kvs
      | _ => none) = some kvs := e
    cases q : S a with
    | none =>
      rw [q] at e2
      cases e2
    | some c =>
      rw [q] at e2
      cases c with
      | dK kvs' =>
        cases e2
        obtain ⟨xs, h1, h2⟩ := rel.cells a _ q
        exact ⟨a, xs, r, .inl h1, h2⟩
      | _ => cases e2
  | _ => cases e
theorem sE_dget (ok : Okx G lvl nm X) {a i : Expr} {ma mi : E} {pos : Pos} (ha : PE X a (tEv G X.K ma)) (hi : PE X i (tEv G X.K mi)) (hs : NoSl i) : PE X (.Subscript a i pos) (tEv G X.K (.dget ma mi)) :=
  PE.wk (pe_dget (by have := ok.room.un; omega) ha hi hs) fun σ' H Q ⟨σ, S, hid, w, h⟩ => (t2 (a := ma) (b := mi) w h).mono fun x' H1 q => q.mono fun y' H2 ⟨S2, x, y, e, w2, r1, r2, z⟩ => by
    obtain ⟨k, ek, z1⟩ := keyQ_inv z
    clear z
    subst ek
    obtain ⟨kvs, ed, z2⟩ := optQ_inv z1
    obtain ⟨v, ev, z⟩ := optQ_inv z2
    obtain ⟨p, xs, ex, h1, h2⟩ := dct_rd w2.rel ed r1
    rcases look_rd (k := k) h2 with ⟨v', x'', e1, e2, rv⟩ | ⟨e1, e2⟩
    · rw [ev] at e1
      cases e1
      exact ⟨p, x'', ex, .inl ⟨_, k, h1, key_rv r2, e2.symm⟩, (z.after e).here w2.rel rv⟩
    · rw [ev] at e1
      cases e1
theorem din_rd {mi ma : E} {neg : Bool} {R : Bool → Sto → Prop} {Q : Bool → Hp → Prop} (w : Wd G K σ S hid σ' H) (h : evE G.c mi σ S fun y S1 => evE G.c ma σ S1 fun x S2 => keyQ y fun k => optQ (dctV S2 x) fun kvs => R (neg != (lookK kvs k).isSome) S2) (go : ∀ b S2 H2, Ext S H S2 H2 → Rel K hid S2 H2 → R b S2 → Q b H2) :
    tEv G K mi σ' H fun y H1 => tEv G K ma σ' H1 fun x H2 => ∃ a o, x = .ref a ∧ DGet H2 a y o ∧ Q (neg != o.isSome) H2 :=
  (t2 (a := mi) (b := ma) w h).mono fun y' H1 q => q.mono fun x' H2 ⟨S2, y, x, e, w2, r1, r2, z⟩ => by
    obtain ⟨k, ek, z1⟩ := keyQ_inv z
    clear z
    subst ek
    obtain ⟨kvs, ed, z⟩ := optQ_inv z1
    obtain ⟨p, xs, ex, h1, h2⟩ := dct_rd w2.rel ed r2
    rcases look_rd (k := k) h2 with ⟨v', x'', e1, e2, rv⟩ | ⟨e1, e2⟩
    · rw [e1] at z
      exact ⟨p, some x'', ex, .inl ⟨_, k, h1, key_rv r1, e2.symm⟩, go _ _ _ e w2.rel z⟩
    · rw [e1] at z
      exact ⟨p, none, ex, .inl ⟨_, k, h1, key_rv r1, e2.symm⟩, go _ _ _ e w2.rel z⟩
theorem sE_din (ok : Okx G lvl nm X) {i a : Expr} {mi ma : E} {pos : Pos} (hi : PE X i (tEv G X.K mi)) (ha : PE X a (tEv G X.K ma)) (hm : behindInMarks .In a = false) : PE X (.Compare i [.In] [a] pos) (tEv G X.K (.din false mi ma)) :=
  PE.wk (pe_cmp (pc_din (by have := ok.room.un; omega) hi ha) hm) fun σ' H Q ⟨σ, S, hid, w, h⟩ => (din_rd (neg := false) (R := fun b S' => PoE X.K hid S H Q (.bl b) S') (Q := fun b H2 => Q (.bl b) H2) w h fun b S2 H2 e rel z => z (.bl b) H2 e rel rfl).mono fun y H1 q => q.mono fun x H2 ⟨a, o, ex, g, z⟩ => ⟨a, o, ex, g, by rw [Bool.false_bne] at z; exact z⟩
theorem sE_dnotin (ok : Okx G lvl nm X) {i a : Expr} {mi ma : E} {pos : Pos} (hi : PE X i (tEv G X.K mi)) (ha : PE X a (tEv G X.K ma)) (hm : behindInMarks .NotIn a = false) : PE X (.Compare i [.NotIn] [a] pos) (tEv G X.K (.din true mi ma)) :=
  PE.wk (pe_cmp (pc_dnotin (by have := ok.room.un; omega) hi ha) hm) fun σ' H Q ⟨σ, S, hid, w, h⟩ => (din_rd (neg := true) (R := fun b S' => PoE X.K hid S H Q (.bl b) S') (Q := fun b H2 => Q (.bl b) H2) w h fun b S2 H2 e rel z => z (.bl b) H2 e rel rfl).mono fun y H1 q => q.mono fun x H2 ⟨a, o, ex, g, z⟩ => ⟨a, o, ex, g, by rw [Bool.true_bne] at z; exact z⟩
theorem sT_din (ok : Okx G lvl nm X) {i a : Expr} {mi ma : E} {pos : Pos} (hi : PE X i (tEv G X.K mi)) (ha : PE X a (tEv G X.K ma)) (hm : behindInMarks .In a = false) : PT X (.Compare i [.In] [a] pos) (tTv G X.K (.din false mi ma)) :=
  PT.wk (pt_cmp (pc_din (by have := ok.room.un; omega) hi ha) hm) fun σ' H Q ⟨σ, S, hid, w, h⟩ => (din_rd (neg := false) (R := fun b S' => PoB X.K hid S H Q b S') (Q := fun b H2 => Q b H2) w h fun b S2 H2 e rel z => z H2 e rel).mono fun y H1 q => q.mono fun x H2 ⟨a, o, ex, g, z⟩ => ⟨a, o, ex, g, _, rfl, by rw [Bool.false_bne] at z; exact z⟩
theorem sT_dnotin (ok : Okx G lvl nm X) {i a : Expr} {mi ma : E} {pos : Pos} (hi : PE X i (tEv G X.K mi)) (ha : PE X a (tEv G X.K ma)) (hm : behindInMarks .NotIn a = false) : PT X (.Compare i [.NotIn] [a] pos) (tTv G X.K (.din true mi ma)) :=
  PT.wk (pt_cmp (pc_dnotin (by have := ok.room.un; omega) hi ha) hm) fun σ' H Q ⟨σ, S, hid, w, h⟩ => (din_rd (neg := true) (R := fun b S' => PoB X.K hid S H Q b S') (Q := fun b H2 => Q b H2) w h fun b S2 H2 e rel z => z H2 e rel).mono fun y H1 q => q.mono fun x H2 ⟨a, o, ex, g, z⟩ => ⟨a, o, ex, g, _, rfl, by rw [Bool.true_bne] at z; exact z⟩
theorem put_rd {M : Addr → Prop} {k : Key} {v : Val} {x : V} (rv : Rv K M H v x) : ∀ {kvs : List (Key × Val)} {xs : List V}, Rvs K M H (kvs.map (·.2)) xs → ∃ ys, putK ((kvs.map (·.1)).zip xs) k x = ((putKV kvs k v).map (·.1)).zip ys ∧ Rvs K M H ((putKV kvs k v).map (·.2)) ys := by
  intro kvs xs r
  have any : ∀ {kvs : List (Key × Val)} {xs : List V}, Rvs K M H (kvs.map (·.2)) xs → (((kvs.map (·.1)).zip xs).any fun kv => decide (kv.1 = k)) = kvs.any fun kv => decide (kv.1 = k) := fun {kvs} => by
    induction kvs with
    | nil => intro xs _; rfl
    | cons q r ih =>
      rintro xs ⟨y, z, e, _, h2⟩
      subst e
      show (decide (q.1 = k) || ((r.map (·.1)).zip z).any fun kv => decide (kv.1 = k)) = (decide (q.1 = k) || r.any fun kv => decide (kv.1 = k))
      rw [ih h2]
  unfold putK putKV
  rw [any r]
  split
  · have go : ∀ {kvs : List (Key × Val)} {xs : List V}, Rvs K M H (kvs.map (·.2)) xs → ∃ ys, ((kvs.map (·.1)).zip xs).map (fun kv => if kv.1 = k then (kv.1, x) else kv) = ((kvs.map fun kv => if kv.1 = k then (kv.1, v) else kv).map (·.1)).zip ys ∧ Rvs K M H ((kvs.map fun kv => if kv.1 = k then (kv.1, v) else kv).map (·.2)) ys := fun {kvs} => by
      induction kvs with
      | nil => intro xs h; exact ⟨[], rfl, rfl⟩
      | cons q r ih =>
        rintro xs ⟨y, z, e, h1, h2⟩
        subst e
        obtain ⟨ys, e1, r1⟩ := ih h2
        by_cases hq : q.1 = k
        · refine ⟨x :: ys, ?_, ?_⟩
          · simp only [List.map_cons, List.zip_cons_cons, e1]
            rw [if_pos hq, if_pos hq]
          · simp only [List.map_cons]
            rw [if_pos hq]
            exact ⟨x, ys, rfl, rv, r1⟩
        · refine ⟨y :: ys, ?_, ?_⟩
          · simp only [List.map_cons, List.zip_cons_cons, e1]
            rw [if_neg hq, if_neg hq]
          · simp only [List.map_cons]
            rw [if_neg hq]
            exact ⟨y, ys, rfl, h1, r1⟩
    exact go r
  · refine ⟨xs ++ [x], ?_, ?_⟩
    · rw [List.map_append, List.zip_append (by rw [List.length_map, ← r.length, List.length_map])]
      rfl
    · rw [List.map_append]
      exact r.append (show Rvs K M H [v] [x] from ⟨x, [], rfl, rv, rfl⟩)
theorem sS_dput (ok : Okx G lvl nm X) {a i e : Expr} {ma mi me : E} {pos pos' : Pos} (he : PE X e (tEv G X.K me)) (ha : PE X a (tEv G X.K ma)) (hi : PE X i (tEv G X.K mi)) (hs : swapsWith e (some (.Subscript a i pos')) pos.line X.env = pure false) :
    PS X (.Assign [.Subscript a i pos'] e pos) (tSv G X.K (.dput ma mi me)) :=
  PS.wk (ps_dput (by have := ok.room.un; omega) ha hi he hs) fun D σ' H ⟨σ, S, hid, w, h⟩ => (t1 (a := me) w h).mono fun v' H1 ⟨S1, v, e1, w1, rv, z⟩ => (t2 (a := ma) (b := mi) w1 z).mono fun x' H2 q => q.mono fun y' H3 ⟨S3, x, y, e3, w3, rx, ry, z⟩ => by
    obtain ⟨p, ep, z1⟩ := adrQ_inv z
    clear z
    subst ep
    obtain ⟨k, ek, z2⟩ := keyQ_inv z1
    clear z1
    subst ek
    obtain ⟨kvs, hS, zl, z⟩ := dctQC_inv z2
    obtain ⟨xs, h1, s1⟩ := w3.rel.cells p _ hS
    have l1 := s1.length
    rw [List.length_map] at l1
    obtain ⟨ys, e2, r2⟩ := put_rd (k := k) (rv.keep (e3.keeps hid)) s1
    have kp : Keeps (Mset S3 hid) H3 (Mset (S3.set p (.dK (putKV kvs k v))) hid) (upd H3 p (.dK (((putKV kvs k v).map (·.1)).zip ys))) := keeps_put hS
    refine ⟨p, _, rx, by rw [key_rv ry]; exact DPut.k h1 (by rw [List.length_zip, List.length_map, ← l1, Nat.min_self]; exact zl), ?_⟩
    rw [e2]
    exact z σ' _ ((e1.trans e3).trans (Ext.put hS)) (w3.rel.put hS ⟨ys, upd_same, r2.keep kp⟩) (w3.env.keep kp)
theorem sS_setd (ok : Okx G lvl nm X) {i : Nat} {x : Str} {pos pos' dpos : Pos} (hi : X.N[i]? = some x) (hx : Loc X.env.scope x) (hs : swapsWith (.Dict [] [] dpos) (some (.Name x pos')) pos.line X.env = pure false) (hf : X.fn x = true ∨ X.env.scope.names.lookup x = some .local) :
    PS X (.Assign [.Name x pos'] (.Dict [] [] dpos) pos) (tSv G X.K (.setd i)) :=
  PS.wk (ps_set ok.nd hi hx pe_dnewK hs hf) fun D σ' H ⟨σ, S, hid, w, h⟩ p hp => by
    have z : (lift X.K hid S H D).nx (σ.set i (some (.adr p))) ((dropC σ S i).set p (.dK [])) := h p (w.rel.free hp)
    rcases dropC_cases σ S i with d | ⟨a, d⟩
    · rw [d] at z
      have e : Ext S H (S.set p (.dK [])) (upd H p (.dK [])) := Ext.cell hp
      exact z _ _ e (w.rel.cell hp ⟨[], upd_same, rfl⟩) ((w.env.keep (e.keeps hid)).set i rfl)
    · rw [d] at z
      have e : Ext S H ((S.del a).set p (.dK [])) (upd H p (.dK [])) := (Ext.del S H a).trans (Ext.cell hp)
      exact z _ _ e ((w.rel.del a).cell hp ⟨[], upd_same, rfl⟩) ((w.env.keep (e.keeps hid)).set i rfl)
end
end Li
set_option Elab.async false
set_option linter.all false
set_option maxRecDepth 100000
set_option maxHeartbeats 2000000
/-! LiMeth: methods of own classes. -/
namespace Li
open PySem L2
/-- the way a method is looked up -/
def plOf (o : Expr) (env : PySem.Env) : Sem Bool := do return (← importBound o env).getD true
theorem ht_of {o : Expr} {m : Str} {es : List Expr} {kws : List Keyword} {apos pos : Pos} {env : PySem.Env} (hbase : attributeBase o m env (eval o env) = eval o env)
    (hfew : methodCallForm (es.length + kws.length) (backTo pos (starEach es env)) (backToKw pos (keywordEach kws env)) = true) (hline : (apos.endLine == pos.line) = true) :
    eval (.Call (.Attribute o m apos) es kws pos) env = (do
      let ov ← eval o env
      standAt apos.atName
      let (f, first) ← holding [ov] (getMethod ov m (plOf o env))
      callWith pos f first (backTo pos (starEach es env)) (backToKw pos (keywordEach kws env))) := by
  have hpos : methodCallPos true o env apos pos = pure pos := by
    unfold methodCallPos
    simp [hline]
  rw [arm_eval_Call, hbase]
  unfold methodCall
  rw [hfew, hpos]
  rfl
section
variable {X : Cx} {o e : Expr} {es : List Expr} {kws : List Keyword} {m : Str} {apos pos : Pos} {ta : TE} {t tk : TA} {E : XK}
/-- what a receiver's method is -/
structure MR (X : Cx) (m : Str) (H1 : Hp) (x : V) (a C dx f : Addr) (fs : List (Str × V)) (fd : FuncData) (ps : List Str) (sp : Sp) (k : Nat) : Prop where
  ex : x = .ref a
  ea : H1 a = some (.ins C dx fs)
  l : fs.lookup m = none
  c : Cls X.K C
  hm : Meth X.K C m f
  F : FnOk X.prog X.w X.K X.mg X.base (CX X.prog X.w) k f fd ps sp
  hr : Room k X.A
theorem pe_methV (he : PE X o ta) (hx : Passes (CX X.prog X.w) X E) (ha : PA X (e :: es) t) (hst : starEach (e :: es) X.env = (false, eval e X.env) :: starEach es X.env) (hpl : (backTo pos (starEach es X.env)).any (·.1) = false)
    (hbase : attributeBase o m X.env (eval o X.env) = eval o X.env) (hfew : methodCallForm ((e :: es).length + ([] : List Keyword).length) (backTo pos (starEach (e :: es) X.env)) (backToKw pos (keywordEach [] X.env)) = true) (hline : (apos.endLine == pos.line) = true) :
    PE X (.Call (.Attribute o m apos) (e :: es) [] pos) (fun σ H Q => ta σ H fun x H1 => ∃ a C dx f fs fd ps sp k ds dvs, MR X m H1 x a C dx f fs fd ps sp k ∧ Binds X.K fd ps ds ∧ Vals dvs ds ∧ t σ H1 fun vs H2 => sp (x :: (vs ++ dvs)) H2 Q E) := by
  refine ⟨fun pins s σ H Q I h => ?_⟩
  refine PySem.W.methodCall_KW (pl := plOf o X.env) (thn (he.run pins s σ H _ I h) fun u s1 ⟨x, H1, I1, rx, a, C, dx, f, fs, fd, ps, sp, k, ds, dvs, R, hb, hd, q⟩ => ?_) (ht_of hbase hfew hline)
  obtain ⟨ex, ea, l, c, hm, F, hr⟩ := R
  subst ex
  obtain rfl : u = Value.ref a := rx
  refine getmeth_ok I1 ea c hm l ?_
  refine PySem.W.callWith_K (first := [.ref a]) (h₀ := X.base) I.ok.mod.kin hm.kp (thn (ha.run pos pins s1 σ H1 _ I1 q) fun us s2 ⟨vs, H2, I2, r, q2⟩ => ⟨I2.kIn, ?_⟩) hst hpl
  exact run_fn (us := .ref a :: us) (vs := .ref a :: vs) F hr hb hd hx I2 (.cons rfl r) q2
theorem pe_methV0 (he : PE X o ta) (hx : Passes (CX X.prog X.w) X E)
    (hbase : attributeBase o m X.env (eval o X.env) = eval o X.env) (hline : (apos.endLine == pos.line) = true) :
    PE X (.Call (.Attribute o m apos) [] [] pos) (fun σ H Q => ta σ H fun x H1 => ∃ a C dx f fs fd ps sp k ds dvs, MR X m H1 x a C dx f fs fd ps sp k ∧ Binds X.K fd ps ds ∧ Vals dvs ds ∧ sp (x :: dvs) H1 Q E) := by
  refine ⟨fun pins s σ H Q I h => ?_⟩
  refine PySem.W.methodCall_KW (pl := plOf o X.env) (thn (he.run pins s σ H _ I h) fun u s1 ⟨x, H1, I1, rx, a, C, dx, f, fs, fd, ps, sp, k, ds, dvs, R, hb, hd, q⟩ => ?_) (ht_of hbase rfl hline)
  obtain ⟨ex, ea, l, c, hm, F, hr⟩ := R
  subst ex
  obtain rfl : u = Value.ref a := rx
  refine getmeth_ok I1 ea c hm l ?_
  exact PySem.W.callWith_K0 (first := [.ref a]) I1.kIn hm.kp (run_fn (us := [.ref a]) (vs := [.ref a]) F hr hb hd hx I1 (.cons rfl .nil) q)
theorem pe_methVK {n : Nat} {ks : List Str} (he : PE X o ta) (hx : Passes (CX X.prog X.w) X E) (ha : PA X (e :: es) t) (hkw : PK X kws tk) (hall : (backToKw pos (keywordEach kws X.env)).all (·.1.isSome) = true) (hks : (backToKw pos (keywordEach kws X.env)).filterMap (·.1) = ks) (hst : starEach (e :: es) X.env = (false, eval e X.env) :: starEach es X.env)
    (hpl : ((backTo pos (starEach (e :: es) X.env)).any (·.1) || (backToKw pos (keywordEach kws X.env)).any (·.1.isNone)) = false)
    (hbase : attributeBase o m X.env (eval o X.env) = eval o X.env) (hfew : methodCallForm ((e :: es).length + kws.length) (backTo pos (starEach (e :: es) X.env)) (backToKw pos (keywordEach kws X.env)) = true) (hline : (apos.endLine == pos.line) = true) :
    PE X (.Call (.Attribute o m apos) (e :: es) kws pos) (fun σ H Q => ta σ H fun x H1 => ∃ a C dx f fs fd ps sp k g gV, MR X m H1 x a C dx f fs fd ps sp k ∧ KBn X.K fd ps n ks g gV ∧ t σ H1 fun vs H2 => tk σ H2 fun zs H3 => vs.length + 1 = n ∧ zs.length = ks.length ∧ sp (gV (x :: vs) zs) H3 Q E) := by
  refine ⟨fun pins s σ H Q I h => ?_⟩
  refine PySem.W.methodCall_KW (pl := plOf o X.env) (thn (he.run pins s σ H _ I h) fun u s1 ⟨x, H1, I1, rx, a, C, dx, f, fs, fd, ps, sp, k, g, gV, R, hb, q⟩ => ?_) (ht_of hbase hfew hline)
  obtain ⟨ex, ea, l, c, hm, F, hr⟩ := R
  subst ex
  obtain rfl : u = Value.ref a := rx
  refine getmeth_ok I1 ea c hm l ?_
  refine PySem.W.callWith_KW (first := [.ref a]) (h₀ := X.base) I.ok.mod.kin hm.kp hall (thn (ha.run pos pins s1 σ H1 _ I1 q) fun us s2 ⟨vs, H2, I2, r, q2⟩ => ?_) hpl hst
  refine thn (hkw.run pos pins s2 σ H2 _ I2 q2) fun ws s3 ⟨zs, H3, I3, rz, l1, l2, q3⟩ => ⟨I3.kIn, ?_⟩
  rw [hks]
  exact run_fnN (us := .ref a :: us) (vs := .ref a :: vs) F hr hb hx I3 (.cons rfl r) rz l1 l2 q3
theorem pe_methVK0 {ks : List Str} (he : PE X o ta) (hx : Passes (CX X.prog X.w) X E) (hkw : PK X kws tk) (hall : (backToKw pos (keywordEach kws X.env)).all (·.1.isSome) = true) (hks : (backToKw pos (keywordEach kws X.env)).filterMap (·.1) = ks)
    (hpl : ((backTo pos (starEach [] X.env)).any (·.1) || (backToKw pos (keywordEach kws X.env)).any (·.1.isNone)) = false)
    (hbase : attributeBase o m X.env (eval o X.env) = eval o X.env) (hfew : methodCallForm (([] : List Expr).length + kws.length) (backTo pos (starEach [] X.env)) (backToKw pos (keywordEach kws X.env)) = true) (hline : (apos.endLine == pos.line) = true) :
    PE X (.Call (.Attribute o m apos) [] kws pos) (fun σ H Q => ta σ H fun x H1 => ∃ a C dx f fs fd ps sp k g gV, MR X m H1 x a C dx f fs fd ps sp k ∧ KBn X.K fd ps 1 ks g gV ∧ tk σ H1 fun zs H3 => zs.length = ks.length ∧ sp (gV [x] zs) H3 Q E) := by
  refine ⟨fun pins s σ H Q I h => ?_⟩
  refine PySem.W.methodCall_KW (pl := plOf o X.env) (thn (he.run pins s σ H _ I h) fun u s1 ⟨x, H1, I1, rx, a, C, dx, f, fs, fd, ps, sp, k, g, gV, R, hb, q⟩ => ?_) (ht_of hbase hfew hline)
  obtain ⟨ex, ea, l, c, hm, F, hr⟩ := R
  subst ex
  obtain rfl : u = Value.ref a := rx
  refine getmeth_ok I1 ea c hm l ?_
  refine PySem.W.callWith_KW0 (first := [.ref a]) (h₀ := X.base) I.ok.mod.kin hm.kp hall ?_ hpl
  refine thn (hkw.run pos pins s1 σ H1 _ I1 q) fun ws s3 ⟨zs, H3, I3, rz, l2, q3⟩ => ⟨I3.kIn, ?_⟩
  rw [hks]
  exact run_fnN (us := [.ref a]) (vs := [.ref a]) F hr hb hx I3 (.cons rfl .nil) rz rfl l2 q3
end
section
variable {X : Cx} {G : SX} {lvl : Nat} {nm : Nat → Str} {σ : Env} {S : Sto} {hid : Hid} {σ' : L2.St} {H : Hp} {K : PySem.W.Frag}
theorem lookup_zip_none {α : Type} {m : Str} : ∀ {ns : List Str} {xs : List α}, m ∉ ns → (ns.zip xs).lookup m = none
  | [], _, _ => rfl
  | n :: ns, [], _ => rfl
  | n :: ns, x :: xs, h => by
    rw [List.zip_cons_cons, List.lookup_cons]
    have : (m == n) = false := beq_eq_false_iff_ne.mpr fun e => h (by rw [e]; exact List.mem_cons_self)
    rw [this]
    exact lookup_zip_none fun z => h (List.mem_cons_of_mem _ z)
theorem lookup_none_mem {α : Type} {m : Str} : ∀ {fs : List (Str × α)}, fs.lookup m = none → m ∉ fs.map (·.1)
  | [], _ => by simp
  | (n, v) :: fs, h => by
    rw [List.lookup_cons] at h
    cases e : m == n with
    | true =>
      rw [e] at h
      cases h
    | false =>
      rw [e] at h
      rw [List.map_cons, List.mem_cons, not_or]
      exact ⟨beq_eq_false_iff_ne.mp e, lookup_none_mem h⟩
/-- a receiver -/
theorem mthQ_rd {c : Cxt} {m : Str} {ks : List Str} {x : Val} {x' : V} {P : Li.G → Prop} (rel : Rel K hid S H) (r : Rv K (Mset S hid) H x x') (h : mthQ c S m ks P x) : ∃ a C dx fs, x' = .ref a ∧ H a = some (.ins C dx fs) ∧ fs.lookup m = none ∧ P (c.M C m ks) := by
  unfold mthQ at h
  split at h
  · rename_i C ns vs
    obtain ⟨p, dx, xs, ex, h1, _, _, _⟩ := r
    exact ⟨p, C, dx, _, ex, h1, lookup_zip_none h.1, h.2⟩
  · rename_i a
    obtain ⟨C, fs, hS, h1, h2⟩ := objQ_inv h
    obtain ⟨dx, xs, q1, q2⟩ := rel.cells a _ hS
    exact ⟨a, C, dx, _, r, q1, lookup_zip_none (lookup_none_mem h1), h2⟩
  · exact h.elim
theorem sE_callm (ok : Okx G lvl nm X) {o e : Expr} {es : List Expr} {mo : E} {ms : Es} {m : Str} {dn : Nat} {apos pos : Pos} (ho : PE X o (tEv G X.K mo)) (ha : PA X (e :: es) (tAv G X.K ms)) (hst : starEach (e :: es) X.env = (false, eval e X.env) :: starEach es X.env) (hpl : (backTo pos (starEach es X.env)).any (·.1) = false)
    (hbase : attributeBase o m X.env (eval o X.env) = eval o X.env) (hfew : methodCallForm ((e :: es).length + ([] : List Keyword).length) (backTo pos (starEach (e :: es) X.env)) (backToKw pos (keywordEach [] X.env)) = true) (hline : (apos.endLine == pos.line) = true) :
    PE X (.Call (.Attribute o m apos) (e :: es) [] pos) (tEv G X.K (.callm mo m ms dn)) :=
  PE.wk (pe_methV (E := G.EX X.K) ho ok.pas ha hst hpl hbase hfew hline) fun σ' H Q ⟨σ, S, hid, w, h⟩ => (t1 (a := mo) w h).mono fun x' H1 ⟨S1, x, e1, w1, r1, z⟩ => by
    obtain ⟨a, C, dx, fs, ex, ea, l, zf, z⟩ := mthQ_rd w1.rel r1 z
    have mo := ok.mok C m []
    cases q : G.c.M C m [] with
    | fn sp n dfl =>
      rw [q] at mo z
      obtain ⟨_, f, fd, ps, k, hk, hpl2, F, c, hm, hb⟩ := mo
      obtain ⟨ds, dvs, b, hv, rd⟩ := hb (min dn dfl.length) (Nat.min_le_right _ _)
      rw [drop_min] at rd
      refine ⟨a, C, dx, f, fs, fd, ps, _, k, ds, dvs, ⟨ex, ea, l, c, hm, F, ok.room.mono (Nat.le_of_succ_le hk)⟩, b, hv, (tA (a := ms) w1 z).mono fun xs' H2 ⟨S2, xs, e2, w2, r2, z2⟩ => ?_⟩
      exact sp_of w2 (e1.trans e2) z2.1 (show Rvs X.K (Mset S2 hid) H2 (x :: (xs ++ _)) (x' :: (xs' ++ dvs)) from ⟨_, _, rfl, r1.keep (e2.keeps hid), r2.append rd.const⟩) z2.2
    | _ =>
      rw [q] at zf
      exact zf.elim
theorem sE_callm0 (ok : Okx G lvl nm X) {o : Expr} {mo : E} {m : Str} {dn : Nat} {apos pos : Pos} (ho : PE X o (tEv G X.K mo))
    (hbase : attributeBase o m X.env (eval o X.env) = eval o X.env) (hline : (apos.endLine == pos.line) = true) :
    PE X (.Call (.Attribute o m apos) [] [] pos) (tEv G X.K (.callm mo m .nil dn)) :=
  PE.wk (pe_methV0 (E := G.EX X.K) ho ok.pas hbase hline) fun σ' H Q ⟨σ, S, hid, w, h⟩ => (t1 (a := mo) w h).mono fun x' H1 ⟨S1, x, e1, w1, r1, z⟩ => by
    obtain ⟨a, C, dx, fs, ex, ea, l, zf, z⟩ := mthQ_rd w1.rel r1 z
    have mo := ok.mok C m []
    cases q : G.c.M C m [] with
    | fn sp n dfl =>
      rw [q] at mo z
      obtain ⟨_, f, fd, ps, k, hk, hpl2, F, c, hm, hb⟩ := mo
      obtain ⟨ds, dvs, b, hv, rd⟩ := hb (min dn dfl.length) (Nat.min_le_right _ _)
      rw [drop_min] at rd
      refine ⟨a, C, dx, f, fs, fd, ps, _, k, ds, dvs, ⟨ex, ea, l, c, hm, F, ok.room.mono (Nat.le_of_succ_le hk)⟩, b, hv, ?_⟩
      have z2 : callG (.fn sp n dfl) [x] dn S1 (PoE X.K hid S H Q) G.c.er := z
      exact sp_of w1 e1 z2.1 (show Rvs X.K (Mset S1 hid) H1 (x :: ([] ++ _)) (x' :: dvs) from ⟨_, _, rfl, r1, rd.const⟩) z2.2
    | _ =>
      rw [q] at zf
      exact zf.elim
theorem sE_callmk (ok : Okx G lvl nm X) {o e : Expr} {es : List Expr} {kws : List Keyword} {mo : E} {ms mk : Es} {m : Str} {ks : List Str} {apos pos : Pos} (ho : PE X o (tEv G X.K mo)) (ha : PA X (e :: es) (tAv G X.K ms)) (hkw : PK X kws (tAv G X.K mk)) (hlen : esLen ms = (e :: es).length)
    (hall : (backToKw pos (keywordEach kws X.env)).all (·.1.isSome) = true) (hks : (backToKw pos (keywordEach kws X.env)).filterMap (·.1) = ks) (hst : starEach (e :: es) X.env = (false, eval e X.env) :: starEach es X.env)
    (hpl : ((backTo pos (starEach (e :: es) X.env)).any (·.1) || (backToKw pos (keywordEach kws X.env)).any (·.1.isNone)) = false)
    (hbase : attributeBase o m X.env (eval o X.env) = eval o X.env) (hfew : methodCallForm ((e :: es).length + kws.length) (backTo pos (starEach (e :: es) X.env)) (backToKw pos (keywordEach kws X.env)) = true) (hline : (apos.endLine == pos.line) = true) :
    PE X (.Call (.Attribute o m apos) (e :: es) kws pos) (tEv G X.K (.callmk mo m ms ks mk)) :=
  PE.wk (pe_methVK (n := esLen ms + 1) (E := G.EX X.K) ho ok.pas ha hkw hall hks hst hpl hbase hfew hline) fun σ' H Q ⟨σ, S, hid, w, h⟩ => (t1 (a := mo) w h).mono fun x' H1 ⟨S1, x, e1, w1, r1, z⟩ => by
    obtain ⟨a, C, dx, fs, ex, ea, l, ⟨zf, zk⟩, z⟩ := mthQ_rd w1.rel r1 z
    have mo := ok.mok C m ks
    cases q : G.c.M C m ks with
    | fnk sp n np ks' arr =>
      rw [q] at mo z zk
      obtain ⟨zk1, zk2⟩ := zk
      subst zk1 zk2
      obtain ⟨_, f, fd, ps, k, hk, hpl2, F, c, hm, g, gV, hb, hr⟩ := mo
      refine ⟨a, C, dx, f, fs, fd, ps, _, k, g, gV, ⟨ex, ea, l, c, hm, F, ok.room.mono (Nat.le_of_succ_le hk)⟩, hb, (tA (a := ms) w1 z).mono fun xs' H2 ⟨S2, xs, e2, w2, r2, z2⟩ => (tA (a := mk) w2 z2).mono fun ys' H3 ⟨S3, ys, e3, w3, r3, z3⟩ => ?_⟩
      obtain ⟨z4, z5, z6, z7⟩ := z3
      have l1 : xs.length + 1 = esLen ms + 1 := z4
      refine ⟨by rw [← r2.length]; exact l1, by rw [← r3.length]; exact z5, sp_of w3 (e1.trans (e2.trans e3)) (by rw [pickV_len]; exact z6) (hr _ _ (x :: xs) ys (x' :: xs') ys' l1 z5 ⟨_, _, rfl, r1.keep ((e2.trans e3).keeps hid), r2.keep (e3.keeps hid)⟩ r3) z7⟩
    | _ =>
      rw [q] at zf
      exact zf.elim
theorem sE_callmk0 (ok : Okx G lvl nm X) {o : Expr} {kws : List Keyword} {mo : E} {mk : Es} {m : Str} {ks : List Str} {apos pos : Pos} (ho : PE X o (tEv G X.K mo)) (hkw : PK X kws (tAv G X.K mk))
    (hall : (backToKw pos (keywordEach kws X.env)).all (·.1.isSome) = true) (hks : (backToKw pos (keywordEach kws X.env)).filterMap (·.1) = ks)
    (hpl : ((backTo pos (starEach [] X.env)).any (·.1) || (backToKw pos (keywordEach kws X.env)).any (·.1.isNone)) = false)
    (hbase : attributeBase o m X.env (eval o X.env) = eval o X.env) (hfew : methodCallForm (([] : List Expr).length + kws.length) (backTo pos (starEach [] X.env)) (backToKw pos (keywordEach kws X.env)) = true) (hline : (apos.endLine == pos.line) = true) :
    PE X (.Call (.Attribute o m apos) [] kws pos) (tEv G X.K (.callmk mo m .nil ks mk)) :=
  PE.wk (pe_methVK0 (E := G.EX X.K) ho ok.pas hkw hall hks hpl hbase hfew hline) fun σ' H Q ⟨σ, S, hid, w, h⟩ => (t1 (a := mo) w h).mono fun x' H1 ⟨S1, x, e1, w1, r1, z⟩ => by
    obtain ⟨a, C, dx, fs, ex, ea, l, ⟨zf, zk⟩, z⟩ := mthQ_rd w1.rel r1 z
    have mo := ok.mok C m ks
    cases q : G.c.M C m ks with
    | fnk sp n np ks' arr =>
      rw [q] at mo z zk
      obtain ⟨zk1, zk2⟩ := zk
      have zk2 : 1 = np := zk2
      subst zk1 zk2
      obtain ⟨_, f, fd, ps, k, hk, hpl2, F, c, hm, g, gV, hb, hr⟩ := mo
      refine ⟨a, C, dx, f, fs, fd, ps, _, k, g, gV, ⟨ex, ea, l, c, hm, F, ok.room.mono (Nat.le_of_succ_le hk)⟩, hb, (tA (a := mk) w1 (show evEs G.c mk σ S1 _ from z)).mono fun ys' H3 ⟨S3, ys, e3, w3, r3, z3⟩ => ?_⟩
      obtain ⟨z4, z5, z6, z7⟩ := z3
      exact ⟨by rw [← r3.length]; exact z5, sp_of w3 (e1.trans e3) (by rw [pickV_len]; exact z6) (hr _ _ [x] ys [x'] ys' rfl z5 ⟨_, _, rfl, r1.keep (e3.keeps hid), rfl⟩ r3) z7⟩
    | _ =>
      rw [q] at zf
      exact zf.elim
end
end Li
set_option Elab.async false
set_option linter.all false
set_option maxRecDepth 100000
set_option maxHeartbeats 2000000
/-! LiLen: len(x) of an own class. -/
namespace Li
open PySem L2
section
variable {prog : Program} {w : World} {A : Around} {E : Value → Shared → Prop} {s : Shared} {K : PySem.W.Frag} {x C f : Addr} {ox : Obj} {od : Option Obj}
theorem len_In {Q : Value → Shared → Prop} (X : K.In s.heap) (I : PySem.W.InstAt s.heap x ox C od) (hs : PySem.W.findIn K (.ref C) "__len__" = some (some (.ref f))) (hf : PySem.W.isFn K (.ref f) = true)
    (h : wpAny (model prog w) A.in1 (call (.ref f) [.ref x]) (PySem.W.LenBack Q) E s) : wpAny (model prog w) A (call (.builtin "len") [.ref x]) Q E s := by
  refine Calls.call_function_entry PySem.kind_len PySem.plain_len PySem.entry_len (PySem.args_len1 _) ?_
  unfold Builtin.«len»
  refine wpAny_bind (m := oneArg "len" _) (wpAny_pure ?_)
  refine wpAny_bind (m := callSpecial? (.ref x) (Str.ofString "__len__")) (PySem.W.special_fn X I hs (beq_iff_eq.mp hf) (wpAny_mono h (fun r s' hr => ?_) fun _ _ y => y))
  cases r <;> first | exact hr.elim | skip
  rename_i n u
  obtain ⟨⟨h0, h1⟩, hq⟩ := hr
  refine wpAny_bind (wpAny_holding (wpAny_pure ?_))
  refine wpAny_bind (wpAny_letGo ?_)
  show wpAny _ _ (if n < 0 then _ else _) _ _ _
  rw [if_neg (by omega)]
  show wpAny _ _ (if n ≥ 2 ^ 63 then _ else _) _ _ _
  rw [if_neg (by omega)]
  exact wpAny_bind (wpAny_mkInt (wpAny_pure ⟨_, rfl, hq⟩))
end
section
variable {X : Cx} {CX : CXT} {k : Nat} {f : Addr} {fd : FuncData} {ps : List Str} {sp : Sp} {E : XK} {ds : List Value} {dvs : List V}
/-- a def of the program, called from a builtin -/
theorem run_fn1 {pins : List (Addr × Obj)} {σ : St} {H : Hp} {s : Shared} {Q : VK} {us : List Value} {vs : List V} (F : FnOk X.prog X.w X.K X.mg X.base CX k f fd ps sp) (hr : Room (k + 1) X.A) (hb : Binds X.K fd ps ds) (hd : Vals dvs ds) (hx : Passes CX X E)
    (I : L2.Inv X pins σ H s) (r : Vals vs us) (h : sp (vs ++ dvs) H Q E) : wpAny (model X.prog X.w) X.A.in1 (call (.ref f) us) (EP X pins σ Q) X.xe s := by
  have r2 : Vals (vs ++ dvs) (us ++ ds) := r.append hd
  have hl : (us ++ ds).length = ps.length := by rw [← r2.length]; exact F.len _ _ _ _ h
  refine wpAny_call (codeAny_mono (F.run X.A.in1 X.stack s H ⟨us, []⟩ (us ++ ds) (vs ++ dvs) Q E hr.in1 I.env0.in1 (hb s us I.kIn hl) r2 h) fun r s' hq => ?_)
  cases r with
  | error e => exact hx pins σ H s e s' I hq
  | ok fl =>
    cases fl with
    | ret u => exact I.after hq
    | next => exact False.elim hq
    | brk => exact False.elim hq
    | cont => exact False.elim hq
theorem call_lenOwn (hx : Passes CX X E) : CallR X (.builtin "len") (fun xs H Q => ∃ a C dx f fs fd ps sp k ds dvs, xs = [.ref a] ∧ H a = some (.ins C dx fs) ∧ Meth X.K C "__len__" f ∧ FnOk X.prog X.w X.K X.mg X.base CX k f fd ps sp ∧ Room (k + 1) X.A ∧ Binds X.K fd ps ds ∧ Vals dvs ds ∧
    sp (.ref a :: dvs) H (fun v H' => ∃ i, v = .int i ∧ (0 ≤ i ∧ i < 2 ^ 63) ∧ Q (.int i) H') E) := by
  intro pins s σ H xs us Q I r h
  obtain ⟨a, C, dx, f, fs, fd, ps, sp, k, ds, dvs, ex, ea, hm, F, hr, hb, hd, q⟩ := h
  subst ex
  rw [Vals.ref1 r]
  obtain ⟨mA, O, _, _, _, _⟩ := ins_get I.hok ea
  obtain ⟨od, IA, _⟩ := O.look
  refine len_In I.kIn IA hm.at_ hm.fn (wpAny_mono (run_fn1 (us := [.ref a]) (vs := [.ref a]) F hr hb hd hx I (.cons rfl .nil) q) (fun u s' z => ?_) fun _ _ z => z)
  obtain ⟨v, H', I', rv, i, ev, hi, q'⟩ := z
  subst ev
  obtain ⟨t, rfl⟩ := rv
  exact ⟨hi, .int i, H', I'.tok _, ⟨_, rfl⟩, q'⟩
end
section
variable {X : Cx} {G : SX} {lvl : Nat} {nm : Nat → Str} {σ : Env} {S : Sto} {hid : Hid} {σ' : L2.St} {H : Hp} {K : PySem.W.Frag}
theorem sE_lenm (ok : Okx G lvl nm X) {o : Expr} {mo : E} {p pos : Pos} (hg : Gl X "len") (hm : X.mg "len" = none) (ho : PE X o (tEv G X.K mo)) (hs : starEach [o] X.env = [(false, eval o X.env)]) : PE X (.Call (.Name "len" p) [o] [] pos) (tEv G X.K (.lenm mo)) :=
  PE.wk (pe_callB (call_lenOwn (E := G.EX X.K) ok.pas) hg hm (by decide +kernel) (pa_cons ho pa_nil (by rw [hs]; rfl)) (he := by rw [hs]; rfl)) fun σ' H Q ⟨σ, S, hid, w, h⟩ => (t1 (a := mo) w h).mono fun x' H1 ⟨S1, x, e1, w1, r1, z⟩ => by
    obtain ⟨a, C, dx, fs, ex, ea, l, zf, z⟩ := mthQ_rd w1.rel r1 z
    have mo := ok.mok C (Str.ofString "__len__") []
    cases q : G.c.M C (Str.ofString "__len__") [] with
    | fn sp n dfl =>
      rw [q] at mo z
      obtain ⟨_, f, fd, ps, k, hk, hpl2, F, c, hm, hb⟩ := mo
      obtain ⟨ds, dvs, b, hv, rd⟩ := hb (min 0 dfl.length) (Nat.min_le_right _ _)
      rw [drop_min] at rd
      have z2 : callG (.fn sp n dfl) [x] 0 S1 (fun v S2 => intQ v fun i => (0 ≤ i ∧ i < 2 ^ 63) ∧ PoE X.K hid S H Q (.int i) S2) G.c.er := z
      subst ex
      refine ⟨a, C, dx, f, fs, fd, ps, _, k, ds, dvs, rfl, ea, hm, F, ok.room.mono hk, b, hv, sp_of (S := S) (H := H) w1 e1 z2.1 (show Rvs X.K (Mset S1 hid) H1 (x :: ([] ++ _)) (.ref a :: dvs) from ⟨_, _, rfl, r1, rd.const⟩) (sp.mono (fun v S' y => ?_) (fun _ _ y => y) z2.2)⟩
      intro v' H' e' rel' rv
      obtain ⟨i, ei, y⟩ := intQ_inv y
      subst ei
      exact ⟨i, rv, y.1, y.2 (.int i) H' e' rel' rfl⟩
    | _ =>
      rw [q] at zf
      exact zf.elim
end
end Li
set_option Elab.async false
set_option linter.all false
set_option maxRecDepth 100000
set_option maxHeartbeats 4000000
/-! LiChk: is a text of Li the reading of a text of the program? Checked by the kernel; what is checked holds (LiSound). -/
namespace Li
open PySem L2
/-- what a check needs: the names' places, the module's names, the comprehensions' and nested defs' scopes come with the text -/
structure Tb where
  N : List Str
  gn : List Str
  /-- slots that local defs capture -/
  cap : List Nat := []
  /-- the check of a local def's statement: which one, its slot, the scope around it -/
  ndc : Nat → Nat → Scope → Stmt → Bool := fun _ _ _ _ => false
def Tb.nm (T : Tb) (g : Nat) : Str := (T.gn[g]?).getD (Str.ofString "")
def visB (sc : Scope) (x : Str) : Bool := match sc.names.lookup x with
  | some .local => true
  | some .cell => true
  | some .free => true
  | _ => false
def locB (sc : Scope) (x : Str) : Bool := match sc.names.lookup x with
  | some .local => true
  | some .cell => true
  | _ => false
def isLoc (sc : Scope) (x : Str) : Bool := sc.names.lookup x == some .local
def glB (sc : Scope) (x : Str) : Bool := sc.names.lookup x == some .globalImplicit
def nameB (x : Str) : Bool := (x == ("__debug__" : Str)) == false && (x == ("__classdict__" : Str)) == false
def notStar : Expr → Bool
  | .Starred _ _ => false
  | _ => true
def notSlice : Expr → Bool
  | .Slice _ _ _ _ => false
  | _ => true
def notSet : Expr → Bool
  | .Set _ _ _ => false
  | _ => true
def baseB : Expr → Bool
  | .Call (.Name id _) [] [] _ => id != "super"
  | _ => true
def notComp : Expr → Bool
  | .ListComp _ _ _ _ => false
  | .SetComp _ _ _ _ => false
  | .DictComp _ _ _ _ _ => false
  | _ => true
def tyB : Expr → Bool
  | .UnaryOp _ _ _ => false
  | .BoolOp _ _ _ => false
  | .IfExp _ _ _ _ => false
  | .Compare _ _ _ _ => false
  | _ => true
def litB : Val → Const → Bool
  | .int i, .int j => i == j
  | .str x, .str y => x == y
  | .bl a, .bool b => a == b
  | .non, .none => true
  | _, _ => false
/-- the builtins that may be called; the module has no such names -/
def bnames : List Str := [("len" : Str), ("abs" : Str), ("int" : Str), ("str" : Str), ("repr" : Str), ("tuple" : Str), ("list" : Str), ("sum" : Str), ("min" : Str), ("max" : Str), ("all" : Str), ("any" : Str), ("sorted" : Str), ("isinstance" : Str), ("range" : Str), ("enumerate" : Str), ("zip" : Str), ("dict" : Str), ("bool" : Str)]
def bfName : Bf → Str
  | .len => ("len" : Str)
  | .abs => ("abs" : Str)
  | .int => ("int" : Str)
  | .str => ("str" : Str)
  | .repr => ("repr" : Str)
  | .tuple => ("tuple" : Str)
  | .list => ("list" : Str)
  | .sum => ("sum" : Str)
  | .min => ("min" : Str)
  | .max => ("max" : Str)
  | .all => ("all" : Str)
  | .any => ("any" : Str)
  | .sorted => ("sorted" : Str)
  | .isi _ => ("isinstance" : Str)
def tyName : Ty → Option Str
  | .int => some ("int" : Str)
  | .bool => some ("bool" : Str)
  | .str => some ("str" : Str)
  | .tup => some ("tuple" : Str)
  | .lst => some ("list" : Str)
  | .cls _ => none
def ownOf (N : List Str) : List Nat → Option (List (Str × Nat))
  | [] => some []
  | i :: r => match N[i]?, ownOf N r with
    | some x, some l => some ((x, i) :: l)
    | _, _ => none
def blkB (N : List Str) (sc scope : Scope) (own : List (Str × Nat)) : Bool :=
  scope.kind == .function
  && scope.names.all (fun y => scope.names.lookup y.1 == some y.2)
  && scope.names.all (fun y => y.2 != .free || (sc.names.lookup y.1 == some .cell || sc.names.lookup y.1 == some .free))
  && scope.names.all (fun y => !(y.2 == .local || y.2 == .cell) || ((own.map (·.1)).contains y.1 || !(N.contains y.1)))
/-- one name as a target; lk tells which names may be stored -/
def ckT1 (T : Tb) (lk : Str → Bool) (i : Nat) : Expr → Bool
  | .Name x _ => T.N[i]? == some x && lk x
  | _ => false
def ckTs (T : Tb) (lk : Str → Bool) : List Nat → List Expr → Bool
  | [], [] => true
  | i :: is, e :: es => ckT1 T lk i e && ckTs T lk is es
  | _, _ => false
def ckTg (T : Tb) (lk : Str → Bool) : Tg → Expr → Bool
  | .one i, e => ckT1 T lk i e
  | .many is, .Tuple es _ _ => ckTs T lk is es
  | _, _ => false
/-- names that a comprehension may store -/
def lkC (sc scope : Scope) (x : Str) : Bool := locB (relS scope sc) x && (scope.names.lookup x == some .cell || isLoc (relS scope sc) x)
mutual
def ckE (T : Tb) : E → Scope → Expr → Bool
  | .var i, sc, e => match e with
    | .Name x _ => T.N[i]? == some x && visB sc x && nameB x
    | _ => false
  | .lit v, sc, e => match e with
    | .Constant c _ _ => litB v c
    | _ => false
  | .glob g, sc, e => match e with
    | .Name x _ => x == T.nm g && glB sc x && nameB x
    | _ => false
  | .bin o a b, sc, e => match e with
    | .BinOp x p y _ => o == p && ckE T a sc x && ckE T b sc y
    | _ => false
  | .neg a, sc, e => match e with
    | .UnaryOp .USub x _ => ckE T a sc x
    | _ => false
  | .cmp o a b, sc, e => match e with
    | .Compare x [p] [y] _ => o == p && ckE T a sc x && ckE T b sc y && notSet y
    | _ => false
  | .chain o o2 a b c, sc, e => match e with
    | .Compare x [p, p2] [y, z] _ => o == p && o2 == p2 && ckE T a sc x && ckE T b sc y && ckE T c sc z && notSet z
    | _ => false
  | .land a b, sc, e => match e with
    | .BoolOp .And [x, y] _ => ckE T a sc x && ckE T b sc y
    | .BoolOp .And (x :: y :: z :: r) p => ckE T a sc x && ckE T b sc (.BoolOp .And (y :: z :: r) p)
    | _ => false
  | .lor a b, sc, e => match e with
    | .BoolOp .Or [x, y] _ => ckE T a sc x && ckE T b sc y
    | .BoolOp .Or (x :: y :: z :: r) p => ckE T a sc x && ckE T b sc (.BoolOp .Or (y :: z :: r) p)
    | _ => false
  | .lnot a, sc, e => match e with
    | .UnaryOp .Not x _ => ckE T a sc x
    | _ => false
  | .ife c a b, sc, e => match e with
    | .IfExp x y z _ => ckE T c sc x && ckE T a sc y && ckE T b sc z
    | _ => false
  | .tup es, sc, e => match e with
    | .Tuple xs _ _ => ckEs T es sc xs
    | _ => false
  | .lst es, sc, e => match e with
    | .List xs _ => ckEs T es sc xs
    | _ => false
  | .idx a i, sc, e => match e with
    | .Subscript x y _ => ckE T a sc x && ckE T i sc y && notSlice y
    | _ => false
  | .slc a lo hi, sc, e => match e with
    | .Subscript x (.Slice l h none _) _ => ckE T a sc x && ckO T lo sc l && ckO T hi sc h
    | _ => false
  | .call g es dn, sc, e => match e with
    | .Call (.Name x _) xs [] _ => x == T.nm g && glB sc x && nameB x && ckEs T es sc xs
    | _ => false
  | .calln j i es, sc, e => match e with
    | .Call (.Name x _) (a :: r) [] _ => T.N[i]? == some x && visB sc x && nameB x && ckEs T es sc (a :: r)
    | _ => false
  | .callk g es ks kes, sc, e => match e with
    | .Call (.Name x _) xs kws _ => x == T.nm g && glB sc x && nameB x && ckEs T es sc xs && ckKs T kes sc ks kws
    | _ => false
  | .bf f es, sc, e => match f, es with
    | .isi t, .cons m .nil => match e with
      | .Call (.Name x _) [a, .Name y _] [] _ => x == ("isinstance" : Str) && glB sc x && glB sc y && nameB y && notStar a && ckE T m sc a && (match t with
        | .cls g => y == T.nm g
        | t => tyName t == some y)
      | _ => false
    | f, es => match e with
      | .Call (.Name x _) (a :: r) [] _ => x == bfName f && glB sc x && (match f with
        | .isi _ => false
        | _ => true) && ckEs T es sc (a :: r)
      | _ => false
  | .bm m o es, sc, e => match m, e with
    | .append, .Call (.Attribute x f p) (a :: r) [] p2 => f == ("append" : Str) && p.endLine == p2.line && decide ((a :: r).length < 20) && baseB x && ckE T o sc x && ckEs T es sc (a :: r)
    | .pop, .Call (.Attribute x f p) (a :: r) [] p2 => f == ("pop" : Str) && p.endLine == p2.line && decide ((a :: r).length < 20) && baseB x && ckE T o sc x && ckEs T es sc (a :: r)
    | .insert, .Call (.Attribute x f p) (a :: r) [] p2 => f == ("insert" : Str) && p.endLine == p2.line && decide ((a :: r).length < 20) && baseB x && ckE T o sc x && ckEs T es sc (a :: r)
    | .extend, .Call (.Attribute x f p) (a :: r) [] p2 => f == ("extend" : Str) && p.endLine == p2.line && decide ((a :: r).length < 20) && baseB x && ckE T o sc x && ckEs T es sc (a :: r)
    | .pop, .Call (.Attribute x f p) [] [] p2 => f == ("pop" : Str) && p.endLine == p2.line && baseB x && ckE T o sc x && (match es with
      | .nil => true
      | _ => false)
    | .get, .Call (.Attribute x f p) [a, b] [] p2 => f == ("get" : Str) && p.endLine == p2.line && baseB x && notStar a && notStar b && ckE T o sc x && (match es with
      | .cons ma (.cons mb .nil) => ckE T ma sc a && ckE T mb sc b
      | _ => false)
    | _, _ => false
  | .attr o f, sc, e => match e with
    | .Attribute x g _ => f == g && baseB x && ckE T o sc x
    | _ => false
  | .comp elt t it ifs own, sc, e => match e with
    | .ListComp el [⟨tg, iter, fs, k⟩] scope _ => k == 0 && own.all (fun i => !(T.cap.contains i)) && notSet iter && (tgs t).all (own.contains ·) && ckIt T it sc tg iter && (match ownOf T.N own with
      | some ow => blkB T.N sc scope ow
      | none => false) && ckTg T (lkC sc scope) t tg && ckFs T ifs (relS scope sc) fs && ckE T elt (relS scope sc) el
    | _ => false
  | .srtLen m, sc, x => match x with
    | .Call (.Name f _) [a] [⟨some k, .Name y _, _⟩] _ => f == ("sorted" : Str) && k == ("key" : Str) && y == ("len" : Str) && glB sc f && glB sc y && notStar a && ckE T m sc a
    | _ => false
  | .dzip a b, sc, x => match x with
    | .Call (.Name d _) [.Call (.Name f _) [y, z] [⟨some k, .Constant (.bool true) _ _, _⟩] _] [] _ => d == ("dict" : Str) && f == ("zip" : Str) && k == ("strict" : Str) && glB sc d && glB sc f && notStar y && notStar z && ckE T a sc y && ckE T b sc z
    | _ => false
  | .dead, sc, x => true
  | .callm o m es dn, sc, e => match e with
    | .Call (.Attribute x f p) xs [] p2 => f == m && p.endLine == p2.line && decide (xs.length < 20) && baseB x && ckE T o sc x && ckEs T es sc xs
    | _ => false
  | .callmk o m es ks kes, sc, e => match e with
    | .Call (.Attribute x f p) xs kws p2 => f == m && p.endLine == p2.line && decide (xs.length + kws.length < 20) && baseB x && ckE T o sc x && ckEs T es sc xs && ckKs T kes sc ks kws
    | _ => false
  | .dget a i, sc, e => match e with
    | .Subscript x y _ => ckE T a sc x && ckE T i sc y && notSlice y
    | _ => false
  | .lenm o, sc, e => match e with
    | .Call (.Name x _) [a] [] _ => x == ("len" : Str) && glB sc x && notStar a && ckE T o sc a
    | _ => false
  | .din neg i a, sc, e => match neg, e with
    | false, .Compare x [.In] [y] _ => ckE T i sc x && ckE T a sc y && notSet y
    | true, .Compare x [.NotIn] [y] _ => ckE T i sc x && ckE T a sc y && notSet y
    | _, _ => false
def ckEs (T : Tb) : Es → Scope → List Expr → Bool
  | .nil, sc, xs => xs.isEmpty
  | .cons m r, sc, xs => match xs with
    | x :: y => notStar x && ckE T m sc x && ckEs T r sc y
    | [] => false
def ckKs (T : Tb) : Es → Scope → List Str → List Keyword → Bool
  | .nil, sc, ks, xs => ks.isEmpty && xs.isEmpty
  | .cons m r, sc, ks, xs => match ks, xs with
    | k :: ks, ⟨some y, x, _⟩ :: xs => k == y && ckE T m sc x && ckKs T r sc ks xs
    | _, _ => false
def ckO (T : Tb) : Eo → Scope → Option Expr → Bool
  | .no, sc, o => o.isNone
  | .so m, sc, o => match o with
    | some x => ckE T m sc x
    | none => false
def ckFs (T : Tb) : Eo → Scope → List Expr → Bool
  | .no, sc, xs => xs.isEmpty
  | .so m, sc, xs => match xs with
    | [x] => ckE T m sc x
    | _ => false
def ckIt (T : Tb) : It → Scope → Expr → Expr → Bool
  | .seq m, sc, tg, x => ckE T m sc x
  | .rng a b, sc, tg, x => match x with
    | .Call (.Name f _) [y, z] [] _ => f == ("range" : Str) && glB sc f && notStar y && notStar z && ckE T a sc y && ckE T b sc z
    | _ => false
  | .rng1 b, sc, tg, x => match x with
    | .Call (.Name f _) [z] [] _ => f == ("range" : Str) && glB sc f && notStar z && ckE T b sc z
    | _ => false
  | .enum m, sc, tg, x => match tg, x with
    | .Tuple _ _ _, .Call (.Name f _) [z] [] _ => f == ("enumerate" : Str) && glB sc f && notStar z && ckE T m sc z
    | _, _ => false
  | .zip a b, sc, tg, x => match tg, x with
    | .Tuple _ _ _, .Call (.Name f _) [y, z] [⟨some k, .Constant (.bool true) _ _, _⟩] _ => f == ("zip" : Str) && k == ("strict" : Str) && glB sc f && notStar y && notStar z && ckE T a sc y && ckE T b sc z
    | _, _ => false
  | .items m, sc, tg, x => match tg, x with
    | .Tuple _ _ _, .Call (.Attribute y f p) [] [] p2 => f == ("items" : Str) && p.endLine == p2.line && baseB y && ckE T m sc y
    | _, _ => false
end
end Li
set_option Elab.async false
set_option linter.all false
set_option maxRecDepth 100000
set_option maxHeartbeats 2000000
/-! LiNest: a def within a def: its making, its calls. -/
namespace Li
open PySem L2 NdefX
def toSpN (K : PySem.W.Frag) (T : List NTab) (lf : LF) : List (Option V) → Sp := fun ws vs' H Q E => ∃ vs cs S hid cs', hid.T = T ∧ vs.length = lf.n ∧ ws = cs'.map some ∧ Rvs K (Mset S hid) H vs vs' ∧ Rvs K (Mset S hid) H cs cs' ∧ Rel K hid S H ∧
  lf.sp.run (vs ++ cs) S (PoE K hid S H Q) fun ex S' => ∀ cls d H', Ext S H S' H' → Rel K hid S' H' → RExc K (Mset S' hid) H' ex cls d → E cls d H'
/-- the function F keeps lf's promise, and its captured cells hold what the frame's names hold -/
structure LOk (X : Cx) (G : SX) (lvl : Nat) (lf : LF) (F : NF) : Prop where
  ex : ∃ ps fr k, ps.length = lf.n ∧ k ≤ lvl ∧ (∀ f, NOk X.prog X.w X.K X.mg X.base (CX X.prog X.w) k f F ps fr (toSpN X.K G.T lf)) ∧ ∀ pins σ H s, L2.Inv X pins σ H s → G.ag σ → CellsAt F.cl fr (lf.cap.map (slotAt σ)) s.heap H ∧ ∀ y c, F.cl.lookup y = some c → c ∉ frs X.stack
section
variable {X : Cx} {G : SX} {lvl : Nat} {nm : Nat → Str} {σ : Env} {S : Sto} {hid : Hid} {σ' : L2.St} {H : Hp} {K : PySem.W.Frag}
theorem cloQ_inv {i : Nat} {Q : NF → Prop} (h : cloQ σ i Q) : ∃ f F, σ[i]? = some (some (.clo f F)) ∧ Q F := by
  unfold cloQ at h
  split at h
  · exact ⟨_, _, by assumption, h⟩
  · exact h.elim
theorem capQ_rd {M : Addr → Prop} (e : Renv K M H σ σ') : ∀ {is : List Nat} {Q : List Val → Prop}, capQ σ is Q → ∃ cs cs', Q cs ∧ is.map (slotAt σ') = cs'.map some ∧ Rvs K M H cs cs'
  | [], Q, h => ⟨[], [], h, rfl, rfl⟩
  | i :: r, Q, h => by
    obtain ⟨v, ev, h⟩ := slotQ_inv h
    obtain ⟨x, ex, rx⟩ := e.2 i v ev
    obtain ⟨cs, cs', q1, q2, q3⟩ := capQ_rd e h
    exact ⟨v :: cs, x :: cs', q1, by rw [List.map_cons, List.map_cons, q2, slotAt_of ex], x, cs', rfl, rx, q3⟩
theorem calln_rd {lf : LF} {xs : List Val} {xs' : List V} {S1 : Sto} {H1 : Hp} {Q : VK} {ms : List Nat} (w1 : Wd G K σ S1 hid σ' H1) (e1 : Ext S H S1 H1) (r : Rvs K (Mset S1 hid) H1 xs xs')
    (z : xs.length = lf.n ∧ capQ σ lf.cap fun cs => lf.sp.run (xs ++ cs) S1 (PoE K hid S H Q) G.c.er) : toSpN K G.T lf (lf.cap.map (slotAt σ')) xs' H1 Q (G.EX K) := by
  obtain ⟨z1, z2⟩ := z
  obtain ⟨cs, cs', q1, q2, q3⟩ := capQ_rd w1.env z2
  exact ⟨xs, cs, S1, hid, cs', w1.hT, z1, q2, r, q3, w1.rel, lf.sp.mono (fun v S' z => z.after e1) (fun ex S' her cls d H' e' rel' rx => ⟨ex, S', hid, w1.p, w1.ex.trans e', rel', rx, her⟩) q1⟩
theorem sE_calln (ok : Okx G lvl nm X) {j i : Nat} (lok : ∀ F, (G.c.L j).ok F → LOk X G lvl (G.c.L j) F) {x : Str} {p pos : Pos} {e : Expr} {es : List Expr} {ms : Es} (hN : X.N[i]? = some x) (hv : Vis X.env.scope x) (hd : (x == ("__debug__" : Str)) = false) (hcd : (x == ("__classdict__" : Str)) = false)
    (ha : PA X (e :: es) (tAv G X.K ms)) (he : starEach (e :: es) X.env = (false, eval e X.env) :: starEach es X.env) (hpl : (backTo pos (starEach es X.env)).any (·.1) = false) : PE X (.Call (.Name x p) (e :: es) [] pos) (tEv G X.K (.calln j i ms)) := by
  refine ⟨fun pins s σ' H Q I ⟨σ, S, hid, w, hc, h⟩ => ?_⟩
  obtain ⟨f, F, ef, okF⟩ := cloQ_inv hc
  obtain ⟨y, ey, ry⟩ := w.env.2 i _ ef
  obtain ⟨exy, hf, _⟩ := id ry
  subst exy
  obtain ⟨ps, fr, k, hl, hk, Fn, hcell⟩ := (lok F okF).ex
  refine wpAny_Call_Name_kw (thn ((pe_var (pos := p) hN hv hd hcd).run pins s σ' H (fun v H1 => v = .ref f ∧ H1 = H) I ⟨.ref f, ey, rfl, rfl⟩) fun u s1 ⟨v, H1, I1, r1, ev, eH⟩ => ?_)
  subst ev eH
  cases r1
  refine PySem.W.callWith_F (first := []) (fnAt_of I1 hf) (thn (ha.run pos pins s1 σ' _ _ I1 (tA (a := ms) w h)) fun us s2 ⟨xs', H2, I2, r, S2, xs, e2, w2, rx, z⟩ => ?_) he hpl
  obtain ⟨y2, ey2, ry2⟩ := w2.env.2 i _ ef
  rw [ey] at ey2
  cases ey2
  obtain ⟨_, hf2, _, hc2, _⟩ := ry2
  exact ⟨fnAt_of I2 hf2, run_n (mk := fun _ => F) (c' := F.c) (sp := fun _ _ => toSpN X.K G.T (G.c.L j)) (Fn f) ok.room hk ok.pas I2 hf2 hc2 (hcell _ _ _ _ I2 w2.ag).1 r (calln_rd (ms := []) w2 e2 rx z)⟩
/-- the making of such a function -/
theorem sS_ndef [AgT G] {T : List NTab} {tn : Nat → Nat → Str} {c P : Addr} {name : Str} {params : Arguments} {body : List Stmt} {scope : Scope} {pos : Pos} {i j : Nat} (TB : LamX.TabB X.base X.mg c P) (hcode : X.env.code = .ref c) (hm : (P, tn) ∈ T) (hn : tn pos.line pos.col = X.env.qual ++ name) (hu : ∀ p ∈ T, p.1 = P → p.2 = tn)
    (hfree : ∀ y ∈ scope.names, y.2 = .free → X.env.scope.names.lookup y.1 = some .cell ∨ X.env.scope.names.lookup y.1 = some .free) (hd0 : params.defaults = []) (hk0 : params.kw_defaults = []) (ha : annTrees params none X.env = [])
    (hN : X.N.Nodup) (hi : X.N[i]? = some name) (hx : Loc X.env.scope name) (hf : X.fn name = true ∨ X.env.scope.names.lookup name = some .local) (hT : G.T = T)
    (hok : ∀ c', (G.c.L j).ok ⟨name, X.env.qual ++ name, params, body, scope, cloFrom X.env.cells scope.names [], c'⟩) : PS X (.FunctionDef name params body [] none [] scope none name pos) (tSv G X.K (.ndef i j)) :=
  PS.wk (ps_ndefM TB hcode hm hn hu hfree hd0 hk0 ha hN hi hx hf) fun D σ' H ⟨σ, S, hid, w, h⟩ => by
    have eT := w.hT.trans hT
    refine ⟨by rw [← eT]; exact w.rel.tabs, fun f c' H1 eN nn T1 f0 f1 c1 => ?_⟩
    have ext : Ext S H S H1 := ⟨fun p o hp sd k => ⟨eN p o hp sd, k⟩, fun p hp z => hp (nn p z)⟩
    have same : ∀ a cc, S a = some cc → H1 a = H a := fun a cc ha => by
      have q := w.rel.cells a cc ha
      cases cc with
      | lst vs =>
        obtain ⟨xs, e, _⟩ := q
        rw [e, eN a _ e so_lst]
      | obj C fs =>
        obtain ⟨dx, xs, e, _⟩ := q
        rw [e, eN a _ e so_ins]
      | dK kvs =>
        obtain ⟨xs, e, _⟩ := q
        rw [e, eN a _ e so_dK]
    have notCode : ∀ a cc, S a = some cc → H1 a ≠ some (LamX.CodeO c' (X.env.qual ++ name)) := fun a cc ha z => by
      rw [same a cc ha] at z
      have q := w.rel.cells a cc ha
      unfold LamX.CodeO at z
      cases cc with
      | lst vs =>
        obtain ⟨xs, e, _⟩ := q
        rw [e] at z
        cases z
      | obj C fs =>
        obtain ⟨dx, xs, e, _⟩ := q
        rw [e] at z
        cases z
      | dK kvs =>
        obtain ⟨xs, e, _⟩ := q
        rw [e] at z
        cases z
    have rel1 : Rel X.K hid S H1 := ⟨fun a cc ha => (w.rel.cells a cc ha).keep (ext.keeps hid) (same a cc ha), fun p hp => by
      obtain ⟨xs, e⟩ := w.rel.hids p hp
      exact ⟨xs, eN p _ e so_lst⟩, w.rel.dis, by rw [eT]; exact T1⟩
    refine h f _ (hok c') (w.rel.free f0) _ H1 ext rel1 ((w.env.keep (ext.keeps hid)).set i ⟨rfl, f1, fun z => z.elim (fun q => q (w.rel.free f0)) fun q => w.rel.nohid f0 q, c1, fun z => ?_⟩)
    rcases z with z | z
    · cases q : S c' with
      | none => exact z q
      | some cc => exact notCode c' cc q c1
    · obtain ⟨xs, e⟩ := w.rel.hids c' z
      have z2 := eN c' _ e so_lst
      have c1 : H1 c' = some (LamX.CodeO c' (X.env.qual ++ name)) := c1
      rw [z2] at c1
      unfold LamX.CodeO at c1
      cases c1
theorem slot_congr {σ1 σ2 : L2.St} : ∀ {is : List Nat}, (∀ j ∈ is, σ1[j]? = σ2[j]?) → is.map (slotAt σ1) = is.map (slotAt σ2)
  | [], _ => rfl
  | i :: r, h => by
    rw [List.map_cons, List.map_cons, slot_congr (is := r) fun j hj => h j (List.mem_cons_of_mem _ hj)]
    unfold NdefX.slotAt
    rw [h i List.mem_cons_self]
/-- in a comprehension's block the captured cells hold what they held -/
theorem lok_blk {lf : LF} {F : NF} {own : List Nat} {pn : List (Addr × Obj)} {σb : L2.St} {H : Hp} {s : Shared} (l : LOk X G lvl lf F) (ho : ∀ j ∈ lf.cap, j ∉ own) (I : L2.Inv X pn σb H s) (hag : G.ag σb) (scope : Scope) (C : Addr) (cl : List (Str × Addr)) (fp : List Addr) (nc : LiC.NoCell s fp) :
    LOk (LiC.blkAt X s H scope C cl fp) (G.blk σb own) lvl lf F := by
  obtain ⟨ps, fr, k, h1, h2, h3, h4⟩ := l.ex
  obtain ⟨c0, nf⟩ := h4 pn σb H s I hag
  refine ⟨ps, fr, k, h1, h2, h3, fun pins σ1 H1 s1 I1 ag1 => ⟨?_, nf⟩⟩
  rw [slot_congr (σ2 := σb) fun j hj => ag1 j (ho j hj)]
  refine CellsAt.later (X := LiC.blkAt X s H scope C cl fp) c0 nf (fun y c e z => ?_) I1
  obtain ⟨o, q1, q2⟩ := nc c z
  obtain ⟨_, v, o', q3, q4⟩ := c0.all y c e
  rw [q1] at q3
  cases q3
  exact q2 _ q4
/-- in the def that makes it -/
theorem lok_def {lf : LF} {scope : Scope} {name qual : Str} {params : Arguments} {body : List Stmt} {c' : Addr} {ps fr : List Str} {k : Nat} (hps : ps.length = lf.n) (hk : k ≤ lvl) (hfn : ∀ x, X.fn x = true)
    (hfree : ∀ y ∈ scope.names, y.2 = .free → X.env.scope.names.lookup y.1 = some .cell ∨ X.env.scope.names.lookup y.1 = some .free) (hfr : ∀ y ∈ fr, (y, NameKind.free) ∈ scope.names) (hjs : lf.cap.map (fun j => X.N[j]?) = fr.map some)
    (Fn : ∀ f, NOk X.prog X.w X.K X.mg X.base (CX X.prog X.w) k f ⟨name, qual, params, body, scope, cloFrom X.env.cells scope.names [], c'⟩ ps fr (toSpN X.K G.T lf)) : LOk X G lvl lf ⟨name, qual, params, body, scope, cloFrom X.env.cells scope.names [], c'⟩ := by
  refine ⟨ps, fr, k, hps, hk, Fn, fun pins σ H s I _ => ?_⟩
  have cp : Caps X (cloFrom X.env.cells scope.names []) fr lf.cap := Caps.made I.ok hfree hfr hjs
  refine ⟨cells_of I cp, fun y c e z => ?_⟩
  have ec := cp.sub y c e
  rcases List.mem_cons.mp (I.stkSub c z) with q | q
  · exact I.cne y c ec q
  · obtain ⟨_, o, ho, _⟩ := I.ok.funs.mem q
    exact absurd (Nat.lt_of_lt_of_le (Heap.lt_size ho) (I.ok.cab y c (hfn y) ec)) (Nat.lt_irrefl _)
end
end Li
set_option Elab.async false
set_option linter.all false
set_option maxRecDepth 100000
set_option maxHeartbeats 4000000
/-! LiSound: what LiChk checks holds. -/
namespace Li
open PySem L2
structure SOk (T : Tb) (G : SX) (lvl : Nat) (X : Cx) (sc : Scope) : Prop where
  ok : Okx G lvl T.nm X
  sc : X.env.scope = sc
  N : X.N = T.N
  bl : ∀ x, bnames.contains x = true → X.mg x = none
  lok : ∀ j F, (G.c.L j).ok F → LOk X G lvl (G.c.L j) F
  lcap : ∀ j i, i ∈ (G.c.L j).cap → T.cap.contains i = true
section
variable {T : Tb} {G : SX} {lvl : Nat} {X : Cx} {sc : Scope}
theorem and2 {a b : Bool} (h : (a && b) = true) : a = true ∧ b = true := by
  cases a <;> cases b <;> first
    | exact ⟨rfl, rfl⟩
    | cases h
theorem eqS {α : Type} [BEq α] [LawfulBEq α] {a b : α} (h : (a == b) = true) : a = b := eq_of_beq h
theorem visB_ok {x : Str} (h : visB sc x = true) : Vis sc x := by
  unfold visB at h
  split at h
  · exact .inl (by assumption)
  · exact .inr (.inl (by assumption))
  · exact .inr (.inr (by assumption))
  · cases h
theorem locB_ok {x : Str} (h : locB sc x = true) : Loc sc x := by
  unfold locB at h
  split at h
  · exact .inl (by assumption)
  · exact .inr (by assumption)
  · cases h
theorem SOk.vis (so : SOk T G lvl X sc) {x : Str} (h : visB sc x = true) : Vis X.env.scope x := by
  rw [so.sc]
  exact visB_ok h
theorem SOk.gl (so : SOk T G lvl X sc) {x : Str} (h : glB sc x = true) : Gl X x := by
  show X.env.scope.names.lookup x = _
  rw [so.sc]
  exact eqS h
theorem SOk.ix (so : SOk T G lvl X sc) {x : Str} {i : Nat} (h : (T.N[i]? == some x) = true) : X.N[i]? = some x := by
  rw [so.N]
  exact eqS h
theorem nameB_ok {x : Str} (h : nameB x = true) : (x == ("__debug__" : Str)) = false ∧ (x == ("__classdict__" : Str)) = false := by
  obtain ⟨h1, h2⟩ := and2 h
  exact ⟨eqS h1, eqS h2⟩
theorem star_ok {e : Expr} {es : List Expr} {env : PySem.Env} (h : notStar e = true) : starEach (e :: es) env = (false, eval e env) :: starEach es env := by
  cases e <;> first
    | rfl
    | exact (Bool.false_ne_true h).elim
theorem base_ok {e : Expr} {f : Str} {env : PySem.Env} (h : baseB e = true) : attributeBase e f env (eval e env) = eval e env := by
  unfold attributeBase
  split
  · rename_i id p pos
    have h : (id != "super") = true := h
    rw [h]
    rfl
  · rfl
theorem set_mark {op : CmpOp} {e : Expr} (h : notSet e = true) : behindInMarks op e = false := by
  cases e <;> first
    | rfl
    | exact (Bool.false_ne_true h).elim
theorem set_iter {e : Expr} {env : PySem.Env} (h : notSet e = true) : ∀ x, foldedSetIterable e env x = pure x := by
  intro x
  cases e <;> first
    | rfl
    | exact (Bool.false_ne_true h).elim
theorem slice_ok {e : Expr} (h : notSlice e = true) : PlainIx e := by
  intro o i
  cases e <;> first
    | rfl
    | exact (Bool.false_ne_true h).elim
theorem nosl_ok {e : Expr} (h : notSlice e = true) : NoSl e := by
  intro o i
  cases e <;> first
    | rfl
    | exact (Bool.false_ne_true h).elim
theorem ckEs_len : ∀ {m : Es} {xs : List Expr}, ckEs T m sc xs = true → esLen m = xs.length
  | .nil, [], _ => rfl
  | .nil, _ :: _, h => (Bool.false_ne_true h).elim
  | .cons m r, [], h => (Bool.false_ne_true h).elim
  | .cons m r, x :: y, h => by
    obtain ⟨h1, h2⟩ := and2 (show (notStar x && ckE T m sc x && ckEs T r sc y) = true from h)
    show esLen r + 1 = y.length + 1
    rw [ckEs_len h2]
theorem true_ok {e : Expr} {env : PySem.Env} (h : tyB e = true) : ∀ whole, isTrue e env whole = (do let v ← whole; standAt e.pos; holding [v] (truthy v)) := by
  intro w
  cases e <;> first
    | rfl
    | exact (Bool.false_ne_true h).elim
theorem plain_any {es : List Expr} {env : PySem.Env} {pos : Pos} (h : es.all notStar = true) : (backTo pos (starEach es env)).any (·.1) = false := by
  induction es with
  | nil => rfl
  | cons e es ih =>
    obtain ⟨h1, h2⟩ := and2 (show (notStar e && es.all notStar) = true from h)
    rw [star_ok h1]
    show (false || (backTo pos (starEach es env)).any (·.1)) = false
    rw [ih h2]
    rfl
theorem plain_all {es : List Expr} {env : PySem.Env} {pos : Pos} (h : es.all notStar = true) : (backTo pos (starEach es env)).all (fun x => !x.1) = true := by
  induction es with
  | nil => rfl
  | cons e es ih =>
    obtain ⟨h1, h2⟩ := and2 (show (notStar e && es.all notStar) = true from h)
    rw [star_ok h1]
    show (true && (backTo pos (starEach es env)).all (fun x => !x.1)) = true
    rw [ih h2]
    rfl
theorem ckEs_star : ∀ {m : Es} {xs : List Expr}, ckEs T m sc xs = true → xs.all notStar = true
  | .nil, [], _ => rfl
  | .nil, _ :: _, h => (Bool.false_ne_true h).elim
  | .cons m r, [], h => (Bool.false_ne_true h).elim
  | .cons m r, x :: y, h => by
    obtain ⟨h1, h2⟩ := and2 (show (notStar x && ckE T m sc x && ckEs T r sc y) = true from h)
    obtain ⟨h1, h3⟩ := and2 h1
    show (notStar x && y.all notStar) = true
    rw [h1, ckEs_star h2]
    rfl
theorem form_ok {es : List Expr} {kws : List Keyword} {env : PySem.Env} {pos : Pos} (h : es.all notStar = true) (hk : (backToKw pos (keywordEach kws env)).all (·.1.isSome) = true) (hl : es.length + kws.length < 20) :
    methodCallForm (es.length + kws.length) (backTo pos (starEach es env)) (backToKw pos (keywordEach kws env)) = true := by
  unfold methodCallForm
  rw [plain_all h, hk]
  show decide (_ < 30) = true
  refine decide_eq_true ?_
  split <;> omega
abbrev R3 (G : SX) (X : Cx) (e : Expr) (m : E) : Prop := PE X e (tEv G X.K m) ∧ PT X e (tTv G X.K m) ∧ ∀ op vs p, e = .BoolOp op vs p → PW X e (tTv G X.K m)
theorem plain3 {e : Expr} {m : E} (he : PE X e (tEv G X.K m)) (h : tyB e = true) : R3 G X e m := ⟨he, sT_val he (true_ok h), fun op vs p z => by
  subst z
  exact (Bool.false_ne_true h).elim⟩
theorem PE.not {e : Expr} {t : TE} (h : ∀ σ H Q, ¬ t σ H Q) : PE X e t := ⟨fun _ _ _ _ _ _ q => (h _ _ _ q).elim⟩
theorem cal_no {g : Li.G} (h : ∀ sp n dfl, g ≠ .fn sp n dfl) (h2 : ∀ C fz sp n dfl, g ≠ .cls C fz sp n dfl) : ¬ isCal g := by
  cases g with
  | fn sp n dfl => exact absurd rfl (h sp n dfl)
  | cls C fz sp n dfl => exact absurd rfl (h2 C fz sp n dfl)
  | _ => exact fun z => z
theorem bln (so : SOk T G lvl X sc) {x : Str} {y : Str} (h : (x == y) = true) (hy : bnames.contains y = true) : X.mg x = none := by
  rw [eqS h]
  exact so.bl y hy
theorem pe_one {op : BoolOp} {y : Expr} {p : Pos} {t : TE} (h : PE X y t) : PE X (.BoolOp op [y] p) t := ⟨h.run⟩
theorem ownOf_ok {N : List Str} : ∀ {own : List Nat} {l : List (Str × Nat)}, ownOf N own = some l → (∀ p ∈ l, N[p.2]? = some p.1) ∧ l.map (·.2) = own
  | [], l, h => by
    cases h
    exact ⟨fun p hp => (nomatch hp), rfl⟩
  | i :: r, l, h => by
    unfold ownOf at h
    split at h
    · rename_i x l' h1 h2
      cases h
      obtain ⟨q1, q2⟩ := ownOf_ok h2
      refine ⟨fun p hp => ?_, by rw [List.map_cons, q2]⟩
      rcases List.mem_cons.mp hp with e | e
      · rw [e]
        exact h1
      · exact q1 p e
    · cases h
theorem blkB_ok {N : List Str} {scope : Scope} {own : List (Str × Nat)} (hi : ∀ p ∈ own, N[p.2]? = some p.1) (h : blkB N sc scope own = true) : BlkOk N sc scope own := by
  obtain ⟨h, h4⟩ := and2 h
  obtain ⟨h, h3⟩ := and2 h
  obtain ⟨h1, h2⟩ := and2 h
  refine ⟨eqS h1, fun y hy => ?_, hi, fun y hy e => ?_, fun y hy e => ?_⟩
  · exact eqS (List.all_eq_true.mp h2 y hy)
  · have q := List.all_eq_true.mp h3 y hy
    rw [e] at q
    rcases (Bool.or_eq_true _ _).mp q with q | q
    · exact (Bool.false_ne_true q).elim
    · rcases (Bool.or_eq_true _ _).mp q with q | q
      · exact .inl (eqS q)
      · exact .inr (eqS q)
  · have q := List.all_eq_true.mp h4 y hy
    rcases (Bool.or_eq_true _ _).mp q with q | q
    · exfalso
      rcases e with e | e
      · rw [e] at q
        exact (Bool.false_ne_true q)
      · rw [e] at q
        exact (Bool.false_ne_true q)
    · rcases (Bool.or_eq_true _ _).mp q with q | q
      · exact .inl (by simpa using q)
      · exact .inr (by simpa using q)
theorem SOk.blk (so : SOk T G lvl X sc) {pn : List (Addr × Obj)} {σb : L2.St} {own : List Nat} (ho : own.all (fun i => !(T.cap.contains i)) = true) {s : Shared} {H : Hp} (I : L2.Inv X pn σb H s) (hag : G.ag σb) (scope : Scope) (cl : List (Str × Addr)) (C : Addr) (fp : List Addr) (nc : LiC.NoCell s fp) : SOk T (G.blk σb own) lvl (LiC.blkAt X s H scope C cl fp) (relS scope sc) where
  ok := okx_blk so.ok σb own s H scope _ fp
  sc := by
    rw [← so.sc]
    rfl
  N := so.N
  bl := so.bl
  lok := fun j F hF => lok_blk (so.lok j F hF) (fun i hi z => by
    have q := List.all_eq_true.mp ho i z
    rw [so.lcap j i hi] at q
    exact Bool.false_ne_true q) I hag scope C cl fp nc
  lcap := so.lcap
theorem PE.ofK {e : Expr} {t t' : TE} (h : PE X e t) (q : t = t') : PE X e t' := q ▸ h
theorem ckT1_ok {lk : Str → Bool} {i : Nat} {e : Expr} (hN : X.N = T.N) (nd : X.N.Nodup) (hl : ∀ x, lk x = true → Loc X.env.scope x ∧ (X.fn x = true ∨ X.env.scope.names.lookup x = some .local)) (h : ckT1 T lk i e = true) : PG X e (gName i) := by
  cases e with
  | Name x p =>
    obtain ⟨h1, h2⟩ := and2 (show (T.N[i]? == some x && lk x) = true from h)
    obtain ⟨q1, q2⟩ := hl x h2
    exact pg_name nd (by rw [hN]; exact eqS h1) q1 q2
  | _ => exact (Bool.false_ne_true h).elim
theorem each_one {e : Expr} {es : List Expr} {env : PySem.Env} {T : Tb} {lk : Str → Bool} {i : Nat} (h : ckT1 T lk i e = true) : assignEach (e :: es) env = (false, assign e env) :: assignEach es env := by
  cases e with
  | Name x p => rfl
  | _ => exact (Bool.false_ne_true h).elim
theorem ckTs_each {lk : Str → Bool} {env : PySem.Env} : ∀ {is : List Nat} {es : List Expr}, ckTs T lk is es = true → (assignEach es env).length = is.length ∧ (assignEach es env).findIdx? (·.1) = none
  | [], [], _ => ⟨rfl, rfl⟩
  | [], _ :: _, h => (Bool.false_ne_true h).elim
  | _ :: _, [], h => (Bool.false_ne_true h).elim
  | i :: is, e :: es, h => by
    obtain ⟨h1, h2⟩ := and2 (show (ckT1 T lk i e && ckTs T lk is es) = true from h)
    obtain ⟨q1, q2⟩ := ckTs_each (env := env) h2
    rw [each_one h1]
    exact ⟨by rw [List.length_cons, List.length_cons, q1], by simpa [List.findIdx?_cons] using q2⟩
theorem ckTs_ok {lk : Str → Bool} (hN : X.N = T.N) (nd : X.N.Nodup) (hl : ∀ x, lk x = true → Loc X.env.scope x ∧ (X.fn x = true ∨ X.env.scope.names.lookup x = some .local)) : ∀ {is : List Nat} {es : List Expr}, ckTs T lk is es = true → PGs X es (gsOf is)
  | [], [], _ => pgs_nil
  | [], _ :: _, h => (Bool.false_ne_true h).elim
  | _ :: _, [], h => (Bool.false_ne_true h).elim
  | i :: is, e :: es, h => by
    obtain ⟨h1, h2⟩ := and2 (show (ckT1 T lk i e && ckTs T lk is es) = true from h)
    exact pgs_cons (ckT1_ok hN nd hl h1) (ckTs_ok hN nd hl h2) (by rw [each_one h1]; rfl)
theorem ckTg_ok {lk : Str → Bool} {t : Tg} {e : Expr} (hc : X.calm = true) (hN : X.N = T.N) (nd : X.N.Nodup) (hl : ∀ x, lk x = true → Loc X.env.scope x ∧ (X.fn x = true ∨ X.env.scope.names.lookup x = some .local)) (h : ckTg T lk t e = true) : PG X e (gOf X.K t) := by
  cases t with
  | one i => exact ckT1_ok hN nd hl h
  | many is =>
    cases e with
    | Tuple es k p =>
      have h : ckTs T lk is es = true := h
      obtain ⟨q1, q2⟩ := ckTs_each (env := X.env) h
      exact pg_tup hc (ckTs_ok hN nd hl h) q1 q2
    | _ => exact (Bool.false_ne_true h).elim
end
end Li
set_option Elab.async false
set_option linter.all false
set_option maxRecDepth 100000
set_option maxHeartbeats 4000000
/-! LiSndE: what LiChk checks of an expression holds. -/
namespace Li
open PySem L2
section
variable {T : Tb}
theorem pt_ifE {X : Cx} {G : SX} {c a b : Expr} {mc ma mb : E} {pos : Pos} (hc : PT X c (tTv G X.K mc)) (ha : PT X a (tTv G X.K ma)) (hb : PT X b (tTv G X.K mb)) : PT X (.IfExp c a b pos) (tTv G X.K (.ife mc ma mb)) := by
  refine ⟨fun pins s σ' H Q I ⟨σ, S, hid, w, h⟩ => ?_⟩
  rw [arm_isTrue_IfExp]
  have h1 := (tT (a := mc) (R := fun k S1 => brV (some k) (evE G.c ma σ S1 (tst (PoB X.K hid S H Q))) (evE G.c mb σ S1 (tst (PoB X.K hid S H Q)))) w (evE_mono mc (fun v S1 z => by
      rcases brV_inv z with ⟨eb, z⟩ | ⟨eb, z⟩
      · unfold tst
        rw [eb]
        exact z
      · unfold tst
        rw [eb]
        exact z) h))
  refine wpAny_bind (thn (hc.run pins s σ' H _ I h1) fun k s1 ⟨H1, I1, S1, e, w1, z⟩ => ?_)
  cases k with
  | true => exact ha.run pins s1 σ' H1 Q I1 ⟨σ, S1, hid, w1, evE_mono ma (fun v S' z => tst_mono (fun b S'' z => z.after e) z) z⟩
  | false => exact hb.run pins s1 σ' H1 Q I1 ⟨σ, S1, hid, w1, evE_mono mb (fun v S' z => tst_mono (fun b S'' z => z.after e) z) z⟩
mutual
theorem okE : ∀ (m : E) {G : SX} {lvl : Nat} {X : Cx} {sc : Scope} {e : Expr}, SOk T G lvl X sc → ckE T m sc e = true → R3 G X e m
  | .var i, G, lvl, X, sc, e, so, h => by
    cases e with
    | Name x p =>
      obtain ⟨h, h3⟩ := and2 (show (T.N[i]? == some x && visB sc x && nameB x) = true from h)
      obtain ⟨h1, h2⟩ := and2 h
      obtain ⟨n1, n2⟩ := nameB_ok h3
      exact plain3 (sE_var (so.ix h1) (so.vis h2) n1 n2) rfl
    | _ => exact (Bool.false_ne_true h).elim
  | .lit v, G, lvl, X, sc, e, so, h => by
    cases e with
    | Constant c k p =>
      have h : litB v c = true := h
      unfold litB at h
      split at h
      · cases eqS h
        exact plain3 sE_int rfl
      · cases eqS h
        exact plain3 sE_str rfl
      · cases eqS h
        exact plain3 sE_bl rfl
      · exact plain3 sE_non rfl
      · cases h
    | _ => exact (Bool.false_ne_true h).elim
  | .glob g, G, lvl, X, sc, e, so, h => by
    cases e with
    | Name x p =>
      obtain ⟨h, h3⟩ := and2 (show (x == T.nm g && glB sc x && nameB x) = true from h)
      obtain ⟨h1, h2⟩ := and2 h
      obtain ⟨n1, n2⟩ := nameB_ok h3
      cases eqS h1
      exact plain3 (sE_glob so.ok (so.gl h2) n1) rfl
    | _ => exact (Bool.false_ne_true h).elim
  | .bin o a b, G, lvl, X, sc, e, so, h => by
    cases e with
    | BinOp x p y pos =>
      obtain ⟨h, h3⟩ := and2 (show (o == p && ckE T a sc x && ckE T b sc y) = true from h)
      obtain ⟨h1, h2⟩ := and2 h
      cases eqS h1
      exact plain3 (sE_bin (okE a so h2).1 (okE b so h3).1) rfl
    | _ => exact (Bool.false_ne_true h).elim
  | .neg a, G, lvl, X, sc, e, so, h => by
    unfold ckE at h
    split at h
    · exact ⟨sE_neg (okE a so h).1, sT_val (sE_neg (okE a so h).1) (fun _ => rfl), fun op vs p z => by cases z⟩
    · cases h
  | .cmp o a b, G, lvl, X, sc, e, so, h => by
    unfold ckE at h
    split at h
    · obtain ⟨h, h4⟩ := and2 h
      obtain ⟨h, h3⟩ := and2 h
      obtain ⟨h1, h2⟩ := and2 h
      cases eqS h1
      exact ⟨sE_cmp so.ok (okE a so h2).1 (okE b so h3).1 (set_mark h4), sT_cmp so.ok (okE a so h2).1 (okE b so h3).1 (set_mark h4), fun op vs p z => by cases z⟩
    · cases h
  | .chain o o2 a b c, G, lvl, X, sc, e, so, h => by
    unfold ckE at h
    split at h
    · obtain ⟨h, h6⟩ := and2 h
      obtain ⟨h, h5⟩ := and2 h
      obtain ⟨h, h4⟩ := and2 h
      obtain ⟨h, h3⟩ := and2 h
      obtain ⟨h1, h2⟩ := and2 h
      cases eqS h1
      cases eqS h2
      have hm : ∀ (o o2 : CmpOp) (y z : Expr), notSet z = true → lastMarks [o, o2] [y, z] = false := fun o o2 y z q => set_mark q
      exact ⟨sE_chain so.ok (okE a so h3).1 (okE b so h4).1 (okE c so h5).1 (hm _ _ _ _ h6), sT_chain so.ok (okE a so h3).1 (okE b so h4).1 (okE c so h5).1 (hm _ _ _ _ h6), fun op vs p z => by cases z⟩
    · cases h
  | .land a b, G, lvl, X, sc, e, so, h => by
    unfold ckE at h
    split at h
    · rename_i x y p
      obtain ⟨h1, h2⟩ := and2 h
      have w := sT_and (G := G) (pos := p) (okE a so h1).2.1 (pw_and1 (okE b so h2).2.1)
      exact ⟨sE_and (okE a so h1).1 (pe_one (okE b so h2).1), (w).pt, fun op vs p z => by cases z; exact w⟩
    · obtain ⟨h1, h2⟩ := and2 h
      have w := sT_and (G := G) (okE a so h1).2.1 ((okE b so h2).2.2 _ _ _ rfl)
      exact ⟨sE_and (okE a so h1).1 (okE b so h2).1, w.pt, fun op vs p z => by cases z; exact w⟩
    · cases h
  | .lor a b, G, lvl, X, sc, e, so, h => by
    unfold ckE at h
    split at h
    · rename_i x y p
      obtain ⟨h1, h2⟩ := and2 h
      have w := sT_or (G := G) (pos := p) (okE a so h1).2.1 (pw_or1 (okE b so h2).2.1)
      exact ⟨sE_or (okE a so h1).1 (pe_one (okE b so h2).1), (w).pt, fun op vs p z => by cases z; exact w⟩
    · obtain ⟨h1, h2⟩ := and2 h
      have w := sT_or (G := G) (okE a so h1).2.1 ((okE b so h2).2.2 _ _ _ rfl)
      exact ⟨sE_or (okE a so h1).1 (okE b so h2).1, w.pt, fun op vs p z => by cases z; exact w⟩
    · cases h
  | .lnot a, G, lvl, X, sc, e, so, h => by
    unfold ckE at h
    split at h
    · exact ⟨sE_not (okE a so h).1, sT_not (okE a so h).2.1, fun op vs p z => by cases z⟩
    · cases h
  | .ife c a b, G, lvl, X, sc, e, so, h => by
    unfold ckE at h
    split at h
    · obtain ⟨h, h3⟩ := and2 h
      obtain ⟨h1, h2⟩ := and2 h
      exact ⟨sE_ife (okE c so h1).2.1 (okE a so h2).1 (okE b so h3).1, pt_ifE (okE c so h1).2.1 (okE a so h2).2.1 (okE b so h3).2.1, fun op vs p z => by cases z⟩
    · cases h
  | .tup es, G, lvl, X, sc, e, so, h => by
    unfold ckE at h
    split at h
    · exact plain3 (sE_tup (okEs es so h)) rfl
    · cases h
  | .lst es, G, lvl, X, sc, e, so, h => by
    unfold ckE at h
    split at h
    · exact plain3 (sE_lst (okEs es so h)) rfl
    · cases h
  | .idx a i, G, lvl, X, sc, e, so, h => by
    unfold ckE at h
    split at h
    · obtain ⟨h, h3⟩ := and2 h
      obtain ⟨h1, h2⟩ := and2 h
      exact plain3 (sE_idx (okE a so h1).1 (okE i so h2).1 (slice_ok h3)) rfl
    · cases h
  | .slc a lo hi, G, lvl, X, sc, e, so, h => by
    unfold ckE at h
    split at h
    · obtain ⟨h, h3⟩ := and2 h
      obtain ⟨h1, h2⟩ := and2 h
      exact plain3 (sE_slc (okE a so h1).1 (okO lo so h2) (okO hi so h3)) rfl
    · cases h
  | .call g es dn, G, lvl, X, sc, e, so, h => by
    unfold ckE at h
    split at h
    · rename_i x p xs pos
      obtain ⟨h, h4⟩ := and2 h
      obtain ⟨h, h3⟩ := and2 h
      obtain ⟨h1, h2⟩ := and2 h
      obtain ⟨n1, n2⟩ := nameB_ok h3
      cases eqS h1
      refine plain3 ?_ rfl
      have ha := okEs es so h4
      have hst := ckEs_star h4
      cases hD : G.c.D g with
      | fn sp n dfl =>
        cases xs with
        | nil =>
          cases es with
          | nil => exact sE_call0 so.ok hD (so.gl h2) n1
          | cons m r => exact (Bool.false_ne_true h4).elim
        | cons x xs =>
          obtain ⟨s1, s2⟩ := and2 (show (notStar x && xs.all notStar) = true from hst)
          exact sE_call so.ok hD (so.gl h2) n1 ha (star_ok s1) (plain_any s2)
      | cls C fz sp n dfl =>
        cases xs with
        | nil =>
          cases es with
          | nil => exact sE_make0 so.ok hD (so.gl h2) n1
          | cons m r => exact (Bool.false_ne_true h4).elim
        | cons x xs =>
          obtain ⟨s1, s2⟩ := and2 (show (notStar x && xs.all notStar) = true from hst)
          exact sE_make so.ok hD (so.gl h2) n1 ha (star_ok s1) (plain_any s2)
      | _ =>
        refine PE.not fun σ' H Q ⟨σ, S, hid, w, z⟩ => ?_
        have z1 : isCal (G.c.D g) := z.1
        rw [hD] at z1
        exact z1
    · cases h
  | .calln j i es, G, lvl, X, sc, e, so, h => by
    unfold ckE at h
    split at h
    · rename_i x p a r pos
      obtain ⟨h, h4⟩ := and2 h
      obtain ⟨h, h3⟩ := and2 h
      obtain ⟨h1, h2⟩ := and2 h
      obtain ⟨n1, n2⟩ := nameB_ok h3
      obtain ⟨s1, s2⟩ := and2 (show (notStar a && r.all notStar) = true from ckEs_star h4)
      exact plain3 (sE_calln so.ok (so.lok j) (so.ix h1) (so.vis h2) n1 n2 (okEs es so h4) (star_ok s1) (plain_any s2)) rfl
    · cases h
  | .callk g es ks kes, G, lvl, X, sc, e, so, h => by
    unfold ckE at h
    split at h
    · rename_i x p xs kws pos
      obtain ⟨h, h5⟩ := and2 h
      obtain ⟨h, h4⟩ := and2 h
      obtain ⟨h, h3⟩ := and2 h
      obtain ⟨h1, h2⟩ := and2 h
      obtain ⟨n1, n2⟩ := nameB_ok h3
      cases eqS h1
      refine plain3 ?_ rfl
      have ha := okEs es so h4
      have hst := ckEs_star h4
      obtain ⟨k1, k2, k3, k4⟩ := okKs kes so h5
      have no : ¬ isCalk (G.c.D g) ks (esLen es) → PE X (.Call (.Name (T.nm g) p) xs kws pos) (tEv G X.K (.callk g es ks kes)) := fun hq => PE.not fun σ' H Q ⟨σ, S, hid, w, z⟩ => hq z.1
      cases hD : G.c.D g with
      | fnk sp n np ks' arr =>
        by_cases hq : ks = ks'
        · subst hq
          cases xs with
          | nil =>
            cases es with
            | nil => exact sE_callk0 so.ok hD (so.gl h2) n1 k1 (k2 pos) (k3 pos) (k4 pos)
            | cons m r => exact (Bool.false_ne_true h4).elim
          | cons a r =>
            obtain ⟨s1, s2⟩ := and2 (show (notStar a && r.all notStar) = true from hst)
            exact sE_callk so.ok hD (so.gl h2) n1 ha k1 (k2 pos) (k3 pos) (star_ok s1) (by rw [plain_any hst, k4 pos]; rfl)
        · exact no fun z => by
            rw [hD] at z
            exact hq z.1
      | clk C fz sp n np ks' arr =>
        by_cases hq : ks = ks'
        · subst hq
          cases xs with
          | nil =>
            cases es with
            | nil => exact sE_clk0 so.ok hD (so.gl h2) n1 k1 (k2 pos) (k3 pos) (k4 pos)
            | cons m r => exact (Bool.false_ne_true h4).elim
          | cons a r =>
            obtain ⟨s1, s2⟩ := and2 (show (notStar a && r.all notStar) = true from hst)
            exact sE_clk so.ok hD (so.gl h2) n1 ha k1 (k2 pos) (k3 pos) (star_ok s1) (by rw [plain_any hst, k4 pos]; rfl)
        · exact no fun z => by
            rw [hD] at z
            exact hq z.1
      | _ =>
        exact no fun z => by
          rw [hD] at z
          exact z
    · cases h
  | .bf f es, G, lvl, X, sc, e, so, h => by
    unfold ckE at h
    split at h
    · rename_i t m
      split at h
      · rename_i x p a y p2 pos
        obtain ⟨h, h7⟩ := and2 h
        obtain ⟨h, h6⟩ := and2 h
        obtain ⟨h, h5⟩ := and2 h
        obtain ⟨h, h4⟩ := and2 h
        obtain ⟨h, h3⟩ := and2 h
        obtain ⟨h1, h2⟩ := and2 h
        obtain ⟨n1, n2⟩ := nameB_ok h4
        cases eqS h1
        refine plain3 ?_ rfl
        have hm := so.bl ("isinstance" : Str) (by decide)
        have ty : ∀ (t : Ty) (T0 : String) (nmT : Str), tyN t = some T0 → tyName t = some nmT → y = nmT → bnames.contains nmT = true → bootBuiltins nmT = some (.type T0) → nmT ≠ "__name__" → PE X (.Call (.Name ("isinstance" : Str) p) [a, .Name y p2] [] pos) (tEv G X.K (.bf (.isi t) (.cons m .nil))) :=
          fun t T0 nmT e1 e2 e3 e4 e5 e6 => by
            subst e3
            exact sE_isiT e1 (so.gl h2) hm (so.gl h3) (so.bl _ e4) e5 (okE m so h6).1 e6 n1 (star_ok h5)
        cases t with
        | cls g =>
          cases eqS (show (y == T.nm g) = true from h7)
          exact sE_isiC so.ok (so.gl h2) hm (so.gl h3) (okE m so h6).1 n1 (star_ok h5)
        | int => exact ty .int "int" ("int" : Str) rfl rfl (Option.some.inj (eqS h7)).symm (by decide) (by decide +kernel) (by decide)
        | bool => exact ty .bool "bool" ("bool" : Str) rfl rfl (Option.some.inj (eqS h7)).symm (by decide) (by decide +kernel) (by decide)
        | str => exact ty .str "str" ("str" : Str) rfl rfl (Option.some.inj (eqS h7)).symm (by decide) (by decide +kernel) (by decide)
        | tup => exact ty .tup "tuple" ("tuple" : Str) rfl rfl (Option.some.inj (eqS h7)).symm (by decide) (by decide +kernel) (by decide)
        | lst => exact ty .lst "list" ("list" : Str) rfl rfl (Option.some.inj (eqS h7)).symm (by decide) (by decide +kernel) (by decide)
      · cases h
    · split at h
      · rename_i hne x p a r pos
        obtain ⟨h, h4⟩ := and2 h
        obtain ⟨h, h3⟩ := and2 h
        obtain ⟨h1, h2⟩ := and2 h
        refine plain3 ?_ rfl
        have ha := okEs es so h4
        obtain ⟨s1, s2⟩ := and2 (show (notStar a && r.all notStar) = true from ckEs_star h4)
        have bb : ∀ (f : Bf) (id : String) (nmF : Str), (∀ t, f ≠ .isi t) → bfCall f = .builtin id → x = nmF → bnames.contains nmF = true → bootBuiltins nmF = some (.builtin id) → nmF ≠ "__name__" → (nmF == ("__debug__" : Str)) = false → PE X (.Call (.Name x p) (a :: r) [] pos) (tEv G X.K (.bf f es)) :=
          fun f id nmF e0 e1 e3 e4 e5 e6 e7 => by
            subst e3
            exact sE_bf so.ok e0 e1 (so.gl h2) (so.bl _ e4) e5 ha e6 e7 (star_ok s1) (plain_any s2)
        have bt : ∀ (f : Bf) (id : String) (nmF : Str), (∀ t, f ≠ .isi t) → bfCall f = .type id → x = nmF → bnames.contains nmF = true → bootBuiltins nmF = some (.type id) → nmF ≠ "__name__" → (nmF == ("__debug__" : Str)) = false → PE X (.Call (.Name x p) (a :: r) [] pos) (tEv G X.K (.bf f es)) :=
          fun f id nmF e0 e1 e3 e4 e5 e6 e7 => by
            subst e3
            exact sE_bfT so.ok e0 e1 (so.gl h2) (so.bl _ e4) e5 ha e6 e7 (star_ok s1) (plain_any s2)
        cases f with
        | isi t => exact (Bool.false_ne_true h3).elim
        | len => exact bb .len "len" ("len" : Str) (fun _ z => nomatch z) rfl (eqS h1) (by decide) (by decide +kernel) (by decide) (by decide)
        | abs => exact bb .abs "abs" ("abs" : Str) (fun _ z => nomatch z) rfl (eqS h1) (by decide) (by decide +kernel) (by decide) (by decide)
        | repr => exact bb .repr "repr" ("repr" : Str) (fun _ z => nomatch z) rfl (eqS h1) (by decide) (by decide +kernel) (by decide) (by decide)
        | sum => exact bb .sum "sum" ("sum" : Str) (fun _ z => nomatch z) rfl (eqS h1) (by decide) (by decide +kernel) (by decide) (by decide)
        | min => exact bb .min "min" ("min" : Str) (fun _ z => nomatch z) rfl (eqS h1) (by decide) (by decide +kernel) (by decide) (by decide)
        | max => exact bb .max "max" ("max" : Str) (fun _ z => nomatch z) rfl (eqS h1) (by decide) (by decide +kernel) (by decide) (by decide)
        | all => exact bb .all "all" ("all" : Str) (fun _ z => nomatch z) rfl (eqS h1) (by decide) (by decide +kernel) (by decide) (by decide)
        | any => exact bb .any "any" ("any" : Str) (fun _ z => nomatch z) rfl (eqS h1) (by decide) (by decide +kernel) (by decide) (by decide)
        | sorted => exact bb .sorted "sorted" ("sorted" : Str) (fun _ z => nomatch z) rfl (eqS h1) (by decide) (by decide +kernel) (by decide) (by decide)
        | int => exact bt .int "int" ("int" : Str) (fun _ z => nomatch z) rfl (eqS h1) (by decide) (by decide +kernel) (by decide) (by decide)
        | str => exact bt .str "str" ("str" : Str) (fun _ z => nomatch z) rfl (eqS h1) (by decide) (by decide +kernel) (by decide) (by decide)
        | tuple => exact bt .tuple "tuple" ("tuple" : Str) (fun _ z => nomatch z) rfl (eqS h1) (by decide) (by decide +kernel) (by decide) (by decide)
        | list => exact bt .list "list" ("list" : Str) (fun _ z => nomatch z) rfl (eqS h1) (by decide) (by decide +kernel) (by decide) (by decide)
      · cases h
  | .bm m o es, G, lvl, X, sc, e, so, h => by
    unfold ckE at h
    split at h
    · rename_i x f p a r p2
      obtain ⟨h, h6⟩ := and2 h
      obtain ⟨h, h5⟩ := and2 h
      obtain ⟨h, h4⟩ := and2 h
      obtain ⟨h, h3⟩ := and2 h
      obtain ⟨h1, h2⟩ := and2 h
      cases eqS h1
      have st := ckEs_star h6
      obtain ⟨s1, s2⟩ := and2 (show (notStar a && r.all notStar) = true from st)
      exact plain3 (sE_append (okE o so h5).1 (okEs es so h6) (by
        rw [plain_all st]
        have h3 := of_decide_eq_true h3
        show decide ((a :: r).length + 0 + 0 < 30) = true
        exact decide_eq_true (by omega)) h2 (star_ok s1) (plain_any s2) (base_ok h4)) rfl
    · rename_i x f p a r p2
      obtain ⟨h, h6⟩ := and2 h
      obtain ⟨h, h5⟩ := and2 h
      obtain ⟨h, h4⟩ := and2 h
      obtain ⟨h, h3⟩ := and2 h
      obtain ⟨h1, h2⟩ := and2 h
      cases eqS h1
      have st := ckEs_star h6
      obtain ⟨s1, s2⟩ := and2 (show (notStar a && r.all notStar) = true from st)
      exact plain3 (sE_popAt (okE o so h5).1 (okEs es so h6) (by
        rw [plain_all st]
        have h3 := of_decide_eq_true h3
        show decide ((a :: r).length + 0 + 0 < 30) = true
        exact decide_eq_true (by omega)) h2 (star_ok s1) (plain_any s2) (base_ok h4)) rfl
    · rename_i x f p a r p2
      obtain ⟨h, h6⟩ := and2 h
      obtain ⟨h, h5⟩ := and2 h
      obtain ⟨h, h4⟩ := and2 h
      obtain ⟨h, h3⟩ := and2 h
      obtain ⟨h1, h2⟩ := and2 h
      cases eqS h1
      have st := ckEs_star h6
      obtain ⟨s1, s2⟩ := and2 (show (notStar a && r.all notStar) = true from st)
      exact plain3 (sE_insert (okE o so h5).1 (okEs es so h6) (by
        rw [plain_all st]
        have h3 := of_decide_eq_true h3
        show decide ((a :: r).length + 0 + 0 < 30) = true
        exact decide_eq_true (by omega)) h2 (star_ok s1) (plain_any s2) (base_ok h4)) rfl
    · rename_i x f p a r p2
      obtain ⟨h, h6⟩ := and2 h
      obtain ⟨h, h5⟩ := and2 h
      obtain ⟨h, h4⟩ := and2 h
      obtain ⟨h, h3⟩ := and2 h
      obtain ⟨h1, h2⟩ := and2 h
      cases eqS h1
      have st := ckEs_star h6
      obtain ⟨s1, s2⟩ := and2 (show (notStar a && r.all notStar) = true from st)
      exact plain3 (sE_extend (okE o so h5).1 (okEs es so h6) (by
        rw [plain_all st]
        have h3 := of_decide_eq_true h3
        show decide ((a :: r).length + 0 + 0 < 30) = true
        exact decide_eq_true (by omega)) h2 (star_ok s1) (plain_any s2) (base_ok h4)) rfl
    · rename_i x f p p2
      obtain ⟨h, h6⟩ := and2 h
      obtain ⟨h, h5⟩ := and2 h
      obtain ⟨h, h4⟩ := and2 h
      obtain ⟨h1, h2⟩ := and2 h
      cases eqS h1
      cases es with
      | nil => exact plain3 (sE_pop0 (okE o so h5).1 h2 (base_ok h4)) rfl
      | cons m r => exact (Bool.false_ne_true h6).elim
    · rename_i x f p a b p2
      obtain ⟨h, h7⟩ := and2 h
      obtain ⟨h, h6⟩ := and2 h
      obtain ⟨h, h5⟩ := and2 h
      obtain ⟨h, h4⟩ := and2 h
      obtain ⟨h, h3⟩ := and2 h
      obtain ⟨h1, h2⟩ := and2 h
      cases eqS h1
      split at h7
      · rename_i ma mb
        obtain ⟨h8, h9⟩ := and2 h7
        have st : starEach [a, b] X.env = [(false, eval a X.env), (false, eval b X.env)] := by rw [star_ok h4, star_ok h5]; rfl
        exact plain3 (sE_get so.ok (okE o so h6).1 (okE ma so h8).1 (okE mb so h9).1 ⟨base_ok h3, by rw [st]; rfl, h2, by rw [st]; rfl⟩) rfl
      · cases h7
    · cases h
  | .attr o f, G, lvl, X, sc, e, so, h => by
    unfold ckE at h
    split at h
    · obtain ⟨h, h3⟩ := and2 h
      obtain ⟨h1, h2⟩ := and2 h
      cases eqS h1
      exact plain3 (sE_attr so.ok (okE o so h3).1 (base_ok h2)) rfl
    · cases h
  | .comp elt t it ifs own, G, lvl, X, sc, e, so, h => by
    unfold ckE at h
    split at h
    · rename_i el tg iter fs k scope pos
      obtain ⟨h, h8⟩ := and2 h
      obtain ⟨h, h7⟩ := and2 h
      obtain ⟨h, h6⟩ := and2 h
      obtain ⟨h, h5⟩ := and2 h
      obtain ⟨h, h4⟩ := and2 h
      obtain ⟨h, h3⟩ := and2 h
      obtain ⟨h, h2⟩ := and2 h
      obtain ⟨h1, h0⟩ := and2 h
      cases eqS h1
      split at h5
      · rename_i ow hw
        obtain ⟨q1, q2⟩ := ownOf_ok hw
        subst q2
        have ht : ∀ i, i ∈ tgs t → i ∈ ow.map (·.2) := fun i hi => by
          have := List.all_eq_true.mp h3 i hi
          simpa using this
        have hb : BlkOk X.N X.env.scope scope ow := by
          rw [so.N, so.sc]
          exact blkB_ok q1 h5
        refine plain3 (sE_comp so.ok (okIt it so h4) hb ht ⟨fun pn σb u G0 I hag C cl fp nc => ckTg_ok so.ok.calm so.N so.ok.nd (fun x hx => ?_) h6, fun pn σb u G0 I hag C cl fp nc => okFs ifs (so.blk h0 I hag scope cl C fp nc) h7, fun pn σb u G0 I hag C cl fp nc => (okE elt (so.blk h0 I hag scope cl C fp nc) h8).1⟩ (set_iter h2)) rfl
        obtain ⟨l1, l2⟩ := and2 hx
        rw [(so.blk h0 I hag scope cl C fp nc).sc]
        exact ⟨locB_ok l1, ((Bool.or_eq_true _ _).mp l2).imp id fun z => eqS z⟩
      · cases h5
    · cases h
  | .srtLen m, G, lvl, X, sc, e, so, h => by
    unfold ckE at h
    split at h
    · obtain ⟨h, h7⟩ := and2 h
      obtain ⟨h, h6⟩ := and2 h
      obtain ⟨h, h5⟩ := and2 h
      obtain ⟨h, h4⟩ := and2 h
      obtain ⟨h, h3⟩ := and2 h
      obtain ⟨h1, h2⟩ := and2 h
      cases eqS h1
      cases eqS h2
      cases eqS h3
      exact plain3 (sE_srtLen so.ok (so.gl h4) (so.bl _ (by decide)) (so.gl h5) (so.bl _ (by decide)) (okE m so h7).1 (by rw [star_ok h6]; rfl)) rfl
    · cases h
  | .dzip a b, G, lvl, X, sc, e, so, h => by
    unfold ckE at h
    split at h
    · obtain ⟨h, h9⟩ := and2 h
      obtain ⟨h, h8⟩ := and2 h
      obtain ⟨h, h7⟩ := and2 h
      obtain ⟨h, h6⟩ := and2 h
      obtain ⟨h, h5⟩ := and2 h
      obtain ⟨h, h4⟩ := and2 h
      obtain ⟨h, h3⟩ := and2 h
      obtain ⟨h1, h2⟩ := and2 h
      cases eqS h1
      cases eqS h2
      cases eqS h3
      refine plain3 (sE_dzip so.ok (so.gl h5) (so.bl _ (by decide)) (so.gl h4) (so.bl _ (by decide)) (okE a so h8).1 (okE b so h9).1 (star_ok h6) (by rw [star_ok h7]; rfl) (plain_any ?_)) rfl
      show (notStar _ && (notStar _ && true)) = true
      rw [h6, h7]
      rfl
    · cases h
  | .dead, G, lvl, X, sc, e, so, h => ⟨PE.not fun σ' H Q ⟨σ, S, hid, w, z⟩ => z, ⟨fun _ _ _ _ _ _ ⟨σ, S, hid, w, z⟩ => z.elim⟩, fun op vs p z => ⟨fun _ _ _ _ _ _ _ ⟨σ, S, hid, w, z⟩ => z.elim⟩⟩
  | .callm o m es dn, G, lvl, X, sc, e, so, h => by
    unfold ckE at h
    split at h
    · rename_i x f p xs p2
      obtain ⟨h, h6⟩ := and2 h
      obtain ⟨h, h5⟩ := and2 h
      obtain ⟨h, h4⟩ := and2 h
      obtain ⟨h, h3⟩ := and2 h
      obtain ⟨h1, h2⟩ := and2 h
      cases eqS h1
      refine plain3 ?_ rfl
      have st := ckEs_star h6
      cases xs with
      | nil =>
        cases es with
        | nil => exact sE_callm0 so.ok (okE o so h5).1 (base_ok h4) h2
        | cons m r => exact (Bool.false_ne_true h6).elim
      | cons a r =>
        obtain ⟨s1, s2⟩ := and2 (show (notStar a && r.all notStar) = true from st)
        have h3 := of_decide_eq_true h3
        exact sE_callm so.ok (okE o so h5).1 (okEs es so h6) (star_ok s1) (plain_any s2) (base_ok h4) (form_ok st rfl h3) h2
    · cases h
  | .callmk o m es ks kes, G, lvl, X, sc, e, so, h => by
    unfold ckE at h
    split at h
    · rename_i x f p xs kws p2
      obtain ⟨h, h7⟩ := and2 h
      obtain ⟨h, h6⟩ := and2 h
      obtain ⟨h, h5⟩ := and2 h
      obtain ⟨h, h4⟩ := and2 h
      obtain ⟨h, h3⟩ := and2 h
      obtain ⟨h1, h2⟩ := and2 h
      cases eqS h1
      refine plain3 ?_ rfl
      have st := ckEs_star h6
      obtain ⟨k1, k2, k3, k4⟩ := okKs kes so h7
      have h3 := of_decide_eq_true h3
      cases xs with
      | nil =>
        cases es with
        | nil => exact sE_callmk0 so.ok (okE o so h5).1 k1 (k2 p2) (k3 p2) (k4 p2) (base_ok h4) (form_ok st (k2 p2) h3) h2
        | cons m r => exact (Bool.false_ne_true h6).elim
      | cons a r =>
        obtain ⟨s1, s2⟩ := and2 (show (notStar a && r.all notStar) = true from st)
        exact sE_callmk so.ok (okE o so h5).1 (okEs es so h6) k1 (ckEs_len h6) (k2 p2) (k3 p2) (star_ok s1) (by rw [plain_any st, k4 p2]; rfl) (base_ok h4) (form_ok st (k2 p2) h3) h2
    · cases h
  | .dget a i, G, lvl, X, sc, e, so, h => by
    unfold ckE at h
    split at h
    · obtain ⟨h, h3⟩ := and2 h
      obtain ⟨h1, h2⟩ := and2 h
      exact plain3 (sE_dget so.ok (okE a so h1).1 (okE i so h2).1 (nosl_ok h3)) rfl
    · cases h
  | .lenm o, G, lvl, X, sc, e, so, h => by
    unfold ckE at h
    split at h
    · obtain ⟨h, h4⟩ := and2 h
      obtain ⟨h, h3⟩ := and2 h
      obtain ⟨h1, h2⟩ := and2 h
      cases eqS h1
      exact plain3 (sE_lenm so.ok (so.gl h2) (so.bl _ (by decide)) (okE o so h4).1 (by rw [star_ok h3]; rfl)) rfl
    · cases h
  | .din neg i a, G, lvl, X, sc, e, so, h => by
    unfold ckE at h
    split at h
    · obtain ⟨h, h3⟩ := and2 h
      obtain ⟨h1, h2⟩ := and2 h
      exact ⟨sE_din so.ok (okE i so h1).1 (okE a so h2).1 (set_mark h3), sT_din so.ok (okE i so h1).1 (okE a so h2).1 (set_mark h3), fun op vs p z => by cases z⟩
    · obtain ⟨h, h3⟩ := and2 h
      obtain ⟨h1, h2⟩ := and2 h
      exact ⟨sE_dnotin so.ok (okE i so h1).1 (okE a so h2).1 (set_mark h3), sT_dnotin so.ok (okE i so h1).1 (okE a so h2).1 (set_mark h3), fun op vs p z => by cases z⟩
    · cases h
theorem okEs : ∀ (m : Es) {G : SX} {lvl : Nat} {X : Cx} {sc : Scope} {xs : List Expr}, SOk T G lvl X sc → ckEs T m sc xs = true → PA X xs (tAv G X.K m)
  | .nil, G, lvl, X, sc, [], so, h => sA_nil
  | .nil, G, lvl, X, sc, _ :: _, so, h => (Bool.false_ne_true h).elim
  | .cons m r, G, lvl, X, sc, [], so, h => (Bool.false_ne_true h).elim
  | .cons m r, G, lvl, X, sc, x :: y, so, h => by
    obtain ⟨h, h3⟩ := and2 (show (notStar x && ckE T m sc x && ckEs T r sc y) = true from h)
    obtain ⟨h1, h2⟩ := and2 h
    exact sA_cons (okE m so h2).1 (okEs r so h3) (star_ok h1)
theorem okKs : ∀ (m : Es) {G : SX} {lvl : Nat} {X : Cx} {sc : Scope} {ks : List Str} {xs : List Keyword}, SOk T G lvl X sc → ckKs T m sc ks xs = true → PK X xs (tAv G X.K m) ∧ (∀ pos, (backToKw pos (keywordEach xs X.env)).all (·.1.isSome) = true) ∧
    (∀ pos, (backToKw pos (keywordEach xs X.env)).filterMap (·.1) = ks) ∧ ∀ pos, (backToKw pos (keywordEach xs X.env)).any (·.1.isNone) = false
  | .nil, G, lvl, X, sc, [], [], so, h => ⟨sK_nil, fun _ => rfl, fun _ => rfl, fun _ => rfl⟩
  | .nil, G, lvl, X, sc, _ :: _, _, so, h => (Bool.false_ne_true h).elim
  | .nil, G, lvl, X, sc, [], _ :: _, so, h => (Bool.false_ne_true h).elim
  | .cons m r, G, lvl, X, sc, [], _, so, h => (Bool.false_ne_true h).elim
  | .cons m r, G, lvl, X, sc, _ :: _, [], so, h => (Bool.false_ne_true h).elim
  | .cons m r, G, lvl, X, sc, k :: ks, ⟨none, x, kp⟩ :: xs, so, h => (Bool.false_ne_true h).elim
  | .cons m r, G, lvl, X, sc, k :: ks, ⟨some y, x, kp⟩ :: xs, so, h => by
    obtain ⟨h, h3⟩ := and2 (show (k == y && ckE T m sc x && ckKs T r sc ks xs) = true from h)
    obtain ⟨h1, h2⟩ := and2 h
    cases eqS h1
    obtain ⟨k1, k2, k3, k4⟩ := okKs r so h3
    refine ⟨sK_cons (okE m so h2).1 k1, fun pos => k2 pos, fun pos => ?_, fun pos => k4 pos⟩
    show k :: (backToKw pos (keywordEach xs X.env)).filterMap (·.1) = k :: ks
    rw [k3 pos]
theorem okO : ∀ (m : Eo) {G : SX} {lvl : Nat} {X : Cx} {sc : Scope} {o : Option Expr}, SOk T G lvl X sc → ckO T m sc o = true → PO X o (tOv G X.K m)
  | .no, G, lvl, X, sc, none, so, h => sO_none
  | .no, G, lvl, X, sc, some _, so, h => (Bool.false_ne_true h).elim
  | .so m, G, lvl, X, sc, some x, so, h => sO_some (okE m so h).1
  | .so m, G, lvl, X, sc, none, so, h => (Bool.false_ne_true h).elim
theorem okFs : ∀ (m : Eo) {G : SX} {lvl : Nat} {X : Cx} {sc : Scope} {xs : List Expr}, SOk T G lvl X sc → ckFs T m sc xs = true → PTs X xs (tBo G X.K m)
  | .no, G, lvl, X, sc, [], so, h => sB_none
  | .no, G, lvl, X, sc, _ :: _, so, h => (Bool.false_ne_true h).elim
  | .so m, G, lvl, X, sc, [x], so, h => sB_some (okE m so h).2.1
  | .so m, G, lvl, X, sc, [], so, h => (Bool.false_ne_true h).elim
  | .so m, G, lvl, X, sc, _ :: _ :: _, so, h => (Bool.false_ne_true h).elim
theorem okIt : ∀ (m : It) {G : SX} {lvl : Nat} {X : Cx} {sc : Scope} {tg x : Expr}, SOk T G lvl X sc → ckIt T m sc tg x = true → PI X tg x (iEv G X.K m)
  | .seq m, G, lvl, X, sc, tg, x, so, h => sI_seq (okE m so h).1
  | .rng a b, G, lvl, X, sc, tg, x, so, h => by
    unfold ckIt at h
    split at h
    · obtain ⟨h, h6⟩ := and2 h
      obtain ⟨h, h5⟩ := and2 h
      obtain ⟨h, h4⟩ := and2 h
      obtain ⟨h, h3⟩ := and2 h
      obtain ⟨h1, h2⟩ := and2 h
      cases eqS h1
      exact sI_rng (so.gl h2) (so.bl _ (by decide)) (okE a so h5).1 (okE b so h6).1 (by rw [star_ok h3, star_ok h4]; rfl) (by rw [star_ok h4]; rfl)
    · cases h
  | .rng1 b, G, lvl, X, sc, tg, x, so, h => by
    unfold ckIt at h
    split at h
    · obtain ⟨h, h4⟩ := and2 h
      obtain ⟨h, h3⟩ := and2 h
      obtain ⟨h1, h2⟩ := and2 h
      cases eqS h1
      exact sI_rng1 (so.gl h2) (so.bl _ (by decide)) (okE b so h4).1 (by rw [star_ok h3]; rfl)
    · cases h
  | .enum m, G, lvl, X, sc, tg, x, so, h => by
    unfold ckIt at h
    split at h
    · obtain ⟨h, h4⟩ := and2 h
      obtain ⟨h, h3⟩ := and2 h
      obtain ⟨h1, h2⟩ := and2 h
      cases eqS h1
      exact sI_enum (so.gl h2) (so.bl _ (by decide)) (okE m so h4).1 (by rw [star_ok h3]; rfl)
    · cases h
  | .zip a b, G, lvl, X, sc, tg, x, so, h => by
    unfold ckIt at h
    split at h
    · obtain ⟨h, h7⟩ := and2 h
      obtain ⟨h, h6⟩ := and2 h
      obtain ⟨h, h5⟩ := and2 h
      obtain ⟨h, h4⟩ := and2 h
      obtain ⟨h, h3⟩ := and2 h
      obtain ⟨h1, h2⟩ := and2 h
      cases eqS h1
      cases eqS h2
      refine sI_zip (so.gl h3) (so.bl _ (by decide)) (okE a so h6).1 (okE b so h7).1 (star_ok h4) (by rw [star_ok h5]; rfl) (plain_any ?_)
      show (notStar _ && (notStar _ && true)) = true
      rw [h4, h5]
      rfl
    · cases h
  | .items m, G, lvl, X, sc, tg, x, so, h => by
    unfold ckIt at h
    split at h
    · obtain ⟨h, h4⟩ := and2 h
      obtain ⟨h, h3⟩ := and2 h
      obtain ⟨h1, h2⟩ := and2 h
      cases eqS h1
      exact sI_items (okE m so h4).1 (base_ok h3) h2
    · cases h
end
/-- what stands behind a comprehension that is checked -/
structure CompP (T : Tb) (G : SX) (X : Cx) (e : Expr) (elt : E) (t : Tg) (it : It) (ifs : Eo) (own : List Nat) (el tg iter : Expr) (fs : List Expr) (scope : Scope) (pos : Pos) (ow : List (Str × Nat)) : Prop where
  e : e = .ListComp el [⟨tg, iter, fs, 0⟩] scope pos
  own : ow.map (·.2) = own
  it : PI X tg iter (iEv G X.K it)
  blk : BlkOk X.N X.env.scope scope ow
  ht : ∀ i, i ∈ tgs t → i ∈ ow.map (·.2)
  bp : BlkP X G scope (ow.map (·.2)) tg fs el t ifs elt
  hs : ∀ x, foldedSetIterable iter X.env x = pure x
theorem comp_get {G : SX} {lvl : Nat} {X : Cx} {sc : Scope} {e : Expr} {elt : E} {t : Tg} {it : It} {ifs : Eo} {own : List Nat} (so : SOk T G lvl X sc) (h : ckE T (.comp elt t it ifs own) sc e = true) : ∃ el tg iter fs scope pos ow, CompP T G X e elt t it ifs own el tg iter fs scope pos ow := by
  unfold ckE at h
  split at h
  · rename_i el tg iter fs k scope pos
    obtain ⟨h, h8⟩ := and2 h
    obtain ⟨h, h7⟩ := and2 h
    obtain ⟨h, h6⟩ := and2 h
    obtain ⟨h, h5⟩ := and2 h
    obtain ⟨h, h4⟩ := and2 h
    obtain ⟨h, h3⟩ := and2 h
    obtain ⟨h, h2⟩ := and2 h
    obtain ⟨h1, h0⟩ := and2 h
    cases eqS h1
    split at h5
    · rename_i ow hw
      obtain ⟨q1, q2⟩ := ownOf_ok hw
      subst q2
      have ht : ∀ i, i ∈ tgs t → i ∈ ow.map (·.2) := fun i hi => by
        have := List.all_eq_true.mp h3 i hi
        simpa using this
      have hb : BlkOk X.N X.env.scope scope ow := by
        rw [so.N, so.sc]
        exact blkB_ok q1 h5
      refine ⟨el, tg, iter, fs, scope, pos, ow, rfl, rfl, okIt it so h4, hb, ht, ⟨fun pn σb u G0 I hag C cl fp nc => ckTg_ok so.ok.calm so.N so.ok.nd (fun x hx => ?_) h6, fun pn σb u G0 I hag C cl fp nc => okFs ifs (so.blk h0 I hag scope cl C fp nc) h7, fun pn σb u G0 I hag C cl fp nc => (okE elt (so.blk h0 I hag scope cl C fp nc) h8).1⟩, set_iter h2⟩
      obtain ⟨l1, l2⟩ := and2 hx
      rw [(so.blk h0 I hag scope cl C fp nc).sc]
      exact ⟨locB_ok l1, ((Bool.or_eq_true _ _).mp l2).imp id fun z => eqS z⟩
    · cases h5
  · cases h
end
end Li
set_option Elab.async false
set_option linter.all false
set_option maxRecDepth 100000
set_option maxHeartbeats 4000000
/-! LiChkS: statements checked, and what is checked holds; a def of the program by its text in Li. -/
namespace Li
open PySem L2
def swB (sc : Scope) (e : Expr) (x : Str) (p : Pos) : Bool := match e with
  | .ListComp _ _ s p2 => isLoc sc x && p.line == p2.line && !(s.names.any fun (n, k) => n == x && (k == .local || k == .cell))
  | .SetComp _ _ s p2 => isLoc sc x && p.line == p2.line && !(s.names.any fun (n, k) => n == x && (k == .local || k == .cell))
  | .DictComp _ _ _ s p2 => isLoc sc x && p.line == p2.line && !(s.names.any fun (n, k) => n == x && (k == .local || k == .cell))
  | _ => false
def notTup : Expr → Bool
  | .Tuple _ _ _ => false
  | _ => true
/-- a list just made -/
def frB : E → Bool
  | .lst _ => true
  | .comp _ _ _ _ _ => true
  | .bf .list _ => true
  | .bin .Add _ _ => true
  | _ => false
/-- the stores of a, .. = .. stand in their order -/
def unpB (sc : Scope) (ts : List Expr) (e : Expr) : Bool := notTup e || ts.any fun t => match t with
  | .Name x _ => !isLoc sc x
  | _ => true
def parB (sc : Scope) (x y : Str) (px py : Pos) (a b : Expr) : Bool :=
  isLoc sc x && isLoc sc y && px.line == py.line && (x == y) == false && [a, b].all (foldedForSure 8) == false && [a, b].all (constantsAlone 8) == false && notStar a && notStar b
mutual
def ckS (T : Tb) (sc : Scope) : Sm → Stmt → Bool
  | .set i m, st => match st with
    | .Assign [.Name x p] e _ => T.N[i]? == some x && locB sc x && ckE T m sc e && (match swB sc e x p with
      | false => true
      | true => isLoc sc x && (match m with
        | .comp _ _ _ _ _ => true
        | _ => false))
    | _ => false
  | .setc i m, st => match st with
    | .Assign [.Name x p] e _ => T.N[i]? == some x && locB sc x && frB m && ckE T m sc e && (match swB sc e x p with
      | false => true
      | true => isLoc sc x && (match m with
        | .comp _ _ _ _ _ => true
        | _ => false))
    | _ => false
  | .ndef i j, st => T.ndc j i sc st
  | .unp ts m, st => match st with
    | .Assign [.Tuple es k p] e _ => ckTg T (locB sc) (.many ts) (.Tuple es k p) && unpB sc es e && ckE T m sc e
    | _ => false
  | .par i j ci cj a b, st => match st with
    | .Assign [.Tuple [.Name x px, .Name y py] _ _] (.Tuple [e1, e2] _ _) _ => !ci && !cj && T.N[i]? == some x && T.N[j]? == some y && parB sc x y px py e1 e2 && ckE T a sc e1 && ckE T b sc e2
    | _ => false
  | .aug i o m, st => match st with
    | .AugAssign (.Name x _) p e _ => T.N[i]? == some x && locB sc x && o == p && ckE T m sc e
    | _ => false
  | .sub a i m, st => match st with
    | .Assign [.Subscript x y _] e _ => notSlice y && ckE T a sc x && ckE T i sc y && ckE T m sc e
    | _ => false
  | .asub a i o m, st => match st with
    | .AugAssign (.Subscript x y _) p e _ => o == p && notSlice y && ckE T a sc x && ckE T i sc y && ckE T m sc e
    | _ => false
  | .att o f m, st => match st with
    | .Assign [.Attribute x g _] e _ => f == g && ckE T o sc x && ckE T m sc e
    | _ => false
  | .attc o f m, st => match st with
    | .Assign [.Attribute x g _] e _ => f == g && frB m && ckE T o sc x && ckE T m sc e
    | _ => false
  | .setd i, st => match st with
    | .Assign [.Name x _] (.Dict [] [] _) _ => T.N[i]? == some x && locB sc x
    | _ => false
  | .dput a i m, st => match st with
    | .Assign [.Subscript x y _] e _ => ckE T a sc x && ckE T i sc y && ckE T m sc e
    | _ => false
  | .dead, st => true
  | .ex m, st => match st with
    | .Expr e _ => notComp e && ckE T m sc e
    | _ => false
  | .ret m fr, st => match st with
    | .Return (some e) _ => ckE T m sc e
    | _ => false
  | .retc m, st => match st with
    | .Return (some e) _ => frB m && ckE T m sc e
    | _ => false
  | .retn fr, st => match st with
    | .Return none _ => true
    | _ => false
  | .ifs c a b, st => match st with
    | .If t x y _ => ckE T c sc t && ckSs T sc a x && ckSs T sc b y
    | _ => false
  | .whl c b, st => match st with
    | .While t x [] _ => ckE T c sc t && ckSs T sc b x
    | _ => false
  | .forr t it b, st => match st with
    | .For tg iter x [] _ => ckTg T (locB sc) t tg && notSet iter && ckIt T it sc tg iter && ckSs T sc b x
    | _ => false
  | .raise _ _, st => true
  | .pass, st => match st with
    | .Pass _ => true
    | _ => false
  | .brk, st => match st with
    | .Break _ => true
    | _ => false
  | .cont, st => match st with
    | .Continue _ => true
    | _ => false
def ckSs (T : Tb) (sc : Scope) : Ss → List Stmt → Bool
  | .nil, xs => xs.isEmpty
  | .cons s r, xs => match xs with
    | x :: y => ckS T sc s x && ckSs T sc r y
    | [] => false
end
/-! ### what is checked holds -/
structure TOk (T : Tb) (G : SX) (lvl : Nat) (X : Cx) (sc : Scope) : Prop where
  so : SOk T G lvl X sc
  fn : ∀ x, locB sc x = true → X.fn x = true ∨ X.env.scope.names.lookup x = some .local
  kind : sc.kind = .function
  po : PassesOwn (model X.prog X.w) X.A X.env X.xe
  ndc : ∀ j i st, T.ndc j i sc st = true → PS X st (tSv G X.K (.ndef i j))
section
variable {T : Tb} {G : SX} {lvl : Nat} {X : Cx} {sc : Scope}
theorem TOk.bk (so : TOk T G lvl X sc) : X.env.blockKind = .function := by
  unfold PySem.Env.blockKind
  rw [so.so.sc, so.kind]
  rfl
theorem sw_ok (so : TOk T G lvl X sc) (e : Expr) (x : Str) (p : Pos) (n : Nat) : swapsWith e (some (.Name x p)) n X.env = pure (swB sc e x p) := by
  have hk : X.env.kindOf x = sc.names.lookup x := by
    unfold PySem.Env.kindOf
    rw [so.so.sc]
  have go : ∀ (s : Scope) (p2 : Pos), (X.env.blockKind == ScopeKind.function && X.env.kindOf x == some NameKind.local && p.line == p2.line && !(s.names.any fun (n, k) => n == x && (k == .local || k == .cell))) = (isLoc sc x && p.line == p2.line && !(s.names.any fun (n, k) => n == x && (k == .local || k == .cell))) := fun s p2 => by
    rw [so.bk, hk]
    rfl
  cases e <;> first
    | rfl
    | (show (pure _ : Sem Bool) = pure _; exact congrArg _ (go _ _))
theorem sw_none {e : Expr} {n : Nat} {env : PySem.Env} (h : notComp e = true) : swapsWith e none n env = pure false := by
  cases e <;> first
    | rfl
    | exact (Bool.false_ne_true h).elim
theorem sw_att {e o : Expr} {f : Str} {p : Pos} {n : Nat} {env : PySem.Env} : swapsWith e (some (.Attribute o f p)) n env = pure false := by
  cases e <;> rfl
theorem sw_sub1 {e o i : Expr} {p : Pos} {n : Nat} {env : PySem.Env} : swapsWith e (some (.Subscript o i p)) n env = pure false := by
  cases e <;> rfl
theorem sw_sub {e o i : Expr} {p : Pos} {n : Nat} {env : PySem.Env} : swapsWithSole [.Subscript o i p] e n env = pure false := by
  cases e <;> rfl
theorem sw_tup {e : Expr} {es : List Expr} {k : Nat} {p : Pos} {n : Nat} {env : PySem.Env} : swapsWithSole [.Tuple es k p] e n env = pure false := by
  cases e <;> rfl
theorem ss_sub {e o i : Expr} {p : Pos} {env : PySem.Env} : swappedStores [.Subscript o i p] e env = pure none := by
  cases e <;> rfl
theorem ss_tup {e : Expr} {es : List Expr} {k : Nat} {p : Pos} {env : PySem.Env} (h : notTup e = true) : swappedStores [.Tuple es k p] e env = pure none := by
  cases e <;> first
    | rfl
    | exact (Bool.false_ne_true h).elim
theorem fm_lt {α β : Type} {f : α → Option β} : ∀ {l : List α}, (l.any fun x => (f x).isNone) = true → (l.filterMap f).length < l.length
  | x :: l, h => by
    rw [List.any_cons] at h
    rw [List.filterMap_cons]
    cases e : f x with
    | none =>
      have := List.length_filterMap_le f l
      show (l.filterMap f).length < l.length + 1
      omega
    | some y =>
      rw [e] at h
      have := fm_lt (l := l) (by simpa using h)
      show (l.filterMap f).length + 1 < l.length + 1
      omega
theorem ss_unp (so : TOk T G lvl X sc) {es : List Expr} {e : Expr} {k : Nat} {p : Pos} (h : unpB sc es e = true) : swappedStores [.Tuple es k p] e X.env = pure none := by
  rcases (Bool.or_eq_true _ _).mp h with h | h
  · exact ss_tup h
  · cases e with
    | Tuple vs k2 p2 =>
      have q : ∀ (line : Nat), (es.any fun t => (match t with
        | .Name id pos => if X.env.kindOf id == some NameKind.local && pos.line == line then some id else none
        | _ => none).isNone) = true := fun line => by
        obtain ⟨t, ht, hq⟩ := List.any_eq_true.mp h
        refine List.any_eq_true.mpr ⟨t, ht, ?_⟩
        cases t with
        | Name x p =>
          have hk : X.env.kindOf x = sc.names.lookup x := by
            unfold PySem.Env.kindOf
            rw [so.so.sc]
          have hq : (!(sc.names.lookup x == some NameKind.local)) = true := hq
          show (if (X.env.kindOf x == some NameKind.local && p.line == line) = true then some x else none).isNone = true
          rw [hk]
          cases hh : sc.names.lookup x == some NameKind.local with
          | true =>
            rw [hh] at hq
            cases hq
          | false => rfl
        | _ => rfl
      unfold swappedStores
      simp only []
      split
      · rfl
      · split
        · rfl
        · have ne := fm_lt (q ((es.head?.map (·.pos.line)).getD 0))
          rw [if_pos]
          rw [Bool.or_eq_true]
          exact .inl (bne_iff_ne.mpr (Nat.ne_of_lt ne))
    | _ => rfl
theorem ss_par (so : TOk T G lvl X sc) {x y : Str} {px py : Pos} {a b : Expr} {k k2 : Nat} {p p2 : Pos} (h : parB sc x y px py a b = true) : swappedStores [.Tuple [.Name x px, .Name y py] k p] (.Tuple [a, b] k2 p2) X.env = pure (some [x, y]) := by
  obtain ⟨h, h8⟩ := and2 h
  obtain ⟨h, h7⟩ := and2 h
  obtain ⟨h, h6⟩ := and2 h
  obtain ⟨h, h5⟩ := and2 h
  obtain ⟨h, h4⟩ := and2 h
  obtain ⟨h, h3⟩ := and2 h
  obtain ⟨h1, h2⟩ := and2 h
  have kx : X.env.kindOf x = some .local := by
    unfold PySem.Env.kindOf
    rw [so.so.sc]
    exact eqS h1
  have ky : X.env.kindOf y = some .local := by
    unfold PySem.Env.kindOf
    rw [so.so.sc]
    exact eqS h2
  have hxy : (x == y) = false := eqS h4
  have hyx : (y == x) = false := by
    cases e : y == x with
    | false => rfl
    | true =>
      rw [eqS e] at hxy
      simp at hxy
  have hl : px.line = py.line := eqS h3
  have st : ∀ {e : Expr}, notStar e = true → (match e with
    | .Starred .. => true
    | _ => false) = false := fun {e} z => by
    cases e <;> first
      | rfl
      | exact (Bool.false_ne_true z).elim
  unfold swappedStores
  simp only [List.length_cons, List.length_nil, so.bk, List.any_cons, List.any_nil, st h7, st h8, List.head?_cons, Option.map_some, Option.getD_some, List.filterMap_cons, List.filterMap_nil, kx, ky, eqS h5, eqS h6, Expr.pos, hl]
  simp [List.eraseDups_cons, hxy, hyx]
  intro z
  exfalso
  rcases z with z | z
  · cases a <;> first
      | exact Bool.false_ne_true z
      | exact Bool.false_ne_true h7
  · cases b <;> first
      | exact Bool.false_ne_true z
      | exact Bool.false_ne_true h8
theorem each1 {e : Expr} {env : PySem.Env} (h : notStar e = true) : (assignEach [e] env).map (·.2) = [assign e env] := by
  cases e <;> first
    | rfl
    | exact (Bool.false_ne_true h).elim
theorem sub_asg {a i : Expr} {tp : Pos} {env : PySem.Env} (h : notSlice i = true) : ∀ v, assign (.Subscript a i tp) env v = (do
      let ov ← holding [v] (eval a env)
      let iv ← holding [v, ov] (eval i env)
      standAt tp
      holding [v, ov, iv] (setItem ov iv v)
      release [v, ov, iv] []) := by
  intro v
  cases i <;> first
    | rfl
    | exact (Bool.false_ne_true h).elim
theorem aug_st {i : Expr} (h : notSlice i = true) : ∀ ov iv new, augStore i ov iv new = (do holding [new, ov, iv] (setItem ov iv new); release [new, ov, iv] []; pure .next) := by
  intro ov iv new
  cases i <;> first
    | rfl
    | exact (Bool.false_ne_true h).elim
theorem okF (so : SOk T G lvl X sc) {m : E} {e : Expr} (hf : frB m = true) (h : ckE T m sc e = true) : PE X e (tEf G X.K m) := by
  cases m with
  | lst es =>
    unfold ckE at h
    split at h
    · exact sF_lst (okEs es so h)
    · cases h
  | comp elt t it ifs own =>
    obtain ⟨el, tg, iter, fs, scope, pos, ow, C⟩ := comp_get so h
    cases C.e
    cases C.own
    exact sF_comp so.ok C.it C.blk C.ht C.bp C.hs
  | bf f es =>
    cases f with
    | list =>
      unfold ckE at h
      split at h
      · exact absurd (by assumption : Bf.list = Bf.isi _) (fun z => nomatch z)
      · split at h
        · rename_i hne x p a r pos
          obtain ⟨h, h4⟩ := and2 h
          obtain ⟨h, h3⟩ := and2 h
          obtain ⟨h1, h2⟩ := and2 h
          have ha := okEs _ so h4
          obtain ⟨s1, s2⟩ := and2 (show (notStar a && r.all notStar) = true from ckEs_star h4)
          cases eqS h1
          exact sF_list so.ok (so.gl h2) (so.bl _ (by decide)) (by decide +kernel) ha (by decide) (by decide) (star_ok s1) (plain_any s2)
        · cases h
    | _ => exact (Bool.false_ne_true hf).elim
  | bin o a b =>
    cases o with
    | Add =>
      unfold ckE at h
      split at h
      · obtain ⟨h, h3⟩ := and2 h
        obtain ⟨h1, h2⟩ := and2 h
        cases eqS h1
        exact sF_add (okE a so h2).1 (okE b so h3).1
      · cases h
    | _ => exact (Bool.false_ne_true hf).elim
  | _ => exact (Bool.false_ne_true hf).elim
theorem PS.not {e : Stmt} {t : TS} (h : ∀ D σ H, ¬ t D σ H) : PS X e t := ⟨fun _ _ _ _ _ _ q => (h _ _ _ q).elim⟩
theorem TOk.lk (so : TOk T G lvl X sc) : ∀ x, locB sc x = true → Loc X.env.scope x ∧ (X.fn x = true ∨ X.env.scope.names.lookup x = some .local) := fun x h => by
  have q := so.fn x h
  rw [so.so.sc] at q ⊢
  exact ⟨locB_ok h, q⟩
variable [AgT G]
mutual
theorem okS : ∀ (m : Sm) {st : Stmt}, TOk T G lvl X sc → ckS T sc m st = true → PS X st (tSv G X.K m)
  | .set i m, st, so, h => by
    unfold ckS at h
    split at h
    · rename_i x p e pos
      obtain ⟨h, h4⟩ := and2 h
      obtain ⟨h, h3⟩ := and2 h
      obtain ⟨h1, h2⟩ := and2 h
      have sw := sw_ok so e x p pos.line
      split at h4
      · rename_i hb
        rw [hb] at sw
        exact sS_set so.so.ok.nd (so.so.ix h1) (so.lk x h2).1 (okE m so.so h3).1 sw (so.fn x h2)
      · rename_i hb
        rw [hb] at sw
        obtain ⟨h5, h6⟩ := and2 h4
        cases m with
        | comp elt t it ifs own =>
          obtain ⟨el, tg, iter, fs, scope, pos, ow, C⟩ := comp_get so.so h3
          cases C.e
          cases C.own
          exact sS_setLc so.so.ok (so.so.ix h1) (by rw [so.so.sc]; exact eqS h5) sw C.it C.blk C.ht C.bp C.hs
        | _ => exact (Bool.false_ne_true h6).elim
    · cases h
  | .setc i m, st, so, h => by
    unfold ckS at h
    split at h
    · rename_i x p e pos
      obtain ⟨h, h4⟩ := and2 h
      obtain ⟨h, h3⟩ := and2 h
      obtain ⟨h, hf⟩ := and2 h
      obtain ⟨h1, h2⟩ := and2 h
      have sw := sw_ok so e x p pos.line
      split at h4
      · rename_i hb
        rw [hb] at sw
        exact sS_setc so.so.ok.nd (so.so.ix h1) (so.lk x h2).1 (okF so.so hf h3) sw (so.fn x h2)
      · rename_i hb
        rw [hb] at sw
        obtain ⟨h5, h6⟩ := and2 h4
        cases m with
        | comp elt t it ifs own =>
          obtain ⟨el, tg, iter, fs, scope, pos, ow, C⟩ := comp_get so.so h3
          cases C.e
          cases C.own
          exact sS_setcLc so.so.ok (so.so.ix h1) (by rw [so.so.sc]; exact eqS h5) sw C.it C.blk C.ht C.bp C.hs
        | _ => exact (Bool.false_ne_true h6).elim
    · cases h
  | .ndef i j, st, so, h => so.ndc j i st (by unfold ckS at h; exact h)
  | .unp ts m, st, so, h => by
    unfold ckS at h
    split at h
    · obtain ⟨h, h3⟩ := and2 h
      obtain ⟨h1, h2⟩ := and2 h
      exact sS_unp (okE m so.so h3).1 (ckTg_ok so.so.ok.calm so.so.N so.so.ok.nd so.lk h1) sw_tup (ss_unp so h2) rfl
    · cases h
  | .par i j ci cj a b, st, so, h => by
    unfold ckS at h
    split at h
    · obtain ⟨h, h7⟩ := and2 h
      obtain ⟨h, h6⟩ := and2 h
      obtain ⟨h, h5⟩ := and2 h
      obtain ⟨h, h4⟩ := and2 h
      obtain ⟨h, h3⟩ := and2 h
      obtain ⟨h1, h2⟩ := and2 h
      cases ci with
      | true => exact (Bool.false_ne_true h1).elim
      | false =>
        cases cj with
        | true => exact (Bool.false_ne_true h2).elim
        | false =>
          have sp := ss_par so (k := 0) (p := default) (k2 := 0) (p2 := default) h5
          have q := h5
          obtain ⟨q, q8⟩ := and2 q
          obtain ⟨q, q7⟩ := and2 q
          obtain ⟨q, q6⟩ := and2 q
          obtain ⟨q, q5⟩ := and2 q
          obtain ⟨q, q4⟩ := and2 q
          obtain ⟨q, q3⟩ := and2 q
          obtain ⟨q1, q2⟩ := and2 q
          refine sS_par so.so.ok.calm so.so.ok.nd (so.so.ix h3) (so.so.ix h4) (fun e => ?_) (by rw [so.so.sc]; exact eqS q1) (by rw [so.so.sc]; exact eqS q2) (okE a so.so h6).1 (okE b so.so h7).1 (star_ok q7) (star_ok q8) (ss_par so h5) sw_tup
          subst e
          have e2 := (eqS h3).symm.trans (eqS h4)
          cases e2
          simp at q4
    · cases h
  | .aug i o m, st, so, h => by
    unfold ckS at h
    split at h
    · obtain ⟨h, h4⟩ := and2 h
      obtain ⟨h, h3⟩ := and2 h
      obtain ⟨h1, h2⟩ := and2 h
      cases eqS h3
      exact sS_aug so.so.ok.nd (so.so.ix h1) (so.lk _ h2).1 (okE m so.so h4).1 (so.fn _ h2)
    · cases h
  | .sub a i m, st, so, h => by
    unfold ckS at h
    split at h
    · obtain ⟨h, h4⟩ := and2 h
      obtain ⟨h, h3⟩ := and2 h
      obtain ⟨h1, h2⟩ := and2 h
      exact sS_sub (okE m so.so h4).1 (okE a so.so h2).1 (okE i so.so h3).1 sw_sub ss_sub rfl (sub_asg h1)
    · cases h
  | .asub a i o m, st, so, h => by
    unfold ckS at h
    split at h
    · obtain ⟨h, h4⟩ := and2 h
      obtain ⟨h, h3⟩ := and2 h
      obtain ⟨h, h2⟩ := and2 h
      obtain ⟨h0, h1⟩ := and2 h
      cases eqS h0
      exact sS_asub (okE a so.so h2).1 (okE i so.so h3).1 (okE m so.so h4).1 (aug_st h1)
    · cases h
  | .att o f m, st, so, h => by
    unfold ckS at h
    split at h
    · obtain ⟨h, h3⟩ := and2 h
      obtain ⟨h1, h2⟩ := and2 h
      cases eqS h1
      exact sS_att so.so.ok (okE m so.so h3).1 (okE o so.so h2).1 sw_att
    · cases h
  | .attc o f m, st, so, h => by
    unfold ckS at h
    split at h
    · obtain ⟨h, h3⟩ := and2 h
      obtain ⟨h, h2⟩ := and2 h
      obtain ⟨h1, hf⟩ := and2 h
      cases eqS h1
      exact sS_attc so.so.ok (okF so.so hf h3) (okE o so.so h2).1 sw_att
    · cases h
  | .setd i, st, so, h => by
    unfold ckS at h
    split at h
    · obtain ⟨h1, h2⟩ := and2 h
      exact sS_setd so.so.ok (so.so.ix h1) (so.lk _ h2).1 rfl (so.fn _ h2)
    · cases h
  | .dput a i m, st, so, h => by
    unfold ckS at h
    split at h
    · obtain ⟨h, h3⟩ := and2 h
      obtain ⟨h1, h2⟩ := and2 h
      exact sS_dput so.so.ok (okE m so.so h3).1 (okE a so.so h1).1 (okE i so.so h2).1 sw_sub1
    · cases h
  | .dead, st, so, h => PS.not fun D σ H ⟨σ, S, hid, w, z⟩ => z
  | .ex m, st, so, h => by
    unfold ckS at h
    split at h
    · obtain ⟨h1, h2⟩ := and2 h
      exact sS_ex (okE m so.so h2).1 (sw_none h1)
    · cases h
  | .ret m fr, st, so, h => by
    unfold ckS at h
    split at h
    · exact sS_ret (okE m so.so h).1
    · cases h
  | .retc m, st, so, h => by
    unfold ckS at h
    split at h
    · obtain ⟨h1, h2⟩ := and2 h
      exact sS_retc (okF so.so h1 h2)
    · cases h
  | .retn fr, st, so, h => by
    unfold ckS at h
    split at h
    · exact sS_retn
    · cases h
  | .ifs c a b, st, so, h => by
    unfold ckS at h
    split at h
    · obtain ⟨h, h3⟩ := and2 h
      obtain ⟨h1, h2⟩ := and2 h
      exact sS_if (okE c so.so h1).2.1 (okSs a so h2) (okSs b so h3)
    · cases h
  | .whl c b, st, so, h => by
    unfold ckS at h
    split at h
    · obtain ⟨h1, h2⟩ := and2 h
      exact sS_while so.po (okE c so.so h1).2.1 (okSs b so h2)
    · cases h
  | .forr t it b, st, so, h => by
    unfold ckS at h
    split at h
    · obtain ⟨h, h4⟩ := and2 h
      obtain ⟨h, h3⟩ := and2 h
      obtain ⟨h1, h2⟩ := and2 h
      exact sS_for so.po so.so.ok.calm (okIt it so.so h3) (ckTg_ok so.so.ok.calm so.so.N so.so.ok.nd so.lk h1) (okSs b so h4) (set_iter h2)
    · cases h
  | .raise _ _, st, so, h => PS.not fun D σ H ⟨σ, S, hid, w, z⟩ => z
  | .pass, st, so, h => by
    unfold ckS at h
    split at h
    · exact sS_pass
    · cases h
  | .brk, st, so, h => by
    unfold ckS at h
    split at h
    · exact sS_brk
    · cases h
  | .cont, st, so, h => by
    unfold ckS at h
    split at h
    · exact sS_cont
    · cases h
theorem okSs : ∀ (m : Ss) {xs : List Stmt}, TOk T G lvl X sc → ckSs T sc m xs = true → PSs X xs (tSs G X.K m)
  | .nil, [], so, h => sS_nil
  | .nil, _ :: _, so, h => (Bool.false_ne_true h).elim
  | .cons s r, [], so, h => (Bool.false_ne_true h).elim
  | .cons s r, x :: y, so, h => by
    obtain ⟨h1, h2⟩ := and2 (show (ckS T sc s x && ckSs T sc r y) = true from h)
    exact sS_cons (okS s so h1) (okSs r so h2)
end
end
end Li
set_option Elab.async false
set_option linter.all false
set_option maxRecDepth 100000
set_option maxHeartbeats 2000000
/-! LiDef: a def of the program keeps the promise that its text in Li keeps. -/
namespace Li
open PySem L2
def scB (N ps : List Str) (sc : Scope) : Bool :=
  sc.kind == .function && sc.isCoroutine == false && sc.isGenerator == false && decide N.Nodup && N.take ps.length == ps && ps.all (fun x => sc.names.lookup x == some .local || sc.names.lookup x == some .cell) && sc.names.all (fun y => y.2 != .free)
theorem scB_ok {N ps : List Str} {sc : Scope} (h : scB N ps sc = true) : FnScope N ps sc := by
  obtain ⟨h, h7⟩ := and2 h
  obtain ⟨h, h6⟩ := and2 h
  obtain ⟨h, h5⟩ := and2 h
  obtain ⟨h, h4⟩ := and2 h
  obtain ⟨h, h3⟩ := and2 h
  obtain ⟨h1, h2⟩ := and2 h
  refine ⟨eqS h1, eqS h2, eqS h3, of_decide_eq_true h4, eqS h5, fun x hx => ?_, fun y hy e => ?_⟩
  · rcases (Bool.or_eq_true _ _).mp (List.all_eq_true.mp h6 x hx) with q | q
    · exact .inl (eqS q)
    · exact .inr (eqS q)
  · have q := List.all_eq_true.mp h7 y hy
    rw [e] at q
    exact Bool.false_ne_true q
theorem Rvs.at0 {K : PySem.W.Frag} {M : Addr → Prop} {H : Hp} : ∀ {vs : List Val} {xs : List V} {n : Nat} {i : Nat} {v : Val}, Rvs K M H vs xs → (vs.map some ++ List.replicate n none)[i]? = some (some v) → ∃ x, (xs.map some ++ List.replicate n none)[i]? = some (some x) ∧ Rv K M H v x
  | [], xs, n, i, v, h, e => by
    rw [List.map_nil, List.nil_append, List.getElem?_replicate] at e
    split at e <;> cases e
  | u :: vs, xs, n, 0, v, ⟨x, y, ex, h1, h2⟩, e => by
    subst ex
    cases e
    exact ⟨x, rfl, h1⟩
  | u :: vs, xs, n, i + 1, v, ⟨x, y, ex, h1, h2⟩, e => by
    subst ex
    exact Rvs.at0 (vs := vs) (xs := y) (n := n) (i := i) h2 e
theorem renv_start {K : PySem.W.Frag} {M : Addr → Prop} {H : Hp} {N : List Str} {vs : List Val} {xs : List V} (h : Rvs K M H vs xs) : Renv K M H (vs.map some ++ List.replicate (N.length - vs.length) none) (L2.start N xs) := by
  have l := h.length
  unfold L2.start
  rw [l]
  refine ⟨by rw [List.length_append, List.length_append, List.length_map, List.length_map, l, List.length_replicate, List.length_replicate], fun i v e => h.at0 e⟩
theorem fn_li {P : Program} {w : World} {K : PySem.W.Frag} {mg : Str → Option Value} {base : Heap} {T : Tb} {TT : List NdefX.NTab} {D : Nat → Li.G} {M : Addr → Str → List Str → Li.G} {A : Addr → Str → Prop} {lvl : Nat} {x qual : Str} {params : Arguments} {body : List Stmt} {scope : Scope} {dvs : List V} {kws : List (Str × V)} {f : Addr} {fd : FuncData} {ps : List Str} {b : Ss} {fr : List Nat} {sp : ISp}
    (F : FunD K x qual params body scope dvs kws f fd) (hnd : ∀ j i sc st, T.ndc j i sc st = false) (hS : scB T.N ps scope = true) (hb : ckSs T scope b body = true) (gok : ∀ g, GOk ⟨P, w, K, mg, base, TT⟩ lvl (T.nm g) (D g)) (mok : ∀ C m ks, MOk ⟨P, w, K, mg, base, TT⟩ lvl C m ks (M C m ks)) (att : ∀ C f, A C f → Cls K C ∧ NoAttr K C f) (bl : ∀ x, bnames.contains x = true → mg x = none)
    (hsp : ∀ vs S Q R, vs.length = ps.length → sp.run vs S Q R → evD { D := D, A := A, er := R, M := M } b T.N.length fr vs S Q) : FnOk P w K mg base (CX P w) (lvl + 1) f fd ps (toSp K TT ps.length sp) := by
  refine F.ok (scB_ok hS) (fun vs H Q E ⟨vs0, S, hid, hT, hl, r, _⟩ => by rw [← r.length, hl]) fun cdv A' outer s H vs Q E hr ⟨vs0, S, hid, hT, hl, r, rel, run⟩ => ?_
  let G : SX := { c := { D := D, A := A, M := M, er := fun ex S' => ∀ cls d H', Ext S H S' H' → Rel K hid S' H' → RExc K (Mset S' hid) H' ex cls d → E cls d H' }, S0 := S, H0 := H, P := fun h => h = hid, ag := fun _ => True, T := TT }
  have : AgT G := ⟨fun _ => trivial⟩
  have sk := scB_ok hS
  refine ⟨tSs G K b, ?_, ?_⟩
  · refine okSs (T := T) (G := G) (lvl := lvl) (sc := scope) b ⟨⟨⟨sk.nd, rfl, hr, gok, mok, ?_, att⟩, rfl, rfl, bl, fun j F z => z.elim, fun j i z => nomatch z⟩, fun _ _ => .inl rfl, sk.kind, ?_, fun j i st z => by rw [hnd] at z; cases z⟩ hb
    · exact passes_call (takes_of rfl rfl rfl rfl) fun cls d σ H1 h => by
        obtain ⟨ex, S', hid', e1, e2, e3, e4, e5⟩ := h
        cases (show hid' = hid from e1)
        exact e5 cls d H1 e2 e3 e4
    · exact passes_of rfl
  · refine ⟨_, S, hid, ⟨rfl, Ext.refl S H, rel, renv_start (N := T.N) r, trivial, hT⟩, ?_⟩
    have z := hsp vs0 S _ _ hl run
    exact evSs_mono b (D := { nx := fun σ S' => frz σ fr .non S' (PoE K hid S H Q), rt := PoE K hid S H Q }) ⟨fun σ2 S2 q σ2' H2 e2 rel2 env2 => by
      obtain ⟨u, S3, q1, q2, q3, q4⟩ := frz_rd (x := .non) q rel2 rfl
      exact q1 .non H2 (e2.trans q2) q3 q4, fun v S2 q v' H2 e2 rel2 r2 => q v' H2 e2 rel2 r2, fun _ _ q => q.elim, fun _ _ q => q.elim⟩ z
/-! ### the module's names -/
theorem GOk.up {m : Mo} {l l' : Nat} (h : l ≤ l') {x : Str} {g : Li.G} (o : GOk m l x g) : GOk m l' x g := by
  cases g with
  | none => exact o
  | val v => exact o
  | fn sp n dfl =>
    obtain ⟨f, fd, ps, k, h1, r⟩ := o
    exact ⟨f, fd, ps, k, by omega, r⟩
  | fnk sp n np ks arr =>
    obtain ⟨f, fd, ps, k, h1, r⟩ := o
    exact ⟨f, fd, ps, k, by omega, r⟩
  | clk C fz sp n np ks arr =>
    obtain ⟨f, fd, ps, k, h1, r⟩ := o
    exact ⟨f, fd, ps, k, by omega, r⟩
  | cls C fz sp n dfl =>
    obtain ⟨f, fd, ps, k, h1, r⟩ := o
    exact ⟨f, fd, ps, k, by omega, r⟩
theorem MOk.up {m : Mo} {l l' : Nat} (h : l ≤ l') {C : Addr} {x : Str} {ks : List Str} {g : Li.G} (o : MOk m l C x ks g) : MOk m l' C x ks g := by
  cases g with
  | none => exact o
  | fn sp n dfl =>
    obtain ⟨h0, f, fd, ps, k, h1, r⟩ := o
    exact ⟨h0, f, fd, ps, k, by omega, r⟩
  | fnk sp n np ks arr =>
    obtain ⟨h0, f, fd, ps, k, h1, r⟩ := o
    exact ⟨h0, f, fd, ps, k, by omega, r⟩
  | val v => exact o.elim
  | cls C fz sp n dfl => exact o.elim
  | clk C fz sp n np ks arr => exact o.elim
/-- names and what they are, one behind another -/
def GAll (m : Mo) (l : Nat) : List Str → List Li.G → Prop
  | _, [] => True
  | [], _ :: _ => False
  | x :: xs, g :: gs => GOk m l x g ∧ GAll m l xs gs
theorem GAll.nil {m : Mo} {l : Nat} {xs : List Str} : GAll m l xs [] := by
  cases xs <;> trivial
def tabD (gs : List Li.G) (i : Nat) : Li.G := (gs[i]?).getD .none
theorem GAll.all {m : Mo} {l : Nat} : ∀ {xs : List Str} {gs : List Li.G}, GAll m l xs gs → ∀ i, GOk m l ((xs[i]?).getD (Str.ofString "")) (tabD gs i)
  | [], [], _, i => trivial
  | _ :: _, [], _, i => trivial
  | [], _ :: _, h, i => h.elim
  | x :: xs, g :: gs, h, 0 => h.1
  | x :: xs, g :: gs, h, i + 1 => GAll.all (xs := xs) (gs := gs) h.2 i
theorem GAll.up {m : Mo} {l l' : Nat} (h : l ≤ l') : ∀ {xs : List Str} {gs : List Li.G}, GAll m l xs gs → GAll m l' xs gs
  | [], [], _ => trivial
  | _ :: _, [], _ => trivial
  | [], _ :: _, h => h.elim
  | x :: xs, g :: gs, o => ⟨o.1.up h, GAll.up h (xs := xs) (gs := gs) o.2⟩
theorem GAll.snoc {m : Mo} {l : Nat} {y : Str} {k : Li.G} (o : GOk m l y k) : ∀ {xs : List Str} {gs : List Li.G}, GAll m l xs gs → xs[gs.length]? = some y → GAll m l xs (gs ++ [k])
  | [], [], _, e => by cases e
  | x :: xs, [], _, e => by
    cases e
    exact ⟨o, GAll.nil⟩
  | [], _ :: _, h, e => h.elim
  | x :: xs, g :: gs, h, e => ⟨h.1, GAll.snoc o (xs := xs) (gs := gs) h.2 (by simpa using e)⟩
/-- a def without defaults, as a name of the module -/
theorem gok_fn {m : Mo} {k lvl : Nat} {x y qual : Str} {params : Arguments} {body : List Stmt} {scope : Scope} {kws : List (Str × V)} {f : Addr} {fd : FuncData} {ps : List Str} {sp : ISp} {n : Nat} (hn : ps.length = n) (F : FunD m.K x qual params body scope [] kws f fd)
    (ok : FnOk m.P m.w m.K m.mg m.base (CX m.P m.w) k f fd ps (toSp m.K m.T n sp)) (hk : k ≤ lvl) (hm : m.mg y = some (.ref f))
    (hb : ∀ (kV doc pm : Value) (an : Option Addr) (cdv ct : Value) (us : List Value), us.length = ps.length → bindArgs (PySem.W.fnOf x qual params body scope .none kV doc pm an cdv ct) ⟨us, []⟩ = pure (ps.zip us)) : GOk m lvl y (.fn sp n []) :=
  ⟨f, fd, ps, k, hk, hn, ok, hm, F.kp, fun dn hd => ⟨[], [], F.bindsN hb, .nil, by
    rw [List.drop_nil]
    rfl⟩⟩
end Li
set_option Elab.async false
set_option linter.all false
set_option maxRecDepth 100000
set_option maxHeartbeats 2000000
/-! LiDefN: the body of a def within a def keeps its promise. -/
namespace Li
open PySem L2 NdefX
theorem nloc {N ps fr : List Str} {sc : Scope} (S : NScope N ps fr sc) {x : Str} (h : locB sc x = true) : sc.names.lookup x = some .local := by
  rcases locB_ok h with q | q
  · exact q
  · exact absurd rfl (S.nocell _ (PySem.mem_of_lookup q))
theorem nok_li {P : Program} {w : World} {K : PySem.W.Frag} {mg : Str → Option Value} {base : Heap} {T : Tb} {TT : List NTab} {D : Nat → Li.G} {M : Addr → Str → List Str → Li.G} {A : Addr → Str → Prop} {lvl : Nat} {F : NF} {f : Addr} {ps fr : List Str} {b : Ss} {lf : LF} {frz0 : List Nat}
    (hnd : ∀ j i sc st, T.ndc j i sc st = false) (hS : nscB T.N ps fr F.scope = true) (ha : ∀ (doc pm ctv : Value) (us : List Value), us.length = ps.length → bindArgs (F.fd doc pm ctv) ⟨us, []⟩ = pure (ps.zip us)) (hb : ckSs T F.scope b F.body = true) (hn : ps.length = lf.n) (gok : ∀ g, GOk ⟨P, w, K, mg, base, TT⟩ lvl (T.nm g) (D g)) (mok : ∀ C m ks, MOk ⟨P, w, K, mg, base, TT⟩ lvl C m ks (M C m ks)) (att : ∀ C f, A C f → Cls K C ∧ NoAttr K C f)
    (bl : ∀ x, bnames.contains x = true → mg x = none) (hsp : ∀ vs S Q R, vs.length = ps.length + fr.length → lf.sp.run vs S Q R → evD { D := D, A := A, er := R, M := M } b T.N.length frz0 vs S Q) : NOk P w K mg base (CX P w) (lvl + 1) f F ps fr (toSpN K TT lf) := by
  have sk := nscope_by hS
  refine nok_of (N := T.N) sk ha (fun ws vs H Q E ⟨v0, cs, S, hid, cs', _, h1, _, r, _⟩ => by rw [← r.length, h1, hn]) fun A' outer s H vs ws Q E hr _ _ hw ⟨v0, cs, S, hid, cs', hT, h1, h2, r1, r2, rel, run⟩ => ?_
  subst h2
  rw [List.length_map] at hw
  let G : SX := { c := { D := D, A := A, M := M, er := fun ex S' => ∀ cls d H', Ext S H S' H' → Rel K hid S' H' → RExc K (Mset S' hid) H' ex cls d → E cls d H' }, S0 := S, H0 := H, P := fun h => h = hid, ag := fun _ => True, T := TT }
  have : AgT G := ⟨fun _ => trivial⟩
  refine ⟨tSs G K b, ?_, ?_⟩
  · refine okSs (T := T) (G := G) (lvl := lvl) (sc := F.scope) b ⟨⟨⟨sk.nd, rfl, hr, gok, mok, ?_, att⟩, rfl, rfl, bl, fun j F z => z.elim, fun j i z => nomatch z⟩, fun x hx => .inr (nloc sk hx), sk.kind, ?_, fun j i st z => by rw [hnd] at z; cases z⟩ hb
    · exact passes_call (takes_of rfl rfl rfl rfl) fun cls d σ H1 h => by
        obtain ⟨ex, S', hid', e1, e2, e3, e4, e5⟩ := h
        cases (show hid' = hid from e1)
        exact e5 cls d H1 e2 e3 e4
    · exact passes_of rfl
  · have rr : Rvs K (Mset S hid) H (v0 ++ cs) (vs ++ cs') := r1.append r2
    have l1 := r1.length
    have l2 := r2.length
    have st : startF T.N vs (cs'.map some) = L2.start T.N (vs ++ cs') := by
      unfold startF L2.start
      rw [List.map_append, List.append_assoc, List.length_append, List.length_map, Nat.sub_sub]
    refine ⟨_, S, hid, ⟨rfl, Ext.refl S H, rel, by rw [st]; exact renv_start (N := T.N) rr, trivial, hT⟩, ?_⟩
    have z := hsp (v0 ++ cs) S _ _ (by rw [List.length_append, h1, hn, l2, hw]) run
    exact evSs_mono b (D := { nx := fun σ S' => frz σ frz0 .non S' (PoE K hid S H Q), rt := PoE K hid S H Q }) ⟨fun σ2 S2 q σ2' H2 e2 rel2 env2 => by
      obtain ⟨u, S3, q1, q2, q3, q4⟩ := frz_rd (x := .non) q rel2 rfl
      exact q1 .non H2 (e2.trans q2) q3 q4, fun v S2 q v' H2 e2 rel2 r2 => q v' H2 e2 rel2 r2, fun _ _ q => q.elim, fun _ _ q => q.elim⟩ z
end Li
namespace Li
open PySem L2 NdefX
/-- a local def: its names, its parameters, what it captures (and where that stands around it), its text, its promise -/
structure NdT where
  N : List Str
  ps : List Str
  fr : List Str
  cap : List Nat
  b : Ss
  fz : List Nat
  sp : ISp
def argsB (ps : List Str) : Arguments → Bool
  | ⟨[], [⟨x, none, _⟩], none, [], [], none, []⟩ => ps == [x]
  | _ => false
/-- the parts of a local def, checked -/
def ndF (N gn : List Str) (d : NdT) (sc : Scope) (params : Arguments) (body : List Stmt) (scope : Scope) : Bool :=
  ndefB sc scope d.fr && nscB d.N d.ps d.fr scope && argsB d.ps params && ckSs { N := d.N, gn := gn } scope d.b body && (d.cap.map (fun j => N[j]?) == d.fr.map some)
def ndcL (N gn : List Str) (nds : List NdT) (tn : Nat → Nat → Str) (qual : Str) (j i : Nat) (sc : Scope) : Stmt → Bool
  | .FunctionDef name params body [] none [] scope none name2 pos => (name2 == name && N[i]? == some name && locB sc name && tn pos.line pos.col == qual ++ name) && (match nds[j]? with
    | some d => ndF N gn d sc params body scope
    | none => false)
  | _ => false
def lfOf (nds : List NdT) (okp : Nat → NF → Prop) (j : Nat) : LF := match nds[j]? with
  | some d => ⟨okp j, d.ps.length, d.cap, d.sp⟩
  | none => LF.none
/-- the local defs of a def whose frame has the cells cs and the scope sc -/
def okN (N gn : List Str) (nds : List NdT) (sc : Scope) (cs : List (Str × Addr)) (j : Nat) (F : NF) : Prop := match nds[j]? with
  | some d => ndF N gn d sc F.params F.body F.scope = true ∧ F.cl = cloFrom cs F.scope.names []
  | none => False
theorem args_ann {ps : List Str} {params : Arguments} {env : PySem.Env} (h : argsB ps params = true) : params.defaults = [] ∧ params.kw_defaults = [] ∧ annTrees params none env = [] := by
  unfold argsB at h
  split at h
  · exact ⟨rfl, rfl, rfl⟩
  · cases h
/-- what stands ahead of a local def's name -/
def lq (qual : Str) (scope : Scope) : Str := (PyProof.Rows.envOfC qual scope 0 0 .none).qual
theorem fn_liN {P : Program} {w : World} {K : PySem.W.Frag} {mg : Str → Option Value} {base : Heap} {N gn : List Str} {cap : List Nat} {nds : List NdT} {tn : Nat → Nat → Str} {c P0 : Addr} {TT : List NTab} {D : Nat → Li.G} {M : Addr → Str → List Str → Li.G} {A : Addr → Str → Prop} {lvl : Nat} {x qual : Str} {params : Arguments} {body : List Stmt} {scope : Scope} {dvs : List V} {kws : List (Str × V)} {f : Addr} {fd : FuncData} {ps : List Str} {b : Ss} {fr : List Nat} {sp : ISp}
    (F : FunD K x qual params body scope dvs kws f fd) (hc : ∀ {oc : Value} {od : Option Addr} {dV kV doc pm : Value} {an : Option Addr} {cdv ct : Value} {osl : Array (Option Value)}, K.lookup f = some ⟨oc, od, .func (PySem.W.fnOf x qual params body scope dV kV doc pm an cdv ct), osl⟩ → cdv = .ref c)
    (TB : LamX.TabB base mg c P0) (hm : (P0, tn) ∈ TT) (hu : ∀ p ∈ TT, p.1 = P0 → p.2 = tn) (hS : scB N ps scope = true) (hb : ckSs { N := N, gn := gn, cap := cap, ndc := ndcL N gn nds tn (lq qual scope) } scope b body = true) (hcap : ∀ d ∈ nds, ∀ i ∈ d.cap, cap.contains i = true)
    (gok : ∀ g, GOk ⟨P, w, K, mg, base, TT⟩ lvl (Tb.nm { N := N, gn := gn } g) (D g)) (mok : ∀ C m ks, MOk ⟨P, w, K, mg, base, TT⟩ lvl C m ks (M C m ks)) (att : ∀ C f, A C f → Cls K C ∧ NoAttr K C f) (bl : ∀ x, bnames.contains x = true → mg x = none)
    (hbind : ∀ d ∈ nds, ∀ F : NF, argsB d.ps F.params = true → ∀ (doc pm ctv : Value) (us : List Value), us.length = d.ps.length → bindArgs (F.fd doc pm ctv) ⟨us, []⟩ = pure (d.ps.zip us))
    (hspN : ∀ d ∈ nds, ∀ vs S Q R, vs.length = d.ps.length + d.fr.length → d.sp.run vs S Q R → evD { D := D, A := A, er := R, M := M } d.b d.N.length d.fz vs S Q)
    (hsp : ∀ okp vs S Q R, vs.length = ps.length → sp.run vs S Q R → evD { D := D, A := A, er := R, L := lfOf nds okp, M := M } b N.length fr vs S Q) : FnOk P w K mg base (CX P w) (lvl + 2) f fd ps (toSp K TT ps.length sp) := by
  obtain ⟨oc, od, dV, kV, doc, pm, an, cdv, ct, osl, rfl, lk, hcd, _, _⟩ := F.ex
  cases hc lk
  refine fn_of lk hcd (scB_ok hS) (fun vs H Q E ⟨vs0, S, hid, _, hl, r, _⟩ => by rw [← r.length, hl]) fun A' outer s H vs Q E hr ⟨vs0, S, hid, hT, hl, r, rel, run⟩ => ?_
  have sk := scB_ok hS
  let X := cxOf (CX P w) P w K mg base N qual scope f (.ref c) A' outer s H E
  let G : SX := { c := { D := D, A := A, M := M, er := fun ex S' => ∀ cls d H', Ext S H S' H' → Rel K hid S' H' → RExc K (Mset S' hid) H' ex cls d → E cls d H', L := lfOf nds (okN N gn nds scope X.env.cells) }, S0 := S, H0 := H, P := fun h => h = hid, ag := fun _ => True, T := TT }
  have : AgT G := ⟨fun _ => trivial⟩
  have lok : ∀ j F, (G.c.L j).ok F → LOk X G (lvl + 1) (G.c.L j) F := fun j F hF => by
    have hF : (lfOf nds (okN N gn nds scope X.env.cells) j).ok F := hF
    show LOk X G (lvl + 1) (lfOf nds (okN N gn nds scope X.env.cells) j) F
    unfold lfOf at hF ⊢
    cases hd : nds[j]? with
    | none =>
      rw [hd] at hF
      exact hF.elim
    | some d =>
      rw [hd] at hF
      have hF : okN N gn nds scope X.env.cells j F := hF
      unfold okN at hF
      rw [hd] at hF
      obtain ⟨h, hcl⟩ := hF
      have mem : d ∈ nds := List.mem_of_getElem? hd
      obtain ⟨h, h5⟩ := and2 h
      obtain ⟨h, h4⟩ := and2 h
      obtain ⟨h, h3⟩ := and2 h
      obtain ⟨h1, h2⟩ := and2 h
      have nk : ∀ f, NOk P w K mg base (CX P w) (lvl + 1) f F d.ps d.fr (toSpN K TT ⟨okN N gn nds scope X.env.cells j, d.ps.length, d.cap, d.sp⟩) := fun f =>
        nok_li (T := { N := d.N, gn := gn }) (fun _ _ _ _ => rfl) h2 (hbind d mem F h3) h4 rfl gok mok att bl (hspN d mem)
      obtain ⟨name, q, pa, bo, sc2, cl, c'⟩ := F
      have hcl : cl = cloFrom X.env.cells sc2.names [] := hcl
      subst hcl
      exact lok_def rfl (Nat.le_refl _) (fun _ => rfl) (ndef_free h1) (ndef_fr h1) (eqS h5) nk
  refine ⟨tSs G K b, ?_, ?_⟩
  · refine okSs (T := { N := N, gn := gn, cap := cap, ndc := ndcL N gn nds tn (lq qual scope) }) (G := G) (lvl := lvl + 1) (sc := scope) b ⟨⟨⟨sk.nd, rfl, hr, fun g => (gok g).up (Nat.le_succ _), fun C m ks => (mok C m ks).up (Nat.le_succ _), ?_, att⟩, rfl, rfl, bl, lok, fun j i hi => ?_⟩, fun _ _ => .inl rfl, sk.kind, ?_, fun j i st z => ?_⟩ hb
    · exact passes_call (takes_of rfl rfl rfl rfl) fun cls d σ H1 h => by
        obtain ⟨ex, S', hid', e1, e2, e3, e4, e5⟩ := h
        cases (show hid' = hid from e1)
        exact e5 cls d H1 e2 e3 e4
    · have hi : i ∈ (lfOf nds (okN N gn nds scope X.env.cells) j).cap := hi
      unfold lfOf at hi
      cases hd : nds[j]? with
      | none =>
        rw [hd] at hi
        exact nomatch hi
      | some d =>
        rw [hd] at hi
        exact hcap d (List.mem_of_getElem? hd) i hi
    · exact passes_of rfl
    · have z : ndcL N gn nds tn (lq qual scope) j i scope st = true := z
      unfold ndcL at z
      split at z
      · rename_i name pa bo sc2 name2 pos
        obtain ⟨z, z5⟩ := and2 z
        obtain ⟨z, z4⟩ := and2 z
        obtain ⟨z, z3⟩ := and2 z
        obtain ⟨z1, z2⟩ := and2 z
        cases eqS z1
        cases hd : nds[j]? with
        | none =>
          rw [hd] at z5
          cases z5
        | some d =>
          rw [hd] at z5
          have z6 := z5
          obtain ⟨h, h5⟩ := and2 z5
          obtain ⟨h, h4⟩ := and2 h
          obtain ⟨h, h3⟩ := and2 h
          obtain ⟨h1, h2⟩ := and2 h
          obtain ⟨a1, a2, a3⟩ := args_ann (env := X.env) h3
          refine sS_ndef (T := TT) TB rfl hm (eq_of_beq (a := tn _ _) (b := lq qual scope ++ _) z4) hu (ndef_free h1) a1 a2 a3 sk.nd (eqS z2) (locB_ok z3) (.inl rfl) rfl fun c' => ?_
          show (lfOf nds (okN N gn nds scope X.env.cells) j).ok _
          unfold lfOf
          rw [hd]
          show okN N gn nds scope X.env.cells j _
          unfold okN
          rw [hd]
          exact ⟨z6, rfl⟩
      · cases z
  · refine ⟨_, S, hid, ⟨rfl, Ext.refl S H, rel, renv_start (N := N) r, trivial, hT⟩, ?_⟩
    have z := hsp (okN N gn nds scope X.env.cells) vs0 S _ _ hl run
    exact evSs_mono b (D := { nx := fun σ S' => frz σ fr .non S' (PoE K hid S H Q), rt := PoE K hid S H Q }) ⟨fun σ2 S2 q σ2' H2 e2 rel2 env2 => by
      obtain ⟨u, S3, q1, q2, q3, q4⟩ := frz_rd (x := .non) q rel2 rfl
      exact q1 .non H2 (e2.trans q2) q3 q4, fun v S2 q v' H2 e2 rel2 r2 => q v' H2 e2 rel2 r2, fun _ _ q => q.elim, fun _ _ q => q.elim⟩ z
end Li
set_option Elab.async false
set_option linter.all false
set_option maxRecDepth 100000
set_option maxHeartbeats 0
namespace L37
open PySem Li L2
def top (i : Nat) : Stmt := (PySem.Challenge.rw_lightshares_k37_names_too_near).prog.main.body.getD i (.Pass ⟨0, 0, 0, 0⟩)
def meth (n : Str) : Stmt → Stmt
  | .ClassDef _ _ _ b _ _ _ _ _ _ _ => (b.find? fun | .FunctionDef x .. => x == n | _ => false).getD (.Pass ⟨0, 0, 0, 0⟩)
  | s => s
def gn0 : List Str := [("" : Str), ("" : Str), ("" : Str), ("" : Str), ("" : Str), ("" : Str), ("" : Str), ("" : Str), ("" : Str), ("" : Str), ("" : Str), ("ZERO" : Str), ("is_whole" : Str), ("share_of" : Str), ("low" : Str), ("is_fraction" : Str), ("from_zero" : Str), ("in_one" : Str), ("add" : Str), ("less" : Str), ("mul" : Str), ("is_less" : Str), ("total" : Str), ("" : Str), ("Shade" : Str), ("check_shade" : Str), ("parts_of" : Str), ("shares_of" : Str), ("MOST_EYE" : Str), ("EVEN" : Str), ("is_eye" : Str), ("check_eye" : Str), ("far_by" : Str), ("MOST_NAMES" : Str), ("MOST_LETTERS" : Str), ("LETTERS" : Str), ("is_name" : Str), ("check_name" : Str), ("Book" : Str), ("rows_of" : Str)]
def gn1 : List Str := [("LEAST_LIMIT" : Str), ("MOST_LIMIT" : Str), ("check_limit" : Str), ("check_book" : Str), ("is_near" : Str), ("near_names" : Str), ("pairs_near" : Str), ("" : Str), ("" : Str), ("" : Str), ("" : Str), ("" : Str), ("" : Str), ("" : Str), ("" : Str), ("" : Str), ("" : Str), ("" : Str), ("" : Str), ("" : Str), ("" : Str), ("" : Str), ("" : Str), ("" : Str), ("" : Str), ("" : Str), ("" : Str), ("" : Str), ("" : Str), ("" : Str), ("" : Str), ("" : Str), ("" : Str), ("" : Str), ("" : Str), ("" : Str), ("" : Str), ("" : Str), ("" : Str), ("" : Str)]
def gn2 : List Str := [("" : Str), ("" : Str), ("" : Str), ("" : Str), ("" : Str), ("" : Str), ("" : Str), ("" : Str), ("" : Str), ("" : Str), ("" : Str), ("" : Str), ("" : Str), ("" : Str), ("" : Str), ("" : Str), ("" : Str), ("" : Str), ("" : Str), ("" : Str), ("" : Str), ("" : Str), ("" : Str), ("" : Str), ("" : Str), ("" : Str), ("" : Str), ("" : Str), ("" : Str), ("" : Str), ("" : Str), ("" : Str), ("" : Str), ("" : Str), ("" : Str), ("" : Str), ("" : Str), ("" : Str), ("" : Str), ("" : Str)]
def gn3 : List Str := [("" : Str), ("" : Str), ("" : Str), ("" : Str), ("" : Str), ("" : Str), ("" : Str), ("" : Str), ("" : Str), ("" : Str), ("" : Str), ("" : Str), ("" : Str), ("" : Str), ("" : Str), ("" : Str), ("" : Str), ("" : Str), ("" : Str), ("" : Str), ("" : Str), ("" : Str), ("" : Str), ("" : Str), ("" : Str), ("" : Str), ("" : Str), ("" : Str), ("" : Str), ("" : Str), ("" : Str), ("" : Str), ("" : Str), ("" : Str), ("" : Str), ("" : Str), ("" : Str), ("" : Str), ("" : Str), ("" : Str)]
def gn4 : List Str := [("" : Str), ("" : Str), ("" : Str), ("" : Str), ("" : Str), ("" : Str), ("" : Str), ("" : Str), ("" : Str), ("" : Str), ("" : Str), ("" : Str), ("" : Str), ("" : Str), ("" : Str), ("" : Str), ("" : Str), ("" : Str), ("" : Str), ("" : Str), ("" : Str), ("" : Str), ("" : Str), ("" : Str), ("" : Str), ("" : Str), ("" : Str), ("" : Str), ("" : Str), ("" : Str), ("" : Str), ("" : Str), ("" : Str), ("" : Str), ("" : Str), ("" : Str), ("" : Str), ("" : Str), ("" : Str), ("" : Str)]
def gn5 : List Str := [("" : Str), ("" : Str), ("" : Str), ("" : Str), ("" : Str), ("" : Str), ("" : Str), ("" : Str), ("" : Str), ("" : Str), ("" : Str), ("" : Str), ("" : Str), ("" : Str), ("" : Str), ("" : Str), ("" : Str), ("" : Str), ("" : Str), ("" : Str), ("" : Str), ("" : Str), ("" : Str), ("" : Str), ("" : Str), ("" : Str), ("" : Str), ("" : Str), ("" : Str), ("" : Str), ("" : Str), ("" : Str), ("" : Str), ("" : Str), ("" : Str), ("" : Str), ("" : Str), ("" : Str), ("" : Str), ("" : Str)]
def gn6 : List Str := [("" : Str), ("" : Str), ("" : Str), ("" : Str), ("" : Str), ("" : Str), ("" : Str), ("" : Str), ("" : Str), ("" : Str), ("" : Str), ("" : Str), ("Book" : Str), ("pairs_near" : Str), ("" : Str), ("" : Str), ("" : Str), ("" : Str), ("" : Str), ("" : Str), ("" : Str), ("" : Str), ("" : Str), ("" : Str), ("" : Str), ("" : Str), ("" : Str), ("" : Str), ("" : Str), ("" : Str), ("" : Str), ("" : Str), ("" : Str), ("" : Str), ("" : Str), ("" : Str), ("" : Str), ("" : Str), ("" : Str), ("" : Str)]
def gn7 : List Str := [("" : Str), ("" : Str), ("" : Str), ("" : Str), ("" : Str), ("" : Str), ("" : Str), ("" : Str), ("" : Str), ("" : Str), ("" : Str), ("" : Str), ("" : Str), ("" : Str), ("" : Str), ("" : Str), ("" : Str), ("" : Str), ("" : Str), ("" : Str), ("_law_cell" : Str), ("_law_purse" : Str), ("_law_pick" : Str), ("_law_low" : Str), ("_law_plus" : Str), ("_law_minus" : Str), ("_law_times" : Str), ("_law_below" : Str), ("_law_plain_share" : Str), ("_law_eye" : Str), ("_law_far" : Str), ("_law_name" : Str), ("_law_beside" : Str), ("_law_book" : Str), ("_law_limit" : Str), ("_law_stays" : Str), ("_law_pairs" : Str), ("_law_right" : Str), ("law" : Str)]
def gn : List Str := gn0 ++ gn1 ++ gn2 ++ gn3 ++ gn4 ++ gn5 ++ gn6 ++ gn7
def nm (g : Nat) : Str := (gn[g]?).getD (Str.ofString "")
abbrev s_is_whole : Stmt := top 14
theorem c_is_whole : ckSs { N := Pt.N_is_whole, gn := gn } (defScope s_is_whole) Pt.b_is_whole (defBody s_is_whole) = true := by kernel_rfl
theorem d_is_whole : scB Pt.N_is_whole Pt.p_is_whole (defScope s_is_whole) = true := by kernel_rfl
abbrev s_share_of : Stmt := top 15
theorem c_share_of : ckSs { N := Pt.N_share_of, gn := gn } (defScope s_share_of) Pt.b_share_of (defBody s_share_of) = true := by kernel_rfl
theorem d_share_of : scB Pt.N_share_of Pt.p_share_of (defScope s_share_of) = true := by kernel_rfl
abbrev s_low : Stmt := top 16
theorem c_low : ckSs { N := Pt.N_low, gn := gn } (defScope s_low) Pt.b_low (defBody s_low) = true := by kernel_rfl
theorem d_low : scB Pt.N_low Pt.p_low (defScope s_low) = true := by kernel_rfl
abbrev s_is_fraction : Stmt := top 17
theorem c_is_fraction : ckSs { N := Pt.N_is_fraction, gn := gn } (defScope s_is_fraction) Pt.b_is_fraction (defBody s_is_fraction) = true := by kernel_rfl
theorem d_is_fraction : scB Pt.N_is_fraction Pt.p_is_fraction (defScope s_is_fraction) = true := by kernel_rfl
abbrev s_from_zero : Stmt := top 18
theorem c_from_zero : ckSs { N := Pt.N_from_zero, gn := gn } (defScope s_from_zero) Pt.b_from_zero (defBody s_from_zero) = true := by kernel_rfl
theorem d_from_zero : scB Pt.N_from_zero Pt.p_from_zero (defScope s_from_zero) = true := by kernel_rfl
abbrev s_in_one : Stmt := top 19
theorem c_in_one : ckSs { N := Pt.N_in_one, gn := gn } (defScope s_in_one) Pt.b_in_one (defBody s_in_one) = true := by kernel_rfl
theorem d_in_one : scB Pt.N_in_one Pt.p_in_one (defScope s_in_one) = true := by kernel_rfl
abbrev s_add : Stmt := top 20
theorem c_add : ckSs { N := Pt.N_add, gn := gn } (defScope s_add) Pt.b_add (defBody s_add) = true := by kernel_rfl
theorem d_add : scB Pt.N_add Pt.p_add (defScope s_add) = true := by kernel_rfl
abbrev s_less : Stmt := top 21
theorem c_less : ckSs { N := Pt.N_less, gn := gn } (defScope s_less) Pt.b_less (defBody s_less) = true := by kernel_rfl
theorem d_less : scB Pt.N_less Pt.p_less (defScope s_less) = true := by kernel_rfl
abbrev s_mul : Stmt := top 22
theorem c_mul : ckSs { N := Pt.N_mul, gn := gn } (defScope s_mul) Pt.b_mul (defBody s_mul) = true := by kernel_rfl
theorem d_mul : scB Pt.N_mul Pt.p_mul (defScope s_mul) = true := by kernel_rfl
abbrev s_is_less : Stmt := top 23
theorem c_is_less : ckSs { N := Pt.N_is_less, gn := gn } (defScope s_is_less) Pt.b_is_less (defBody s_is_less) = true := by kernel_rfl
theorem d_is_less : scB Pt.N_is_less Pt.p_is_less (defScope s_is_less) = true := by kernel_rfl
abbrev s_total : Stmt := top 24
theorem c_total : ckSs { N := Pt.N_total, gn := gn } (defScope s_total) Pt.b_total (defBody s_total) = true := by kernel_rfl
theorem d_total : scB Pt.N_total Pt.p_total (defScope s_total) = true := by kernel_rfl
abbrev s_Shade.__init__ : Stmt := meth ("__init__" : Str) (top 27)
theorem c_Shade.__init__ : ckSs { N := Pt.N_Shade.__init__, gn := gn } (defScope s_Shade.__init__) Pt.b_Shade.__init__ (defBody s_Shade.__init__) = true := by kernel_rfl
theorem d_Shade.__init__ : scB Pt.N_Shade.__init__ Pt.p_Shade.__init__ (defScope s_Shade.__init__) = true := by kernel_rfl
abbrev s_Shade.__len__ : Stmt := meth ("__len__" : Str) (top 27)
theorem c_Shade.__len__ : ckSs { N := Pt.N_Shade.__len__, gn := gn } (defScope s_Shade.__len__) Pt.b_Shade.__len__ (defBody s_Shade.__len__) = true := by kernel_rfl
theorem d_Shade.__len__ : scB Pt.N_Shade.__len__ Pt.p_Shade.__len__ (defScope s_Shade.__len__) = true := by kernel_rfl
abbrev s_check_shade : Stmt := top 28
theorem c_check_shade : ckSs { N := Pt.N_check_shade, gn := gn } (defScope s_check_shade) Pt.b_check_shade (defBody s_check_shade) = true := by kernel_rfl
theorem d_check_shade : scB Pt.N_check_shade Pt.p_check_shade (defScope s_check_shade) = true := by kernel_rfl
abbrev s_parts_of : Stmt := top 29
theorem c_parts_of : ckSs { N := Pt.N_parts_of, gn := gn } (defScope s_parts_of) Pt.b_parts_of (defBody s_parts_of) = true := by kernel_rfl
theorem d_parts_of : scB Pt.N_parts_of Pt.p_parts_of (defScope s_parts_of) = true := by kernel_rfl
abbrev s_shares_of : Stmt := top 30
theorem c_shares_of : ckSs { N := Pt.N_shares_of, gn := gn } (defScope s_shares_of) Pt.b_shares_of (defBody s_shares_of) = true := by kernel_rfl
theorem d_shares_of : scB Pt.N_shares_of Pt.p_shares_of (defScope s_shares_of) = true := by kernel_rfl
abbrev s_is_eye : Stmt := top 34
theorem c_is_eye : ckSs { N := Pt.N_is_eye, gn := gn } (defScope s_is_eye) Pt.b_is_eye (defBody s_is_eye) = true := by kernel_rfl
theorem d_is_eye : scB Pt.N_is_eye Pt.p_is_eye (defScope s_is_eye) = true := by kernel_rfl
abbrev s_check_eye : Stmt := top 35
theorem c_check_eye : ckSs { N := Pt.N_check_eye, gn := gn } (defScope s_check_eye) Pt.b_check_eye (defBody s_check_eye) = true := by kernel_rfl
theorem d_check_eye : scB Pt.N_check_eye Pt.p_check_eye (defScope s_check_eye) = true := by kernel_rfl
abbrev s_far_by : Stmt := top 36
def nd_far_by (sp : ISp) : List NdT := [⟨Pt.NN_far_by_part, Pt.np_far_by_part, Pt.nf_far_by_part, Pt.nc_far_by_part, Pt.nb_far_by_part, [], sp⟩]
def tn_far_by : Nat → Nat → Str := fun _ _ => lq ("far_by" : Str) (defScope s_far_by) ++ ("part" : Str)
theorem c_far_by (sp : ISp) : ckSs { N := Pt.N_far_by, gn := gn, cap := Pt.nc_far_by_part, ndc := ndcL Pt.N_far_by gn (nd_far_by sp) tn_far_by (lq ("far_by" : Str) (defScope s_far_by)) } (defScope s_far_by) Pt.b_far_by (defBody s_far_by) = true := by kernel_rfl
theorem d_far_by : scB Pt.N_far_by Pt.p_far_by (defScope s_far_by) = true := by kernel_rfl
abbrev s_is_name : Stmt := top 41
theorem c_is_name : ckSs { N := Pt.N_is_name, gn := gn } (defScope s_is_name) Pt.b_is_name (defBody s_is_name) = true := by kernel_rfl
theorem d_is_name : scB Pt.N_is_name Pt.p_is_name (defScope s_is_name) = true := by kernel_rfl
abbrev s_check_name : Stmt := top 42
theorem c_check_name : ckSs { N := Pt.N_check_name, gn := gn } (defScope s_check_name) Pt.b_check_name (defBody s_check_name) = true := by kernel_rfl
theorem d_check_name : scB Pt.N_check_name Pt.p_check_name (defScope s_check_name) = true := by kernel_rfl
abbrev s_Book.__init__ : Stmt := meth ("__init__" : Str) (top 43)
theorem c_Book.__init__ : ckSs { N := Pt.N_Book.__init__, gn := gn } (defScope s_Book.__init__) Pt.b_Book.__init__ (defBody s_Book.__init__) = true := by kernel_rfl
theorem d_Book.__init__ : scB Pt.N_Book.__init__ Pt.p_Book.__init__ (defScope s_Book.__init__) = true := by kernel_rfl
abbrev s_Book.place_of : Stmt := meth ("place_of" : Str) (top 43)
theorem c_Book.place_of : ckSs { N := Pt.N_Book.place_of, gn := gn } (defScope s_Book.place_of) Pt.b_Book.place_of (defBody s_Book.place_of) = true := by kernel_rfl
theorem d_Book.place_of : scB Pt.N_Book.place_of Pt.p_Book.place_of (defScope s_Book.place_of) = true := by kernel_rfl
abbrev s_Book.check_new : Stmt := meth ("check_new" : Str) (top 43)
theorem c_Book.check_new : ckSs { N := Pt.N_Book.check_new, gn := gn } (defScope s_Book.check_new) Pt.b_Book.check_new (defBody s_Book.check_new) = true := by kernel_rfl
theorem d_Book.check_new : scB Pt.N_Book.check_new Pt.p_Book.check_new (defScope s_Book.check_new) = true := by kernel_rfl
abbrev s_Book.turn_to : Stmt := meth ("turn_to" : Str) (top 43)
theorem c_Book.turn_to : ckSs { N := Pt.N_Book.turn_to, gn := gn } (defScope s_Book.turn_to) Pt.b_Book.turn_to (defBody s_Book.turn_to) = true := by kernel_rfl
theorem d_Book.turn_to : scB Pt.N_Book.turn_to Pt.p_Book.turn_to (defScope s_Book.turn_to) = true := by kernel_rfl
abbrev s_Book.put : Stmt := meth ("put" : Str) (top 43)
theorem c_Book.put : ckSs { N := Pt.N_Book.put, gn := gn } (defScope s_Book.put) Pt.b_Book.put (defBody s_Book.put) = true := by kernel_rfl
theorem d_Book.put : scB Pt.N_Book.put Pt.p_Book.put (defScope s_Book.put) = true := by kernel_rfl
abbrev s_Book.rename : Stmt := meth ("rename" : Str) (top 43)
theorem c_Book.rename : ckSs { N := Pt.N_Book.rename, gn := gn } (defScope s_Book.rename) Pt.b_Book.rename (defBody s_Book.rename) = true := by kernel_rfl
theorem d_Book.rename : scB Pt.N_Book.rename Pt.p_Book.rename (defScope s_Book.rename) = true := by kernel_rfl
abbrev s_Book.drop : Stmt := meth ("drop" : Str) (top 43)
theorem c_Book.drop : ckSs { N := Pt.N_Book.drop, gn := gn } (defScope s_Book.drop) Pt.b_Book.drop (defBody s_Book.drop) = true := by kernel_rfl
theorem d_Book.drop : scB Pt.N_Book.drop Pt.p_Book.drop (defScope s_Book.drop) = true := by kernel_rfl
abbrev s_Book.shade : Stmt := meth ("shade" : Str) (top 43)
theorem c_Book.shade : ckSs { N := Pt.N_Book.shade, gn := gn } (defScope s_Book.shade) Pt.b_Book.shade (defBody s_Book.shade) = true := by kernel_rfl
theorem d_Book.shade : scB Pt.N_Book.shade Pt.p_Book.shade (defScope s_Book.shade) = true := by kernel_rfl
abbrev s_Book.names : Stmt := meth ("names" : Str) (top 43)
theorem c_Book.names : ckSs { N := Pt.N_Book.names, gn := gn } (defScope s_Book.names) Pt.b_Book.names (defBody s_Book.names) = true := by kernel_rfl
theorem d_Book.names : scB Pt.N_Book.names Pt.p_Book.names (defScope s_Book.names) = true := by kernel_rfl
abbrev s_Book.__len__ : Stmt := meth ("__len__" : Str) (top 43)
theorem c_Book.__len__ : ckSs { N := Pt.N_Book.__len__, gn := gn } (defScope s_Book.__len__) Pt.b_Book.__len__ (defBody s_Book.__len__) = true := by kernel_rfl
theorem d_Book.__len__ : scB Pt.N_Book.__len__ Pt.p_Book.__len__ (defScope s_Book.__len__) = true := by kernel_rfl
abbrev s_rows_of : Stmt := top 44
theorem c_rows_of : ckSs { N := Pt.N_rows_of, gn := gn } (defScope s_rows_of) Pt.b_rows_of (defBody s_rows_of) = true := by kernel_rfl
theorem d_rows_of : scB Pt.N_rows_of Pt.p_rows_of (defScope s_rows_of) = true := by kernel_rfl
abbrev s_check_limit : Stmt := top 48
theorem c_check_limit : ckSs { N := Pt.N_check_limit, gn := gn } (defScope s_check_limit) Pt.b_check_limit (defBody s_check_limit) = true := by kernel_rfl
theorem d_check_limit : scB Pt.N_check_limit Pt.p_check_limit (defScope s_check_limit) = true := by kernel_rfl
abbrev s_check_book : Stmt := top 50
theorem c_check_book : ckSs { N := Pt.N_check_book, gn := gn } (defScope s_check_book) Pt.b_check_book (defBody s_check_book) = true := by kernel_rfl
theorem d_check_book : scB Pt.N_check_book Pt.p_check_book (defScope s_check_book) = true := by kernel_rfl
abbrev s_is_near : Stmt := top 51
theorem c_is_near : ckSs { N := Pt.N_is_near, gn := gn } (defScope s_is_near) Pt.b_is_near (defBody s_is_near) = true := by kernel_rfl
theorem d_is_near : scB Pt.N_is_near Pt.p_is_near (defScope s_is_near) = true := by kernel_rfl
abbrev s_near_names : Stmt := top 52
theorem c_near_names : ckSs { N := Pt.N_near_names, gn := gn } (defScope s_near_names) Pt.b_near_names (defBody s_near_names) = true := by kernel_rfl
theorem d_near_names : scB Pt.N_near_names Pt.p_near_names (defScope s_near_names) = true := by kernel_rfl
abbrev s_pairs_near : Stmt := top 53
theorem c_pairs_near : ckSs { N := Pt.N_pairs_near, gn := gn } (defScope s_pairs_near) Pt.b_pairs_near (defBody s_pairs_near) = true := by kernel_rfl
theorem d_pairs_near : scB Pt.N_pairs_near Pt.p_pairs_near (defScope s_pairs_near) = true := by kernel_rfl
abbrev s__law_cell : Stmt := top 55
theorem c__law_cell : ckSs { N := Lt.N__law_cell, gn := gn } (defScope s__law_cell) Lt.b__law_cell (defBody s__law_cell) = true := by kernel_rfl
theorem d__law_cell : scB Lt.N__law_cell Lt.p__law_cell (defScope s__law_cell) = true := by kernel_rfl
abbrev s__law_purse : Stmt := top 56
theorem c__law_purse : ckSs { N := Lt.N__law_purse, gn := gn } (defScope s__law_purse) Lt.b__law_purse (defBody s__law_purse) = true := by kernel_rfl
theorem d__law_purse : scB Lt.N__law_purse Lt.p__law_purse (defScope s__law_purse) = true := by kernel_rfl
abbrev s__law_pick : Stmt := top 57
theorem c__law_pick : ckSs { N := Lt.N__law_pick, gn := gn } (defScope s__law_pick) Lt.b__law_pick (defBody s__law_pick) = true := by kernel_rfl
theorem d__law_pick : scB Lt.N__law_pick Lt.p__law_pick (defScope s__law_pick) = true := by kernel_rfl
abbrev s__law_low : Stmt := top 58
theorem c__law_low : ckSs { N := Lt.N__law_low, gn := gn } (defScope s__law_low) Lt.b__law_low (defBody s__law_low) = true := by kernel_rfl
theorem d__law_low : scB Lt.N__law_low Lt.p__law_low (defScope s__law_low) = true := by kernel_rfl
abbrev s__law_plus : Stmt := top 59
theorem c__law_plus : ckSs { N := Lt.N__law_plus, gn := gn } (defScope s__law_plus) Lt.b__law_plus (defBody s__law_plus) = true := by kernel_rfl
theorem d__law_plus : scB Lt.N__law_plus Lt.p__law_plus (defScope s__law_plus) = true := by kernel_rfl
abbrev s__law_minus : Stmt := top 60
theorem c__law_minus : ckSs { N := Lt.N__law_minus, gn := gn } (defScope s__law_minus) Lt.b__law_minus (defBody s__law_minus) = true := by kernel_rfl
theorem d__law_minus : scB Lt.N__law_minus Lt.p__law_minus (defScope s__law_minus) = true := by kernel_rfl
abbrev s__law_times : Stmt := top 61
theorem c__law_times : ckSs { N := Lt.N__law_times, gn := gn } (defScope s__law_times) Lt.b__law_times (defBody s__law_times) = true := by kernel_rfl
theorem d__law_times : scB Lt.N__law_times Lt.p__law_times (defScope s__law_times) = true := by kernel_rfl
abbrev s__law_below : Stmt := top 62
theorem c__law_below : ckSs { N := Lt.N__law_below, gn := gn } (defScope s__law_below) Lt.b__law_below (defBody s__law_below) = true := by kernel_rfl
theorem d__law_below : scB Lt.N__law_below Lt.p__law_below (defScope s__law_below) = true := by kernel_rfl
abbrev s__law_plain_share : Stmt := top 63
theorem c__law_plain_share : ckSs { N := Lt.N__law_plain_share, gn := gn } (defScope s__law_plain_share) Lt.b__law_plain_share (defBody s__law_plain_share) = true := by kernel_rfl
theorem d__law_plain_share : scB Lt.N__law_plain_share Lt.p__law_plain_share (defScope s__law_plain_share) = true := by kernel_rfl
abbrev s__law_eye : Stmt := top 64
theorem c__law_eye : ckSs { N := Lt.N__law_eye, gn := gn } (defScope s__law_eye) Lt.b__law_eye (defBody s__law_eye) = true := by kernel_rfl
theorem d__law_eye : scB Lt.N__law_eye Lt.p__law_eye (defScope s__law_eye) = true := by kernel_rfl
abbrev s__law_far : Stmt := top 65
theorem c__law_far : ckSs { N := L37.N__law_far, gn := gn } (defScope s__law_far) L37.b__law_far (defBody s__law_far) = true := by kernel_rfl
theorem d__law_far : scB L37.N__law_far L37.p__law_far (defScope s__law_far) = true := by kernel_rfl
abbrev s__law_name : Stmt := top 66
theorem c__law_name : ckSs { N := Lt.N__law_name, gn := gn } (defScope s__law_name) Lt.b__law_name (defBody s__law_name) = true := by kernel_rfl
theorem d__law_name : scB Lt.N__law_name Lt.p__law_name (defScope s__law_name) = true := by kernel_rfl
abbrev s__law_beside : Stmt := top 67
theorem c__law_beside : ckSs { N := Lt.N__law_beside, gn := gn } (defScope s__law_beside) Lt.b__law_beside (defBody s__law_beside) = true := by kernel_rfl
theorem d__law_beside : scB Lt.N__law_beside Lt.p__law_beside (defScope s__law_beside) = true := by kernel_rfl
abbrev s__law_book : Stmt := top 68
theorem c__law_book : ckSs { N := Lt.N__law_book, gn := gn } (defScope s__law_book) Lt.b__law_book (defBody s__law_book) = true := by kernel_rfl
theorem d__law_book : scB Lt.N__law_book Lt.p__law_book (defScope s__law_book) = true := by kernel_rfl
abbrev s__law_limit : Stmt := top 69
theorem c__law_limit : ckSs { N := Lt.N__law_limit, gn := gn } (defScope s__law_limit) Lt.b__law_limit (defBody s__law_limit) = true := by kernel_rfl
theorem d__law_limit : scB Lt.N__law_limit Lt.p__law_limit (defScope s__law_limit) = true := by kernel_rfl
abbrev s__law_stays : Stmt := top 70
theorem c__law_stays : ckSs { N := Lt.N__law_stays, gn := gn } (defScope s__law_stays) Lt.b__law_stays (defBody s__law_stays) = true := by kernel_rfl
theorem d__law_stays : scB Lt.N__law_stays Lt.p__law_stays (defScope s__law_stays) = true := by kernel_rfl
abbrev s__law_pairs : Stmt := top 71
theorem c__law_pairs : ckSs { N := Lt.N__law_pairs, gn := gn } (defScope s__law_pairs) Lt.b__law_pairs (defBody s__law_pairs) = true := by kernel_rfl
theorem d__law_pairs : scB Lt.N__law_pairs Lt.p__law_pairs (defScope s__law_pairs) = true := by kernel_rfl
abbrev s__law_right : Stmt := top 72
theorem c__law_right : ckSs { N := L37.N__law_right, gn := gn } (defScope s__law_right) L37.b__law_right (defBody s__law_right) = true := by kernel_rfl
theorem d__law_right : scB L37.N__law_right L37.p__law_right (defScope s__law_right) = true := by kernel_rfl
abbrev s_law : Stmt := top 73
theorem c_law : ckSs { N := L37.N_law, gn := gn } (defScope s_law) L37.b_law (defBody s_law) = true := by kernel_rfl
theorem d_law : scB L37.N_law L37.p_law (defScope s_law) = true := by kernel_rfl
end L37
set_option Elab.async false
set_option linter.all false
set_option maxRecDepth 100000
/-! LiSim: equations by which a text of Li is walked. -/
namespace Li
open PySem
def tabA (l : List (Nat × Li.G)) (i : Nat) : Li.G := (l.lookup i).getD .none
theorem tabA_hit {l : List (Nat × Li.G)} {i : Nat} {g : Li.G} : tabA ((i, g) :: l) i = g := by
  unfold tabA
  rw [List.lookup_cons]
  simp
theorem tabA_miss {l : List (Nat × Li.G)} {i j : Nat} {g : Li.G} (h : (j == i) = false) : tabA ((i, g) :: l) j = tabA l j := by
  unfold tabA
  rw [List.lookup_cons, h]
section
variable {σ : Env} {S : Sto} {v w x y : Val} {Q : Val → Prop} {i j : Int} {n m : Nat}
theorem slotQ_0 : slotQ (some v :: σ) 0 Q = Q v := rfl
theorem slotQ_s {o : Option Val} : slotQ (o :: σ) (n + 1) Q = slotQ σ n Q := by
  unfold slotQ
  rw [List.getElem?_cons_succ]
theorem cloQ_0 {f F} {P : NdefX.NF → Prop} : cloQ (some (.clo f F) :: σ) 0 P = P F := rfl
theorem cloQ_s {o : Option Val} {P : NdefX.NF → Prop} : cloQ (o :: σ) (n + 1) P = cloQ σ n P := by
  unfold cloQ
  rw [List.getElem?_cons_succ]
theorem capQ_nil {P : List Val → Prop} : capQ σ [] P = P [] := rfl
theorem capQ_cons {i : Nat} {r : List Nat} {P : List Val → Prop} : capQ σ (i :: r) P = slotQ σ i fun v => capQ σ r fun vs => P (v :: vs) := rfl
theorem intQ_i {P : Int → Prop} : intQ (.int i) P = P i := rfl
theorem adrQ_a {a : Addr} {P : Addr → Prop} : adrQ (.adr a) P = P a := rfl
theorem lstQ_l {vs : List Val} {P : List Val → Prop} : lstQ (.lst vs) P = P vs := rfl
theorem tupQ_t {vs : List Val} {P : List Val → Prop} : tupQ (.tup vs) P = P vs := rfl
theorem dctQ_d {ks : List L2.Key} {vs : List Val} {P : List L2.Key → List Val → Prop} : dctQ (.dct ks vs) P = P ks vs := rfl
theorem optQ_s {α : Type} {x : α} {P : α → Prop} : optQ (some x) P = P x := rfl
theorem optQ_n {α : Type} {P : α → Prop} : optQ none P = False := rfl
theorem gvalQ_v {P : Val → Prop} : gvalQ (.val v) P = P v := rfl
theorem brV_s {b : Bool} {A B : Prop} : brV (some b) A B = (if b = true then A else B) := by cases b <;> rfl
theorem brV_t {A B : Prop} : brV (some true) A B = A := rfl
theorem brV_f {A B : Prop} : brV (some false) A B = B := rfl
theorem celQ_h {a : Addr} {vs : List Val} {P : List Val → Prop} (h : S a = some (.lst vs)) : celQ S a P = P vs := by
  unfold celQ
  rw [h]
theorem objQ_h {a C : Addr} {fs : List (Str × Val)} {P : Addr → List (Str × Val) → Prop} (h : S a = some (.obj C fs)) : objQ S a P = P C fs := by
  unfold objQ
  rw [h]
theorem asL_l {vs : List Val} : asL S (.lst vs) = some vs := rfl
theorem asL_a {a : Addr} {vs : List Val} (h : S a = some (.lst vs)) : asL S (.adr a) = some vs := by
  show (match S a with
    | some (.lst vs) => some vs
    | _ => none) = _
  rw [h]
theorem truV_b {b : Bool} : truV S (.bl b) = some b := rfl
theorem truV_n : truV S .non = some false := rfl
theorem truV_i : truV S (.int i) = some (i != 0) := rfl
theorem lenV_t {vs : List Val} : lenV S (.tup vs) = some vs.length := rfl
theorem lenV_s {ns : List Int} : lenV S (.scr ns) = some ns.length := rfl
theorem lenV_l {vs : List Val} : lenV S (.lst vs) = some vs.length := rfl
theorem lenV_a {a : Addr} {vs : List Val} (h : S a = some (.lst vs)) : lenV S (.adr a) = some vs.length := by
  show (asL S (.adr a)).map _ = _
  rw [asL_a h]
  rfl
theorem idxV_t {vs : List Val} : idxV S (.tup vs) (.int i) Q = optQ (L2.atI vs i) Q := rfl
theorem idxV_s {ns : List Int} : idxV S (.scr ns) (.int i) Q = optQ (L2.atI (ns.map Val.int) i) Q := rfl
theorem idxV_l {vs : List Val} : idxV S (.lst vs) (.int i) Q = optQ (L2.atI vs i) Q := rfl
theorem idxV_a {a : Addr} {vs : List Val} (h : S a = some (.lst vs)) : idxV S (.adr a) (.int i) Q = optQ (L2.atI vs i) Q := by
  unfold idxV intQ
  show optQ (asL S (.adr a)) _ = _
  rw [asL_a h]
  rfl
theorem atI_nat {α : Type} {vs : List α} {k : Nat} (h : k < vs.length) : L2.atI vs (k : Int) = vs[k]? := by
  unfold L2.atI L2.ixN
  rw [if_pos (by omega), if_pos (by omega)]
  simp
theorem atI_0 {α : Type} {a : α} {r : List α} : L2.atI (a :: r) 0 = some a := atI_nat (k := 0) (by simp)
theorem atI_1 {α : Type} {a b : α} {r : List α} : L2.atI (a :: b :: r) 1 = some b := atI_nat (k := 1) (by simp)
theorem atI_2 {α : Type} {a b c : α} {r : List α} : L2.atI (a :: b :: c :: r) 2 = some c := atI_nat (k := 2) (by simp)
theorem atI_3 {α : Type} {a b c d : α} {r : List α} : L2.atI (a :: b :: c :: d :: r) 3 = some d := atI_nat (k := 3) (by simp)
theorem bin_add : binV S .Add (.int i) (.int j) Q = Q (.int (i + j)) := rfl
theorem bin_sub : binV S .Sub (.int i) (.int j) Q = Q (.int (i - j)) := by
  unfold binV int2
  simp
theorem bin_mul : binV S .Mult (.int i) (.int j) Q = (L2.CMulX i j ∧ Q (.int (i * j))) := rfl
theorem bin_div : binV S .FloorDiv (.int i) (.int j) Q = (L2.CDivW i j ∧ Q (.int (i / j))) := rfl
theorem bin_mod : binV S .Mod (.int i) (.int j) Q = (0 < j ∧ Q (.int (i % j))) := rfl
theorem bin_pow : binV S .Pow (.int i) (.int j) Q = (L2.CPow i j ∧ Q (.int (i ^ j.toNat))) := rfl
theorem bin_shl : binV S .LShift (.int i) (.int j) Q = (L2.CPow i j ∧ Q (.int (i * 2 ^ j.toNat))) := rfl
theorem bin_shr : binV S .RShift (.int i) (.int j) Q = (0 ≤ j ∧ Q (.int (i / 2 ^ j.toNat))) := rfl
theorem bin_and : binV S .BitAnd (.int i) (.int j) Q = Q (.int (Builtin.bitAnd i j)) := by
  unfold binV int2
  simp
theorem bin_addL {a b : List Val} : binV S .Add (.lst a) (.lst b) Q = (a.length + b.length ≤ sizeLine ∧ Q (.lst (a ++ b))) := rfl
theorem bin_addLA {a : List Val} {p : Addr} {b : List Val} (h : S p = some (.lst b)) : binV S .Add (.lst a) (.adr p) Q = (a.length + b.length ≤ sizeLine ∧ Q (.lst (a ++ b))) := by
  show optQ (asL S (.lst a)) (fun a => optQ (asL S (.adr p)) fun b => a.length + b.length ≤ sizeLine ∧ Q (.lst (a ++ b))) = _
  rw [asL_l, optQ_s, asL_a h, optQ_s]
theorem bin_addT {a b : List Val} : binV S .Add (.tup a) (.tup b) Q = (a.length + b.length ≤ sizeLine ∧ Q (.tup (a ++ b))) := rfl
theorem aug_add : augV .Add (.int i) (.int j) Q = Q (.int (i + j)) := by
  unfold augV int2
  simp
theorem aug_sub : augV .Sub (.int i) (.int j) Q = Q (.int (i - j)) := by
  unfold augV int2
  simp
theorem aug_mul : augV .Mult (.int i) (.int j) Q = (L2.CMulX i j ∧ Q (.int (i * j))) := rfl
variable {P : Bool → Prop}
theorem cmp_lt : cmpV S .Lt (.int i) (.int j) P = P (decide (i < j)) := rfl
theorem cmp_le : cmpV S .LtE (.int i) (.int j) P = P (decide (i ≤ j)) := rfl
theorem cmp_gt : cmpV S .Gt (.int i) (.int j) P = P (decide (j < i)) := rfl
theorem cmp_ge : cmpV S .GtE (.int i) (.int j) P = P (decide (j ≤ i)) := rfl
theorem cmp_is : cmpV S .Is x .non P = P (isNon x) := by
  unfold cmpV
  show (isNon .non = true ∧ P (isNon x)) = _
  simp [isNon]
theorem cmp_isnt : cmpV S .IsNot x .non P = P (!isNon x) := by
  unfold cmpV
  show (isNon .non = true ∧ P (!isNon x)) = _
  simp [isNon]
theorem eqv_int : PyData.eqv (.int i) (.int j) = decide (i = j) := by
  simp [PyData.eqv]
  rfl
theorem cmp_eq : cmpV S .Eq (.int i) (.int j) P = P (decide (i = j)) := by
  show (SeqAt.shaped _ = true ∧ SeqAt.shaped _ = true ∧ P (id (PyData.eqv (.int i) (.int j)))) = _
  rw [eqv_int]
  simp [SeqAt.shaped, PyData.canLay0, PyData.depth]
theorem cmp_ne : cmpV S .NotEq (.int i) (.int j) P = P (!decide (i = j)) := by
  show (SeqAt.shaped _ = true ∧ SeqAt.shaped _ = true ∧ P (not (PyData.eqv (.int i) (.int j)))) = _
  rw [eqv_int]
  simp [SeqAt.shaped, PyData.canLay0, PyData.depth]
theorem tst_e {R : Bool → Sto → Prop} : tst R v S = optQ (truV S v) fun b => R b S := rfl
theorem wipe_nil : wipe σ [] = σ := rfl
theorem wipe_cons {l : List Nat} : wipe σ (n :: l) = (wipe σ l).set n none := rfl
theorem asg_one {k : Env → Prop} : asg (.one n) v σ k = k (σ.set n (some v)) := rfl
theorem asg_many {l : List Nat} {vs : List Val} {k : Env → Prop} : asg (.many l) (.tup vs) σ k = asgs l vs σ k := rfl
theorem asgs_nil {k : Env → Prop} : asgs [] [] σ k = k σ := rfl
theorem asgs_cons {l : List Nat} {vs : List Val} {k : Env → Prop} : asgs (n :: l) (v :: vs) σ k = asgs l vs (σ.set n (some v)) k := rfl
theorem seqV_t {vs : List Val} : seqV S (.tup vs) = some vs := rfl
theorem seqV_s {ns : List Int} : seqV S (.scr ns) = some (ns.map Val.int) := rfl
theorem seqV_l {vs : List Val} : seqV S (.lst vs) = some vs := rfl
theorem seqV_a {a : Addr} {vs : List Val} (h : S a = some (.lst vs)) : seqV S (.adr a) = some vs := asL_a h
theorem itV_t {vs : List Val} : itV S (.tup vs) = some vs := rfl
theorem itV_l {vs : List Val} : itV S (.lst vs) = some vs := rfl
theorem itV_s {ns : List Int} : itV S (.scr ns) = some (ns.map Val.int) := rfl
theorem itV_x {x : Str} : itV S (.str x) = some (x.cps.toList.map fun c => Val.str ⟨#[c]⟩) := rfl
theorem itV_d {ks : List L2.Key} {vs : List Val} : itV S (.dct ks vs) = some (ks.map keyV) := rfl
theorem itV_a {a : Addr} {vs : List Val} (h : S a = some (.lst vs)) : itV S (.adr a) = some vs := asL_a h
theorem chkV_x {x : Str} : chkV S (.str x) = fun _ => True := rfl
theorem chkV_d {ks : List L2.Key} {vs : List Val} : chkV S (.dct ks vs) = fun _ => True := rfl
theorem keyQ_s {x : Str} {P : L2.Key → Prop} : keyQ (.str x) P = P (.inr x) := rfl
theorem keyQ_i {P : L2.Key → Prop} : keyQ (.int i) P = P (.inl i) := rfl
theorem dctV_d {ks : List L2.Key} {vs : List Val} : dctV S (.dct ks vs) = some (ks.zip vs) := rfl
theorem dctV_a {a : Addr} {kvs : List (L2.Key × Val)} (h : S a = some (.dK kvs)) : dctV S (.adr a) = some kvs := by
  show (match S a with
    | some (.dK kvs) => some kvs
    | _ => none) = _
  rw [h]
theorem dctQC_h {a : Addr} {kvs : List (L2.Key × Val)} {P : List (L2.Key × Val) → Prop} (h : S a = some (.dK kvs)) : dctQC S a P = P kvs := by
  unfold dctQC
  rw [h]
theorem bf_sort {D : Nat → Li.G} : bfV D .sorted [x] S Q = optQ (asL S x) fun vs => optQ (toPys0 vs) fun ds => (PySem.W.AllAlike ds ∧ PySem.W.Sortable ds ∧ vs.length ≤ sizeLine ∧ ∀ d ∈ ds, d.depth ≤ 60) ∧ Q (.lst (srtD vs ds)) := rfl
theorem bin_addX {a b : Str} : binV S .Add (.str a) (.str b) Q = (a.length + b.length ≤ sizeLine ∧ Q (.str (a ++ b))) := rfl
theorem idxV_x {z : Str} : idxV S (.str z) (.int i) Q = (z.length ≤ sizeLine ∧ optQ (L2.atI z.cps.toList i) fun c => Q (.str ⟨#[c]⟩)) := rfl
theorem cmp_ltx {a b : Str} {P : Bool → Prop} : cmpV S .Lt (.str a) (.str b) P = P (decide (a.cps.toList < b.cps.toList)) := rfl
theorem chkV_t {vs : List Val} : chkV S (.tup vs) = fun _ => True := rfl
theorem chkV_l {vs : List Val} : chkV S (.lst vs) = fun _ => True := rfl
theorem chkV_s {vs : List Int} : chkV S (.scr vs) = fun _ => True := rfl
theorem chkV_a {a : Addr} : chkV S (.adr a) = fun S' => S' a = S a := rfl
theorem callG_fn {sp : ISp} {k : Nat} {dfl vs : List Val} {dn : Nat} {R : VQ} {er : EQ} : callG (.fn sp k dfl) vs dn S R er = ((vs ++ dfl.drop (dfl.length - dn)).length = k ∧ sp.run (vs ++ dfl.drop (dfl.length - dn)) S R er) := rfl
theorem isCal_fn {sp : ISp} {k : Nat} {dfl : List Val} : isCal (.fn sp k dfl) = True := rfl
theorem isCal_cls {C : Addr} {fz : Bool} {sp : ISp} {k : Nat} {dfl : List Val} : isCal (.cls C fz sp k dfl) = True := rfl
theorem esLen_n : esLen .nil = 0 := rfl
theorem esLen_c {e : E} {r : Es} : esLen (.cons e r) = esLen r + 1 := rfl
theorem isCalk_fn {sp : ISp} {k np m : Nat} {ks ks' : List Str} {arr : List (Nat ⊕ Val)} : isCalk (.fnk sp k np ks arr) ks' m = (ks' = ks ∧ m = np) := rfl
theorem isCalk_cl {C : Addr} {fz : Bool} {sp : ISp} {k np m : Nat} {ks ks' : List Str} {arr : List (Nat ⊕ Val)} : isCalk (.clk C fz sp k np ks arr) ks' m = (ks' = ks ∧ m = np) := rfl
theorem callK_fn {sp : ISp} {k np : Nat} {ks : List Str} {vs ws : List Val} {R : VQ} {er : EQ} {arr : List (Nat ⊕ Val)} : callK (.fnk sp k np ks arr) vs ws S R er = (vs.length = np ∧ ws.length = ks.length ∧ arr.length = k ∧ sp.run (pickV arr (vs ++ ws)) S R er) := rfl
theorem pickV_n {xs : List Val} : pickV [] xs = [] := rfl
theorem pickV_l {k : Nat} {r : List (Nat ⊕ Val)} {xs : List Val} : pickV (.inl k :: r) xs = xs.getD k .non :: pickV r xs := rfl
theorem pickV_r {r : List (Nat ⊕ Val)} {xs : List Val} : pickV (.inr v :: r) xs = v :: pickV r xs := rfl
theorem getD_0 {r : List Val} {d : Val} : (v :: r).getD 0 d = v := rfl
theorem getD_s {r : List Val} {d : Val} {k : Nat} : (v :: r).getD (k + 1) d = r.getD k d := rfl
theorem isFn_fn {sp : ISp} {k : Nat} {dfl : List Val} : isFn (.fn sp k dfl) = True := rfl
theorem isFnk_fn {sp : ISp} {k np : Nat} {ks : List Str} {arr : List (Nat ⊕ Val)} : isFnk (.fnk sp k np ks arr) = True := rfl
theorem mthQ_a {c : Cxt} {m : Str} {ks : List Str} {P : Li.G → Prop} {a C : Addr} {fs : List (Str × Val)} (h : S a = some (.obj C fs)) : mthQ c S m ks P (.adr a) = (fs.lookup m = none ∧ P (c.M C m ks)) := by
  show objQ S a _ = _
  rw [objQ_h h]
theorem mthQ_i {c : Cxt} {m : Str} {ks : List Str} {P : Li.G → Prop} {C : Addr} {ns : List Str} {vs : List Val} : mthQ c S m ks P (.ins C ns vs) = (m ∉ ns ∧ P (c.M C m ks)) := rfl
theorem frz_nil {R : VQ} : frz σ [] v S R = R v S := rfl
theorem frz_cons {l : List Nat} {R : VQ} : frz σ (n :: l) v S R = frz σ l (frz1 (cellOf σ S n) v S).1 (frz1 (cellOf σ S n) v S).2 R := rfl
theorem compL_nil {step : Val → Sto → (Option Val → Sto → Prop) → Prop} {chk : Sto → Prop} {acc : List Val} {R : List Val → Sto → Prop} : compL step chk [] acc S R = (chk S ∧ R acc S) := rfl
theorem compL_cons {step : Val → Sto → (Option Val → Sto → Prop) → Prop} {chk : Sto → Prop} {r acc : List Val} {R : List Val → Sto → Prop} : compL step chk (v :: r) acc S R = (chk S ∧ step v S fun o S' => match o with
    | some y => acc.length < sizeLine ∧ compL step chk r (acc ++ [y]) S' R
    | none => compL step chk r acc S' R) := rfl
theorem forL_nil {step : Val → DE → Env → Sto → Prop} {chk : Sto → Prop} {D : DE} : forL step chk [] D σ S = (chk S ∧ D.nx σ S) := rfl
theorem forL_cons {step : Val → DE → Env → Sto → Prop} {chk : Sto → Prop} {D : DE} {r : List Val} : forL step chk (v :: r) D σ S = (chk S ∧ step v { D with nx := forL step chk r D, ct := forL step chk r D, bk := D.nx } σ S) := rfl
theorem puSp_run {α : Type} {enc : α → List Val} {pre : α → Prop} {res : α → Val} {vs : List Val} {R : VQ} {er : EQ} : (puSp enc pre res).run vs S R er = ∃ a, vs = enc a ∧ pre a ∧ R (res a) S := rfl
theorem rng0 : rngV 0 (0 : Int).toNat = [] := rfl
theorem rng1n : rngV 0 (1 : Int).toNat = [.int 0] := rfl
theorem r62_0 : (-2 ^ 62 ≤ (0 : Int) ∧ (0 : Int) < 2 ^ 62) = True := eq_true (by decide)
theorem r62_1 : (-2 ^ 62 ≤ (1 : Int) ∧ (1 : Int) < 2 ^ 62) = True := eq_true (by decide)
theorem r62_2 : (-2 ^ 62 ≤ (2 : Int) ∧ (2 : Int) < 2 ^ 62) = True := eq_true (by decide)
theorem r62_3 : (-2 ^ 62 ≤ (3 : Int) ∧ (3 : Int) < 2 ^ 62) = True := eq_true (by decide)
theorem rng3 : rngV 0 (3 : Int).toNat = [.int 0, .int 1, .int 2] := rfl
theorem rng2 : rngV 0 (2 : Int).toNat = [.int 0, .int 1] := rfl
theorem bf_len {D : Nat → Li.G} : bfV D .len [x] S Q = optQ (lenV S x) fun n => Q (.int n) := rfl
theorem bf_abs {D : Nat → Li.G} : bfV D .abs [.int i] S Q = Q (.int (if i < 0 then -i else i)) := rfl
theorem bf_int {D : Nat → Li.G} : bfV D .int [.int i] S Q = Q (.int i) := rfl
theorem bf_intb {D : Nat → Li.G} {b : Bool} : bfV D .int [.bl b] S Q = Q (.int (if b = true then 1 else 0)) := rfl
theorem bf_tupT {D : Nat → Li.G} {vs : List Val} : bfV D .tuple [.tup vs] S Q = Q (.tup vs) := rfl
theorem bf_tupL {D : Nat → Li.G} {vs : List Val} : bfV D .tuple [.lst vs] S Q = Q (.tup vs) := rfl
theorem bf_tupA {D : Nat → Li.G} {a : Addr} {vs : List Val} (h : S a = some (.lst vs)) : bfV D .tuple [.adr a] S Q = Q (.tup vs) := by
  show optQ (asL S (.adr a)) _ = _
  rw [asL_a h]
  rfl
theorem bf_listL {D : Nat → Li.G} {vs : List Val} : bfV D .list [.lst vs] S Q = Q (.lst vs) := rfl
theorem bf_listT {D : Nat → Li.G} {vs : List Val} : bfV D .list [.tup vs] S Q = Q (.lst vs) := rfl
theorem asInts_map {ns : List Int} : asInts (ns.map Val.int) = some ns := by
  induction ns with
  | nil => rfl
  | cons a r ih =>
    rw [List.map_cons]
    show (asInts (r.map Val.int)).map (a :: ·) = _
    rw [ih]
    rfl
theorem asBools_map {ns : List Bool} : asBools (ns.map Val.bl) = some ns := by
  induction ns with
  | nil => rfl
  | cons a r ih =>
    rw [List.map_cons]
    show (asBools (r.map Val.bl)).map (a :: ·) = _
    rw [ih]
    rfl
theorem bf_sumL {D : Nat → Li.G} {ns : List Int} : bfV D .sum [.lst (ns.map Val.int)] S Q = Q (.int ns.sum) := by
  show optQ ((asL S (.lst (ns.map Val.int))).bind asInts) _ = _
  rw [asL_l]
  show optQ (asInts (ns.map Val.int)) _ = _
  rw [asInts_map]
  rfl
theorem bf_sumA {D : Nat → Li.G} {a : Addr} {ns : List Int} (h : S a = some (.lst (ns.map Val.int))) : bfV D .sum [.adr a] S Q = Q (.int ns.sum) := by
  show optQ ((asL S (.adr a)).bind asInts) _ = _
  rw [asL_a h]
  show optQ (asInts (ns.map Val.int)) _ = _
  rw [asInts_map]
  rfl
theorem bf_min2 {D : Nat → Li.G} : bfV D .min [.int i, .int j] S Q = Q (.int (if j < i then j else i)) := rfl
theorem bf_max2 {D : Nat → Li.G} : bfV D .max [.int i, .int j] S Q = Q (.int (if i < j then j else i)) := rfl
theorem bf_minL {D : Nat → Li.G} {ns : List Int} : bfV D .min [.lst (ns.map Val.int)] S Q = (0 < ns.length ∧ ∀ m, m ∈ ns → (∀ y ∈ ns, m ≤ y) → Q (.int m)) := by
  show optQ ((asL S (.lst (ns.map Val.int))).bind asInts) _ = _
  rw [asL_l]
  show optQ (asInts (ns.map Val.int)) _ = _
  rw [asInts_map]
  rfl
theorem bf_allL {D : Nat → Li.G} {ns : List Bool} : bfV D .all [.lst (ns.map Val.bl)] S Q = Q (.bl (ns.all id)) := by
  show optQ ((asL S (.lst (ns.map Val.bl))).bind asBools) _ = _
  rw [asL_l]
  show optQ (asBools (ns.map Val.bl)) _ = _
  rw [asBools_map]
  rfl
theorem bf_anyL {D : Nat → Li.G} {ns : List Bool} : bfV D .any [.lst (ns.map Val.bl)] S Q = Q (.bl (ns.any id)) := by
  show optQ ((asL S (.lst (ns.map Val.bl))).bind asBools) _ = _
  rw [asL_l]
  show optQ (asBools (ns.map Val.bl)) _ = _
  rw [asBools_map]
  rfl
theorem bf_isi {D : Nat → Li.G} {t : Ty} : bfV D (.isi t) [x] S Q = optQ (isiV D S t x) fun b => Q (.bl b) := rfl
theorem slc_l {vs : List Val} {lo hi : Option Int} : slcV S (.lst vs) lo hi Q = Q (.lst (cut vs lo hi)) := rfl
theorem slc_t {vs : List Val} {lo hi : Option Int} : slcV S (.tup vs) lo hi Q = Q (.tup (cut vs lo hi)) := rfl
theorem slc_s {ns : List Int} {lo hi : Option Int} : slcV S (.scr ns) lo hi Q = Q (.lst (cut (ns.map Val.int) lo hi)) := rfl
theorem fld_i {A : Addr → Str → Prop} {C : Addr} {f : Str} {ns : List Str} {vs : List Val} : fldV A S f Q (.ins C ns vs) = (A C f ∧ optQ ((ns.zip vs).lookup f) Q) := rfl
end
theorem isi_tt {D : Nat → Li.G} {S : Sto} {vs : List Val} : isiV D S .tup (.tup vs) = some true := rfl
theorem isi_ti {D : Nat → Li.G} {S : Sto} {i : Int} : isiV D S .tup (.int i) = some false := rfl
theorem isi_ii {D : Nat → Li.G} {S : Sto} {i : Int} : isiV D S .int (.int i) = some true := rfl
theorem isi_it {D : Nat → Li.G} {S : Sto} {vs : List Val} : isiV D S .int (.tup vs) = some false := rfl
theorem isi_ib {D : Nat → Li.G} {S : Sto} {b : Bool} : isiV D S .int (.bl b) = some true := rfl
theorem isi_bi {D : Nat → Li.G} {S : Sto} {i : Int} : isiV D S .bool (.int i) = some false := rfl
theorem isi_bb {D : Nat → Li.G} {S : Sto} {b : Bool} : isiV D S .bool (.bl b) = some true := rfl
theorem isi_ss {D : Nat → Li.G} {S : Sto} {b : Str} : isiV D S .str (.str b) = some true := rfl
theorem isi_c {D : Nat → Li.G} {S : Sto} {g : Nat} {C : Addr} {ns : List Str} {vs : List Val} {fz : Bool} {sp : ISp} {n : Nat} {dfl : List Val} (h : D g = .cls C fz sp n dfl) : isiV D S (.cls g) (.ins C ns vs) = some true := by
  show isiC (D g) S _ = _
  rw [h]
  unfold isiC
  show (insA S (.ins C ns vs)).bind _ = _
  show (if C = C then some true else none) = _
  rw [if_pos rfl]
theorem compL_c1 {step : Val → Sto → (Option Val → Sto → Prop) → Prop} {chk : Sto → Prop} {S : Sto} {v : Val} {r acc : List Val} {R : List Val → Sto → Prop} : compL step chk (v :: r) acc S R = (chk S ∧ step v S fun o S' => match o with
    | some y => acc.length < sizeLine ∧ compL step chk r (acc ++ [y]) S' R
    | none => compL step chk r acc S' R) := rfl
theorem natI_0 : ((0 : Nat) : Int) = 0 := rfl
theorem natI_1 : ((1 : Nat) : Int) = 1 := rfl
theorem natI_2 : ((2 : Nat) : Int) = 2 := rfl
theorem natI_3 : ((3 : Nat) : Int) = 3 := rfl
theorem natI_4 : ((4 : Nat) : Int) = 4 := rfl
theorem natI_5 : ((5 : Nat) : Int) = 5 := rfl
theorem natI_6 : ((6 : Nat) : Int) = 6 := rfl
theorem natI_7 : ((7 : Nat) : Int) = 7 := rfl
theorem celQ_set {S : Sto} {a : Addr} {vs : List Val} {P : List Val → Prop} : celQ (S.set a (.lst vs)) a P = P vs := celQ_h Sto.set_same
theorem idxV_set {S : Sto} {a : Addr} {vs : List Val} {i : Int} {Q : Val → Prop} : idxV (S.set a (.lst vs)) (.adr a) (.int i) Q = optQ (L2.atI vs i) Q := idxV_a Sto.set_same
theorem ixN_30 : L2.ixN 3 0 = some 0 := by decide
theorem ixN_31 : L2.ixN 3 1 = some 1 := by decide
theorem ixN_32 : L2.ixN 3 2 = some 2 := by decide
theorem enumV_n {i : Nat} : enumV i [] = [] := rfl
theorem enumV_c {i : Nat} {v : Val} {r : List Val} : enumV i (v :: r) = .tup [.int i, v] :: enumV (i + 1) r := rfl
theorem zipV_n {bs : List Val} : zipV [] bs = [] := rfl
theorem zipV_c {a b : Val} {as bs : List Val} : zipV (a :: as) (b :: bs) = .tup [a, b] :: zipV as bs := rfl
theorem objQ_set {S : Sto} {a C : Addr} {fs : List (Str × Val)} {P : Addr → List (Str × Val) → Prop} : objQ (S.set a (.obj C fs)) a P = P C fs := objQ_h Sto.set_same
theorem isNon_n : isNon .non = true := rfl
theorem isNon_t {vs : List Val} : isNon (.tup vs) = false := rfl
theorem isNon_i {C : Addr} {ns : List Str} {vs : List Val} : isNon (.ins C ns vs) = false := rfl
section
variable {σ : Env} {S : Sto} {a : Addr} {vs us : List Val} {v w : Val} {i n : Nat} {Q : Val → Prop}
theorem setC_l {k : Env → Sto → Prop} : setC i (.lst vs) σ S k = ∀ a, S a = none → k (σ.set i (some (.adr a))) ((dropC σ S i).set a (.lst vs)) := rfl
theorem dropC_n : dropC (none :: σ) S 0 = S := rfl
theorem dropC_s {o : Option Val} : dropC (o :: σ) S (n + 1) = dropC σ S n := by
  unfold dropC
  rw [List.getElem?_cons_succ]
theorem dropC_a : dropC (some (.adr a) :: σ) (S.set a (.lst vs)) 0 = (S.set a (.lst vs)).del a := by
  unfold dropC
  rw [List.getElem?_cons_zero]
  simp only [Sto.set_same]
theorem dropC_d {kvs : List (L2.Key × Val)} : dropC (some (.adr a) :: σ) (S.set a (.dK kvs)) 0 = (S.set a (.dK kvs)).del a := by
  unfold dropC
  rw [List.getElem?_cons_zero]
  simp only [Sto.set_same]
theorem cellOf_h (h : S a = some (.lst vs)) : cellOf (some (.adr a) :: σ) S 0 = some (a, .lst vs) := by
  unfold cellOf
  rw [List.getElem?_cons_zero]
  simp only [h]
theorem cellOf_hd {kvs : List (L2.Key × Val)} (h : S a = some (.dK kvs)) : cellOf (some (.adr a) :: σ) S 0 = some (a, .dct (kvs.map (·.1)) (kvs.map (·.2))) := by
  unfold cellOf
  rw [List.getElem?_cons_zero]
  simp only [h]
theorem cellOf_0 : cellOf (some (.adr a) :: σ) (S.set a (.lst vs)) 0 = some (a, .lst vs) := cellOf_h Sto.set_same
theorem cellOf_d {kvs : List (L2.Key × Val)} : cellOf (some (.adr a) :: σ) (S.set a (.dK kvs)) 0 = some (a, .dct (kvs.map (·.1)) (kvs.map (·.2))) := cellOf_hd Sto.set_same
theorem cellOf_s {o : Option Val} : cellOf (o :: σ) S (n + 1) = cellOf σ S n := by
  unfold cellOf
  rw [List.getElem?_cons_succ]
theorem cellOf_n : cellOf (none :: σ) S 0 = none := rfl
theorem frz1_s : frz1 (some (a, w)) v S = (sbst a w v, S.del a) := rfl
theorem frz1_n : frz1 none v S = (v, S) := rfl
theorem sbst_t : sbst a w (.tup vs) = .tup (sbsts a w vs) := by
  rw [sbst]
theorem sbst_l : sbst a w (.lst vs) = .lst (sbsts a w vs) := by
  rw [sbst]
theorem sbst_i {j : Int} : sbst a w (.int j) = .int j := by
  rw [sbst] <;> intros <;> simp_all
theorem sbst_b {j : Bool} : sbst a w (.bl j) = .bl j := by
  rw [sbst] <;> intros <;> simp_all
theorem sbst_non : sbst a w .non = .non := by
  rw [sbst] <;> intros <;> simp_all
theorem sbst_str {x : Str} : sbst a w (.str x) = .str x := by
  rw [sbst] <;> intros <;> simp_all
theorem sbst_a : sbst a w (.adr a) = w := by
  rw [sbst, if_pos rfl]
theorem sbsts_n : sbsts a w [] = [] := by
  rw [sbsts]
theorem sbsts_c : sbsts a w (v :: vs) = sbst a w v :: sbsts a w vs := by
  rw [sbsts]
theorem sbsts_map {α : Type} {f : α → Val} {xs : List α} (h : ∀ x, sbst a w (f x) = f x) : sbsts a w (xs.map f) = xs.map f := by
  induction xs with
  | nil => exact sbsts_n
  | cons x r ih => rw [List.map_cons, sbsts_c, h, ih]
theorem bin_addLA_set {us : List Val} : binV (S.set a (.lst vs)) .Add (.lst us) (.adr a) Q = (us.length + vs.length ≤ sizeLine ∧ Q (.lst (us ++ vs))) := bin_addLA Sto.set_same
theorem asL_set : asL (S.set a (.lst vs)) (.adr a) = some vs := asL_a Sto.set_same
theorem lenV_set : lenV (S.set a (.lst vs)) (.adr a) = some vs.length := lenV_a Sto.set_same
theorem itV_set : itV (S.set a (.lst vs)) (.adr a) = some vs := itV_a Sto.set_same
theorem dctV_set {kvs : List (L2.Key × Val)} : dctV (S.set a (.dK kvs)) (.adr a) = some kvs := dctV_a Sto.set_same
theorem dctQC_set {kvs : List (L2.Key × Val)} {P : List (L2.Key × Val) → Prop} : dctQC (S.set a (.dK kvs)) a P = P kvs := dctQC_h Sto.set_same
theorem seqV_set : seqV (S.set a (.lst vs)) (.adr a) = some vs := asL_set
theorem bf_tupA_set {D : Nat → Li.G} : bfV D .tuple [.adr a] (S.set a (.lst vs)) Q = Q (.tup vs) := bf_tupA Sto.set_same
theorem bmP_app {x : Val} : bmP .append x S = adrQ x fun a => celQ S a fun _ => True := rfl
theorem bmP_pop {x : Val} : bmP .pop x S = adrQ x fun a => celQ S a fun _ => True := rfl
theorem bmP_ins {x : Val} : bmP .insert x S = adrQ x fun a => celQ S a fun _ => True := rfl
theorem bmP_ext {x : Val} : bmP .extend x S = adrQ x fun a => celQ S a fun _ => True := rfl
theorem bmV_pop {x : Val} {R : VQ} : bmV .pop x [] S R = adrQ x fun a => celQ S a fun us => optQ (us[us.length - 1]?) fun v => R v (S.set a (.lst us.dropLast)) := rfl
theorem bmV_popAt {x k : Val} {R : VQ} : bmV .pop x [k] S R = adrQ x fun a => celQ S a fun us => intQ k fun i => (-(2 ^ 63) ≤ i ∧ i < 2 ^ 63) ∧ optQ (seqIndex? i us.length) fun j => optQ (us[j]?) fun v => R v (S.set a (.lst (us.eraseIdx j))) := rfl
theorem bmV_ins {x k v : Val} {R : VQ} : bmV .insert x [k, v] S R = adrQ x fun a => celQ S a fun us => intQ k fun i => (us.length < sizeLine ∧ 0 ≤ i ∧ i < 2 ^ 63) ∧ R .non (S.set a (.lst (us.take i.toNat ++ [v] ++ us.drop i.toNat))) := rfl
theorem bmV_ext {x v : Val} {R : VQ} : bmV .extend x [v] S R = adrQ x fun a => celQ S a fun us => lstQ v fun ws => us.length + ws.length ≤ sizeLine ∧ R .non (S.set a (.lst (us ++ ws))) := rfl
theorem bmV_app {x v : Val} {R : VQ} : bmV .append x [v] S R = adrQ x fun a => celQ S a fun us => us.length < sizeLine ∧ R .non (S.set a (.lst (us ++ [v]))) := rfl
theorem bf_sum_set {D : Nat → Li.G} : bfV D .sum [.adr a] (S.set a (.lst vs)) Q = optQ (asInts vs) fun ns => Q (.int ns.sum) := by
  show optQ ((asL (S.set a (.lst vs)) (.adr a)).bind asInts) _ = _
  rw [asL_set]
  rfl
theorem bf_sum_l {D : Nat → Li.G} : bfV D .sum [.lst vs] S Q = optQ (asInts vs) fun ns => Q (.int ns.sum) := rfl
theorem asInts_n : asInts [] = some [] := rfl
theorem asInts_c {j : Int} {r : List Val} : asInts (.int j :: r) = (asInts r).map (j :: ·) := rfl
end
theorem szl_0 : (0 < sizeLine) = True := eq_true (by decide)
theorem szl_1 : (1 < sizeLine) = True := eq_true (by decide)
theorem szl_2 : (2 < sizeLine) = True := eq_true (by decide)
theorem szl_3 : (3 < sizeLine) = True := eq_true (by decide)
theorem szl_4 : (4 < sizeLine) = True := eq_true (by decide)
theorem szl_5 : (5 < sizeLine) = True := eq_true (by decide)
theorem szl_6 : (6 < sizeLine) = True := eq_true (by decide)
theorem szl_7 : (7 < sizeLine) = True := eq_true (by decide)
theorem sz_0 : (0 ≤ sizeLine) = True := eq_true (by decide)
theorem sz_1 : (1 ≤ sizeLine) = True := eq_true (by decide)
theorem sz_2 : (2 ≤ sizeLine) = True := eq_true (by decide)
theorem sz_3 : (3 ≤ sizeLine) = True := eq_true (by decide)
theorem sz_4 : (4 ≤ sizeLine) = True := eq_true (by decide)
theorem sz_5 : (5 ≤ sizeLine) = True := eq_true (by decide)
theorem sz_6 : (6 ≤ sizeLine) = True := eq_true (by decide)
theorem sz_7 : (7 ≤ sizeLine) = True := eq_true (by decide)
/-! ### loops -/
/-- a comprehension whose parts leave the store alone -/
theorem compL_map {step : Val → Sto → (Option Val → Sto → Prop) → Prop} {chk : Sto → Prop} {S : Sto} {f : Val → Val} : ∀ {vs acc : List Val} {R : List Val → Sto → Prop}, chk S → acc.length + vs.length ≤ sizeLine → (∀ v ∈ vs, ∀ k : Option Val → Sto → Prop, k (some (f v)) S → step v S k) → R (acc ++ vs.map f) S → compL step chk vs acc S R
  | [], acc, R, hc, hl, hs, hR => ⟨hc, by simpa using hR⟩
  | v :: r, acc, R, hc, hl, hs, hR => by
    rw [List.length_cons] at hl
    refine ⟨hc, hs v List.mem_cons_self _ ⟨by omega, compL_map (f := f) hc (by rw [List.length_append]; simp; omega) (fun u hu => hs u (List.mem_cons_of_mem _ hu)) ?_⟩⟩
    rw [List.append_assoc]
    simpa using hR
/-- .. with an if -/
theorem compL_filter {step : Val → Sto → (Option Val → Sto → Prop) → Prop} {chk : Sto → Prop} {S : Sto} {f : Val → Option Val} : ∀ {vs acc : List Val} {R : List Val → Sto → Prop}, chk S → acc.length + vs.length ≤ sizeLine → (∀ v ∈ vs, ∀ k : Option Val → Sto → Prop, k (f v) S → step v S k) → R (acc ++ vs.filterMap f) S → compL step chk vs acc S R
  | [], acc, R, hc, hl, hs, hR => ⟨hc, by simpa using hR⟩
  | v :: r, acc, R, hc, hl, hs, hR => by
    rw [List.length_cons] at hl
    refine ⟨hc, hs v List.mem_cons_self _ ?_⟩
    cases e : f v with
    | some y =>
      refine ⟨by omega, compL_filter (f := f) hc (by rw [List.length_append]; simp; omega) (fun u hu => hs u (List.mem_cons_of_mem _ hu)) ?_⟩
      rw [List.filterMap_cons, e] at hR
      rw [List.append_assoc]
      exact hR
    | none =>
      refine compL_filter (f := f) hc (by omega) (fun u hu => hs u (List.mem_cons_of_mem _ hu)) ?_
      rw [List.filterMap_cons, e] at hR
      exact hR
/-- .. over things of one kind -/
theorem compL_mapA {α : Type} {g : α → Val} {step : Val → Sto → (Option Val → Sto → Prop) → Prop} {chk : Sto → Prop} {S : Sto} {f : α → Val} : ∀ {xs : List α} {acc : List Val} {R : List Val → Sto → Prop}, chk S → acc.length + xs.length ≤ sizeLine → (∀ x ∈ xs, ∀ k : Option Val → Sto → Prop, k (some (f x)) S → step (g x) S k) → R (acc ++ xs.map f) S → compL step chk (xs.map g) acc S R
  | [], acc, R, hc, hl, hs, hR => ⟨hc, by simpa using hR⟩
  | v :: r, acc, R, hc, hl, hs, hR => by
    rw [List.length_cons] at hl
    rw [List.map_cons]
    refine ⟨hc, hs v List.mem_cons_self _ ⟨by omega, compL_mapA (f := f) hc (by rw [List.length_append]; simp; omega) (fun u hu => hs u (List.mem_cons_of_mem _ hu)) ?_⟩⟩
    rw [List.append_assoc]
    simpa using hR
/-- a comprehension by an invariant: what stands, how many are left -/
theorem compL_inv {step : Val → Sto → (Option Val → Sto → Prop) → Prop} {chk : Sto → Prop} {R : List Val → Sto → Prop} (I : List Val → List Val → Sto → Prop) : ∀ {vs acc : List Val} {S : Sto}, I vs acc S → (∀ r acc S, I r acc S → chk S ∧ acc.length + r.length ≤ sizeLine) → (∀ v r acc S, I (v :: r) acc S → step v S fun o S' => match o with
    | some y => I r (acc ++ [y]) S'
    | none => I r acc S') → (hmono : ∀ v S k k', (∀ o S, k o S → k' o S) → step v S k → step v S k') → (∀ acc S, I [] acc S → R acc S) → compL step chk vs acc S R
  | [], acc, S, h, hc, hs, hm, hR => ⟨(hc _ _ _ h).1, hR _ _ h⟩
  | v :: r, acc, S, h, hc, hs, hm, hR => by
    obtain ⟨h1, h2⟩ := hc _ _ _ h
    rw [List.length_cons] at h2
    refine ⟨h1, hm v S _ _ (fun o S' q => ?_) (hs v r acc S h)⟩
    cases o with
    | some y => exact ⟨by omega, compL_inv I q hc hs hm hR⟩
    | none => exact compL_inv I q hc hs hm hR
/-- a for by an invariant -/
theorem forL_inv {step : Val → DE → Env → Sto → Prop} {chk : Sto → Prop} {D : DE} (I : List Val → Env → Sto → Prop) (hc : ∀ r σ S, I r σ S → chk S) (hs : ∀ v r σ S (nx : Env → Sto → Prop), I (v :: r) σ S → (∀ σ' S', I r σ' S' → nx σ' S') → step v { D with nx := nx, ct := nx, bk := D.nx } σ S) (hR : ∀ σ S, I [] σ S → D.nx σ S) : ∀ {vs : List Val} {σ : Env} {S : Sto}, I vs σ S → forL step chk vs D σ S
  | [], σ, S, h => ⟨hc _ _ _ h, hR _ _ h⟩
  | v :: r, σ, S, h => ⟨hc _ _ _ h, hs v r σ S _ h fun σ' S' q => forL_inv I hc hs hR q⟩
section
variable {a b c d : Val}
theorem cut1_h0 : cut [a] none (some 0) = [] := rfl
theorem cut1_l1 : cut [a] (some 1) none = [] := rfl
theorem cut2_h0 : cut [a, b] none (some 0) = [] := rfl
theorem cut2_h1 : cut [a, b] none (some 1) = [a] := rfl
theorem cut2_l1 : cut [a, b] (some 1) none = [b] := rfl
theorem cut2_l2 : cut [a, b] (some 2) none = [] := rfl
theorem cut3_h0 : cut [a, b, c] none (some 0) = [] := rfl
theorem cut3_h1 : cut [a, b, c] none (some 1) = [a] := rfl
theorem cut3_h2 : cut [a, b, c] none (some 2) = [a, b] := rfl
theorem cut3_l1 : cut [a, b, c] (some 1) none = [b, c] := rfl
theorem cut3_l2 : cut [a, b, c] (some 2) none = [c] := rfl
theorem cut3_l3 : cut [a, b, c] (some 3) none = [] := rfl
theorem cut4_l1 : cut [a, b, c, d] (some 1) none = [b, c, d] := rfl
end
theorem rngV_range : ∀ (n : Nat) (lo : Int), rngV lo n = (List.range n).map fun k : Nat => Val.int (lo + k)
  | 0, lo => rfl
  | n + 1, lo => by
    rw [List.range_succ_eq_map, List.map_cons, List.map_map]
    show Val.int lo :: rngV (lo + 1) n = _
    rw [rngV_range n]
    congr 1
    · simp
    · apply List.map_congr_left
      intro k _
      show Val.int _ = Val.int _
      congr 1
      show lo + 1 + (k : Int) = lo + ((k + 1 : Nat) : Int)
      omega
/-! ### a body in two parts -/
def takeS : Nat → Ss → Ss
  | 0, _ => .nil
  | _ + 1, .nil => .nil
  | n + 1, .cons s r => .cons s (takeS n r)
def dropS : Nat → Ss → Ss
  | 0, b => b
  | _ + 1, .nil => .nil
  | n + 1, .cons _ r => dropS n r
theorem takeS_0 {b : Ss} : takeS 0 b = .nil := by
  cases b <;> rfl
theorem takeS_s {n : Nat} {s : Sm} {r : Ss} : takeS (n + 1) (.cons s r) = .cons s (takeS n r) := rfl
theorem dropS_0 {b : Ss} : dropS 0 b = b := by
  cases b <;> rfl
theorem dropS_s {n : Nat} {s : Sm} {r : Ss} : dropS (n + 1) (.cons s r) = dropS n r := rfl
theorem evSs_split {c : Cxt} : ∀ (n : Nat) (b : Ss) (D : DE) (σ : Env) (S : Sto), evSs c b D σ S = evSs c (takeS n b) { D with nx := evSs c (dropS n b) D } σ S
  | 0, b, D, σ, S => by
    rw [takeS_0, dropS_0]
    simp only [evSs]
  | n + 1, .nil, D, σ, S => by
    rw [show takeS (n + 1) .nil = .nil from rfl, show dropS (n + 1) .nil = .nil from rfl]
    simp only [evSs]
  | n + 1, .cons s r, D, σ, S => by
    rw [takeS_s, dropS_s, evSs, evSs]
    have e : evSs c r D = evSs c (takeS n r) { D with nx := evSs c (dropS n r) D } := by
      funext σ S
      exact evSs_split n r D σ S
    rw [e]
theorem evD_split {c : Cxt} (n : Nat) {b : Ss} {N : Nat} {fr : List Nat} {vs : List Val} {S : Sto} {Q : VQ} : evD c b N fr vs S Q = evSs c (takeS n b) { nx := evSs c (dropS n b) { nx := fun σ S' => frz σ fr .non S' Q, rt := Q }, rt := Q } (vs.map some ++ List.replicate (N - vs.length) none) S := by
  unfold evD
  rw [evSs_split n]
/-- the body of the for at a place -/
def forB : Nat → Ss → Ss
  | 0, .cons (.forr _ _ b) _ => b
  | n + 1, .cons _ r => forB n r
  | _, _ => .nil
theorem forB_0 {t : Tg} {it : It} {b r : Ss} : forB 0 (.cons (.forr t it b) r) = b := rfl
theorem forB_s {n : Nat} {s : Sm} {r : Ss} : forB (n + 1) (.cons s r) = forB n r := by
  cases s <;> rfl
end Li
set_option Elab.async false
set_option linter.all false
set_option maxRecDepth 100000
set_option maxHeartbeats 2000000
/-! LiLaw: from the head's facts to the promises of all defs of a law. -/
namespace Li
open PySem L2
/-- names by numbers -/
def GAllA (m : Mo) (lvl : Nat) (nm : Nat → Str) : List (Nat × Li.G) → Prop
  | [] => True
  | p :: r => GOk m lvl (nm p.1) p.2 ∧ GAllA m lvl nm r
theorem GAllA.all {m : Mo} {lvl : Nat} {nm : Nat → Str} : ∀ {l : List (Nat × Li.G)}, GAllA m lvl nm l → ∀ g, GOk m lvl (nm g) (tabA l g)
  | [], _, g => trivial
  | (i, k) :: r, h, g => by
    unfold tabA
    rw [List.lookup_cons]
    cases q : g == i with
    | true =>
      have e : g = i := eq_of_beq q
      subst e
      exact h.1
    | false => exact GAllA.all (l := r) h.2 g
/-- methods of classes: by class, name, keywords -/
def tabM : List (Addr × List ((Str × List Str) × Li.G)) → Addr → Str → List Str → Li.G
  | [], _, _, _ => .none
  | p :: r, C, m, ks => if C = p.1 then (p.2.lookup (m, ks)).getD .none else tabM r C m ks
theorem tabM_hit {C : Addr} {l : List ((Str × List Str) × Li.G)} {r : List (Addr × List ((Str × List Str) × Li.G))} {m : Str} {ks : List Str} : tabM ((C, l) :: r) C m ks = (l.lookup (m, ks)).getD .none := if_pos rfl
theorem tabM_miss {C C' : Addr} {l : List ((Str × List Str) × Li.G)} {r : List (Addr × List ((Str × List Str) × Li.G))} {m : Str} {ks : List Str} (h : C ≠ C') : tabM ((C', l) :: r) C m ks = tabM r C m ks := if_neg h
def MAll1 (m : Mo) (lvl : Nat) (C : Addr) : List ((Str × List Str) × Li.G) → Prop
  | [] => True
  | p :: r => MOk m lvl C p.1.1 p.1.2 p.2 ∧ MAll1 m lvl C r
def MAll (m : Mo) (lvl : Nat) : List (Addr × List ((Str × List Str) × Li.G)) → Prop
  | [] => True
  | p :: r => MAll1 m lvl p.1 p.2 ∧ MAll m lvl r
theorem MAll1.all {m : Mo} {lvl : Nat} {C : Addr} {x : Str} {ks : List Str} : ∀ {l : List ((Str × List Str) × Li.G)}, MAll1 m lvl C l → MOk m lvl C x ks ((l.lookup (x, ks)).getD .none)
  | [], _ => trivial
  | ((y, zs), k) :: r, h => by
    rw [List.lookup_cons]
    cases q : (x, ks) == (y, zs) with
    | true =>
      cases eq_of_beq q
      exact h.1
    | false => exact MAll1.all (l := r) h.2
theorem MAll.all {m : Mo} {lvl : Nat} {C : Addr} {x : Str} {ks : List Str} : ∀ {l : List (Addr × List ((Str × List Str) × Li.G))}, MAll m lvl l → MOk m lvl C x ks (tabM l C x ks)
  | [], _ => trivial
  | p :: r, h => by
    unfold tabM
    split
    · rename_i e
      rw [e]
      exact h.1.all
    · exact MAll.all (l := r) h.2
/-- what the head tells of the module -/
structure Bs (m : Mo) (fn : List He.DefD) (A : Addr → Str → Prop) : Prop where
  d : ∀ d ∈ fn, ∃ fd, FunD m.K d.name d.qual d.params d.body d.scope (d.dvs m.K) (d.kws m.K) (He.fAd m.K d.at_) fd
  glo : ∀ d ∈ fn, ∀ x, d.at_ = (x, none) → m.mg x = some (.ref (He.ga m.K x))
  bl : ∀ x, bnames.contains x = true → m.mg x = none
  att : ∀ C f, A C f → Cls m.K C ∧ NoAttr m.K C f
/-- the defaults of a def: each number of them that is left out -/
def Dfl (m : Mo) (d : He.DefD) (ps : List Str) (dfl : List Val) : Prop := ∀ fd, FunD m.K d.name d.qual d.params d.body d.scope (d.dvs m.K) (d.kws m.K) (He.fAd m.K d.at_) fd →
  ∀ dn, dn ≤ dfl.length → ∃ ds dvs, Binds m.K fd ps ds ∧ Vals dvs ds ∧ Rvs m.K (fun _ => True) (fun _ => none) (dfl.drop (dfl.length - dn)) dvs
theorem dfl_none {m : Mo} {d : He.DefD} {ps : List Str} (e : d.dfl = [])
    (hb : ∀ (kV doc pm : Value) (an : Option Addr) (cdv ct : Value) (us : List Value), us.length = ps.length → bindArgs (PySem.W.fnOf d.name d.qual d.params d.body d.scope .none kV doc pm an cdv ct) ⟨us, []⟩ = pure (ps.zip us)) : Dfl m d ps [] := fun fd F dn hd => by
  have e2 : d.dvs m.K = [] := by
    unfold He.DefD.dvs
    rw [e]
    rfl
  rw [e2] at F
  exact ⟨[], [], F.bindsN hb, .nil, by
    rw [List.drop_nil]
    exact rfl⟩
theorem okLi {m : Mo} {d : He.DefD} {fd : FuncData} {T : Tb} {A : Addr → Str → Prop} {lvl : Nat} {ps : List Str} {b : Ss} {fr : List Nat} {sp : ISp} {l : List (Nat × Li.G)} {ml : List (Addr × List ((Str × List Str) × Li.G))} (F : FunD m.K d.name d.qual d.params d.body d.scope (d.dvs m.K) (d.kws m.K) (He.fAd m.K d.at_) fd) (hnd : ∀ j i sc st, T.ndc j i sc st = false)
    (hS : scB T.N ps d.scope = true) (hb : ckSs T d.scope b d.body = true) (hl : GAllA m lvl T.nm l) (hml : MAll m lvl ml) (att : ∀ C f, A C f → Cls m.K C ∧ NoAttr m.K C f) (bl : ∀ x, bnames.contains x = true → m.mg x = none)
    (hsp : ∀ vs S Q R, vs.length = ps.length → sp.run vs S Q R → evD { D := tabA l, A := A, er := R, M := tabM ml } b T.N.length fr vs S Q) : FnOk m.P m.w m.K m.mg m.base (CX m.P m.w) (lvl + 1) (He.fAd m.K d.at_) fd ps (toSp m.K m.T ps.length sp) :=
  fn_li F hnd hS hb (fun g => hl.all g) (fun C m ks => hml.all) att bl hsp
/-- a def as a name of the module -/
theorem Bs.fn {m : Mo} {fn : List He.DefD} {A : Addr → Str → Prop} (B : Bs m fn A) {d : He.DefD} {x : Str} {T : Tb} {lvl g n : Nat} {ps : List Str} {b : Ss} {fr : List Nat} {sp : ISp} {l : List (Nat × Li.G)} {ml : List (Addr × List ((Str × List Str) × Li.G))} {dfl : List Val} (i : Nat) (hd : fn[i]? = some d) (hx : d.at_ = (x, none)) (hnm : T.nm g = x) (hn : ps.length = n) (hnd : ∀ j i sc st, T.ndc j i sc st = false)
    (hS : scB T.N ps d.scope = true) (hb : ckSs T d.scope b d.body = true) (hl : GAllA m lvl T.nm l) (hml : MAll m lvl ml) (hsp : ∀ vs S Q R, vs.length = n → sp.run vs S Q R → evD { D := tabA l, A := A, er := R, M := tabM ml } b T.N.length fr vs S Q) (hdf : Dfl m d ps dfl) : GOk m (lvl + 1) (T.nm g) (.fn sp n dfl) := by
  subst hn
  have mem := List.mem_of_getElem? hd
  obtain ⟨fd, F⟩ := B.d d mem
  refine ⟨He.fAd m.K d.at_, fd, ps, lvl + 1, Nat.le_refl _, rfl, okLi F hnd hS hb hl hml B.att B.bl hsp, ?_, F.kp, hdf fd F⟩
  rw [hnm, B.glo d mem x hx, hx]
  rfl
/-- with keywords -/
theorem Bs.fnk {m : Mo} {fn : List He.DefD} {A : Addr → Str → Prop} (B : Bs m fn A) {d : He.DefD} {x : Str} {T : Tb} {lvl g n np : Nat} {ps ks : List Str} {arr : List (Nat ⊕ Val)} {b : Ss} {fr : List Nat} {sp : ISp} {l : List (Nat × Li.G)} {ml : List (Addr × List ((Str × List Str) × Li.G))} (i : Nat) (hd : fn[i]? = some d) (hx : d.at_ = (x, none)) (hnm : T.nm g = x) (hn : ps.length = n) (hnd : ∀ j i sc st, T.ndc j i sc st = false)
    (hS : scB T.N ps d.scope = true) (hb : ckSs T d.scope b d.body = true) (hl : GAllA m lvl T.nm l) (hml : MAll m lvl ml) (hsp : ∀ vs S Q R, vs.length = n → sp.run vs S Q R → evD { D := tabA l, A := A, er := R, M := tabM ml } b T.N.length fr vs S Q)
    (hk : ∀ fd, FunD m.K d.name d.qual d.params d.body d.scope (d.dvs m.K) (d.kws m.K) (He.fAd m.K d.at_) fd → KBp m.K fd ps np ks arr) : GOk m (lvl + 1) (T.nm g) (.fnk sp n np ks arr) := by
  subst hn
  have mem := List.mem_of_getElem? hd
  obtain ⟨fd, F⟩ := B.d d mem
  refine ⟨He.fAd m.K d.at_, fd, ps, lvl + 1, Nat.le_refl _, rfl, okLi F hnd hS hb hl hml B.att B.bl hsp, ?_, F.kp, hk fd F⟩
  rw [hnm, B.glo d mem x hx, hx]
  rfl
/-- a class by its __init__ -/
theorem Bs.cls {m : Mo} {fn : List He.DefD} {A : Addr → Str → Prop} (B : Bs m fn A) {d : He.DefD} {x : Str} {T : Tb} {lvl g n : Nat} {ps : List Str} {b : Ss} {fr : List Nat} {sp : ISp} {l : List (Nat × Li.G)} {ml : List (Addr × List ((Str × List Str) × Li.G))} {dfl : List Val} {fz : Bool} (i : Nat) (hd : fn[i]? = some d) (hx : d.at_ = (x, some ("__init__" : Str))) (hnm : T.nm g = x) (hn : ps.length = n) (hnd : ∀ j i sc st, T.ndc j i sc st = false)
    (hS : scB T.N ps d.scope = true) (hb : ckSs T d.scope b d.body = true) (hl : GAllA m lvl T.nm l) (hml : MAll m lvl ml) (hsp : ∀ vs S Q R, vs.length = n → sp.run vs S Q R → evD { D := tabA l, A := A, er := R, M := tabM ml } b T.N.length fr vs S Q) (hdf : Dfl m d ps dfl)
    (hmg : m.mg x = some (.ref (He.ga m.K x))) (hmk : Mk m.K (He.ga m.K x) (He.ma m.K (He.ga m.K x) "__init__")) (hco : ClsOk m.K (He.ga m.K x)) : GOk m (lvl + 2) (T.nm g) (.cls (He.ga m.K x) fz sp n dfl) := by
  subst hn
  have mem := List.mem_of_getElem? hd
  obtain ⟨fd, F⟩ := B.d d mem
  have e : He.fAd m.K d.at_ = He.ma m.K (He.ga m.K x) "__init__" := by
    rw [hx]
    rfl
  have o := okLi F hnd hS hb hl hml B.att B.bl hsp
  rw [e] at o
  exact ⟨_, fd, ps, lvl + 1, Nat.le_refl _, rfl, hmk, o, by rw [hnm]; exact hmg, hco, hdf fd F⟩
/-- a class made by keywords -/
theorem Bs.clk {m : Mo} {fn : List He.DefD} {A : Addr → Str → Prop} (B : Bs m fn A) {d : He.DefD} {x : Str} {T : Tb} {lvl g n np : Nat} {ps ks : List Str} {arr : List (Nat ⊕ Val)} {b : Ss} {fr : List Nat} {sp : ISp} {l : List (Nat × Li.G)} {ml : List (Addr × List ((Str × List Str) × Li.G))} {fz : Bool} (i : Nat) (hd : fn[i]? = some d) (hx : d.at_ = (x, some ("__init__" : Str))) (hnm : T.nm g = x) (hn : ps.length = n) (hnd : ∀ j i sc st, T.ndc j i sc st = false)
    (hS : scB T.N ps d.scope = true) (hb : ckSs T d.scope b d.body = true) (hl : GAllA m lvl T.nm l) (hml : MAll m lvl ml) (hsp : ∀ vs S Q R, vs.length = n → sp.run vs S Q R → evD { D := tabA l, A := A, er := R, M := tabM ml } b T.N.length fr vs S Q)
    (hk : ∀ fd, FunD m.K d.name d.qual d.params d.body d.scope (d.dvs m.K) (d.kws m.K) (He.fAd m.K d.at_) fd → KBp m.K fd ps (np + 1) ks (.inl 0 :: arr.map upA))
    (hmg : m.mg x = some (.ref (He.ga m.K x))) (hmk : Mk m.K (He.ga m.K x) (He.ma m.K (He.ga m.K x) "__init__")) : GOk m (lvl + 2) (T.nm g) (.clk (He.ga m.K x) fz sp n np ks arr) := by
  subst hn
  have mem := List.mem_of_getElem? hd
  obtain ⟨fd, F⟩ := B.d d mem
  have e : He.fAd m.K d.at_ = He.ma m.K (He.ga m.K x) "__init__" := by
    rw [hx]
    rfl
  have o := okLi F hnd hS hb hl hml B.att B.bl hsp
  rw [e] at o
  exact ⟨_, fd, ps, lvl + 1, Nat.le_refl _, rfl, hmk, o, by rw [hnm]; exact hmg, hk fd F⟩
/-- a method -/
theorem Bs.meth {m : Mo} {fn : List He.DefD} {A : Addr → Str → Prop} (B : Bs m fn A) {d : He.DefD} {x y : Str} {T : Tb} {lvl n : Nat} {ps : List Str} {b : Ss} {fr : List Nat} {sp : ISp} {l : List (Nat × Li.G)} {ml : List (Addr × List ((Str × List Str) × Li.G))} {dfl : List Val} (i : Nat) (hd : fn[i]? = some d) (hx : d.at_ = (x, some y)) (hn : ps.length = n) (hnd : ∀ j i sc st, T.ndc j i sc st = false)
    (hS : scB T.N ps d.scope = true) (hb : ckSs T d.scope b d.body = true) (hl : GAllA m lvl T.nm l) (hml : MAll m lvl ml) (hsp : ∀ vs S Q R, vs.length = n → sp.run vs S Q R → evD { D := tabA l, A := A, er := R, M := tabM ml } b T.N.length fr vs S Q) (hdf : Dfl m d ps dfl)
    (hc : Cls m.K (He.ga m.K x)) (hm : Meth m.K (He.ga m.K x) y (He.ma m.K (He.ga m.K x) y)) : MOk m (lvl + 2) (He.ga m.K x) y [] (.fn sp n dfl) := by
  subst hn
  have mem := List.mem_of_getElem? hd
  obtain ⟨fd, F⟩ := B.d d mem
  have e : He.fAd m.K d.at_ = He.ma m.K (He.ga m.K x) y := by
    rw [hx]
    rfl
  have o := okLi F hnd hS hb hl hml B.att B.bl hsp
  rw [e] at o
  exact ⟨rfl, _, fd, ps, lvl + 1, Nat.le_refl _, rfl, o, hc, hm, hdf fd F⟩
/-- a method called with keywords -/
theorem Bs.methk {m : Mo} {fn : List He.DefD} {A : Addr → Str → Prop} (B : Bs m fn A) {d : He.DefD} {x y : Str} {T : Tb} {lvl n np : Nat} {ps ks : List Str} {arr : List (Nat ⊕ Val)} {b : Ss} {fr : List Nat} {sp : ISp} {l : List (Nat × Li.G)} {ml : List (Addr × List ((Str × List Str) × Li.G))} (i : Nat) (hd : fn[i]? = some d) (hx : d.at_ = (x, some y)) (hn : ps.length = n) (hnd : ∀ j i sc st, T.ndc j i sc st = false)
    (hS : scB T.N ps d.scope = true) (hb : ckSs T d.scope b d.body = true) (hl : GAllA m lvl T.nm l) (hml : MAll m lvl ml) (hsp : ∀ vs S Q R, vs.length = n → sp.run vs S Q R → evD { D := tabA l, A := A, er := R, M := tabM ml } b T.N.length fr vs S Q)
    (hk : ∀ fd, FunD m.K d.name d.qual d.params d.body d.scope (d.dvs m.K) (d.kws m.K) (He.fAd m.K d.at_) fd → KBp m.K fd ps np ks arr)
    (hc : Cls m.K (He.ga m.K x)) (hm : Meth m.K (He.ga m.K x) y (He.ma m.K (He.ga m.K x) y)) : MOk m (lvl + 2) (He.ga m.K x) y ks (.fnk sp n np ks arr) := by
  subst hn
  have mem := List.mem_of_getElem? hd
  obtain ⟨fd, F⟩ := B.d d mem
  have e : He.fAd m.K d.at_ = He.ma m.K (He.ga m.K x) y := by
    rw [hx]
    rfl
  have o := okLi F hnd hS hb hl hml B.att B.bl hsp
  rw [e] at o
  exact ⟨rfl, _, fd, ps, lvl + 1, Nat.le_refl _, rfl, o, hc, hm, hk fd F⟩
/-! ### what a law asks -/
/-- the law's promise: the script is handed in, True comes back -/
theorem law_at {l : PySem.W.OpenLaw} {w : World} {K : PySem.W.Frag} {mg : Str → Option Value} {fa : Addr} {h : Heap} {n k : Nat} {x : Str} {fd : FuncData} {T : List NdefX.NTab} {cs : List (Addr × Addr)} {sp : ISp} (hcs : ∀ p ∈ T, ∃ q ∈ cs, q.2 = p.1)
    (h1 : ∀ p ∈ cs, h.get? p.2 = some { cls := .none, data := .fields #[] }) (h2 : ∀ p ∈ cs, K.lookup p.2 = none) (h3 : ∀ p ∈ cs, PySem.W.CodeHd h p.1 p.2) (hb : ∀ (s : Shared) (u : Value), BindsTo s fd ⟨[u], []⟩ [(x, u)])
    (hsp : ∀ (ns : List Int) (S : Sto), ns.length ≤ n → (∀ z ∈ ns, Builtin.Int.intBits z ≤ 1048576) → sp.run [.scr ns] S (fun v _ => v = .bl true) fun _ _ => False)
    (ok : ∀ base : Heap, K.In base → base.Ns mainGlobals mg → (∀ p ∈ cs, LamX.TabB base mg p.1 p.2) → FnOk l.prog w K mg base (CX l.prog w) k fa fd [x] (toSp K T 1 sp)) : LamX.LawAtS l w K (CX l.prog w) k n x mg fa h :=
  ⟨fd, cs, toSp K T 1 sp, h1, h2, h3, hb, fun H a ns hn hbits hH hS => by
    refine ⟨[.scr ns], fun _ => none, ⟨fun _ => False, T⟩, rfl, rfl, ⟨_, [], rfl, ⟨a, rfl, ?_⟩, rfl⟩, ⟨fun a c z => (nomatch z), fun p hp => hp.elim, fun p hp => hp.elim, fun p hp => ?_⟩, sp.mono (fun v S' e v' H' _ _ r => ?_) (fun ex S' q => q.elim) (hsp ns (fun _ => none) hn hbits)⟩
    · rcases hS with (hS | ⟨o, hS⟩) | hS
      · exact .inl ⟨.inl hS, fun z => z.elim (fun q => q rfl) id⟩
      · exact .inl ⟨.inr ⟨o, hS⟩, fun z => z.elim (fun q => q rfl) id⟩
      · exact .inr (.inr hS)
    · obtain ⟨q, hq, e⟩ := hcs p hp
      refine ⟨#[], ?_, ?_, ?_⟩
      · rw [← e]
        exact hH q hq
      · trivial
      · intro pos cv hc
        cases hc
    · subst e
      exact r, ok⟩
end Li
namespace Li
open PySem L2
def clsB (K : PySem.W.Frag) (x : Str) : Bool := He.eqO (PySem.W.findIn K (.ref (He.ga K x)) "__class__") (some (some (.builtin "object.__class__"))) && (He.eqO (PySem.W.specialIn K (.builtin "object.__class__") "__get__") (some (some (.builtin "getset_descriptor.__get__")))
  && (decide (PySem.W.takesIn K (.builtin "object.__class__") = some true) && decide (PySem.W.mroIn K (He.ga K x) (.type "object") = some true)))
theorem clsB_ok {K : PySem.W.Frag} {x : Str} (c : (He.Fa.cls x).ok K = true) (h : clsB K x = true) : ClsOk K (He.ga K x) := by
  unfold clsB at h
  obtain ⟨h1, h⟩ := He.ba h
  obtain ⟨h2, h⟩ := He.ba h
  obtain ⟨h3, h4⟩ := He.ba h
  exact ⟨He.cls_ok c, He.eqO_ok h1, He.eqO_ok h2, of_decide_eq_true h3, of_decide_eq_true h4⟩
/-- a number as a name of the module -/
theorem gok_int {m : Mo} {lvl g : Nat} {nm : Nat → Str} {x : Str} {i : Int} (hnm : nm g = x) (h : ∃ t, m.mg x = some (.int i t)) : GOk m lvl (nm g) (.val (.int i)) := by
  obtain ⟨t, h⟩ := h
  exact ⟨_, .int i, by rw [hnm]; exact h, ⟨t, rfl⟩, rfl⟩
/-- a tuple of numbers -/
theorem gok_tup {m : Mo} {lvl g : Nat} {nm : Nat → Str} {x : Str} {ns : List Int} (hnm : nm g = x) (h : m.mg x = some (.ref (He.ga m.K x))) (t : He.tupB m.K x (ns.map He.Dv.int) = true) : GOk m lvl (nm g) (.val (.tup (ns.map Val.int))) := by
  refine ⟨_, .ref (He.ga m.K x), by rw [hnm]; exact h, rfl, He.ga m.K x, _, rfl, .inr (He.tupB_ok t _), ?_⟩
  rw [List.map_map]
  exact Rvs.ints ns
end Li
namespace Li
open PySem L2
/-- the tables of the defs that hold local defs -/
structure Bt (m : Mo) (tf : List He.Defn) : Prop where
  tab : ∀ p ∈ tf, LamX.TabB m.base m.mg (He.cT m.K p).1 (He.cT m.K p).2
theorem nbind {x : Str} (hx : ∀ (p : Pos) (name q : Str) (bo : List Stmt) (sc2 : Scope) (cl : List (Str × Addr)) (c' : Addr) (doc pm ctv u : Value), bindArgs ((⟨name, q, ⟨[], [⟨x, none, p⟩], none, [], [], none, []⟩, bo, sc2, cl, c'⟩ : NdefX.NF).fd doc pm ctv) ⟨[u], []⟩ = pure [(x, u)])
    (F : NdefX.NF) (h : argsB [x] F.params = true) (doc pm ctv : Value) (us : List Value) (hl : us.length = [x].length) : bindArgs (F.fd doc pm ctv) ⟨us, []⟩ = pure ([x].zip us) := by
  obtain ⟨name, q, params, bo, sc2, cl, c'⟩ := F
  have h : argsB [x] params = true := h
  unfold argsB at h
  split at h
  · rename_i y _ _
    have e : [x] = [y] := eqS h
    cases e
    match us, hl with
    | [u], _ => exact hx _ _ _ _ _ _ _ _ _ _ u
  · cases h
theorem Bs.fnN {m : Mo} {fn : List He.DefD} {A : Addr → Str → Prop} {tf : List He.Defn} (B : Bs m fn A) (Bt : Bt m tf) {d : He.DefD} {x : Str} {N gn ps : List Str} {cap : List Nat} {nds : List NdT} {tn : Nat → Nat → Str} {lvl g n : Nat} {b : Ss} {fr : List Nat} {sp : ISp} {l : List (Nat × Li.G)} {ml : List (Addr × List ((Str × List Str) × Li.G))} {dfl : List Val} (i : Nat) (hd : fn[i]? = some d) (hx : d.at_ = (x, none)) (hnm : Tb.nm { N := N, gn := gn } g = x) (hn : ps.length = n)
    (ht : d.at_ ∈ tf) (hm : ((He.cT m.K d.at_).2, tn) ∈ m.T) (hu : ∀ p ∈ m.T, p.1 = (He.cT m.K d.at_).2 → p.2 = tn) (hS : scB N ps d.scope = true) (hb : ckSs { N := N, gn := gn, cap := cap, ndc := ndcL N gn nds tn (lq d.qual d.scope) } d.scope b d.body = true) (hcap : ∀ e ∈ nds, ∀ i ∈ e.cap, cap.contains i = true) (hbind : ∀ e ∈ nds, ∀ F : NdefX.NF, argsB e.ps F.params = true → ∀ (doc pm ctv : Value) (us : List Value), us.length = e.ps.length → bindArgs (F.fd doc pm ctv) ⟨us, []⟩ = pure (e.ps.zip us)) (hl : GAllA m lvl (Tb.nm { N := N, gn := gn }) l) (hml : MAll m lvl ml)
    (hspN : ∀ e ∈ nds, ∀ vs S Q R, vs.length = e.ps.length + e.fr.length → e.sp.run vs S Q R → evD { D := tabA l, A := A, er := R, M := tabM ml } e.b e.N.length e.fz vs S Q)
    (hsp : ∀ okp vs S Q R, vs.length = n → sp.run vs S Q R → evD { D := tabA l, A := A, er := R, L := lfOf nds okp, M := tabM ml } b N.length fr vs S Q) (hdf : Dfl m d ps dfl) : GOk m (lvl + 2) (Tb.nm { N := N, gn := gn } g) (.fn sp n dfl) := by
  subst hn
  have mem := List.mem_of_getElem? hd
  obtain ⟨fd, F⟩ := B.d d mem
  refine ⟨He.fAd m.K d.at_, fd, ps, lvl + 2, Nat.le_refl _, rfl, ?_, ?_, F.kp, hdf fd F⟩
  · refine fn_liN F (fun {oc od dV kV doc pm an cdv ct osl} lk => ?_) (Bt.tab _ ht) hm hu hS hb hcap (fun g => hl.all g) (fun C m ks => hml.all) B.att B.bl hbind hspN hsp
    obtain ⟨oc', od', dV', kV', doc', pm', an', cdv', ct', osl', rfl, lk', hcd, _, _⟩ := F.ex
    rw [lk] at lk'
    cases lk'
    obtain ⟨c, ec⟩ := He.codeIn_ref hcd
    subst ec
    show Value.ref c = Value.ref (He.codeOf m.K d.at_)
    rw [He.codeOf_eq lk rfl]
  · rw [hnm, B.glo d mem x hx, hx]
    rfl
/-- one default, None -/
theorem dfl_one {m : Mo} {d : He.DefD} {ps : List Str} {v : Val} {dv : He.Dv} (e : d.dfl = [dv]) (hv : Rv m.K (fun _ => True) (fun _ => none) v (dv.v m.K)) (n : Nat) (hn : n + 1 = ps.length)
    (h0 : ∀ (T : Addr) (kV doc pm : Value) (an : Option Addr) (cdv ct : Value) (us its : List Value), us.length = n + 1 → its.length = 1 → ∃ k, bindArgs (PySem.W.fnOf d.name d.qual d.params d.body d.scope (.ref T) kV doc pm an cdv ct) ⟨us, []⟩ = seqItems? (.ref T) >>= k ∧ k (some its.toArray) = pure (ps.zip us))
    (h1 : ∀ (T : Addr) (kV doc pm : Value) (an : Option Addr) (cdv ct : Value) (us its : List Value), us.length = n → its.length = 1 → ∃ k, bindArgs (PySem.W.fnOf d.name d.qual d.params d.body d.scope (.ref T) kV doc pm an cdv ct) ⟨us, []⟩ = seqItems? (.ref T) >>= k ∧ k (some its.toArray) = pure (ps.zip (us ++ its))) : Dfl m d ps [v] := fun fd F dn hd => by
  have e2 : d.dvs m.K = [dv.v m.K] := by
    unfold He.DefD.dvs
    rw [e]
    rfl
  rw [e2] at F
  have hd : dn ≤ 1 := hd
  rcases Nat.lt_or_ge dn 1 with z | z
  · have : dn = 0 := by omega
    subst this
    obtain ⟨ds, r, b⟩ := F.binds1 (n + 1) 1 (by simp) (by simp; omega) fun T kV doc pm an cdv ct us its h2 h3 => by
      obtain ⟨k, q1, q2⟩ := h0 T kV doc pm an cdv ct us its h2 h3
      have h3 : its.length = 1 := h3
      refine ⟨k, q1, ?_⟩
      rw [List.drop_eq_nil_of_le (by omega), List.append_nil]
      exact q2
    exact ⟨ds, _, b, r, rfl⟩
  · have : dn = 1 := by omega
    subst this
    obtain ⟨ds, r, b⟩ := F.binds1 n 0 (by simp) (by simp; omega) h1
    exact ⟨ds, _, b, r, _, _, rfl, hv, rfl⟩
/-- keywords for all that is not handed in by place; one default that nobody needs -/
theorem kb_one {m : Mo} {d : He.DefD} {ps ks : List Str} {dv : He.Dv} (e : d.dfl = [dv]) (n : Nat)
    (h : ∀ (T : Addr) (kV doc pm : Value) (an : Option Addr) (cdv ct : Value) (us its ws : List Value), us.length = n → its.length = 1 → ws.length = ks.length →
      ∃ k, bindArgs (PySem.W.fnOf d.name d.qual d.params d.body d.scope (.ref T) kV doc pm an cdv ct) ⟨us, ks.zip ws⟩ = seqItems? (.ref T) >>= k ∧ k (some its.toArray) = pure (ps.zip (us ++ ws))) :
    ∀ fd, FunD m.K d.name d.qual d.params d.body d.scope (d.dvs m.K) (d.kws m.K) (He.fAd m.K d.at_) fd → KBn m.K fd ps n ks (fun us ws => us ++ ws) (fun vs zs => vs ++ zs) := fun fd F => by
  have e2 : d.dvs m.K = [dv.v m.K] := by
    unfold He.DefD.dvs
    rw [e]
    rfl
  rw [e2] at F
  obtain ⟨oc, od, dV, kV, doc, pm, an, cdv, ct, osl, rfl, lk, hcd, hD, hK⟩ := F.ex
  rcases hD with ⟨e, _⟩ | ⟨_, T, o, its, k, rfl, lT, oT, rT⟩
  · cases e
  · refine ⟨fun s us ws X l1 l2 => ?_, fun r1 r2 => r1.append r2⟩
    obtain ⟨k, q1, q2⟩ := h T kV doc pm an cdv ct us its ws l1 rT.length.symm l2
    refine BindsTo.of_looks fun M => ?_
    rw [q1]
    exact looks_items X lT oT (.of_pure q2)
end Li
set_option Elab.async false
set_option linter.all false
set_option maxRecDepth 100000
set_option maxHeartbeats 2000000
/-! LiKw: defaults, keywords, in general. -/
namespace Li
open PySem L2
def dvOf : He.Dv → Val
  | .bl b => .bl b
  | .int i => .int i
  | .str x => .str x
  | _ => .non
def dvS : He.Dv → Bool
  | .non => true
  | .bl _ => true
  | .int _ => true
  | .str _ => true
  | _ => false
theorem rv_dv {K : PySem.W.Frag} {dv : He.Dv} (h : dvS dv = true) : Rv K (fun _ => True) (fun _ => none) (dvOf dv) (dv.v K) := by
  cases dv <;> first | rfl | cases h
theorem rvs_dv {K : PySem.W.Frag} : ∀ {l : List He.Dv}, l.all dvS = true → Rvs K (fun _ => True) (fun _ => none) (l.map dvOf) (l.map (He.Dv.v K))
  | [], _ => rfl
  | d :: r, h => by
    rw [List.all_cons, Bool.and_eq_true] at h
    exact ⟨_, _, rfl, rv_dv h.1, rvs_dv h.2⟩
/-- any number of defaults -/
theorem dfl_gen {m : Mo} {d : He.DefD} {ps : List Str} (l : List He.Dv) (e : d.dfl = l) (ne : l ≠ []) (ok : l.all dvS = true) (n0 : Nat) (hn : n0 + l.length = ps.length)
    (h : ∀ j, j ≤ l.length → ∀ (T : Addr) (kV doc pm : Value) (an : Option Addr) (cdv ct : Value) (us its : List Value), us.length = n0 + j → its.length = l.length → ∃ k, bindArgs (PySem.W.fnOf d.name d.qual d.params d.body d.scope (.ref T) kV doc pm an cdv ct) ⟨us, []⟩ = seqItems? (.ref T) >>= k ∧ k (some its.toArray) = pure (ps.zip (us ++ its.drop j))) : Dfl m d ps (l.map dvOf) := fun fd F dn hd => by
  have e2 : d.dvs m.K = l.map (He.Dv.v m.K) := by
    unfold He.DefD.dvs
    rw [e]
  rw [e2] at F
  rw [List.length_map] at hd ⊢
  have hl : (l.map (He.Dv.v m.K)).length = l.length := List.length_map ..
  obtain ⟨ds, r, b⟩ := F.binds1 (n0 + (l.length - dn)) (l.length - dn) (by simpa using ne) (by rw [hl]; omega) fun T kV doc pm an cdv ct us its h1 h2 => h _ (by omega) T kV doc pm an cdv ct us its h1 (by rw [h2, hl])
  exact ⟨ds, _, b, r, (rvs_dv ok).drop _⟩
/-- from arguments and defaults, by places -/
def pickO {α : Type} : List (Nat ⊕ Nat) → List α → List α → List α → List α
  | [], _, _, _ => []
  | .inl i :: r, us, its, ws => ((us ++ ws)[i]?).toList ++ pickO r us its ws
  | .inr j :: r, us, its, ws => (its[j]?).toList ++ pickO r us its ws
def arrOf (arr : List (Nat ⊕ Nat)) (ds : List Val) : List (Nat ⊕ Val) := arr.map fun
  | .inl i => .inl i
  | .inr j => .inr (ds.getD j .non)
theorem vals_get {xs : List V} {us : List Value} (r : Vals xs us) (i : Nat) : (xs[i]? = none ∧ us[i]? = none) ∨ ∃ x u, xs[i]? = some x ∧ us[i]? = some u ∧ RelV x u := by
  cases e : xs[i]? with
  | none => exact .inl ⟨rfl, r.none_of e⟩
  | some x =>
    obtain ⟨u, h1, h2⟩ := r.get e
    exact .inr ⟨x, u, rfl, h1, h2⟩
theorem pickO_vals {vs ds zs : List V} {us its ws : List Value} (r1 : Vals vs us) (r2 : Vals ds its) (r3 : Vals zs ws) : ∀ arr : List (Nat ⊕ Nat), Vals (pickO arr vs ds zs) (pickO arr us its ws)
  | [] => .nil
  | .inl i :: r => by
    have ih := pickO_vals r1 r2 r3 r
    unfold pickO
    rcases vals_get (r1.append r3) i with ⟨h1, h2⟩ | ⟨x, u, h1, h2, h3⟩
    · rw [h1, h2]
      exact ih
    · rw [h1, h2]
      exact .cons h3 ih
  | .inr j :: r => by
    have ih := pickO_vals r1 r2 r3 r
    unfold pickO
    rcases vals_get r2 j with ⟨h1, h2⟩ | ⟨x, u, h1, h2, h3⟩
    · rw [h1, h2]
      exact ih
    · rw [h1, h2]
      exact .cons h3 ih
theorem getD_get {vs : List Val} {i : Nat} (h : i < vs.length) : vs[i]? = some (vs.getD i .non) := by
  rw [List.getD_eq_getElem?_getD, List.getElem?_eq_getElem h]
  rfl
theorem pickO_rvs {K : PySem.W.Frag} {M : Addr → Prop} {H : Hp} {vs ws ds : List Val} {vs' ws' ds' : List V} (h1 : Rvs K M H vs vs') (h2 : Rvs K M H ws ws') (h3 : Rvs K M H ds ds') {n : Nat} (hn : vs.length + ws.length = n) : ∀ arr : List (Nat ⊕ Nat), (arr.all fun
    | .inl i => decide (i < n)
    | .inr j => decide (j < ds.length)) = true → Rvs K M H (pickV (arrOf arr ds) (vs ++ ws)) (pickO arr vs' ds' ws')
  | [], _ => rfl
  | .inl i :: r, h => by
    rw [List.all_cons, Bool.and_eq_true, decide_eq_true_eq] at h
    have ih := pickO_rvs h1 h2 h3 hn r h.2
    obtain ⟨x, hx, rx⟩ := (h1.append h2).get (getD_get (vs := vs ++ ws) (i := i) (by rw [List.length_append]; omega))
    unfold pickO
    rw [hx]
    exact ⟨_, _, rfl, rx, ih⟩
  | .inr j :: r, h => by
    rw [List.all_cons, Bool.and_eq_true, decide_eq_true_eq] at h
    have ih := pickO_rvs h1 h2 h3 hn r h.2
    obtain ⟨x, hx, rx⟩ := h3.get (getD_get (vs := ds) (i := j) h.1)
    unfold pickO
    rw [hx]
    exact ⟨_, _, rfl, rx, ih⟩
/-- a call with keywords of a def with defaults -/
theorem kb_gen {m : Mo} {d : He.DefD} {ps ks : List Str} {np : Nat} (l : List He.Dv) (e : d.dfl = l) (ne : l ≠ []) (ok : l.all dvS = true) (arr : List (Nat ⊕ Nat)) (hb : (arr.all fun
    | .inl i => decide (i < np + ks.length)
    | .inr j => decide (j < l.length)) = true)
    (h : ∀ (T : Addr) (kV doc pm : Value) (an : Option Addr) (cdv ct : Value) (us its ws : List Value), us.length = np → its.length = l.length → ws.length = ks.length →
      ∃ k, bindArgs (PySem.W.fnOf d.name d.qual d.params d.body d.scope (.ref T) kV doc pm an cdv ct) ⟨us, ks.zip ws⟩ = seqItems? (.ref T) >>= k ∧ k (some its.toArray) = pure (ps.zip (pickO arr us its ws))) :
    ∀ fd, FunD m.K d.name d.qual d.params d.body d.scope (d.dvs m.K) (d.kws m.K) (He.fAd m.K d.at_) fd → KBp m.K fd ps np ks (arrOf arr (l.map dvOf)) := fun fd F => by
  have e2 : d.dvs m.K = l.map (He.Dv.v m.K) := by
    unfold He.DefD.dvs
    rw [e]
  rw [e2] at F
  have hl : (l.map (He.Dv.v m.K)).length = l.length := List.length_map ..
  obtain ⟨its, kb⟩ := F.kbindsD (n := np) (ks := ks) (g := fun {_} us its ws => pickO arr us its ws) (by simpa using ne) (fun r1 r2 r3 => pickO_vals r1 r2 r3 arr) fun T kV doc pm an cdv ct us its ws h1 h2 h3 => h T kV doc pm an cdv ct us its ws h1 (by rw [h2, hl]) h3
  refine ⟨_, _, kb, fun M H vs ws vs' ws' h1 h2 r1 r2 => pickO_rvs r1 r2 (rvs_dv ok).const (n := np + ks.length) (by rw [h1, h2]) arr ?_⟩
  rw [List.length_map]
  exact hb
/-- .. of a def without -/
theorem kb_none {m : Mo} {d : He.DefD} {ps ks : List Str} {np : Nat} (e : d.dfl = []) (arr : List (Nat ⊕ Nat)) (hb : (arr.all fun
    | .inl i => decide (i < np + ks.length)
    | .inr j => false) = true)
    (h : ∀ (kV doc pm : Value) (an : Option Addr) (cdv ct : Value) (us ws : List Value), us.length = np → ws.length = ks.length →
      bindArgs (PySem.W.fnOf d.name d.qual d.params d.body d.scope .none kV doc pm an cdv ct) ⟨us, ks.zip ws⟩ = pure (ps.zip (pickO arr us [] ws))) :
    ∀ fd, FunD m.K d.name d.qual d.params d.body d.scope (d.dvs m.K) (d.kws m.K) (He.fAd m.K d.at_) fd → KBp m.K fd ps np ks (arrOf arr []) := fun fd F => by
  have e2 : d.dvs m.K = [] := by
    unfold He.DefD.dvs
    rw [e]
    rfl
  rw [e2] at F
  obtain ⟨oc, od, dV, kV, doc, pm, an, cdv, ct, osl, rfl, lk, hcd, hD, hK⟩ := F.ex
  rcases hD with ⟨_, rfl⟩ | ⟨e, _⟩
  · refine ⟨fun us ws => pickO arr us [] ws, fun vs zs => pickO arr vs [] zs, ⟨fun s us ws X l1 l2 => ?_, fun r1 r2 => pickO_vals r1 .nil r2 arr⟩, fun M H vs ws vs' ws' h1 h2 r1 r2 => pickO_rvs (ds := []) (ds' := []) r1 r2 rfl (n := np + ks.length) (by rw [h1, h2]) arr ?_⟩
    · refine BindsTo.of_looks fun M => ?_
      rw [h kV doc pm an cdv ct us ws l1 l2]
      exact .of_pure rfl
    · rw [List.all_eq_true] at hb ⊢
      intro x hx
      have := hb x hx
      cases x with
      | inl i => exact this
      | inr j => cases this
  · exact absurd rfl e
/-- a text as a name of the module -/
theorem gok_str {m : Mo} {lvl g : Nat} {nm : Nat → Str} {x z : Str} (hnm : nm g = x) (h : ∃ t, m.mg x = some (.str z t)) : GOk m lvl (nm g) (.val (.str z)) := by
  obtain ⟨t, h⟩ := h
  exact ⟨_, .str z, by rw [hnm]; exact h, ⟨t, rfl⟩, rfl⟩
end Li
set_option Elab.async false
set_option linter.all false
set_option maxRecDepth 100000
set_option maxHeartbeats 0
namespace L37
open PySem PySem.Spec PyProof.Rows Li L2
def D_is_whole : He.DefD := ⟨(("is_whole" : Str), none), ("is_whole" : Str), ("is_whole" : Str), defArgs s_is_whole, defBody s_is_whole, defScope s_is_whole, [], []⟩
def D_share_of : He.DefD := ⟨(("share_of" : Str), none), ("share_of" : Str), ("share_of" : Str), defArgs s_share_of, defBody s_share_of, defScope s_share_of, [], []⟩
def D_low : He.DefD := ⟨(("low" : Str), none), ("low" : Str), ("low" : Str), defArgs s_low, defBody s_low, defScope s_low, [], []⟩
def D_is_fraction : He.DefD := ⟨(("is_fraction" : Str), none), ("is_fraction" : Str), ("is_fraction" : Str), defArgs s_is_fraction, defBody s_is_fraction, defScope s_is_fraction, [], []⟩
def D_from_zero : He.DefD := ⟨(("from_zero" : Str), none), ("from_zero" : Str), ("from_zero" : Str), defArgs s_from_zero, defBody s_from_zero, defScope s_from_zero, [], []⟩
def D_in_one : He.DefD := ⟨(("in_one" : Str), none), ("in_one" : Str), ("in_one" : Str), defArgs s_in_one, defBody s_in_one, defScope s_in_one, [], []⟩
def D_add : He.DefD := ⟨(("add" : Str), none), ("add" : Str), ("add" : Str), defArgs s_add, defBody s_add, defScope s_add, [], []⟩
def D_less : He.DefD := ⟨(("less" : Str), none), ("less" : Str), ("less" : Str), defArgs s_less, defBody s_less, defScope s_less, [], []⟩
def D_mul : He.DefD := ⟨(("mul" : Str), none), ("mul" : Str), ("mul" : Str), defArgs s_mul, defBody s_mul, defScope s_mul, [], []⟩
def D_is_less : He.DefD := ⟨(("is_less" : Str), none), ("is_less" : Str), ("is_less" : Str), defArgs s_is_less, defBody s_is_less, defScope s_is_less, [], []⟩
def D_total : He.DefD := ⟨(("total" : Str), none), ("total" : Str), ("total" : Str), defArgs s_total, defBody s_total, defScope s_total, [], []⟩
def D_Shade.__init__ : He.DefD := ⟨(("Shade" : Str), some ("__init__" : Str)), ("__init__" : Str), ("Shade.__init__" : Str), defArgs s_Shade.__init__, defBody s_Shade.__init__, defScope s_Shade.__init__, [], []⟩
def D_check_shade : He.DefD := ⟨(("check_shade" : Str), none), ("check_shade" : Str), ("check_shade" : Str), defArgs s_check_shade, defBody s_check_shade, defScope s_check_shade, [], []⟩
def D_parts_of : He.DefD := ⟨(("parts_of" : Str), none), ("parts_of" : Str), ("parts_of" : Str), defArgs s_parts_of, defBody s_parts_of, defScope s_parts_of, [], []⟩
def D_shares_of : He.DefD := ⟨(("shares_of" : Str), none), ("shares_of" : Str), ("shares_of" : Str), defArgs s_shares_of, defBody s_shares_of, defScope s_shares_of, [], []⟩
def D_is_eye : He.DefD := ⟨(("is_eye" : Str), none), ("is_eye" : Str), ("is_eye" : Str), defArgs s_is_eye, defBody s_is_eye, defScope s_is_eye, [], []⟩
def D_check_eye : He.DefD := ⟨(("check_eye" : Str), none), ("check_eye" : Str), ("check_eye" : Str), defArgs s_check_eye, defBody s_check_eye, defScope s_check_eye, [], []⟩
def D_far_by : He.DefD := ⟨(("far_by" : Str), none), ("far_by" : Str), ("far_by" : Str), defArgs s_far_by, defBody s_far_by, defScope s_far_by, [], []⟩
def D_is_name : He.DefD := ⟨(("is_name" : Str), none), ("is_name" : Str), ("is_name" : Str), defArgs s_is_name, defBody s_is_name, defScope s_is_name, [], []⟩
def D_check_name : He.DefD := ⟨(("check_name" : Str), none), ("check_name" : Str), ("check_name" : Str), defArgs s_check_name, defBody s_check_name, defScope s_check_name, [], []⟩
def D_Book.__init__ : He.DefD := ⟨(("Book" : Str), some ("__init__" : Str)), ("__init__" : Str), ("Book.__init__" : Str), defArgs s_Book.__init__, defBody s_Book.__init__, defScope s_Book.__init__, [.non], []⟩
def D_Book.place_of : He.DefD := ⟨(("Book" : Str), some ("place_of" : Str)), ("place_of" : Str), ("Book.place_of" : Str), defArgs s_Book.place_of, defBody s_Book.place_of, defScope s_Book.place_of, [], []⟩
def D_Book.check_new : He.DefD := ⟨(("Book" : Str), some ("check_new" : Str)), ("check_new" : Str), ("Book.check_new" : Str), defArgs s_Book.check_new, defBody s_Book.check_new, defScope s_Book.check_new, [], []⟩
def D_Book.turn_to : He.DefD := ⟨(("Book" : Str), some ("turn_to" : Str)), ("turn_to" : Str), ("Book.turn_to" : Str), defArgs s_Book.turn_to, defBody s_Book.turn_to, defScope s_Book.turn_to, [], []⟩
def D_Book.put : He.DefD := ⟨(("Book" : Str), some ("put" : Str)), ("put" : Str), ("Book.put" : Str), defArgs s_Book.put, defBody s_Book.put, defScope s_Book.put, [], []⟩
def D_Book.rename : He.DefD := ⟨(("Book" : Str), some ("rename" : Str)), ("rename" : Str), ("Book.rename" : Str), defArgs s_Book.rename, defBody s_Book.rename, defScope s_Book.rename, [], []⟩
def D_Book.drop : He.DefD := ⟨(("Book" : Str), some ("drop" : Str)), ("drop" : Str), ("Book.drop" : Str), defArgs s_Book.drop, defBody s_Book.drop, defScope s_Book.drop, [], []⟩
def D_Book.shade : He.DefD := ⟨(("Book" : Str), some ("shade" : Str)), ("shade" : Str), ("Book.shade" : Str), defArgs s_Book.shade, defBody s_Book.shade, defScope s_Book.shade, [], []⟩
def D_Book.names : He.DefD := ⟨(("Book" : Str), some ("names" : Str)), ("names" : Str), ("Book.names" : Str), defArgs s_Book.names, defBody s_Book.names, defScope s_Book.names, [.non, .bl false], []⟩
def D_Book.__len__ : He.DefD := ⟨(("Book" : Str), some ("__len__" : Str)), ("__len__" : Str), ("Book.__len__" : Str), defArgs s_Book.__len__, defBody s_Book.__len__, defScope s_Book.__len__, [], []⟩
def D_rows_of : He.DefD := ⟨(("rows_of" : Str), none), ("rows_of" : Str), ("rows_of" : Str), defArgs s_rows_of, defBody s_rows_of, defScope s_rows_of, [], []⟩
def D_check_limit : He.DefD := ⟨(("check_limit" : Str), none), ("check_limit" : Str), ("check_limit" : Str), defArgs s_check_limit, defBody s_check_limit, defScope s_check_limit, [], []⟩
def D_check_book : He.DefD := ⟨(("check_book" : Str), none), ("check_book" : Str), ("check_book" : Str), defArgs s_check_book, defBody s_check_book, defScope s_check_book, [], []⟩
def D_is_near : He.DefD := ⟨(("is_near" : Str), none), ("is_near" : Str), ("is_near" : Str), defArgs s_is_near, defBody s_is_near, defScope s_is_near, [], []⟩
def D_near_names : He.DefD := ⟨(("near_names" : Str), none), ("near_names" : Str), ("near_names" : Str), defArgs s_near_names, defBody s_near_names, defScope s_near_names, [], []⟩
def D_pairs_near : He.DefD := ⟨(("pairs_near" : Str), none), ("pairs_near" : Str), ("pairs_near" : Str), defArgs s_pairs_near, defBody s_pairs_near, defScope s_pairs_near, [], []⟩
def D__law_cell : He.DefD := ⟨(("_law_cell" : Str), none), ("_law_cell" : Str), ("_law_cell" : Str), defArgs s__law_cell, defBody s__law_cell, defScope s__law_cell, [], []⟩
def D__law_purse : He.DefD := ⟨(("_law_purse" : Str), none), ("_law_purse" : Str), ("_law_purse" : Str), defArgs s__law_purse, defBody s__law_purse, defScope s__law_purse, [], []⟩
def D__law_pick : He.DefD := ⟨(("_law_pick" : Str), none), ("_law_pick" : Str), ("_law_pick" : Str), defArgs s__law_pick, defBody s__law_pick, defScope s__law_pick, [], []⟩
def D__law_low : He.DefD := ⟨(("_law_low" : Str), none), ("_law_low" : Str), ("_law_low" : Str), defArgs s__law_low, defBody s__law_low, defScope s__law_low, [], []⟩
def D__law_plus : He.DefD := ⟨(("_law_plus" : Str), none), ("_law_plus" : Str), ("_law_plus" : Str), defArgs s__law_plus, defBody s__law_plus, defScope s__law_plus, [], []⟩
def D__law_minus : He.DefD := ⟨(("_law_minus" : Str), none), ("_law_minus" : Str), ("_law_minus" : Str), defArgs s__law_minus, defBody s__law_minus, defScope s__law_minus, [], []⟩
def D__law_times : He.DefD := ⟨(("_law_times" : Str), none), ("_law_times" : Str), ("_law_times" : Str), defArgs s__law_times, defBody s__law_times, defScope s__law_times, [], []⟩
def D__law_below : He.DefD := ⟨(("_law_below" : Str), none), ("_law_below" : Str), ("_law_below" : Str), defArgs s__law_below, defBody s__law_below, defScope s__law_below, [], []⟩
def D__law_plain_share : He.DefD := ⟨(("_law_plain_share" : Str), none), ("_law_plain_share" : Str), ("_law_plain_share" : Str), defArgs s__law_plain_share, defBody s__law_plain_share, defScope s__law_plain_share, [], []⟩
def D__law_eye : He.DefD := ⟨(("_law_eye" : Str), none), ("_law_eye" : Str), ("_law_eye" : Str), defArgs s__law_eye, defBody s__law_eye, defScope s__law_eye, [], []⟩
def D__law_far : He.DefD := ⟨(("_law_far" : Str), none), ("_law_far" : Str), ("_law_far" : Str), defArgs s__law_far, defBody s__law_far, defScope s__law_far, [], []⟩
def D__law_name : He.DefD := ⟨(("_law_name" : Str), none), ("_law_name" : Str), ("_law_name" : Str), defArgs s__law_name, defBody s__law_name, defScope s__law_name, [], []⟩
def D__law_beside : He.DefD := ⟨(("_law_beside" : Str), none), ("_law_beside" : Str), ("_law_beside" : Str), defArgs s__law_beside, defBody s__law_beside, defScope s__law_beside, [], []⟩
def D__law_book : He.DefD := ⟨(("_law_book" : Str), none), ("_law_book" : Str), ("_law_book" : Str), defArgs s__law_book, defBody s__law_book, defScope s__law_book, [], []⟩
def D__law_limit : He.DefD := ⟨(("_law_limit" : Str), none), ("_law_limit" : Str), ("_law_limit" : Str), defArgs s__law_limit, defBody s__law_limit, defScope s__law_limit, [], []⟩
def D__law_stays : He.DefD := ⟨(("_law_stays" : Str), none), ("_law_stays" : Str), ("_law_stays" : Str), defArgs s__law_stays, defBody s__law_stays, defScope s__law_stays, [], []⟩
def D__law_pairs : He.DefD := ⟨(("_law_pairs" : Str), none), ("_law_pairs" : Str), ("_law_pairs" : Str), defArgs s__law_pairs, defBody s__law_pairs, defScope s__law_pairs, [], []⟩
def D__law_right : He.DefD := ⟨(("_law_right" : Str), none), ("_law_right" : Str), ("_law_right" : Str), defArgs s__law_right, defBody s__law_right, defScope s__law_right, [], []⟩
def D_law : He.DefD := ⟨(("law" : Str), none), ("law" : Str), ("law" : Str), defArgs s_law, defBody s_law, defScope s_law, [], []⟩
def fn0 : List He.DefD := [D_is_whole, D_share_of, D_low, D_is_fraction, D_from_zero, D_in_one, D_add, D_less, D_mul, D_is_less, D_total, D_Shade.__init__, D_check_shade, D_parts_of, D_shares_of, D_is_eye, D_check_eye, D_far_by, D_is_name, D_check_name, D_Book.__init__, D_Book.place_of, D_Book.check_new, D_Book.turn_to, D_Book.put, D_Book.rename, D_Book.drop, D_Book.shade, D_Book.names, D_Book.__len__, D_rows_of, D_check_limit, D_check_book, D_is_near, D_near_names, D_pairs_near, D__law_cell, D__law_purse, D__law_pick, D__law_low]
def fn1 : List He.DefD := [D__law_plus, D__law_minus, D__law_times, D__law_below, D__law_plain_share, D__law_eye, D__law_far, D__law_name, D__law_beside, D__law_book, D__law_limit, D__law_stays, D__law_pairs, D__law_right, D_law]
def fn : List He.DefD := fn0 ++ fn1
def fa0 : List He.Fa := [.glo ("ZERO" : Str), .glo ("is_whole" : Str), .glo ("share_of" : Str), .glo ("low" : Str), .glo ("is_fraction" : Str), .glo ("from_zero" : Str), .glo ("in_one" : Str), .glo ("add" : Str), .glo ("less" : Str), .glo ("mul" : Str), .glo ("is_less" : Str), .glo ("total" : Str), .glo ("Shade" : Str), .cls ("Shade" : Str), .mkr ("Shade" : Str), .noat ("Shade" : Str) ("ember" : Str), .noat ("Shade" : Str) ("leaf" : Str), .noat ("Shade" : Str) ("sky" : Str), .glo ("check_shade" : Str), .glo ("parts_of" : Str), .glo ("shares_of" : Str), .int ("MOST_EYE" : Str) 99, .glo ("EVEN" : Str), .glo ("is_eye" : Str), .glo ("check_eye" : Str), .glo ("far_by" : Str), .int ("MOST_NAMES" : Str) 24, .int ("MOST_LETTERS" : Str) 12, .str ("LETTERS" : Str) ("abcdefghijklmnopqrstuvwxyz" : Str), .glo ("is_name" : Str), .glo ("check_name" : Str), .glo ("Book" : Str), .cls ("Book" : Str), .mkr ("Book" : Str), .noat ("Book" : Str) ("eye" : Str), .noat ("Book" : Str) ("rows" : Str), .noat ("Book" : Str) ("past" : Str), .meth ("Book" : Str) ("place_of" : Str), .meth ("Book" : Str) ("check_new" : Str), .meth ("Book" : Str) ("turn_to" : Str)]
def fa1 : List He.Fa := [.meth ("Book" : Str) ("put" : Str), .meth ("Book" : Str) ("rename" : Str), .meth ("Book" : Str) ("drop" : Str), .meth ("Book" : Str) ("shade" : Str), .meth ("Book" : Str) ("names" : Str), .meth ("Book" : Str) ("__len__" : Str), .glo ("rows_of" : Str), .glo ("LEAST_LIMIT" : Str), .glo ("MOST_LIMIT" : Str), .glo ("check_limit" : Str), .glo ("check_book" : Str), .glo ("is_near" : Str), .glo ("near_names" : Str), .glo ("pairs_near" : Str), .glo ("_law_cell" : Str), .glo ("_law_purse" : Str), .glo ("_law_pick" : Str), .glo ("_law_low" : Str), .glo ("_law_plus" : Str), .glo ("_law_minus" : Str), .glo ("_law_times" : Str), .glo ("_law_below" : Str), .glo ("_law_plain_share" : Str), .glo ("_law_eye" : Str), .glo ("_law_far" : Str), .glo ("_law_name" : Str), .glo ("_law_beside" : Str), .glo ("_law_book" : Str), .glo ("_law_limit" : Str), .glo ("_law_stays" : Str), .glo ("_law_pairs" : Str), .glo ("_law_right" : Str), .glo ("law" : Str), .free ("len" : Str), .free ("abs" : Str), .free ("int" : Str), .free ("str" : Str), .free ("repr" : Str), .free ("tuple" : Str), .free ("list" : Str)]
def fa2 : List He.Fa := [.free ("sum" : Str), .free ("min" : Str), .free ("max" : Str), .free ("all" : Str), .free ("any" : Str), .free ("sorted" : Str), .free ("isinstance" : Str), .free ("range" : Str), .free ("enumerate" : Str), .free ("zip" : Str), .free ("dict" : Str), .free ("bool" : Str)]
def fa : List He.Fa := fa0 ++ fa1 ++ fa2
def tf : List He.Defn := [(("far_by" : Str), none)]
def ex (K : PySem.W.Frag) : Bool := (He.tupB K ("ZERO" : Str) [.int 0, .int 1]) && (He.tupB K ("EVEN" : Str) [.int 1, .int 1, .int 1]) && (He.tupB K ("LEAST_LIMIT" : Str) [.int 1, .int 1000]) && (He.tupB K ("MOST_LIMIT" : Str) [.int 1000, .int 1]) && (clsB K ("Shade" : Str)) && (clsB K ("Book" : Str)) && (decide ((tf.map fun p => (He.cT K p).2).Nodup))
end L37
set_option Elab.async false
set_option linter.all false
set_option maxRecDepth 100000
set_option maxHeartbeats 0
namespace L37
open PySem PySem.Spec PyProof.Rows Li L2
def names0 : List Str := [("_wall" : Str), ("ShadeError" : Str), ("BookError" : Str), ("NoShade" : Str), ("NoEye" : Str), ("NoLimit" : Str), ("NoWord" : Str), ("NoName" : Str), ("NameStands" : Str), ("BookFull" : Str), ("NoBack" : Str), ("ZERO" : Str), ("is_whole" : Str), ("share_of" : Str), ("low" : Str), ("is_fraction" : Str), ("from_zero" : Str), ("in_one" : Str), ("add" : Str), ("less" : Str), ("mul" : Str), ("is_less" : Str), ("total" : Str), ("show_fraction" : Str), ("Shade" : Str), ("check_shade" : Str), ("parts_of" : Str), ("shares_of" : Str), ("MOST_EYE" : Str), ("EVEN" : Str), ("is_eye" : Str), ("check_eye" : Str), ("far_by" : Str), ("MOST_NAMES" : Str), ("MOST_LETTERS" : Str)]
def names1 : List Str := [("LETTERS" : Str), ("is_name" : Str), ("check_name" : Str), ("Book" : Str), ("rows_of" : Str), ("LEAST_LIMIT" : Str), ("MOST_LIMIT" : Str), ("check_limit" : Str), ("check_book" : Str), ("is_near" : Str), ("near_names" : Str), ("pairs_near" : Str), ("_law_cell" : Str), ("_law_purse" : Str), ("_law_pick" : Str), ("_law_low" : Str), ("_law_plus" : Str), ("_law_minus" : Str), ("_law_times" : Str), ("_law_below" : Str), ("_law_plain_share" : Str), ("_law_eye" : Str), ("_law_far" : Str), ("_law_name" : Str), ("_law_beside" : Str), ("_law_book" : Str), ("_law_limit" : Str), ("_law_stays" : Str), ("_law_pairs" : Str), ("_law_right" : Str)]
def names : List Str := names0 ++ names1
abbrev R : PySem.W.OpenRow := PySem.W.OpenLaw.row PySem.Challenge.rw_lightshares_k37_names_too_near
abbrev hk : PySem.W.Hook := He.hookX 4 fa fn [] tf ex
def ob (s : PySem.W.SharedT) : He.AlX := He.obsX 4 fa fn [] tf ex (HandSHeadRun.getT s)
theorem ob_eq (s : PySem.W.SharedT) : ob s = hk.obs s.abs := He.obsX_eq (HandSHeadRun.getT_eq s)
theorem two {α A B C : Type} {r : Option α} {a : α → A} {b : α → B} {c : α → C} {x : A} {y : B} {z : C} (h1 : Option.map (fun s => (a s, b s)) r = some (x, y)) (h2 : Option.map c r = some z) : Option.map (fun s => (a s, b s, c s)) r = some (x, y, z) := by
  cases r with
  | none => cases h1
  | some s =>
    have e1 : (a s, b s) = (x, y) := Option.some.inj h1
    have e2 : c s = z := Option.some.inj h2
    show some (a s, b s, c s) = some (x, y, z)
    rw [show a s = x from congrArg Prod.fst e1, show b s = y from congrArg Prod.snd e1, e2]
theorem run1 (w : World) (os : OsState) : Option.map (fun s => (HandSHeadRun.looksF R.prog (PySem.W.boot_heap w.params) s.abs, HandSHeadRun.seenQ (PySem.W.view R.prog [73]) names (PySem.importedModules R.prog.main.body) (fun s => PySem.W.xlAt (PySem.W.view R.prog [73]) [] s && PySem.W.recOk R.records s) s.abs)) (HandSHeadRun.endF (HandSHeadRun.stepQ (HandSHeadRun.denQ HandSHeadRun.tabQ) R.prog w) 20000 R.prog w os) = some (true, PySem.W.openGood (PySem.W.view R.prog [73]) names) := by
  kernel_rfl
theorem run2 (w : World) (os : OsState) : Option.map ob (HandSHeadRun.endF (HandSHeadRun.stepQ (HandSHeadRun.denQ HandSHeadRun.tabQ) R.prog w) 20000 R.prog w os) = some (hk.val w) := by
  kernel_rfl
theorem run (w : World) : HandSHeadRun.RunEq R (PySem.W.view R.prog [73]) hk ob 20000 names w := fun os => two (run1 w os) (run2 w os)
end L37
set_option Elab.async false
set_option linter.all false
/-! FrZ: sizes of fractions: a multiple of 1/D, of at most M. -/
namespace Li
def Fz (D M : Nat) (x : Rat) : Prop := 0 < D ∧ ∃ k : Int, x * (D : Rat) = (k : Rat) ∧ k.natAbs ≤ M * D
theorem Fz.eq {D M : Nat} {x : Rat} (h : Fz D M x) : ∃ k : Int, x = mkRat k D ∧ k.natAbs ≤ M * D := by
  obtain ⟨h0, k, h1, h2⟩ := h
  refine ⟨k, ?_, h2⟩
  rw [Rat.mkRat_eq_div, ← h1, Rat.mul_div_cancel]
  exact fun z => by
    have := Rat.natCast_eq_zero_iff.mp z
    omega
theorem Fz.den_dvd {D M : Nat} {x : Rat} (h : Fz D M x) : x.den ∣ D := by
  obtain ⟨k, e, _⟩ := h.eq
  have h0 := h.1
  rw [e, Rat.den_mkRat, if_neg (by omega)]
  exact Nat.div_dvd_of_dvd (Nat.gcd_dvd_left _ _)
theorem Fz.den_le {D M : Nat} {x : Rat} (h : Fz D M x) : x.den ≤ D := Nat.le_of_dvd h.1 h.den_dvd
theorem Fz.num_le {D M : Nat} {x : Rat} (h : Fz D M x) : x.num.natAbs ≤ M * D := by
  obtain ⟨k, e, h2⟩ := h.eq
  have h0 := h.1
  rw [e, Rat.num_mkRat, if_neg (by omega)]
  refine Nat.le_trans ?_ h2
  rw [Int.natAbs_ediv_of_dvd (Int.ofNat_dvd_left.mpr (Nat.gcd_dvd_right _ _))]
  exact Nat.div_le_self _ _
theorem Fz.add {D M N : Nat} {x y : Rat} (h : Fz D M x) (g : Fz D N y) : Fz D (M + N) (x + y) := by
  obtain ⟨h0, k, h1, h2⟩ := h
  obtain ⟨_, l, g1, g2⟩ := g
  refine ⟨h0, k + l, ?_, ?_⟩
  · rw [Rat.intCast_add, Rat.add_mul, h1, g1]
  · rw [Nat.add_mul]
    omega
theorem Fz.sub {D M N : Nat} {x y : Rat} (h : Fz D M x) (g : Fz D N y) : Fz D (M + N) (x - y) := by
  obtain ⟨h0, k, h1, h2⟩ := h
  obtain ⟨_, l, g1, g2⟩ := g
  refine ⟨h0, k - l, ?_, ?_⟩
  · rw [Rat.intCast_sub, ← h1, ← g1]
    grind
  · rw [Nat.add_mul]
    omega
theorem Fz.mul {D E M N : Nat} {x y : Rat} (h : Fz D M x) (g : Fz E N y) : Fz (D * E) (M * N) (x * y) := by
  obtain ⟨h0, k, h1, h2⟩ := h
  obtain ⟨g0, l, g1, g2⟩ := g
  refine ⟨Nat.mul_pos h0 g0, k * l, ?_, ?_⟩
  · rw [Rat.intCast_mul, ← h1, ← g1, Rat.natCast_mul]
    grind
  · rw [Int.natAbs_mul]
    calc k.natAbs * l.natAbs ≤ (M * D) * (N * E) := Nat.mul_le_mul h2 g2
      _ = M * N * (D * E) := by grind
theorem Fz.mono {D M D' M' : Nat} {x : Rat} (h : Fz D M x) (hd : D ∣ D') (h0 : 0 < D') (hm : M ≤ M') : Fz D' M' x := by
  obtain ⟨_, k, h1, h2⟩ := h
  obtain ⟨c, rfl⟩ := hd
  refine ⟨h0, k * c, ?_, ?_⟩
  · rw [Rat.intCast_mul, ← h1, Rat.natCast_mul, Rat.intCast_natCast]
    grind
  · rw [Int.natAbs_mul, Int.natAbs_natCast]
    calc k.natAbs * c ≤ M * D * c := Nat.mul_le_mul_right _ h2
      _ ≤ M' * D * c := Nat.mul_le_mul_right _ (Nat.mul_le_mul_right _ hm)
      _ = M' * (D * c) := by grind
theorem Fz.up {D M M' : Nat} {x : Rat} (h : Fz D M x) (hm : M ≤ M') : Fz D M' x := h.mono (Nat.dvd_refl _) h.1 hm
theorem Fz.int {D : Nat} (i : Int) (h : 0 < D) : Fz D i.natAbs (i : Rat) := by
  refine ⟨h, i * D, ?_, ?_⟩
  · rw [Rat.intCast_mul, Rat.intCast_natCast]
  · rw [Int.natAbs_mul, Int.natAbs_natCast]
    exact Nat.le_refl _
theorem Fz.zero {D : Nat} (h : 0 < D) : Fz D 0 0 := Fz.int 0 h
theorem Fz.neg {D M : Nat} {x : Rat} (h : Fz D M x) : Fz D M (-x) := by
  have := (Fz.zero h.1).sub h
  rw [Nat.zero_add] at this
  have e : -x = 0 - x := by grind
  rw [e]
  exact this
/-- k / D -/
theorem Fz.mk {D : Nat} (k : Int) (M : Nat) (h : 0 < D) (hk : k.natAbs ≤ M * D) : Fz D M (Rat.divInt k D) := by
  refine ⟨h, k, ?_, hk⟩
  rw [Rat.divInt_eq_div, Rat.intCast_natCast, Rat.div_mul_cancel]
  exact fun z => by
    have := Rat.natCast_eq_zero_iff.mp z
    omega
/-- a sum -/
def rsum : List Rat → Rat
  | [] => 0
  | x :: r => x + rsum r
theorem rsum_foldl : ∀ (xs : List Rat) (a : Rat), xs.foldl (· + ·) a = a + rsum xs
  | [], a => by
    show a = a + 0
    grind
  | x :: r, a => by
    show r.foldl (· + ·) (a + x) = a + (x + rsum r)
    rw [rsum_foldl r]
    grind
/-! ### numbers of so many bits -/
def B2 (n a : Nat) : Prop := n < 2 ^ a
theorem B2.mul {n m a b : Nat} (h : B2 n a) (g : B2 m b) : B2 (n * m) (a + b) := by
  unfold B2 at *
  rw [Nat.pow_add]
  exact Nat.mul_lt_mul'' h g
theorem B2.mono {n a b : Nat} (h : B2 n a) (hb : a ≤ b) : B2 n b := Nat.lt_of_lt_of_le h (Nat.pow_le_pow_right (by decide) hb)
theorem B2.add {n m a : Nat} (h : B2 n a) (g : B2 m a) : B2 (n + m) (a + 1) := by
  unfold B2 at *
  rw [Nat.pow_succ]
  omega
theorem B2.le {n m a : Nat} (h : B2 n a) (g : m ≤ n) : B2 m a := Nat.lt_of_le_of_lt g h
end Li
set_option Elab.async false
set_option linter.all false
set_option maxRecDepth 100000
/-! Fr: fractions: what the program's and the laws' defs of fractions do. -/
namespace Li
open PySem
local macro_rules | `(tactic| walk_at "li") => `(tactic| simp only [evD, evSs, evS, evE, evEs, evI, evO, evIt, slotQ_0, slotQ_s, cloQ_0, cloQ_s, capQ_nil, capQ_cons, intQ_i, adrQ_a, lstQ_l, tupQ_t, dctQ_d, optQ_s, gvalQ_v, brV_s, asL_l, truV_b, truV_n, truV_i, lenV_t, lenV_s, lenV_l, idxV_t, idxV_s, idxV_l, atI_0, atI_1, atI_2, atI_3, bin_add, bin_sub, bin_mul, bin_div, bin_mod, bin_pow, bin_shl, bin_shr, bin_and, bin_addL, bin_addT, aug_add, aug_sub, aug_mul, cmp_lt, cmp_le, cmp_gt, cmp_ge, cmp_is, cmp_isnt, cmp_eq, cmp_ne, tst_e, wipe_nil, wipe_cons, asg_one, asg_many, asgs_nil, asgs_cons, seqV_t, itV_t, itV_l, itV_s, itV_x, itV_d, itV_set, chkV_x, chkV_d, keyQ_s, keyQ_i, keyV, dctV_d, dctV_set, dctQC_set, bin_addX, idxV_x, cmp_ltx, esLen_n, esLen_c, isCalk_cl, pickV_n, pickV_l, pickV_r, getD_0, getD_s, isFn_fn, isFnk_fn, mthQ_i, bmP_pop, bmP_ins, bmP_ext, bmV_pop, bmV_popAt, bmV_ins, bmV_ext, dropC_d, cellOf_d, seqV_s, seqV_l, chkV_t, chkV_l, chkV_s, chkV_a, callG_fn, isCal_fn, isCal_cls, isCalk_fn, callK_fn, frz_nil, puSp_run, bf_len, bf_abs, bf_int, bf_intb, bf_tupT, bf_tupL, bf_listL, bf_listT, bf_min2, bf_max2, bf_isi, slc_l, slc_t, slc_s, fld_i, setB, tabA_hit, isi_tt, isi_ti, isi_ii, isi_it, isi_ib, isi_bi, isi_bb, isi_ss, Cxt.nox, natI_0, natI_1, natI_2, natI_3, natI_4, natI_5, natI_6, natI_7, Bool.not_true, Bool.not_false, decide_true, decide_false, Bool.false_eq_true, if_true, if_false, celQ_set, idxV_set, Sto.set_set, ixN_30, ixN_31, ixN_32, enumV_n, enumV_c, zipV_n, zipV_c, objQ_set, isNon_n, isNon_t, isNon_i, setC_l, dropC_n, dropC_s, dropC_a, cellOf_0, cellOf_s, cellOf_n, frz_cons, frz1_s, frz1_n, sbst_t, sbst_l, sbst_i, sbst_b, sbst_non, sbst_str, sbst_a, sbsts_n, sbsts_c, bin_addLA_set, lenV_set, seqV_set, bf_tupA_set, bmP_app, bmV_app, bf_sum_set, bf_sum_l, asInts_n, asInts_c, Option.map_some, sz_0, sz_1, sz_2, sz_3, sz_4, sz_5, sz_6, sz_7, List.map_cons, List.map_nil, List.length_cons, List.length_nil, List.cons_append, List.nil_append, List.append_nil, List.drop_nil, List.set_cons_zero, List.set_cons_succ, List.replicate_succ, List.replicate_zero, Nat.reduceSub, Nat.reduceAdd, decide_eq_true_eq, true_and, and_true])
/-- a fraction -/
def frV (r : Rat) : Val := .tup [.int r.num, .int r.den]
/-- .. small enough for the model's numbers -/
def Bs9 (n : Nat) : Prop := n < 2 ^ 9000
theorem divW {i : Int} {n : Nat} (h0 : 0 < n) (h : n < 2 ^ 9000) : L2.CDivW i (n : Int) := by
  refine ⟨by omega, ?_⟩
  rw [Int.natAbs_natCast]
  exact (Nat.log2_lt (by omega)).mpr h
/-! ### the greatest common divisor -/
theorem whl_gcd {t : Env → Sto → (Bool → Sto → Prop) → Prop} {body : DE → Env → Sto → Prop} {D : DE} {mk : Int → Int → Env} {S : Sto} (ht : ∀ a b Q, Q (decide (0 < b)) S → t (mk a b) S Q)
    (hb : ∀ a b (D : DE), 0 < b → D.nx (mk b (a % b)) S → body D (mk a b) S) : ∀ (b a : Nat) (n : Nat), b < n → (∀ z : Int, D.nx (mk (Nat.gcd a b) z) S) → whlN t body n D (mk a b) S := by
  intro b
  induction b using Nat.strongRecOn with
  | _ b ih =>
    intro a n hn hD
    obtain ⟨k, rfl⟩ : ∃ k, n = k + 1 := ⟨n - 1, by omega⟩
    refine ht _ _ _ ?_
    by_cases h0 : 0 < b
    · rw [decide_eq_true (by omega : (0 : Int) < (b : Int))]
      refine hb a b _ (by omega) ?_
      have e : ((a : Int) % (b : Int)) = ((a % b : Nat) : Int) := by simp
      rw [e]
      refine ih (a % b) (Nat.mod_lt _ h0) b k (by have := Nat.mod_lt a h0; omega) ?_
      rw [Nat.gcd_comm a b, Nat.gcd_rec] at hD
      rw [Nat.gcd_comm]
      exact hD
    · have e : b = 0 := by omega
      subst e
      rw [decide_eq_false (by omega : ¬ (0 : Int) < ((0 : Nat) : Int))]
      rw [Nat.gcd_zero_right] at hD
      exact hD _
def sp_share_of : ISp := puSp (fun p : Nat × Nat => [.int p.1, .int p.2]) (fun _ => True) fun p => .int (Nat.gcd p.1 p.2)
theorem hsp_share_of {D : Nat → Li.G} {A : Addr → Str → Prop} (vs : List Val) (S : Sto) (Q : VQ) (R : EQ) (hl : vs.length = 2) (h : sp_share_of.run vs S Q R) : evD { D := D, A := A, er := R } Pt.b_share_of 2 [] vs S Q := by
  obtain ⟨⟨a, b⟩, rfl, -, hQ⟩ := h
  unfold Pt.b_share_of
  walk_at "li"
  refine ⟨b + 1, whl_gcd (mk := fun x y => [some (.int x), some (.int y)]) (fun a b Q hQ => ?_) (fun a b D hb hD => ?_) b a _ (by omega) fun z => ?_⟩
  · walk_at "li"
    exact hQ
  · walk_at "li"
    exact ⟨hb, hD⟩
  · walk_at "li"
    exact hQ

/-! ### in lowest terms -/
theorem low_val {t : Int} {n : Nat} (h : 0 < n) : frV (Rat.divInt t n) = .tup [.int (t / (Nat.gcd t.natAbs n : Int)), .int ((n : Int) / (Nat.gcd t.natAbs n : Int))] := by
  unfold frV
  rw [Rat.divInt_ofNat, Rat.num_mkRat, Rat.den_mkRat, if_neg (by omega), if_neg (by omega), Nat.gcd_comm]
  simp
def sp_low : ISp := puSp (fun p : Int × Int => [.int p.1, .int p.2]) (fun p => p.2 ≠ 0 ∧ p.2.natAbs < 2 ^ 9000) fun p => frV (Rat.divInt p.1 p.2)
/-- behind the sign -/
theorem low_end {t : Int} {n : Nat} {S : Sto} {Q : VQ} (h0 : 0 < n) (h9 : n < 2 ^ 9000) (hQ : Q (frV (Rat.divInt t n)) S) :
    L2.CDivW t (Nat.gcd t.natAbs n : Nat) ∧ L2.CDivW (n : Int) (Nat.gcd t.natAbs n : Nat) ∧ Q (.tup [.int (t / (Nat.gcd t.natAbs n : Int)), .int ((n : Int) / (Nat.gcd t.natAbs n : Int))]) S := by
  have hg : 0 < Nat.gcd t.natAbs n := Nat.gcd_pos_of_pos_right _ h0
  have hl : Nat.gcd t.natAbs n ≤ n := Nat.le_of_dvd h0 (Nat.gcd_dvd_right _ _)
  rw [low_val h0] at hQ
  exact ⟨divW hg (by omega), divW hg (by omega), hQ⟩
theorem abs_nat (t : Int) : (if t < 0 then -t else t) = (t.natAbs : Int) := by
  split <;> omega
theorem sz2 {a b : Nat} : a + b ≤ 0 + 1 + 1 → a + b ≤ sizeLine := fun h => Nat.le_trans h (by decide)
theorem szn {n : Nat} (h : n ≤ 100) : n ≤ sizeLine := Nat.le_trans h (by decide)
theorem hsp_low {D : Nat → Li.G} {A : Addr → Str → Prop} (h13 : D 13 = .fn sp_share_of 2 []) (vs : List Val) (S : Sto) (Q : VQ) (R : EQ) (hl : vs.length = 2) (h : sp_low.run vs S Q R) : evD { D := D, A := A, er := R } Pt.b_low 3 [] vs S Q := by
  obtain ⟨⟨t, b⟩, rfl, ⟨hb, h9⟩, hQ⟩ := h
  unfold Pt.b_low
  walk_at "li"
  split
  · rename_i hneg
    obtain ⟨n, hn⟩ : ∃ n : Nat, b = -(n : Int) := ⟨b.natAbs, by omega⟩
    subst hn
    have e1 : (0 : Int) - t = -t := by omega
    have e2 : (0 : Int) - -(n : Int) = n := by omega
    rw [h13]
    walk_at "li"
    rw [e1, e2, abs_nat]
    refine ⟨⟨(-t).natAbs, n⟩, rfl, trivial, ?_⟩
    walk_at "li"
    have e : Rat.divInt t (-(n : Int)) = Rat.divInt (-t) n := Rat.divInt_neg' t n
    simp only [e] at hQ
    exact low_end (by omega) (by simpa using h9) hQ
  · obtain ⟨n, rfl⟩ : ∃ n : Nat, b = (n : Int) := ⟨b.natAbs, by omega⟩
    rw [h13]
    walk_at "li"
    rw [abs_nat]
    refine ⟨⟨t.natAbs, n⟩, rfl, trivial, ?_⟩
    walk_at "li"
    have hb : (n : Int) ≠ 0 := hb
    exact low_end (by omega) (by simpa using h9) hQ
/-- two fractions that may be reckoned with -/
structure Pz (x y : Rat) : Prop where
  d : B2 (x.den * y.den) 9000
  n1 : B2 x.num.natAbs 1000000
  n2 : B2 y.num.natAbs 1000000
theorem Pz.d1 {x y : Rat} (h : Pz x y) : x.den < 2 ^ 9000 := Nat.lt_of_le_of_lt (Nat.le_mul_of_pos_right _ y.den_pos) h.d
theorem Pz.d2 {x y : Rat} (h : Pz x y) : y.den < 2 ^ 9000 := Nat.lt_of_le_of_lt (Nat.le_mul_of_pos_left _ x.den_pos) h.d
theorem Pz.m1 {x y : Rat} (h : Pz x y) : L2.CMulX x.num (y.den : Int) := L2.mulx_ok h.n1 (by rw [Int.natAbs_natCast]; exact h.d2) (by decide)
theorem Pz.m2 {x y : Rat} (h : Pz x y) : L2.CMulX y.num (x.den : Int) := L2.mulx_ok h.n2 (by rw [Int.natAbs_natCast]; exact h.d1) (by decide)
theorem Pz.mm {x y : Rat} (h : Pz x y) : L2.CMulX x.num y.num := L2.mulx_ok h.n1 h.n2 (by decide)
theorem Pz.md {x y : Rat} (h : Pz x y) : L2.CMulX (x.den : Int) (y.den : Int) := L2.mulx_ok (by rw [Int.natAbs_natCast]; exact h.d1) (by rw [Int.natAbs_natCast]; exact h.d2) (by decide)
theorem Pz.ne {x y : Rat} (h : Pz x y) : (x.den : Int) * (y.den : Int) ≠ 0 := by
  have h1 := x.den_pos
  have h2 := y.den_pos
  rw [← Int.natCast_mul]
  have := Nat.mul_pos h1 h2
  omega
theorem Pz.dn {x y : Rat} (h : Pz x y) : ((x.den : Int) * (y.den : Int)).natAbs < 2 ^ 9000 := by
  rw [← Int.natCast_mul, Int.natAbs_natCast]
  exact h.d
def sp_add : ISp := puSp (fun p : Rat × Rat => [frV p.1, frV p.2]) (fun p => Pz p.1 p.2) fun p => frV (p.1 + p.2)
def sp_less : ISp := puSp (fun p : Rat × Rat => [frV p.1, frV p.2]) (fun p => Pz p.1 p.2) fun p => frV (p.1 - p.2)
def sp_mul : ISp := puSp (fun p : Rat × Rat => [frV p.1, frV p.2]) (fun p => Pz p.1 p.2) fun p => frV (p.1 * p.2)
theorem add_div (x y : Rat) : Rat.divInt (x.num * y.den + y.num * x.den) ((x.den : Int) * y.den) = x + y := by
  rw [Rat.add_def', ← Rat.divInt_ofNat, Int.natCast_mul]
theorem sub_div (x y : Rat) : Rat.divInt (x.num * y.den - y.num * x.den) ((x.den : Int) * y.den) = x - y := by
  rw [Rat.sub_def', ← Rat.divInt_ofNat, Int.natCast_mul]
theorem mul_div (x y : Rat) : Rat.divInt (x.num * y.num) ((x.den : Int) * y.den) = x * y := by
  rw [Rat.mul_def', ← Rat.divInt_ofNat, Int.natCast_mul]
theorem hsp_add {D : Nat → Li.G} {A : Addr → Str → Prop} (h14 : D 14 = .fn sp_low 2 []) (vs : List Val) (S : Sto) (Q : VQ) (R : EQ) (hl : vs.length = 2) (h : sp_add.run vs S Q R) : evD { D := D, A := A, er := R } Pt.b_add 2 [] vs S Q := by
  obtain ⟨⟨x, y⟩, rfl, h, hQ⟩ := h
  unfold Pt.b_add frV
  walk_at "li"
  rw [h14]
  walk_at "li"
  exact ⟨h.m1, h.m2, h.md, ⟨_, _⟩, rfl, ⟨h.ne, h.dn⟩, by simpa only [add_div] using hQ⟩
theorem hsp_less {D : Nat → Li.G} {A : Addr → Str → Prop} (h14 : D 14 = .fn sp_low 2 []) (vs : List Val) (S : Sto) (Q : VQ) (R : EQ) (hl : vs.length = 2) (h : sp_less.run vs S Q R) : evD { D := D, A := A, er := R } Pt.b_less 2 [] vs S Q := by
  obtain ⟨⟨x, y⟩, rfl, h, hQ⟩ := h
  unfold Pt.b_less frV
  walk_at "li"
  rw [h14]
  walk_at "li"
  exact ⟨h.m1, h.m2, h.md, ⟨_, _⟩, rfl, ⟨h.ne, h.dn⟩, by simpa only [sub_div] using hQ⟩
theorem hsp_mul {D : Nat → Li.G} {A : Addr → Str → Prop} (h14 : D 14 = .fn sp_low 2 []) (vs : List Val) (S : Sto) (Q : VQ) (R : EQ) (hl : vs.length = 2) (h : sp_mul.run vs S Q R) : evD { D := D, A := A, er := R } Pt.b_mul 2 [] vs S Q := by
  obtain ⟨⟨x, y⟩, rfl, h, hQ⟩ := h
  unfold Pt.b_mul frV
  walk_at "li"
  rw [h14]
  walk_at "li"
  exact ⟨h.mm, h.md, ⟨_, _⟩, rfl, ⟨h.ne, h.dn⟩, by simpa only [mul_div] using hQ⟩

theorem Fz.pz {D E M N : Nat} {x y : Rat} (h : Fz D M x) (g : Fz E N y) (hs : B2 (D * E) 9000) (hm : B2 (M * D) 1000000) (hn : B2 (N * E) 1000000) : Pz x y :=
  ⟨hs.le (Nat.mul_le_mul h.den_le g.den_le), hm.le h.num_le, hn.le g.num_le⟩
theorem frV_zero : frV 0 = .tup [.int 0, .int 1] := rfl
theorem frV_one : frV 1 = .tup [.int 1, .int 1] := rfl
theorem frV_int (i : Int) : frV (i : Rat) = .tup [.int i, .int 1] := rfl
theorem frV_half : frV (1 / 2) = .tup [.int 1, .int 2] := by
  have e : (1 / 2 : Rat) = mkRat 1 2 := by
    rw [Rat.mkRat_eq_div]
    rfl
  rw [e]
  rfl
theorem frV_inj {x y : Rat} (h : frV x = frV y) : x = y := by
  unfold frV at h
  injection h with h
  injection h with h1 h2
  injection h2 with h2 _
  injection h1 with h1
  injection h2 with h2
  exact Rat.ext h1 (by omega)
/-! ### looks -/
def sp_is_whole : ISp := puSp (fun i : Int => [.int i]) (fun _ => True) fun _ => .bl true
theorem hsp_is_whole {D : Nat → Li.G} {A : Addr → Str → Prop} (vs : List Val) (S : Sto) (Q : VQ) (R : EQ) (hl : vs.length = 1) (h : sp_is_whole.run vs S Q R) : evD { D := D, A := A, er := R } Pt.b_is_whole 1 [] vs S Q := by
  obtain ⟨i, rfl, -, hQ⟩ := h
  unfold Pt.b_is_whole
  walk_at "li"
  exact hQ
theorem eqv_ints {i j : Int} {f : Bool → Bool} {S : Sto} {P : Bool → Prop} (h : P (f (decide (i = j)))) : eqV S f (.int i) (.int j) P := by
  show SeqAt.shaped _ = true ∧ SeqAt.shaped _ = true ∧ P (f (PyData.eqv (.int i) (.int j)))
  rw [eqv_int]
  exact ⟨by simp [SeqAt.shaped, PyData.canLay0, PyData.depth], by simp [SeqAt.shaped, PyData.canLay0, PyData.depth], h⟩
def sp_is_fraction : ISp := puSp (fun x : Rat => [frV x]) (fun _ => True) fun _ => .bl true
theorem hsp_is_fraction {D : Nat → Li.G} {A : Addr → Str → Prop} (h12 : D 12 = .fn sp_is_whole 1 []) (h13 : D 13 = .fn sp_share_of 2 []) (vs : List Val) (S : Sto) (Q : VQ) (R : EQ) (hl : vs.length = 1) (h : sp_is_fraction.run vs S Q R) : evD { D := D, A := A, er := R } Pt.b_is_fraction 2 [] vs S Q := by
  obtain ⟨x, rfl, -, hQ⟩ := h
  unfold Pt.b_is_fraction frV
  walk_at "li"
  rw [h12, h13]
  walk_at "li"
  simp only [compL_cons, compL_nil]
  walk_at "li"
  refine ⟨x.num, rfl, trivial, by decide, x.den, rfl, trivial, by decide, ?_⟩
  rw [show ([.bl true, .bl true] : List Val) = [true, true].map Val.bl from rfl, bf_allL]
  walk_at "li"
  rw [show ([true, true].all id) = true from rfl]
  have hd := x.den_pos
  walk_at "li"
  rw [if_pos (by omega), abs_nat]
  refine ⟨⟨x.num.natAbs, x.den⟩, rfl, trivial, ?_⟩
  walk_at "li"
  have e : Nat.gcd x.num.natAbs x.den = 1 := x.reduced
  rw [e]
  exact hQ
def sp_from_zero : ISp := puSp (fun x : Rat => [frV x]) (fun _ => True) fun x => .bl (decide (0 ≤ x.num))
theorem hsp_from_zero {D : Nat → Li.G} {A : Addr → Str → Prop} (h15 : D 15 = .fn sp_is_fraction 1 []) (vs : List Val) (S : Sto) (Q : VQ) (R : EQ) (hl : vs.length = 1) (h : sp_from_zero.run vs S Q R) : evD { D := D, A := A, er := R } Pt.b_from_zero 1 [] vs S Q := by
  obtain ⟨x, rfl, -, hQ⟩ := h
  unfold Pt.b_from_zero frV
  walk_at "li"
  rw [h15]
  walk_at "li"
  refine ⟨x, rfl, trivial, ?_⟩
  walk_at "li"
  exact hQ
def sp_in_one : ISp := puSp (fun x : Rat => [frV x]) (fun _ => True) fun x => .bl (decide (0 ≤ x.num) && decide (x.num ≤ x.den))
theorem hsp_in_one {D : Nat → Li.G} {A : Addr → Str → Prop} (h16 : D 16 = .fn sp_from_zero 1 []) (vs : List Val) (S : Sto) (Q : VQ) (R : EQ) (hl : vs.length = 1) (h : sp_in_one.run vs S Q R) : evD { D := D, A := A, er := R } Pt.b_in_one 1 [] vs S Q := by
  obtain ⟨x, rfl, -, hQ⟩ := h
  unfold Pt.b_in_one frV
  walk_at "li"
  rw [h16]
  walk_at "li"
  refine ⟨x, rfl, trivial, ?_⟩
  walk_at "li"
  dsimp only at hQ
  split
  · rename_i h0
    rw [decide_eq_true h0] at hQ
    exact hQ
  · rename_i h0
    rw [decide_eq_false h0] at hQ ⊢
    exact hQ
/-! ### sums -/
/-- all sums on the way may be reckoned -/
def PzS : Rat → List Rat → Prop
  | _, [] => True
  | a, x :: r => Pz a x ∧ PzS (a + x) r
theorem pzS_of {D M : Nat} (hs : B2 (D * D) 9000) : ∀ {xs : List Rat} {a : Rat} {N : Nat}, Fz D N a → (∀ x ∈ xs, Fz D M x) → B2 ((N + xs.length * M) * D) 1000000 → PzS a xs
  | [], a, N, _, _, _ => trivial
  | x :: r, a, N, ha, hx, hn => by
    rw [List.length_cons] at hn
    have e : N + (r.length + 1) * M = N + M + r.length * M := by grind
    rw [e] at hn
    have q1 : N * D ≤ (N + M + r.length * M) * D := Nat.mul_le_mul_right _ (by omega)
    have q2 : M * D ≤ (N + M + r.length * M) * D := Nat.mul_le_mul_right _ (by omega)
    have gx := hx x List.mem_cons_self
    exact ⟨ha.pz gx hs (hn.le q1) (hn.le q2), pzS_of hs (ha.add gx) (fun y hy => hx y (List.mem_cons_of_mem _ hy)) hn⟩
def sp_total : ISp where
  run := fun vs S Q _ => ∃ (xs : List Rat) (v : Val), vs = [v] ∧ (v = .lst (xs.map frV) ∨ v = .tup (xs.map frV)) ∧ PzS 0 xs ∧ Q (frV (rsum xs)) S
  mono := fun hQ _ ⟨xs, v, h1, h2, h3, h4⟩ => ⟨xs, v, h1, h2, h3, hQ _ _ h4⟩
theorem total_loop {step : Val → DE → Env → Sto → Prop} {chk : Sto → Prop} {v : Val} {S : Sto} {D : DE} (hc : chk S) (hs : ∀ (x a : Rat) (o : Option Val) (nx : DE), Pz a x → (∀ o, nx.nx [some v, some (frV (a + x)), o] S) → step (frV x) nx [some v, some (frV a), o] S) : ∀ (xs : List Rat) (a : Rat) (o : Option Val), PzS a xs → (∀ o, D.nx [some v, some (frV (xs.foldl (· + ·) a)), o] S) → forL step chk (xs.map frV) D [some v, some (frV a), o] S
  | [], a, o, _, h => ⟨hc, h o⟩
  | x :: r, a, o, ⟨h1, h2⟩, h => ⟨hc, hs x a o _ h1 fun o => total_loop hc hs r (a + x) o h2 h⟩
theorem hsp_total {D : Nat → Li.G} {A : Addr → Str → Prop} (h11 : D 11 = .val (.tup ([0, 1].map Val.int))) (h18 : D 18 = .fn sp_add 2 []) (vs : List Val) (S : Sto) (Q : VQ) (R : EQ) (hl : vs.length = 1) (h : sp_total.run vs S Q R) : evD { D := D, A := A, er := R } Pt.b_total 3 [] vs S Q := by
  obtain ⟨xs, v, rfl, hv, hp, hQ⟩ := h
  have key : ∀ chk : Sto → Prop, chk S → forL (fun v D' σ' S' => asg (.one 2) v σ' fun σ2 => evSs { D := D, A := A, er := R } (.cons (.set 1 (.call 18 (.cons (.var 1) (.cons (.var 2) .nil)) 0)) .nil) D' σ2 S') chk (xs.map frV) { nx := evSs { D := D, A := A, er := R } (.cons (.ret (.var 1) []) .nil) { nx := fun σ S' => frz σ [] .non S' Q, rt := Q }, rt := Q } [some v, some (frV 0), none] S := fun chk hc => by
    refine total_loop hc (fun x a o nx hp h => ?_) xs 0 none hp fun o => ?_
    · walk_at "li"
      rw [h18]
      walk_at "li"
      exact ⟨⟨a, x⟩, rfl, hp, h _⟩
    · walk_at "li"
      rw [rsum_foldl, Rat.zero_add]
      exact hQ
  unfold Pt.b_total
  rcases hv with rfl | rfl <;> walk_at "li" <;> rw [h11] <;> simp only [gvalQ_v] <;> exact key _ trivial
end Li
set_option Elab.async false
set_option linter.all false
set_option maxRecDepth 100000
/-! FrL: the laws' own fractions, their purse. -/
namespace Li
open PySem
local macro_rules | `(tactic| walk_at "li") => `(tactic| simp only [evD, evSs, evS, evE, evEs, evI, evO, evIt, slotQ_0, slotQ_s, cloQ_0, cloQ_s, capQ_nil, capQ_cons, intQ_i, adrQ_a, lstQ_l, tupQ_t, dctQ_d, optQ_s, gvalQ_v, brV_s, asL_l, truV_b, truV_n, truV_i, lenV_t, lenV_s, lenV_l, idxV_t, idxV_s, idxV_l, atI_0, atI_1, atI_2, atI_3, bin_add, bin_sub, bin_mul, bin_div, bin_mod, bin_pow, bin_shl, bin_shr, bin_and, bin_addL, bin_addT, aug_add, aug_sub, aug_mul, cmp_lt, cmp_le, cmp_gt, cmp_ge, cmp_is, cmp_isnt, cmp_eq, cmp_ne, tst_e, wipe_nil, wipe_cons, asg_one, asg_many, asgs_nil, asgs_cons, seqV_t, itV_t, itV_l, itV_s, itV_x, itV_d, itV_set, chkV_x, chkV_d, keyQ_s, keyQ_i, keyV, dctV_d, dctV_set, dctQC_set, bin_addX, idxV_x, cmp_ltx, esLen_n, esLen_c, isCalk_cl, pickV_n, pickV_l, pickV_r, getD_0, getD_s, isFn_fn, isFnk_fn, mthQ_i, bmP_pop, bmP_ins, bmP_ext, bmV_pop, bmV_popAt, bmV_ins, bmV_ext, dropC_d, cellOf_d, seqV_s, seqV_l, chkV_t, chkV_l, chkV_s, chkV_a, callG_fn, isCal_fn, isCal_cls, isCalk_fn, callK_fn, frz_nil, puSp_run, bf_len, bf_abs, bf_int, bf_intb, bf_tupT, bf_tupL, bf_listL, bf_listT, bf_min2, bf_max2, bf_isi, slc_l, slc_t, slc_s, fld_i, setB, tabA_hit, isi_tt, isi_ti, isi_ii, isi_it, isi_ib, isi_bi, isi_bb, isi_ss, Cxt.nox, natI_0, natI_1, natI_2, natI_3, natI_4, natI_5, natI_6, natI_7, Bool.not_true, Bool.not_false, decide_true, decide_false, Bool.false_eq_true, if_true, if_false, celQ_set, idxV_set, Sto.set_set, ixN_30, ixN_31, ixN_32, enumV_n, enumV_c, zipV_n, zipV_c, objQ_set, isNon_n, isNon_t, isNon_i, setC_l, dropC_n, dropC_s, dropC_a, cellOf_0, cellOf_s, cellOf_n, frz_cons, frz1_s, frz1_n, sbst_t, sbst_l, sbst_i, sbst_b, sbst_non, sbst_str, sbst_a, sbsts_n, sbsts_c, bin_addLA_set, lenV_set, seqV_set, bf_tupA_set, bmP_app, bmV_app, bf_sum_set, bf_sum_l, asInts_n, asInts_c, Option.map_some, sz_0, sz_1, sz_2, sz_3, sz_4, sz_5, sz_6, sz_7, List.map_cons, List.map_nil, List.length_cons, List.length_nil, List.cons_append, List.nil_append, List.append_nil, List.drop_nil, List.set_cons_zero, List.set_cons_succ, List.replicate_succ, List.replicate_zero, Nat.reduceSub, Nat.reduceAdd, decide_eq_true_eq, true_and, and_true])
/-! ### fractions of a law -/
def sp__law_low : ISp := sp_low
theorem whl_gcd2 {t : Env → Sto → (Bool → Sto → Prop) → Prop} {body : DE → Env → Sto → Prop} {D : DE} {mk : Int → Int → Env} {S : Sto} (ht : ∀ a b Q, Q (decide (0 < b)) S → t (mk a b) S Q)
    (hb : ∀ a b (D : DE), 0 < b → D.nx (mk b (a % b)) S → body D (mk a b) S) (a b : Nat) (hD : ∀ z : Int, D.nx (mk (Nat.gcd a b) z) S) : ∃ n, whlN t body n D (mk a b) S := ⟨b + 1, whl_gcd ht hb b a _ (by omega) hD⟩
theorem hsp__law_low {D : Nat → Li.G} {A : Addr → Str → Prop} (vs : List Val) (S : Sto) (Q : VQ) (R : EQ) (hl : vs.length = 2) (h : sp__law_low.run vs S Q R) : evD { D := D, A := A, er := R } Lt.b__law_low 4 [] vs S Q := by
  obtain ⟨⟨t, b⟩, rfl, ⟨hb, h9⟩, hQ⟩ := h
  unfold Lt.b__law_low
  walk_at "li"
  split
  · rename_i hneg
    obtain ⟨n, hn⟩ : ∃ n : Nat, b = -(n : Int) := ⟨b.natAbs, by omega⟩
    subst hn
    have e1 : (0 : Int) - t = -t := by omega
    have e2 : (0 : Int) - -(n : Int) = n := by omega
    rw [e1, e2, abs_nat]
    have e : Rat.divInt t (-(n : Int)) = Rat.divInt (-t) n := Rat.divInt_neg' t n
    simp only [e] at hQ
    refine whl_gcd2 (mk := fun x y => [some (Val.int (-t)), some (Val.int n), some (Val.int x), some (Val.int y)]) (fun a b Q hQ => ?_) (fun a b D hb hD => ?_) (-t).natAbs n fun z => ?_
    · walk_at "li"
      exact hQ
    · walk_at "li"
      exact ⟨hb, hD⟩
    · walk_at "li"
      exact low_end (by omega) (by simpa using h9) hQ
  · obtain ⟨n, rfl⟩ : ∃ n : Nat, b = (n : Int) := ⟨b.natAbs, by omega⟩
    rw [abs_nat]
    have hb : (n : Int) ≠ 0 := hb
    refine whl_gcd2 (mk := fun x y => [some (Val.int (t)), some (Val.int n), some (Val.int x), some (Val.int y)]) (fun a b Q hQ => ?_) (fun a b D hb hD => ?_) (t).natAbs n fun z => ?_
    · walk_at "li"
      exact hQ
    · walk_at "li"
      exact ⟨hb, hD⟩
    · walk_at "li"
      exact low_end (by omega) (by simpa using h9) hQ
def sp__law_plus : ISp := sp_add
def sp__law_minus : ISp := sp_less
def sp__law_times : ISp := sp_mul
theorem hsp__law_plus {D : Nat → Li.G} {A : Addr → Str → Prop} (h14 : D 303 = .fn sp__law_low 2 []) (vs : List Val) (S : Sto) (Q : VQ) (R : EQ) (hl : vs.length = 2) (h : sp__law_plus.run vs S Q R) : evD { D := D, A := A, er := R } Lt.b__law_plus 2 [] vs S Q := by
  obtain ⟨⟨x, y⟩, rfl, h, hQ⟩ := h
  unfold Lt.b__law_plus frV
  walk_at "li"
  rw [h14]
  walk_at "li"
  exact ⟨h.m1, h.m2, h.md, ⟨_, _⟩, rfl, ⟨h.ne, h.dn⟩, by simpa only [add_div] using hQ⟩
theorem hsp__law_minus {D : Nat → Li.G} {A : Addr → Str → Prop} (h14 : D 303 = .fn sp__law_low 2 []) (vs : List Val) (S : Sto) (Q : VQ) (R : EQ) (hl : vs.length = 2) (h : sp__law_minus.run vs S Q R) : evD { D := D, A := A, er := R } Lt.b__law_minus 2 [] vs S Q := by
  obtain ⟨⟨x, y⟩, rfl, h, hQ⟩ := h
  unfold Lt.b__law_minus frV
  walk_at "li"
  rw [h14]
  walk_at "li"
  exact ⟨h.m1, h.m2, h.md, ⟨_, _⟩, rfl, ⟨h.ne, h.dn⟩, by simpa only [sub_div] using hQ⟩
theorem hsp__law_times {D : Nat → Li.G} {A : Addr → Str → Prop} (h14 : D 303 = .fn sp__law_low 2 []) (vs : List Val) (S : Sto) (Q : VQ) (R : EQ) (hl : vs.length = 2) (h : sp__law_times.run vs S Q R) : evD { D := D, A := A, er := R } Lt.b__law_times 2 [] vs S Q := by
  obtain ⟨⟨x, y⟩, rfl, h, hQ⟩ := h
  unfold Lt.b__law_times frV
  walk_at "li"
  rw [h14]
  walk_at "li"
  exact ⟨h.mm, h.md, ⟨_, _⟩, rfl, ⟨h.ne, h.dn⟩, by simpa only [mul_div] using hQ⟩
def sp__law_below : ISp := puSp (fun p : Rat × Rat => [frV p.1, frV p.2]) (fun p => Pz p.1 p.2) fun p => .bl (decide (p.1 < p.2))
theorem hsp__law_below {D : Nat → Li.G} {A : Addr → Str → Prop} (vs : List Val) (S : Sto) (Q : VQ) (R : EQ) (hl : vs.length = 2) (h : sp__law_below.run vs S Q R) : evD { D := D, A := A, er := R } Lt.b__law_below 2 [] vs S Q := by
  obtain ⟨⟨x, y⟩, rfl, h, hQ⟩ := h
  unfold Lt.b__law_below frV
  walk_at "li"
  refine ⟨h.m1, h.m2, ?_⟩
  have e : decide (x < y) = decide (x.num * (y.den : Int) < y.num * (x.den : Int)) := decide_eq_decide.mpr (Rat.lt_iff x y)
  simp only [e] at hQ
  exact hQ
/-! ### the purse -/
/-- a purse: its count is at most n -/
def Pur (S : Sto) (p : Addr) (n : Nat) : Prop := ∃ a b c : Int, S p = some (.lst [.int a, .int b, .int c]) ∧ 0 ≤ b ∧ 0 ≤ c ∧ c ≤ n
theorem Pur.up {S : Sto} {p : Addr} {n m : Nat} (h : Pur S p n) (hm : n ≤ m) : Pur S p m := by
  obtain ⟨a, b, c, h1, h2, h3, h4⟩ := h
  exact ⟨a, b, c, h1, h2, h3, by omega⟩
/-- the store, but for a purse -/
def Ins (S S' : Sto) (p : Addr) : Prop := ∀ a, a ≠ p → S' a = S a
theorem Ins.refl {S : Sto} {p : Addr} : Ins S S p := fun _ _ => rfl
theorem Ins.trans {S S1 S2 : Sto} {p : Addr} (h : Ins S S1 p) (g : Ins S1 S2 p) : Ins S S2 p := fun a ha => (g a ha).trans (h a ha)
/-- from a purse: what is wanted of each thing that may be told -/
def purSp {α : Type} (lim : Nat) (enc : Addr → α → List Val) (pre : α → Prop) (post : α → Val → Prop) (cost : α → Nat) : ISp where
  run := fun vs S Q _ => ∃ p a n, vs = enc p a ∧ Pur S p n ∧ n < 2 ^ lim ∧ pre a ∧ ∀ v S', post a v → Ins S S' p → Pur S' p (n + cost a) → Q v S'
  mono := fun hQ _ ⟨p, a, n, h1, h2, h3, h4, h5⟩ => ⟨p, a, n, h1, h2, h3, h4, fun v S' q1 q2 q3 => hQ _ _ (h5 v S' q1 q2 q3)⟩
theorem Sto.set_ins {S : Sto} {p : Addr} {c : Cell} : Ins S (S.set p c) p := fun a ha => Sto.set_ne ha
def sp__law_purse : ISp where
  run := fun vs S Q _ => ∃ i : Int, vs = [.int i] ∧ ∀ p S', S p = none → Ins S S' p → Pur S' p 0 → Q (.adr p) S'
  mono := fun hQ _ ⟨i, h1, h2⟩ => ⟨i, h1, fun p S' q1 q2 q3 => hQ _ _ (h2 p S' q1 q2 q3)⟩
theorem mulS {i j : Int} {a b : Nat} (hi : i.natAbs < 2 ^ a) (hj : j.natAbs < 2 ^ b) (h : a + b ≤ 134217728) : L2.CMulX i j := L2.mulx_ok hi hj h
theorem hsp__law_purse {D : Nat → Li.G} {A : Addr → Str → Prop} (vs : List Val) (S : Sto) (Q : VQ) (R : EQ) (hl : vs.length = 1) (h : sp__law_purse.run vs S Q R) : evD { D := D, A := A, er := R } Lt.b__law_purse 1 [] vs S Q := by
  obtain ⟨i, rfl, hQ⟩ := h
  unfold Lt.b__law_purse
  walk_at "li"
  have hm : L2.CMulX (i % 999999937) 7001 := mulS (a := 32) (b := 32) (by omega) (by decide) (by decide)
  have hp : L2.CPow 10 18 := ⟨by decide, by decide, by decide⟩
  refine ⟨by omega, hm, hp, ?_⟩
  split
  · rename_i h
    refine fun a ha => hQ a _ ha Sto.set_ins ⟨_, _, _, Sto.set_same, ?_, by omega, by omega⟩
    have e : (10 : Int) ^ (18 : Int).toNat = 1000000000000000000 := by decide
    rw [e] at h
    omega
  · exact fun a ha => hQ a _ ha Sto.set_ins ⟨_, _, _, Sto.set_same, by omega, by omega, by omega⟩
def sp__law_pick : ISp := purSp 70 (fun p (m : Int) => [.adr p, .int m]) (fun m => 0 < m ∧ m < 2 ^ 200) (fun m v => ∃ t : Int, v = .int t ∧ 0 ≤ t ∧ t < m) fun _ => 1
theorem hsp__law_pick {D : Nat → Li.G} {A : Addr → Str → Prop} (vs : List Val) (S : Sto) (Q : VQ) (R : EQ) (hl : vs.length = 2) (h : sp__law_pick.run vs S Q R) : evD { D := D, A := A, er := R } Lt.b__law_pick 4 [] vs S Q := by
  obtain ⟨p, m, n, rfl, ⟨a, b, c, hp, hb, hc, hn⟩, h64, ⟨hm, hm2⟩, hQ⟩ := h
  unfold Lt.b__law_pick
  walk_at "li"
  rw [idxV_a hp]
  walk_at "li"
  rw [celQ_h hp]
  walk_at "li"
  have q1 : L2.CMulX (a % 999999937) (a % 999999937 % 50021 + 20011) := mulS (a := 32) (b := 32) (by omega) (by omega) (by decide)
  have q2 : L2.CMulX 90001 (c + 1) := mulS (a := 32) (b := 72) (by decide) (by omega) (by decide)
  refine ⟨by omega, by omega, q1, q2, ?_⟩
  have hS : ∀ (x y : Int), Ins S (S.set p (.lst [.int x, .int y, .int (c + 1)])) p := fun _ _ => Sto.set_ins
  split
  · rename_i h0
    have q3 : L2.CDivW b m := ⟨hm, by
      have e : m.natAbs < 2 ^ 200 := by omega
      have := (Nat.log2_lt (n := m.natAbs) (k := 200) (by omega)).mpr e
      omega⟩
    refine ⟨hm, q3, ?_⟩
    exact hQ _ _ ⟨_, rfl, Int.emod_nonneg _ (by omega), Int.emod_lt_of_pos _ hm⟩ (hS _ _) ⟨_, _, _, Sto.set_same, Int.ediv_nonneg hb (by omega), by omega, by simp only []; omega⟩
  · rename_i h0
    have q3 : ∀ i, L2.CDivW i 16 := fun i => ⟨by decide, by decide⟩
    refine ⟨by omega, q3 _, hm, ?_⟩
    exact hQ _ _ ⟨_, rfl, Int.emod_nonneg _ (by omega), Int.emod_lt_of_pos _ hm⟩ (hS _ _) ⟨_, _, _, Sto.set_same, hb, by omega, by simp only []; omega⟩
end Li
set_option Elab.async false
set_option linter.all false
set_option maxRecDepth 100000
/-! Sh: Shades, how far they are. -/
namespace Li
open PySem
local macro_rules | `(tactic| walk_at "li") => `(tactic| simp only [evD, evSs, evS, evE, evEs, evI, evO, evIt, slotQ_0, slotQ_s, cloQ_0, cloQ_s, capQ_nil, capQ_cons, intQ_i, adrQ_a, lstQ_l, tupQ_t, dctQ_d, optQ_s, gvalQ_v, brV_s, asL_l, truV_b, truV_n, truV_i, lenV_t, lenV_s, lenV_l, idxV_t, idxV_s, idxV_l, atI_0, atI_1, atI_2, atI_3, bin_add, bin_sub, bin_mul, bin_div, bin_mod, bin_pow, bin_shl, bin_shr, bin_and, bin_addL, bin_addT, aug_add, aug_sub, aug_mul, cmp_lt, cmp_le, cmp_gt, cmp_ge, cmp_is, cmp_isnt, cmp_eq, cmp_ne, tst_e, wipe_nil, wipe_cons, asg_one, asg_many, asgs_nil, asgs_cons, seqV_t, itV_t, itV_l, itV_s, itV_x, itV_d, itV_set, chkV_x, chkV_d, keyQ_s, keyQ_i, keyV, dctV_d, dctV_set, dctQC_set, bin_addX, idxV_x, cmp_ltx, esLen_n, esLen_c, isCalk_cl, pickV_n, pickV_l, pickV_r, getD_0, getD_s, isFn_fn, isFnk_fn, mthQ_i, bmP_pop, bmP_ins, bmP_ext, bmV_pop, bmV_popAt, bmV_ins, bmV_ext, dropC_d, cellOf_d, seqV_s, seqV_l, chkV_t, chkV_l, chkV_s, chkV_a, callG_fn, isCal_fn, isCal_cls, isCalk_fn, callK_fn, frz_nil, puSp_run, bf_len, bf_abs, bf_int, bf_intb, bf_tupT, bf_tupL, bf_listL, bf_listT, bf_min2, bf_max2, bf_isi, slc_l, slc_t, slc_s, fld_i, setB, tabA_hit, isi_tt, isi_ti, isi_ii, isi_it, isi_ib, isi_bi, isi_bb, isi_ss, Cxt.nox, natI_0, natI_1, natI_2, natI_3, natI_4, natI_5, natI_6, natI_7, Bool.not_true, Bool.not_false, decide_true, decide_false, Bool.false_eq_true, if_true, if_false, celQ_set, idxV_set, Sto.set_set, ixN_30, ixN_31, ixN_32, enumV_n, enumV_c, zipV_n, zipV_c, objQ_set, isNon_n, isNon_t, isNon_i, setC_l, dropC_n, dropC_s, dropC_a, cellOf_0, cellOf_s, cellOf_n, frz_cons, frz1_s, frz1_n, sbst_t, sbst_l, sbst_i, sbst_b, sbst_non, sbst_str, sbst_a, sbsts_n, sbsts_c, bin_addLA_set, lenV_set, seqV_set, bf_tupA_set, bmP_app, bmV_app, bf_sum_set, bf_sum_l, asInts_n, asInts_c, Option.map_some, sz_0, sz_1, sz_2, sz_3, sz_4, sz_5, sz_6, sz_7, List.map_cons, List.map_nil, List.length_cons, List.length_nil, List.cons_append, List.nil_append, List.append_nil, List.drop_nil, List.set_cons_zero, List.set_cons_succ, List.replicate_succ, List.replicate_zero, Nat.reduceSub, Nat.reduceAdd, decide_eq_true_eq, true_and, and_true])
abbrev T3 : Type := Rat × Rat × Rat
def trV (t : T3) : Val := .tup [frV t.1, frV t.2.1, frV t.2.2]
def shadeF : List Str := [("ember" : Str), ("leaf" : Str), ("sky" : Str)]
def shV (C : Addr) (t : T3) : Val := .ins C shadeF [frV t.1, frV t.2.1, frV t.2.2]
def In1 (x : Rat) : Prop := 0 ≤ x ∧ x ≤ 1
def In3 (t : T3) : Prop := In1 t.1 ∧ In1 t.2.1 ∧ In1 t.2.2
theorem in1_b {x : Rat} : In1 x ↔ (decide (0 ≤ x.num) && decide (x.num ≤ x.den)) = true := by
  unfold In1
  rw [Bool.and_eq_true, decide_eq_true_eq, decide_eq_true_eq, Rat.num_nonneg, Rat.le_iff (a := x) (b := 1)]
  simp
theorem call_in_one {x : Rat} {S : Sto} {Q : VQ} {er : EQ} (h : In1 x) (hQ : Q (.bl true) S) : sp_in_one.run [frV x] S Q er := ⟨x, rfl, trivial, by dsimp only; rw [in1_b.mp h]; exact hQ⟩
theorem call_add {x y : Rat} {S : Sto} {Q : VQ} {er : EQ} (h : Pz x y) (hQ : Q (frV (x + y)) S) : sp_add.run [frV x, frV y] S Q er := ⟨(x, y), rfl, h, hQ⟩
theorem call_less {x y : Rat} {S : Sto} {Q : VQ} {er : EQ} (h : Pz x y) (hQ : Q (frV (x - y)) S) : sp_less.run [frV x, frV y] S Q er := ⟨(x, y), rfl, h, hQ⟩
theorem call_mul {x y : Rat} {S : Sto} {Q : VQ} {er : EQ} (h : Pz x y) (hQ : Q (frV (x * y)) S) : sp_mul.run [frV x, frV y] S Q er := ⟨(x, y), rfl, h, hQ⟩
theorem call_totalL {xs : List Rat} {S : Sto} {Q : VQ} {er : EQ} (h : PzS 0 xs) (hQ : Q (frV (rsum xs)) S) : sp_total.run [.lst (xs.map frV)] S Q er := ⟨xs, _, rfl, .inl rfl, h, hQ⟩
theorem putV_len {f : Str} {v : Val} : ∀ {l : List (Str × Val)}, (putV f v l).length ≤ l.length + 1
  | [] => Nat.le_refl _
  | (g, u) :: r => by
    unfold putV
    split
    · simp
    · have := putV_len (f := f) (v := v) (l := r)
      simp only [List.length_cons]
      omega
def sp_Shade___init__ (C : Addr) : ISp where
  run := fun vs S Q _ => ∃ (x : Addr) (t : T3), vs = [.adr x, frV t.1, frV t.2.1, frV t.2.2] ∧ S x = some (.obj C []) ∧ In3 t ∧ Q .non (S.set x (.obj C [(("ember" : Str), frV t.1), (("leaf" : Str), frV t.2.1), (("sky" : Str), frV t.2.2)]))
  mono := fun hQ _ ⟨x, t, h1, h2, h3, h4⟩ => ⟨x, t, h1, h2, h3, hQ _ _ h4⟩
theorem hsp_Shade___init__ {C : Addr} {D : Nat → Li.G} {A : Addr → Str → Prop} (h17 : D 17 = .fn sp_in_one 1 []) (hA : ∀ f ∈ shadeF, A C f) (vs : List Val) (S : Sto) (Q : VQ) (R : EQ) (hl : vs.length = 4) (h : (sp_Shade___init__ C).run vs S Q R) : evD { D := D, A := A, er := R } Pt.b_Shade.__init__ 6 [] vs S Q := by
  obtain ⟨x, t, rfl, hS, ⟨h1, h2, h3⟩, hQ⟩ := h
  have a1 := hA ("ember" : Str) (by simp [shadeF])
  have a2 := hA ("leaf" : Str) (by simp [shadeF])
  have a3 := hA ("sky" : Str) (by simp [shadeF])
  unfold Pt.b_Shade.__init__
  walk_at "li"
  rw [h17]
  simp only [forL_cons, forL_nil]
  walk_at "li"
  refine call_in_one h1 ?_
  walk_at "li"
  refine call_in_one h2 ?_
  walk_at "li"
  refine call_in_one h3 ?_
  walk_at "li"
  rw [objQ_h hS]
  have q1 := putV_len (f := ("ember" : Str)) (v := frV t.1) (l := [])
  have q2 := putV_len (f := ("leaf" : Str)) (v := frV t.2.1) (l := putV ("ember" : Str) (frV t.1) [])
  simp only [List.length_nil] at q1
  exact ⟨a1, by decide, a2, by omega, a3, by omega, hQ⟩
/-- a Shade made -/
theorem make_Shade {C : Addr} {t : T3} {S : Sto} {Q : VQ} {er : EQ} (h : In3 t) (hQ : Q (shV C t) S) : callG (.cls C true (sp_Shade___init__ C) 4 []) [frV t.1, frV t.2.1, frV t.2.2] 0 S Q er := by
  refine ⟨rfl, fun x hx => ⟨x, t, rfl, Sto.set_same, h, rfl, _, Sto.set_same, ?_⟩⟩
  rw [if_pos rfl, Sto.set_set, Sto.set_del hx]
  exact hQ
def sp_is_shade (C : Addr) : ISp := puSp (fun t : T3 => [shV C t]) (fun _ => True) fun _ => .bl true
theorem hsp_is_shade {C : Addr} {D : Nat → Li.G} {A : Addr → Str → Prop} (h24 : D 24 = .cls C true (sp_Shade___init__ C) 4 []) (vs : List Val) (S : Sto) (Q : VQ) (R : EQ) (hl : vs.length = 1) (h : (sp_is_shade C).run vs S Q R) : evD { D := D, A := A, er := R } Pt.b_is_shade 1 [] vs S Q := by
  obtain ⟨t, rfl, -, hQ⟩ := h
  unfold Pt.b_is_shade shV
  walk_at "li"
  rw [isi_c h24]
  exact hQ
def sp_check_shade (C : Addr) : ISp := puSp (fun t : T3 => [shV C t]) (fun _ => True) fun _ => .non
theorem hsp_check_shade {C : Addr} {D : Nat → Li.G} {A : Addr → Str → Prop} (h24 : D 24 = .cls C true (sp_Shade___init__ C) 4 []) (vs : List Val) (S : Sto) (Q : VQ) (R : EQ) (hl : vs.length = 1) (h : (sp_check_shade C).run vs S Q R) : evD { D := D, A := A, er := R } Pt.b_check_shade 1 [] vs S Q := by
  obtain ⟨t, rfl, -, hQ⟩ := h
  unfold Pt.b_check_shade shV
  walk_at "li"
  rw [isi_c h24]
  walk_at "li"
  exact hQ
theorem look_e {a b c : Val} : (shadeF.zip [a, b, c]).lookup ("ember" : Str) = some a := rfl
theorem look_l {a b c : Val} : (shadeF.zip [a, b, c]).lookup ("leaf" : Str) = some b := by
  unfold shadeF
  rw [List.zip_cons_cons, List.lookup_cons, show (("leaf" : Str) == ("ember" : Str)) = false by decide]
  rfl
theorem look_s {a b c : Val} : (shadeF.zip [a, b, c]).lookup ("sky" : Str) = some c := by
  unfold shadeF
  rw [List.zip_cons_cons, List.lookup_cons, show (("sky" : Str) == ("ember" : Str)) = false by decide, List.zip_cons_cons]
  show List.lookup _ _ = _
  rw [List.lookup_cons, show (("sky" : Str) == ("leaf" : Str)) = false by decide]
  rfl
def sp_parts_of (C : Addr) : ISp := puSp (fun t : T3 => [shV C t]) (fun _ => True) trV
theorem hsp_parts_of {C : Addr} {D : Nat → Li.G} {A : Addr → Str → Prop} (hA : ∀ f ∈ shadeF, A C f) (vs : List Val) (S : Sto) (Q : VQ) (R : EQ) (hl : vs.length = 1) (h : (sp_parts_of C).run vs S Q R) : evD { D := D, A := A, er := R } Pt.b_parts_of 1 [] vs S Q := by
  obtain ⟨t, rfl, -, hQ⟩ := h
  have a1 := hA ("ember" : Str) (by simp [shadeF])
  have a2 := hA ("leaf" : Str) (by simp [shadeF])
  have a3 := hA ("sky" : Str) (by simp [shadeF])
  unfold Pt.b_parts_of shV
  walk_at "li"
  rw [look_e, look_l, look_s]
  exact ⟨a1, a2, a3, hQ⟩
def sp_shade_by (C : Addr) : ISp := puSp (fun t : T3 => [trV t]) In3 (shV C)
theorem hsp_shade_by {C : Addr} {D : Nat → Li.G} {A : Addr → Str → Prop} (h24 : D 24 = .cls C true (sp_Shade___init__ C) 4 []) (vs : List Val) (S : Sto) (Q : VQ) (R : EQ) (hl : vs.length = 1) (h : (sp_shade_by C).run vs S Q R) : evD { D := D, A := A, er := R } Pt.b_shade_by 1 [] vs S Q := by
  obtain ⟨t, rfl, h, hQ⟩ := h
  unfold Pt.b_shade_by trV
  walk_at "li"
  rw [h24]
  exact ⟨trivial, make_Shade h hQ⟩
def sp__law_shade (C : Addr) : ISp := sp_shade_by C
theorem hsp__law_shade {C : Addr} {D : Nat → Li.G} {A : Addr → Str → Prop} (h24 : D 24 = .cls C true (sp_Shade___init__ C) 4 []) (vs : List Val) (S : Sto) (Q : VQ) (R : EQ) (hl : vs.length = 1) (h : (sp__law_shade C).run vs S Q R) : evD { D := D, A := A, er := R } Lt.b__law_shade 1 [] vs S Q := by
  obtain ⟨t, rfl, h, hQ⟩ := h
  unfold Lt.b__law_shade trV
  walk_at "li"
  rw [h24]
  exact ⟨trivial, make_Shade h hQ⟩
end Li
set_option Elab.async false
set_option linter.all false
set_option maxRecDepth 100000
/-! Ey: eyes, how far Shades are. -/
namespace Li
open PySem
local macro_rules | `(tactic| walk_at "li") => `(tactic| simp only [evD, evSs, evS, evE, evEs, evI, evO, evIt, slotQ_0, slotQ_s, cloQ_0, cloQ_s, capQ_nil, capQ_cons, intQ_i, adrQ_a, lstQ_l, tupQ_t, dctQ_d, optQ_s, gvalQ_v, brV_s, asL_l, truV_b, truV_n, truV_i, lenV_t, lenV_s, lenV_l, idxV_t, idxV_s, idxV_l, atI_0, atI_1, atI_2, atI_3, bin_add, bin_sub, bin_mul, bin_div, bin_mod, bin_pow, bin_shl, bin_shr, bin_and, bin_addL, bin_addT, aug_add, aug_sub, aug_mul, cmp_lt, cmp_le, cmp_gt, cmp_ge, cmp_is, cmp_isnt, cmp_eq, cmp_ne, tst_e, wipe_nil, wipe_cons, asg_one, asg_many, asgs_nil, asgs_cons, seqV_t, itV_t, itV_l, itV_s, itV_x, itV_d, itV_set, chkV_x, chkV_d, keyQ_s, keyQ_i, keyV, dctV_d, dctV_set, dctQC_set, bin_addX, idxV_x, cmp_ltx, esLen_n, esLen_c, isCalk_cl, pickV_n, pickV_l, pickV_r, getD_0, getD_s, isFn_fn, isFnk_fn, mthQ_i, bmP_pop, bmP_ins, bmP_ext, bmV_pop, bmV_popAt, bmV_ins, bmV_ext, dropC_d, cellOf_d, seqV_s, seqV_l, chkV_t, chkV_l, chkV_s, chkV_a, callG_fn, isCal_fn, isCal_cls, isCalk_fn, callK_fn, frz_nil, puSp_run, bf_len, bf_abs, bf_int, bf_intb, bf_tupT, bf_tupL, bf_listL, bf_listT, bf_min2, bf_max2, bf_isi, slc_l, slc_t, slc_s, fld_i, setB, tabA_hit, isi_tt, isi_ti, isi_ii, isi_it, isi_ib, isi_bi, isi_bb, isi_ss, Cxt.nox, natI_0, natI_1, natI_2, natI_3, natI_4, natI_5, natI_6, natI_7, Bool.not_true, Bool.not_false, decide_true, decide_false, Bool.false_eq_true, if_true, if_false, celQ_set, idxV_set, Sto.set_set, ixN_30, ixN_31, ixN_32, enumV_n, enumV_c, zipV_n, zipV_c, objQ_set, isNon_n, isNon_t, isNon_i, setC_l, dropC_n, dropC_s, dropC_a, cellOf_0, cellOf_s, cellOf_n, frz_cons, frz1_s, frz1_n, sbst_t, sbst_l, sbst_i, sbst_b, sbst_non, sbst_str, sbst_a, sbsts_n, sbsts_c, bin_addLA_set, lenV_set, seqV_set, bf_tupA_set, bmP_app, bmV_app, bf_sum_set, bf_sum_l, asInts_n, asInts_c, Option.map_some, sz_0, sz_1, sz_2, sz_3, sz_4, sz_5, sz_6, sz_7, List.map_cons, List.map_nil, List.length_cons, List.length_nil, List.cons_append, List.nil_append, List.append_nil, List.drop_nil, List.set_cons_zero, List.set_cons_succ, List.replicate_succ, List.replicate_zero, Nat.reduceSub, Nat.reduceAdd, decide_eq_true_eq, true_and, and_true])
/-! ### sizes -/
/-- an eye -/
abbrev E3 : Type := Int × Int × Int
def eyV (e : E3) : Val := .tup [.int e.1, .int e.2.1, .int e.2.2]
def Eye1 (i : Int) : Prop := 1 ≤ i ∧ i ≤ 99
def Eye3 (e : E3) : Prop := Eye1 e.1 ∧ Eye1 e.2.1 ∧ Eye1 e.2.2
def sp_is_eye : ISp := puSp (fun e : E3 => [eyV e]) Eye3 fun _ => .bl true
theorem call_whole {i : Int} {S : Sto} {Q : VQ} {er : EQ} (hQ : Q (.bl true) S) : sp_is_whole.run [.int i] S Q er := ⟨i, rfl, trivial, hQ⟩
theorem hsp_is_eye {D : Nat → Li.G} {A : Addr → Str → Prop} (h12 : D 12 = .fn sp_is_whole 1 []) (h28 : D 28 = .val (.int 99)) (h29 : D 29 = .val (.tup ([1, 1, 1].map Val.int))) (vs : List Val) (S : Sto) (Q : VQ) (R : EQ) (hl : vs.length = 1) (h : sp_is_eye.run vs S Q R) : evD { D := D, A := A, er := R } Pt.b_is_eye 2 [] vs S Q := by
  obtain ⟨e, rfl, ⟨⟨h1, h1'⟩, ⟨h2, h2'⟩, ⟨h3, h3'⟩⟩, hQ⟩ := h
  unfold Pt.b_is_eye eyV
  walk_at "li"
  rw [h12, h28, h29]
  walk_at "li"
  simp only [compL_cons, compL_nil]
  walk_at "li"
  refine call_whole ?_
  walk_at "li"
  rw [if_pos h1, decide_eq_true h1']
  refine ⟨by decide, call_whole ?_⟩
  walk_at "li"
  rw [if_pos h2, decide_eq_true h2']
  refine ⟨by decide, call_whole ?_⟩
  walk_at "li"
  rw [if_pos h3, decide_eq_true h3']
  refine ⟨by decide, ?_⟩
  rw [show ([.bl true, .bl true, .bl true] : List Val) = [true, true, true].map Val.bl from rfl, bf_allL]
  exact hQ
/-- what may be handed in for an eye -/
def EyeArg (v : Val) (e : E3) : Prop := (v = .non ∧ e = (1, 1, 1)) ∨ (v = eyV e ∧ Eye3 e)
theorem eye111 : Eye3 (1, 1, 1) := ⟨⟨by decide, by decide⟩, ⟨by decide, by decide⟩, ⟨by decide, by decide⟩⟩
theorem EyeArg.eye {v : Val} {e : E3} (h : EyeArg v e) : Eye3 e := by
  rcases h with ⟨_, rfl⟩ | ⟨_, h⟩
  · exact eye111
  · exact h
def sp_check_eye : ISp where
  run := fun vs S Q _ => ∃ (v : Val) (e : E3), vs = [v] ∧ EyeArg v e ∧ Q (eyV e) S
  mono := fun hQ _ ⟨v, e, h1, h2, h3⟩ => ⟨v, e, h1, h2, hQ _ _ h3⟩
theorem hsp_check_eye {D : Nat → Li.G} {A : Addr → Str → Prop} (h29 : D 29 = .val (.tup ([1, 1, 1].map Val.int))) (h30 : D 30 = .fn sp_is_eye 1 []) (vs : List Val) (S : Sto) (Q : VQ) (R : EQ) (hl : vs.length = 1) (h : sp_check_eye.run vs S Q R) : evD { D := D, A := A, er := R } Pt.b_check_eye 1 [] vs S Q := by
  obtain ⟨v, e, rfl, h, hQ⟩ := h
  rcases h with ⟨rfl, rfl⟩ | ⟨rfl, he⟩
  · unfold Pt.b_check_eye
    walk_at "li"
    rw [h29]
    exact hQ
  · unfold Pt.b_check_eye eyV
    walk_at "li"
    rw [h30]
    walk_at "li"
    refine ⟨e, rfl, he, ?_⟩
    walk_at "li"
    exact hQ
/-! ### how far -/
def Fz3 (D M : Nat) (t : T3) : Prop := Fz D M t.1 ∧ Fz D M t.2.1 ∧ Fz D M t.2.2
def dist (e : E3) (a b : T3) : Rat := rsum [(e.1 : Rat) * ((a.1 - b.1) * (a.1 - b.1)), (e.2.1 : Rat) * ((a.2.1 - b.2.1) * (a.2.1 - b.2.1)), (e.2.2 : Rat) * ((a.2.2 - b.2.2) * (a.2.2 - b.2.2))]
/-- sizes with which squares may be reckoned -/
structure Bd (D M : Nat) : Prop where
  d : B2 (D * D * (D * D)) 9000
  m : B2 M 1000
theorem Bd.dd {D M : Nat} (b : Bd D M) (h0 : 0 < D) : B2 (D * D) 9000 := b.d.le (Nat.le_mul_of_pos_right _ (Nat.mul_pos h0 h0))
theorem Bd.d1 {D M : Nat} (b : Bd D M) (h0 : 0 < D) : B2 D 9000 := (b.dd h0).le (Nat.le_mul_of_pos_right _ h0)
/-- a difference, squared, weighed -/
structure SqOk (D M : Nat) (e : Int) (x y : Rat) : Prop where
  s : Pz x y
  q : Pz (x - y) (x - y)
  w : Pz (e : Rat) ((x - y) * (x - y))
  f : Fz (D * D) (99 * ((M + M) * (M + M))) ((e : Rat) * ((x - y) * (x - y)))
theorem eyeF {e : Int} (h : Eye1 e) : Fz 1 99 (e : Rat) := (Fz.int e (by decide)).up (by
  obtain ⟨h1, h2⟩ := h
  omega)
theorem mulOk {D M : Nat} {e : Int} {x y : Rat} (b : Bd D M) (he : Eye1 e) (hx : Fz D M x) (hy : Fz D M y) : Pz x y ∧ Pz (e : Rat) (x * y) ∧ Fz (D * D) (99 * (M * M)) ((e : Rat) * (x * y)) := by
  have hm : B2 (M * D) 1000000 := (b.m.mul (b.d1 hx.1)).mono (by decide)
  have q := hx.mul hy
  have hw : B2 (M * M * (D * D)) 1000000 := ((b.m.mul b.m).mul (b.dd hx.1)).mono (by decide)
  have f := (eyeF he).mul q
  rw [Nat.one_mul] at f
  exact ⟨hx.pz hy (b.dd hx.1) hm hm, (eyeF he).pz q (by rw [Nat.one_mul]; exact b.dd hx.1) (show B2 (99 * 1) 1000000 from B2.mono (a := 7) (by unfold B2; decide) (by decide)) hw, f⟩
theorem sqOk {D M : Nat} {e : Int} {x y : Rat} (bd : B2 (D * D * (D * D)) 9000) (bm : B2 M 900) (he : Eye1 e) (hx : Fz D M x) (hy : Fz D M y) : SqOk D M e x y := by
  have b : Bd D M := ⟨bd, bm.mono (by decide)⟩
  have b2 : Bd D (M + M) := ⟨bd, (bm.add bm).mono (by decide)⟩
  have h := hx.sub hy
  obtain ⟨q1, q2, q3⟩ := mulOk b2 he h h
  have hm : B2 (M * D) 1000000 := (b.m.mul (b.d1 hx.1)).mono (by decide)
  exact ⟨hx.pz hy (b.dd hx.1) hm hm, q1, q2, q3⟩
/-- three of them together -/
theorem sum3Ok {D M : Nat} {x y z : Rat} (bd : B2 (D * D * (D * D)) 9000) (bm : B2 M 2100) (hx : Fz (D * D) (99 * M) x) (hy : Fz (D * D) (99 * M) y) (hz : Fz (D * D) (99 * M) z) : PzS 0 [x, y, z] := by
  have h0 := hx.1
  refine pzS_of (D := D * D) (M := 99 * M) (N := 0) bd (Fz.zero h0) (fun u hu => ?_) ?_
  · rcases List.mem_cons.mp hu with rfl | hu
    · exact hx
    · rcases List.mem_cons.mp hu with rfl | hu
      · exact hy
      · rw [List.mem_singleton.mp hu]
        exact hz
  · have e : B2 (3 * (99 * M) * (D * D)) 1000000 := by
      have d1 : B2 (D * D) 9000 := bd.le (Nat.le_mul_of_pos_right _ h0)
      have q := (((show B2 3 2 by unfold B2; decide).mul ((show B2 99 7 by unfold B2; decide).mul bm)).mul d1)
      exact q.mono (by decide)
    have : (0 + [x, y, z].length * (99 * M)) = 3 * (99 * M) := by simp
    rw [this]
    exact e
theorem eyV_0 {e : E3} : (L2.atI [Val.int e.1, Val.int e.2.1, Val.int e.2.2] 0) = some (.int e.1) := rfl
/-- how far, where sizes are right -/
structure DistOk (e : E3) (a b : T3) : Prop where
  ex : ∃ D M, B2 (D * D * (D * D)) 9000 ∧ B2 M 900 ∧ Fz3 D M a ∧ Fz3 D M b ∧ Eye3 e
def sp_far_by_part : ISp where
  run := fun vs S Q _ => ∃ (k : Int) (i : Int) (e : E3) (a b : T3) (x y : Rat) (D M : Nat), vs = [.int k, eyV e, trV a, trV b] ∧ L2.atI [Val.int e.1, Val.int e.2.1, Val.int e.2.2] k = some (.int i) ∧ L2.atI [frV a.1, frV a.2.1, frV a.2.2] k = some (frV x) ∧ L2.atI [frV b.1, frV b.2.1, frV b.2.2] k = some (frV y) ∧ SqOk D M i x y ∧ Q (frV ((i : Rat) * ((x - y) * (x - y)))) S
  mono := fun hQ _ ⟨k, i, e, a, b, x, y, D, M, h1, h2, h3, h4, h5, h6⟩ => ⟨k, i, e, a, b, x, y, D, M, h1, h2, h3, h4, h5, hQ _ _ h6⟩
theorem hsp_far_by_part {D : Nat → Li.G} {A : Addr → Str → Prop} (h19 : D 19 = .fn sp_less 2 []) (h20 : D 20 = .fn sp_mul 2 []) (h22 : D 22 = .fn sp_total 1 []) (vs : List Val) (S : Sto) (Q : VQ) (R : EQ) (hl : vs.length = 4) (h : sp_far_by_part.run vs S Q R) : evD { D := D, A := A, er := R } Pt.nb_far_by_part 5 [] vs S Q := by
  obtain ⟨k, i, e, a, b, x, y, D', M', rfl, hi, hx, hy, ok, hQ⟩ := h
  unfold Pt.nb_far_by_part eyV trV
  walk_at "li"
  rw [h19, h20, hi, hx, hy]
  walk_at "li"
  refine call_less ok.s ?_
  refine call_mul ok.q ?_
  exact call_mul (x := (i : Rat)) ok.w hQ
def sp_far_by : ISp := puSp (fun p : E3 × T3 × T3 => [trV p.2.1, trV p.2.2, eyV p.1]) (fun p => DistOk p.1 p.2.1 p.2.2) fun p => frV (dist p.1 p.2.1 p.2.2)
theorem hsp_far_by {D : Nat → Li.G} {A : Addr → Str → Prop} {L : Nat → LF} {ok : NdefX.NF → Prop} (h19 : D 19 = .fn sp_less 2 []) (h20 : D 20 = .fn sp_mul 2 []) (h22 : D 22 = .fn sp_total 1 []) (hL : L 0 = ⟨ok, 1, [2, 0, 1], sp_far_by_part⟩) (vs : List Val) (S : Sto) (Q : VQ) (R : EQ) (hl : vs.length = 3) (h : sp_far_by.run vs S Q R) : evD { D := D, A := A, er := R, L := L } Pt.b_far_by 5 [] vs S Q := by
  obtain ⟨⟨e, a, b⟩, rfl, ⟨D', M', bd, bm, ⟨a1, a2, a3⟩, ⟨b1, b2, b3⟩, ⟨e1, e2, e3⟩⟩, hQ⟩ := h
  have s1 := sqOk bd bm e1 a1 b1
  have s2 := sqOk bd bm e2 a2 b2
  have s3 := sqOk bd bm e3 a3 b3
  unfold Pt.b_far_by
  walk_at "li"
  rw [hL, h22]
  intro f F hF hf
  have hlen : lenV S (eyV e) = some 3 := rfl
  walk_at "li"
  rw [hlen]
  walk_at "li"
  rw [rng3]
  simp only [compL_cons, compL_nil]
  walk_at "li"
  refine ⟨by decide, hF, ⟨0, e.1, e, a, b, a.1, b.1, D', M', rfl, rfl, rfl, rfl, s1, by decide, hF, ⟨1, e.2.1, e, a, b, a.2.1, b.2.1, D', M', rfl, rfl, rfl, rfl, s2, by decide, hF, ⟨2, e.2.2, e, a, b, a.2.2, b.2.2, D', M', rfl, rfl, rfl, rfl, s3, by decide, ?_⟩⟩⟩⟩
  refine call_totalL (xs := [_, _, _]) ?_ hQ
  exact sum3Ok bd (((bm.add bm).mul (bm.add bm)).mono (by decide)) s1.f s2.f s3.f
def sp_far (C : Addr) : ISp where
  run := fun vs S Q _ => ∃ (v : Val) (e : E3) (a b : T3), vs = [shV C a, shV C b, v] ∧ EyeArg v e ∧ DistOk e a b ∧ Q (frV (dist e a b)) S
  mono := fun hQ _ ⟨v, e, a, b, h1, h2, h3, h4⟩ => ⟨v, e, a, b, h1, h2, h3, hQ _ _ h4⟩
theorem hsp_far {C : Addr} {D : Nat → Li.G} {A : Addr → Str → Prop} (h25 : D 25 = .fn (sp_check_shade C) 1 []) (h26 : D 26 = .fn (sp_parts_of C) 1 []) (h31 : D 31 = .fn sp_check_eye 1 []) (h32 : D 32 = .fn sp_far_by 3 []) (vs : List Val) (S : Sto) (Q : VQ) (R : EQ) (hl : vs.length = 3) (h : (sp_far C).run vs S Q R) : evD { D := D, A := A, er := R } Pt.b_far 3 [] vs S Q := by
  obtain ⟨v, e, a, b, rfl, he, h, hQ⟩ := h
  unfold Pt.b_far
  walk_at "li"
  rw [h25, h26, h31, h32]
  walk_at "li"
  refine ⟨a, rfl, trivial, b, rfl, trivial, a, rfl, trivial, b, rfl, trivial, v, e, rfl, he, ⟨e, a, b⟩, rfl, h, hQ⟩
theorem in1_num {x : Rat} (h : In1 x) : 0 ≤ x.num ∧ x.num ≤ x.den := by
  have := in1_b.mp h
  rw [Bool.and_eq_true, decide_eq_true_eq, decide_eq_true_eq] at this
  exact this
theorem call_low {t b : Int} {S : Sto} {Q : VQ} {er : EQ} (hb : b ≠ 0) (h9 : B2 b.natAbs 9000) (hQ : Q (frV (Rat.divInt t b)) S) : sp_low.run [.int t, .int b] S Q er := ⟨(t, b), rfl, ⟨hb, h9⟩, hQ⟩
/-- the k-th share -/
def comp3 (k : Nat) (t : T3) : Rat := match k with
  | 0 => t.1
  | 1 => t.2.1
  | _ => t.2.2
theorem Fz3.k {D M : Nat} {t : T3} (h : Fz3 D M t) (k : Nat) : Fz D M (comp3 k t) := by
  obtain ⟨h1, h2, h3⟩ := h
  unfold comp3
  split
  · exact h1
  · exact h2
  · exact h3
theorem In3.k {t : T3} (h : In3 t) (k : Nat) : In1 (comp3 k t) := by
  obtain ⟨h1, h2, h3⟩ := h
  unfold comp3
  split
  · exact h1
  · exact h2
  · exact h3
def wholeOf (B : Nat) (x : Rat) : Int := x.num * ((B : Int) / (x.den : Int))
theorem whole_val {B : Nat} {x : Rat} (hd : x.den ∣ B) : (wholeOf B x : Rat) = (B : Rat) * x := by
  obtain ⟨c, rfl⟩ := hd
  have hx := x.den_pos
  unfold wholeOf
  rw [show (((x.den * c : Nat) : Int) / (x.den : Int)) = (c : Int) by
    rw [Int.natCast_mul]
    exact Int.mul_ediv_cancel_left _ (by omega), Rat.intCast_mul, Rat.natCast_mul, Rat.intCast_natCast]
  have e : x * (x.den : Rat) = (x.num : Rat) := by
    have := Rat.num_divInt_den x
    rw [Rat.divInt_eq_div, Rat.intCast_natCast] at this
    have hz : (x.den : Rat) ≠ 0 := fun z => by
      have := Rat.natCast_eq_zero_iff.mp z
      omega
    calc x * (x.den : Rat) = ((x.num : Rat) / (x.den : Rat)) * (x.den : Rat) := by rw [this]
      _ = _ := Rat.div_mul_cancel hz
  rw [← e]
  grind
theorem whole_le {B : Nat} {x : Rat} (h : In1 x) (hd : x.den ∣ B) : 0 ≤ wholeOf B x ∧ wholeOf B x ≤ B := by
  obtain ⟨c, rfl⟩ := hd
  have hx := x.den_pos
  obtain ⟨n1, n2⟩ := in1_num h
  unfold wholeOf
  rw [show (((x.den * c : Nat) : Int) / (x.den : Int)) = (c : Int) by
    rw [Int.natCast_mul]
    exact Int.mul_ediv_cancel_left _ (by omega), Int.natCast_mul]
  exact ⟨Int.mul_nonneg n1 (by omega), Int.mul_le_mul_of_nonneg_right n2 (by omega)⟩
theorem fz_of {D : Nat} {x : Rat} (h0 : 0 < D) (h : In1 x) (hd : x.den ∣ D) : Fz D 1 x := by
  refine ⟨h0, wholeOf D x, ?_, ?_⟩
  · rw [whole_val hd]
    grind
  · obtain ⟨h1, h2⟩ := whole_le h hd
    omega
theorem fz3_of {D : Nat} {t : T3} (h0 : 0 < D) (h : In3 t) (hd : ∀ k, (comp3 k t).den ∣ D) : Fz3 D 1 t := ⟨fz_of h0 h.1 (hd 0), fz_of h0 h.2.1 (hd 1), fz_of h0 h.2.2 (hd 2)⟩
end Li
set_option Elab.async false
set_option linter.all false
set_option maxRecDepth 100000
set_option maxHeartbeats 2000000
/-! Lp: what the laws draw. -/
namespace Li
open PySem
local macro_rules | `(tactic| walk_at "lt") => `(tactic| try simp only [evD, evSs, evS, evE, evEs, evI, evO, evIt, slotQ_0, slotQ_s, cloQ_0, cloQ_s, capQ_nil, capQ_cons, intQ_i, adrQ_a, lstQ_l, tupQ_t, dctQ_d, optQ_s, gvalQ_v, brV_s, asL_l, truV_b, truV_n, truV_i, lenV_t, lenV_s, lenV_l, idxV_t, idxV_s, idxV_l, atI_0, atI_1, atI_2, atI_3, bin_add, bin_sub, bin_mul, bin_div, bin_mod, bin_pow, bin_shl, bin_shr, bin_and, bin_addL, bin_addT, aug_add, aug_sub, aug_mul, cmp_lt, cmp_le, cmp_gt, cmp_ge, cmp_is, cmp_isnt, cmp_eq, cmp_ne, tst_e, wipe_nil, wipe_cons, asg_one, asg_many, asgs_nil, asgs_cons, seqV_t, itV_t, itV_l, itV_s, itV_x, itV_d, itV_set, chkV_x, chkV_d, keyQ_s, keyQ_i, keyV, dctV_d, dctV_set, dctQC_set, bin_addX, idxV_x, cmp_ltx, esLen_n, esLen_c, isCalk_cl, pickV_n, pickV_l, pickV_r, getD_0, getD_s, isFn_fn, isFnk_fn, mthQ_i, bmP_pop, bmP_ins, bmP_ext, bmV_pop, bmV_popAt, bmV_ins, bmV_ext, dropC_d, cellOf_d, seqV_s, seqV_l, chkV_t, chkV_l, chkV_s, chkV_a, callG_fn, isCal_fn, isCal_cls, isCalk_fn, callK_fn, frz_nil, puSp_run, bf_len, bf_abs, bf_int, bf_intb, bf_tupT, bf_tupL, bf_listL, bf_listT, bf_min2, bf_max2, bf_isi, slc_l, slc_t, slc_s, fld_i, setB, tabA_hit, isi_tt, isi_ti, isi_ii, isi_it, isi_ib, isi_bi, isi_bb, isi_ss, Cxt.nox, natI_0, natI_1, natI_2, natI_3, natI_4, natI_5, natI_6, natI_7, Bool.not_true, Bool.not_false, decide_true, decide_false, Bool.false_eq_true, if_true, if_false, celQ_set, idxV_set, Sto.set_set, ixN_30, ixN_31, ixN_32, enumV_n, enumV_c, zipV_n, zipV_c, objQ_set, isNon_n, isNon_t, isNon_i, setC_l, dropC_n, dropC_s, dropC_a, cellOf_0, cellOf_s, cellOf_n, frz_cons, frz1_s, frz1_n, sbst_t, sbst_l, sbst_i, sbst_b, sbst_non, sbst_str, sbst_a, sbsts_n, sbsts_c, bin_addLA_set, lenV_set, seqV_set, bf_tupA_set, bmP_app, bmV_app, bf_sum_set, bf_sum_l, asInts_n, asInts_c, Option.map_some, sz_0, sz_1, sz_2, sz_3, sz_4, sz_5, sz_6, sz_7, List.map_cons, List.map_nil, List.length_cons, List.length_nil, List.cons_append, List.nil_append, List.append_nil, List.drop_nil, List.set_cons_zero, List.set_cons_succ, List.replicate_succ, List.replicate_zero, Nat.reduceSub, Nat.reduceAdd, decide_eq_true_eq, true_and, and_true, cut1_h0, cut1_l1, cut2_h0, cut2_h1, cut2_l1, cut2_l2, cut3_h0, cut3_h1, cut3_h2, cut3_l1, cut3_l2, cut3_l3, cut4_l1, Int.reduceAdd, Int.reduceSub, Int.reduceMod, Int.reduceNeg, compL_cons, compL_nil, forL_cons, forL_nil, rng0, rng1n, rng2, rng3, r62_0, r62_1, r62_2, r62_3, szl_0, szl_1, szl_2, szl_3, szl_4, szl_5, szl_6, szl_7])
local macro_rules | `(tactic| walk_at "li") => `(tactic| simp only [evD, evSs, evS, evE, evEs, evI, evO, evIt, slotQ_0, slotQ_s, cloQ_0, cloQ_s, capQ_nil, capQ_cons, intQ_i, adrQ_a, lstQ_l, tupQ_t, dctQ_d, optQ_s, gvalQ_v, brV_s, asL_l, truV_b, truV_n, truV_i, lenV_t, lenV_s, lenV_l, idxV_t, idxV_s, idxV_l, atI_0, atI_1, atI_2, atI_3, bin_add, bin_sub, bin_mul, bin_div, bin_mod, bin_pow, bin_shl, bin_shr, bin_and, bin_addL, bin_addT, aug_add, aug_sub, aug_mul, cmp_lt, cmp_le, cmp_gt, cmp_ge, cmp_is, cmp_isnt, cmp_eq, cmp_ne, tst_e, wipe_nil, wipe_cons, asg_one, asg_many, asgs_nil, asgs_cons, seqV_t, itV_t, itV_l, itV_s, itV_x, itV_d, itV_set, chkV_x, chkV_d, keyQ_s, keyQ_i, keyV, dctV_d, dctV_set, dctQC_set, bin_addX, idxV_x, cmp_ltx, esLen_n, esLen_c, isCalk_cl, pickV_n, pickV_l, pickV_r, getD_0, getD_s, isFn_fn, isFnk_fn, mthQ_i, bmP_pop, bmP_ins, bmP_ext, bmV_pop, bmV_popAt, bmV_ins, bmV_ext, dropC_d, cellOf_d, seqV_s, seqV_l, chkV_t, chkV_l, chkV_s, chkV_a, callG_fn, isCal_fn, isCal_cls, isCalk_fn, callK_fn, frz_nil, puSp_run, bf_len, bf_abs, bf_int, bf_intb, bf_tupT, bf_tupL, bf_listL, bf_listT, bf_min2, bf_max2, bf_isi, slc_l, slc_t, slc_s, fld_i, setB, tabA_hit, isi_tt, isi_ti, isi_ii, isi_it, isi_ib, isi_bi, isi_bb, isi_ss, Cxt.nox, natI_0, natI_1, natI_2, natI_3, natI_4, natI_5, natI_6, natI_7, Bool.not_true, Bool.not_false, decide_true, decide_false, Bool.false_eq_true, if_true, if_false, celQ_set, idxV_set, Sto.set_set, ixN_30, ixN_31, ixN_32, enumV_n, enumV_c, zipV_n, zipV_c, objQ_set, isNon_n, isNon_t, isNon_i, setC_l, dropC_n, dropC_s, dropC_a, cellOf_0, cellOf_s, cellOf_n, frz_cons, frz1_s, frz1_n, sbst_t, sbst_l, sbst_i, sbst_b, sbst_non, sbst_str, sbst_a, sbsts_n, sbsts_c, bin_addLA_set, lenV_set, seqV_set, bf_tupA_set, bmP_app, bmV_app, bf_sum_set, bf_sum_l, asInts_n, asInts_c, Option.map_some, sz_0, sz_1, sz_2, sz_3, sz_4, sz_5, sz_6, sz_7, List.map_cons, List.map_nil, List.length_cons, List.length_nil, List.cons_append, List.nil_append, List.append_nil, List.drop_nil, List.set_cons_zero, List.set_cons_succ, List.replicate_succ, List.replicate_zero, Nat.reduceSub, Nat.reduceAdd, decide_eq_true_eq, true_and, and_true])
local macro_rules | `(tactic| walk_at "lc") => `(tactic| simp only [evD, evSs, evS, evE, evEs, evI, evO, evIt, slotQ_0, slotQ_s, cloQ_0, cloQ_s, capQ_nil, capQ_cons, intQ_i, adrQ_a, lstQ_l, tupQ_t, dctQ_d, optQ_s, gvalQ_v, brV_s, asL_l, truV_b, truV_n, truV_i, lenV_t, lenV_s, lenV_l, idxV_t, idxV_s, idxV_l, atI_0, atI_1, atI_2, atI_3, bin_add, bin_sub, bin_mul, bin_div, bin_mod, bin_pow, bin_shl, bin_shr, bin_and, bin_addL, bin_addT, aug_add, aug_sub, aug_mul, cmp_lt, cmp_le, cmp_gt, cmp_ge, cmp_is, cmp_isnt, cmp_eq, cmp_ne, tst_e, wipe_nil, wipe_cons, asg_one, asg_many, asgs_nil, asgs_cons, seqV_t, itV_t, itV_l, itV_s, itV_x, itV_d, itV_set, chkV_x, chkV_d, keyQ_s, keyQ_i, keyV, dctV_d, dctV_set, dctQC_set, bin_addX, idxV_x, cmp_ltx, esLen_n, esLen_c, isCalk_cl, pickV_n, pickV_l, pickV_r, getD_0, getD_s, isFn_fn, isFnk_fn, mthQ_i, bmP_pop, bmP_ins, bmP_ext, bmV_pop, bmV_popAt, bmV_ins, bmV_ext, dropC_d, cellOf_d, seqV_s, seqV_l, chkV_t, chkV_l, chkV_s, chkV_a, callG_fn, isCal_fn, isCal_cls, isCalk_fn, callK_fn, frz_nil, puSp_run, bf_len, bf_abs, bf_int, bf_intb, bf_tupT, bf_tupL, bf_listL, bf_listT, bf_min2, bf_max2, bf_isi, slc_l, slc_t, slc_s, fld_i, setB, tabA_hit, isi_tt, isi_ti, isi_ii, isi_it, isi_ib, isi_bi, isi_bb, isi_ss, Cxt.nox, natI_0, natI_1, natI_2, natI_3, natI_4, natI_5, natI_6, natI_7, Bool.not_true, Bool.not_false, decide_true, decide_false, Bool.false_eq_true, if_true, if_false, celQ_set, idxV_set, Sto.set_set, ixN_30, ixN_31, ixN_32, enumV_n, enumV_c, zipV_n, zipV_c, objQ_set, isNon_n, isNon_t, isNon_i, setC_l, dropC_n, dropC_s, dropC_a, cellOf_0, cellOf_s, cellOf_n, frz_cons, frz1_s, frz1_n, sbst_t, sbst_l, sbst_i, sbst_b, sbst_non, sbst_str, sbst_a, sbsts_n, sbsts_c, bin_addLA_set, lenV_set, seqV_set, bf_tupA_set, bmP_app, bmV_app, bf_sum_set, bf_sum_l, asInts_n, asInts_c, Option.map_some, sz_0, sz_1, sz_2, sz_3, sz_4, sz_5, sz_6, sz_7, List.map_cons, List.map_nil, List.length_cons, List.length_nil, List.cons_append, List.nil_append, List.append_nil, List.drop_nil, List.set_cons_zero, List.set_cons_succ, List.replicate_succ, List.replicate_zero, Nat.reduceSub, Nat.reduceAdd, decide_eq_true_eq, true_and, and_true, cut1_h0, cut1_l1, cut2_h0, cut2_h1, cut2_l1, cut2_l2, cut3_h0, cut3_h1, cut3_h2, cut3_l1, cut3_l2, cut3_l3, cut4_l1, Int.reduceAdd, Int.reduceSub, Int.reduceMod, Int.reduceNeg, compL_cons, compL_nil, forL_cons, forL_nil, rng0, rng1n, rng2, rng3, r62_0, r62_1, r62_2, r62_3, szl_0, szl_1, szl_2, szl_3, szl_4, szl_5, szl_6, szl_7])
theorem compL_inv2 {step : Val → Sto → (Option Val → Sto → Prop) → Prop} {chk : Sto → Prop} {R : List Val → Sto → Prop} (I : List Val → List Val → Sto → Prop) (hc : ∀ r acc S, I r acc S → chk S ∧ acc.length + r.length ≤ sizeLine) (hs : ∀ v r acc S (k : Option Val → Sto → Prop), I (v :: r) acc S → (∀ y S', I r (acc ++ [y]) S' → k (some y) S') → (∀ S', I r acc S' → k none S') → step v S k) (hR : ∀ acc S, I [] acc S → R acc S) : ∀ {vs acc : List Val} {S : Sto}, I vs acc S → compL step chk vs acc S R
  | [], acc, S, h => ⟨(hc _ _ _ h).1, hR _ _ h⟩
  | v :: r, acc, S, h => by
    obtain ⟨h1, h2⟩ := hc _ _ _ h
    rw [List.length_cons] at h2
    exact ⟨h1, hs v r acc S _ h (fun y S' q => ⟨by omega, compL_inv2 I hc hs hR q⟩) fun S' q => compL_inv2 I hc hs hR q⟩
/-- a cell made and ended beside a purse -/
theorem Ins.cell {S S1 S2 : Sto} {p a : Addr} {c : Cell} (h1 : Ins S S1 p) (ha : S1 a = none) (hp : a ≠ p) (h2 : Ins (S1.set a c) S2 p) : Ins S (S2.del a) p := fun x hx => by
  by_cases e : x = a
  · rw [e, Sto.del_same, ← h1 a hp, ha]
  · rw [Sto.del_ne e, h2 x hx, Sto.set_ne e, h1 x hx]
theorem Pur.del {S : Sto} {p a : Addr} {n : Nat} (h : Pur S p n) (ha : a ≠ p) : Pur (S.del a) p n := by
  obtain ⟨x, y, z, h1, r⟩ := h
  exact ⟨x, y, z, by rw [Sto.del_ne ha.symm]; exact h1, r⟩
theorem Pur.set {S : Sto} {p a : Addr} {n : Nat} {c : Cell} (h : Pur S p n) (ha : a ≠ p) : Pur (S.set a c) p n := by
  obtain ⟨x, y, z, h1, r⟩ := h
  exact ⟨x, y, z, by rw [Sto.set_ne ha.symm]; exact h1, r⟩
theorem Pur.ne {S : Sto} {p a : Addr} {n : Nat} (h : Pur S p n) (ha : S a = none) : a ≠ p := fun e => by
  obtain ⟨x, y, z, h1, r⟩ := h
  rw [← e, ha] at h1
  cases h1
theorem call_pick {p : Addr} {m : Int} {n : Nat} {S : Sto} {Q : VQ} {er : EQ} (hP : Pur S p n) (h64 : n < 2 ^ 70) (hm : 0 < m) (hm2 : m < 2 ^ 200) (k : ∀ t S', 0 ≤ t → t < m → Ins S S' p → Pur S' p (n + 1) → Q (.int t) S') : sp__law_pick.run [.adr p, .int m] S Q er :=
  ⟨p, m, n, rfl, hP, h64, ⟨hm, hm2⟩, fun v S' ⟨t, hv, t0, t1⟩ hI hP' => by
    subst hv
    exact k t S' t0 t1 hI hP'⟩
/-! ### a cell of the script -/
def sp__law_cell : ISp where
  run := fun vs S Q _ => ∃ (ns : List Int) (k : Nat), vs = [.scr ns, .int k] ∧ k < 1000 ∧ ∀ i, Q (.int i) S
  mono := fun hQ _ ⟨ns, k, h1, h2, h3⟩ => ⟨ns, k, h1, h2, fun i => hQ _ _ (h3 i)⟩
theorem b2i {i : Int} {n : Nat} (h0 : 0 ≤ i) (h : i < 2 ^ n) : B2 i.natAbs n := by
  unfold B2
  have e : ((2 ^ n : Nat) : Int) = (2 : Int) ^ n := by simp
  omega
theorem hsp__law_cell {D : Nat → Li.G} {A : Addr → Str → Prop} (vs : List Val) (S : Sto) (Q : VQ) (R : EQ) (hl : vs.length = 2) (h : sp__law_cell.run vs S Q R) : evD { D := D, A := A, er := R } Lt.b__law_cell 4 [] vs S Q := by
  obtain ⟨ns, k, rfl, hk, hQ⟩ := h
  unfold Lt.b__law_cell
  walk_at "li"
  split
  · rename_i hlt
    have hlt : k < ns.length := by omega
    rw [atI_nat (by rw [List.length_map]; exact hlt), List.getElem?_map, List.getElem?_eq_getElem hlt]
    exact hQ _
  · have hkk : k * k < 1000000 := by
      have := Nat.mul_lt_mul'' hk hk
      omega
    have e : (k : Int) * k = ((k * k : Nat) : Int) := by simp
    refine ⟨mulS (a := 20) (b := 20) (by omega) (by omega) (by decide), mulS (a := 20) (b := 20) (by decide) (by omega) (by decide), ?_, by decide, ?_⟩
    · rw [e]
      exact mulS (a := 20) (b := 40) (by decide) (by omega) (by decide)
    · refine forL_inv (fun r σ S' => S' = S ∧ ∃ (ys : List Int) (s : Int) (o : Option Val), r = ys.map Val.int ∧ 0 ≤ s ∧ s < 999999937 ∧ σ = [some (.scr ns), some (.int k), some (.int s), o]) (fun _ _ _ _ => trivial) (fun v r σ S' nx h hn => ?_) (fun σ S' h => ?_) ⟨rfl, ns.take 4, _, none, ?_, Int.emod_nonneg _ (by decide), Int.emod_lt_of_pos _ (by decide), rfl⟩
      · obtain ⟨rfl, ys, s, o, hr, s0, s1, rfl⟩ := h
        cases ys with
        | nil => cases hr
        | cons y ys =>
          rw [List.map_cons] at hr
          injection hr with hv hr
          subst hv
          walk_at "li"
          exact ⟨mulS (a := 30) (b := 20) (by omega) (by decide) (by decide), by decide, hn _ _ ⟨rfl, ys, _, _, hr, Int.emod_nonneg _ (by decide), Int.emod_lt_of_pos _ (by decide), rfl⟩⟩
      · obtain ⟨rfl, ys, s, o, hr, s0, s1, rfl⟩ := h
        walk_at "li"
        exact hQ _
      · have e4 : ∀ l : List Val, cut l none (some 4) = l.take 4 := fun l => by
          unfold cut
          have h0 : HT.sIx l.length 0 (none : Option Int) = 0 := rfl
          have h4 : HT.sIx l.length l.length (some (4 : Int)) = min 4 l.length := by
            unfold HT.sIx
            simp
          rw [h0, h4, List.drop_zero, Nat.sub_zero]
          rcases Nat.le_total 4 l.length with q | q
          · rw [Nat.min_eq_left q]
          · rw [Nat.min_eq_right q, List.take_length, List.take_of_length_le q]
        rw [e4, List.map_take]

/-! ### shares, eyes -/
/-- a share by sixtieths -/
def Sh60 (D : Nat) (x : Rat) : Prop := In1 x ∧ x.den ∣ D
def sp__law_plain_share : ISp := purSp 69 (fun p (_ : Unit) => [.adr p]) (fun _ => True) (fun _ v => ∃ x, v = frV x ∧ Sh60 60 x) fun _ => 1
theorem div60 {t : Int} (h0 : 0 ≤ t) (h1 : t < 61) : Sh60 60 (Rat.divInt t 60) := by
  have f := Fz.mk (D := 60) t 1 (by decide) (by omega)
  have f : Fz 60 1 (Rat.divInt t 60) := f
  refine ⟨⟨Rat.divInt_nonneg h0 (by decide), ?_⟩, f.den_dvd⟩
  rw [Rat.divInt_eq_div]
  have e : (t : Rat) / ((60 : Int) : Rat) * ((60 : Int) : Rat) = t := Rat.div_mul_cancel (by decide)
  refine Rat.le_of_mul_le_mul_right (c := ((60 : Int) : Rat)) ?_ (by decide)
  rw [e]
  have : (t : Rat) ≤ ((60 : Int) : Rat) := Rat.intCast_le_intCast.mpr (by omega)
  grind
theorem hsp__law_plain_share {D : Nat → Li.G} {A : Addr → Str → Prop} (h302 : D 302 = .fn sp__law_pick 2 []) (h303 : D 303 = .fn sp__law_low 2 []) (vs : List Val) (S : Sto) (Q : VQ) (R : EQ) (hl : vs.length = 1) (h : sp__law_plain_share.run vs S Q R) : evD { D := D, A := A, er := R } Lt.b__law_plain_share 1 [] vs S Q := by
  obtain ⟨p, u, n, rfl, hP, h64, -, hQ⟩ := h
  unfold Lt.b__law_plain_share
  walk_at "li"
  rw [h302, h303]
  walk_at "li"
  refine call_pick hP (by omega) (by decide) (by decide) fun t S' t0 t1 hI hP' => ?_
  exact call_low (by decide) (by unfold B2; decide) (hQ _ _ ⟨_, rfl, div60 t0 t1⟩ hI hP')
theorem call_plain {p : Addr} {n : Nat} {S : Sto} {Q : VQ} {er : EQ} (hP : Pur S p n) (h64 : n < 2 ^ 69) (k : ∀ x S', Sh60 60 x → Ins S S' p → Pur S' p (n + 1) → Q (frV x) S') : sp__law_plain_share.run [.adr p] S Q er :=
  ⟨p, (), n, rfl, hP, h64, trivial, fun v S' ⟨x, hv, hx⟩ hI hP' => by
    subst hv
    exact k x S' hx hI hP'⟩
def sp__law_eye : ISp := purSp 68 (fun p (_ : Unit) => [.adr p]) (fun _ => True) (fun _ v => ∃ e, v = eyV e ∧ Eye3 e) fun _ => 4
theorem hsp__law_eye {D : Nat → Li.G} {A : Addr → Str → Prop} (h302 : D 302 = .fn sp__law_pick 2 []) (vs : List Val) (S : Sto) (Q : VQ) (R : EQ) (hl : vs.length = 1) (h : sp__law_eye.run vs S Q R) : evD { D := D, A := A, er := R } Lt.b__law_eye 3 [] vs S Q := by
  obtain ⟨p, u, n, rfl, hP, h64, -, hQ⟩ := h
  unfold Lt.b__law_eye
  walk_at "lt"
  rw [h302]
  walk_at "lt"
  refine call_pick hP (by omega) (by decide) (by decide) fun w S1 w0 w1 hI1 hP1 => ?_
  walk_at "lt"
  refine call_pick hP1 (by omega) (by decide) (by decide) fun a S2 a0 a1 hI2 hP2 => ?_
  walk_at "lt"
  refine call_pick hP2 (by omega) (by decide) (by decide) fun b S3 b0 b1 hI3 hP3 => ?_
  walk_at "lt"
  refine call_pick hP3 (by omega) (by decide) (by decide) fun c S4 c0 c1 hI4 hP4 => ?_
  walk_at "lt"
  have hI := ((hI1.trans hI2).trans hI3).trans hI4
  have ey : ∀ a b c : Int, 1 ≤ a ∧ a ≤ 99 → 1 ≤ b ∧ b ≤ 99 → 1 ≤ c ∧ c ≤ 99 → Q (.tup [.int a, .int b, .int c]) S4 := fun a b c ha hb hc => hQ _ _ ⟨(a, b, c), rfl, ha, hb, hc⟩ hI hP4
  have : w = 0 ∨ w = 1 ∨ w = 2 := by omega
  rcases this with rfl | rfl | rfl
  · exact ey 1 1 1 (by decide) (by decide) (by decide)
  · exact ey 3 6 1 (by decide) (by decide) (by decide)
  · exact ey (1 + a) (1 + b) (1 + c) (by omega) (by omega) (by omega)
/-! ### plain reckoning -/
theorem pzS3 {a b c : Rat} (h : PzS 0 [a, b, c]) : Pz 0 a ∧ Pz (0 + a) b ∧ Pz (0 + a + b) c := ⟨h.1, h.2.1, h.2.2.1⟩
theorem call_plus {x y : Rat} {S : Sto} {Q : VQ} {er : EQ} (h : Pz x y) (hQ : Q (frV (x + y)) S) : sp__law_plus.run [frV x, frV y] S Q er := ⟨(x, y), rfl, h, hQ⟩
theorem call_minus {x y : Rat} {S : Sto} {Q : VQ} {er : EQ} (h : Pz x y) (hQ : Q (frV (x - y)) S) : sp__law_minus.run [frV x, frV y] S Q er := ⟨(x, y), rfl, h, hQ⟩
theorem call_times {x y : Rat} {S : Sto} {Q : VQ} {er : EQ} (h : Pz x y) (hQ : Q (frV (x * y)) S) : sp__law_times.run [frV x, frV y] S Q er := ⟨(x, y), rfl, h, hQ⟩
theorem rsum3 (a b c : Rat) : 0 + a + b + c = rsum [a, b, c] := by
  show 0 + a + b + c = a + (b + (c + 0))
  grind
def sp__law_far : ISp := puSp (fun p : E3 × T3 × T3 => [trV p.2.1, trV p.2.2, eyV p.1]) (fun p => DistOk p.1 p.2.1 p.2.2) fun p => frV (dist p.1 p.2.1 p.2.2)
theorem hsp__law_far {D : Nat → Li.G} {A : Addr → Str → Prop} (h304 : D 304 = .fn sp__law_plus 2 []) (h305 : D 305 = .fn sp__law_minus 2 []) (h306 : D 306 = .fn sp__law_times 2 []) (vs : List Val) (S : Sto) (Q : VQ) (R : EQ) (hl : vs.length = 3) (h : sp__law_far.run vs S Q R) : evD { D := D, A := A, er := R } Lt.b__law_far 6 [] vs S Q := by
  obtain ⟨⟨e, a, b⟩, rfl, ⟨D', M', bd, bm, ⟨a1, a2, a3⟩, ⟨b1, b2, b3⟩, ⟨e1, e2, e3⟩⟩, hQ⟩ := h
  have s1 := sqOk bd bm e1 a1 b1
  have s2 := sqOk bd bm e2 a2 b2
  have s3 := sqOk bd bm e3 a3 b3
  obtain ⟨p1, p2, p3⟩ := pzS3 (sum3Ok bd (((bm.add bm).mul (bm.add bm)).mono (by decide)) s1.f s2.f s3.f)
  unfold Lt.b__law_far eyV trV
  walk_at "lt"
  rw [h304, h305, h306]
  walk_at "lt"
  refine call_minus s1.s ?_
  walk_at "lt"
  refine call_times s1.q ?_
  refine call_times (x := (e.1 : Rat)) s1.w ?_
  refine call_plus (x := 0) p1 ?_
  walk_at "lt"
  refine call_minus s2.s ?_
  walk_at "lt"
  refine call_times s2.q ?_
  refine call_times (x := (e.2.1 : Rat)) s2.w ?_
  refine call_plus p2 ?_
  walk_at "lt"
  refine call_minus s3.s ?_
  walk_at "lt"
  refine call_times s3.q ?_
  refine call_times (x := (e.2.2 : Rat)) s3.w ?_
  refine call_plus p3 ?_
  walk_at "lt"
  rw [rsum3]
  exact hQ
theorem call_eye {p : Addr} {n : Nat} {S : Sto} {Q : VQ} {er : EQ} (hP : Pur S p n) (h64 : n < 2 ^ 68) (k : ∀ e S', Eye3 e → Ins S S' p → Pur S' p (n + 4) → Q (eyV e) S') : sp__law_eye.run [.adr p] S Q er :=
  ⟨p, (), n, rfl, hP, h64, trivial, fun v S' ⟨x, hv, hx⟩ hI hP' => by
    subst hv
    exact k x S' hx hI hP'⟩
end Li
set_option Elab.async false
set_option linter.all false
set_option maxRecDepth 100000
set_option maxHeartbeats 2000000
/-! Ds: how far: sizes. -/
namespace Li
open PySem
theorem fz_rsum {D M : Nat} (h0 : 0 < D) : ∀ {xs : List Rat}, (∀ x ∈ xs, Fz D M x) → Fz D (xs.length * M) (rsum xs)
  | [], _ => (Fz.zero h0).up (by simp)
  | x :: r, h => by
    have h1 := h x List.mem_cons_self
    have h2 := fz_rsum h0 (xs := r) fun y hy => h y (List.mem_cons_of_mem _ hy)
    show Fz D _ (x + rsum r)
    exact (h1.add h2).up (by rw [List.length_cons, Nat.add_mul]; omega)
theorem fz3_mono {D E : Nat} {t : T3} (h : Fz3 D 1 t) (hd : D ∣ E) (h0 : 0 < E) : Fz3 E 1 t := ⟨h.1.mono hd h0 (Nat.le_refl _), h.2.1.mono hd h0 (Nat.le_refl _), h.2.2.mono hd h0 (Nat.le_refl _)⟩
theorem distOk_of {e : E3} {D : Nat} {a b : T3} (he : Eye3 e) (bd : B2 D 1000) (ha : Fz3 D 1 a) (hb : Fz3 D 1 b) : DistOk e a b := ⟨D, 1, ((bd.mul bd).mul (bd.mul bd)).mono (by decide), B2.mono (a := 1) (by unfold B2; decide) (by decide), ha, hb, he⟩
theorem dist_fz {e : E3} {D : Nat} {a b : T3} (he : Eye3 e) (ha : Fz3 D 1 a) (hb : Fz3 D 1 b) : Fz (D * D) 1188 (dist e a b) := by
  have t : ∀ {i : Int} {x y : Rat}, Eye1 i → Fz D 1 x → Fz D 1 y → Fz (D * D) 396 ((i : Rat) * ((x - y) * (x - y))) := fun hi hx hy => by
    have h := (eyeF hi).mul ((hx.sub hy).mul (hx.sub hy))
    rw [Nat.one_mul] at h
    exact h
  have h0 : 0 < D * D := Nat.mul_pos ha.1.1 ha.1.1
  have := fz_rsum (M := 396) h0 (xs := [(e.1 : Rat) * ((a.1 - b.1) * (a.1 - b.1)), (e.2.1 : Rat) * ((a.2.1 - b.2.1) * (a.2.1 - b.2.1)), (e.2.2 : Rat) * ((a.2.2 - b.2.2) * (a.2.2 - b.2.2))]) fun x hx => by
    simp only [List.mem_cons, List.not_mem_nil, or_false] at hx
    rcases hx with rfl | rfl | rfl
    · exact t he.1 ha.1 hb.1
    · exact t he.2.1 ha.2.1 hb.2.1
    · exact t he.2.2 ha.2.2 hb.2.2
  exact this
theorem pz_dist {e : E3} {D E : Nat} {a b c d : T3} (he : Eye3 e) (bd : B2 D 1000) (be : B2 E 1000) (ha : Fz3 D 1 a) (hb : Fz3 D 1 b) (hc : Fz3 E 1 c) (hd : Fz3 E 1 d) : Pz (dist e a b) (dist e c d) := by
  refine (dist_fz he ha hb).pz (dist_fz he hc hd) (((bd.mul bd).mul (be.mul be)).mono (by decide)) ?_ ?_
  · exact (B2.mul (a := 11) (show B2 1188 11 by unfold B2; decide) (bd.mul bd)).mono (by decide)
  · exact (B2.mul (a := 11) (show B2 1188 11 by unfold B2; decide) (be.mul be)).mono (by decide)

theorem b2_of {n a : Nat} (h : n < 2 ^ a) : B2 n a := h
theorem pz_small {x y : Rat} {D E M N : Nat} (hx : Fz D M x) (hy : Fz E N y) (h1 : D < 2 ^ 60) (h2 : E < 2 ^ 60) (h3 : M < 2 ^ 60) (h4 : N < 2 ^ 60) : Pz x y :=
  hx.pz hy (((b2_of h1).mul (b2_of h2)).mono (by decide)) (((b2_of h3).mul (b2_of h1)).mono (by decide)) (((b2_of h4).mul (b2_of h2)).mono (by decide))
theorem sq_le {x y : Rat} (hx : In1 x) (hy : In1 y) : 0 ≤ (x - y) * (x - y) ∧ (x - y) * (x - y) ≤ 1 := by
  obtain ⟨a, b⟩ := hx
  obtain ⟨c, d⟩ := hy
  have h1 := Rat.mul_nonneg (show 0 ≤ 1 - (x - y) by grind) (show 0 ≤ 1 + (x - y) by grind)
  refine ⟨?_, by grind⟩
  by_cases z : 0 ≤ x - y
  · exact Rat.mul_nonneg z z
  · have := Rat.mul_nonneg (show 0 ≤ y - x by grind) (show 0 ≤ y - x by grind)
    grind
theorem ey_le {i : Int} {s : Rat} (h : Eye1 i) (h0 : 0 ≤ s) (h1 : s ≤ 1) : 0 ≤ (i : Rat) * s ∧ (i : Rat) * s ≤ 99 := by
  obtain ⟨a, b⟩ := h
  have a2 : (1 : Rat) ≤ (i : Rat) := by exact_mod_cast a
  have b2 : (i : Rat) ≤ 99 := by exact_mod_cast b
  have q1 := Rat.mul_nonneg (show (0 : Rat) ≤ (i : Rat) by grind) h0
  have q2 := Rat.mul_nonneg (show (0 : Rat) ≤ 99 - (i : Rat) by grind) h0
  exact ⟨q1, by grind⟩
theorem dist_le {e : E3} {a b : T3} (he : Eye3 e) (ha : In3 a) (hb : In3 b) : 0 ≤ dist e a b ∧ dist e a b ≤ 297 := by
  obtain ⟨s1, s2⟩ := sq_le ha.1 hb.1
  obtain ⟨s3, s4⟩ := sq_le ha.2.1 hb.2.1
  obtain ⟨s5, s6⟩ := sq_le ha.2.2 hb.2.2
  obtain ⟨u1, u2⟩ := ey_le he.1 s1 s2
  obtain ⟨u3, u4⟩ := ey_le he.2.1 s3 s4
  obtain ⟨u5, u6⟩ := ey_le he.2.2 s5 s6
  unfold dist
  simp only [rsum]
  constructor <;> grind
end Li
set_option Elab.async false
set_option linter.all false
set_option maxRecDepth 100000
set_option maxHeartbeats 2000000
/-! Nm: names. -/
namespace Li
open PySem
local macro_rules | `(tactic| walk_at "li") => `(tactic| simp only [evD, evSs, evS, evE, evEs, evI, evO, evIt, slotQ_0, slotQ_s, cloQ_0, cloQ_s, capQ_nil, capQ_cons, intQ_i, adrQ_a, lstQ_l, tupQ_t, dctQ_d, optQ_s, gvalQ_v, brV_s, asL_l, truV_b, truV_n, truV_i, lenV_t, lenV_s, lenV_l, idxV_t, idxV_s, idxV_l, atI_0, atI_1, atI_2, atI_3, bin_add, bin_sub, bin_mul, bin_div, bin_mod, bin_pow, bin_shl, bin_shr, bin_and, bin_addL, bin_addT, aug_add, aug_sub, aug_mul, cmp_lt, cmp_le, cmp_gt, cmp_ge, cmp_is, cmp_isnt, cmp_eq, cmp_ne, tst_e, wipe_nil, wipe_cons, asg_one, asg_many, asgs_nil, asgs_cons, seqV_t, itV_t, itV_l, itV_s, itV_x, itV_d, itV_set, chkV_x, chkV_d, keyQ_s, keyQ_i, keyV, dctV_d, dctV_set, dctQC_set, bin_addX, idxV_x, cmp_ltx, esLen_n, esLen_c, isCalk_cl, pickV_n, pickV_l, pickV_r, getD_0, getD_s, isFn_fn, isFnk_fn, mthQ_i, bmP_pop, bmP_ins, bmP_ext, bmV_pop, bmV_popAt, bmV_ins, bmV_ext, dropC_d, cellOf_d, seqV_s, seqV_l, chkV_t, chkV_l, chkV_s, chkV_a, callG_fn, isCal_fn, isCal_cls, isCalk_fn, callK_fn, frz_nil, puSp_run, bf_len, bf_abs, bf_int, bf_intb, bf_tupT, bf_tupL, bf_listL, bf_listT, bf_min2, bf_max2, bf_isi, slc_l, slc_t, slc_s, fld_i, setB, tabA_hit, isi_tt, isi_ti, isi_ii, isi_it, isi_ib, isi_bi, isi_bb, isi_ss, Cxt.nox, natI_0, natI_1, natI_2, natI_3, natI_4, natI_5, natI_6, natI_7, Bool.not_true, Bool.not_false, decide_true, decide_false, Bool.false_eq_true, if_true, if_false, celQ_set, idxV_set, Sto.set_set, ixN_30, ixN_31, ixN_32, enumV_n, enumV_c, zipV_n, zipV_c, objQ_set, isNon_n, isNon_t, isNon_i, setC_l, dropC_n, dropC_s, dropC_a, cellOf_0, cellOf_s, cellOf_n, frz_cons, frz1_s, frz1_n, sbst_t, sbst_l, sbst_i, sbst_b, sbst_non, sbst_str, sbst_a, sbsts_n, sbsts_c, bin_addLA_set, lenV_set, seqV_set, bf_tupA_set, bmP_app, bmV_app, bf_sum_set, bf_sum_l, asInts_n, asInts_c, Option.map_some, sz_0, sz_1, sz_2, sz_3, sz_4, sz_5, sz_6, sz_7, List.map_cons, List.map_nil, List.length_cons, List.length_nil, List.cons_append, List.nil_append, List.append_nil, List.drop_nil, List.set_cons_zero, List.set_cons_succ, List.replicate_succ, List.replicate_zero, Nat.reduceSub, Nat.reduceAdd, decide_eq_true_eq, true_and, and_true])
def abc : Str := ("abcdefghijklmnopqrstuvwxyz" : Str)
/-- a name -/
structure Nam (n : Str) : Prop where
  lo : 1 ≤ n.length
  hi : n.length ≤ 12
  az : ∀ c ∈ n.cps.toList, 97 ≤ c ∧ c ≤ 122
theorem Nam.sz {n : Str} (h : Nam n) : n.length ≤ sizeLine := by
  have := h.hi
  rw [show sizeLine = 16777216 from sizeLine_eq]
  omega
theorem occ_abc : ∀ k : Fin 26, (!(Builtin.Str.occurrences abc ⟨#[97 + k.val]⟩ 0 abc.length 1).isEmpty) = true := by decide +kernel
theorem occ_at {c : Nat} (h : 97 ≤ c ∧ c ≤ 122) : (!(Builtin.Str.occurrences abc ⟨#[c]⟩ 0 abc.length 1).isEmpty) = true := by
  have q := occ_abc ⟨c - 97, by omega⟩
  have e : 97 + (c - 97) = c := by omega
  simp only [e] at q
  exact q
theorem cmp_inx {S : Sto} {a b : Str} {P : Bool → Prop} : cmpV S .In (.str a) (.str b) P = P (!(Builtin.Str.occurrences b a 0 b.length 1).isEmpty) := rfl
theorem all_true {l : List Bool} (h : ∀ b ∈ l, b = true) : l.all id = true := List.all_eq_true.mpr fun b hb => h b hb
def sp_is_name : ISp := puSp (fun n : Str => [.str n]) Nam fun _ => .bl true
theorem hsp_is_name {D : Nat → Li.G} {A : Addr → Str → Prop} (h34 : D 34 = .val (.int 12)) (h35 : D 35 = .val (.str abc)) (vs : List Val) (S : Sto) (Q : VQ) (R : EQ) (hl : vs.length = 1) (h : sp_is_name.run vs S Q R) : evD { D := D, A := A, er := R } Pt.b_is_name 2 [] vs S Q := by
  obtain ⟨n, rfl, hn, hQ⟩ := h
  have hlen : ∀ S : Sto, lenV S (.str n) = some n.length := fun S => if_pos hn.sz
  have l0 := hn.lo
  have l1 := hn.hi
  unfold Pt.b_is_name
  walk_at "li"
  rw [h34, h35]
  simp only [hlen]
  walk_at "li"
  rw [if_pos (by omega)]
  have c2 : ((n.length : Nat) : Int) ≤ 12 := by omega
  rw [if_neg (by simp [c2])]
  refine compL_mapA (f := fun c => .bl true) trivial (by
    rw [List.length_nil]
    have e : n.cps.toList.length = n.length := by simp [Str.length]
    have := hn.sz
    omega) (fun c hc k hk => ?_) ?_
  · rw [cmp_inx, occ_at (hn.az c hc)]
    exact hk
  · have e : [] ++ n.cps.toList.map (fun _ => Val.bl true) = (n.cps.toList.map fun _ => true).map Val.bl := by
      rw [List.nil_append, List.map_map]
      rfl
    rw [e, bf_allL, all_true fun b hb => by
      obtain ⟨c, _, e⟩ := List.mem_map.mp hb
      exact e.symm]
    exact hQ
theorem call_is_name {n : Str} {S : Sto} {Q : VQ} {er : EQ} (h : Nam n) (hQ : Q (.bl true) S) : sp_is_name.run [.str n] S Q er := ⟨n, rfl, h, hQ⟩
def sp_check_name : ISp := puSp (fun n : Str => [.str n]) Nam fun _ => .non
theorem hsp_check_name {D : Nat → Li.G} {A : Addr → Str → Prop} (h36 : D 36 = .fn sp_is_name 1 []) (vs : List Val) (S : Sto) (Q : VQ) (R : EQ) (hl : vs.length = 1) (h : sp_check_name.run vs S Q R) : evD { D := D, A := A, er := R } Pt.b_check_name 1 [] vs S Q := by
  obtain ⟨n, rfl, hn, hQ⟩ := h
  unfold Pt.b_check_name
  walk_at "li"
  rw [h36]
  walk_at "li"
  refine call_is_name hn ?_
  walk_at "li"
  exact hQ
end Li
set_option Elab.async false
set_option linter.all false
set_option maxRecDepth 100000
set_option maxHeartbeats 2000000
/-! Bk: Books. -/
namespace Li
open PySem
local macro_rules | `(tactic| walk_at "li") => `(tactic| simp only [evD, evSs, evS, evE, evEs, evI, evO, evIt, slotQ_0, slotQ_s, cloQ_0, cloQ_s, capQ_nil, capQ_cons, intQ_i, adrQ_a, lstQ_l, tupQ_t, dctQ_d, optQ_s, gvalQ_v, brV_s, asL_l, truV_b, truV_n, truV_i, lenV_t, lenV_s, lenV_l, idxV_t, idxV_s, idxV_l, atI_0, atI_1, atI_2, atI_3, bin_add, bin_sub, bin_mul, bin_div, bin_mod, bin_pow, bin_shl, bin_shr, bin_and, bin_addL, bin_addT, aug_add, aug_sub, aug_mul, cmp_lt, cmp_le, cmp_gt, cmp_ge, cmp_is, cmp_isnt, cmp_eq, cmp_ne, tst_e, wipe_nil, wipe_cons, asg_one, asg_many, asgs_nil, asgs_cons, seqV_t, itV_t, itV_l, itV_s, itV_x, itV_d, itV_set, chkV_x, chkV_d, keyQ_s, keyQ_i, keyV, dctV_d, dctV_set, dctQC_set, bin_addX, idxV_x, cmp_ltx, esLen_n, esLen_c, isCalk_cl, pickV_n, pickV_l, pickV_r, getD_0, getD_s, isFn_fn, isFnk_fn, mthQ_i, bmP_pop, bmP_ins, bmP_ext, bmV_pop, bmV_popAt, bmV_ins, bmV_ext, dropC_d, cellOf_d, seqV_s, seqV_l, chkV_t, chkV_l, chkV_s, chkV_a, callG_fn, isCal_fn, isCal_cls, isCalk_fn, callK_fn, frz_nil, puSp_run, bf_len, bf_abs, bf_int, bf_intb, bf_tupT, bf_tupL, bf_listL, bf_listT, bf_min2, bf_max2, bf_isi, slc_l, slc_t, slc_s, fld_i, setB, tabA_hit, isi_tt, isi_ti, isi_ii, isi_it, isi_ib, isi_bi, isi_bb, isi_ss, Cxt.nox, natI_0, natI_1, natI_2, natI_3, natI_4, natI_5, natI_6, natI_7, Bool.not_true, Bool.not_false, decide_true, decide_false, Bool.false_eq_true, if_true, if_false, celQ_set, idxV_set, Sto.set_set, ixN_30, ixN_31, ixN_32, enumV_n, enumV_c, zipV_n, zipV_c, objQ_set, isNon_n, isNon_t, isNon_i, setC_l, dropC_n, dropC_s, dropC_a, cellOf_0, cellOf_s, cellOf_n, frz_cons, frz1_s, frz1_n, sbst_t, sbst_l, sbst_i, sbst_b, sbst_non, sbst_str, sbst_a, sbsts_n, sbsts_c, bin_addLA_set, lenV_set, seqV_set, bf_tupA_set, bmP_app, bmV_app, bf_sum_set, bf_sum_l, asInts_n, asInts_c, Option.map_some, sz_0, sz_1, sz_2, sz_3, sz_4, sz_5, sz_6, sz_7, List.map_cons, List.map_nil, List.length_cons, List.length_nil, List.cons_append, List.nil_append, List.append_nil, List.drop_nil, List.set_cons_zero, List.set_cons_succ, List.replicate_succ, List.replicate_zero, Nat.reduceSub, Nat.reduceAdd, decide_eq_true_eq, true_and, and_true])
abbrev Rw : Type := Str × T3
def rwV (C : Addr) (r : Rw) : Val := .tup [.str r.1, shV C r.2]
def bkF : List Str := [("eye" : Str), ("rows" : Str), ("past" : Str)]
/-- a Book at b, its past at q: an eye, rows -/
structure Bk (CB C : Addr) (S : Sto) (b q : Addr) (e : E3) (rs : List Rw) (m : Nat) : Prop where
  ne : b ≠ q
  ob : S b = some (.obj CB [(("eye" : Str), eyV e), (("rows" : Str), .lst (rs.map (rwV C))), (("past" : Str), .adr q)])
  pa : ∃ hs : List Val, S q = some (.lst hs) ∧ hs.length ≤ m
  n24 : rs.length ≤ 24
  nam : ∀ r ∈ rs, Nam r.1
  nod : (rs.map (·.1)).Nodup
  in3 : ∀ r ∈ rs, In3 r.2
  ey : Eye3 e
/-- the store, but for a Book -/
def Ins2 (S S' : Sto) (b q : Addr) : Prop := ∀ a, a ≠ b → a ≠ q → S' a = S a
theorem look1 {a b c : Val} : ([(("eye" : Str), a), (("rows" : Str), b), (("past" : Str), c)] : List (Str × Val)).lookup ("eye" : Str) = some a := rfl
theorem look2 {a b c : Val} : ([(("eye" : Str), a), (("rows" : Str), b), (("past" : Str), c)] : List (Str × Val)).lookup ("rows" : Str) = some b := by
  rw [List.lookup_cons, show (("rows" : Str) == ("eye" : Str)) = false by decide]
  rfl
theorem look3 {a b c : Val} : ([(("eye" : Str), a), (("rows" : Str), b), (("past" : Str), c)] : List (Str × Val)).lookup ("past" : Str) = some c := by
  rw [List.lookup_cons, show (("past" : Str) == ("eye" : Str)) = false by decide]
  show List.lookup _ _ = _
  rw [List.lookup_cons, show (("past" : Str) == ("rows" : Str)) = false by decide]
  rfl
section
variable {CB C : Addr} {S : Sto} {b q : Addr} {e : E3} {rs : List Rw} {m : Nat} {A : Addr → Str → Prop} {Q : Val → Prop}
theorem Bk.eye (h : Bk CB C S b q e rs m) (hA : ∀ f ∈ bkF, A CB f) : fldV A S ("eye" : Str) Q (.adr b) = Q (eyV e) := by
  show objQ S b _ = _
  rw [objQ_h h.ob, look1, optQ_s]
  exact propext ⟨fun z => z.2, fun z => ⟨hA _ (by simp [bkF]), z⟩⟩
theorem Bk.rows (h : Bk CB C S b q e rs m) (hA : ∀ f ∈ bkF, A CB f) : fldV A S ("rows" : Str) Q (.adr b) = Q (.lst (rs.map (rwV C))) := by
  show objQ S b _ = _
  rw [objQ_h h.ob, look2, optQ_s]
  exact propext ⟨fun z => z.2, fun z => ⟨hA _ (by simp [bkF]), z⟩⟩
theorem Bk.past (h : Bk CB C S b q e rs m) (hA : ∀ f ∈ bkF, A CB f) : fldV A S ("past" : Str) Q (.adr b) = Q (.adr q) := by
  show objQ S b _ = _
  rw [objQ_h h.ob, look3, optQ_s]
  exact propext ⟨fun z => z.2, fun z => ⟨hA _ (by simp [bkF]), z⟩⟩
end
end Li
namespace Li
open PySem
local macro_rules | `(tactic| walk_at "li") => `(tactic| simp only [evD, evSs, evS, evE, evEs, evI, evO, evIt, slotQ_0, slotQ_s, cloQ_0, cloQ_s, capQ_nil, capQ_cons, intQ_i, adrQ_a, lstQ_l, tupQ_t, dctQ_d, optQ_s, gvalQ_v, brV_s, asL_l, truV_b, truV_n, truV_i, lenV_t, lenV_s, lenV_l, idxV_t, idxV_s, idxV_l, atI_0, atI_1, atI_2, atI_3, bin_add, bin_sub, bin_mul, bin_div, bin_mod, bin_pow, bin_shl, bin_shr, bin_and, bin_addL, bin_addT, aug_add, aug_sub, aug_mul, cmp_lt, cmp_le, cmp_gt, cmp_ge, cmp_is, cmp_isnt, cmp_eq, cmp_ne, tst_e, wipe_nil, wipe_cons, asg_one, asg_many, asgs_nil, asgs_cons, seqV_t, itV_t, itV_l, itV_s, itV_x, itV_d, itV_set, chkV_x, chkV_d, keyQ_s, keyQ_i, keyV, dctV_d, dctV_set, dctQC_set, bin_addX, idxV_x, cmp_ltx, esLen_n, esLen_c, isCalk_cl, pickV_n, pickV_l, pickV_r, getD_0, getD_s, isFn_fn, isFnk_fn, mthQ_i, bmP_pop, bmP_ins, bmP_ext, bmV_pop, bmV_popAt, bmV_ins, bmV_ext, dropC_d, cellOf_d, seqV_s, seqV_l, chkV_t, chkV_l, chkV_s, chkV_a, callG_fn, isCal_fn, isCal_cls, isCalk_fn, callK_fn, frz_nil, puSp_run, bf_len, bf_abs, bf_int, bf_intb, bf_tupT, bf_tupL, bf_listL, bf_listT, bf_min2, bf_max2, bf_isi, slc_l, slc_t, slc_s, fld_i, setB, tabA_hit, isi_tt, isi_ti, isi_ii, isi_it, isi_ib, isi_bi, isi_bb, isi_ss, Cxt.nox, natI_0, natI_1, natI_2, natI_3, natI_4, natI_5, natI_6, natI_7, Bool.not_true, Bool.not_false, decide_true, decide_false, Bool.false_eq_true, if_true, if_false, celQ_set, idxV_set, Sto.set_set, ixN_30, ixN_31, ixN_32, enumV_n, enumV_c, zipV_n, zipV_c, objQ_set, isNon_n, isNon_t, isNon_i, setC_l, dropC_n, dropC_s, dropC_a, cellOf_0, cellOf_s, cellOf_n, frz_cons, frz1_s, frz1_n, sbst_t, sbst_l, sbst_i, sbst_b, sbst_non, sbst_str, sbst_a, sbsts_n, sbsts_c, bin_addLA_set, lenV_set, seqV_set, bf_tupA_set, bmP_app, bmV_app, bf_sum_set, bf_sum_l, asInts_n, asInts_c, Option.map_some, sz_0, sz_1, sz_2, sz_3, sz_4, sz_5, sz_6, sz_7, List.map_cons, List.map_nil, List.length_cons, List.length_nil, List.cons_append, List.nil_append, List.append_nil, List.drop_nil, List.set_cons_zero, List.set_cons_succ, List.replicate_succ, List.replicate_zero, Nat.reduceSub, Nat.reduceAdd, decide_eq_true_eq, true_and, and_true])
theorem eqv_str {a b : Str} : PyData.eqv (.str a) (.str b) = decide (a = b) := by
  simp [PyData.eqv]
  rfl
theorem shp_str {a : Str} (h : PyData.strOk a = true) : SeqAt.shaped (.str a) = true := by simp [SeqAt.shaped, PyData.canLay0, PyData.depth, h]
theorem cmp_eqx {S : Sto} {a b : Str} {P : Bool → Prop} (ha : PyData.strOk a = true) (hb : PyData.strOk b = true) : cmpV S .Eq (.str a) (.str b) P = P (decide (a = b)) := by
  show (SeqAt.shaped _ = true ∧ SeqAt.shaped _ = true ∧ P (id (PyData.eqv (.str a) (.str b)))) = _
  rw [eqv_str, shp_str ha, shp_str hb]
  simp
theorem cmp_nex {S : Sto} {a b : Str} {P : Bool → Prop} (ha : PyData.strOk a = true) (hb : PyData.strOk b = true) : cmpV S .NotEq (.str a) (.str b) P = P (!decide (a = b)) := by
  show (SeqAt.shaped _ = true ∧ SeqAt.shaped _ = true ∧ P (not (PyData.eqv (.str a) (.str b)))) = _
  rw [eqv_str, shp_str ha, shp_str hb]
  simp
end Li
namespace Li
open PySem
local macro_rules | `(tactic| walk_at "li") => `(tactic| simp only [evD, evSs, evS, evE, evEs, evI, evO, evIt, slotQ_0, slotQ_s, cloQ_0, cloQ_s, capQ_nil, capQ_cons, intQ_i, adrQ_a, lstQ_l, tupQ_t, dctQ_d, optQ_s, gvalQ_v, brV_s, asL_l, truV_b, truV_n, truV_i, lenV_t, lenV_s, lenV_l, idxV_t, idxV_s, idxV_l, atI_0, atI_1, atI_2, atI_3, bin_add, bin_sub, bin_mul, bin_div, bin_mod, bin_pow, bin_shl, bin_shr, bin_and, bin_addL, bin_addT, aug_add, aug_sub, aug_mul, cmp_lt, cmp_le, cmp_gt, cmp_ge, cmp_is, cmp_isnt, cmp_eq, cmp_ne, tst_e, wipe_nil, wipe_cons, asg_one, asg_many, asgs_nil, asgs_cons, seqV_t, itV_t, itV_l, itV_s, itV_x, itV_d, itV_set, chkV_x, chkV_d, keyQ_s, keyQ_i, keyV, dctV_d, dctV_set, dctQC_set, bin_addX, idxV_x, cmp_ltx, esLen_n, esLen_c, isCalk_cl, pickV_n, pickV_l, pickV_r, getD_0, getD_s, isFn_fn, isFnk_fn, mthQ_i, bmP_pop, bmP_ins, bmP_ext, bmV_pop, bmV_popAt, bmV_ins, bmV_ext, dropC_d, cellOf_d, seqV_s, seqV_l, chkV_t, chkV_l, chkV_s, chkV_a, callG_fn, isCal_fn, isCal_cls, isCalk_fn, callK_fn, frz_nil, puSp_run, bf_len, bf_abs, bf_int, bf_intb, bf_tupT, bf_tupL, bf_listL, bf_listT, bf_min2, bf_max2, bf_isi, slc_l, slc_t, slc_s, fld_i, setB, tabA_hit, isi_tt, isi_ti, isi_ii, isi_it, isi_ib, isi_bi, isi_bb, isi_ss, Cxt.nox, natI_0, natI_1, natI_2, natI_3, natI_4, natI_5, natI_6, natI_7, Bool.not_true, Bool.not_false, decide_true, decide_false, Bool.false_eq_true, if_true, if_false, celQ_set, idxV_set, Sto.set_set, ixN_30, ixN_31, ixN_32, enumV_n, enumV_c, zipV_n, zipV_c, objQ_set, isNon_n, isNon_t, isNon_i, setC_l, dropC_n, dropC_s, dropC_a, cellOf_0, cellOf_s, cellOf_n, frz_cons, frz1_s, frz1_n, sbst_t, sbst_l, sbst_i, sbst_b, sbst_non, sbst_str, sbst_a, sbsts_n, sbsts_c, bin_addLA_set, lenV_set, seqV_set, bf_tupA_set, bmP_app, bmV_app, bf_sum_set, bf_sum_l, asInts_n, asInts_c, Option.map_some, sz_0, sz_1, sz_2, sz_3, sz_4, sz_5, sz_6, sz_7, List.map_cons, List.map_nil, List.length_cons, List.length_nil, List.cons_append, List.nil_append, List.append_nil, List.drop_nil, List.set_cons_zero, List.set_cons_succ, List.replicate_succ, List.replicate_zero, Nat.reduceSub, Nat.reduceAdd, decide_eq_true_eq, true_and, and_true])
theorem Nam.ok {n : Str} (h : Nam n) : PyData.strOk n = true := by
  unfold PyData.strOk
  rw [Array.all_eq_true_iff_forall_mem]
  intro c hc
  have := h.az c (by simpa using hc)
  exact decide_eq_true (by omega)
/-- the first row of a name -/
def plcOf (n : Str) : List Rw → Nat
  | [] => 0
  | r :: rs => if r.1 = n then 0 else plcOf n rs + 1
theorem plcOf_lt {n : Str} : ∀ {rs : List Rw}, n ∈ rs.map (·.1) → plcOf n rs < rs.length
  | r :: rs, h => by
    unfold plcOf
    split
    · simp
    · rename_i hn
      rcases List.mem_cons.mp (show n ∈ r.1 :: rs.map (·.1) from h) with e | e
      · exact absurd e.symm hn
      · have := plcOf_lt e
        simp only [List.length_cons]
        omega
theorem plcOf_at {n : Str} : ∀ {rs : List Rw}, n ∈ rs.map (·.1) → ∃ t, rs[plcOf n rs]? = some (n, t)
  | r :: rs, h => by
    unfold plcOf
    split
    · rename_i hn
      exact ⟨r.2, by rw [← hn]; rfl⟩
    · rename_i hn
      rcases List.mem_cons.mp (show n ∈ r.1 :: rs.map (·.1) from h) with e | e
      · exact absurd e.symm hn
      · exact plcOf_at e
/-- the names' places -/
def sp_Book_place_of (CB C : Addr) : ISp where
  run := fun vs S Q _ => ∃ (b q : Addr) (e : E3) (rs : List Rw) (m : Nat) (n : Str), vs = [.adr b, .str n] ∧ Bk CB C S b q e rs m ∧ Nam n ∧ n ∈ rs.map Prod.fst ∧ Q (.int (plcOf n rs : Nat)) S
  mono := fun hQ _ ⟨b, q, e, rs, m, n, h1, h2, h3, h4, h5⟩ => ⟨b, q, e, rs, m, n, h1, h2, h3, h4, hQ _ _ h5⟩
theorem hsp_Book_place_of {CB C : Addr} {D : Nat → Li.G} {A : Addr → Str → Prop} (hA : ∀ f ∈ bkF, A CB f) (vs : List Val) (S : Sto) (Q : VQ) (R : EQ) (hl : vs.length = 2) (h : (sp_Book_place_of CB C).run vs S Q R) : evD { D := D, A := A, er := R } Pt.b_Book.place_of 4 [] vs S Q := by
  obtain ⟨b, q, e, rs, m, n, rfl, hB, hn, hm, hQ⟩ := h
  unfold Pt.b_Book.place_of
  walk_at "li"
  rw [hB.rows hA]
  walk_at "li"
  have go : ∀ (l : List Rw) (k : Nat) (step : Val → DE → Env → Sto → Prop) (DD : DE), (∀ r ∈ l, Nam r.1) → n ∈ l.map Prod.fst → (∀ (k : Nat) (r : Rw) (nx : Env → Sto → Prop) (o1 o2 : Option Val), Nam r.1 → (r.1 = n → Q (.int k) S) → (r.1 ≠ n → ∀ o1 o2, nx [some (.adr b), some (.str n), o1, o2] S) → step (.tup [.int k, rwV C r]) { DD with nx := nx, ct := nx, bk := DD.nx } [some (.adr b), some (.str n), o1, o2] S) → Q (.int ((k + plcOf n l : Nat) : Int)) S → ∀ o1 o2,
      forL step (fun _ => True) (enumV k (l.map (rwV C))) DD [some (.adr b), some (.str n), o1, o2] S := fun l => by
    induction l with
    | nil => exact fun k st DD _ hm _ _ _ _ => nomatch hm
    | cons r l ih =>
      intro k st DD hN hm hst hQ o1 o2
      rw [List.map_cons, enumV_c, forL_cons]
      refine ⟨trivial, hst k r _ o1 o2 (hN r List.mem_cons_self) (fun hr => ?_) fun hr o1 o2 => ?_⟩
      · unfold plcOf at hQ
        rw [if_pos hr] at hQ
        exact hQ
      · refine ih (k + 1) st DD (fun u hu => hN u (List.mem_cons_of_mem _ hu)) ?_ hst ?_ o1 o2
        · rcases List.mem_cons.mp (show n ∈ r.1 :: l.map Prod.fst from hm) with e | e
          · exact absurd e.symm hr
          · exact e
        · unfold plcOf at hQ
          rw [if_neg hr] at hQ
          have e : k + 1 + plcOf n l = k + (plcOf n l + 1) := by omega
          rw [e]
          exact hQ
  refine go rs 0 _ _ hB.nam hm (fun k r nx o1 o2 hr h1 h2 => ?_) (by rw [Nat.zero_add]; exact hQ) none none
  unfold rwV
  walk_at "li"
  rw [cmp_eqx hr.ok hn.ok]
  walk_at "li"
  split
  · rename_i h
    exact h1 h
  · rename_i h
    exact h2 h _ _
end Li
namespace Li
open PySem
local macro_rules | `(tactic| walk_at "li") => `(tactic| simp only [evD, evSs, evS, evE, evEs, evI, evO, evIt, slotQ_0, slotQ_s, cloQ_0, cloQ_s, capQ_nil, capQ_cons, intQ_i, adrQ_a, lstQ_l, tupQ_t, dctQ_d, optQ_s, gvalQ_v, brV_s, asL_l, truV_b, truV_n, truV_i, lenV_t, lenV_s, lenV_l, idxV_t, idxV_s, idxV_l, atI_0, atI_1, atI_2, atI_3, bin_add, bin_sub, bin_mul, bin_div, bin_mod, bin_pow, bin_shl, bin_shr, bin_and, bin_addL, bin_addT, aug_add, aug_sub, aug_mul, cmp_lt, cmp_le, cmp_gt, cmp_ge, cmp_is, cmp_isnt, cmp_eq, cmp_ne, tst_e, wipe_nil, wipe_cons, asg_one, asg_many, asgs_nil, asgs_cons, seqV_t, itV_t, itV_l, itV_s, itV_x, itV_d, itV_set, chkV_x, chkV_d, keyQ_s, keyQ_i, keyV, dctV_d, dctV_set, dctQC_set, bin_addX, idxV_x, cmp_ltx, esLen_n, esLen_c, isCalk_cl, pickV_n, pickV_l, pickV_r, getD_0, getD_s, isFn_fn, isFnk_fn, mthQ_i, bmP_pop, bmP_ins, bmP_ext, bmV_pop, bmV_popAt, bmV_ins, bmV_ext, dropC_d, cellOf_d, seqV_s, seqV_l, chkV_t, chkV_l, chkV_s, chkV_a, callG_fn, isCal_fn, isCal_cls, isCalk_fn, callK_fn, frz_nil, puSp_run, bf_len, bf_abs, bf_int, bf_intb, bf_tupT, bf_tupL, bf_listL, bf_listT, bf_min2, bf_max2, bf_isi, slc_l, slc_t, slc_s, fld_i, setB, tabA_hit, isi_tt, isi_ti, isi_ii, isi_it, isi_ib, isi_bi, isi_bb, isi_ss, Cxt.nox, natI_0, natI_1, natI_2, natI_3, natI_4, natI_5, natI_6, natI_7, Bool.not_true, Bool.not_false, decide_true, decide_false, Bool.false_eq_true, if_true, if_false, celQ_set, idxV_set, Sto.set_set, ixN_30, ixN_31, ixN_32, enumV_n, enumV_c, zipV_n, zipV_c, objQ_set, isNon_n, isNon_t, isNon_i, setC_l, dropC_n, dropC_s, dropC_a, cellOf_0, cellOf_s, cellOf_n, frz_cons, frz1_s, frz1_n, sbst_t, sbst_l, sbst_i, sbst_b, sbst_non, sbst_str, sbst_a, sbsts_n, sbsts_c, bin_addLA_set, lenV_set, seqV_set, bf_tupA_set, bmP_app, bmV_app, bf_sum_set, bf_sum_l, asInts_n, asInts_c, Option.map_some, sz_0, sz_1, sz_2, sz_3, sz_4, sz_5, sz_6, sz_7, List.map_cons, List.map_nil, List.length_cons, List.length_nil, List.cons_append, List.nil_append, List.append_nil, List.drop_nil, List.set_cons_zero, List.set_cons_succ, List.replicate_succ, List.replicate_zero, Nat.reduceSub, Nat.reduceAdd, decide_eq_true_eq, true_and, and_true])
theorem toPys0_strs : ∀ ns : List Str, toPys0 (ns.map Val.str) = some (ns.map PyData.str)
  | [] => rfl
  | n :: r => by
    rw [List.map_cons, toPys0, toPys0_strs r]
    rfl
theorem lay_strs : ∀ {ns : List Str}, (∀ n ∈ ns, PyData.strOk n = true) → PyData.canLayAll0 (ns.map PyData.str) = true ∧ PyData.depthAll (ns.map PyData.str) = 0
  | [], _ => ⟨rfl, rfl⟩
  | n :: r, h => by
    obtain ⟨h1, h2⟩ := lay_strs (ns := r) fun m hm => h m (List.mem_cons_of_mem _ hm)
    rw [List.map_cons]
    refine ⟨?_, ?_⟩
    · rw [PyData.canLayAll0, h1, PyData.canLay0, h n List.mem_cons_self]
      rfl
    · rw [PyData.depthAll, h2, PyData.depth]
      rfl
theorem shp_strs {ns : List Str} (h : ∀ n ∈ ns, PyData.strOk n = true) : SeqAt.shaped (.list (ns.map PyData.str)) = true ∧ SeqAt.shaped (.tuple (ns.map PyData.str)) = true := by
  obtain ⟨h1, h2⟩ := lay_strs h
  unfold SeqAt.shaped
  simp [PyData.canLay0, PyData.depth, h1, h2]
theorem any_strs {n : Str} {ns : List Str} : ((ns.map PyData.str).any fun z => PyData.eqv z (.str n)) = decide (n ∈ ns) := by
  induction ns with
  | nil => rfl
  | cons m r ih =>
    rw [List.map_cons, List.any_cons, ih, eqv_str]
    by_cases e : m = n
    · simp [e]
    · have e2 : ¬ n = m := fun z => e z.symm
      simp [e, e2]
theorem cmp_inL {S : Sto} {n : Str} {ns : List Str} {P : Bool → Prop} (hn : PyData.strOk n = true) (h : ∀ n ∈ ns, PyData.strOk n = true) : cmpV S .In (.str n) (.lst (ns.map Val.str)) P = P (decide (n ∈ ns)) := by
  show optQ (toPy S (.str n)) (fun d => optQ (toPy S (.lst (ns.map Val.str))) fun e => inD P d e) = _
  have e1 : toPy S (.str n) = some (.str n) := rfl
  have e2 : toPy S (.lst (ns.map Val.str)) = some (.list (ns.map PyData.str)) := by
    show (toPys0 (ns.map Val.str)).map PyData.list = _
    rw [toPys0_strs]
    rfl
  rw [e1, optQ_s, e2, optQ_s]
  show (SeqAt.shaped _ = true ∧ SeqAt.shaped _ = true ∧ P _) = _
  rw [shp_str hn, (shp_strs h).1, any_strs]
  simp
theorem cmp_ninL {S : Sto} {n : Str} {ns : List Str} {P : Bool → Prop} (hn : PyData.strOk n = true) (h : ∀ n ∈ ns, PyData.strOk n = true) : cmpV S .NotIn (.str n) (.lst (ns.map Val.str)) P = P (!decide (n ∈ ns)) := cmp_inL (P := fun b => P (!b)) hn h
end Li
namespace Li
open PySem
local macro_rules | `(tactic| walk_at "li") => `(tactic| simp only [evD, evSs, evS, evE, evEs, evI, evO, evIt, slotQ_0, slotQ_s, cloQ_0, cloQ_s, capQ_nil, capQ_cons, intQ_i, adrQ_a, lstQ_l, tupQ_t, dctQ_d, optQ_s, gvalQ_v, brV_s, asL_l, truV_b, truV_n, truV_i, lenV_t, lenV_s, lenV_l, idxV_t, idxV_s, idxV_l, atI_0, atI_1, atI_2, atI_3, bin_add, bin_sub, bin_mul, bin_div, bin_mod, bin_pow, bin_shl, bin_shr, bin_and, bin_addL, bin_addT, aug_add, aug_sub, aug_mul, cmp_lt, cmp_le, cmp_gt, cmp_ge, cmp_is, cmp_isnt, cmp_eq, cmp_ne, tst_e, wipe_nil, wipe_cons, asg_one, asg_many, asgs_nil, asgs_cons, seqV_t, itV_t, itV_l, itV_s, itV_x, itV_d, itV_set, chkV_x, chkV_d, keyQ_s, keyQ_i, keyV, dctV_d, dctV_set, dctQC_set, bin_addX, idxV_x, cmp_ltx, esLen_n, esLen_c, isCalk_cl, pickV_n, pickV_l, pickV_r, getD_0, getD_s, isFn_fn, isFnk_fn, mthQ_i, bmP_pop, bmP_ins, bmP_ext, bmV_pop, bmV_popAt, bmV_ins, bmV_ext, dropC_d, cellOf_d, seqV_s, seqV_l, chkV_t, chkV_l, chkV_s, chkV_a, callG_fn, isCal_fn, isCal_cls, isCalk_fn, callK_fn, frz_nil, puSp_run, bf_len, bf_abs, bf_int, bf_intb, bf_tupT, bf_tupL, bf_listL, bf_listT, bf_min2, bf_max2, bf_isi, slc_l, slc_t, slc_s, fld_i, setB, tabA_hit, isi_tt, isi_ti, isi_ii, isi_it, isi_ib, isi_bi, isi_bb, isi_ss, Cxt.nox, natI_0, natI_1, natI_2, natI_3, natI_4, natI_5, natI_6, natI_7, Bool.not_true, Bool.not_false, decide_true, decide_false, Bool.false_eq_true, if_true, if_false, celQ_set, idxV_set, Sto.set_set, ixN_30, ixN_31, ixN_32, enumV_n, enumV_c, zipV_n, zipV_c, objQ_set, isNon_n, isNon_t, isNon_i, setC_l, dropC_n, dropC_s, dropC_a, cellOf_0, cellOf_s, cellOf_n, frz_cons, frz1_s, frz1_n, sbst_t, sbst_l, sbst_i, sbst_b, sbst_non, sbst_str, sbst_a, sbsts_n, sbsts_c, bin_addLA_set, lenV_set, seqV_set, bf_tupA_set, bmP_app, bmV_app, bf_sum_set, bf_sum_l, asInts_n, asInts_c, Option.map_some, sz_0, sz_1, sz_2, sz_3, sz_4, sz_5, sz_6, sz_7, List.map_cons, List.map_nil, List.length_cons, List.length_nil, List.cons_append, List.nil_append, List.append_nil, List.drop_nil, List.set_cons_zero, List.set_cons_succ, List.replicate_succ, List.replicate_zero, Nat.reduceSub, Nat.reduceAdd, decide_eq_true_eq, true_and, and_true])
def sp_Book_check_new (CB C : Addr) : ISp where
  run := fun vs S Q _ => ∃ (b q : Addr) (e : E3) (rs : List Rw) (m : Nat) (n : Str), vs = [.adr b, .str n] ∧ Bk CB C S b q e rs m ∧ Nam n ∧ n ∉ rs.map Prod.fst ∧ Q .non S
  mono := fun hQ _ ⟨b, q, e, rs, m, n, h1, h2, h3, h4, h5⟩ => ⟨b, q, e, rs, m, n, h1, h2, h3, h4, hQ _ _ h5⟩
theorem hsp_Book_check_new {CB C : Addr} {D : Nat → Li.G} {A : Addr → Str → Prop} (hA : ∀ f ∈ bkF, A CB f) (vs : List Val) (S : Sto) (Q : VQ) (R : EQ) (hl : vs.length = 2) (h : (sp_Book_check_new CB C).run vs S Q R) : evD { D := D, A := A, er := R } Pt.b_Book.check_new 3 [] vs S Q := by
  obtain ⟨b, q, e, rs, m, n, rfl, hB, hn, hm, hQ⟩ := h
  unfold Pt.b_Book.check_new
  walk_at "li"
  rw [hB.rows hA]
  walk_at "li"
  refine compL_mapA (f := fun r : Rw => Val.str r.1) trivial (by
    have := hB.n24
    have := (show sizeLine = 16777216 from sizeLine_eq)
    simp only [List.length_nil]
    omega) (fun r hr k hk => ?_) ?_
  · unfold rwV
    walk_at "li"
    exact hk
  · have e1 : [] ++ rs.map (fun r : Rw => Val.str r.1) = (rs.map Prod.fst).map Val.str := by
      rw [List.nil_append, List.map_map]
      rfl
    rw [e1, cmp_inL hn.ok fun x hx => by
      obtain ⟨r, hr, e⟩ := List.mem_map.mp hx
      rw [← e]
      exact (hB.nam r hr).ok]
    walk_at "li"
    rw [if_neg hm]
    exact hQ
end Li
set_option Elab.async false
set_option linter.all false
set_option maxRecDepth 100000
set_option maxHeartbeats 2000000
/-! Bk2: Books: deeds and questions. -/
namespace Li
open PySem
local macro_rules | `(tactic| walk_at "li") => `(tactic| simp only [evD, evSs, evS, evE, evEs, evI, evO, evIt, slotQ_0, slotQ_s, cloQ_0, cloQ_s, capQ_nil, capQ_cons, intQ_i, adrQ_a, lstQ_l, tupQ_t, dctQ_d, optQ_s, gvalQ_v, brV_s, asL_l, truV_b, truV_n, truV_i, lenV_t, lenV_s, lenV_l, idxV_t, idxV_s, idxV_l, atI_0, atI_1, atI_2, atI_3, bin_add, bin_sub, bin_mul, bin_div, bin_mod, bin_pow, bin_shl, bin_shr, bin_and, bin_addL, bin_addT, aug_add, aug_sub, aug_mul, cmp_lt, cmp_le, cmp_gt, cmp_ge, cmp_is, cmp_isnt, cmp_eq, cmp_ne, tst_e, wipe_nil, wipe_cons, asg_one, asg_many, asgs_nil, asgs_cons, seqV_t, itV_t, itV_l, itV_s, itV_x, itV_d, itV_set, chkV_x, chkV_d, keyQ_s, keyQ_i, keyV, dctV_d, dctV_set, dctQC_set, bin_addX, idxV_x, cmp_ltx, esLen_n, esLen_c, isCalk_cl, pickV_n, pickV_l, pickV_r, getD_0, getD_s, isFn_fn, isFnk_fn, mthQ_i, bmP_pop, bmP_ins, bmP_ext, bmV_pop, bmV_popAt, bmV_ins, bmV_ext, dropC_d, cellOf_d, seqV_s, seqV_l, chkV_t, chkV_l, chkV_s, chkV_a, callG_fn, isCal_fn, isCal_cls, isCalk_fn, callK_fn, frz_nil, puSp_run, bf_len, bf_abs, bf_int, bf_intb, bf_tupT, bf_tupL, bf_listL, bf_listT, bf_min2, bf_max2, bf_isi, slc_l, slc_t, slc_s, fld_i, setB, tabA_hit, isi_tt, isi_ti, isi_ii, isi_it, isi_ib, isi_bi, isi_bb, isi_ss, Cxt.nox, natI_0, natI_1, natI_2, natI_3, natI_4, natI_5, natI_6, natI_7, Bool.not_true, Bool.not_false, decide_true, decide_false, Bool.false_eq_true, if_true, if_false, celQ_set, idxV_set, Sto.set_set, ixN_30, ixN_31, ixN_32, enumV_n, enumV_c, zipV_n, zipV_c, objQ_set, isNon_n, isNon_t, isNon_i, setC_l, dropC_n, dropC_s, dropC_a, cellOf_0, cellOf_s, cellOf_n, frz_cons, frz1_s, frz1_n, sbst_t, sbst_l, sbst_i, sbst_b, sbst_non, sbst_str, sbst_a, sbsts_n, sbsts_c, bin_addLA_set, lenV_set, seqV_set, bf_tupA_set, bmP_app, bmV_app, bf_sum_set, bf_sum_l, asInts_n, asInts_c, Option.map_some, sz_0, sz_1, sz_2, sz_3, sz_4, sz_5, sz_6, sz_7, List.map_cons, List.map_nil, List.length_cons, List.length_nil, List.cons_append, List.nil_append, List.append_nil, List.drop_nil, List.set_cons_zero, List.set_cons_succ, List.replicate_succ, List.replicate_zero, Nat.reduceSub, Nat.reduceAdd, decide_eq_true_eq, true_and, and_true])
theorem no_look {m : Str} {a b c : Val} (h : m ∉ bkF) : ([(("eye" : Str), a), (("rows" : Str), b), (("past" : Str), c)] : List (Str × Val)).lookup m = none := by
  simp only [bkF, List.mem_cons, List.not_mem_nil, or_false, not_or] at h
  have e : ∀ {x : Str}, ¬ m = x → (m == x) = false := fun z => by simpa using z
  rw [List.lookup_cons, e h.1]
  show List.lookup _ _ = _
  rw [List.lookup_cons, e h.2.1]
  show List.lookup _ _ = _
  rw [List.lookup_cons, e h.2.2]
  rfl
section
variable {CB C : Addr} {S : Sto} {b q : Addr} {e : E3} {rs : List Rw} {m : Nat} {A : Addr → Str → Prop} {Q : Val → Prop}
theorem Bk.mth (h : Bk CB C S b q e rs m) {D : Nat → Li.G} {A : Addr → Str → Prop} {er : EQ} {L : Nat → LF} {M : Addr → Str → List Str → Li.G} {g : Li.G} {n : Str} {ks : List Str} {P : Li.G → Prop} (hn : n ∉ bkF) (hm : M CB n ks = g) : mthQ ⟨D, A, er, L, M⟩ S n ks P (.adr b) = P g := by
  rw [mthQ_a h.ob, no_look hn]
  show (none = none ∧ P (M CB n ks)) = _
  rw [hm]
  simp
theorem Bk.objq (h : Bk CB C S b q e rs m) {P : Addr → List (Str × Val) → Prop} : objQ S b P = P CB [(("eye" : Str), eyV e), (("rows" : Str), .lst (rs.map (rwV C))), (("past" : Str), .adr q)] := objQ_h h.ob
end
theorem Ins2.trans {S S1 S2 : Sto} {b q : Addr} (h : Ins2 S S1 b q) (g : Ins2 S1 S2 b q) : Ins2 S S2 b q := fun a h1 h2 => (g a h1 h2).trans (h a h1 h2)
/-! ### turn_to -/
def sp_Book_turn_to (CB C : Addr) : ISp where
  run := fun vs S Q _ => ∃ (b q : Addr) (e : E3) (rs us : List Rw) (m : Nat), vs = [.adr b, .lst (us.map (rwV C))] ∧ Bk CB C S b q e rs m ∧ m < 1000000 ∧ us.length ≤ 24 ∧ (∀ r ∈ us, Nam r.1) ∧ (us.map Prod.fst).Nodup ∧ (∀ r ∈ us, In3 r.2) ∧ ∀ S', Bk CB C S' b q e us (m + 1) → Ins2 S S' b q → Q .non S'
  mono := fun hQ _ ⟨b, q, e, rs, us, m, h1, h2, h3, h4, h5, h6, h7, h8⟩ => ⟨b, q, e, rs, us, m, h1, h2, h3, h4, h5, h6, h7, fun S' z1 z2 => hQ _ _ (h8 S' z1 z2)⟩
theorem putV_rows {a b c v : Val} : putV ("rows" : Str) v [(("eye" : Str), a), (("rows" : Str), b), (("past" : Str), c)] = [(("eye" : Str), a), (("rows" : Str), v), (("past" : Str), c)] := by
  rw [putV, if_neg (by decide), putV, if_pos rfl]
theorem hsp_Book_turn_to {CB C : Addr} {D : Nat → Li.G} {A : Addr → Str → Prop} (hA : ∀ f ∈ bkF, A CB f) (vs : List Val) (S : Sto) (Q : VQ) (R : EQ) (hl : vs.length = 2) (h : (sp_Book_turn_to CB C).run vs S Q R) : evD { D := D, A := A, er := R } Pt.b_Book.turn_to 2 [] vs S Q := by
  obtain ⟨b, q, e, rs, us, m, rfl, hB, hm, h24, hn, hd, hi, hQ⟩ := h
  obtain ⟨hs, hq, hsl⟩ := hB.pa
  unfold Pt.b_Book.turn_to
  walk_at "li"
  rw [hB.past hA, hB.rows hA]
  walk_at "li"
  rw [celQ_h hq]
  walk_at "li"
  rw [celQ_h hq]
  have ob2 : (S.set q (.lst (hs ++ [.lst (rs.map (rwV C))]))) b = some (.obj CB [(("eye" : Str), eyV e), (("rows" : Str), .lst (rs.map (rwV C))), (("past" : Str), .adr q)]) := by
    rw [Sto.set_ne hB.ne]
    exact hB.ob
  rw [objQ_h ob2, putV_rows]
  refine ⟨?_, hA _ (by simp [bkF]), by simp, hQ _ ⟨hB.ne, Sto.set_same, ⟨hs ++ [.lst (rs.map (rwV C))], ?_, by rw [List.length_append]; simp; omega⟩, h24, hn, hd, hi, hB.ey⟩ fun a h1 h2 => by rw [Sto.set_ne h1, Sto.set_ne h2]⟩
  · rw [show sizeLine = 16777216 from sizeLine_eq]
    omega
  · rw [Sto.set_ne (fun z => hB.ne z.symm), Sto.set_same]
/-! ### deeds -/
theorem rw_append {C : Addr} {rs : List Rw} {n : Str} {t : T3} : rs.map (rwV C) ++ [.tup [.str n, shV C t]] = (rs ++ [(n, t)]).map (rwV C) := by
  rw [List.map_append]
  rfl
theorem sz24 {n : Nat} (h : n ≤ 60) : n ≤ sizeLine := by
  rw [show sizeLine = 16777216 from sizeLine_eq]
  omega
def sp_Book_put (CB C : Addr) : ISp where
  run := fun vs S Q _ => ∃ (b q : Addr) (e : E3) (rs : List Rw) (m : Nat) (n : Str) (t : T3), vs = [.adr b, .str n, shV C t] ∧ Bk CB C S b q e rs m ∧ m < 1000000 ∧ rs.length < 24 ∧ Nam n ∧ n ∉ rs.map Prod.fst ∧ In3 t ∧ ∀ S', Bk CB C S' b q e (rs ++ [(n, t)]) (m + 1) → Ins2 S S' b q → Q .non S'
  mono := fun hQ _ ⟨b, q, e, rs, m, n, t, h1, h2, h3, h4, h5, h6, h7, h8⟩ => ⟨b, q, e, rs, m, n, t, h1, h2, h3, h4, h5, h6, h7, fun S' z1 z2 => hQ _ _ (h8 S' z1 z2)⟩
theorem hsp_Book_put {CB C : Addr} {D : Nat → Li.G} {A : Addr → Str → Prop} {M : Addr → Str → List Str → Li.G} (h25 : D 25 = .fn (sp_check_shade C) 1 []) (h33 : D 33 = .val (.int 24)) (h37 : D 37 = .fn sp_check_name 1 []) (hA : ∀ f ∈ bkF, A CB f) (m1 : M CB ("check_new" : Str) [] = .fn (sp_Book_check_new CB C) 2 []) (m2 : M CB ("turn_to" : Str) [] = .fn (sp_Book_turn_to CB C) 2 []) (vs : List Val) (S : Sto) (Q : VQ) (R : EQ) (hl : vs.length = 3) (h : (sp_Book_put CB C).run vs S Q R) : evD { D := D, A := A, er := R, M := M } Pt.b_Book.put 3 [] vs S Q := by
  obtain ⟨b, q, e, rs, m, n, t, rfl, hB, hm, h24, hn, hnew, ht, hQ⟩ := h
  unfold Pt.b_Book.put
  walk_at "li"
  rw [h25, h33, h37]
  walk_at "li"
  refine ⟨n, rfl, hn, t, rfl, trivial, ?_⟩
  dsimp only
  rw [hB.mth (by decide) m1]
  walk_at "li"
  refine ⟨b, q, e, rs, m, n, rfl, hB, hn, hnew, ?_⟩
  dsimp only
  try simp only [hB.rows hA]
  walk_at "li"
  rw [List.length_map, if_neg (by omega), hB.mth (by decide) m2]
  walk_at "li"
  rw [rw_append]
  refine ⟨sz24 (by omega), b, q, e, rs, _, m, rfl, hB, hm, by rw [List.length_append]; simp; omega, fun r hr => ?_, ?_, fun r hr => ?_, fun S' z1 z2 => hQ S' z1 z2⟩
  · rcases List.mem_append.mp hr with hr | hr
    · exact hB.nam r hr
    · rw [List.mem_singleton.mp hr]
      exact hn
  · rw [List.map_append]
    refine List.nodup_append.mpr ⟨hB.nod, by simp, fun a ha c hc => ?_⟩
    rw [show [(n, t)].map Prod.fst = [n] from rfl] at hc
    rw [List.mem_singleton.mp hc]
    exact fun z => hnew (z ▸ ha)
  · rcases List.mem_append.mp hr with hr | hr
    · exact hB.in3 r hr
    · rw [List.mem_singleton.mp hr]
      exact ht
theorem cut_to {α : Type} {xs : List α} {k : Nat} (h : k ≤ xs.length) : cut xs none (some (k : Int)) = xs.take k := by
  unfold cut
  have h1 : HT.sIx xs.length xs.length (some (k : Int)) = k := by
    unfold HT.sIx
    simp
    rw [if_neg (by omega)]
    omega
  have h0 : HT.sIx xs.length 0 none = 0 := rfl
  rw [h1, h0]
  simp
theorem cut_from {α : Type} {xs : List α} {k : Nat} (h : k ≤ xs.length) : cut xs (some (k : Int)) none = xs.drop k := by
  unfold cut
  have h1 : HT.sIx xs.length 0 (some (k : Int)) = k := by
    unfold HT.sIx
    simp
    rw [if_neg (by omega)]
    omega
  have h0 : HT.sIx xs.length xs.length none = xs.length := rfl
  rw [h1, h0, List.take_of_length_le (by rw [List.length_drop]; omega)]
theorem plcOf_le {n : Str} {rs : List Rw} (h : n ∈ rs.map Prod.fst) : plcOf n rs < rs.length := plcOf_lt h
def dropR (n : Str) (rs : List Rw) : List Rw := rs.eraseIdx (plcOf n rs)
def sp_Book_drop (CB C : Addr) : ISp where
  run := fun vs S Q _ => ∃ (b q : Addr) (e : E3) (rs : List Rw) (m : Nat) (n : Str), vs = [.adr b, .str n] ∧ Bk CB C S b q e rs m ∧ m < 1000000 ∧ Nam n ∧ n ∈ rs.map Prod.fst ∧ ∀ S', Bk CB C S' b q e (dropR n rs) (m + 1) → Ins2 S S' b q → Q .non S'
  mono := fun hQ _ ⟨b, q, e, rs, m, n, h1, h2, h3, h4, h5, h6⟩ => ⟨b, q, e, rs, m, n, h1, h2, h3, h4, h5, fun S' z1 z2 => hQ _ _ (h6 S' z1 z2)⟩
theorem hsp_Book_drop {CB C : Addr} {D : Nat → Li.G} {A : Addr → Str → Prop} {M : Addr → Str → List Str → Li.G} (hA : ∀ f ∈ bkF, A CB f) (m1 : M CB ("place_of" : Str) [] = .fn (sp_Book_place_of CB C) 2 []) (m2 : M CB ("turn_to" : Str) [] = .fn (sp_Book_turn_to CB C) 2 []) (vs : List Val) (S : Sto) (Q : VQ) (R : EQ) (hl : vs.length = 2) (h : (sp_Book_drop CB C).run vs S Q R) : evD { D := D, A := A, er := R, M := M } Pt.b_Book.drop 3 [] vs S Q := by
  obtain ⟨b, q, e, rs, m, n, rfl, hB, hm, hn, hin, hQ⟩ := h
  have hp := plcOf_le hin
  have h24 := hB.n24
  unfold Pt.b_Book.drop
  walk_at "li"
  rw [hB.mth (by decide) m1]
  walk_at "li"
  refine ⟨b, q, e, rs, m, n, rfl, hB, hn, hin, ?_⟩
  dsimp only
  rw [hB.mth (by decide) m2]
  walk_at "li"
  try simp only [hB.rows hA]
  walk_at "li"
  have e1 : ((plcOf n rs : Nat) : Int) + 1 = ((plcOf n rs + 1 : Nat) : Int) := by omega
  rw [e1, cut_to (by rw [List.length_map]; omega), cut_from (by rw [List.length_map]; omega), ← List.map_take, ← List.map_drop, ← List.map_append, ← List.eraseIdx_eq_take_drop_succ]
  have hsub : (dropR n rs).Sublist rs := List.eraseIdx_sublist _ _
  refine ⟨by simp only [List.length_map, List.length_take, List.length_drop]; exact sz24 (by omega), b, q, e, rs, dropR n rs, m, rfl, hB, hm, Nat.le_trans hsub.length_le h24, fun r hr => hB.nam r (hsub.subset hr), (hsub.map Prod.fst).nodup hB.nod, fun r hr => hB.in3 r (hsub.subset hr), fun S' z1 z2 => hQ S' z1 z2⟩
def renR (n x : Str) (rs : List Rw) : List Rw := match rs[plcOf n rs]? with
  | some r => rs.set (plcOf n rs) (x, r.2)
  | none => rs
theorem renR_eq {n x : Str} {t : T3} {rs : List Rw} (h : rs[plcOf n rs]? = some (n, t)) : renR n x rs = rs.set (plcOf n rs) (x, t) := by
  unfold renR
  rw [h]
theorem take_drop_set {α : Type} {xs : List α} {k : Nat} {y : α} (h : k < xs.length) : xs.take k ++ [y] ++ xs.drop (k + 1) = xs.set k y := by
  rw [List.set_eq_take_append_cons_drop, if_pos h]
  simp
theorem mem_fst_set {rs : List Rw} {k : Nat} {x : Str} {t : T3} {a : Str} (h : a ∈ (rs.set k (x, t)).map Prod.fst) : a = x ∨ a ∈ rs.map Prod.fst := by
  obtain ⟨r, hr, rfl⟩ := List.mem_map.mp h
  rcases List.mem_or_eq_of_mem_set hr with z | z
  · exact .inr (List.mem_map.mpr ⟨r, z, rfl⟩)
  · rw [z]
    exact .inl rfl
theorem nodup_set {rs : List Rw} {x : Str} {t : T3} : ∀ (k : Nat), (rs.map Prod.fst).Nodup → x ∉ rs.map Prod.fst → ((rs.set k (x, t)).map Prod.fst).Nodup := by
  induction rs with
  | nil => exact fun k h _ => h
  | cons r rs ih =>
    intro k h hx
    rw [List.map_cons] at h hx
    obtain ⟨h1, h2⟩ := List.nodup_cons.mp h
    have hx1 : x ≠ r.1 := fun z => hx (by rw [z]; exact List.mem_cons_self)
    have hx2 : x ∉ rs.map Prod.fst := fun z => hx (List.mem_cons_of_mem _ z)
    cases k with
    | zero =>
      rw [List.set_cons_zero, List.map_cons]
      exact List.nodup_cons.mpr ⟨hx2, h2⟩
    | succ k =>
      rw [List.set_cons_succ, List.map_cons]
      refine List.nodup_cons.mpr ⟨fun z => ?_, ih k h2 hx2⟩
      rcases mem_fst_set z with z | z
      · exact hx1 z.symm
      · exact h1 z
def sp_Book_rename (CB C : Addr) : ISp where
  run := fun vs S Q _ => ∃ (b q : Addr) (e : E3) (rs : List Rw) (m : Nat) (n x : Str), vs = [.adr b, .str n, .str x] ∧ Bk CB C S b q e rs m ∧ m < 1000000 ∧ Nam n ∧ n ∈ rs.map Prod.fst ∧ Nam x ∧ x ∉ rs.map Prod.fst ∧ ∀ S', Bk CB C S' b q e (renR n x rs) (m + 1) → Ins2 S S' b q → Q .non S'
  mono := fun hQ _ ⟨b, q, e, rs, m, n, x, h1, h2, h3, h4, h5, h6, h7, h8⟩ => ⟨b, q, e, rs, m, n, x, h1, h2, h3, h4, h5, h6, h7, fun S' z1 z2 => hQ _ _ (h8 S' z1 z2)⟩
theorem hsp_Book_rename {CB C : Addr} {D : Nat → Li.G} {A : Addr → Str → Prop} {M : Addr → Str → List Str → Li.G} (h37 : D 37 = .fn sp_check_name 1 []) (hA : ∀ f ∈ bkF, A CB f) (m1 : M CB ("check_new" : Str) [] = .fn (sp_Book_check_new CB C) 2 []) (m2 : M CB ("place_of" : Str) [] = .fn (sp_Book_place_of CB C) 2 []) (m3 : M CB ("turn_to" : Str) [] = .fn (sp_Book_turn_to CB C) 2 []) (vs : List Val) (S : Sto) (Q : VQ) (R : EQ) (hl : vs.length = 3) (h : (sp_Book_rename CB C).run vs S Q R) : evD { D := D, A := A, er := R, M := M } Pt.b_Book.rename 4 [] vs S Q := by
  obtain ⟨b, q, e, rs, m, n, x, rfl, hB, hm, hn, hin, hx, hnew, hQ⟩ := h
  have hp := plcOf_le hin
  have h24 := hB.n24
  obtain ⟨t, ht⟩ := plcOf_at hin
  rw [renR_eq ht] at hQ
  unfold Pt.b_Book.rename
  walk_at "li"
  rw [h37, hB.mth (by decide) m2]
  walk_at "li"
  refine ⟨b, q, e, rs, m, n, rfl, hB, hn, hin, x, rfl, hx, ?_⟩
  dsimp only
  rw [hB.mth (by decide) m1]
  walk_at "li"
  refine ⟨b, q, e, rs, m, x, rfl, hB, hx, hnew, ?_⟩
  dsimp only
  rw [hB.mth (by decide) m3]
  walk_at "li"
  try simp only [hB.rows hA]
  walk_at "li"
  have e1 : ((plcOf n rs : Nat) : Int) + 1 = ((plcOf n rs + 1 : Nat) : Int) := by omega
  rw [atI_nat (by rw [List.length_map]; exact hp), List.getElem?_map, ht]
  show optQ (some (rwV C (n, t))) _
  unfold rwV
  walk_at "li"
  rw [e1, cut_to (by rw [List.length_map]; omega), cut_from (by rw [List.length_map]; omega), ← List.map_take, ← List.map_drop]
  have e2 : (rs.take (plcOf n rs)).map (fun r : Rw => Val.tup [.str r.1, shV C r.2]) ++ [.tup [.str x, shV C t]] ++ (rs.drop (plcOf n rs + 1)).map (fun r : Rw => Val.tup [.str r.1, shV C r.2]) = (rs.set (plcOf n rs) (x, t)).map (rwV C) := by
    rw [← take_drop_set hp, List.map_append, List.map_append]
    rfl
  rw [e2]
  have hmem : ∀ r ∈ rs.set (plcOf n rs) (x, t), r ∈ rs ∨ r = (x, t) := fun r hr => List.mem_or_eq_of_mem_set hr
  refine ⟨by simp only [List.length_map, List.length_take, List.length_drop]; exact sz24 (by omega), by simp only [List.length_append, List.length_map, List.length_take, List.length_drop, List.length_singleton]; exact sz24 (by omega), b, q, e, rs, _, m, rfl, hB, hm, by rw [List.length_set]; exact h24, fun r hr => ?_, nodup_set _ hB.nod hnew, fun r hr => ?_, fun S' z1 z2 => hQ S' z1 z2⟩
  · rcases hmem r hr with z | z
    · exact hB.nam r z
    · rw [z]
      exact hx
  · rcases hmem r hr with z | z
    · exact hB.in3 r z
    · rw [z]
      exact hB.in3 (n, t) (List.mem_of_getElem? ht)
/-! ### questions -/
def sp_Book_shade (CB C : Addr) : ISp where
  run := fun vs S Q _ => ∃ (b q : Addr) (e : E3) (rs : List Rw) (m : Nat) (n : Str), vs = [.adr b, .str n] ∧ Bk CB C S b q e rs m ∧ Nam n ∧ n ∈ rs.map Prod.fst ∧ ∀ t, rs[plcOf n rs]? = some (n, t) → Q (shV C t) S
  mono := fun hQ _ ⟨b, q, e, rs, m, n, h1, h2, h3, h4, h5⟩ => ⟨b, q, e, rs, m, n, h1, h2, h3, h4, fun t ht => hQ _ _ (h5 t ht)⟩
theorem hsp_Book_shade {CB C : Addr} {D : Nat → Li.G} {A : Addr → Str → Prop} {M : Addr → Str → List Str → Li.G} (hA : ∀ f ∈ bkF, A CB f) (m1 : M CB ("place_of" : Str) [] = .fn (sp_Book_place_of CB C) 2 []) (vs : List Val) (S : Sto) (Q : VQ) (R : EQ) (hl : vs.length = 2) (h : (sp_Book_shade CB C).run vs S Q R) : evD { D := D, A := A, er := R, M := M } Pt.b_Book.shade 2 [] vs S Q := by
  obtain ⟨b, q, e, rs, m, n, rfl, hB, hn, hin, hQ⟩ := h
  have hp := plcOf_le hin
  obtain ⟨t, ht⟩ := plcOf_at hin
  unfold Pt.b_Book.shade
  walk_at "li"
  rw [hB.rows hA, hB.mth (by decide) m1]
  walk_at "li"
  refine ⟨b, q, e, rs, m, n, rfl, hB, hn, hin, ?_⟩
  walk_at "li"
  rw [atI_nat (by rw [List.length_map]; exact hp), List.getElem?_map, ht]
  show optQ (some (rwV C (n, t))) _
  unfold rwV
  walk_at "li"
  exact hQ t ht
def namV (rs : List Rw) : List Val := (rs.map Prod.fst).map Val.str
def sp_Book_names (CB C : Addr) : ISp where
  run := fun vs S Q _ => ∃ (b q : Addr) (e : E3) (rs : List Rw) (m : Nat), vs = [.adr b, .non, .bl false] ∧ Bk CB C S b q e rs m ∧ Q (.tup (namV rs)) S
  mono := fun hQ _ ⟨b, q, e, rs, m, h1, h2, h3⟩ => ⟨b, q, e, rs, m, h1, h2, hQ _ _ h3⟩
theorem hsp_Book_names {CB C : Addr} {D : Nat → Li.G} {A : Addr → Str → Prop} (hA : ∀ f ∈ bkF, A CB f) (vs : List Val) (S : Sto) (Q : VQ) (R : EQ) (hl : vs.length = 3) (h : (sp_Book_names CB C).run vs S Q R) : evD { D := D, A := A, er := R } Pt.b_Book.names 6 [] vs S Q := by
  obtain ⟨b, q, e, rs, m, rfl, hB, hQ⟩ := h
  have h24 := hB.n24
  unfold Pt.b_Book.names
  walk_at "li"
  try simp only [hB.rows hA]
  walk_at "li"
  refine compL_mapA (f := fun r : Rw => Val.str r.1) trivial (by rw [List.length_nil]; exact sz24 (by omega)) (fun r hr k hk => ?_) ?_
  · unfold rwV
    walk_at "li"
    exact hk
  · rw [List.nil_append]
    unfold namV at hQ
    rw [List.map_map] at hQ
    exact hQ
def sp_Book___len__ (CB C : Addr) : ISp where
  run := fun vs S Q _ => ∃ (b q : Addr) (e : E3) (rs : List Rw) (m : Nat), vs = [.adr b] ∧ Bk CB C S b q e rs m ∧ Q (.int rs.length) S
  mono := fun hQ _ ⟨b, q, e, rs, m, h1, h2, h3⟩ => ⟨b, q, e, rs, m, h1, h2, hQ _ _ h3⟩
theorem hsp_Book___len__ {CB C : Addr} {D : Nat → Li.G} {A : Addr → Str → Prop} (hA : ∀ f ∈ bkF, A CB f) (vs : List Val) (S : Sto) (Q : VQ) (R : EQ) (hl : vs.length = 1) (h : (sp_Book___len__ CB C).run vs S Q R) : evD { D := D, A := A, er := R } Pt.b_Book.__len__ 1 [] vs S Q := by
  obtain ⟨b, q, e, rs, m, rfl, hB, hQ⟩ := h
  unfold Pt.b_Book.__len__
  walk_at "li"
  try simp only [hB.rows hA]
  walk_at "li"
  rw [List.length_map]
  exact hQ
def rtV (r : Rw) : Val := .tup [.str r.1, trV r.2]
def sp_rows_of (CB C : Addr) : ISp where
  run := fun vs S Q _ => ∃ (b q : Addr) (e : E3) (rs : List Rw) (m : Nat), vs = [.adr b] ∧ Bk CB C S b q e rs m ∧ Q (.lst (rs.map rtV)) S
  mono := fun hQ _ ⟨b, q, e, rs, m, h1, h2, h3⟩ => ⟨b, q, e, rs, m, h1, h2, hQ _ _ h3⟩
theorem hsp_rows_of {CB C : Addr} {D : Nat → Li.G} {A : Addr → Str → Prop} (h26 : D 26 = .fn (sp_parts_of C) 1 []) (hA : ∀ f ∈ bkF, A CB f) (vs : List Val) (S : Sto) (Q : VQ) (R : EQ) (hl : vs.length = 1) (h : (sp_rows_of CB C).run vs S Q R) : evD { D := D, A := A, er := R } Pt.b_rows_of 3 [] vs S Q := by
  obtain ⟨b, q, e, rs, m, rfl, hB, hQ⟩ := h
  have h24 := hB.n24
  unfold Pt.b_rows_of
  walk_at "li"
  rw [hB.rows hA, h26]
  walk_at "li"
  refine compL_mapA (f := rtV) trivial (by rw [List.length_nil]; exact sz24 (by omega)) (fun r hr k hk => ?_) ?_
  · unfold rwV
    walk_at "li"
    exact ⟨r.2, rfl, trivial, hk⟩
  · rw [List.nil_append]
    exact hQ
def sp_check_book (CB C : Addr) : ISp where
  run := fun vs S Q _ => ∃ (b q : Addr) (e : E3) (rs : List Rw) (m : Nat), vs = [.adr b] ∧ Bk CB C S b q e rs m ∧ Q .non S
  mono := fun hQ _ ⟨b, q, e, rs, m, h1, h2, h3⟩ => ⟨b, q, e, rs, m, h1, h2, hQ _ _ h3⟩
/-! ### a new Book -/
def sp_Book___init__ (CB C : Addr) : ISp where
  run := fun vs S Q _ => ∃ (b : Addr) (v : Val) (e : E3), vs = [.adr b, v] ∧ S b = some (.obj CB []) ∧ EyeArg v e ∧ ∀ q S', S q = none → Bk CB C S' b q e [] 0 → Ins2 S S' b q → Q .non S'
  mono := fun hQ _ ⟨b, v, e, h1, h2, h3, h4⟩ => ⟨b, v, e, h1, h2, h3, fun q S' z1 z2 z3 => hQ _ _ (h4 q S' z1 z2 z3)⟩
theorem hsp_Book___init__ {CB C : Addr} {D : Nat → Li.G} {A : Addr → Str → Prop} (h31 : D 31 = .fn sp_check_eye 1 []) (hA : ∀ f ∈ bkF, A CB f) (vs : List Val) (S : Sto) (Q : VQ) (R : EQ) (hl : vs.length = 2) (h : (sp_Book___init__ CB C).run vs S Q R) : evD { D := D, A := A, er := R } Pt.b_Book.__init__ 2 [] vs S Q := by
  obtain ⟨b, v, e, rfl, hb, hv, hQ⟩ := h
  have a1 := hA ("eye" : Str) (by simp [bkF])
  have a2 := hA ("rows" : Str) (by simp [bkF])
  have a3 := hA ("past" : Str) (by simp [bkF])
  have he : Eye3 e := hv.eye
  unfold Pt.b_Book.__init__
  walk_at "li"
  rw [h31]
  walk_at "li"
  refine ⟨v, e, rfl, hv, ?_⟩
  dsimp only
  rw [objQ_h hb]
  walk_at "li"
  refine ⟨a1, by simp, a2, by simp [putV], fun q hq => ?_⟩
  have nb : b ≠ q := fun z => by
    rw [z, Sto.set_same] at hq
    cases hq
  rw [Sto.set_ne fun z => nb z.symm] at hq
  have p1 : putV ("rows" : Str) (.lst []) (putV ("eye" : Str) (eyV e) []) = [(("eye" : Str), eyV e), (("rows" : Str), .lst [])] := by
    rw [putV, putV, if_neg (by decide), putV]
  have p2 : putV ("past" : Str) (.adr q) [(("eye" : Str), eyV e), (("rows" : Str), .lst [])] = [(("eye" : Str), eyV e), (("rows" : Str), .lst []), (("past" : Str), .adr q)] := by
    rw [putV, if_neg (by decide), putV, if_neg (by decide), putV]
  rw [p1]
  have e1 : (((S.set b (.obj CB [(("eye" : Str), eyV e), (("rows" : Str), .lst [])])).set q (.lst []))) b = some (.obj CB [(("eye" : Str), eyV e), (("rows" : Str), .lst [])]) := by rw [Sto.set_ne nb, Sto.set_same]
  rw [objQ_h e1, p2]
  refine ⟨a3, by simp, hQ q _ hq ⟨nb, Sto.set_same, ⟨[], ?_, Nat.zero_le _⟩, by simp, fun r hr => (nomatch hr), List.nodup_nil, fun r hr => (nomatch hr), he⟩ fun a h1 h2 => by rw [Sto.set_ne h1, Sto.set_ne h2, Sto.set_ne h1]⟩
  rw [Sto.set_ne fun z => nb z.symm, Sto.set_same]
theorem new_Book {CB C : Addr} {v : Val} {e : E3} {S : Sto} {Q : VQ} {er : EQ} (hv : EyeArg v e) (h : ∀ b q S', S b = none → S q = none → Bk CB C S' b q e [] 0 → Ins2 S S' b q → Q (.adr b) S') (x : Addr) (hx : S x = none) :
    (sp_Book___init__ CB C).run [.adr x, v] (S.set x (.obj CB [])) (fun v S' => v = .non ∧ ∃ fs, S' x = some (.obj CB fs) ∧ (if false = true then Q (.ins CB (fs.map (·.1)) (fs.map (·.2))) (S'.del x) else Q (.adr x) S')) er := by
  refine ⟨x, v, e, rfl, Sto.set_same, hv, fun q S' hq hB hI => ⟨rfl, _, hB.ob, ?_⟩⟩
  rw [if_neg (by decide)]
  rw [Sto.set_ne fun z => hB.ne z.symm] at hq
  exact h x q S' hx hq hB fun a h1 h2 => by rw [hI a h1 h2, Sto.set_ne h1]
theorem make_Book {CB C : Addr} {e : E3} {S : Sto} {Q : VQ} {er : EQ} (he : Eye3 e) (h : ∀ b q S', S b = none → S q = none → Bk CB C S' b q e [] 0 → Ins2 S S' b q → Q (.adr b) S') : callG (.cls CB false (sp_Book___init__ CB C) 2 [.non]) [eyV e] 0 S Q er := ⟨rfl, fun x hx => new_Book (.inr ⟨rfl, he⟩) h x hx⟩
theorem make_Book0 {CB C : Addr} {S : Sto} {Q : VQ} {er : EQ} (h : ∀ b q S', S b = none → S q = none → Bk CB C S' b q (1, 1, 1) [] 0 → Ins2 S S' b q → Q (.adr b) S') : callG (.cls CB false (sp_Book___init__ CB C) 2 [.non]) [] 1 S Q er := ⟨rfl, fun x hx => new_Book (.inl ⟨rfl, rfl⟩) h x hx⟩
theorem make_BookK {CB C : Addr} {e : E3} {S : Sto} {Q : VQ} {er : EQ} (he : Eye3 e) (h : ∀ b q S', S b = none → S q = none → Bk CB C S' b q e [] 0 → Ins2 S S' b q → Q (.adr b) S') : callK (.clk CB false (sp_Book___init__ CB C) 2 0 [("eye" : Str)] [.inl 0]) [] [eyV e] S Q er := ⟨rfl, rfl, rfl, fun x hx => new_Book (.inr ⟨rfl, he⟩) h x hx⟩
theorem isi_ca {D : Nat → Li.G} {S : Sto} {g : Nat} {C a : Addr} {fs : List (Str × Val)} {fz : Bool} {sp : ISp} {n : Nat} {dfl : List Val} (h : D g = .cls C fz sp n dfl) (ha : S a = some (.obj C fs)) : isiV D S (.cls g) (.adr a) = some true := by
  show isiC (D g) S _ = _
  rw [h]
  unfold isiC
  show (insA S (.adr a)).bind _ = _
  have e : insA S (.adr a) = some C := by
    show (match S a with
      | some (.obj C _) => some C
      | _ => none) = _
    rw [ha]
  rw [e]
  show (if C = C then some true else none) = _
  rw [if_pos rfl]
theorem hsp_check_book {CB C : Addr} {D : Nat → Li.G} {A : Addr → Str → Prop} (h38 : D 38 = .cls CB false (sp_Book___init__ CB C) 2 [.non]) (vs : List Val) (S : Sto) (Q : VQ) (R : EQ) (hl : vs.length = 1) (h : (sp_check_book CB C).run vs S Q R) : evD { D := D, A := A, er := R } Pt.b_check_book 1 [] vs S Q := by
  obtain ⟨b, q, e, rs, m, rfl, hB, hQ⟩ := h
  unfold Pt.b_check_book
  walk_at "li"
  rw [isi_ca h38 hB.ob]
  walk_at "li"
  exact hQ
end Li
set_option Elab.async false
set_option linter.all false
set_option maxRecDepth 100000
set_option maxHeartbeats 2000000
/-! Dat: plain data: ==, in, sorted. -/
namespace Li
open PySem
/-- data without truths, at most n deep -/
def okD : Nat → Val → Bool
  | _, .int _ => true
  | _, .non => true
  | _, .str x => PyData.strOk x
  | n + 1, .tup vs => vs.all (okD n)
  | n + 1, .lst vs => vs.all (okD n)
  | _, _ => false
theorem okD_up {n m : Nat} (h : n ≤ m) : ∀ {v : Val}, okD n v = true → okD m v = true := by
  induction m generalizing n with
  | zero =>
    obtain rfl : n = 0 := by omega
    exact fun h => h
  | succ m ih =>
    intro v hv
    cases v with
    | tup vs =>
      cases n with
      | zero => cases hv
      | succ n =>
        have hv : vs.all (okD n) = true := hv
        show vs.all (okD m) = true
        rw [List.all_eq_true] at hv ⊢
        exact fun x hx => ih (n := n) (by omega) (hv x hx)
    | lst vs =>
      cases n with
      | zero => cases hv
      | succ n =>
        have hv : vs.all (okD n) = true := hv
        show vs.all (okD m) = true
        rw [List.all_eq_true] at hv ⊢
        exact fun x hx => ih (n := n) (by omega) (hv x hx)
    | int i => rfl
    | non => rfl
    | str x => cases n <;> exact hv
    | _ => cases n <;> cases hv
/-- what a value reads as -/
structure Rd (n : Nat) (v : Val) (d : PyData) : Prop where
  py : toPy0 v = some d
  lay : d.canLay0 = true
  dep : d.depth ≤ n
structure Rds (n : Nat) (vs : List Val) (ds : List PyData) : Prop where
  py : toPys0 vs = some ds
  lay : PyData.canLayAll0 ds = true
  dep : PyData.depthAll ds ≤ n
theorem rds_of {n : Nat} (ih : ∀ v, okD n v = true → ∃ d, Rd n v d) : ∀ vs : List Val, vs.all (okD n) = true → ∃ ds, Rds n vs ds
  | [], _ => ⟨[], by rw [toPys0], rfl, Nat.zero_le _⟩
  | v :: r, h => by
    rw [List.all_cons, Bool.and_eq_true] at h
    obtain ⟨d, h1⟩ := ih v h.1
    obtain ⟨ds, h2⟩ := rds_of ih r h.2
    refine ⟨d :: ds, by rw [toPys0, h1.py, h2.py], ?_, ?_⟩
    · rw [PyData.canLayAll0, h1.lay, h2.lay]
      rfl
    · rw [PyData.depthAll]
      exact Nat.max_le.mpr ⟨h1.dep, h2.dep⟩
theorem rd_of : ∀ {n : Nat} {v : Val}, okD n v = true → ∃ d, Rd n v d
  | n, .int i, _ => ⟨.int i, by rw [toPy0], rfl, by rw [PyData.depth]; exact Nat.zero_le _⟩
  | n, .non, _ => ⟨.none, by rw [toPy0], rfl, by rw [PyData.depth]; exact Nat.zero_le _⟩
  | n, .str x, h => ⟨.str x, by rw [toPy0], by cases n <;> exact h, by rw [PyData.depth]; exact Nat.zero_le _⟩
  | n + 1, .tup vs, h => by
    obtain ⟨ds, q⟩ := rds_of (fun v => rd_of (n := n)) vs h
    refine ⟨.tuple ds, by rw [toPy0, q.py]; rfl, q.lay, ?_⟩
    rw [PyData.depth]
    exact Nat.succ_le_succ q.dep
  | n + 1, .lst vs, h => by
    obtain ⟨ds, q⟩ := rds_of (fun v => rd_of (n := n)) vs h
    refine ⟨.list ds, by rw [toPy0, q.py]; rfl, q.lay, ?_⟩
    rw [PyData.depth]
    exact Nat.succ_le_succ q.dep
  | 0, .tup _, h => nomatch h
  | 0, .lst _, h => nomatch h
  | 0, .bl _, h => nomatch h
  | 0, .adr _, h => nomatch h
  | 0, .scr _, h => nomatch h
  | 0, .ins _ _ _, h => nomatch h
  | 0, .dct _ _, h => nomatch h
  | 0, .clo _ _, h => nomatch h
  | n + 1, .bl _, h => nomatch h
  | n + 1, .adr _, h => nomatch h
  | n + 1, .scr _, h => nomatch h
  | n + 1, .ins _ _ _, h => nomatch h
  | n + 1, .dct _ _, h => nomatch h
  | n + 1, .clo _ _, h => nomatch h
theorem map_some_inv {α β : Type} {f : α → β} {o : Option α} {b : β} (h : o.map f = some b) : ∃ a, o = some a ∧ f a = b := by
  cases o with
  | none => cases h
  | some a => exact ⟨a, rfl, Option.some.inj h⟩
/-- equal as data, equal as values -/
theorem eqs_of {n : Nat} (ih : ∀ v u d e, okD n v = true → okD n u = true → toPy0 v = some d → toPy0 u = some e → (PyData.eqv d e = true ↔ v = u)) : ∀ (vs us : List Val) (ds es : List PyData), vs.all (okD n) = true → us.all (okD n) = true → toPys0 vs = some ds → toPys0 us = some es → (PyData.eqvAll ds es = true ↔ vs = us)
  | [], [], ds, es, _, _, h1, h2 => by
    rw [toPys0] at h1 h2
    cases h1
    cases h2
    simp [PyData.eqvAll]
  | [], u :: us, ds, es, _, h, h1, h2 => by
    rw [List.all_cons, Bool.and_eq_true] at h
    obtain ⟨e, he⟩ := rd_of h.1
    obtain ⟨r, hr⟩ := rds_of (fun v => rd_of) us h.2
    rw [toPys0] at h1
    rw [toPys0, he.py, hr.py] at h2
    cases h1
    cases h2
    simp [PyData.eqvAll]
  | v :: vs, [], ds, es, h, _, h1, h2 => by
    rw [List.all_cons, Bool.and_eq_true] at h
    obtain ⟨e, he⟩ := rd_of h.1
    obtain ⟨r, hr⟩ := rds_of (fun v => rd_of) vs h.2
    rw [toPys0] at h2
    rw [toPys0, he.py, hr.py] at h1
    cases h1
    cases h2
    simp [PyData.eqvAll]
  | v :: vs, u :: us, ds, es, h, g, h1, h2 => by
    rw [List.all_cons, Bool.and_eq_true] at h g
    obtain ⟨d, hd⟩ := rd_of h.1
    obtain ⟨dr, hdr⟩ := rds_of (fun v => rd_of) vs h.2
    obtain ⟨e, he⟩ := rd_of g.1
    obtain ⟨er, her⟩ := rds_of (fun v => rd_of) us g.2
    rw [toPys0, hd.py, hdr.py] at h1
    rw [toPys0, he.py, her.py] at h2
    cases h1
    cases h2
    rw [PyData.eqvAll, Bool.and_eq_true, ih v u d e h.1 g.1 hd.py he.py, eqs_of ih vs us dr er h.2 g.2 hdr.py her.py, List.cons.injEq]
theorem py_int {i : Int} : toPy0 (.int i) = some (.int i) := rfl
theorem py_non : toPy0 .non = some .none := rfl
theorem py_str {x : Str} : toPy0 (.str x) = some (.str x) := rfl
theorem py_tup {vs : List Val} : toPy0 (.tup vs) = (toPys0 vs).map .tuple := rfl
theorem py_lst {vs : List Val} : toPy0 (.lst vs) = (toPys0 vs).map .list := rfl
theorem eq_of : ∀ {n : Nat} {v u : Val} {d e : PyData}, okD n v = true → okD n u = true → toPy0 v = some d → toPy0 u = some e → (PyData.eqv d e = true ↔ v = u) := fun {n} => by
  induction n with
  | zero =>
    intro v u d e hv hu h1 h2
    cases v <;> first | cases hv | skip
    all_goals cases u <;> first | cases hu | skip
    all_goals
      simp only [py_int, py_non, py_str, py_tup, py_lst] at h1 h2
      cases h1
      cases h2
      simp [PyData.eqv]
  | succ n ih =>
    intro v u d e hv hu h1 h2
    cases v <;> first | cases hv | skip
    all_goals cases u <;> first | cases hu | skip
    all_goals
      simp only [py_int, py_non, py_str, py_tup, py_lst] at h1 h2
      first
        | (cases h1; cases h2; simp [PyData.eqv]; done)
        | (cases h1; obtain ⟨es, _, rfl⟩ := map_some_inv h2; simp [PyData.eqv]; done)
        | (obtain ⟨es, _, rfl⟩ := map_some_inv h1; cases h2; simp [PyData.eqv]; done)
        | (obtain ⟨ds, q1, rfl⟩ := map_some_inv h1; obtain ⟨es, q2, rfl⟩ := map_some_inv h2; simp [PyData.eqv]; done)
        | (obtain ⟨ds, q1, rfl⟩ := map_some_inv h1; obtain ⟨es, q2, rfl⟩ := map_some_inv h2; rw [PyData.eqv, eqs_of (n := n) (fun v u d e a b c f => ih a b c f) _ _ _ _ hv hu q1 q2]; simp)
open Classical in
/-- whether two values are one -/
noncomputable def eqB (x y : Val) : Bool := decide (x = y)
open Classical in
theorem eqB_iff {x y : Val} : eqB x y = true ↔ x = y := by
  unfold eqB
  exact decide_eq_true_iff
theorem eqB_self {x : Val} : eqB x x = true := eqB_iff.mpr rfl
theorem eqB_ne {x y : Val} (h : x ≠ y) : eqB x y = false := Bool.eq_false_iff.mpr fun z => h (eqB_iff.mp z)
theorem eqB_of {x y : Val} {p : Prop} [Decidable p] (h : x = y ↔ p) : eqB x y = decide p := by
  by_cases z : p
  · rw [decide_eq_true z]
    exact eqB_iff.mpr (h.mpr z)
  · rw [decide_eq_false z]
    exact eqB_ne fun q => z (h.mp q)
theorem shp_of {n : Nat} {d : PyData} (hn : n ≤ 50) (h1 : d.canLay0 = true) (h2 : d.depth ≤ n) : SeqAt.shaped d = true := by
  unfold SeqAt.shaped
  simp [h1]
  omega
theorem toPy_ok {S : Sto} {n : Nat} {v : Val} (h : okD n v = true) : toPy S v = toPy0 v := by
  cases v with
  | adr a => cases n <;> cases h
  | _ => rfl
theorem eqV_P {S : Sto} {x y : Val} {f : Bool → Bool} {P : Bool → Prop} (hx : okD 50 x = true) (hy : okD 50 y = true) : eqV S f x y P = P (f (eqB x y)) := by
  obtain ⟨d, hd⟩ := rd_of hx
  obtain ⟨e, he⟩ := rd_of hy
  show optQ (toPy S x) (fun d => optQ (toPy S y) fun e => SeqAt.shaped d = true ∧ SeqAt.shaped e = true ∧ P (f (PyData.eqv d e))) = _
  rw [toPy_ok hx, toPy_ok hy, hd.py, he.py]
  show (SeqAt.shaped d = true ∧ SeqAt.shaped e = true ∧ P (f (PyData.eqv d e))) = _
  have q : PyData.eqv d e = eqB x y := by
    rw [Bool.eq_iff_iff, eq_of hx hy hd.py he.py, eqB_iff]
  rw [shp_of (Nat.le_refl 50) hd.lay hd.dep, shp_of (Nat.le_refl 50) he.lay he.dep, q]
  simp
theorem cmp_eqP {S : Sto} {x y : Val} {P : Bool → Prop} (hx : okD 50 x = true) (hy : okD 50 y = true) : cmpV S .Eq x y P = P (eqB x y) := eqV_P (f := id) hx hy
theorem cmp_neP {S : Sto} {x y : Val} {P : Bool → Prop} (hx : okD 50 x = true) (hy : okD 50 y = true) : cmpV S .NotEq x y P = P (!eqB x y) := eqV_P (f := not) hx hy
open Classical in
theorem any_ok {x : Val} {d : PyData} (hx : okD 50 x = true) (hd : toPy0 x = some d) : ∀ {vs : List Val} {ds : List PyData}, vs.all (okD 50) = true → toPys0 vs = some ds → (ds.any fun z => PyData.eqv z d) = decide (x ∈ vs)
  | [], ds, _, h => by
    rw [toPys0] at h
    cases h
    simp
  | v :: r, ds, h, h2 => by
    rw [List.all_cons, Bool.and_eq_true] at h
    obtain ⟨e, he⟩ := rd_of h.1
    obtain ⟨er, her⟩ := rds_of (fun v => rd_of) r h.2
    rw [toPys0, he.py, her.py] at h2
    cases h2
    rw [List.any_cons, any_ok hx hd h.2 her.py]
    rw [Bool.eq_iff_iff, Bool.or_eq_true, eq_of h.1 hx he.py hd, decide_eq_true_iff, decide_eq_true_iff, List.mem_cons]
    constructor
    · rintro (z | z)
      · exact .inl z.symm
      · exact .inr z
    · rintro (z | z)
      · exact .inl z.symm
      · exact .inr z
open Classical in
noncomputable def inB (x : Val) (vs : List Val) : Bool := decide (x ∈ vs)
open Classical in
theorem inB_iff {x : Val} {vs : List Val} : inB x vs = true ↔ x ∈ vs := by
  unfold inB
  exact decide_eq_true_iff
theorem inB_of {x : Val} {vs : List Val} {p : Prop} [Decidable p] (h : x ∈ vs ↔ p) : inB x vs = decide p := by
  rw [Bool.eq_iff_iff, inB_iff, h, decide_eq_true_iff]
theorem all49 {vs : List Val} (h : vs.all (okD 49) = true) : vs.all (okD 50) = true := by
  rw [List.all_eq_true] at h ⊢
  exact fun x hx => okD_up (by decide) (h x hx)
theorem cmp_inT {S : Sto} {x : Val} {vs : List Val} {P : Bool → Prop} (hx : okD 50 x = true) (h : vs.all (okD 49) = true) : cmpV S .In x (.tup vs) P = P (inB x vs) := by
  obtain ⟨d, hd⟩ := rd_of hx
  obtain ⟨ds, hds⟩ := rds_of (fun v => rd_of (n := 49)) vs h
  show optQ (toPy S x) (fun d => optQ (toPy S (.tup vs)) fun e => inD P d e) = _
  rw [toPy_ok hx, hd.py]
  show optQ (toPy0 (.tup vs)) _ = _
  rw [toPy0, hds.py]
  show (SeqAt.shaped d = true ∧ SeqAt.shaped (.tuple ds) = true ∧ P (ds.any fun z => PyData.eqv z d)) = _
  rw [any_ok hx hd.py (all49 h) hds.py, shp_of (Nat.le_refl 50) hd.lay hd.dep, shp_of (n := 50) (Nat.le_refl 50) (by exact hds.lay) (by rw [PyData.depth]; exact Nat.succ_le_succ hds.dep)]
  unfold inB
  simp
theorem cmp_inLs {S : Sto} {x : Val} {vs : List Val} {P : Bool → Prop} (hx : okD 50 x = true) (h : vs.all (okD 49) = true) : cmpV S .In x (.lst vs) P = P (inB x vs) := by
  obtain ⟨d, hd⟩ := rd_of hx
  obtain ⟨ds, hds⟩ := rds_of (fun v => rd_of (n := 49)) vs h
  show optQ (toPy S x) (fun d => optQ (toPy S (.lst vs)) fun e => inD P d e) = _
  rw [toPy_ok hx, hd.py]
  show optQ ((toPys0 vs).map PyData.list) _ = _
  rw [hds.py]
  show (SeqAt.shaped d = true ∧ SeqAt.shaped (.list ds) = true ∧ P (ds.any fun z => PyData.eqv z d)) = _
  rw [any_ok hx hd.py (all49 h) hds.py, shp_of (Nat.le_refl 50) hd.lay hd.dep, shp_of (n := 50) (Nat.le_refl 50) (by exact hds.lay) (by rw [PyData.depth]; exact Nat.succ_le_succ hds.dep)]
  unfold inB
  simp
theorem cmp_ninT {S : Sto} {x : Val} {vs : List Val} {P : Bool → Prop} (hx : okD 50 x = true) (h : vs.all (okD 49) = true) : cmpV S .NotIn x (.tup vs) P = P (!inB x vs) := cmp_inT (P := fun b => P (!b)) hx h
theorem cmp_ninLs {S : Sto} {x : Val} {vs : List Val} {P : Bool → Prop} (hx : okD 50 x = true) (h : vs.all (okD 49) = true) : cmpV S .NotIn x (.lst vs) P = P (!inB x vs) := cmp_inLs (P := fun b => P (!b)) hx h
theorem eqV_aP {S : Sto} {a : Addr} {vs us : List Val} {f : Bool → Bool} {P : Bool → Prop} (ha : S a = some (.lst vs)) (hx : okD 50 (.lst vs) = true) (hy : okD 50 (.lst us) = true) : eqV S f (.adr a) (.lst us) P = P (f (eqB (.lst vs) (.lst us))) := by
  rw [← eqV_P (S := S) (f := f) (P := P) hx hy]
  have e : toPy S (.adr a) = toPy S (.lst vs) := by
    show (match S a with
    | some (.lst vs) => (toPys0 vs).map .list
    | _ => none) = toPy0 (.lst vs)
    rw [ha, toPy0]
  unfold eqV
  rw [e]
theorem cmp_eqA {S : Sto} {a : Addr} {vs us : List Val} {P : Bool → Prop} (ha : S a = some (.lst vs)) (hx : okD 50 (.lst vs) = true) (hy : okD 50 (.lst us) = true) : cmpV S .Eq (.adr a) (.lst us) P = P (eqB (.lst vs) (.lst us)) := eqV_aP (f := id) ha hx hy
theorem cmp_neA {S : Sto} {a : Addr} {vs us : List Val} {P : Bool → Prop} (ha : S a = some (.lst vs)) (hx : okD 50 (.lst vs) = true) (hy : okD 50 (.lst us) = true) : cmpV S .NotEq (.adr a) (.lst us) P = P (!eqB (.lst vs) (.lst us)) := eqV_aP (f := not) ha hx hy
/-! ### sorted -/
theorem srtD_map {α : Type} {g : α → Val} {enc : α → PyData} {xs : List α} : srtD (xs.map g) (xs.map enc) = (xs.mergeSort (PySem.W.dataLe false enc)).map g := by
  unfold srtD
  rw [List.zip_map', ← List.map_mergeSort (f := fun x => (g x, enc x)) (s := PySem.W.dataLe false Prod.snd) (r := PySem.W.dataLe false enc) (fun a _ b _ => rfl), List.map_map]
  rfl
theorem toPys0_map {α : Type} {g : α → Val} {enc : α → PyData} : ∀ {xs : List α}, (∀ x ∈ xs, toPy0 (g x) = some (enc x)) → toPys0 (xs.map g) = some (xs.map enc)
  | [], _ => by
    rw [List.map_nil, toPys0]
    rfl
  | x :: r, h => by rw [List.map_cons, toPys0, h x List.mem_cons_self, toPys0_map fun y hy => h y (List.mem_cons_of_mem _ hy)]; rfl
/-- sorted(..) of things that read as alike data -/
theorem bf_srt {α : Type} {g : α → Val} {enc : α → PyData} {xs : List α} {D : Nat → Li.G} {S : Sto} {x : Val} {Q : Val → Prop} (hx : asL S x = some (xs.map g)) (h1 : ∀ x ∈ xs, toPy0 (g x) = some (enc x)) (h2 : PySem.W.AllAlike (xs.map enc)) (h3 : PySem.W.Sortable (xs.map enc)) (h4 : xs.length ≤ sizeLine) (h5 : ∀ x ∈ xs, (enc x).depth ≤ 60) (hQ : Q (.lst ((xs.mergeSort (PySem.W.dataLe false enc)).map g))) : bfV D .sorted [x] S Q := by
  rw [bf_sort, hx, optQ_s, toPys0_map h1, optQ_s, srtD_map]
  refine ⟨⟨h2, h3, by rw [List.length_map]; exact h4, fun d hd => ?_⟩, hQ⟩
  obtain ⟨x, hx, rfl⟩ := List.mem_map.mp hd
  exact h5 x hx
/-! ### what holds no cell -/
theorem sbsts_of {a : Addr} {w : Val} {n : Nat} (ih : ∀ v, okD n v = true → sbst a w v = v) : ∀ vs : List Val, vs.all (okD n) = true → sbsts a w vs = vs
  | [], _ => sbsts_n
  | v :: r, h => by
    rw [List.all_cons, Bool.and_eq_true] at h
    rw [sbsts_c, ih v h.1, sbsts_of ih r h.2]
theorem sbst_ok {a : Addr} {w : Val} : ∀ {n : Nat} {v : Val}, okD n v = true → sbst a w v = v := fun {n} => by
  induction n with
  | zero =>
    intro v h
    cases v with
    | int i => exact sbst_i
    | non => exact sbst_non
    | str x => exact sbst_str
    | _ => cases h
  | succ n ih =>
    intro v h
    cases v with
    | int i => exact sbst_i
    | non => exact sbst_non
    | str x => exact sbst_str
    | tup vs => rw [sbst_t, sbsts_of (n := n) (fun v => ih) vs h]
    | lst vs => rw [sbst_l, sbsts_of (n := n) (fun v => ih) vs h]
    | _ => cases h
theorem sbsts_ok {a : Addr} {w : Val} {n : Nat} {vs : List Val} (h : vs.all (okD n) = true) : sbsts a w vs = vs := sbsts_of (n := n) (fun v => sbst_ok) vs h
theorem all_map {α : Type} {g : α → Val} {n : Nat} {xs : List α} (h : ∀ x ∈ xs, okD n (g x) = true) : (xs.map g).all (okD n) = true := by
  rw [List.all_eq_true]
  intro v hv
  obtain ⟨x, hx, rfl⟩ := List.mem_map.mp hv
  exact h x hx
end Li
set_option Elab.async false
set_option linter.all false
set_option maxRecDepth 100000
set_option maxHeartbeats 2000000
/-! Cr: names that are too near. -/
namespace Li
open PySem
local macro_rules | `(tactic| walk_at "li") => `(tactic| simp only [evD, evSs, evS, evE, evEs, evI, evO, evIt, slotQ_0, slotQ_s, cloQ_0, cloQ_s, capQ_nil, capQ_cons, intQ_i, adrQ_a, lstQ_l, tupQ_t, dctQ_d, optQ_s, gvalQ_v, brV_s, asL_l, truV_b, truV_n, truV_i, lenV_t, lenV_s, lenV_l, idxV_t, idxV_s, idxV_l, atI_0, atI_1, atI_2, atI_3, bin_add, bin_sub, bin_mul, bin_div, bin_mod, bin_pow, bin_shl, bin_shr, bin_and, bin_addL, bin_addT, aug_add, aug_sub, aug_mul, cmp_lt, cmp_le, cmp_gt, cmp_ge, cmp_is, cmp_isnt, cmp_eq, cmp_ne, tst_e, wipe_nil, wipe_cons, asg_one, asg_many, asgs_nil, asgs_cons, seqV_t, itV_t, itV_l, itV_s, itV_x, itV_d, itV_set, chkV_x, chkV_d, keyQ_s, keyQ_i, keyV, dctV_d, dctV_set, dctQC_set, bin_addX, idxV_x, cmp_ltx, esLen_n, esLen_c, isCalk_cl, pickV_n, pickV_l, pickV_r, getD_0, getD_s, isFn_fn, isFnk_fn, mthQ_i, bmP_pop, bmP_ins, bmP_ext, bmV_pop, bmV_popAt, bmV_ins, bmV_ext, dropC_d, cellOf_d, seqV_s, seqV_l, chkV_t, chkV_l, chkV_s, chkV_a, callG_fn, isCal_fn, isCal_cls, isCalk_fn, callK_fn, frz_nil, puSp_run, bf_len, bf_abs, bf_int, bf_intb, bf_tupT, bf_tupL, bf_listL, bf_listT, bf_min2, bf_max2, bf_isi, slc_l, slc_t, slc_s, fld_i, setB, tabA_hit, isi_tt, isi_ti, isi_ii, isi_it, isi_ib, isi_bi, isi_bb, isi_ss, Cxt.nox, natI_0, natI_1, natI_2, natI_3, natI_4, natI_5, natI_6, natI_7, Bool.not_true, Bool.not_false, decide_true, decide_false, Bool.false_eq_true, if_true, if_false, celQ_set, idxV_set, Sto.set_set, ixN_30, ixN_31, ixN_32, enumV_n, enumV_c, zipV_n, zipV_c, objQ_set, isNon_n, isNon_t, isNon_i, setC_l, dropC_n, dropC_s, dropC_a, cellOf_0, cellOf_s, cellOf_n, frz_cons, frz1_s, frz1_n, sbst_t, sbst_l, sbst_i, sbst_b, sbst_non, sbst_str, sbst_a, sbsts_n, sbsts_c, bin_addLA_set, lenV_set, seqV_set, bf_tupA_set, bmP_app, bmV_app, bf_sum_set, bf_sum_l, asInts_n, asInts_c, Option.map_some, sz_0, sz_1, sz_2, sz_3, sz_4, sz_5, sz_6, sz_7, List.map_cons, List.map_nil, List.length_cons, List.length_nil, List.cons_append, List.nil_append, List.append_nil, List.drop_nil, List.set_cons_zero, List.set_cons_succ, List.replicate_succ, List.replicate_zero, Nat.reduceSub, Nat.reduceAdd, decide_eq_true_eq, true_and, and_true])
local macro_rules | `(tactic| walk_at "lt") => `(tactic| try simp only [evD, evSs, evS, evE, evEs, evI, evO, evIt, slotQ_0, slotQ_s, cloQ_0, cloQ_s, capQ_nil, capQ_cons, intQ_i, adrQ_a, lstQ_l, tupQ_t, dctQ_d, optQ_s, gvalQ_v, brV_s, asL_l, truV_b, truV_n, truV_i, lenV_t, lenV_s, lenV_l, idxV_t, idxV_s, idxV_l, atI_0, atI_1, atI_2, atI_3, bin_add, bin_sub, bin_mul, bin_div, bin_mod, bin_pow, bin_shl, bin_shr, bin_and, bin_addL, bin_addT, aug_add, aug_sub, aug_mul, cmp_lt, cmp_le, cmp_gt, cmp_ge, cmp_is, cmp_isnt, cmp_eq, cmp_ne, tst_e, wipe_nil, wipe_cons, asg_one, asg_many, asgs_nil, asgs_cons, seqV_t, itV_t, itV_l, itV_s, itV_x, itV_d, itV_set, chkV_x, chkV_d, keyQ_s, keyQ_i, keyV, dctV_d, dctV_set, dctQC_set, bin_addX, idxV_x, cmp_ltx, esLen_n, esLen_c, isCalk_cl, pickV_n, pickV_l, pickV_r, getD_0, getD_s, isFn_fn, isFnk_fn, mthQ_i, bmP_pop, bmP_ins, bmP_ext, bmV_pop, bmV_popAt, bmV_ins, bmV_ext, dropC_d, cellOf_d, seqV_s, seqV_l, chkV_t, chkV_l, chkV_s, chkV_a, callG_fn, isCal_fn, isCal_cls, isCalk_fn, callK_fn, frz_nil, puSp_run, bf_len, bf_abs, bf_int, bf_intb, bf_tupT, bf_tupL, bf_listL, bf_listT, bf_min2, bf_max2, bf_isi, slc_l, slc_t, slc_s, fld_i, setB, tabA_hit, isi_tt, isi_ti, isi_ii, isi_it, isi_ib, isi_bi, isi_bb, isi_ss, Cxt.nox, natI_0, natI_1, natI_2, natI_3, natI_4, natI_5, natI_6, natI_7, Bool.not_true, Bool.not_false, decide_true, decide_false, Bool.false_eq_true, if_true, if_false, celQ_set, idxV_set, Sto.set_set, ixN_30, ixN_31, ixN_32, enumV_n, enumV_c, zipV_n, zipV_c, objQ_set, isNon_n, isNon_t, isNon_i, setC_l, dropC_n, dropC_s, dropC_a, cellOf_0, cellOf_s, cellOf_n, frz_cons, frz1_s, frz1_n, sbst_t, sbst_l, sbst_i, sbst_b, sbst_non, sbst_str, sbst_a, sbsts_n, sbsts_c, bin_addLA_set, lenV_set, seqV_set, bf_tupA_set, bmP_app, bmV_app, bf_sum_set, bf_sum_l, asInts_n, asInts_c, Option.map_some, sz_0, sz_1, sz_2, sz_3, sz_4, sz_5, sz_6, sz_7, List.map_cons, List.map_nil, List.length_cons, List.length_nil, List.cons_append, List.nil_append, List.append_nil, List.drop_nil, List.set_cons_zero, List.set_cons_succ, List.replicate_succ, List.replicate_zero, Nat.reduceSub, Nat.reduceAdd, decide_eq_true_eq, true_and, and_true, cut1_h0, cut1_l1, cut2_h0, cut2_h1, cut2_l1, cut2_l2, cut3_h0, cut3_h1, cut3_h2, cut3_l1, cut3_l2, cut3_l3, cut4_l1, Int.reduceAdd, Int.reduceSub, Int.reduceMod, Int.reduceNeg, compL_cons, compL_nil, forL_cons, forL_nil, rng0, rng1n, rng2, rng3, r62_0, r62_1, r62_2, r62_3, szl_0, szl_1, szl_2, szl_3, szl_4, szl_5, szl_6, szl_7])
/-- a comprehension with an if over things of one kind -/
theorem compL_filA {α : Type} {g : α → Val} {step : Val → Sto → (Option Val → Sto → Prop) → Prop} {chk : Sto → Prop} {S : Sto} (p : α → Bool) (f : α → Val) : ∀ {xs : List α} {acc : List Val} {R : List Val → Sto → Prop}, chk S → acc.length + xs.length ≤ sizeLine → (∀ x ∈ xs, ∀ k : Option Val → Sto → Prop, k (if p x = true then some (f x) else none) S → step (g x) S k) → R (acc ++ (xs.filter p).map f) S → compL step chk (xs.map g) acc S R
  | [], acc, R, hc, hl, hs, hR => ⟨hc, by simpa using hR⟩
  | v :: r, acc, R, hc, hl, hs, hR => by
    rw [List.length_cons] at hl
    rw [List.map_cons]
    refine ⟨hc, hs v List.mem_cons_self _ ?_⟩
    by_cases z : p v = true
    · rw [if_pos z]
      refine ⟨by omega, compL_filA p f hc (by rw [List.length_append]; simp; omega) (fun u hu => hs u (List.mem_cons_of_mem _ hu)) ?_⟩
      rw [List.filter_cons_of_pos z] at hR
      rw [List.append_assoc]
      exact hR
    · rw [if_neg z]
      refine compL_filA p f hc (by omega) (fun u hu => hs u (List.mem_cons_of_mem _ hu)) ?_
      rw [List.filter_cons_of_neg z] at hR
      exact hR
def sp_shares_of (C : Addr) : ISp := puSp (fun t : T3 => [shV C t]) (fun _ => True) trV
theorem hsp_shares_of {C : Addr} {D : Nat → Li.G} {A : Addr → Str → Prop} (h25 : D 25 = .fn (sp_check_shade C) 1 []) (h26 : D 26 = .fn (sp_parts_of C) 1 []) (vs : List Val) (S : Sto) (Q : VQ) (R : EQ) (hl : vs.length = 1) (h : (sp_shares_of C).run vs S Q R) : evD { D := D, A := A, er := R } Pt.b_shares_of 1 [] vs S Q := by
  obtain ⟨t, rfl, -, hQ⟩ := h
  unfold Pt.b_shares_of
  walk_at "li"
  rw [h25, h26]
  walk_at "li"
  exact ⟨t, rfl, trivial, t, rfl, trivial, hQ⟩
def sp_is_less : ISp := puSp (fun p : Rat × Rat => [frV p.1, frV p.2]) (fun p => Pz p.1 p.2) fun p => .bl (decide (p.1 < p.2))
theorem hsp_is_less {D : Nat → Li.G} {A : Addr → Str → Prop} (vs : List Val) (S : Sto) (Q : VQ) (R : EQ) (hl : vs.length = 2) (h : sp_is_less.run vs S Q R) : evD { D := D, A := A, er := R } Pt.b_is_less 2 [] vs S Q := by
  obtain ⟨⟨x, y⟩, rfl, h, hQ⟩ := h
  unfold Pt.b_is_less frV
  walk_at "li"
  refine ⟨h.m1, h.m2, ?_⟩
  have e : decide (x < y) = decide (x.num * (y.den : Int) < y.num * (x.den : Int)) := decide_eq_decide.mpr (Rat.lt_iff x y)
  simp only [e] at hQ
  exact hQ
theorem call_is_less {x y : Rat} {S : Sto} {Q : VQ} {er : EQ} (h : Pz x y) (hQ : Q (.bl (decide (x < y))) S) : sp_is_less.run [frV x, frV y] S Q er := ⟨(x, y), rfl, h, hQ⟩
theorem call_below {x y : Rat} {S : Sto} {Q : VQ} {er : EQ} (h : Pz x y) (hQ : Q (.bl (decide (x < y))) S) : sp__law_below.run [frV x, frV y] S Q er := ⟨(x, y), rfl, h, hQ⟩
/-- 1/1000 and 1000 -/
def milli : Rat := mkRat 1 1000
theorem frV_milli : frV milli = .tup [.int 1, .int 1000] := rfl
theorem frV_mille : frV 1000 = .tup [.int 1000, .int 1] := rfl
/-- a limit -/
structure Lim (l : Rat) : Prop where
  lo : milli ≤ l
  hi : l ≤ 1000
  p1 : Pz l milli
  p2 : Pz 1000 l
def sp_check_limit : ISp := puSp (fun l : Rat => [frV l]) Lim fun _ => .non
theorem hsp_check_limit {D : Nat → Li.G} {A : Addr → Str → Prop} (h15 : D 15 = .fn sp_is_fraction 1 []) (h21 : D 21 = .fn sp_is_less 2 []) (h40 : D 40 = .val (.tup ([1, 1000].map Val.int))) (h41 : D 41 = .val (.tup ([1000, 1].map Val.int))) (vs : List Val) (S : Sto) (Q : VQ) (R : EQ) (hl : vs.length = 1) (h : sp_check_limit.run vs S Q R) : evD { D := D, A := A, er := R } Pt.b_check_limit 1 [] vs S Q := by
  obtain ⟨l, rfl, h, hQ⟩ := h
  unfold Pt.b_check_limit
  walk_at "li"
  rw [h15, h21, h40, h41]
  walk_at "li"
  refine ⟨l, rfl, trivial, ?_⟩
  walk_at "li"
  refine ⟨(l, milli), rfl, h.p1, ?_⟩
  dsimp only
  rw [decide_eq_false (Rat.not_lt.mpr h.lo)]
  walk_at "li"
  refine ⟨(1000, l), rfl, h.p2, ?_⟩
  dsimp only
  rw [decide_eq_false (Rat.not_lt.mpr h.hi)]
  walk_at "li"
  exact hQ
/-- two rows of names that may be told apart -/
def NrOk (e : E3) (l : Rat) (a b : T3) : Prop := DistOk e a b ∧ Pz (dist e a b) l
def sp_is_near : ISp := puSp (fun p : Rw × Rw × E3 × Rat => [rtV p.1, rtV p.2.1, eyV p.2.2.1, frV p.2.2.2]) (fun p => NrOk p.2.2.1 p.2.2.2 p.1.2 p.2.1.2) fun p => .bl (decide (dist p.2.2.1 p.1.2 p.2.1.2 < p.2.2.2))
theorem hsp_is_near {D : Nat → Li.G} {A : Addr → Str → Prop} (h21 : D 21 = .fn sp_is_less 2 []) (h32 : D 32 = .fn sp_far_by 3 []) (vs : List Val) (S : Sto) (Q : VQ) (R : EQ) (hl : vs.length = 4) (h : sp_is_near.run vs S Q R) : evD { D := D, A := A, er := R } Pt.b_is_near 4 [] vs S Q := by
  obtain ⟨⟨r, o, e, l⟩, rfl, h, hQ⟩ := h
  unfold Pt.b_is_near rtV
  walk_at "li"
  rw [h21, h32]
  walk_at "li"
  exact ⟨⟨e, r.2, o.2⟩, rfl, h.1, (_, l), rfl, h.2, hQ⟩
def nearL (e : E3) (l : Rat) (rs : List Rw) (r : Rw) : List Str := (rs.filter fun o => decide (o.1 ≠ r.1) && decide (dist e r.2 o.2 < l)).map Prod.fst
def nearKV (e : E3) (l : Rat) (rs : List Rw) (r : Rw) : L2.Key × Val := (.inr r.1, .lst ((nearL e l rs r).map Val.str))
def nearV (e : E3) (l : Rat) (rs : List Rw) : Val := .dct (rs.map fun r => .inr r.1) (rs.map fun r => .lst ((nearL e l rs r).map Val.str))
def sp_near_names (CB C : Addr) : ISp where
  run := fun vs S Q _ => ∃ (b q : Addr) (e : E3) (rs : List Rw) (m : Nat) (l : Rat), vs = [.adr b, frV l] ∧ Bk CB C S b q e rs m ∧ (∀ r ∈ rs, ∀ o ∈ rs, NrOk e l r.2 o.2) ∧ Q (nearV e l rs) S
  mono := fun hQ _ ⟨b, q, e, rs, m, l, h1, h2, h3, h4⟩ => ⟨b, q, e, rs, m, l, h1, h2, h3, hQ _ _ h4⟩
theorem putKV_new {kvs : List (L2.Key × Val)} {k : L2.Key} {v : Val} (h : ∀ p ∈ kvs, p.1 ≠ k) : putKV kvs k v = kvs ++ [(k, v)] := by
  unfold putKV
  rw [if_neg]
  intro z
  obtain ⟨p, hp, e⟩ := List.any_eq_true.mp z
  exact h p hp (of_decide_eq_true e)
theorem Bk.strs {CB C : Addr} {S : Sto} {b q : Addr} {e : E3} {rs : List Rw} {m : Nat} (h : Bk CB C S b q e rs m) {r : Rw} (hr : r ∈ rs) : PyData.strOk r.1 = true := (h.nam r hr).ok
theorem Bk.keep {CB C : Addr} {S S' : Sto} {b q : Addr} {e : E3} {rs : List Rw} {m : Nat} (h : Bk CB C S b q e rs m) (h1 : S' b = S b) (h2 : S' q = S q) : Bk CB C S' b q e rs m := ⟨h.ne, h1.trans h.ob, by rw [h2]; exact h.pa, h.n24, h.nam, h.nod, h.in3, h.ey⟩
theorem Bk.new {CB C : Addr} {S : Sto} {b q a : Addr} {e : E3} {rs : List Rw} {m : Nat} {c : Cell} (h : Bk CB C S b q e rs m) (ha : S a = none) : Bk CB C (S.set a c) b q e rs m := by
  obtain ⟨hs, hq, _⟩ := h.pa
  refine h.keep (Sto.set_ne fun z => ?_) (Sto.set_ne fun z => ?_)
  · rw [← z, h.ob] at ha
    cases ha
  · rw [← z, hq] at ha
    cases ha
theorem hsp_near_names {CB C : Addr} {D : Nat → Li.G} {A : Addr → Str → Prop} (h39 : D 39 = .fn (sp_rows_of CB C) 1 []) (h44 : D 44 = .fn sp_is_near 4 []) (hA : ∀ f ∈ bkF, A CB f) (vs : List Val) (S : Sto) (Q : VQ) (R : EQ) (hl : vs.length = 2) (h : (sp_near_names CB C).run vs S Q R) : evD { D := D, A := A, er := R } Pt.b_near_names 6 [3] vs S Q := by
  obtain ⟨b, q, e, rs, m, l, rfl, hB, hok, hQ⟩ := h
  have h24 := hB.n24
  unfold Pt.b_near_names
  walk_at "lt"
  rw [h39, h44]
  walk_at "lt"
  refine ⟨b, q, e, rs, m, rfl, hB, fun a ha => ?_⟩
  walk_at "lt"
  refine forL_inv (fun r σ S' => ∃ (pre post : List Rw) (o4 : Option Val), rs = pre ++ post ∧ r = post.map rtV ∧ S' = S.set a (.dK (pre.map (nearKV e l rs))) ∧ σ = [some (.adr b), some (frV l), some (.lst (rs.map rtV)), some (.adr a), o4, none]) (fun _ _ _ _ => trivial) (fun v r σ S' nx h hn => ?_) (fun σ S' h => ?_) ⟨[], rs, none, rfl, rfl, rfl, rfl⟩
  · obtain ⟨pre, post, o4, hrs, hr, rfl, rfl⟩ := h
    cases post with
    | nil => cases hr
    | cons u post =>
      rw [List.map_cons] at hr
      injection hr with hv hr
      subst hv
      have hu : u ∈ rs := by rw [hrs]; simp
      have hB2 : Bk CB C (S.set a (.dK (pre.map (nearKV e l rs)))) b q e rs m := hB.new ha
      walk_at "lt"
      refine compL_filA (fun o : Rw => decide (o.1 ≠ u.1) && decide (dist e u.2 o.2 < l)) (fun o => .str o.1) trivial (by rw [List.length_nil]; exact sz24 (by omega)) (fun o ho k hk => ?_) ?_
      · unfold rtV
        walk_at "lt"
        rw [cmp_nex (hB.strs ho) (hB.strs hu)]
        walk_at "lt"
        by_cases z : o.1 = u.1
        · rw [decide_eq_true z]
          walk_at "lt"
          have : (decide (o.1 ≠ u.1) && decide (dist e u.2 o.2 < l)) = false := by simp [z]
          rw [this] at hk
          exact hk
        · rw [decide_eq_false z]
          walk_at "lt"
          rw [hB2.eye hA]
          refine ⟨⟨u, o, e, l⟩, rfl, hok u hu o ho, ?_⟩
          dsimp only
          have e1 : (decide (o.1 ≠ u.1) && decide (dist e u.2 o.2 < l)) = decide (dist e u.2 o.2 < l) := by simp [z]
          rw [e1] at hk
          by_cases z2 : dist e u.2 o.2 < l
          · rw [decide_eq_true z2] at hk ⊢
            walk_at "lt"
            exact hk
          · rw [decide_eq_false z2] at hk ⊢
            walk_at "lt"
            exact hk
      · unfold rtV
        walk_at "lt"
        have nd := hB.nod
        rw [hrs, List.map_append, List.map_cons] at nd
        have e2 : putKV (pre.map (nearKV e l rs)) (.inr u.1) (.lst ([] ++ (rs.filter fun o => decide (o.1 ≠ u.1) && decide (dist e u.2 o.2 < l)).map fun o => .str o.1)) = (pre ++ [u]).map (nearKV e l rs) := by
          rw [putKV_new fun p hp => ?_, List.map_append]
          · unfold nearKV nearL
            simp only [List.map_cons, List.map_nil, List.nil_append, List.map_map]
            rfl
          · obtain ⟨x, hx, rfl⟩ := List.mem_map.mp hp
            intro z
            have z : x.1 = u.1 := Sum.inr.inj z
            exact (List.nodup_append.mp nd).2.2 _ (List.mem_map.mpr ⟨x, hx, rfl⟩) _ List.mem_cons_self z
        simp only [List.nil_append] at e2
        have hlen : rs.length = pre.length + (post.length + 1) := by rw [hrs]; simp
        refine ⟨by rw [List.length_map]; exact Nat.lt_of_lt_of_le (show pre.length < 60 by omega) (by rw [show sizeLine = 16777216 from sizeLine_eq]; omega), hn _ _ ⟨pre ++ [u], post, _, by rw [hrs]; simp, hr, ?_, rfl⟩⟩
        rw [e2]
  · obtain ⟨pre, post, o4, hrs, hr, rfl, rfl⟩ := h
    obtain rfl : post = [] := by
      cases post with
      | nil => rfl
      | cons u p => cases hr
    rw [List.append_nil] at hrs
    subst hrs
    walk_at "lt"
    rw [Sto.set_del ha]
    unfold nearV at hQ
    simp only [List.map_map]
    exact hQ
end Li
set_option Elab.async false
set_option linter.all false
set_option maxRecDepth 100000
set_option maxHeartbeats 2000000
/-! Cr2: pairs of names that are too near. -/
namespace Li
open PySem
local macro_rules | `(tactic| walk_at "li") => `(tactic| simp only [evD, evSs, evS, evE, evEs, evI, evO, evIt, slotQ_0, slotQ_s, cloQ_0, cloQ_s, capQ_nil, capQ_cons, intQ_i, adrQ_a, lstQ_l, tupQ_t, dctQ_d, optQ_s, gvalQ_v, brV_s, asL_l, truV_b, truV_n, truV_i, lenV_t, lenV_s, lenV_l, idxV_t, idxV_s, idxV_l, atI_0, atI_1, atI_2, atI_3, bin_add, bin_sub, bin_mul, bin_div, bin_mod, bin_pow, bin_shl, bin_shr, bin_and, bin_addL, bin_addT, aug_add, aug_sub, aug_mul, cmp_lt, cmp_le, cmp_gt, cmp_ge, cmp_is, cmp_isnt, cmp_eq, cmp_ne, tst_e, wipe_nil, wipe_cons, asg_one, asg_many, asgs_nil, asgs_cons, seqV_t, itV_t, itV_l, itV_s, itV_x, itV_d, itV_set, chkV_x, chkV_d, keyQ_s, keyQ_i, keyV, dctV_d, dctV_set, dctQC_set, bin_addX, idxV_x, cmp_ltx, esLen_n, esLen_c, isCalk_cl, pickV_n, pickV_l, pickV_r, getD_0, getD_s, isFn_fn, isFnk_fn, mthQ_i, bmP_pop, bmP_ins, bmP_ext, bmV_pop, bmV_popAt, bmV_ins, bmV_ext, dropC_d, cellOf_d, seqV_s, seqV_l, chkV_t, chkV_l, chkV_s, chkV_a, callG_fn, isCal_fn, isCal_cls, isCalk_fn, callK_fn, frz_nil, puSp_run, bf_len, bf_abs, bf_int, bf_intb, bf_tupT, bf_tupL, bf_listL, bf_listT, bf_min2, bf_max2, bf_isi, slc_l, slc_t, slc_s, fld_i, setB, tabA_hit, isi_tt, isi_ti, isi_ii, isi_it, isi_ib, isi_bi, isi_bb, isi_ss, Cxt.nox, natI_0, natI_1, natI_2, natI_3, natI_4, natI_5, natI_6, natI_7, Bool.not_true, Bool.not_false, decide_true, decide_false, Bool.false_eq_true, if_true, if_false, celQ_set, idxV_set, Sto.set_set, ixN_30, ixN_31, ixN_32, enumV_n, enumV_c, zipV_n, zipV_c, objQ_set, isNon_n, isNon_t, isNon_i, setC_l, dropC_n, dropC_s, dropC_a, cellOf_0, cellOf_s, cellOf_n, frz_cons, frz1_s, frz1_n, sbst_t, sbst_l, sbst_i, sbst_b, sbst_non, sbst_str, sbst_a, sbsts_n, sbsts_c, bin_addLA_set, lenV_set, seqV_set, bf_tupA_set, bmP_app, bmV_app, bf_sum_set, bf_sum_l, asInts_n, asInts_c, Option.map_some, sz_0, sz_1, sz_2, sz_3, sz_4, sz_5, sz_6, sz_7, List.map_cons, List.map_nil, List.length_cons, List.length_nil, List.cons_append, List.nil_append, List.append_nil, List.drop_nil, List.set_cons_zero, List.set_cons_succ, List.replicate_succ, List.replicate_zero, Nat.reduceSub, Nat.reduceAdd, decide_eq_true_eq, true_and, and_true])
local macro_rules | `(tactic| walk_at "lt") => `(tactic| try simp only [evD, evSs, evS, evE, evEs, evI, evO, evIt, slotQ_0, slotQ_s, cloQ_0, cloQ_s, capQ_nil, capQ_cons, intQ_i, adrQ_a, lstQ_l, tupQ_t, dctQ_d, optQ_s, gvalQ_v, brV_s, asL_l, truV_b, truV_n, truV_i, lenV_t, lenV_s, lenV_l, idxV_t, idxV_s, idxV_l, atI_0, atI_1, atI_2, atI_3, bin_add, bin_sub, bin_mul, bin_div, bin_mod, bin_pow, bin_shl, bin_shr, bin_and, bin_addL, bin_addT, aug_add, aug_sub, aug_mul, cmp_lt, cmp_le, cmp_gt, cmp_ge, cmp_is, cmp_isnt, cmp_eq, cmp_ne, tst_e, wipe_nil, wipe_cons, asg_one, asg_many, asgs_nil, asgs_cons, seqV_t, itV_t, itV_l, itV_s, itV_x, itV_d, itV_set, chkV_x, chkV_d, keyQ_s, keyQ_i, keyV, dctV_d, dctV_set, dctQC_set, bin_addX, idxV_x, cmp_ltx, esLen_n, esLen_c, isCalk_cl, pickV_n, pickV_l, pickV_r, getD_0, getD_s, isFn_fn, isFnk_fn, mthQ_i, bmP_pop, bmP_ins, bmP_ext, bmV_pop, bmV_popAt, bmV_ins, bmV_ext, dropC_d, cellOf_d, seqV_s, seqV_l, chkV_t, chkV_l, chkV_s, chkV_a, callG_fn, isCal_fn, isCal_cls, isCalk_fn, callK_fn, frz_nil, puSp_run, bf_len, bf_abs, bf_int, bf_intb, bf_tupT, bf_tupL, bf_listL, bf_listT, bf_min2, bf_max2, bf_isi, slc_l, slc_t, slc_s, fld_i, setB, tabA_hit, isi_tt, isi_ti, isi_ii, isi_it, isi_ib, isi_bi, isi_bb, isi_ss, Cxt.nox, natI_0, natI_1, natI_2, natI_3, natI_4, natI_5, natI_6, natI_7, Bool.not_true, Bool.not_false, decide_true, decide_false, Bool.false_eq_true, if_true, if_false, celQ_set, idxV_set, Sto.set_set, ixN_30, ixN_31, ixN_32, enumV_n, enumV_c, zipV_n, zipV_c, objQ_set, isNon_n, isNon_t, isNon_i, setC_l, dropC_n, dropC_s, dropC_a, cellOf_0, cellOf_s, cellOf_n, frz_cons, frz1_s, frz1_n, sbst_t, sbst_l, sbst_i, sbst_b, sbst_non, sbst_str, sbst_a, sbsts_n, sbsts_c, bin_addLA_set, lenV_set, seqV_set, bf_tupA_set, bmP_app, bmV_app, bf_sum_set, bf_sum_l, asInts_n, asInts_c, Option.map_some, sz_0, sz_1, sz_2, sz_3, sz_4, sz_5, sz_6, sz_7, List.map_cons, List.map_nil, List.length_cons, List.length_nil, List.cons_append, List.nil_append, List.append_nil, List.drop_nil, List.set_cons_zero, List.set_cons_succ, List.replicate_succ, List.replicate_zero, Nat.reduceSub, Nat.reduceAdd, decide_eq_true_eq, true_and, and_true, cut1_h0, cut1_l1, cut2_h0, cut2_h1, cut2_l1, cut2_l2, cut3_h0, cut3_h1, cut3_h2, cut3_l1, cut3_l2, cut3_l3, cut4_l1, Int.reduceAdd, Int.reduceSub, Int.reduceMod, Int.reduceNeg, compL_cons, compL_nil, forL_cons, forL_nil, rng0, rng1n, rng2, rng3, r62_0, r62_1, r62_2, r62_3, szl_0, szl_1, szl_2, szl_3, szl_4, szl_5, szl_6, szl_7])
def ltS (a b : Str) : Bool := decide (a.cps.toList < b.cps.toList)
theorem ltS_irr (a : Str) : ltS a a = false := by
  unfold ltS
  exact decide_eq_false (List.lt_irrefl _)
/-- all pairs that are too near, in the rows' turn -/
def prsL (e : E3) (l : Rat) (rs : List Rw) : List (Str × Str) := rs.flatMap fun r => (rs.filter fun o => ltS r.1 o.1 && decide (dist e r.2 o.2 < l)).map fun o => (r.1, o.1)
def prV (p : Str × Str) : Val := .tup [.str p.1, .str p.2]
def prD (p : Str × Str) : PyData := .tuple [.str p.1, .str p.2]
def prsS (e : E3) (l : Rat) (rs : List Rw) : List (Str × Str) := (prsL e l rs).mergeSort (PySem.W.dataLe false prD)
theorem near_prs {e : E3} {l : Rat} {rs : List Rw} {r : Rw} : ((nearL e l rs r).filter fun n => ltS r.1 n).map (fun n => (r.1, n)) = (rs.filter fun o => ltS r.1 o.1 && decide (dist e r.2 o.2 < l)).map fun o => (r.1, o.1) := by
  unfold nearL
  rw [List.filter_map, List.map_map, List.filter_filter]
  have e1 : (rs.filter fun o => ((fun n => ltS r.1 n) ∘ Prod.fst) o && (decide (o.1 ≠ r.1) && decide (dist e r.2 o.2 < l))) = rs.filter fun o => ltS r.1 o.1 && decide (dist e r.2 o.2 < l) := by
    refine List.filter_congr fun o ho => ?_
    show (ltS r.1 o.1 && (decide (o.1 ≠ r.1) && decide (dist e r.2 o.2 < l))) = _
    by_cases z : o.1 = r.1
    · rw [z, ltS_irr]
      rfl
    · simp [z]
  rw [e1]
  rfl
theorem prs_len {e : E3} {l : Rat} {rs : List Rw} (h : rs.length ≤ 24) : ∀ (us : List Rw), (us.flatMap fun r => (rs.filter fun o => ltS r.1 o.1 && decide (dist e r.2 o.2 < l)).map fun o => (r.1, o.1)).length ≤ us.length * 24
  | [] => Nat.zero_le _
  | u :: us => by
    have h1 := prs_len (e := e) (l := l) h us
    have h2 := List.length_filter_le (fun o : Rw => ltS u.1 o.1 && decide (dist e u.2 o.2 < l)) rs
    rw [List.flatMap_cons, List.length_append, List.length_map, List.length_cons]
    omega
theorem prs_len24 {e : E3} {l : Rat} {rs : List Rw} (h : rs.length ≤ 24) : (prsL e l rs).length ≤ 576 := by
  have := prs_len (e := e) (l := l) h rs
  unfold prsL
  omega
theorem prs_mem {e : E3} {l : Rat} {rs : List Rw} {p : Str × Str} (h : p ∈ prsL e l rs) : p.1 ∈ rs.map Prod.fst ∧ p.2 ∈ rs.map Prod.fst := by
  obtain ⟨r, hr, hp⟩ := List.mem_flatMap.mp h
  obtain ⟨o, ho, rfl⟩ := List.mem_map.mp hp
  exact ⟨List.mem_map.mpr ⟨r, hr, rfl⟩, List.mem_map.mpr ⟨o, (List.mem_filter.mp ho).1, rfl⟩⟩
theorem al_pr : ∀ b b', PySem.W.alike (prD b) (prD b') = true := fun b b' => by
  unfold prD
  simp [PySem.W.alike, PySem.W.alikeAll]
theorem so_pr : ∀ b, ∃ x r, prD b = .tuple (x :: r) := fun b => ⟨_, _, rfl⟩
theorem py_pr (p : Str × Str) : toPy0 (prV p) = some (prD p) := rfl
theorem dep_pr (p : Str × Str) : (prD p).depth ≤ 60 := by
  unfold prD
  simp [PyData.depth, PyData.depthAll]
theorem srt_prs {e : E3} {l : Rat} {rs : List Rw} (h : rs.length ≤ 24) {D : Nat → Li.G} {S : Sto} {x : Val} {Q : Val → Prop} (hx : asL S x = some ((prsL e l rs).map prV)) (hQ : Q (.lst ((prsS e l rs).map prV))) : bfV D .sorted [x] S Q := by
  refine bf_srt hx (fun p _ => py_pr p) (.of al_pr) (.tuples so_pr) ?_ (fun p _ => dep_pr p) hQ
  have := prs_len24 (e := e) (l := l) h
  rw [show sizeLine = 16777216 from sizeLine_eq]
  omega
def sp_pairs_near (CB C : Addr) : ISp where
  run := fun vs S Q _ => ∃ (b q : Addr) (e : E3) (rs : List Rw) (m : Nat) (l : Rat), vs = [.adr b, frV l] ∧ Bk CB C S b q e rs m ∧ Lim l ∧ (∀ r ∈ rs, ∀ o ∈ rs, NrOk e l r.2 o.2) ∧ Q (.tup ((prsS e l rs).map prV)) S
  mono := fun hQ _ ⟨b, q, e, rs, m, l, h1, h2, h3, h4, h5⟩ => ⟨b, q, e, rs, m, l, h1, h2, h3, h4, hQ _ _ h5⟩
theorem sbsts_pr {a : Addr} {w : Val} {ps : List (Str × Str)} : sbsts a w (ps.map prV) = ps.map prV := sbsts_map fun p => by
  unfold prV
  walk_at "lt"
theorem itm_map {α : Type} {f : α → L2.Key} {g : α → Val} : ∀ (xs : List α), itmV (xs.map f) (xs.map g) = xs.map fun x => .tup [keyV (f x), g x]
  | [] => rfl
  | x :: r => by
    rw [List.map_cons, List.map_cons, List.map_cons, ← itm_map r]
    rfl
theorem hsp_pairs_near {CB C : Addr} {D : Nat → Li.G} {A : Addr → Str → Prop} (h42 : D 42 = .fn sp_check_limit 1 []) (h43 : D 43 = .fn (sp_check_book CB C) 1 []) (h45 : D 45 = .fn (sp_near_names CB C) 2 []) (vs : List Val) (S : Sto) (Q : VQ) (R : EQ) (hl : vs.length = 2) (h : (sp_pairs_near CB C).run vs S Q R) : evD { D := D, A := A, er := R } Pt.b_pairs_near 6 [2] vs S Q := by
  obtain ⟨b, q, e, rs, m, l, rfl, hB, hlim, hok, hQ⟩ := h
  have h24 := hB.n24
  unfold Pt.b_pairs_near
  walk_at "lt"
  rw [h42, h43, h45]
  walk_at "lt"
  refine ⟨b, q, e, rs, m, rfl, hB, l, rfl, hlim, fun a ha => ?_⟩
  walk_at "lt"
  refine ⟨b, q, e, rs, m, l, rfl, hB.new ha, hok, ?_⟩
  unfold nearV
  walk_at "lt"
  rw [itm_map]
  refine forL_inv (fun r σ S' => ∃ (pre post : List Rw) (o3 o4 : Option Val), rs = pre ++ post ∧ r = post.map (fun x => .tup [.str x.1, .lst ((nearL e l rs x).map Val.str)]) ∧ S' = S.set a (.lst ((pre.flatMap fun r => (rs.filter fun o => ltS r.1 o.1 && decide (dist e r.2 o.2 < l)).map fun o => (r.1, o.1)).map prV)) ∧ σ = [some (.adr b), some (frV l), some (.adr a), o3, o4, none]) (fun _ _ _ _ => trivial) (fun v r σ S' nx h hn => ?_) (fun σ S' h => ?_) ⟨[], rs, none, none, rfl, rfl, rfl, rfl⟩
  · obtain ⟨pre, post, o3, o4, hrs, hr, rfl, rfl⟩ := h
    cases post with
    | nil => cases hr
    | cons u post =>
      rw [List.map_cons] at hr
      injection hr with hv hr
      subst hv
      have hlen : rs.length = pre.length + (post.length + 1) := by rw [hrs]; simp
      have l1 : (nearL e l rs u).length ≤ 24 := by
        unfold nearL
        rw [List.length_map]
        exact Nat.le_trans (List.length_filter_le _ _) h24
      have l2 := prs_len (e := e) (l := l) h24 pre
      walk_at "lt"
      refine compL_filA (g := Val.str) (fun n => ltS u.1 n) (fun n => .tup [.str u.1, .str n]) trivial (by rw [List.length_nil]; exact sz24 (by omega)) (fun n hn2 k hk => ?_) ?_
      · walk_at "lt"
        unfold ltS at hk
        split
        · rename_i z
          rw [decide_eq_true z] at hk
          exact hk
        · rename_i z
          rw [decide_eq_false z] at hk
          exact hk
      · have l3 := List.length_filter_le (fun n => ltS u.1 n) (nearL e l rs u)
        walk_at "lt"
        refine ⟨?_, hn _ _ ⟨pre ++ [u], post, _, _, by rw [hrs]; simp, hr, ?_, rfl⟩⟩
        · rw [List.length_map, List.length_map, show sizeLine = 16777216 from sizeLine_eq]
          omega
        · have e1 := near_prs (e := e) (l := l) (rs := rs) (r := u)
          rw [List.flatMap_append, List.flatMap_cons, List.flatMap_nil, List.append_nil, ← e1, List.map_append, List.map_map (g := prV)]
          rfl
  · obtain ⟨pre, post, o3, o4, hrs, hr, rfl, rfl⟩ := h
    obtain rfl : post = [] := by
      cases post with
      | nil => rfl
      | cons u p => cases hr
    rw [List.append_nil] at hrs
    subst hrs
    walk_at "lt"
    refine srt_prs (e := e) (l := l) h24 (S := S.set a _) (x := .adr a) asL_set ?_
    walk_at "lt"
    rw [sbsts_pr, Sto.set_del ha]
    exact hQ
end Li
set_option Elab.async false
set_option linter.all false
set_option maxRecDepth 100000
set_option maxHeartbeats 4000000
/-! Lb: Books that the laws draw. -/
namespace Li
open PySem
local macro_rules | `(tactic| walk_at "li") => `(tactic| simp only [evD, evSs, evS, evE, evEs, evI, evO, evIt, slotQ_0, slotQ_s, cloQ_0, cloQ_s, capQ_nil, capQ_cons, intQ_i, adrQ_a, lstQ_l, tupQ_t, dctQ_d, optQ_s, gvalQ_v, brV_s, asL_l, truV_b, truV_n, truV_i, lenV_t, lenV_s, lenV_l, idxV_t, idxV_s, idxV_l, atI_0, atI_1, atI_2, atI_3, bin_add, bin_sub, bin_mul, bin_div, bin_mod, bin_pow, bin_shl, bin_shr, bin_and, bin_addL, bin_addT, aug_add, aug_sub, aug_mul, cmp_lt, cmp_le, cmp_gt, cmp_ge, cmp_is, cmp_isnt, cmp_eq, cmp_ne, tst_e, wipe_nil, wipe_cons, asg_one, asg_many, asgs_nil, asgs_cons, seqV_t, itV_t, itV_l, itV_s, itV_x, itV_d, itV_set, chkV_x, chkV_d, keyQ_s, keyQ_i, keyV, dctV_d, dctV_set, dctQC_set, bin_addX, idxV_x, cmp_ltx, esLen_n, esLen_c, isCalk_cl, pickV_n, pickV_l, pickV_r, getD_0, getD_s, isFn_fn, isFnk_fn, mthQ_i, bmP_pop, bmP_ins, bmP_ext, bmV_pop, bmV_popAt, bmV_ins, bmV_ext, dropC_d, cellOf_d, seqV_s, seqV_l, chkV_t, chkV_l, chkV_s, chkV_a, callG_fn, isCal_fn, isCal_cls, isCalk_fn, callK_fn, frz_nil, puSp_run, bf_len, bf_abs, bf_int, bf_intb, bf_tupT, bf_tupL, bf_listL, bf_listT, bf_min2, bf_max2, bf_isi, slc_l, slc_t, slc_s, fld_i, setB, tabA_hit, isi_tt, isi_ti, isi_ii, isi_it, isi_ib, isi_bi, isi_bb, isi_ss, Cxt.nox, natI_0, natI_1, natI_2, natI_3, natI_4, natI_5, natI_6, natI_7, Bool.not_true, Bool.not_false, decide_true, decide_false, Bool.false_eq_true, if_true, if_false, celQ_set, idxV_set, Sto.set_set, ixN_30, ixN_31, ixN_32, enumV_n, enumV_c, zipV_n, zipV_c, objQ_set, isNon_n, isNon_t, isNon_i, setC_l, dropC_n, dropC_s, dropC_a, cellOf_0, cellOf_s, cellOf_n, frz_cons, frz1_s, frz1_n, sbst_t, sbst_l, sbst_i, sbst_b, sbst_non, sbst_str, sbst_a, sbsts_n, sbsts_c, bin_addLA_set, lenV_set, seqV_set, bf_tupA_set, bmP_app, bmV_app, bf_sum_set, bf_sum_l, asInts_n, asInts_c, Option.map_some, sz_0, sz_1, sz_2, sz_3, sz_4, sz_5, sz_6, sz_7, List.map_cons, List.map_nil, List.length_cons, List.length_nil, List.cons_append, List.nil_append, List.append_nil, List.drop_nil, List.set_cons_zero, List.set_cons_succ, List.replicate_succ, List.replicate_zero, Nat.reduceSub, Nat.reduceAdd, decide_eq_true_eq, true_and, and_true])
local macro_rules | `(tactic| walk_at "lt") => `(tactic| try simp only [evD, evSs, evS, evE, evEs, evI, evO, evIt, slotQ_0, slotQ_s, cloQ_0, cloQ_s, capQ_nil, capQ_cons, intQ_i, adrQ_a, lstQ_l, tupQ_t, dctQ_d, optQ_s, gvalQ_v, brV_s, asL_l, truV_b, truV_n, truV_i, lenV_t, lenV_s, lenV_l, idxV_t, idxV_s, idxV_l, atI_0, atI_1, atI_2, atI_3, bin_add, bin_sub, bin_mul, bin_div, bin_mod, bin_pow, bin_shl, bin_shr, bin_and, bin_addL, bin_addT, aug_add, aug_sub, aug_mul, cmp_lt, cmp_le, cmp_gt, cmp_ge, cmp_is, cmp_isnt, cmp_eq, cmp_ne, tst_e, wipe_nil, wipe_cons, asg_one, asg_many, asgs_nil, asgs_cons, seqV_t, itV_t, itV_l, itV_s, itV_x, itV_d, itV_set, chkV_x, chkV_d, keyQ_s, keyQ_i, keyV, dctV_d, dctV_set, dctQC_set, bin_addX, idxV_x, cmp_ltx, esLen_n, esLen_c, isCalk_cl, pickV_n, pickV_l, pickV_r, getD_0, getD_s, isFn_fn, isFnk_fn, mthQ_i, bmP_pop, bmP_ins, bmP_ext, bmV_pop, bmV_popAt, bmV_ins, bmV_ext, dropC_d, cellOf_d, seqV_s, seqV_l, chkV_t, chkV_l, chkV_s, chkV_a, callG_fn, isCal_fn, isCal_cls, isCalk_fn, callK_fn, frz_nil, puSp_run, bf_len, bf_abs, bf_int, bf_intb, bf_tupT, bf_tupL, bf_listL, bf_listT, bf_min2, bf_max2, bf_isi, slc_l, slc_t, slc_s, fld_i, setB, tabA_hit, isi_tt, isi_ti, isi_ii, isi_it, isi_ib, isi_bi, isi_bb, isi_ss, Cxt.nox, natI_0, natI_1, natI_2, natI_3, natI_4, natI_5, natI_6, natI_7, Bool.not_true, Bool.not_false, decide_true, decide_false, Bool.false_eq_true, if_true, if_false, celQ_set, idxV_set, Sto.set_set, ixN_30, ixN_31, ixN_32, enumV_n, enumV_c, zipV_n, zipV_c, objQ_set, isNon_n, isNon_t, isNon_i, setC_l, dropC_n, dropC_s, dropC_a, cellOf_0, cellOf_s, cellOf_n, frz_cons, frz1_s, frz1_n, sbst_t, sbst_l, sbst_i, sbst_b, sbst_non, sbst_str, sbst_a, sbsts_n, sbsts_c, bin_addLA_set, lenV_set, seqV_set, bf_tupA_set, bmP_app, bmV_app, bf_sum_set, bf_sum_l, asInts_n, asInts_c, Option.map_some, sz_0, sz_1, sz_2, sz_3, sz_4, sz_5, sz_6, sz_7, List.map_cons, List.map_nil, List.length_cons, List.length_nil, List.cons_append, List.nil_append, List.append_nil, List.drop_nil, List.set_cons_zero, List.set_cons_succ, List.replicate_succ, List.replicate_zero, Nat.reduceSub, Nat.reduceAdd, decide_eq_true_eq, true_and, and_true, cut1_h0, cut1_l1, cut2_h0, cut2_h1, cut2_l1, cut2_l2, cut3_h0, cut3_h1, cut3_h2, cut3_l1, cut3_l2, cut3_l3, cut4_l1, Int.reduceAdd, Int.reduceSub, Int.reduceMod, Int.reduceNeg, compL_cons, compL_nil, forL_cons, forL_nil, rng0, rng1n, rng2, rng3, r62_0, r62_1, r62_2, r62_3, szl_0, szl_1, szl_2, szl_3, szl_4, szl_5, szl_6, szl_7])
/-- a limit, its size -/
structure LimZ (l : Rat) : Prop where
  lo : milli ≤ l
  hi : l ≤ 1000
  z : ∃ D, D < 2 ^ 60 ∧ Fz D 1000 l
theorem milli_fz : Fz 1000 1 milli := by
  have := Fz.mk (D := 1000) 1 1 (by decide) (by decide)
  exact this
theorem LimZ.lim {l : Rat} (h : LimZ l) : Lim l := by
  obtain ⟨D, hD, hz⟩ := h.z
  exact ⟨h.lo, h.hi, pz_small hz milli_fz hD (by decide) (by decide) (by decide), pz_small (Fz.int (D := 1) 1000 (by decide)) hz (by decide) hD (by decide) (by decide)⟩
/-- an item of a list of things of one kind -/
theorem atI_map {α : Type} {f : α → Val} {xs : List α} {t : Int} (h0 : 0 ≤ t) (h1 : t < xs.length) : ∃ x, xs[t.toNat]? = some x ∧ x ∈ xs ∧ L2.atI (xs.map f) t = some (f x) := by
  obtain ⟨k, rfl⟩ : ∃ k : Nat, t = (k : Int) := ⟨t.toNat, by omega⟩
  have hk : k < xs.length := by omega
  refine ⟨xs[k], by simp [List.getElem?_eq_getElem hk], List.getElem_mem _, ?_⟩
  rw [atI_nat (by rw [List.length_map]; exact hk), List.getElem?_map, List.getElem?_eq_getElem hk]
  rfl
/-! ### names -/
def menu : List Str := [("eye" : Str), ("grey" : Str), ("turn" : Str), ("white" : Str), ("black" : Str), ("none" : Str), ("put" : Str), ("drop" : Str), ("do" : Str), ("mix" : Str), ("near" : Str), ("back" : Str), ("ok" : Str), ("of" : Str)]
def namB (n : Nat) (x : Str) : Bool := decide (1 ≤ x.length) && decide (x.length ≤ n) && x.cps.toList.all fun c => decide (97 ≤ c) && decide (c ≤ 122)
/-- a name of at most n letters, perhaps none -/
structure NamN (n : Nat) (x : Str) : Prop where
  hi : x.length ≤ n
  az : ∀ c ∈ x.cps.toList, 97 ≤ c ∧ c ≤ 122
theorem namB_ok {n : Nat} {x : Str} (h : namB n x = true) : 1 ≤ x.length ∧ NamN n x := by
  unfold namB at h
  simp only [Bool.and_eq_true, decide_eq_true_eq, List.all_eq_true] at h
  exact ⟨h.1.1, h.1.2, fun c hc => h.2 c hc⟩
theorem menu_ok : ∀ x ∈ menu, 1 ≤ x.length ∧ NamN 5 x := fun x hx => namB_ok (List.all_eq_true.mp (show menu.all (namB 5) = true by decide +kernel) x hx)
theorem len_app (a b : Str) : (a ++ b).length = a.length + b.length := by
  show (a.cps ++ b.cps).size = _
  rw [Array.size_append]
  rfl
theorem cps_app (a b : Str) : (a ++ b).cps.toList = a.cps.toList ++ b.cps.toList := by
  show (a.cps ++ b.cps).toList = _
  rw [Array.toList_append]
theorem NamN.snoc {n : Nat} {x : Str} {c : Nat} (h : NamN n x) (hc : 97 ≤ c ∧ c ≤ 122) : NamN (n + 1) (x ++ ⟨#[c]⟩) := by
  refine ⟨?_, fun d hd => ?_⟩
  · rw [len_app]
    have := h.hi
    show x.length + 1 ≤ n + 1
    omega
  · rw [cps_app] at hd
    rcases List.mem_append.mp hd with hd | hd
    · exact h.az d hd
    · have : d = c := by simpa using hd
      rw [this]
      exact hc
theorem abc_at : ∀ k : Fin 26, L2.atI abc.cps.toList ((k.val : Nat) : Int) = some (97 + k.val) := by decide +kernel
theorem abc_atI {t : Int} (h0 : 0 ≤ t) (h1 : t < 26) : L2.atI abc.cps.toList t = some (97 + t.toNat) := by
  have := abc_at ⟨t.toNat, by omega⟩
  simp only at this
  rw [show ((t.toNat : Nat) : Int) = t by omega] at this
  exact this
theorem abc_sz : abc.length ≤ sizeLine := by
  rw [show sizeLine = 16777216 from sizeLine_eq]
  decide +kernel
theorem sizeL : sizeLine = 16777216 := sizeLine_eq
theorem nam_of {n : Nat} {x : Str} (h1 : 1 ≤ x.length) (h : NamN n x) (hn : n ≤ 12) : Nam x := ⟨h1, Nat.le_trans h.hi hn, h.az⟩
theorem cmp_ninS {S : Sto} {n : Str} {ns : List Str} {P : Bool → Prop} (hn : Nam n) (h : ∀ n ∈ ns, Nam n) : cmpV S .NotIn (.str n) (.lst (ns.map Val.str)) P = P (!decide (n ∈ ns)) := cmp_ninL hn.ok fun x hx => (h x hx).ok
theorem spare_inj {x : Str} {j k : Nat} (h : x ++ (⟨#[97 + j]⟩ : Str) = x ++ ⟨#[97 + k]⟩) : j = k := by
  have e := congrArg (fun s : Str => s.cps.toList) h
  simp only [cps_app] at e
  have e2 := List.append_cancel_left e
  have e3 : ([97 + j] : List Nat) = [97 + k] := e2
  injection e3 with e4 _
  omega
/-- one of 26 isn't among fewer -/
theorem spare_ex {x : Str} {used : List Str} (h : used.length < 26) : ∃ y ∈ (List.range 26).map (fun k => x ++ (⟨#[97 + k]⟩ : Str)), y ∉ used := by
  refine Classical.byContradiction fun z => ?_
  have hs : (List.range 26).map (fun k => x ++ (⟨#[97 + k]⟩ : Str)) ⊆ used := fun y hy => Classical.byContradiction fun q => z ⟨y, hy, q⟩
  have nd : ((List.range 26).map (fun k => x ++ (⟨#[97 + k]⟩ : Str))).Nodup := by
    rw [List.Nodup, List.pairwise_map]
    exact List.Pairwise.imp (fun {a b} hab e => hab (spare_inj e)) (List.nodup_range (n := 26))
  have := nd.length_le_of_subset hs
  simp at this
  omega
def sp__law_name : ISp := purSp 68 (fun p (us : List Str) => [.adr p, .lst (us.map Val.str)]) (fun us => us.length ≤ 25 ∧ ∀ u ∈ us, Nam u) (fun us v => ∃ x, v = .str x ∧ Nam x ∧ x ∉ us) fun _ => 6
theorem call_name {p : Addr} {us : List Str} {n : Nat} {S : Sto} {Q : VQ} {er : EQ} (hP : Pur S p n) (h64 : n < 2 ^ 68) (h24 : us.length ≤ 25) (hu : ∀ u ∈ us, Nam u) (k : ∀ x S', Nam x → x ∉ us → Ins S S' p → Pur S' p (n + 6) → Q (.str x) S') : sp__law_name.run [.adr p, .lst (us.map Val.str)] S Q er :=
  ⟨p, us, n, rfl, hP, h64, ⟨h24, hu⟩, fun v S' ⟨x, hv, h1, h2⟩ hI hP' => by
    subst hv
    exact k x S' h1 h2 hI hP'⟩
/-- behind the word -/
theorem name_end {used : List Str} {x : Str} {Q : VQ} {S : Sto} {D : Nat → Li.G} {A : Addr → Str → Prop} {R : EQ} {o5 o6 o7 : Option Val} {a c d : Val} (h24 : used.length ≤ 25) (hu : ∀ u ∈ used, Nam u) (h1 : 1 ≤ x.length) (hx : NamN 5 x) (hQ : ∀ y, Nam y → y ∉ used → Q (.str y) S) :
    evSs { D := D, A := A, er := R } (dropS 4 Lt.b__law_name) { nx := fun σ S' => frz σ [] .non S' Q, rt := Q } [some a, some (.lst (used.map Val.str)), some c, some d, some (.str x), o5, o6, o7] S := by
  unfold Lt.b__law_name
  simp only [dropS_s, dropS_0]
  have hn := nam_of h1 hx (by decide)
  walk_at "lt"
  rw [cmp_ninS hn hu]
  walk_at "lt"
  by_cases z : x ∈ used
  · rw [decide_eq_true z]
    walk_at "lt"
    refine ⟨by decide, ?_⟩
    rw [show rngV 0 (26 : Int).toNat = (List.range 26).map fun k : Nat => Val.int (0 + k) from rngV_range 26 0]
    refine compL_mapA (f := fun k : Nat => Val.str (x ++ ⟨#[97 + k]⟩)) trivial (by rw [sizeL]; decide) (fun k hk q hq => ?_) ?_
    · have hk : k < 26 := List.mem_range.mp hk
      walk_at "lt"
      rw [show (0 : Int) + (k : Int) = (k : Int) by omega]
      refine ⟨abc_sz, ?_⟩
      have ea := abc_atI (t := (k : Int)) (by omega) (by omega)
      rw [show ((k : Int)).toNat = k by omega] at ea
      have ea2 : L2.atI ("abcdefghijklmnopqrstuvwxyz" : Str).cps.toList (k : Int) = some (97 + k) := ea
      rw [ea2]
      walk_at "lt"
      have := hx.hi
      refine ⟨?_, hq⟩
      rw [sizeL]
      show x.length + 1 ≤ _
      omega
    · have e1 : [] ++ (List.range 26).map (fun k : Nat => Val.str (x ++ ⟨#[97 + k]⟩)) = ((List.range 26).map fun k => x ++ (⟨#[97 + k]⟩ : Str)).map Val.str := by
        rw [List.nil_append, List.map_map]
        rfl
      rw [e1]
      have nm : ∀ y ∈ (List.range 26).map (fun k => x ++ (⟨#[97 + k]⟩ : Str)), Nam y := fun y hy => by
        obtain ⟨k, hk, rfl⟩ := List.mem_map.mp hy
        have hk : k < 26 := List.mem_range.mp hk
        refine nam_of (n := 6) ?_ (hx.snoc (by omega)) (by decide)
        rw [len_app]
        omega
      obtain ⟨y0, hy0, hy1⟩ := spare_ex (x := x) (used := used) (by omega)
      walk_at "lt"
      refine compL_filA (g := Val.str) (fun y => decide (y ∉ used)) Val.str trivial (by rw [List.length_nil, List.length_map, List.length_range, sizeL]; decide) (fun y hy q hq => ?_) ?_
      · walk_at "lt"
        rw [cmp_ninS (nm y hy) hu]
        walk_at "lt"
        by_cases zz : y ∈ used
        · rw [decide_eq_true zz]
          rw [if_neg (by simpa using zz)] at hq
          walk_at "lt"
          exact hq
        · rw [decide_eq_false zz]
          rw [if_pos (by simpa using zz)] at hq
          walk_at "lt"
          exact hq
      · rw [List.nil_append]
        have hm : y0 ∈ ((List.range 26).map fun k => x ++ (⟨#[97 + k]⟩ : Str)).filter fun y => decide (y ∉ used) := List.mem_filter.mpr ⟨hy0, by simpa using hy1⟩
        cases hf : ((List.range 26).map fun k => x ++ (⟨#[97 + k]⟩ : Str)).filter fun y => decide (y ∉ used) with
        | nil =>
          rw [hf] at hm
          cases hm
        | cons w r =>
          have hw : w ∈ ((List.range 26).map fun k => x ++ (⟨#[97 + k]⟩ : Str)).filter fun y => decide (y ∉ used) := by rw [hf]; exact List.mem_cons_self
          obtain ⟨hw1, hw2⟩ := List.mem_filter.mp hw
          rw [List.map_cons]
          walk_at "lt"
          exact hQ w (nm w hw1) (by simpa using hw2)
  · rw [decide_eq_false z]
    walk_at "lt"
    exact hQ x hn z
theorem NamN.up {n m : Nat} {x : Str} (h : NamN n x) (hm : n ≤ m) : NamN m x := ⟨Nat.le_trans h.hi hm, h.az⟩
theorem hsp__law_name {D : Nat → Li.G} {A : Addr → Str → Prop} (h302 : D 302 = .fn sp__law_pick 2 []) (vs : List Val) (S : Sto) (Q : VQ) (R : EQ) (hl : vs.length = 2) (h : sp__law_name.run vs S Q R) : evD { D := D, A := A, er := R } Lt.b__law_name 8 [] vs S Q := by
  obtain ⟨p, us, n, rfl, hP, h64, ⟨h24, hu⟩, hQ⟩ := h
  have em : ([Val.str ("eye" : Str), .str ("grey" : Str), .str ("turn" : Str), .str ("white" : Str), .str ("black" : Str), .str ("none" : Str), .str ("put" : Str), .str ("drop" : Str), .str ("do" : Str), .str ("mix" : Str), .str ("near" : Str), .str ("back" : Str), .str ("ok" : Str), .str ("of" : Str)] : List Val) = menu.map Val.str := rfl
  rw [evD_split 4]
  conv => 
    enter [2]
    unfold Lt.b__law_name
  simp only [takeS_s, takeS_0]
  walk_at "lt"
  rw [h302]
  walk_at "lt"
  refine call_pick hP (by omega) (by decide) (by decide) fun w S1 w0 w1 hI1 hP1 => ?_
  walk_at "lt"
  refine ⟨by rw [sizeL]; decide, ?_⟩
  refine call_pick hP1 (by omega) (by decide) (by decide) fun t S2 t0 t1 hI2 hP2 => ?_
  rw [em]
  obtain ⟨x, _, hx, ex⟩ := atI_map (f := Val.str) (xs := menu) t0 t1
  walk_at "lt"
  rw [ex]
  walk_at "lt"
  obtain ⟨x1, x5⟩ := menu_ok x hx
  split
  · refine call_pick hP2 (by omega) (by decide) (by decide) fun u S3 u0 u1 hI3 hP3 => ?_
    walk_at "lt"
    obtain ⟨N, eN, N1, N3⟩ : ∃ N : Nat, 1 + u = (N : Int) ∧ 1 ≤ N ∧ N ≤ 3 := ⟨(1 + u).toNat, by omega, by omega, by omega⟩
    rw [eN]
    refine ⟨⟨by omega, by omega⟩, ?_⟩
    rw [show (N : Int).toNat = N by omega, rngV_range]
    refine forL_inv (fun r σ S' => ∃ (i : Nat) (y : Str) (o5 : Option Val), i ≤ N ∧ r = ((List.range N).drop i).map (fun k : Nat => Val.int (0 + k)) ∧ y.length = i ∧ NamN i y ∧ Ins S3 S' p ∧ Pur S' p (n + 3 + i) ∧ σ = [some (.adr p), some (.lst (us.map Val.str)), some (.int w), some (.lst (menu.map Val.str)), some (.str y), o5, none, none]) (fun _ _ _ _ => trivial) (fun v r σ S' nx h hn => ?_) (fun σ S' h => ?_) ⟨0, _, none, Nat.zero_le _, by rw [List.drop_zero], rfl, ⟨Nat.le_refl _, fun c hc => absurd (show c ∈ ([] : List Nat) from hc) List.not_mem_nil⟩, Ins.refl, hP3.up (by omega), rfl⟩
    · obtain ⟨i, y, o5, hi, hr, hy1, hy2, hI, hP', rfl⟩ := h
      have hil : i < N := by
        rcases Nat.lt_or_ge i N with z | z
        · exact z
        · rw [List.drop_eq_nil_of_le (by rw [List.length_range]; exact z)] at hr
          cases hr
      rw [List.drop_eq_getElem_cons (by rw [List.length_range]; exact hil), List.map_cons] at hr
      injection hr with hv hr
      subst hv
      walk_at "lt"
      refine call_pick hP' (by omega) (by decide) (by decide) fun z S4 z0 z1 hI4 hP4 => ?_
      walk_at "lt"
      have ea2 : L2.atI ("abcdefghijklmnopqrstuvwxyz" : Str).cps.toList z = some (97 + z.toNat) := abc_atI z0 z1
      rw [ea2]
      refine ⟨abc_sz, ?_⟩
      walk_at "lt"
      refine ⟨by rw [sizeL]; show y.length + 1 ≤ _; omega, hn _ _ ⟨i + 1, _, _, by omega, hr, by rw [len_app]; show y.length + 1 = _; omega, hy2.snoc (by omega), hI.trans hI4, hP4.up (by omega), rfl⟩⟩
    · obtain ⟨i, y, o5, hi, hr, hy1, hy2, hI, hP', rfl⟩ := h
      have hiN : i = N := by
        rcases Nat.lt_or_ge i N with z | z
        · rw [List.drop_eq_getElem_cons (by rw [List.length_range]; exact z), List.map_cons] at hr
          cases hr
        · omega
      exact name_end h24 hu (by omega) (hy2.up (by omega)) fun y q1 q2 => hQ _ _ ⟨y, rfl, q1, q2⟩ (((hI1.trans hI2).trans hI3).trans hI) (hP'.up (by dsimp only; omega))
  · exact name_end h24 hu x1 x5 fun y q1 q2 => hQ _ _ ⟨y, rfl, q1, q2⟩ (hI1.trans hI2) (hP2.up (by dsimp only; omega))
/-! ### a share beside another -/
theorem div3 {t : Int} (h0 : 0 ≤ t) (h1 : t < 7) : Fz 60 1 (Rat.divInt (t - 3) 60) := Fz.mk (t - 3) 1 (by decide) (by omega)
theorem sh60_fz {x : Rat} (h : Sh60 60 x) : Fz 60 1 x := fz_of (by decide) h.1 h.2
theorem sh60_of {M : Nat} {x : Rat} (h : Fz 60 M x) (h1 : In1 x) : Sh60 60 x := ⟨h1, h.den_dvd⟩
def Row60' (t : T3) : Prop := Sh60 60 t.1 ∧ Sh60 60 t.2.1 ∧ Sh60 60 t.2.2
theorem Row60'.in3 {t : T3} (h : Row60' t) : In3 t := ⟨h.1.1, h.2.1.1, h.2.2.1⟩
theorem Row60'.fz {t : T3} (h : Row60' t) : Fz3 60 1 t := ⟨sh60_fz h.1, sh60_fz h.2.1, sh60_fz h.2.2⟩
def sp__law_beside : ISp := purSp 68 (fun p (t : T3) => [.adr p, trV t]) Row60' (fun _ v => ∃ t, v = trV t ∧ Row60' t) fun _ => 3
theorem call_beside {p : Addr} {t : T3} {n : Nat} {S : Sto} {Q : VQ} {er : EQ} (hP : Pur S p n) (h64 : n < 2 ^ 68) (ht : Row60' t) (k : ∀ t S', Row60' t → Ins S S' p → Pur S' p (n + 3) → Q (trV t) S') : sp__law_beside.run [.adr p, trV t] S Q er :=
  ⟨p, t, n, rfl, hP, h64, ht, fun v S' ⟨t, hv, h1⟩ hI hP' => by
    subst hv
    exact k t S' h1 hI hP'⟩
theorem in1_dec {x : Rat} : (decide (0 ≤ x.num) && decide (x.num ≤ x.den)) = true ↔ In1 x := in1_b.symm
theorem okD_int {i : Int} {n : Nat} : okD n (.int i) = true := by
  cases n <;> rfl
theorem okD_fr {x : Rat} {n : Nat} : okD (n + 1) (frV x) = true := by
  show ([Val.int x.num, .int x.den].all (okD n)) = true
  simp [okD_int]
theorem okD_tr {t : T3} {n : Nat} : okD (n + 2) (trV t) = true := by
  show ([frV t.1, frV t.2.1, frV t.2.2].all (okD (n + 1))) = true
  simp [okD_fr]
theorem idx_fr0 {S : Sto} {x : Rat} {Q : Val → Prop} : idxV S (frV x) (.int 0) Q = Q (.int x.num) := rfl
theorem idx_fr1 {S : Sto} {x : Rat} {Q : Val → Prop} : idxV S (frV x) (.int 1) Q = Q (.int x.den) := rfl
theorem sel_lem {x y : Rat} {Q : Val → Prop} (hx : Q (frV x)) (hy : In1 y → Q (frV y)) : optQ (L2.atI [frV x, frV y] (if (decide (0 ≤ y.num) && decide (y.num ≤ y.den)) = true then 1 else 0)) Q := by
  by_cases z : (decide (0 ≤ y.num) && decide (y.num ≤ y.den)) = true
  · rw [if_pos z]
    exact hy (in1_dec.mp z)
  · rw [if_neg z]
    exact hx
/-- one of the three turns -/
theorem hsp__law_beside {D : Nat → Li.G} {A : Addr → Str → Prop} (h302 : D 302 = .fn sp__law_pick 2 []) (h303 : D 303 = .fn sp__law_low 2 []) (h304 : D 304 = .fn sp__law_plus 2 []) (vs : List Val) (S : Sto) (Q : VQ) (R : EQ) (hl : vs.length = 2) (h : sp__law_beside.run vs S Q R) : evD { D := D, A := A, er := R } Lt.b__law_beside 5 [2] vs S Q := by
  obtain ⟨p, t, n, rfl, hP, h64, ht, hQ⟩ := h
  unfold Lt.b__law_beside trV
  walk_at "li"
  rw [h302, h303, h304]
  walk_at "li"
  intro a ha
  have hap := hP.ne ha
  refine forL_inv (fun r σ S' => ∃ (us ws : List Rat) (o3 o4 : Option Val), r = ws.map frV ∧ us.length + ws.length = 3 ∧ (∀ x ∈ us, Sh60 60 x) ∧ (∀ x ∈ ws, Sh60 60 x) ∧ Ins (S.set a (.lst (us.map frV))) S' p ∧ Pur S' p (n + us.length) ∧ σ = [some (.adr p), some (.tup [frV t.1, frV t.2.1, frV t.2.2]), some (.adr a), o3, o4]) (fun _ _ _ _ => trivial) (fun v r σ S' nx h hn => ?_) (fun σ S' h => ?_) ⟨[], [t.1, t.2.1, t.2.2], none, none, rfl, rfl, fun x hx => (nomatch hx), fun x hx => ?_, Ins.refl, hP.set hap, rfl⟩
  · obtain ⟨us, ws, o3, o4, hr, hlen, hu, hw, hI, hP', rfl⟩ := h
    cases ws with
    | nil => cases hr
    | cons x ws =>
      rw [List.map_cons] at hr
      injection hr with hv hr
      subst hv
      rw [List.length_cons] at hlen
      have hx := hw x List.mem_cons_self
      walk_at "li"
      refine call_pick hP' (by omega) (by decide) (by decide) fun z S4 z0 z1 hI4 hP4 => ?_
      walk_at "li"
      refine call_low (by decide) (B2.mono (a := 6) (by unfold B2; decide) (by decide)) ?_
      have f1 := div3 z0 z1
      refine call_plus (pz_small (sh60_fz hx) f1 (by decide) (by decide) (by decide) (by decide)) ?_
      try (walk_at "li")
      have hS : S4 a = some (.lst (us.map frV)) := by
        rw [hI4 a hap, hI a hap, Sto.set_same]
      have key : ∀ y, Sh60 60 y → celQ S4 a fun us => us.length < sizeLine ∧ nx [some (.adr p), some (.tup [frV t.1, frV t.2.1, frV t.2.2]), some (.adr a), some (frV x), some (frV (x + Rat.divInt (z - 3) 60))] (S4.set a (.lst (us ++ [frV y]))) := fun y hy => by
        rw [celQ_h hS, List.length_map]
        refine ⟨by rw [sizeL]; omega, hn _ _ ⟨us ++ [y], ws, _, _, hr, by rw [List.length_append]; simp; omega, fun u hu2 => ?_, fun u hu2 => hw u (List.mem_cons_of_mem _ hu2), fun q hq => ?_, ?_, rfl⟩⟩
        · rcases List.mem_append.mp hu2 with q | q
          · exact hu u q
          · rw [List.mem_singleton.mp q]
            exact hy
        · rw [List.map_append]
          by_cases e : q = a
          · rw [e, Sto.set_same, Sto.set_same]
            rfl
          · rw [Sto.set_ne e, Sto.set_ne e, hI4 q hq, hI q hq, Sto.set_ne e]
        · rw [List.length_append]
          exact (hP4.set hap).up (by simp; omega)
      rw [idx_fr0, idx_fr1, celQ_h hS]
      walk_at "li"
      by_cases z1 : 0 ≤ (x + Rat.divInt (z - 3) 60).num
      · rw [if_pos z1]
        by_cases z2 : (x + Rat.divInt (z - 3) 60).num ≤ ((x + Rat.divInt (z - 3) 60).den : Int)
        · rw [if_pos z2]
          walk_at "li"
          refine key _ (sh60_of ((sh60_fz hx).add f1) (in1_b.mpr ?_))
          simp [z1, z2]
        · rw [if_neg z2]
          walk_at "li"
          exact key _ hx
      · rw [if_neg z1]
        exact key _ hx
  · obtain ⟨us, ws, o3, o4, hr, hlen, hu, hw, hI, hP', rfl⟩ := h
    cases ws with
    | cons w ws => cases hr
    | nil =>
      have hS : S' a = some (.lst (us.map frV)) := by rw [hI a hap, Sto.set_same]
      walk_at "li"
      rw [bf_tupA hS, cellOf_h hS, frz1_s]
      match us, hlen, hu, hS, hI, hP' with
      | [x, y, z], _, hu, hS, hI, hP' =>
        have es : sbst a (.lst ([x, y, z].map frV)) (.tup ([x, y, z].map frV)) = trV (x, y, z) := sbst_ok (n := 3) (okD_tr (t := (x, y, z)))
        rw [es]
        exact hQ _ _ ⟨(x, y, z), rfl, hu x (by simp), hu y (by simp), hu z (by simp)⟩ (Ins.cell Ins.refl ha hap hI) ((hP'.del hap).up (by simp))
  · simp only [List.mem_cons, List.not_mem_nil, or_false] at hx
    rcases hx with rfl | rfl | rfl
    · exact ht.1
    · exact ht.2.1
    · exact ht.2.2
/-! ### a Book -/
theorem Bk.ins {CB C : Addr} {S S' : Sto} {b q p : Addr} {e : E3} {rs : List Rw} {m : Nat} (h : Bk CB C S b q e rs m) (hI : Ins S S' p) (hb : b ≠ p) (hq : q ≠ p) : Bk CB C S' b q e rs m := h.keep (hI b hb) (hI q hq)
theorem Pur.keep {S S' : Sto} {p : Addr} {n : Nat} (h : Pur S p n) (e : S' p = S p) : Pur S' p n := by
  obtain ⟨a, b, c, h1, h2⟩ := h
  exact ⟨a, b, c, e.trans h1, h2⟩
theorem Pur.ins2 {S S' : Sto} {b q p : Addr} {n : Nat} (h : Pur S p n) (hI : Ins2 S S' b q) (hb : b ≠ p) (hq : q ≠ p) : Pur S' p n := h.keep (hI p (fun z => hb z.symm) fun z => hq z.symm)
theorem Pur.some {S : Sto} {p : Addr} {n : Nat} (h : Pur S p n) : S p ≠ none := by
  obtain ⟨a, b, c, h1, _⟩ := h
  rw [h1]
  exact fun z => nomatch z
theorem plcOf_nodup : ∀ {rs : List Rw} {k : Nat} {r : Rw}, (rs.map Prod.fst).Nodup → rs[k]? = some r → plcOf r.1 rs = k
  | [], _, _, _, h => by simp at h
  | u :: rs, 0, r, _, h => by
    have : u = r := by simpa using h
    unfold plcOf
    rw [if_pos (by rw [this])]
  | u :: rs, k + 1, r, nd, h => by
    rw [List.map_cons] at nd
    obtain ⟨n1, n2⟩ := List.nodup_cons.mp nd
    have h : rs[k]? = some r := by simpa using h
    unfold plcOf
    rw [if_neg fun z => n1 (List.mem_map.mpr ⟨r, List.mem_of_getElem? h, z.symm⟩), plcOf_nodup n2 h]
/-- the state of a law that fills a Book: its purse, the Book, its own list -/
structure BkSt (CB C : Addr) (S0 S : Sto) (p b q a : Addr) (e : E3) (rs : List Rw) (m n : Nat) : Prop where
  pu : Pur S p n
  bk : Bk CB C S b q e rs m
  li : S a = some (.lst (rs.map rtV))
  r60 : ∀ r ∈ rs, Row60' r.2
  old : ∀ x, S0 x ≠ none → x ≠ p → S x = S0 x
  bp : b ≠ p
  qp : q ≠ p
  ap : a ≠ p
  ab : a ≠ b
  aq : a ≠ q
  nb : S0 b = none
  nq : S0 q = none
  na : S0 a = none
section
variable {CB C : Addr} {S0 S S' : Sto} {p b q a : Addr} {e : E3} {rs us : List Rw} {m n k : Nat}
theorem BkSt.pick (h : BkSt CB C S0 S p b q a e rs m n) (hI : Ins S S' p) (hP : Pur S' p k) : BkSt CB C S0 S' p b q a e rs m k :=
  ⟨hP, h.bk.ins hI h.bp h.qp, (hI a h.ap).trans h.li, h.r60, fun x hx hp => (hI x hp).trans (h.old x hx hp), h.bp, h.qp, h.ap, h.ab, h.aq, h.nb, h.nq, h.na⟩
/-- behind a deed, and behind the same of the list -/
theorem BkSt.both (h : BkSt CB C S0 S p b q a e rs m n) {S1 : Sto} (hI : Ins2 S S1 b q) (hB : Bk CB C S1 b q e us k) (hr : ∀ r ∈ us, Row60' r.2) : BkSt CB C S0 (S1.set a (.lst (us.map rtV))) p b q a e us k n := by
  refine ⟨(h.pu.ins2 hI h.bp h.qp).set h.ap, hB.keep (Sto.set_ne h.ab.symm) (Sto.set_ne h.aq.symm), Sto.set_same, hr, fun x hx hp => ?_, h.bp, h.qp, h.ap, h.ab, h.aq, h.nb, h.nq, h.na⟩
  have xa : x ≠ a := fun z => hx (z ▸ h.na)
  have xb : x ≠ b := fun z => hx (z ▸ h.nb)
  have xq : x ≠ q := fun z => hx (z ▸ h.nq)
  rw [Sto.set_ne xa, hI x xb xq, h.old x hx hp]
/-- .. ahead of a deed -/
theorem BkSt.both2 (h : BkSt CB C S0 S p b q a e rs m n) {S1 : Sto} (hI : Ins2 (S.set a (.lst (us.map rtV))) S1 b q) (hB : Bk CB C S1 b q e us k) (hr : ∀ r ∈ us, Row60' r.2) : BkSt CB C S0 S1 p b q a e us k n := by
  refine ⟨(h.pu.set h.ap).ins2 hI h.bp h.qp, hB, by rw [hI a h.ab h.aq, Sto.set_same], hr, fun x hx hp => ?_, h.bp, h.qp, h.ap, h.ab, h.aq, h.nb, h.nq, h.na⟩
  have xa : x ≠ a := fun z => hx (z ▸ h.na)
  have xb : x ≠ b := fun z => hx (z ▸ h.nb)
  have xq : x ≠ q := fun z => hx (z ▸ h.nq)
  rw [hI x xb xq, Sto.set_ne xa, h.old x hx hp]
end
def sp__law_book (CB C : Addr) : ISp where
  run := fun vs S Q _ => ∃ (p : Addr) (many n : Nat), vs = [.adr p, .int many] ∧ Pur S p n ∧ n < 2 ^ 60 ∧ many ≤ 24 ∧ ∀ b q e rs m S', Pur S' p (n + 1000) → Bk CB C S' b q e rs m → m ≤ 100 → (∀ r ∈ rs, Row60' r.2) → rs.length ≤ many → b ≠ p → q ≠ p → S b = none → S q = none → (∀ x, S x ≠ none → x ≠ p → S' x = S x) → Q (.tup [.adr b, eyV e, .lst (rs.map rtV)]) S'
  mono := fun hQ _ ⟨p, many, n, h1, h2, h3, h4, h5⟩ => ⟨p, many, n, h1, h2, h3, h4, fun b q e rs m S' z1 z2 z3 z4 z5 z6 z7 z8 z9 z10 => hQ _ _ (h5 b q e rs m S' z1 z2 z3 z4 z5 z6 z7 z8 z9 z10)⟩
end Li
set_option Elab.async false
set_option linter.all false
set_option maxRecDepth 100000
set_option maxHeartbeats 4000000
/-! Lb2: the Book that a law draws. -/
namespace Li
open PySem
local macro_rules | `(tactic| walk_at "li") => `(tactic| simp only [evD, evSs, evS, evE, evEs, evI, evO, evIt, slotQ_0, slotQ_s, cloQ_0, cloQ_s, capQ_nil, capQ_cons, intQ_i, adrQ_a, lstQ_l, tupQ_t, dctQ_d, optQ_s, gvalQ_v, brV_s, asL_l, truV_b, truV_n, truV_i, lenV_t, lenV_s, lenV_l, idxV_t, idxV_s, idxV_l, atI_0, atI_1, atI_2, atI_3, bin_add, bin_sub, bin_mul, bin_div, bin_mod, bin_pow, bin_shl, bin_shr, bin_and, bin_addL, bin_addT, aug_add, aug_sub, aug_mul, cmp_lt, cmp_le, cmp_gt, cmp_ge, cmp_is, cmp_isnt, cmp_eq, cmp_ne, tst_e, wipe_nil, wipe_cons, asg_one, asg_many, asgs_nil, asgs_cons, seqV_t, itV_t, itV_l, itV_s, itV_x, itV_d, itV_set, chkV_x, chkV_d, keyQ_s, keyQ_i, keyV, dctV_d, dctV_set, dctQC_set, bin_addX, idxV_x, cmp_ltx, esLen_n, esLen_c, isCalk_cl, pickV_n, pickV_l, pickV_r, getD_0, getD_s, isFn_fn, isFnk_fn, mthQ_i, bmP_pop, bmP_ins, bmP_ext, bmV_pop, bmV_popAt, bmV_ins, bmV_ext, dropC_d, cellOf_d, seqV_s, seqV_l, chkV_t, chkV_l, chkV_s, chkV_a, callG_fn, isCal_fn, isCal_cls, isCalk_fn, callK_fn, frz_nil, puSp_run, bf_len, bf_abs, bf_int, bf_intb, bf_tupT, bf_tupL, bf_listL, bf_listT, bf_min2, bf_max2, bf_isi, slc_l, slc_t, slc_s, fld_i, setB, tabA_hit, isi_tt, isi_ti, isi_ii, isi_it, isi_ib, isi_bi, isi_bb, isi_ss, Cxt.nox, natI_0, natI_1, natI_2, natI_3, natI_4, natI_5, natI_6, natI_7, Bool.not_true, Bool.not_false, decide_true, decide_false, Bool.false_eq_true, if_true, if_false, celQ_set, idxV_set, Sto.set_set, ixN_30, ixN_31, ixN_32, enumV_n, enumV_c, zipV_n, zipV_c, objQ_set, isNon_n, isNon_t, isNon_i, setC_l, dropC_n, dropC_s, dropC_a, cellOf_0, cellOf_s, cellOf_n, frz_cons, frz1_s, frz1_n, sbst_t, sbst_l, sbst_i, sbst_b, sbst_non, sbst_str, sbst_a, sbsts_n, sbsts_c, bin_addLA_set, lenV_set, seqV_set, bf_tupA_set, bmP_app, bmV_app, bf_sum_set, bf_sum_l, asInts_n, asInts_c, Option.map_some, sz_0, sz_1, sz_2, sz_3, sz_4, sz_5, sz_6, sz_7, List.map_cons, List.map_nil, List.length_cons, List.length_nil, List.cons_append, List.nil_append, List.append_nil, List.drop_nil, List.set_cons_zero, List.set_cons_succ, List.replicate_succ, List.replicate_zero, Nat.reduceSub, Nat.reduceAdd, decide_eq_true_eq, true_and, and_true])
local macro_rules | `(tactic| walk_at "lt") => `(tactic| try simp only [evD, evSs, evS, evE, evEs, evI, evO, evIt, slotQ_0, slotQ_s, cloQ_0, cloQ_s, capQ_nil, capQ_cons, intQ_i, adrQ_a, lstQ_l, tupQ_t, dctQ_d, optQ_s, gvalQ_v, brV_s, asL_l, truV_b, truV_n, truV_i, lenV_t, lenV_s, lenV_l, idxV_t, idxV_s, idxV_l, atI_0, atI_1, atI_2, atI_3, bin_add, bin_sub, bin_mul, bin_div, bin_mod, bin_pow, bin_shl, bin_shr, bin_and, bin_addL, bin_addT, aug_add, aug_sub, aug_mul, cmp_lt, cmp_le, cmp_gt, cmp_ge, cmp_is, cmp_isnt, cmp_eq, cmp_ne, tst_e, wipe_nil, wipe_cons, asg_one, asg_many, asgs_nil, asgs_cons, seqV_t, itV_t, itV_l, itV_s, itV_x, itV_d, itV_set, chkV_x, chkV_d, keyQ_s, keyQ_i, keyV, dctV_d, dctV_set, dctQC_set, bin_addX, idxV_x, cmp_ltx, esLen_n, esLen_c, isCalk_cl, pickV_n, pickV_l, pickV_r, getD_0, getD_s, isFn_fn, isFnk_fn, mthQ_i, bmP_pop, bmP_ins, bmP_ext, bmV_pop, bmV_popAt, bmV_ins, bmV_ext, dropC_d, cellOf_d, seqV_s, seqV_l, chkV_t, chkV_l, chkV_s, chkV_a, callG_fn, isCal_fn, isCal_cls, isCalk_fn, callK_fn, frz_nil, puSp_run, bf_len, bf_abs, bf_int, bf_intb, bf_tupT, bf_tupL, bf_listL, bf_listT, bf_min2, bf_max2, bf_isi, slc_l, slc_t, slc_s, fld_i, setB, tabA_hit, isi_tt, isi_ti, isi_ii, isi_it, isi_ib, isi_bi, isi_bb, isi_ss, Cxt.nox, natI_0, natI_1, natI_2, natI_3, natI_4, natI_5, natI_6, natI_7, Bool.not_true, Bool.not_false, decide_true, decide_false, Bool.false_eq_true, if_true, if_false, celQ_set, idxV_set, Sto.set_set, ixN_30, ixN_31, ixN_32, enumV_n, enumV_c, zipV_n, zipV_c, objQ_set, isNon_n, isNon_t, isNon_i, setC_l, dropC_n, dropC_s, dropC_a, cellOf_0, cellOf_s, cellOf_n, frz_cons, frz1_s, frz1_n, sbst_t, sbst_l, sbst_i, sbst_b, sbst_non, sbst_str, sbst_a, sbsts_n, sbsts_c, bin_addLA_set, lenV_set, seqV_set, bf_tupA_set, bmP_app, bmV_app, bf_sum_set, bf_sum_l, asInts_n, asInts_c, Option.map_some, sz_0, sz_1, sz_2, sz_3, sz_4, sz_5, sz_6, sz_7, List.map_cons, List.map_nil, List.length_cons, List.length_nil, List.cons_append, List.nil_append, List.append_nil, List.drop_nil, List.set_cons_zero, List.set_cons_succ, List.replicate_succ, List.replicate_zero, Nat.reduceSub, Nat.reduceAdd, decide_eq_true_eq, true_and, and_true, cut1_h0, cut1_l1, cut2_h0, cut2_h1, cut2_l1, cut2_l2, cut3_h0, cut3_h1, cut3_h2, cut3_l1, cut3_l2, cut3_l3, cut4_l1, Int.reduceAdd, Int.reduceSub, Int.reduceMod, Int.reduceNeg, compL_cons, compL_nil, forL_cons, forL_nil, rng0, rng1n, rng2, rng3, r62_0, r62_1, r62_2, r62_3, szl_0, szl_1, szl_2, szl_3, szl_4, szl_5, szl_6, szl_7])
def bkBody : Ss := forB 4 Lt.b__law_book
theorem bk_tail : dropS 3 Lt.b__law_book = .cons (.setc 4 (.lst .nil)) (.cons (.forr (.one 5) (.rng1 (.var 1)) bkBody) (.cons (.ret (.tup (.cons (.var 3) (.cons (.var 2) (.cons (.var 4) .nil)))) [4]) .nil)) := rfl
theorem nams {CB C : Addr} {S : Sto} {b q : Addr} {e : E3} {rs : List Rw} {m : Nat} (h : Bk CB C S b q e rs m) : ∀ u ∈ rs.map Prod.fst, Nam u := fun u hu => by
  obtain ⟨r, hr, rfl⟩ := List.mem_map.mp hu
  exact h.nam r hr
section
variable {CB C : Addr} {D : Nat → Li.G} {A : Addr → Str → Prop} {R : EQ} {M : Addr → Str → List Str → Li.G} {S0 S : Sto} {p b q a : Addr} {e : E3} {rs : List Rw} {m n : Nat} {DD : DE}
/-- the names and the new row -/
theorem bk_row (h302 : D 302 = .fn sp__law_pick 2 []) (h308 : D 308 = .fn sp__law_plain_share 1 []) (h312 : D 312 = .fn sp__law_beside 2 []) (h : BkSt CB C S0 S p b q a e rs m n) (hn : n < 2 ^ 66) {o1 o5 o6 o7 o8 o9 o10 : Option Val}
    (k : ∀ t S', Row60' t → BkSt CB C S0 S' p b q a e rs m (n + 8) → DD.nx [some (.adr p), o1, some (eyV e), some (.adr b), some (.adr a), o5, some (.lst (namV rs)), some (trV t), o8, o9, o10, none, none] S') :
    evSs { D := D, A := A, er := R, M := M } (takeS 3 bkBody) DD [some (.adr p), o1, some (eyV e), some (.adr b), some (.adr a), o5, o6, o7, o8, o9, o10, none, none] S := by
  have h24 := h.bk.n24
  unfold bkBody Lt.b__law_book
  simp only [forB_0, forB_s, takeS_s, takeS_0]
  walk_at "lt"
  rw [itV_a h.li, optQ_s]
  refine compL_mapA (f := fun r : Rw => Val.str r.1) rfl (by rw [List.length_nil]; exact sz24 (by omega)) (fun r hr k hk => ?_) ?_
  · unfold rtV
    walk_at "lt"
    exact hk
  have en : [] ++ rs.map (fun r : Rw => Val.str r.1) = namV rs := by
    unfold namV
    rw [List.nil_append, List.map_map]
    rfl
  rw [en]
  walk_at "lt"
  rw [h302, h308, h312]
  walk_at "lt"
  refine call_plain h.pu (by omega) fun x S1 hx hI1 hP1 => ?_
  walk_at "lt"
  refine call_plain hP1 (by omega) fun y S2 hy hI2 hP2 => ?_
  walk_at "lt"
  refine call_plain hP2 (by omega) fun z S3 hz hI3 hP3 => ?_
  walk_at "lt"
  have st := h.pick ((hI1.trans hI2).trans hI3) hP3
  have ht : Row60' (x, y, z) := ⟨hx, hy, hz⟩
  have kk := fun S' n' (hS : BkSt CB C S0 S' p b q a e rs m n') (hn : n' ≤ n + 8) => k (x, y, z) S' ht (hS.pick Ins.refl (hS.pu.up hn))
  have ok1 : okD 50 (.lst (rs.map rtV)) = true := all_map (n := 49) fun r hr => by
    show ([Val.str r.1, trV r.2].all (okD 48)) = true
    rw [List.all_cons, List.all_cons, okD_tr]
    show (PyData.strOk r.1 && true) = true
    rw [h.bk.strs hr]
    rfl
  rw [cmp_neA st.li ok1 rfl, eqB_of (p := rs = []) (by
    constructor
    · intro z
      injection z with z
      simpa using z
    · intro z
      rw [z]
      rfl)]
  by_cases z0 : rs = []
  · rw [decide_eq_true z0]
    walk_at "lt"
    exact kk _ _ st (by omega)
  rw [decide_eq_false z0]
  walk_at "lt"
  refine call_pick hP3 (by omega) (by decide) (by decide) fun w S4 w0 w1 hI4 hP4 => ?_
  have st4 := st.pick hI4 hP4
  walk_at "lt"
  split
  · rw [lenV_a st4.li, optQ_s]
    have hl : 0 < rs.length := List.length_pos_iff.mpr z0
    rw [List.length_map]
    refine call_pick hP4 (by omega) (by omega) (by omega) fun w S5 w0 w1 hI5 hP5 => ?_
    have st5 := st4.pick hI5 hP5
    obtain ⟨r, _, hr, er⟩ := atI_map (f := rtV) w0 w1
    walk_at "lt"
    rw [idxV_a st5.li, er]
    unfold rtV
    walk_at "lt"
    refine call_beside hP5 (by omega) (h.r60 r hr) fun t S6 ht hI6 hP6 => ?_
    exact k t S6 ht ((st5.pick hI6 hP6).pick Ins.refl (hP6.up (by omega)))
  · exact kk _ _ st4 (by omega)
theorem namV_map (rs : List Rw) : namV rs = (rs.map Prod.fst).map Val.str := rfl
theorem nam_new {rs : List Rw} (h : rs.length ≤ 24) : (rs.map Prod.fst).length ≤ 25 := by
  rw [List.length_map]
  omega
/-- put in -/
theorem bk_put (hA : ∀ f ∈ bkF, A CB f) (h24 : D 24 = .cls C true (sp_Shade___init__ C) 4 []) (h302 : D 302 = .fn sp__law_pick 2 []) (h311 : D 311 = .fn sp__law_name 2 []) (m1 : M CB ("put" : Str) [] = .fn (sp_Book_put CB C) 3 []) (h : BkSt CB C S0 S p b q a e rs m n) (hn : n < 2 ^ 66) (hm : m < 1000) (hl : rs.length < 24) {t : T3} (ht : Row60' t) {o1 o5 o8 o9 o10 : Option Val}
    (k : ∀ (us : List Rw) (S' : Sto) (x : Str) (i w : Int), us = rs ++ [(x, t)] → BkSt CB C S0 S' p b q a e us (m + 1) (n + 8) → 0 ≤ i → i < us.length → DD.nx [some (.adr p), o1, some (eyV e), some (.adr b), some (.adr a), o5, some (.lst (namV rs)), some (trV t), some (.str x), some (.int i), some (.int w), none, none] S') :
    evSs { D := D, A := A, er := R, M := M } (takeS 4 (dropS 3 bkBody)) DD [some (.adr p), o1, some (eyV e), some (.adr b), some (.adr a), o5, some (.lst (namV rs)), some (trV t), o8, o9, o10, none, none] S := by
  unfold bkBody Lt.b__law_book
  simp only [forB_0, forB_s, takeS_s, takeS_0, dropS_s, dropS_0]
  walk_at "lt"
  rw [h24, h302, h311]
  walk_at "lt"
  rw [namV_map]
  refine call_name h.pu (by omega) (nam_new h.bk.n24) (nams h.bk) fun x S1 hx hx2 hI1 hP1 => ?_
  have st1 := h.pick hI1 hP1
  walk_at "lt"
  rw [st1.bk.mth (by decide) m1]
  unfold trV
  walk_at "lt"
  refine make_Shade ht.in3 ?_
  walk_at "lt"
  refine ⟨b, q, e, rs, m, x, t, rfl, st1.bk, by omega, hl, hx, hx2, ht.in3, fun S2 hB2 hI2 => ?_⟩
  have st2 : S2 a = some (.lst (rs.map rtV)) := (hI2 a h.ab h.aq).trans st1.li
  walk_at "lt"
  rw [celQ_h st2, celQ_h st2]
  have st3 := st1.both (us := rs ++ [(x, t)]) hI2 hB2 fun r hr => by
    rcases List.mem_append.mp hr with hr | hr
    · exact h.r60 r hr
    · rw [List.mem_singleton.mp hr]
      exact ht
  have er : rs.map rtV ++ [Val.tup [.str x, .tup [frV t.1, frV t.2.1, frV t.2.2]]] = (rs ++ [(x, t)]).map rtV := by
    rw [List.map_append]
    rfl
  rw [er]
  refine ⟨trivial, by rw [List.length_map, sizeL]; omega, ?_⟩
  rw [List.length_map]
  have hlen : (rs ++ [(x, t)]).length = rs.length + 1 := by simp
  refine call_pick st3.pu (by omega) (by omega) (by omega) fun i S4 i0 i1 hI4 hP4 => ?_
  walk_at "lt"
  refine call_pick hP4 (by omega) (by decide) (by decide) fun w S5 w0 w1 hI5 hP5 => ?_
  walk_at "lt"
  exact k _ S5 x i w rfl (((st3.pick hI4 hP4).pick hI5 hP5).pick Ins.refl (hP5.up (by omega))) i0 i1
theorem seqI {n : Nat} {i : Int} (h0 : 0 ≤ i) (h1 : i < n) : seqIndex? i n = some i.toNat := by
  unfold seqIndex?
  simp
  omega
theorem era_map {α β : Type} {f : α → β} : ∀ {xs : List α} {k : Nat}, (xs.map f).eraseIdx k = (xs.eraseIdx k).map f
  | [], k => by simp
  | x :: r, 0 => rfl
  | x :: r, k + 1 => by
    show f x :: (r.map f).eraseIdx k = f x :: (r.eraseIdx k).map f
    rw [era_map]
/-- dropped -/
theorem bk_drop (hA : ∀ f ∈ bkF, A CB f) (m1 : M CB ("drop" : Str) [] = .fn (sp_Book_drop CB C) 2 []) (h : BkSt CB C S0 S p b q a e rs m n) (hm : m < 1000) {i w : Int} (i0 : 0 ≤ i) (i1 : i < rs.length) {o1 o5 o6 o7 o8 : Option Val}
    (k : ∀ us S', us.length ≤ rs.length → (w = 2 → us = rs) → BkSt CB C S0 S' p b q a e us (m + 1) n → DD.nx [some (.adr p), o1, some (eyV e), some (.adr b), some (.adr a), o5, o6, o7, o8, some (.int i), some (.int w), none, none] S') (k0 : DD.nx [some (.adr p), o1, some (eyV e), some (.adr b), some (.adr a), o5, o6, o7, o8, some (.int i), some (.int w), none, none] S) :
    evSs { D := D, A := A, er := R, M := M } (takeS 1 (dropS 7 bkBody)) DD [some (.adr p), o1, some (eyV e), some (.adr b), some (.adr a), o5, o6, o7, o8, some (.int i), some (.int w), none, none] S := by
  unfold bkBody Lt.b__law_book
  simp only [forB_0, forB_s, takeS_s, takeS_0, dropS_s, dropS_0]
  walk_at "lt"
  have hk : rs[i.toNat]? = some (rs[i.toNat]'(by omega)) := List.getElem?_eq_getElem (by omega)
  generalize hr : rs[i.toNat]'(by omega) = r at hk
  have hin : r.1 ∈ rs.map Prod.fst := List.mem_map.mpr ⟨r, List.mem_of_getElem? hk, rfl⟩
  have pl := plcOf_nodup h.bk.nod hk
  by_cases z : w = 1
  · rw [if_pos z, lenV_a h.li, optQ_s]
    walk_at "lt"
    split
    · rw [h.bk.mth (by decide) m1]
      walk_at "lt"
      rw [celQ_h h.li, celQ_h h.li]
      refine ⟨trivial, ⟨by omega, by have := h.bk.n24; omega⟩, ?_⟩
      rw [List.length_map, seqI i0 i1, optQ_s, List.getElem?_map, hk]
      show optQ (some (rtV r)) _
      unfold rtV
      walk_at "lt"
      have eqe : (rs.map fun r : Rw => Val.tup [.str r.1, trV r.2]).eraseIdx i.toNat = (dropR r.1 rs).map rtV := by
        unfold dropR
        rw [pl, era_map]
        rfl
      rw [eqe]
      have hsub : (dropR r.1 rs).Sublist rs := List.eraseIdx_sublist _ _
      refine ⟨b, q, e, rs, m, r.1, rfl, h.bk.keep (Sto.set_ne h.ab.symm) (Sto.set_ne h.aq.symm), by omega, h.bk.nam r (List.mem_of_getElem? hk), hin, fun S2 hB2 hI2 => ?_⟩
      exact k _ S2 hsub.length_le (fun z2 => by omega) (h.both2 hI2 hB2 fun r hr => h.r60 r (hsub.subset hr))
    · exact k0
  · rw [if_neg z, if_neg z]
    exact k0
/-- renamed -/
theorem bk_ren (hA : ∀ f ∈ bkF, A CB f) (h311 : D 311 = .fn sp__law_name 2 []) (m1 : M CB ("rename" : Str) [] = .fn (sp_Book_rename CB C) 3 []) (h : BkSt CB C S0 S p b q a e rs m n) (hn : n < 2 ^ 66) (hm : m < 1000) {i w : Int} (i0 : 0 ≤ i) (i1 : w = 2 → i < rs.length) {o1 o5 o6 o7 o8 : Option Val}
    (k : ∀ us S' o8, us.length ≤ rs.length → BkSt CB C S0 S' p b q a e us (m + 1) (n + 6) → DD.nx [some (.adr p), o1, some (eyV e), some (.adr b), some (.adr a), o5, o6, o7, o8, some (.int i), some (.int w), none, none] S') (k0 : DD.nx [some (.adr p), o1, some (eyV e), some (.adr b), some (.adr a), o5, o6, o7, o8, some (.int i), some (.int w), none, none] S) :
    evSs { D := D, A := A, er := R, M := M } (dropS 8 bkBody) DD [some (.adr p), o1, some (eyV e), some (.adr b), some (.adr a), o5, o6, o7, o8, some (.int i), some (.int w), none, none] S := by
  have h24 := h.bk.n24
  unfold bkBody Lt.b__law_book
  simp only [forB_0, forB_s, takeS_s, takeS_0, dropS_s, dropS_0]
  walk_at "lt"
  by_cases z : w = 2
  · rw [if_pos z, itV_a h.li, optQ_s, h311]
    walk_at "lt"
    have i1 := i1 z
    have hk : rs[i.toNat]? = some (rs[i.toNat]'(by omega)) := List.getElem?_eq_getElem (by omega)
    generalize hr : rs[i.toNat]'(by omega) = r at hk
    have hin : r.1 ∈ rs.map Prod.fst := List.mem_map.mpr ⟨r, List.mem_of_getElem? hk, rfl⟩
    have pl := plcOf_nodup h.bk.nod hk
    refine compL_mapA (g := rtV) (xs := rs) (f := fun r : Rw => Val.str r.1) rfl (by rw [List.length_nil]; exact sz24 (by omega)) (fun r hr k hk => ?_) ?_
    · unfold rtV
      walk_at "lt"
      exact hk
    have en : [] ++ rs.map (fun r : Rw => Val.str r.1) = (rs.map Prod.fst).map Val.str := by
      rw [List.nil_append, List.map_map]
      rfl
    rw [en]
    refine call_name h.pu (by omega) (nam_new h24) (nams h.bk) fun x S1 hx hx2 hI1 hP1 => ?_
    have st1 := h.pick hI1 hP1
    walk_at "lt"
    have ea : L2.atI (rs.map rtV) i = some (rtV r) := by
      rw [show i = ((i.toNat : Nat) : Int) by omega, atI_nat (by rw [List.length_map]; omega), List.getElem?_map, hk]
      rfl
    rw [st1.bk.mth (by decide) m1]
    walk_at "lt"
    rw [idxV_a st1.li, ea]
    unfold rtV
    walk_at "lt"
    refine ⟨b, q, e, rs, m, r.1, x, rfl, st1.bk, by omega, h.bk.nam r (List.mem_of_getElem? hk), hin, hx, hx2, fun S2 hB2 hI2 => ?_⟩
    have st2 : S2 a = some (.lst (rs.map rtV)) := (hI2 a h.ab h.aq).trans st1.li
    walk_at "lt"
    rw [idxV_a st2, ea]
    unfold rtV
    walk_at "lt"
    have ej : L2.ixN (rs.map rtV).length i = some i.toNat := by
      unfold L2.ixN
      rw [List.length_map, if_pos (by omega), if_pos (by omega)]
    have eset : (rs.map fun r : Rw => Val.tup [.str r.1, trV r.2]).set i.toNat (.tup [.str x, trV r.2]) = (renR r.1 x rs).map rtV := by
      rw [renR_eq (t := r.2) (by rw [pl]; exact hk), pl, List.map_set]
      rfl
    rw [celQ_h st2, ej, optQ_s]
    show DD.nx _ (S2.set a (.lst ((rs.map fun r : Rw => Val.tup [.str r.1, trV r.2]).set i.toNat (.tup [.str x, trV r.2]))))
    rw [eset]
    have hre : renR r.1 x rs = rs.set (plcOf r.1 rs) (x, r.2) := renR_eq (t := r.2) (by rw [pl]; exact hk)
    refine k _ _ _ (by rw [hre, List.length_set]; omega) ((st1.both hI2 hB2 fun u hu => ?_).pick Ins.refl (((st1.pu.ins2 hI2 h.bp h.qp).set h.ap)))
    rw [hre] at hu
    rcases List.mem_or_eq_of_mem_set hu with z | z
    · exact h.r60 u z
    · rw [z]
      exact h.r60 r (List.mem_of_getElem? hk)
  · rw [if_neg z]
    exact k0
theorem dropS_dropS : ∀ (n m : Nat) (b : Ss), dropS n (dropS m b) = dropS (m + n) b
  | n, 0, b => by rw [dropS_0, Nat.zero_add]
  | n, m + 1, .nil => by
    show dropS n .nil = dropS (m + 1 + n) .nil
    cases n with
    | zero => rw [dropS_0]; rfl
    | succ n => rw [show m + 1 + (n + 1) = (m + 1 + n) + 1 by omega]; rfl
  | n, m + 1, .cons s r => by
    rw [dropS_s, dropS_dropS n m r, show m + 1 + n = (m + n) + 1 by omega, dropS_s]
/-- one turn -/
theorem bk_turn (hA : ∀ f ∈ bkF, A CB f) (h24 : D 24 = .cls C true (sp_Shade___init__ C) 4 []) (h302 : D 302 = .fn sp__law_pick 2 []) (h308 : D 308 = .fn sp__law_plain_share 1 []) (h311 : D 311 = .fn sp__law_name 2 []) (h312 : D 312 = .fn sp__law_beside 2 []) (m1 : M CB ("put" : Str) [] = .fn (sp_Book_put CB C) 3 []) (m2 : M CB ("drop" : Str) [] = .fn (sp_Book_drop CB C) 2 []) (m3 : M CB ("rename" : Str) [] = .fn (sp_Book_rename CB C) 3 [])
    (h : BkSt CB C S0 S p b q a e rs m n) (hn : n < 2 ^ 65) (hm : m < 500) (hl : rs.length < 24) {o1 o5 o6 o7 o8 o9 o10 : Option Val}
    (k : ∀ (us : List Rw) (S' : Sto) (m' : Nat) (o6 o7 o8 o9 o10 : Option Val), us.length ≤ rs.length + 1 → m' ≤ m + 3 → BkSt CB C S0 S' p b q a e us m' (n + 22) → DD.nx [some (.adr p), o1, some (eyV e), some (.adr b), some (.adr a), o5, o6, o7, o8, o9, o10, none, none] S') :
    evSs { D := D, A := A, er := R, M := M } bkBody DD [some (.adr p), o1, some (eyV e), some (.adr b), some (.adr a), o5, o6, o7, o8, o9, o10, none, none] S := by
  have up : ∀ {us : List Rw} {S' : Sto} {m' n' : Nat}, BkSt CB C S0 S' p b q a e us m' n' → n' ≤ n + 22 → BkSt CB C S0 S' p b q a e us m' (n + 22) := fun h hn => h.pick Ins.refl (h.pu.up hn)
  rw [evSs_split 3]
  refine bk_row h302 h308 h312 h (by omega) fun t S1 ht h1 => ?_
  dsimp only
  rw [evSs_split 4]
  refine bk_put hA h24 h302 h311 m1 h1 (by omega) (by omega) hl ht fun us S2 x i w hus h2 i0 i1 => ?_
  have hul : us.length = rs.length + 1 := by rw [hus]; simp
  dsimp only
  rw [dropS_dropS 4 3, evSs_split 1]
  have last : ∀ (vs : List Rw) (S3 : Sto) (m3' : Nat), vs.length ≤ rs.length + 1 → (w = 2 → i < vs.length) → m3' ≤ m + 2 → BkSt CB C S0 S3 p b q a e vs m3' (n + 8 + 8) → evSs { D := D, A := A, er := R, M := M } (dropS 8 bkBody) DD [some (.adr p), o1, some (eyV e), some (.adr b), some (.adr a), o5, some (.lst (namV rs)), some (trV t), some (.str x), some (.int i), some (.int w), none, none] S3 := fun vs S3 m3' hv hw hm3 h3 =>
    bk_ren hA h311 m3 h3 (by omega) (by omega) i0 hw (fun us S' o8 hu h4 => k us S' _ _ _ _ _ _ (by omega) (by omega) (up h4 (by omega))) (k vs S3 _ _ _ _ _ _ hv (by omega) (up h3 (by omega)))
  refine bk_drop hA m2 h2 (by omega) i0 i1 (fun vs S3 hv hw h3 => ?_) ?_
  · dsimp only
    rw [dropS_dropS 1 7]
    exact last vs S3 _ (by omega) (fun z => by rw [hw z]; exact i1) (by omega) h3
  · dsimp only
    rw [dropS_dropS 1 7]
    exact last us S2 _ (by omega) (fun _ => i1) (by omega) h2
/-- behind the Books -/
theorem bk_loop {Q : VQ} {many : Nat} {NX : Env → Sto → Prop} (hA : ∀ f ∈ bkF, A CB f) (h24 : D 24 = .cls C true (sp_Shade___init__ C) 4 []) (h302 : D 302 = .fn sp__law_pick 2 []) (h308 : D 308 = .fn sp__law_plain_share 1 []) (h311 : D 311 = .fn sp__law_name 2 []) (h312 : D 312 = .fn sp__law_beside 2 []) (m1 : M CB ("put" : Str) [] = .fn (sp_Book_put CB C) 3 []) (m2 : M CB ("drop" : Str) [] = .fn (sp_Book_drop CB C) 2 []) (m3 : M CB ("rename" : Str) [] = .fn (sp_Book_rename CB C) 3 [])
    (hP : Pur S p n) (hn : n < 2 ^ 64) (hB : Bk CB C S b q e [] 0) (bp : b ≠ p) (qp : q ≠ p) (nb : S0 b = none) (nq : S0 q = none) (old : ∀ x, S0 x ≠ none → x ≠ p → S x = S0 x) (hmany : many ≤ 24)
    (hQ : ∀ rs m S', Pur S' p (n + 900) → Bk CB C S' b q e rs m → m ≤ 100 → (∀ r ∈ rs, Row60' r.2) → rs.length ≤ many → (∀ x, S0 x ≠ none → x ≠ p → S' x = S0 x) → Q (.tup [.adr b, eyV e, .lst (rs.map rtV)]) S') :
    evSs { D := D, A := A, er := R, M := M } (dropS 3 Lt.b__law_book) { nx := NX, rt := Q } [some (.adr p), some (.int many), some (eyV e), some (.adr b), none, none, none, none, none, none, none, none, none] S := by
  rw [bk_tail]
  walk_at "lt"
  intro a ha
  have ap := hP.ne ha
  have na : S0 a = none := Classical.byContradiction fun z => by
    have := old a z ap
    rw [ha] at this
    exact z this.symm
  have ab : a ≠ b := fun z => by
    rw [z, hB.ob] at ha
    cases ha
  have aq : a ≠ q := fun z => by
    obtain ⟨hs, hq, _⟩ := hB.pa
    rw [z, hq] at ha
    cases ha
  have st : BkSt CB C S0 (S.set a (.lst (([] : List Rw).map rtV))) p b q a e [] 0 n := ⟨hP.set ap, hB.keep (Sto.set_ne ab.symm) (Sto.set_ne aq.symm), Sto.set_same, fun r hr => (nomatch hr), fun x hx hp => by
    rw [Sto.set_ne fun z => hx (by rw [z]; exact na)]
    exact old x hx hp, bp, qp, ap, ab, aq, nb, nq, na⟩
  refine ⟨⟨by omega, by omega⟩, ?_⟩
  rw [show ((many : Int)).toNat = many by omega, rngV_range]
  refine forL_inv (fun r σ S' => ∃ (i : Nat) (rs : List Rw) (m n' : Nat) (o5 o6 o7 o8 o9 o10 : Option Val), i ≤ many ∧ r = ((List.range many).drop i).map (fun k : Nat => Val.int (0 + k)) ∧ rs.length ≤ i ∧ m ≤ 3 * i ∧ n' ≤ n + 22 * i ∧ BkSt CB C S0 S' p b q a e rs m n' ∧ σ = [some (.adr p), some (.int many), some (eyV e), some (.adr b), some (.adr a), o5, o6, o7, o8, o9, o10, none, none]) (fun _ _ _ _ => trivial) (fun v r σ S' nx h hn2 => ?_) (fun σ S' h => ?_) ⟨0, [], 0, n, none, none, none, none, none, none, Nat.zero_le _, by rw [List.drop_zero], Nat.le_refl _, Nat.le_refl _, Nat.le_refl _, st, rfl⟩
  · obtain ⟨i, rs, m, n', o5, o6, o7, o8, o9, o10, hi, hr, hl, hm, hn', h, rfl⟩ := h
    have hil : i < many := by
      rcases Nat.lt_or_ge i many with z | z
      · exact z
      · rw [List.drop_eq_nil_of_le (by rw [List.length_range]; exact z)] at hr
        cases hr
    rw [List.drop_eq_getElem_cons (by rw [List.length_range]; exact hil), List.map_cons] at hr
    injection hr with hv hr
    walk_at "lt"
    refine bk_turn hA h24 h302 h308 h311 h312 m1 m2 m3 h (by omega) (by omega) (by omega) fun us S2 m' o6 o7 o8 o9 o10 hu hm2 h2 => ?_
    exact hn2 _ _ ⟨i + 1, us, m', _, _, o6, o7, o8, o9, o10, by omega, hr, by omega, by omega, by omega, h2, rfl⟩
  · obtain ⟨i, rs, m, n', o5, o6, o7, o8, o9, o10, hi, hr, hl, hm, hn', h, rfl⟩ := h
    walk_at "lt"
    rw [cellOf_h h.li]
    walk_at "lt"
    have eb : sbst a (.lst (rs.map rtV)) (.adr b) = .adr b := by
      rw [sbst, if_neg ab.symm]
    have ee : sbst a (.lst (rs.map rtV)) (eyV e) = eyV e := sbst_ok (n := 2) (by
      show ([Val.int e.1, .int e.2.1, .int e.2.2].all (okD 1)) = true
      rfl)
    rw [eb, ee]
    refine hQ rs m _ ((h.pu.del ap).up (by omega)) (h.bk.keep (Sto.del_ne ab.symm) (Sto.del_ne aq.symm)) (by omega) h.r60 (by omega) fun x hx hp => ?_
    rw [Sto.del_ne fun z => hx (by rw [z]; exact na)]
    exact h.old x hx hp
theorem hsp__law_book (h24 : D 24 = .cls C true (sp_Shade___init__ C) 4 []) (h38 : D 38 = .cls CB false (sp_Book___init__ CB C) 2 [.non]) (h252 : D 252 = .clk CB false (sp_Book___init__ CB C) 2 0 [("eye" : Str)] [.inl 0]) (h302 : D 302 = .fn sp__law_pick 2 []) (h308 : D 308 = .fn sp__law_plain_share 1 []) (h309 : D 309 = .fn sp__law_eye 1 []) (h311 : D 311 = .fn sp__law_name 2 []) (h312 : D 312 = .fn sp__law_beside 2 []) (hA : ∀ f ∈ bkF, A CB f) (m1 : M CB ("put" : Str) [] = .fn (sp_Book_put CB C) 3 []) (m2 : M CB ("drop" : Str) [] = .fn (sp_Book_drop CB C) 2 []) (m3 : M CB ("rename" : Str) [] = .fn (sp_Book_rename CB C) 3 []) (vs : List Val) (S : Sto) (Q : VQ) (R : EQ) (hl : vs.length = 2) (h : (sp__law_book CB C).run vs S Q R) : evD { D := D, A := A, er := R, M := M } Lt.b__law_book 13 [4] vs S Q := by
  obtain ⟨p, many, n, rfl, hP, h60, hmany, hQ⟩ := h
  rw [evD_split 3]
  conv =>
    enter [2]
    unfold Lt.b__law_book
  simp only [takeS_s, takeS_0]
  walk_at "lt"
  rw [h38, h252, h302, h309]
  walk_at "lt"
  refine call_eye hP (by omega) fun e S1 he hI1 hP1 => ?_
  walk_at "lt"
  have pS : S p ≠ none := hP.some
  refine make_Book he fun b1 q1 S2 nb1 nq1 hB1 hI2 => ?_
  have bp1 : b1 ≠ p := fun z => by
    rw [z] at nb1
    exact hP1.some nb1
  have qp1 : q1 ≠ p := fun z => by
    rw [z] at nq1
    exact hP1.some nq1
  have hP2 := hP1.ins2 hI2 bp1 qp1
  refine make_BookK he fun b2 q2 S3 nb2 nq2 hB2 hI3 => ?_
  have bp2 : b2 ≠ p := fun z => by
    rw [z] at nb2
    exact hP2.some nb2
  have qp2 : q2 ≠ p := fun z => by
    rw [z] at nq2
    exact hP2.some nq2
  have hP3 := hP2.ins2 hI3 bp2 qp2
  have hb1 : S2 b1 ≠ none := by
    rw [hB1.ob]
    exact fun z => nomatch z
  have hq1 : S2 q1 ≠ none := by
    obtain ⟨hs, z, _⟩ := hB1.pa
    rw [z]
    exact fun z => nomatch z
  have hB1' : Bk CB C S3 b1 q1 e [] 0 := hB1.keep (hI3 b1 (fun z => hb1 (z ▸ nb2)) fun z => hb1 (z ▸ nq2)) (hI3 q1 (fun z => hq1 (z ▸ nb2)) fun z => hq1 (z ▸ nq2))
  have n0 : ∀ {x : Addr}, x ≠ p → S1 x = none → S x = none := fun hx h => (hI1 _ hx).symm.trans h
  have old2 : ∀ x, S x ≠ none → x ≠ p → S2 x = S x ∧ x ≠ b1 ∧ x ≠ q1 := fun x hx hp => by
    have x1 : x ≠ b1 := fun z => hx (by rw [z]; exact n0 bp1 nb1)
    have x2 : x ≠ q1 := fun z => hx (by rw [z]; exact n0 qp1 nq1)
    exact ⟨(hI2 x x1 x2).trans (hI1 x hp), x1, x2⟩
  have n2 : ∀ {x : Addr}, x ≠ p → S2 x = none → S x = none := fun {x} hx h => Classical.byContradiction fun z => by
    rw [(old2 x z hx).1] at h
    exact z h
  have old3 : ∀ x, S x ≠ none → x ≠ p → S3 x = S x := fun x hx hp => by
    have x1 : x ≠ b2 := fun z => hx (by rw [z]; exact n2 bp2 nb2)
    have x2 : x ≠ q2 := fun z => hx (by rw [z]; exact n2 qp2 nq2)
    exact (hI3 x x1 x2).trans (old2 x hx hp).1
  refine call_pick hP3 (by omega) (by decide) (by decide) fun w S4 w0 w1 hI4 hP4 => ?_
  have old4 : ∀ x, S x ≠ none → x ≠ p → S4 x = S x := fun x hx hp => (hI4 x hp).trans (old3 x hx hp)
  have fin : ∀ (b q : Addr) (e : E3) (S5 : Sto) (n5 : Nat), Pur S5 p n5 → n5 ≤ n + 10 → Bk CB C S5 b q e [] 0 → b ≠ p → q ≠ p → S b = none → S q = none → (∀ x, S x ≠ none → x ≠ p → S5 x = S x) → ∀ NX, evSs { D := D, A := A, er := R, M := M } (dropS 3 Lt.b__law_book) { nx := NX, rt := Q } [some (.adr p), some (.int many), some (eyV e), some (.adr b), none, none, none, none, none, none, none, none, none] S5 := fun b q e S5 n5 hP5 hn5 hB5 bp qp nb nq old NX =>
    bk_loop hA h24 h302 h308 h311 h312 m1 m2 m3 hP5 (by omega) hB5 bp qp nb nq old hmany fun rs m S' q1 q2 q3 q4 q5 q6 => hQ b q e rs m S' (q1.up (by omega)) q2 q3 q4 q5 bp qp nb nq q6
  obtain ⟨b, q, hB4, bp, qp, nb, nq, ei⟩ : ∃ b q, Bk CB C S4 b q e [] 0 ∧ b ≠ p ∧ q ≠ p ∧ S b = none ∧ S q = none ∧ L2.atI [Val.adr b1, .adr b2] w = some (.adr b) := by
    have : w = 0 ∨ w = 1 := by omega
    rcases this with rfl | rfl
    · exact ⟨b1, q1, hB1'.ins hI4 bp1 qp1, bp1, qp1, n0 bp1 nb1, n0 qp1 nq1, rfl⟩
    · exact ⟨b2, q2, hB2.ins hI4 bp2 qp2, bp2, qp2, n2 bp2 nb2, n2 qp2 nq2, rfl⟩
  walk_at "lt"
  rw [ei]
  walk_at "lt"
  have oke : ∀ e : E3, okD 50 (eyV e) = true := fun e => rfl
  rw [show Val.tup [.int 1, .int 1, .int 1] = eyV (1, 1, 1) from rfl, cmp_eqP (oke _) (oke _), eqB_of (p := e = (1, 1, 1)) (by
    constructor
    · intro z
      obtain ⟨e1, e2, e3⟩ := e
      unfold eyV at z
      injection z with z
      injection z with z1 z
      injection z with z2 z
      injection z with z3 z
      injection z1 with z1
      injection z2 with z2
      injection z3 with z3
      simp only at z1 z2 z3
      rw [z1, z2, z3]
    · intro z
      rw [z])]
  by_cases z : e = (1, 1, 1)
  · rw [decide_eq_true z]
    walk_at "lt"
    refine call_pick hP4 (by omega) (by decide) (by decide) fun u S5 u0 u1 hI5 hP5 => ?_
    have old5 : ∀ x, S x ≠ none → x ≠ p → S5 x = S x := fun x hx hp => (hI5 x hp).trans (old4 x hx hp)
    walk_at "lt"
    split
    · refine make_Book0 fun b3 q3 S6 nb3 nq3 hB3 hI6 => ?_
      have bp3 : b3 ≠ p := fun z => by
        rw [z] at nb3
        exact hP5.some nb3
      have qp3 : q3 ≠ p := fun z => by
        rw [z] at nq3
        exact hP5.some nq3
      have n5 : ∀ {x : Addr}, x ≠ p → S5 x = none → S x = none := fun {x} hx h => Classical.byContradiction fun z => by
        rw [old5 x z hx] at h
        exact z h
      subst z
      exact fin b3 q3 (1, 1, 1) S6 _ (hP5.ins2 hI6 bp3 qp3) (by omega) hB3 bp3 qp3 (n5 bp3 nb3) (n5 qp3 nq3) (fun x hx hp => (hI6 x (fun z => hx (by rw [z]; exact n5 bp3 nb3)) fun z => hx (by rw [z]; exact n5 qp3 nq3)).trans (old5 x hx hp)) _
    · exact fin b q e S5 _ hP5 (by omega) (hB4.ins hI5 bp qp) bp qp nb nq old5 _
  · rw [decide_eq_false z]
    walk_at "lt"
    exact fin b q e S4 _ hP4 (by omega) hB4 bp qp nb nq old4 _
end
end Li
set_option Elab.async false
set_option linter.all false
set_option maxRecDepth 100000
set_option maxHeartbeats 4000000
/-! Lb3: limits; that a Book stays. -/
namespace Li
open PySem
local macro_rules | `(tactic| walk_at "li") => `(tactic| simp only [evD, evSs, evS, evE, evEs, evI, evO, evIt, slotQ_0, slotQ_s, cloQ_0, cloQ_s, capQ_nil, capQ_cons, intQ_i, adrQ_a, lstQ_l, tupQ_t, dctQ_d, optQ_s, gvalQ_v, brV_s, asL_l, truV_b, truV_n, truV_i, lenV_t, lenV_s, lenV_l, idxV_t, idxV_s, idxV_l, atI_0, atI_1, atI_2, atI_3, bin_add, bin_sub, bin_mul, bin_div, bin_mod, bin_pow, bin_shl, bin_shr, bin_and, bin_addL, bin_addT, aug_add, aug_sub, aug_mul, cmp_lt, cmp_le, cmp_gt, cmp_ge, cmp_is, cmp_isnt, cmp_eq, cmp_ne, tst_e, wipe_nil, wipe_cons, asg_one, asg_many, asgs_nil, asgs_cons, seqV_t, itV_t, itV_l, itV_s, itV_x, itV_d, itV_set, chkV_x, chkV_d, keyQ_s, keyQ_i, keyV, dctV_d, dctV_set, dctQC_set, bin_addX, idxV_x, cmp_ltx, esLen_n, esLen_c, isCalk_cl, pickV_n, pickV_l, pickV_r, getD_0, getD_s, isFn_fn, isFnk_fn, mthQ_i, bmP_pop, bmP_ins, bmP_ext, bmV_pop, bmV_popAt, bmV_ins, bmV_ext, dropC_d, cellOf_d, seqV_s, seqV_l, chkV_t, chkV_l, chkV_s, chkV_a, callG_fn, isCal_fn, isCal_cls, isCalk_fn, callK_fn, frz_nil, puSp_run, bf_len, bf_abs, bf_int, bf_intb, bf_tupT, bf_tupL, bf_listL, bf_listT, bf_min2, bf_max2, bf_isi, slc_l, slc_t, slc_s, fld_i, setB, tabA_hit, isi_tt, isi_ti, isi_ii, isi_it, isi_ib, isi_bi, isi_bb, isi_ss, Cxt.nox, natI_0, natI_1, natI_2, natI_3, natI_4, natI_5, natI_6, natI_7, Bool.not_true, Bool.not_false, decide_true, decide_false, Bool.false_eq_true, if_true, if_false, celQ_set, idxV_set, Sto.set_set, ixN_30, ixN_31, ixN_32, enumV_n, enumV_c, zipV_n, zipV_c, objQ_set, isNon_n, isNon_t, isNon_i, setC_l, dropC_n, dropC_s, dropC_a, cellOf_0, cellOf_s, cellOf_n, frz_cons, frz1_s, frz1_n, sbst_t, sbst_l, sbst_i, sbst_b, sbst_non, sbst_str, sbst_a, sbsts_n, sbsts_c, bin_addLA_set, lenV_set, seqV_set, bf_tupA_set, bmP_app, bmV_app, bf_sum_set, bf_sum_l, asInts_n, asInts_c, Option.map_some, sz_0, sz_1, sz_2, sz_3, sz_4, sz_5, sz_6, sz_7, List.map_cons, List.map_nil, List.length_cons, List.length_nil, List.cons_append, List.nil_append, List.append_nil, List.drop_nil, List.set_cons_zero, List.set_cons_succ, List.replicate_succ, List.replicate_zero, Nat.reduceSub, Nat.reduceAdd, decide_eq_true_eq, true_and, and_true])
local macro_rules | `(tactic| walk_at "lt") => `(tactic| try simp only [evD, evSs, evS, evE, evEs, evI, evO, evIt, slotQ_0, slotQ_s, cloQ_0, cloQ_s, capQ_nil, capQ_cons, intQ_i, adrQ_a, lstQ_l, tupQ_t, dctQ_d, optQ_s, gvalQ_v, brV_s, asL_l, truV_b, truV_n, truV_i, lenV_t, lenV_s, lenV_l, idxV_t, idxV_s, idxV_l, atI_0, atI_1, atI_2, atI_3, bin_add, bin_sub, bin_mul, bin_div, bin_mod, bin_pow, bin_shl, bin_shr, bin_and, bin_addL, bin_addT, aug_add, aug_sub, aug_mul, cmp_lt, cmp_le, cmp_gt, cmp_ge, cmp_is, cmp_isnt, cmp_eq, cmp_ne, tst_e, wipe_nil, wipe_cons, asg_one, asg_many, asgs_nil, asgs_cons, seqV_t, itV_t, itV_l, itV_s, itV_x, itV_d, itV_set, chkV_x, chkV_d, keyQ_s, keyQ_i, keyV, dctV_d, dctV_set, dctQC_set, bin_addX, idxV_x, cmp_ltx, esLen_n, esLen_c, isCalk_cl, pickV_n, pickV_l, pickV_r, getD_0, getD_s, isFn_fn, isFnk_fn, mthQ_i, bmP_pop, bmP_ins, bmP_ext, bmV_pop, bmV_popAt, bmV_ins, bmV_ext, dropC_d, cellOf_d, seqV_s, seqV_l, chkV_t, chkV_l, chkV_s, chkV_a, callG_fn, isCal_fn, isCal_cls, isCalk_fn, callK_fn, frz_nil, puSp_run, bf_len, bf_abs, bf_int, bf_intb, bf_tupT, bf_tupL, bf_listL, bf_listT, bf_min2, bf_max2, bf_isi, slc_l, slc_t, slc_s, fld_i, setB, tabA_hit, isi_tt, isi_ti, isi_ii, isi_it, isi_ib, isi_bi, isi_bb, isi_ss, Cxt.nox, natI_0, natI_1, natI_2, natI_3, natI_4, natI_5, natI_6, natI_7, Bool.not_true, Bool.not_false, decide_true, decide_false, Bool.false_eq_true, if_true, if_false, celQ_set, idxV_set, Sto.set_set, ixN_30, ixN_31, ixN_32, enumV_n, enumV_c, zipV_n, zipV_c, objQ_set, isNon_n, isNon_t, isNon_i, setC_l, dropC_n, dropC_s, dropC_a, cellOf_0, cellOf_s, cellOf_n, frz_cons, frz1_s, frz1_n, sbst_t, sbst_l, sbst_i, sbst_b, sbst_non, sbst_str, sbst_a, sbsts_n, sbsts_c, bin_addLA_set, lenV_set, seqV_set, bf_tupA_set, bmP_app, bmV_app, bf_sum_set, bf_sum_l, asInts_n, asInts_c, Option.map_some, sz_0, sz_1, sz_2, sz_3, sz_4, sz_5, sz_6, sz_7, List.map_cons, List.map_nil, List.length_cons, List.length_nil, List.cons_append, List.nil_append, List.append_nil, List.drop_nil, List.set_cons_zero, List.set_cons_succ, List.replicate_succ, List.replicate_zero, Nat.reduceSub, Nat.reduceAdd, decide_eq_true_eq, true_and, and_true, cut1_h0, cut1_l1, cut2_h0, cut2_h1, cut2_l1, cut2_l2, cut3_h0, cut3_h1, cut3_h2, cut3_l1, cut3_l2, cut3_l3, cut4_l1, Int.reduceAdd, Int.reduceSub, Int.reduceMod, Int.reduceNeg, compL_cons, compL_nil, forL_cons, forL_nil, rng0, rng1n, rng2, rng3, r62_0, r62_1, r62_2, r62_3, szl_0, szl_1, szl_2, szl_3, szl_4, szl_5, szl_6, szl_7])
/-- rows of sixtieths -/
def Rows60 (rs : List Rw) : Prop := ∀ r ∈ rs, Row60' r.2
theorem fz_tight {D M N : Nat} {x : Rat} (h : Fz D M x) (h0 : 0 ≤ x) (h1 : x ≤ (N : Nat)) : Fz D N x := by
  obtain ⟨hD, k, hk, hb⟩ := h
  refine ⟨hD, k, hk, ?_⟩
  have hD2 : (0 : Rat) ≤ (D : Rat) := by exact_mod_cast Nat.zero_le D
  have q0 := Rat.mul_nonneg h0 hD2
  have q1 := Rat.mul_nonneg (show (0 : Rat) ≤ (N : Rat) - x by grind) hD2
  have k0 : (0 : Rat) ≤ (k : Rat) := by grind
  have k1 : (k : Rat) ≤ (N : Rat) * (D : Rat) := by grind
  have k0' : 0 ≤ k := by exact_mod_cast k0
  have k1' : k ≤ (N : Int) * (D : Int) := by exact_mod_cast k1
  have : ((N * D : Nat) : Int) = (N : Int) * (D : Int) := by simp
  omega
theorem d60 {e : E3} {a b : T3} (he : Eye3 e) (ha : Row60' a) (hb : Row60' b) : DistOk e a b ∧ Fz 3600 297 (dist e a b) ∧ 0 ≤ dist e a b ∧ dist e a b ≤ 297 := by
  have h := dist_fz he ha.fz hb.fz
  obtain ⟨h1, h2⟩ := dist_le he ha.in3 hb.in3
  exact ⟨distOk_of he (B2.mono (a := 6) (by unfold B2; decide) (by decide)) ha.fz hb.fz, fz_tight h h1 h2, h1, h2⟩
theorem nr60 {e : E3} {l : Rat} {rs : List Rw} (he : Eye3 e) (hr : Rows60 rs) (hl : LimZ l) : ∀ r ∈ rs, ∀ o ∈ rs, NrOk e l r.2 o.2 := fun r hr1 o ho => by
  obtain ⟨h1, h2, _⟩ := d60 he (hr r hr1) (hr o ho)
  obtain ⟨D, hD, hz⟩ := hl.z
  exact ⟨h1, pz_small h2 hz (by decide) hD (by decide) (by decide)⟩
def micro : Rat := mkRat 1 1000000
theorem micro_fz : Fz 1000000 1 micro := Fz.mk (D := 1000000) 1 1 (by decide) (by decide)
theorem micro_le : 0 ≤ micro ∧ micro ≤ 1 := by
  constructor
  · rw [Rat.le_iff]; decide
  · rw [Rat.le_iff]; decide
theorem milli_le : 0 ≤ milli ∧ milli ≤ 1 := by
  constructor
  · rw [Rat.le_iff]; decide
  · rw [Rat.le_iff]; decide
theorem limZ_milli : LimZ milli := ⟨by grind, by have := milli_le; grind, 1000, by decide, milli_fz.up (by decide)⟩
theorem limZ_mille : LimZ 1000 := ⟨by have := milli_le; grind, by grind, 1, by decide, Fz.int (D := 1) 1000 (by decide)⟩
theorem limZ_one : LimZ 1 := ⟨milli_le.2, by grind, 1, by decide, (Fz.int (D := 1) 1 (by decide)).up (by decide)⟩
/-- a drawn one -/
theorem limZ_draw {a b : Int} (a0 : 0 ≤ a) (a1 : a < 300) (b0 : 0 ≤ b) (b1 : b < 300) : LimZ (Rat.divInt (1 + a) (1 + b)) := by
  obtain ⟨n, hn, n1, n2⟩ : ∃ n : Nat, 1 + b = (n : Int) ∧ 1 ≤ n ∧ n ≤ 300 := ⟨(1 + b).toNat, by omega, by omega, by omega⟩
  obtain ⟨k, hk, k1, k2⟩ : ∃ n : Nat, 1 + a = (n : Int) ∧ 1 ≤ n ∧ n ≤ 300 := ⟨(1 + a).toNat, by omega, by omega, by omega⟩
  rw [hn, hk]
  have f : Fz n 300 (Rat.divInt k n) := Fz.mk (k : Int) 300 (by omega) (by
    rw [Int.natAbs_natCast]
    exact Nat.le_trans k2 (Nat.le_mul_of_pos_right 300 (by omega)))
  have e : Rat.divInt k n = (k : Rat) / (n : Rat) := by
    rw [Rat.divInt_eq_div]
    rfl
  have hn0 : (0 : Rat) < (n : Rat) := by exact_mod_cast n1
  have hn3 : (n : Rat) ≤ 300 := by exact_mod_cast n2
  have hk1 : (1 : Rat) ≤ (k : Rat) := by exact_mod_cast k1
  have hk3 : (k : Rat) ≤ 300 := by exact_mod_cast k2
  have hm : milli = 1 / 1000 := by
    unfold milli
    rw [Rat.mkRat_eq_div]
    rfl
  have em : (k : Rat) / (n : Rat) * (n : Rat) = k := Rat.div_mul_cancel (by grind)
  rw [e]
  rw [e] at f
  have hn1 : (1 : Rat) ≤ (n : Rat) := by exact_mod_cast n1
  refine ⟨?_, ?_, n, by omega, f.up (by decide)⟩
  · rw [hm]
    clear hm f e
    generalize (k : Rat) / (n : Rat) = x at em ⊢
    rcases (Rat.le_total : (1 / 1000 : Rat) ≤ x ∨ _) with z | z
    · exact z
    · have := Rat.mul_nonneg (show 0 ≤ 1 / 1000 - x by grind) (Rat.le_of_lt hn0)
      grind
  · clear hm f e
    generalize (k : Rat) / (n : Rat) = x at em ⊢
    rcases (Rat.le_total : x ≤ 1000 ∨ _) with z | z
    · exact z
    · have q := Rat.mul_nonneg (show 0 ≤ x - 1000 by grind) (show 0 ≤ (n : Rat) - 1 by grind)
      grind
theorem frV_draw {a b : Int} : sp__law_low = sp_low := rfl
def sp__law_limit : ISp := purSp 66 (fun p (x : List Rw × E3) => [.adr p, .lst (x.1.map rtV), eyV x.2]) (fun x => x.1.length ≤ 24 ∧ Rows60 x.1 ∧ Eye3 x.2) (fun x v => ∃ l, v = frV l ∧ LimZ l) fun _ => 5
theorem call_limit {p : Addr} {rs : List Rw} {e : E3} {n : Nat} {S : Sto} {Q : VQ} {er : EQ} (hP : Pur S p n) (h64 : n < 2 ^ 66) (h24 : rs.length ≤ 24) (hr : Rows60 rs) (he : Eye3 e) (k : ∀ l S', LimZ l → Ins S S' p → Pur S' p (n + 5) → Q (frV l) S') : sp__law_limit.run [.adr p, .lst (rs.map rtV), eyV e] S Q er :=
  ⟨p, (rs, e), n, rfl, hP, h64, ⟨h24, hr, he⟩, fun v S' ⟨l, hv, h1⟩ hI hP' => by
    subst hv
    exact k l S' h1 hI hP'⟩
theorem hsp__law_limit {D : Nat → Li.G} {A : Addr → Str → Prop} (h302 : D 302 = .fn sp__law_pick 2 []) (h303 : D 303 = .fn sp__law_low 2 []) (h304 : D 304 = .fn sp__law_plus 2 []) (h307 : D 307 = .fn sp__law_below 2 []) (h310 : D 310 = .fn sp__law_far 3 []) (vs : List Val) (S : Sto) (Q : VQ) (R : EQ) (hl : vs.length = 3) (h : sp__law_limit.run vs S Q R) : evD { D := D, A := A, er := R } Lt.b__law_limit 7 [] vs S Q := by
  obtain ⟨p, ⟨rs, e⟩, n, rfl, hP, h64, ⟨h24, hr, he⟩, hQ⟩ := h
  dsimp only at h24 hr he
  unfold Lt.b__law_limit
  walk_at "lt"
  rw [h302, h303, h304, h307, h310]
  walk_at "lt"
  refine call_pick hP (by omega) (by decide) (by decide) fun a S1 a0 a1 hI1 hP1 => ?_
  walk_at "lt"
  refine call_pick hP1 (by omega) (by decide) (by decide) fun b S2 b0 b1 hI2 hP2 => ?_
  walk_at "lt"
  refine call_low (by omega) (B2.mono (a := 9) (by unfold B2; omega) (by decide)) ?_
  walk_at "lt"
  refine call_pick hP2 (by omega) (by decide) (by decide) fun w S3 w0 w1 hI3 hP3 => ?_
  walk_at "lt"
  have hI := (hI1.trans hI2).trans hI3
  have some3 : ∀ S', Ins S S' p → Pur S' p (n + 5) → optQ (L2.atI [.tup [.int 1, .int 1000], .tup [.int 1000, .int 1], frV (Rat.divInt (1 + a) (1 + b))] (w % 3)) fun v => Q v S' := fun S' hI hP => by
    have : w % 3 = 0 ∨ w % 3 = 1 ∨ w % 3 = 2 := by omega
    rcases this with z | z | z <;> rw [z]
    · exact hQ _ _ ⟨milli, rfl, limZ_milli⟩ hI hP
    · exact hQ _ _ ⟨1000, rfl, limZ_mille⟩ hI hP
    · exact hQ _ _ ⟨_, rfl, limZ_draw a0 a1 b0 b1⟩ hI hP
  have far : ¬ (rs.length : Int) < 2 → ¬ w < 3 → sp__law_pick.run [Val.adr p, Val.int rs.length] S3
        (fun v S1 =>
          idxV S1 (Val.lst (List.map rtV rs)) v fun v_1 =>
            idxV S1 v_1 (Val.int 1) fun v_2 =>
              binV S1 Operator.Add v (Val.int 1) fun v =>
                sp__law_pick.run [Val.adr p, Val.int (rs.length - 1)] S1
                  (fun y S2 =>
                    binV S2 Operator.Add v y fun v =>
                      binV S2 Operator.Mod v (Val.int rs.length) fun v =>
                        idxV S2 (Val.lst (List.map rtV rs)) v fun v =>
                          idxV S2 v (Val.int 1) fun v =>
                            sp__law_far.run [v_2, v, eyV e] S2
                              (fun v S1 =>
                                if w = 4 then
                                  L2.CPow 10 6 ∧
                                    sp__law_plus.run [v, Val.tup [Val.int 1, Val.int (10 ^ Int.toNat 6)]] S1
                                      (fun v S1 =>
                                        sp__law_below.run [v, Val.tup [Val.int 1, Val.int 1000]] S1
                                          (tst fun k S1 =>
                                            if k = true then Q (Val.tup [Val.int 1, Val.int 1000]) S1 else Q v S1)
                                          R)
                                      R
                                else
                                  sp__law_below.run [v, Val.tup [Val.int 1, Val.int 1000]] S1
                                    (tst fun k S1 =>
                                      if k = true then Q (Val.tup [Val.int 1, Val.int 1000]) S1 else Q v S1)
                                    R)
                              R)
                  R)
        R := fun hl hw => by
    refine call_pick hP3 (by omega) (by omega) (by omega) fun i S4 i0 i1 hI4 hP4 => ?_
    obtain ⟨r, _, hr1, er⟩ := atI_map (f := rtV) i0 i1
    walk_at "lt"
    rw [er]
    unfold rtV
    walk_at "lt"
    refine call_pick hP4 (by omega) (by omega) (by omega) fun j S5 j0 j1 hI5 hP5 => ?_
    have j2 : 0 ≤ (i + 1 + j) % (rs.length : Int) := Int.emod_nonneg _ (by omega)
    have j3 : (i + 1 + j) % (rs.length : Int) < rs.length := Int.emod_lt_of_pos _ (by omega)
    obtain ⟨o, _, ho1, eo⟩ := atI_map (f := rtV) j2 j3
    unfold rtV at eo
    walk_at "lt"
    refine ⟨by omega, ?_⟩
    rw [eo]
    walk_at "lt"
    obtain ⟨k1, k2, k3, k4⟩ := d60 he (hr r hr1) (hr o ho1)
    have hI' := (hI.trans hI4).trans hI5
    have fin : ∀ g : Rat, Fz 3600000000 1000 g → 0 ≤ g → g ≤ 999 → sp__law_below.run [frV g, Val.tup [Val.int 1, Val.int 1000]] S5
                                    (tst fun k S1 =>
                                      if k = true then Q (Val.tup [Val.int 1, Val.int 1000]) S1 else Q (frV g) S1)
                                    R := fun g hg g0 g1 => by
      refine call_below (y := milli) (pz_small hg milli_fz (by decide) (by decide) (by decide) (by decide)) ?_
      walk_at "lt"
      split
      · exact hQ _ _ ⟨milli, rfl, limZ_milli⟩ hI' (hP5.up (by dsimp only; omega))
      · rename_i z
        refine hQ _ _ ⟨g, rfl, Rat.not_lt.mp z, by grind, 3600000000, by decide, hg⟩ hI' (hP5.up (by dsimp only; omega))
    refine ⟨(e, r.2, o.2), rfl, k1, ?_⟩
    dsimp only
    split
    · refine ⟨⟨by decide, by decide, by decide⟩, call_plus (y := micro) (pz_small k2 micro_fz (by decide) (by decide) (by decide) (by decide)) ?_⟩
      have m := micro_le
      have big : ∀ {N M : Nat} {x : Rat}, Fz N M x → ∀ K : Nat, N ∣ K → 0 < K → ∀ M', M ≤ M' → Fz K M' x := fun h K h1 h2 M' h3 => h.mono h1 h2 h3
      have f1 : Fz 3600000000 888 (dist e r.2 o.2) := big k2 3600000000 (by omega) (by omega) 888 (by omega)
      have f2 : Fz 3600000000 112 micro := big micro_fz 3600000000 (by omega) (by omega) 112 (by omega)
      have f3 : Fz 3600000000 1000 (dist e r.2 o.2 + micro) := (f1.add f2).up (by decide)
      exact fin _ f3 (by grind) (by grind)
    · exact fin _ (k2.mono (by omega) (by omega) (by decide)) k3 (by grind)
  rw [List.length_map]
  split
  · exact ⟨by decide, some3 _ hI (hP3.up (by omega))⟩
  · split
    · exact ⟨by decide, some3 _ hI (hP3.up (by omega))⟩
    · exact far (by assumption) (by assumption)
/-! ### the Book stays -/
theorem okD_ey {e : E3} {n : Nat} : okD (n + 1) (eyV e) = true := by
  show ([Val.int e.1, .int e.2.1, .int e.2.2].all (okD n)) = true
  simp [okD_int]
theorem okD_str {x : Str} {n : Nat} (h : PyData.strOk x = true) : okD n (.str x) = true := by
  cases n <;> exact h
theorem okD_nams {rs : List Rw} {n : Nat} (h : ∀ r ∈ rs, Nam r.1) : okD (n + 1) (.tup (namV rs)) = true := by
  show (((rs.map Prod.fst).map Val.str).all (okD n)) = true
  refine all_map fun x hx => okD_str ?_
  obtain ⟨r, hr, rfl⟩ := List.mem_map.mp hx
  exact (h r hr).ok
theorem row_at {rs : List Rw} {r : Rw} (nd : (rs.map Prod.fst).Nodup) (hr : r ∈ rs) : rs[plcOf r.1 rs]? = some r := by
  obtain ⟨k, hk, rfl⟩ := List.mem_iff_getElem.mp hr
  have h := List.getElem?_eq_getElem hk
  rw [plcOf_nodup nd h]
  exact h
def sp__law_stays (CB C : Addr) : ISp where
  run := fun vs S Q _ => ∃ (b q : Addr) (e : E3) (rs : List Rw) (m : Nat), vs = [.adr b, eyV e, .lst (rs.map rtV)] ∧ Bk CB C S b q e rs m ∧ Q (.bl true) S
  mono := fun hQ _ ⟨b, q, e, rs, m, h1, h2, h3⟩ => ⟨b, q, e, rs, m, h1, h2, hQ _ _ h3⟩
theorem hsp__law_stays {CB C : Addr} {D : Nat → Li.G} {A : Addr → Str → Prop} {M : Addr → Str → List Str → Li.G} (h27 : D 27 = .fn (sp_shares_of C) 1 []) (hA : ∀ f ∈ bkF, A CB f) (m1 : M CB ("__len__" : Str) [] = .fn (sp_Book___len__ CB C) 1 []) (m2 : M CB ("names" : Str) [] = .fn (sp_Book_names CB C) 3 [.non, .bl false]) (m3 : M CB ("shade" : Str) [] = .fn (sp_Book_shade CB C) 2 []) (vs : List Val) (S : Sto) (Q : VQ) (R : EQ) (hl : vs.length = 3) (h : (sp__law_stays CB C).run vs S Q R) : evD { D := D, A := A, er := R, M := M } Lt.b__law_stays 5 [] vs S Q := by
  obtain ⟨b, q, e, rs, m, rfl, hB, hQ⟩ := h
  have h24 := hB.n24
  unfold Lt.b__law_stays
  walk_at "lt"
  rw [hB.eye hA, cmp_neP okD_ey okD_ey, eqB_self]
  walk_at "lt"
  rw [hB.mth (by decide) m1]
  walk_at "lt"
  refine ⟨b, q, e, rs, m, rfl, hB, ?_⟩
  walk_at "lt"
  refine ⟨⟨by omega, by omega⟩, ?_⟩
  rw [List.length_map]
  walk_at "lt"
  rw [hB.mth (by decide) m2]
  walk_at "lt"
  refine ⟨rfl, b, q, e, rs, m, rfl, hB, ?_⟩
  dsimp only
  refine compL_mapA (f := fun r : Rw => Val.str r.1) trivial (by rw [List.length_nil]; exact sz24 (by omega)) (fun r hr k hk => ?_) ?_
  · unfold rtV
    walk_at "lt"
    exact hk
  have en : [] ++ rs.map (fun r : Rw => Val.str r.1) = namV rs := by
    unfold namV
    rw [List.nil_append, List.map_map]
    rfl
  rw [en]
  walk_at "lt"
  rw [cmp_neP (okD_nams hB.nam) (okD_nams hB.nam), eqB_self]
  walk_at "lt"
  rw [h27]
  walk_at "lt"
  refine compL_mapA (f := fun _ : Rw => Val.bl true) trivial (by rw [List.length_nil]; exact sz24 (by omega)) (fun r hr k hk => ?_) ?_
  · unfold rtV
    walk_at "lt"
    rw [hB.mth (by decide) m3]
    walk_at "lt"
    refine ⟨b, q, e, rs, m, r.1, rfl, hB, hB.nam r hr, List.mem_map.mpr ⟨r, hr, rfl⟩, fun t ht => ?_⟩
    have et : r.2 = t := by
      rw [row_at hB.nod hr] at ht
      injection ht with ht
      rw [ht]
    subst et
    refine ⟨r.2, rfl, trivial, ?_⟩
    dsimp only
    rw [cmp_eqP okD_tr okD_tr, eqB_self]
    exact hk
  · rw [List.nil_append, show rs.map (fun _ : Rw => Val.bl true) = (rs.map fun _ => true).map Val.bl by rw [List.map_map]; rfl, bf_allL, all_true fun b hb => by
      obtain ⟨r, _, e⟩ := List.mem_map.mp hb
      exact e.symm]
    walk_at "lt"
    exact hQ
end Li
set_option Elab.async false
set_option linter.all false
set_option maxRecDepth 100000
set_option maxHeartbeats 4000000
/-! S37: law k37: names too near. -/
namespace L37
open PySem Li
local macro_rules | `(tactic| walk_at "li") => `(tactic| simp only [evD, evSs, evS, evE, evEs, evI, evO, evIt, slotQ_0, slotQ_s, cloQ_0, cloQ_s, capQ_nil, capQ_cons, intQ_i, adrQ_a, lstQ_l, tupQ_t, dctQ_d, optQ_s, gvalQ_v, brV_s, asL_l, truV_b, truV_n, truV_i, lenV_t, lenV_s, lenV_l, idxV_t, idxV_s, idxV_l, atI_0, atI_1, atI_2, atI_3, bin_add, bin_sub, bin_mul, bin_div, bin_mod, bin_pow, bin_shl, bin_shr, bin_and, bin_addL, bin_addT, aug_add, aug_sub, aug_mul, cmp_lt, cmp_le, cmp_gt, cmp_ge, cmp_is, cmp_isnt, cmp_eq, cmp_ne, tst_e, wipe_nil, wipe_cons, asg_one, asg_many, asgs_nil, asgs_cons, seqV_t, itV_t, itV_l, itV_s, itV_x, itV_d, itV_set, chkV_x, chkV_d, keyQ_s, keyQ_i, keyV, dctV_d, dctV_set, dctQC_set, bin_addX, idxV_x, cmp_ltx, esLen_n, esLen_c, isCalk_cl, pickV_n, pickV_l, pickV_r, getD_0, getD_s, isFn_fn, isFnk_fn, mthQ_i, bmP_pop, bmP_ins, bmP_ext, bmV_pop, bmV_popAt, bmV_ins, bmV_ext, dropC_d, cellOf_d, seqV_s, seqV_l, chkV_t, chkV_l, chkV_s, chkV_a, callG_fn, isCal_fn, isCal_cls, isCalk_fn, callK_fn, frz_nil, puSp_run, bf_len, bf_abs, bf_int, bf_intb, bf_tupT, bf_tupL, bf_listL, bf_listT, bf_min2, bf_max2, bf_isi, slc_l, slc_t, slc_s, fld_i, setB, tabA_hit, isi_tt, isi_ti, isi_ii, isi_it, isi_ib, isi_bi, isi_bb, isi_ss, Cxt.nox, natI_0, natI_1, natI_2, natI_3, natI_4, natI_5, natI_6, natI_7, Bool.not_true, Bool.not_false, decide_true, decide_false, Bool.false_eq_true, if_true, if_false, celQ_set, idxV_set, Sto.set_set, ixN_30, ixN_31, ixN_32, enumV_n, enumV_c, zipV_n, zipV_c, objQ_set, isNon_n, isNon_t, isNon_i, setC_l, dropC_n, dropC_s, dropC_a, cellOf_0, cellOf_s, cellOf_n, frz_cons, frz1_s, frz1_n, sbst_t, sbst_l, sbst_i, sbst_b, sbst_non, sbst_str, sbst_a, sbsts_n, sbsts_c, bin_addLA_set, lenV_set, seqV_set, bf_tupA_set, bmP_app, bmV_app, bf_sum_set, bf_sum_l, asInts_n, asInts_c, Option.map_some, sz_0, sz_1, sz_2, sz_3, sz_4, sz_5, sz_6, sz_7, List.map_cons, List.map_nil, List.length_cons, List.length_nil, List.cons_append, List.nil_append, List.append_nil, List.drop_nil, List.set_cons_zero, List.set_cons_succ, List.replicate_succ, List.replicate_zero, Nat.reduceSub, Nat.reduceAdd, decide_eq_true_eq, true_and, and_true])
local macro_rules | `(tactic| walk_at "lt") => `(tactic| try simp only [evD, evSs, evS, evE, evEs, evI, evO, evIt, slotQ_0, slotQ_s, cloQ_0, cloQ_s, capQ_nil, capQ_cons, intQ_i, adrQ_a, lstQ_l, tupQ_t, dctQ_d, optQ_s, gvalQ_v, brV_s, asL_l, truV_b, truV_n, truV_i, lenV_t, lenV_s, lenV_l, idxV_t, idxV_s, idxV_l, atI_0, atI_1, atI_2, atI_3, bin_add, bin_sub, bin_mul, bin_div, bin_mod, bin_pow, bin_shl, bin_shr, bin_and, bin_addL, bin_addT, aug_add, aug_sub, aug_mul, cmp_lt, cmp_le, cmp_gt, cmp_ge, cmp_is, cmp_isnt, cmp_eq, cmp_ne, tst_e, wipe_nil, wipe_cons, asg_one, asg_many, asgs_nil, asgs_cons, seqV_t, itV_t, itV_l, itV_s, itV_x, itV_d, itV_set, chkV_x, chkV_d, keyQ_s, keyQ_i, keyV, dctV_d, dctV_set, dctQC_set, bin_addX, idxV_x, cmp_ltx, esLen_n, esLen_c, isCalk_cl, pickV_n, pickV_l, pickV_r, getD_0, getD_s, isFn_fn, isFnk_fn, mthQ_i, bmP_pop, bmP_ins, bmP_ext, bmV_pop, bmV_popAt, bmV_ins, bmV_ext, dropC_d, cellOf_d, seqV_s, seqV_l, chkV_t, chkV_l, chkV_s, chkV_a, callG_fn, isCal_fn, isCal_cls, isCalk_fn, callK_fn, frz_nil, puSp_run, bf_len, bf_abs, bf_int, bf_intb, bf_tupT, bf_tupL, bf_listL, bf_listT, bf_min2, bf_max2, bf_isi, slc_l, slc_t, slc_s, fld_i, setB, tabA_hit, isi_tt, isi_ti, isi_ii, isi_it, isi_ib, isi_bi, isi_bb, isi_ss, Cxt.nox, natI_0, natI_1, natI_2, natI_3, natI_4, natI_5, natI_6, natI_7, Bool.not_true, Bool.not_false, decide_true, decide_false, Bool.false_eq_true, if_true, if_false, celQ_set, idxV_set, Sto.set_set, ixN_30, ixN_31, ixN_32, enumV_n, enumV_c, zipV_n, zipV_c, objQ_set, isNon_n, isNon_t, isNon_i, setC_l, dropC_n, dropC_s, dropC_a, cellOf_0, cellOf_s, cellOf_n, frz_cons, frz1_s, frz1_n, sbst_t, sbst_l, sbst_i, sbst_b, sbst_non, sbst_str, sbst_a, sbsts_n, sbsts_c, bin_addLA_set, lenV_set, seqV_set, bf_tupA_set, bmP_app, bmV_app, bf_sum_set, bf_sum_l, asInts_n, asInts_c, Option.map_some, sz_0, sz_1, sz_2, sz_3, sz_4, sz_5, sz_6, sz_7, List.map_cons, List.map_nil, List.length_cons, List.length_nil, List.cons_append, List.nil_append, List.append_nil, List.drop_nil, List.set_cons_zero, List.set_cons_succ, List.replicate_succ, List.replicate_zero, Nat.reduceSub, Nat.reduceAdd, decide_eq_true_eq, true_and, and_true, cut1_h0, cut1_l1, cut2_h0, cut2_h1, cut2_l1, cut2_l2, cut3_h0, cut3_h1, cut3_h2, cut3_l1, cut3_l2, cut3_l3, cut4_l1, Int.reduceAdd, Int.reduceSub, Int.reduceMod, Int.reduceNeg, compL_cons, compL_nil, forL_cons, forL_nil, rng0, rng1n, rng2, rng3, r62_0, r62_1, r62_2, r62_3, szl_0, szl_1, szl_2, szl_3, szl_4, szl_5, szl_6, szl_7])
theorem hsp__law_far {D : Nat → Li.G} {A : Addr → Str → Prop} (h304 : D 304 = .fn sp__law_plus 2 []) (h305 : D 305 = .fn sp__law_minus 2 []) (h306 : D 306 = .fn sp__law_times 2 []) (vs : List Val) (S : Sto) (Q : VQ) (R : EQ) (hl : vs.length = 3) (h : sp__law_far.run vs S Q R) : evD { D := D, A := A, er := R } L37.b__law_far 6 [] vs S Q := Li.hsp__law_far h304 h305 h306 vs S Q R hl h
def sp__law_pairs : ISp where
  run := fun vs S Q _ => ∃ (e : E3) (rs : List Rw) (l : Rat), vs = [.lst (rs.map rtV), eyV e, frV l] ∧ rs.length ≤ 24 ∧ (∀ r ∈ rs, ∀ o ∈ rs, NrOk e l r.2 o.2) ∧ Q (.tup ((prsS e l rs).map prV)) S
  mono := fun hQ _ ⟨e, rs, l, h1, h2, h3, h4⟩ => ⟨e, rs, l, h1, h2, h3, hQ _ _ h4⟩
theorem call_far {e : E3} {a b : T3} {S : Sto} {Q : VQ} {er : EQ} (h : DistOk e a b) (hQ : Q (frV (dist e a b)) S) : sp__law_far.run [trV a, trV b, eyV e] S Q er := ⟨(e, a, b), rfl, h, hQ⟩
theorem hsp__law_pairs {D : Nat → Li.G} {A : Addr → Str → Prop} (h307 : D 307 = .fn sp__law_below 2 []) (h310 : D 310 = .fn sp__law_far 3 []) (vs : List Val) (S : Sto) (Q : VQ) (R : EQ) (hl : vs.length = 3) (h : sp__law_pairs.run vs S Q R) : evD { D := D, A := A, er := R } Lt.b__law_pairs 8 [3] vs S Q := by
  obtain ⟨e, rs, l, rfl, h24, hok, hQ⟩ := h
  unfold Lt.b__law_pairs
  walk_at "lt"
  intro a ha
  walk_at "lt"
  rw [h307, h310]
  let F : Rw → List (Str × Str) := fun r => (rs.filter fun o => ltS r.1 o.1 && decide (dist e r.2 o.2 < l)).map fun o => (r.1, o.1)
  have hF : ∀ u, (F u).length ≤ 24 := fun u => by
    show ((rs.filter _).map _).length ≤ 24
    rw [List.length_map]
    exact Nat.le_trans (List.length_filter_le _ _) h24
  refine forL_inv (fun r σ S' => ∃ (pre post : List Rw) (o4 o5 o6 o7 : Option Val), rs = pre ++ post ∧ r = post.map rtV ∧ S' = S.set a (.lst ((pre.flatMap F).map prV)) ∧ σ = [some (.lst (rs.map rtV)), some (eyV e), some (frV l), some (.adr a), o4, o5, o6, o7]) (fun _ _ _ _ => trivial) (fun v r σ S' nx h hn => ?_) (fun σ S' h => ?_) ⟨[], rs, none, none, none, none, rfl, rfl, rfl, rfl⟩
  · obtain ⟨pre, post, o4, o5, o6, o7, hrs, hr, rfl, rfl⟩ := h
    cases post with
    | nil => cases hr
    | cons u post =>
      rw [List.map_cons] at hr
      injection hr with hv hr
      subst hv
      have hu : u ∈ rs := by rw [hrs]; simp
      have hlen : rs.length = pre.length + (post.length + 1) := by rw [hrs]; simp
      have l2 := prs_len (e := e) (l := l) h24 pre
      have l2 : (pre.flatMap F).length ≤ pre.length * 24 := l2
      unfold rtV
      walk_at "lt"
      refine forL_inv (fun r σ S' => ∃ (p2 q2 : List Rw) (o6 o7 : Option Val), rs = p2 ++ q2 ∧ r = q2.map rtV ∧ S' = S.set a (.lst ((pre.flatMap F ++ (p2.filter fun o => ltS u.1 o.1 && decide (dist e u.2 o.2 < l)).map fun o => (u.1, o.1)).map prV)) ∧ σ = [some (.lst (rs.map rtV)), some (eyV e), some (frV l), some (.adr a), some (.str u.1), some (trV u.2), o6, o7]) (fun _ _ _ _ => trivial) (fun v r σ S' nx h hn => ?_) (fun σ S' h => ?_) ⟨[], rs, _, _, rfl, rfl, by rw [List.filter_nil, List.map_nil, List.append_nil], rfl⟩
      · obtain ⟨p2, q2, o6, o7, hrs2, hr2, rfl, rfl⟩ := h
        cases q2 with
        | nil => cases hr2
        | cons w q2 =>
          rw [List.map_cons] at hr2
          injection hr2 with hv2 hr2
          subst hv2
          have hw : w ∈ rs := by rw [hrs2]; simp
          have hlen2 : rs.length = p2.length + (q2.length + 1) := by rw [hrs2]; simp
          have l3 := List.length_filter_le (fun o : Rw => ltS u.1 o.1 && decide (dist e u.2 o.2 < l)) p2
          obtain ⟨k1, k2⟩ := hok u hu w hw
          unfold rtV
          walk_at "lt"
          have no : (ltS u.1 w.1 && decide (dist e u.2 w.2 < l)) = false → nx [some (.lst (rs.map rtV)), some (eyV e), some (frV l), some (.adr a), some (.str u.1), some (trV u.2), some (.str w.1), some (trV w.2)] (S.set a (.lst ((pre.flatMap F ++ (p2.filter fun o => ltS u.1 o.1 && decide (dist e u.2 o.2 < l)).map fun o => (u.1, o.1)).map prV))) := fun z => by
            refine hn _ _ ⟨p2 ++ [w], q2, _, _, by rw [hrs2]; simp, hr2, ?_, rfl⟩
            rw [List.filter_append, List.filter_cons_of_neg (by rw [z]; decide), List.filter_nil, List.append_nil]
          split
          · rename_i z
            have e1 : ltS u.1 w.1 = true := decide_eq_true z
            refine call_far k1 (call_below k2 ?_)
            walk_at "lt"
            split
            · rename_i z2
              refine ⟨?_, hn _ _ ⟨p2 ++ [w], q2, _, _, by rw [hrs2]; simp, hr2, ?_, rfl⟩⟩
              · rw [List.length_map, List.length_append, List.length_map, sizeL]
                omega
              · rw [List.filter_append, List.filter_cons_of_pos (by rw [e1, decide_eq_true z2]; rfl), List.filter_nil]
                simp only [List.map_append, List.map_cons, List.map_nil, List.append_assoc]
                rfl
            · rename_i z2
              exact no (by rw [decide_eq_false z2, Bool.and_false])
          · rename_i z
            have e1 : ltS u.1 w.1 = false := decide_eq_false z
            exact no (by rw [e1, Bool.false_and])
      · obtain ⟨p2, q2, o6, o7, hrs2, hr2, rfl, rfl⟩ := h
        cases q2 with
        | cons u p => cases hr2
        | nil =>
          rw [List.append_nil] at hrs2
          refine hn _ _ ⟨pre ++ [u], post, _, _, _, _, by rw [hrs]; simp, hr, ?_, rfl⟩
          rw [List.flatMap_append, List.flatMap_cons, List.flatMap_nil, List.append_nil, ← hrs2]
  · obtain ⟨pre, post, o4, o5, o6, o7, hrs, hr, rfl, rfl⟩ := h
    cases post with
    | cons u p => cases hr
    | nil =>
      rw [List.append_nil] at hrs
      subst hrs
      walk_at "lt"
      refine srt_prs (e := e) (l := l) h24 (S := S.set a _) (x := .adr a) asL_set ?_
      walk_at "lt"
      rw [sbsts_pr, Sto.set_del ha]
      exact hQ
theorem okD_prs {ps : List (Str × Str)} (h : ∀ p ∈ ps, PyData.strOk p.1 = true ∧ PyData.strOk p.2 = true) {n : Nat} : (ps.map prV).all (okD (n + 1)) = true := all_map fun p hp => by
  show ([Val.str p.1, .str p.2].all (okD n)) = true
  obtain ⟨h1, h2⟩ := h p hp
  simp [okD_str h1, okD_str h2]
theorem prs_ok {CB C : Addr} {S : Sto} {b q : Addr} {e e2 : E3} {l : Rat} {rs : List Rw} {m : Nat} (h : Bk CB C S b q e rs m) : ∀ p ∈ prsS e2 l rs, PyData.strOk p.1 = true ∧ PyData.strOk p.2 = true := fun p hp => by
  obtain ⟨h1, h2⟩ := prs_mem (List.mem_mergeSort.mp hp)
  exact ⟨(nams h _ h1).ok, (nams h _ h2).ok⟩
def sp__law_right (CB C : Addr) : ISp where
  run := fun vs S Q _ => ∃ (b q : Addr) (e : E3) (rs : List Rw) (m : Nat) (l : Rat), vs = [.adr b, eyV e, .lst (rs.map rtV), frV l] ∧ Bk CB C S b q e rs m ∧ Rows60 rs ∧ LimZ l ∧ Q (.bl true) S
  mono := fun hQ _ ⟨b, q, e, rs, m, l, h1, h2, h3, h4, h5⟩ => ⟨b, q, e, rs, m, l, h1, h2, h3, h4, hQ _ _ h5⟩
theorem prs_len2 {e : E3} {l : Rat} {rs : List Rw} (h : rs.length ≤ 24) : (prsS e l rs).length ≤ 576 := by
  unfold prsS
  rw [List.length_mergeSort]
  exact prs_len24 h
theorem hsp__law_right {CB C : Addr} {D : Nat → Li.G} {A : Addr → Str → Prop} (h46 : D 46 = .fn (sp_pairs_near CB C) 2 []) (h253 : D 253 = .fnk (sp_pairs_near CB C) 2 0 [("limit" : Str), ("book" : Str)] [.inl 1, .inl 0]) (h315 : D 315 = .fn (sp__law_stays CB C) 3 []) (h316 : D 316 = .fn sp__law_pairs 3 []) (vs : List Val) (S : Sto) (Q : VQ) (R : EQ) (hl : vs.length = 4) (h : (sp__law_right CB C).run vs S Q R) : evD { D := D, A := A, er := R } L37.b__law_right 7 [] vs S Q := by
  obtain ⟨b, q, e, rs, m, l, rfl, hB, h60, hlz, hQ⟩ := h
  have h24 := hB.n24
  have ok := nr60 hB.ey h60 hlz
  have hl576 := prs_len2 (e := e) (l := l) h24
  have okT := okD_prs (n := 48) (prs_ok (e2 := e) (l := l) hB)
  have okT2 : okD 50 (.tup ((prsS e l rs).map prV)) = true := okT
  unfold L37.b__law_right
  walk_at "li"
  rw [h46, h253, h315, h316]
  walk_at "li"
  refine ⟨e, rs, l, rfl, h24, ok, b, q, e, rs, m, l, rfl, hB, hlz.lim, ok, ?_⟩
  walk_at "li"
  refine ⟨b, q, e, rs, m, l, rfl, hB, hlz.lim, ok, b, q, e, rs, m, l, rfl, hB, hlz.lim, ok, ?_⟩
  walk_at "li"
  refine forL_inv (fun r σ S' => ∃ (o5 : Option Val), (∀ v ∈ r, v = .tup ((prsS e l rs).map prV)) ∧ S' = S ∧ σ = [some (.adr b), some (eyV e), some (.lst (rs.map rtV)), some (frV l), some (.tup ((prsS e l rs).map prV)), o5, none]) (fun _ _ _ _ => trivial) (fun v r σ S' nx h hn => ?_) (fun σ S' h => ?_) ⟨none, fun v hv => ?_, rfl, rfl⟩
  · obtain ⟨o5, hr, rfl, rfl⟩ := h
    rw [hr v List.mem_cons_self]
    walk_at "li"
    rw [cmp_neP okT2 okT2, eqB_self]
    walk_at "li"
    refine compL_mapA (f := fun _ : Str × Str => Val.bl true) trivial (by rw [List.length_nil, sizeL]; omega) (fun p hp k hk => ?_) ?_
    · unfold prV
      walk_at "li"
      exact hk
    · rw [List.nil_append, show (prsS e l rs).map (fun _ => Val.bl true) = ((prsS e l rs).map fun _ => true).map Val.bl by rw [List.map_map]; rfl, bf_allL, all_true fun b hb => by
        obtain ⟨r, _, e⟩ := List.mem_map.mp hb
        exact e.symm]
      walk_at "li"
      exact hn _ _ ⟨_, fun v hv => hr v (List.mem_cons_of_mem _ hv), rfl, rfl⟩
  · obtain ⟨o5, hr, rfl, rfl⟩ := h
    walk_at "li"
    exact ⟨b, q, e, rs, m, rfl, hB, hQ⟩
  · simp only [List.mem_cons, List.not_mem_nil, or_false, or_self] at hv
    exact hv
/-- a greater limit has them all -/
theorem prs_more {e : E3} {l k : Rat} {rs : List Rw} (h : l ≤ k) : ∀ p ∈ prsS e l rs, p ∈ prsS e k rs := fun p hp => by
  have hp := List.mem_mergeSort.mp hp
  refine List.mem_mergeSort.mpr ?_
  obtain ⟨r, hr, hp⟩ := List.mem_flatMap.mp hp
  obtain ⟨o, ho, rfl⟩ := List.mem_map.mp hp
  obtain ⟨ho1, ho2⟩ := List.mem_filter.mp ho
  rw [Bool.and_eq_true, decide_eq_true_eq] at ho2
  refine List.mem_flatMap.mpr ⟨r, hr, List.mem_map.mpr ⟨o, List.mem_filter.mpr ⟨ho1, ?_⟩, rfl⟩⟩
  rw [Bool.and_eq_true, decide_eq_true_eq]
  exact ⟨ho2.1, by have := ho2.2; grind⟩
theorem call_purse {i : Int} {S : Sto} {Q : VQ} {er : EQ} (k : ∀ p S', S p = none → Ins S S' p → Pur S' p 0 → Q (.adr p) S') : sp__law_purse.run [.int i] S Q er := ⟨i, rfl, k⟩
def sp_law37 : ISp where
  run := fun vs S Q _ => ∃ ns : List Int, vs = [.scr ns] ∧ ∀ S', Q (.bl true) S'
  mono := fun hQ _ ⟨ns, h1, h2⟩ => ⟨ns, h1, fun S' => hQ _ _ (h2 S')⟩
def lwB : Ss := forB 0 L37.b_law
theorem lw_eq : L37.b_law = .cons (.forr (.one 1) (.rng1 (.bf .max (.cons (.lit (.int 2)) (.cons (.bf .min (.cons (.bf .len (.cons (.var 0) .nil)) (.cons (.lit (.int 5)) .nil))) .nil)))) lwB) (dropS 1 L37.b_law) := rfl
section
variable {CB C : Addr} {D : Nat → Li.G} {A : Addr → Str → Prop} {R : EQ} {DD : DE} {S : Sto} {sc : Val} {o2 o3 o4 o5 o6 o7 o8 o9 o10 : Option Val}
theorem lw_draw (h300 : D 300 = .fn sp__law_cell 2 []) (h301 : D 301 = .fn sp__law_purse 1 []) (h302 : D 302 = .fn sp__law_pick 2 []) (h313 : D 313 = .fn (sp__law_book CB C) 2 []) {ns : List Int} {i : Nat} (hi : i < 1000)
    (k : ∀ (p b q : Addr) (g : Bool) (e : E3) (rs : List Rw) (m n : Nat) (S' : Sto), Pur S' p n → n ≤ 2000 → Bk CB C S' b q e rs m → Rows60 rs → b ≠ p → q ≠ p → DD.nx [some (.scr ns), some (.int i), some (.adr p), some (.bl g), some (.adr b), some (eyV e), some (.lst (rs.map rtV)), o7, o8, o9, o10] S') :
    evSs { D := D, A := A, er := R } (takeS 3 lwB) DD [some (.scr ns), some (.int i), o2, o3, o4, o5, o6, o7, o8, o9, o10] S := by
  unfold lwB L37.b_law
  simp only [forB_0, takeS_s, takeS_0]
  walk_at "lt"
  rw [h300, h301, h302, h313]
  walk_at "lt"
  refine ⟨ns, i, rfl, hi, fun c => ?_⟩
  refine call_purse fun p S1 hp hI1 hP1 => ?_
  walk_at "lt"
  have fin : ∀ (g : Bool) (S2 : Sto) (n2 : Nat), Pur S2 p n2 → n2 ≤ 10 → sp__law_pick.run [.adr p, .int 8] S2 (fun v S3 => optQ (L2.atI [v, Val.int 24] (if g = true then 1 else 0)) fun v => (sp__law_book CB C).run [Val.adr p, v] S3 (fun v S4 => asg (Tg.many [4, 5, 6]) v [some (.scr ns), some (.int i), some (.adr p), some (.bl g), o4, o5, o6, o7, o8, o9, o10] fun σ2 => DD.nx σ2 S4) R) R := fun g S2 n2 hP2 hn2 => by
    refine call_pick hP2 (by omega) (by decide) (by decide) fun t S3 t0 t1 hI3 hP3 => ?_
    obtain ⟨many, em, hmany⟩ : ∃ many : Nat, L2.atI [Val.int t, Val.int 24] (if g = true then 1 else 0) = some (.int many) ∧ many ≤ 24 := by
      cases g
      · exact ⟨t.toNat, by rw [if_neg (by decide), atI_0, show ((t.toNat : Nat) : Int) = t by omega], by omega⟩
      · exact ⟨24, rfl, by omega⟩
    rw [em, optQ_s]
    refine ⟨p, many, _, rfl, hP3, by omega, hmany, fun b q e rs m S4 h1 h2 h3 h4 h5 h6 h7 h8 h9 h10 => ?_⟩
    walk_at "lt"
    exact k p b q g e rs m _ S4 h1 (by omega) h2 h4 h6 h7
  by_cases z : (i : Int) = 0
  · rw [if_pos z]
    refine call_pick hP1 (by omega) (by decide) (by decide) fun t S2 t0 t1 hI2 hP2 => ?_
    walk_at "lt"
    have f := fin (decide (t = 1)) S2 _ hP2 (by omega)
    simp only [decide_eq_true_eq] at f
    exact f
  · rw [if_neg z]
    have f := fin false S1 0 hP1 (by omega)
    simp only [Bool.false_eq_true, if_false] at f
    simp only [if_neg z, decide_eq_false z]
    exact f
theorem lw_lim (h314 : D 314 = .fn sp__law_limit 3 []) (h317 : D 317 = .fn (sp__law_right CB C) 4 []) {o1 o7 o8 : Option Val} {p b q : Addr} {g : Bool} {e : E3} {rs : List Rw} {m n : Nat} (hP : Pur S p n) (hn : n ≤ 2000) (hB : Bk CB C S b q e rs m) (h60 : Rows60 rs) (bp : b ≠ p) (qp : q ≠ p)
    (k : ∀ (l : Rat) (S' : Sto) (o7 : Option Val), LimZ l → Bk CB C S' b q e rs m → DD.nx [o1, o2, some (.adr p), some (.bl g), some (.adr b), some (eyV e), some (.lst (rs.map rtV)), o7, some (frV l), o9, o10] S') :
    evSs { D := D, A := A, er := R } (takeS 1 (dropS 3 lwB)) DD [o1, o2, some (.adr p), some (.bl g), some (.adr b), some (eyV e), some (.lst (rs.map rtV)), o7, o8, o9, o10] S := by
  have h24 := hB.n24
  unfold lwB L37.b_law
  simp only [forB_0, takeS_s, takeS_0, dropS_s, dropS_0]
  walk_at "li"
  rw [h314, h317]
  walk_at "li"
  obtain ⟨N, eN, N1, N3⟩ : ∃ N : Nat, L2.atI [Val.int 3, Val.int 1] (if g = true then 1 else 0) = some (.int N) ∧ 1 ≤ N ∧ N ≤ 3 := by
    cases g
    · exact ⟨3, rfl, by decide, by decide⟩
    · exact ⟨1, rfl, by decide, by decide⟩
  rw [eN]
  walk_at "li"
  refine ⟨⟨by omega, by omega⟩, ?_⟩
  rw [show ((N : Int)).toNat = N by omega, rngV_range]
  refine forL_inv (fun r σ S' => ∃ (i : Nat) (n' : Nat) (o7 o8 : Option Val), i ≤ N ∧ r = ((List.range N).drop i).map (fun k : Nat => Val.int (0 + k)) ∧ Pur S' p n' ∧ n' ≤ n + 5 * i ∧ Bk CB C S' b q e rs m ∧ (i = 0 ∨ ∃ l, LimZ l ∧ o8 = some (frV l)) ∧ σ = [o1, o2, some (.adr p), some (.bl g), some (.adr b), some (eyV e), some (.lst (rs.map rtV)), o7, o8, o9, o10]) (fun _ _ _ _ => trivial) (fun v r σ S' nx h hn2 => ?_) (fun σ S' h => ?_) ⟨0, n, o7, o8, Nat.zero_le _, by rw [List.drop_zero], hP, Nat.le_refl _, hB, .inl rfl, rfl⟩
  · obtain ⟨i, n', o7, o8, hi, hr, hP', hn', hB', _, rfl⟩ := h
    have hil : i < N := by
      rcases Nat.lt_or_ge i N with z | z
      · exact z
      · rw [List.drop_eq_nil_of_le (by rw [List.length_range]; exact z)] at hr
        cases hr
    rw [List.drop_eq_getElem_cons (by rw [List.length_range]; exact hil), List.map_cons] at hr
    injection hr with hv hr
    walk_at "li"
    refine call_limit hP' (by omega) h24 h60 hB.ey fun l S2 hl hI2 hP2 => ?_
    try (walk_at "li")
    have hB2 := hB'.ins hI2 bp qp
    refine ⟨b, q, e, rs, m, l, rfl, hB2, h60, hl, ?_⟩
    walk_at "li"
    exact hn2 _ _ ⟨i + 1, _, _, _, by omega, hr, hP2, by omega, hB2, .inr ⟨l, hl, rfl⟩, rfl⟩
  · obtain ⟨i, n', o7, o8, hi, hr, hP', hn', hB', h8, rfl⟩ := h
    have hiN : i = N := by
      rcases Nat.lt_or_ge i N with z | z
      · rw [List.drop_eq_getElem_cons (by rw [List.length_range]; exact z), List.map_cons] at hr
        cases hr
      · omega
    rcases h8 with z | ⟨l, hl, rfl⟩
    · omega
    · exact k l S' o7 hl hB'
theorem lw_more (h46 : D 46 = .fn (sp_pairs_near CB C) 2 []) {o1 o6 o7 : Option Val} {b q : Addr} {e : E3} {rs : List Rw} {m : Nat} {l : Rat} (hB : Bk CB C S b q e rs m) (h60 : Rows60 rs) (hl : LimZ l)
    (k : ∀ (S' : Sto) (o9 : Option Val), DD.nx [o1, o2, o3, o4, some (.adr b), o5, o6, o7, some (frV l), o9, none] S') :
    evSs { D := D, A := A, er := R } (dropS 4 lwB) DD [o1, o2, o3, o4, some (.adr b), o5, o6, o7, some (frV l), o9, none] S := by
  have h24 := hB.n24
  have ok1 := nr60 hB.ey h60 hl
  have ok2 := nr60 hB.ey h60 limZ_mille
  have hl576 := prs_len2 (e := e) (l := l) h24
  unfold lwB L37.b_law
  simp only [forB_0, dropS_s, dropS_0]
  walk_at "li"
  rw [h46]
  walk_at "li"
  refine ⟨b, q, e, rs, m, 1000, rfl, hB, limZ_mille.lim, ok2, ?_⟩
  walk_at "li"
  refine ⟨b, q, e, rs, m, l, rfl, hB, hl.lim, ok1, ?_⟩
  walk_at "li"
  refine compL_mapA (f := fun _ : Str × Str => Val.bl true) trivial (by rw [List.length_nil, sizeL]; omega) (fun p hp k hk => ?_) ?_
  · obtain ⟨q1, q2⟩ := prs_ok (e2 := e) (l := l) hB p hp
    have okp : okD 50 (prV p) = true := by
      show ([Val.str p.1, .str p.2].all (okD 49)) = true
      simp [okD_str q1, okD_str q2]
    try (walk_at "li")
    rw [cmp_inT okp (okD_prs (n := 48) (prs_ok (e2 := e) (l := 1000) hB)), inB_iff.mpr (List.mem_map.mpr ⟨p, prs_more hl.hi p hp, rfl⟩)]
    exact hk
  · rw [List.nil_append, show (prsS e l rs).map (fun _ => Val.bl true) = ((prsS e l rs).map fun _ => true).map Val.bl by rw [List.map_map]; rfl, bf_allL, all_true fun b hb => by
      obtain ⟨r, _, e⟩ := List.mem_map.mp hb
      exact e.symm]
    walk_at "li"
    exact k S _
end
theorem hsp_law37 {CB C : Addr} {D : Nat → Li.G} {A : Addr → Str → Prop} (h38 : D 38 = .cls CB false (sp_Book___init__ CB C) 2 [.non]) (h46 : D 46 = .fn (sp_pairs_near CB C) 2 []) (h300 : D 300 = .fn sp__law_cell 2 []) (h301 : D 301 = .fn sp__law_purse 1 []) (h302 : D 302 = .fn sp__law_pick 2 []) (h313 : D 313 = .fn (sp__law_book CB C) 2 []) (h314 : D 314 = .fn sp__law_limit 3 []) (h317 : D 317 = .fn (sp__law_right CB C) 4 []) (vs : List Val) (S : Sto) (Q : VQ) (R : EQ) (hl : vs.length = 1) (h : sp_law37.run vs S Q R) : evD { D := D, A := A, er := R } L37.b_law 11 [] vs S Q := by
  obtain ⟨ns, rfl, hQ⟩ := h
  rw [lw_eq]
  walk_at "li"
  obtain ⟨N, eN, N5⟩ : ∃ N : Nat, (if 2 < (if 5 < (ns.length : Int) then 5 else (ns.length : Int)) then (if 5 < (ns.length : Int) then 5 else (ns.length : Int)) else 2) = (N : Int) ∧ N ≤ 5 := by
    refine ⟨(if 2 < (if 5 < (ns.length : Int) then 5 else (ns.length : Int)) then (if 5 < (ns.length : Int) then 5 else (ns.length : Int)) else 2).toNat, ?_, ?_⟩ <;> split <;> split at * <;> omega
  rw [eN]
  refine ⟨⟨by omega, by omega⟩, ?_⟩
  rw [show (N : Int).toNat = N by simp, rngV_range]
  refine forL_inv (fun r σ S' => ∃ (i : Nat) (o1 o2 o3 o4 o5 o6 o7 o8 o9 : Option Val), r = ((List.range N).drop i).map (fun k : Nat => Val.int (0 + k)) ∧ σ = [some (.scr ns), o1, o2, o3, o4, o5, o6, o7, o8, o9, none]) (fun _ _ _ _ => trivial) (fun v r σ S' nx h hn => ?_) (fun σ S' h => ?_) ⟨0, none, none, none, none, none, none, none, none, none, by rw [List.drop_zero], rfl⟩
  · obtain ⟨i, o1, o2, o3, o4, o5, o6, o7, o8, o9, hr, rfl⟩ := h
    have hi : i < N := by
      rcases Nat.lt_or_ge i N with z | z
      · exact z
      · rw [List.drop_eq_nil_of_le (by rw [List.length_range]; exact z)] at hr
        cases hr
    rw [List.drop_eq_getElem_cons (by rw [List.length_range]; exact hi), List.map_cons, List.getElem_range, Int.zero_add] at hr
    injection hr with hv hr
    subst hv
    walk_at "li"
    rw [evSs_split 3]
    refine lw_draw h300 h301 h302 h313 (by omega) fun p b q g e rs m n S1 hP hn1 hB h60 bp qp => ?_
    dsimp only
    rw [evSs_split 1]
    refine lw_lim h314 h317 hP hn1 hB h60 bp qp fun l S2 o7 hl hB2 => ?_
    dsimp only
    rw [dropS_dropS 1 3]
    refine lw_more h46 hB2 h60 hl fun S3 o9 => ?_
    exact hn _ _ ⟨i + 1, _, _, _, _, _, _, _, _, _, hr, rfl⟩
  · obtain ⟨i, o1, o2, o3, o4, o5, o6, o7, o8, o9, hr, rfl⟩ := h
    unfold L37.b_law
    simp only [dropS_s, dropS_0]
    walk_at "li"
    rw [h38, h46]
    walk_at "li"
    refine make_Book0 fun b q S2 nb nq hB hI => ?_
    refine ⟨b, q, (1, 1, 1), [], 0, 1, rfl, hB, limZ_one.lim, (fun r hr => (nomatch hr)), ?_⟩
    have e0 : (prsS (1, 1, 1) 1 []).map prV = [] := by
      unfold prsS prsL
      simp
    dsimp only
    rw [e0, cmp_eqP (by rfl) (by rfl), eqB_self]
    exact hQ _
end L37
set_option Elab.async false
set_option linter.all false
set_option maxRecDepth 100000
set_option maxHeartbeats 0
namespace L37
open PySem PySem.Spec PyProof.Rows Li L2
/-- the fields that instances have -/
def At (C : Nat → Addr) (a : Addr) (f : Str) : Prop := (a = C 24 ∧ f ∈ shadeF) ∨ (a = C 38 ∧ f ∈ bkF)
local macro_rules | `(tactic| walk_at "ch") => `(tactic| first | rfl | exact (fun f hf => .inl ⟨rfl, hf⟩) | exact (fun f hf => .inr (⟨rfl, hf⟩)) | exact tabM_hit.trans rfl)
section
variable {m : Mo} {C : Nat → Addr}
theorem g12 (B : Bs m fn (At C))  : GOk m 1 (nm 12) (.fn sp_is_whole 1 []) :=
  B.fn (T := { N := Pt.N_is_whole, gn := gn }) (lvl := 0) (fr := []) (l := []) (ml := []) 0 rfl rfl (by kernel_rfl) rfl (fun _ _ _ _ => rfl) d_is_whole c_is_whole trivial trivial (fun vs S Q R h1 h2 => by apply hsp_is_whole (vs := vs) (S := S) (Q := Q) (R := R) (hl := h1) (h := h2) <;> walk_at "ch") (dfl_none rfl fun kV doc pm an cdv ct us hl => match us, hl with | [_], _ => rfl)
theorem g13 (B : Bs m fn (At C))  : GOk m 1 (nm 13) (.fn sp_share_of 2 []) :=
  B.fn (T := { N := Pt.N_share_of, gn := gn }) (lvl := 0) (fr := []) (l := []) (ml := []) 1 rfl rfl (by kernel_rfl) rfl (fun _ _ _ _ => rfl) d_share_of c_share_of trivial trivial (fun vs S Q R h1 h2 => by apply hsp_share_of (vs := vs) (S := S) (Q := Q) (R := R) (hl := h1) (h := h2) <;> walk_at "ch") (dfl_none rfl fun kV doc pm an cdv ct us hl => match us, hl with | [_, _], _ => rfl)
theorem g14 (B : Bs m fn (At C)) (h13 : GOk m 1 (nm 13) (.fn sp_share_of 2 [])) : GOk m 2 (nm 14) (.fn sp_low 2 []) :=
  B.fn (T := { N := Pt.N_low, gn := gn }) (lvl := 1) (fr := []) (l := [(13, .fn sp_share_of 2 [])]) (ml := []) 2 rfl rfl (by kernel_rfl) rfl (fun _ _ _ _ => rfl) d_low c_low ⟨(h13).up (by decide), trivial⟩ trivial (fun vs S Q R h1 h2 => by apply hsp_low (vs := vs) (S := S) (Q := Q) (R := R) (hl := h1) (h := h2) <;> walk_at "ch") (dfl_none rfl fun kV doc pm an cdv ct us hl => match us, hl with | [_, _], _ => rfl)
theorem g15 (B : Bs m fn (At C)) (h12 : GOk m 1 (nm 12) (.fn sp_is_whole 1 [])) (h13 : GOk m 1 (nm 13) (.fn sp_share_of 2 [])) : GOk m 2 (nm 15) (.fn sp_is_fraction 1 []) :=
  B.fn (T := { N := Pt.N_is_fraction, gn := gn }) (lvl := 1) (fr := []) (l := [(12, .fn sp_is_whole 1 []), (13, .fn sp_share_of 2 [])]) (ml := []) 3 rfl rfl (by kernel_rfl) rfl (fun _ _ _ _ => rfl) d_is_fraction c_is_fraction ⟨(h12).up (by decide), ⟨(h13).up (by decide), trivial⟩⟩ trivial (fun vs S Q R h1 h2 => by apply hsp_is_fraction (vs := vs) (S := S) (Q := Q) (R := R) (hl := h1) (h := h2) <;> walk_at "ch") (dfl_none rfl fun kV doc pm an cdv ct us hl => match us, hl with | [_], _ => rfl)
theorem g16 (B : Bs m fn (At C)) (h15 : GOk m 2 (nm 15) (.fn sp_is_fraction 1 [])) : GOk m 3 (nm 16) (.fn sp_from_zero 1 []) :=
  B.fn (T := { N := Pt.N_from_zero, gn := gn }) (lvl := 2) (fr := []) (l := [(15, .fn sp_is_fraction 1 [])]) (ml := []) 4 rfl rfl (by kernel_rfl) rfl (fun _ _ _ _ => rfl) d_from_zero c_from_zero ⟨(h15).up (by decide), trivial⟩ trivial (fun vs S Q R h1 h2 => by apply hsp_from_zero (vs := vs) (S := S) (Q := Q) (R := R) (hl := h1) (h := h2) <;> walk_at "ch") (dfl_none rfl fun kV doc pm an cdv ct us hl => match us, hl with | [_], _ => rfl)
theorem g17 (B : Bs m fn (At C)) (h16 : GOk m 3 (nm 16) (.fn sp_from_zero 1 [])) : GOk m 4 (nm 17) (.fn sp_in_one 1 []) :=
  B.fn (T := { N := Pt.N_in_one, gn := gn }) (lvl := 3) (fr := []) (l := [(16, .fn sp_from_zero 1 [])]) (ml := []) 5 rfl rfl (by kernel_rfl) rfl (fun _ _ _ _ => rfl) d_in_one c_in_one ⟨(h16).up (by decide), trivial⟩ trivial (fun vs S Q R h1 h2 => by apply hsp_in_one (vs := vs) (S := S) (Q := Q) (R := R) (hl := h1) (h := h2) <;> walk_at "ch") (dfl_none rfl fun kV doc pm an cdv ct us hl => match us, hl with | [_], _ => rfl)
theorem g18 (B : Bs m fn (At C)) (h14 : GOk m 2 (nm 14) (.fn sp_low 2 [])) : GOk m 3 (nm 18) (.fn sp_add 2 []) :=
  B.fn (T := { N := Pt.N_add, gn := gn }) (lvl := 2) (fr := []) (l := [(14, .fn sp_low 2 [])]) (ml := []) 6 rfl rfl (by kernel_rfl) rfl (fun _ _ _ _ => rfl) d_add c_add ⟨(h14).up (by decide), trivial⟩ trivial (fun vs S Q R h1 h2 => by apply hsp_add (vs := vs) (S := S) (Q := Q) (R := R) (hl := h1) (h := h2) <;> walk_at "ch") (dfl_none rfl fun kV doc pm an cdv ct us hl => match us, hl with | [_, _], _ => rfl)
theorem g19 (B : Bs m fn (At C)) (h14 : GOk m 2 (nm 14) (.fn sp_low 2 [])) : GOk m 3 (nm 19) (.fn sp_less 2 []) :=
  B.fn (T := { N := Pt.N_less, gn := gn }) (lvl := 2) (fr := []) (l := [(14, .fn sp_low 2 [])]) (ml := []) 7 rfl rfl (by kernel_rfl) rfl (fun _ _ _ _ => rfl) d_less c_less ⟨(h14).up (by decide), trivial⟩ trivial (fun vs S Q R h1 h2 => by apply hsp_less (vs := vs) (S := S) (Q := Q) (R := R) (hl := h1) (h := h2) <;> walk_at "ch") (dfl_none rfl fun kV doc pm an cdv ct us hl => match us, hl with | [_, _], _ => rfl)
theorem g20 (B : Bs m fn (At C)) (h14 : GOk m 2 (nm 14) (.fn sp_low 2 [])) : GOk m 3 (nm 20) (.fn sp_mul 2 []) :=
  B.fn (T := { N := Pt.N_mul, gn := gn }) (lvl := 2) (fr := []) (l := [(14, .fn sp_low 2 [])]) (ml := []) 8 rfl rfl (by kernel_rfl) rfl (fun _ _ _ _ => rfl) d_mul c_mul ⟨(h14).up (by decide), trivial⟩ trivial (fun vs S Q R h1 h2 => by apply hsp_mul (vs := vs) (S := S) (Q := Q) (R := R) (hl := h1) (h := h2) <;> walk_at "ch") (dfl_none rfl fun kV doc pm an cdv ct us hl => match us, hl with | [_, _], _ => rfl)
theorem g21 (B : Bs m fn (At C))  : GOk m 1 (nm 21) (.fn sp_is_less 2 []) :=
  B.fn (T := { N := Pt.N_is_less, gn := gn }) (lvl := 0) (fr := []) (l := []) (ml := []) 9 rfl rfl (by kernel_rfl) rfl (fun _ _ _ _ => rfl) d_is_less c_is_less trivial trivial (fun vs S Q R h1 h2 => by apply hsp_is_less (vs := vs) (S := S) (Q := Q) (R := R) (hl := h1) (h := h2) <;> walk_at "ch") (dfl_none rfl fun kV doc pm an cdv ct us hl => match us, hl with | [_, _], _ => rfl)
theorem g22 (B : Bs m fn (At C)) (h11 : GOk m 0 (nm 11) (.val (.tup ([0, 1].map Val.int)))) (h18 : GOk m 3 (nm 18) (.fn sp_add 2 [])) : GOk m 4 (nm 22) (.fn sp_total 1 []) :=
  B.fn (T := { N := Pt.N_total, gn := gn }) (lvl := 3) (fr := []) (l := [(11, .val (.tup ([0, 1].map Val.int))), (18, .fn sp_add 2 [])]) (ml := []) 10 rfl rfl (by kernel_rfl) rfl (fun _ _ _ _ => rfl) d_total c_total ⟨(h11).up (by decide), ⟨(h18).up (by decide), trivial⟩⟩ trivial (fun vs S Q R h1 h2 => by apply hsp_total (vs := vs) (S := S) (Q := Q) (R := R) (hl := h1) (h := h2) <;> walk_at "ch") (dfl_none rfl fun kV doc pm an cdv ct us hl => match us, hl with | [_], _ => rfl)
theorem g24 (B : Bs m fn (At C)) (hmg : m.mg ("Shade" : Str) = some (.ref (He.ga m.K ("Shade" : Str)))) (hmk : Mk m.K (He.ga m.K ("Shade" : Str)) (He.ma m.K (He.ga m.K ("Shade" : Str)) "__init__")) (hco : ClsOk m.K (He.ga m.K ("Shade" : Str))) (hC : C 24 = He.ga m.K ("Shade" : Str)) (h17 : GOk m 4 (nm 17) (.fn sp_in_one 1 [])) : GOk m 6 (nm 24) (.cls (C 24) true (sp_Shade___init__ (C 24)) 4 []) := by
  have z := B.cls (g := 24) (n := 4) (sp := (sp_Shade___init__ (C 24))) (fz := true) (T := { N := Pt.N_Shade.__init__, gn := gn }) (lvl := 4) (fr := []) (l := [(17, .fn sp_in_one 1 [])]) (ml := []) 11 rfl rfl (by kernel_rfl) rfl (fun _ _ _ _ => rfl) d_Shade.__init__ c_Shade.__init__ ⟨(h17).up (by decide), trivial⟩ trivial (fun vs S Q R h1 h2 => by apply hsp_Shade___init__ (vs := vs) (S := S) (Q := Q) (R := R) (hl := h1) (h := h2) <;> walk_at "ch") (dfl_none rfl fun kV doc pm an cdv ct us hl => match us, hl with | [_, _, _, _], _ => rfl) hmg hmk hco
  rw [← hC] at z
  exact z
theorem g25 (B : Bs m fn (At C)) (h24 : GOk m 6 (nm 24) (.cls (C 24) true (sp_Shade___init__ (C 24)) 4 [])) : GOk m 7 (nm 25) (.fn (sp_check_shade (C 24)) 1 []) :=
  B.fn (T := { N := Pt.N_check_shade, gn := gn }) (lvl := 6) (fr := []) (l := [(24, .cls (C 24) true (sp_Shade___init__ (C 24)) 4 [])]) (ml := []) 12 rfl rfl (by kernel_rfl) rfl (fun _ _ _ _ => rfl) d_check_shade c_check_shade ⟨(h24).up (by decide), trivial⟩ trivial (fun vs S Q R h1 h2 => by apply hsp_check_shade (vs := vs) (S := S) (Q := Q) (R := R) (hl := h1) (h := h2) <;> walk_at "ch") (dfl_none rfl fun kV doc pm an cdv ct us hl => match us, hl with | [_], _ => rfl)
theorem g26 (B : Bs m fn (At C))  : GOk m 1 (nm 26) (.fn (sp_parts_of (C 24)) 1 []) :=
  B.fn (T := { N := Pt.N_parts_of, gn := gn }) (lvl := 0) (fr := []) (l := []) (ml := []) 13 rfl rfl (by kernel_rfl) rfl (fun _ _ _ _ => rfl) d_parts_of c_parts_of trivial trivial (fun vs S Q R h1 h2 => by apply hsp_parts_of (vs := vs) (S := S) (Q := Q) (R := R) (hl := h1) (h := h2) <;> walk_at "ch") (dfl_none rfl fun kV doc pm an cdv ct us hl => match us, hl with | [_], _ => rfl)
theorem g27 (B : Bs m fn (At C)) (h25 : GOk m 7 (nm 25) (.fn (sp_check_shade (C 24)) 1 [])) (h26 : GOk m 1 (nm 26) (.fn (sp_parts_of (C 24)) 1 [])) : GOk m 8 (nm 27) (.fn (sp_shares_of (C 24)) 1 []) :=
  B.fn (T := { N := Pt.N_shares_of, gn := gn }) (lvl := 7) (fr := []) (l := [(25, .fn (sp_check_shade (C 24)) 1 []), (26, .fn (sp_parts_of (C 24)) 1 [])]) (ml := []) 14 rfl rfl (by kernel_rfl) rfl (fun _ _ _ _ => rfl) d_shares_of c_shares_of ⟨(h25).up (by decide), ⟨(h26).up (by decide), trivial⟩⟩ trivial (fun vs S Q R h1 h2 => by apply hsp_shares_of (vs := vs) (S := S) (Q := Q) (R := R) (hl := h1) (h := h2) <;> walk_at "ch") (dfl_none rfl fun kV doc pm an cdv ct us hl => match us, hl with | [_], _ => rfl)
theorem g30 (B : Bs m fn (At C)) (h12 : GOk m 1 (nm 12) (.fn sp_is_whole 1 [])) (h28 : GOk m 0 (nm 28) (.val (.int 99))) (h29 : GOk m 0 (nm 29) (.val (.tup ([1, 1, 1].map Val.int)))) : GOk m 2 (nm 30) (.fn sp_is_eye 1 []) :=
  B.fn (T := { N := Pt.N_is_eye, gn := gn }) (lvl := 1) (fr := []) (l := [(12, .fn sp_is_whole 1 []), (28, .val (.int 99)), (29, .val (.tup ([1, 1, 1].map Val.int)))]) (ml := []) 15 rfl rfl (by kernel_rfl) rfl (fun _ _ _ _ => rfl) d_is_eye c_is_eye ⟨(h12).up (by decide), ⟨(h28).up (by decide), ⟨(h29).up (by decide), trivial⟩⟩⟩ trivial (fun vs S Q R h1 h2 => by apply hsp_is_eye (vs := vs) (S := S) (Q := Q) (R := R) (hl := h1) (h := h2) <;> walk_at "ch") (dfl_none rfl fun kV doc pm an cdv ct us hl => match us, hl with | [_], _ => rfl)
theorem g31 (B : Bs m fn (At C)) (h29 : GOk m 0 (nm 29) (.val (.tup ([1, 1, 1].map Val.int)))) (h30 : GOk m 2 (nm 30) (.fn sp_is_eye 1 [])) : GOk m 3 (nm 31) (.fn sp_check_eye 1 []) :=
  B.fn (T := { N := Pt.N_check_eye, gn := gn }) (lvl := 2) (fr := []) (l := [(29, .val (.tup ([1, 1, 1].map Val.int))), (30, .fn sp_is_eye 1 [])]) (ml := []) 16 rfl rfl (by kernel_rfl) rfl (fun _ _ _ _ => rfl) d_check_eye c_check_eye ⟨(h29).up (by decide), ⟨(h30).up (by decide), trivial⟩⟩ trivial (fun vs S Q R h1 h2 => by apply hsp_check_eye (vs := vs) (S := S) (Q := Q) (R := R) (hl := h1) (h := h2) <;> walk_at "ch") (dfl_none rfl fun kV doc pm an cdv ct us hl => match us, hl with | [_], _ => rfl)
theorem g32 (B : Bs m fn (At C)) (Bt : Bt m tf) (hm : ((He.cT m.K (("far_by" : Str), none)).2, tn_far_by) ∈ m.T) (hu : ∀ p ∈ m.T, p.1 = (He.cT m.K (("far_by" : Str), none)).2 → p.2 = tn_far_by) (h19 : GOk m 3 (nm 19) (.fn sp_less 2 [])) (h20 : GOk m 3 (nm 20) (.fn sp_mul 2 [])) (h22 : GOk m 4 (nm 22) (.fn sp_total 1 [])) : GOk m 6 (nm 32) (.fn sp_far_by 3 []) :=
  B.fnN Bt (N := Pt.N_far_by) (gn := gn) (nds := nd_far_by sp_far_by_part) (lvl := 4) (fr := []) (l := [(19, .fn sp_less 2 []), (20, .fn sp_mul 2 []), (22, .fn sp_total 1 [])]) (ml := []) 17 rfl rfl (by kernel_rfl) rfl (by decide) hm hu d_far_by (c_far_by _) (by unfold nd_far_by; simp [Pt.nc_far_by_part]) (fun e he => by
      unfold nd_far_by at he
      cases List.mem_singleton.mp he
      exact nbind fun _ _ _ _ _ _ _ _ _ _ _ => rfl) ⟨(h19).up (by decide), ⟨(h20).up (by decide), ⟨(h22).up (by decide), trivial⟩⟩⟩ trivial
    (fun e he => by
      unfold nd_far_by at he
      cases List.mem_singleton.mp he
      exact (fun vs S Q R h1 h2 => by apply hsp_far_by_part (vs := vs) (S := S) (Q := Q) (R := R) (hl := h1) (h := h2) <;> walk_at "ch")) (fun okp => (fun vs S Q R h1 h2 => by apply hsp_far_by (vs := vs) (S := S) (Q := Q) (R := R) (hl := h1) (h := h2) <;> walk_at "ch")) (dfl_none rfl fun kV doc pm an cdv ct us hl => match us, hl with | [_, _, _], _ => rfl)
theorem g36 (B : Bs m fn (At C)) (h34 : GOk m 0 (nm 34) (.val (.int 12))) (h35 : GOk m 0 (nm 35) (.val (.str ("abcdefghijklmnopqrstuvwxyz" : Str)))) : GOk m 1 (nm 36) (.fn sp_is_name 1 []) :=
  B.fn (T := { N := Pt.N_is_name, gn := gn }) (lvl := 0) (fr := []) (l := [(34, .val (.int 12)), (35, .val (.str ("abcdefghijklmnopqrstuvwxyz" : Str)))]) (ml := []) 18 rfl rfl (by kernel_rfl) rfl (fun _ _ _ _ => rfl) d_is_name c_is_name ⟨(h34).up (by decide), ⟨(h35).up (by decide), trivial⟩⟩ trivial (fun vs S Q R h1 h2 => by apply hsp_is_name (vs := vs) (S := S) (Q := Q) (R := R) (hl := h1) (h := h2) <;> walk_at "ch") (dfl_none rfl fun kV doc pm an cdv ct us hl => match us, hl with | [_], _ => rfl)
theorem g37 (B : Bs m fn (At C)) (h36 : GOk m 1 (nm 36) (.fn sp_is_name 1 [])) : GOk m 2 (nm 37) (.fn sp_check_name 1 []) :=
  B.fn (T := { N := Pt.N_check_name, gn := gn }) (lvl := 1) (fr := []) (l := [(36, .fn sp_is_name 1 [])]) (ml := []) 19 rfl rfl (by kernel_rfl) rfl (fun _ _ _ _ => rfl) d_check_name c_check_name ⟨(h36).up (by decide), trivial⟩ trivial (fun vs S Q R h1 h2 => by apply hsp_check_name (vs := vs) (S := S) (Q := Q) (R := R) (hl := h1) (h := h2) <;> walk_at "ch") (dfl_none rfl fun kV doc pm an cdv ct us hl => match us, hl with | [_], _ => rfl)
theorem g38 (B : Bs m fn (At C)) (hmg : m.mg ("Book" : Str) = some (.ref (He.ga m.K ("Book" : Str)))) (hmk : Mk m.K (He.ga m.K ("Book" : Str)) (He.ma m.K (He.ga m.K ("Book" : Str)) "__init__")) (hco : ClsOk m.K (He.ga m.K ("Book" : Str))) (hC : C 38 = He.ga m.K ("Book" : Str)) (h31 : GOk m 3 (nm 31) (.fn sp_check_eye 1 [])) : GOk m 5 (nm 38) (.cls (C 38) false (sp_Book___init__ (C 38) (C 24)) 2 [.non]) := by
  have z := B.cls (g := 38) (n := 2) (sp := (sp_Book___init__ (C 38) (C 24))) (fz := false) (T := { N := Pt.N_Book.__init__, gn := gn }) (lvl := 3) (fr := []) (l := [(31, .fn sp_check_eye 1 [])]) (ml := []) 20 rfl rfl (by kernel_rfl) rfl (fun _ _ _ _ => rfl) d_Book.__init__ c_Book.__init__ ⟨(h31).up (by decide), trivial⟩ trivial (fun vs S Q R h1 h2 => by apply hsp_Book___init__ (vs := vs) (S := S) (Q := Q) (R := R) (hl := h1) (h := h2) <;> walk_at "ch") (dfl_gen (l := [.non]) rfl (by simp) rfl 1 rfl (fun j hj T kV doc pm an cdv ct us its h1 h2 => match j, hj, us, its, h1, h2 with | 0, _, [_], [_], _, _ => ⟨_, rfl, rfl⟩ | 1, _, [_, _], [_], _, _ => ⟨_, rfl, rfl⟩)) hmg hmk hco
  rw [← hC] at z
  exact z
theorem g252 (B : Bs m fn (At C)) (hmg : m.mg ("Book" : Str) = some (.ref (He.ga m.K ("Book" : Str)))) (hmk : Mk m.K (He.ga m.K ("Book" : Str)) (He.ma m.K (He.ga m.K ("Book" : Str)) "__init__")) (hC : C 38 = He.ga m.K ("Book" : Str)) (h31 : GOk m 3 (nm 31) (.fn sp_check_eye 1 [])) : GOk m 5 (nm 252) (.clk (C 38) false (sp_Book___init__ (C 38) (C 24)) 2 0 [("eye" : Str)] [.inl 0]) := by
  have z := B.clk (g := 252) (n := 2) (np := 0) (ks := [("eye" : Str)]) (arr := [.inl 0]) (sp := (sp_Book___init__ (C 38) (C 24))) (fz := false) (T := { N := Pt.N_Book.__init__, gn := gn }) (lvl := 3) (fr := []) (l := [(31, .fn sp_check_eye 1 [])]) (ml := []) 20 rfl rfl (by kernel_rfl) rfl (fun _ _ _ _ => rfl) d_Book.__init__ c_Book.__init__ ⟨(h31).up (by decide), trivial⟩ trivial (fun vs S Q R h1 h2 => by apply hsp_Book___init__ (vs := vs) (S := S) (Q := Q) (R := R) (hl := h1) (h := h2) <;> walk_at "ch") (kb_gen (l := [.non]) rfl (by simp) rfl [.inl 0, .inl 1] rfl (fun T kV doc pm an cdv ct us its ws h1 h2 h3 => match us, its, ws, h1, h2, h3 with | [_], [_], [_], _, _, _ => ⟨_, rfl, rfl⟩)) hmg hmk
  rw [← hC] at z
  exact z
theorem mBook_place_of (B : Bs m fn (At C)) (hcl : Cls m.K (He.ga m.K ("Book" : Str))) (hme : Meth m.K (He.ga m.K ("Book" : Str)) ("place_of" : Str) (He.ma m.K (He.ga m.K ("Book" : Str)) ("place_of" : Str))) (hC : C 38 = He.ga m.K ("Book" : Str))  : MOk m 2 (C 38) ("place_of" : Str) [] (.fn (sp_Book_place_of (C 38) (C 24)) 2 []) := by
  have z := B.meth (n := 2) (sp := (sp_Book_place_of (C 38) (C 24))) (dfl := []) (T := { N := Pt.N_Book.place_of, gn := gn }) (lvl := 0) (fr := []) (l := []) (ml := []) 21 rfl rfl rfl (fun _ _ _ _ => rfl) d_Book.place_of c_Book.place_of trivial trivial (fun vs S Q R h1 h2 => by apply hsp_Book_place_of (vs := vs) (S := S) (Q := Q) (R := R) (hl := h1) (h := h2) <;> walk_at "ch") (dfl_none rfl fun kV doc pm an cdv ct us hl => match us, hl with | [_, _], _ => rfl) hcl hme
  rw [← hC] at z
  exact z
theorem mBook_check_new (B : Bs m fn (At C)) (hcl : Cls m.K (He.ga m.K ("Book" : Str))) (hme : Meth m.K (He.ga m.K ("Book" : Str)) ("check_new" : Str) (He.ma m.K (He.ga m.K ("Book" : Str)) ("check_new" : Str))) (hC : C 38 = He.ga m.K ("Book" : Str))  : MOk m 2 (C 38) ("check_new" : Str) [] (.fn (sp_Book_check_new (C 38) (C 24)) 2 []) := by
  have z := B.meth (n := 2) (sp := (sp_Book_check_new (C 38) (C 24))) (dfl := []) (T := { N := Pt.N_Book.check_new, gn := gn }) (lvl := 0) (fr := []) (l := []) (ml := []) 22 rfl rfl rfl (fun _ _ _ _ => rfl) d_Book.check_new c_Book.check_new trivial trivial (fun vs S Q R h1 h2 => by apply hsp_Book_check_new (vs := vs) (S := S) (Q := Q) (R := R) (hl := h1) (h := h2) <;> walk_at "ch") (dfl_none rfl fun kV doc pm an cdv ct us hl => match us, hl with | [_, _], _ => rfl) hcl hme
  rw [← hC] at z
  exact z
theorem mBook_turn_to (B : Bs m fn (At C)) (hcl : Cls m.K (He.ga m.K ("Book" : Str))) (hme : Meth m.K (He.ga m.K ("Book" : Str)) ("turn_to" : Str) (He.ma m.K (He.ga m.K ("Book" : Str)) ("turn_to" : Str))) (hC : C 38 = He.ga m.K ("Book" : Str))  : MOk m 2 (C 38) ("turn_to" : Str) [] (.fn (sp_Book_turn_to (C 38) (C 24)) 2 []) := by
  have z := B.meth (n := 2) (sp := (sp_Book_turn_to (C 38) (C 24))) (dfl := []) (T := { N := Pt.N_Book.turn_to, gn := gn }) (lvl := 0) (fr := []) (l := []) (ml := []) 23 rfl rfl rfl (fun _ _ _ _ => rfl) d_Book.turn_to c_Book.turn_to trivial trivial (fun vs S Q R h1 h2 => by apply hsp_Book_turn_to (vs := vs) (S := S) (Q := Q) (R := R) (hl := h1) (h := h2) <;> walk_at "ch") (dfl_none rfl fun kV doc pm an cdv ct us hl => match us, hl with | [_, _], _ => rfl) hcl hme
  rw [← hC] at z
  exact z
theorem mBook_put (B : Bs m fn (At C)) (hcl : Cls m.K (He.ga m.K ("Book" : Str))) (hme : Meth m.K (He.ga m.K ("Book" : Str)) ("put" : Str) (He.ma m.K (He.ga m.K ("Book" : Str)) ("put" : Str))) (hC : C 38 = He.ga m.K ("Book" : Str)) (h25 : GOk m 7 (nm 25) (.fn (sp_check_shade (C 24)) 1 [])) (h33 : GOk m 0 (nm 33) (.val (.int 24))) (h37 : GOk m 2 (nm 37) (.fn sp_check_name 1 [])) (xBook_check_new : MOk m 2 (C 38) ("check_new" : Str) [] (.fn (sp_Book_check_new (C 38) (C 24)) 2 [])) (xBook_turn_to : MOk m 2 (C 38) ("turn_to" : Str) [] (.fn (sp_Book_turn_to (C 38) (C 24)) 2 [])) : MOk m 9 (C 38) ("put" : Str) [] (.fn (sp_Book_put (C 38) (C 24)) 3 []) := by
  have z := B.meth (n := 3) (sp := (sp_Book_put (C 38) (C 24))) (dfl := []) (T := { N := Pt.N_Book.put, gn := gn }) (lvl := 7) (fr := []) (l := [(25, .fn (sp_check_shade (C 24)) 1 []), (33, .val (.int 24)), (37, .fn sp_check_name 1 [])]) (ml := [(C 38, [((("check_new" : Str), []), .fn (sp_Book_check_new (C 38) (C 24)) 2 []), ((("turn_to" : Str), []), .fn (sp_Book_turn_to (C 38) (C 24)) 2 [])])]) 24 rfl rfl rfl (fun _ _ _ _ => rfl) d_Book.put c_Book.put ⟨(h25).up (by decide), ⟨(h33).up (by decide), ⟨(h37).up (by decide), trivial⟩⟩⟩ ⟨⟨(xBook_check_new).up (by decide), ⟨(xBook_turn_to).up (by decide), trivial⟩⟩, trivial⟩ (fun vs S Q R h1 h2 => by apply hsp_Book_put (vs := vs) (S := S) (Q := Q) (R := R) (hl := h1) (h := h2) <;> walk_at "ch") (dfl_none rfl fun kV doc pm an cdv ct us hl => match us, hl with | [_, _, _], _ => rfl) hcl hme
  rw [← hC] at z
  exact z
theorem mBook_rename (B : Bs m fn (At C)) (hcl : Cls m.K (He.ga m.K ("Book" : Str))) (hme : Meth m.K (He.ga m.K ("Book" : Str)) ("rename" : Str) (He.ma m.K (He.ga m.K ("Book" : Str)) ("rename" : Str))) (hC : C 38 = He.ga m.K ("Book" : Str)) (h37 : GOk m 2 (nm 37) (.fn sp_check_name 1 [])) (xBook_place_of : MOk m 2 (C 38) ("place_of" : Str) [] (.fn (sp_Book_place_of (C 38) (C 24)) 2 [])) (xBook_check_new : MOk m 2 (C 38) ("check_new" : Str) [] (.fn (sp_Book_check_new (C 38) (C 24)) 2 [])) (xBook_turn_to : MOk m 2 (C 38) ("turn_to" : Str) [] (.fn (sp_Book_turn_to (C 38) (C 24)) 2 [])) : MOk m 4 (C 38) ("rename" : Str) [] (.fn (sp_Book_rename (C 38) (C 24)) 3 []) := by
  have z := B.meth (n := 3) (sp := (sp_Book_rename (C 38) (C 24))) (dfl := []) (T := { N := Pt.N_Book.rename, gn := gn }) (lvl := 2) (fr := []) (l := [(37, .fn sp_check_name 1 [])]) (ml := [(C 38, [((("place_of" : Str), []), .fn (sp_Book_place_of (C 38) (C 24)) 2 []), ((("check_new" : Str), []), .fn (sp_Book_check_new (C 38) (C 24)) 2 []), ((("turn_to" : Str), []), .fn (sp_Book_turn_to (C 38) (C 24)) 2 [])])]) 25 rfl rfl rfl (fun _ _ _ _ => rfl) d_Book.rename c_Book.rename ⟨(h37).up (by decide), trivial⟩ ⟨⟨(xBook_place_of).up (by decide), ⟨(xBook_check_new).up (by decide), ⟨(xBook_turn_to).up (by decide), trivial⟩⟩⟩, trivial⟩ (fun vs S Q R h1 h2 => by apply hsp_Book_rename (vs := vs) (S := S) (Q := Q) (R := R) (hl := h1) (h := h2) <;> walk_at "ch") (dfl_none rfl fun kV doc pm an cdv ct us hl => match us, hl with | [_, _, _], _ => rfl) hcl hme
  rw [← hC] at z
  exact z
theorem mBook_drop (B : Bs m fn (At C)) (hcl : Cls m.K (He.ga m.K ("Book" : Str))) (hme : Meth m.K (He.ga m.K ("Book" : Str)) ("drop" : Str) (He.ma m.K (He.ga m.K ("Book" : Str)) ("drop" : Str))) (hC : C 38 = He.ga m.K ("Book" : Str)) (xBook_place_of : MOk m 2 (C 38) ("place_of" : Str) [] (.fn (sp_Book_place_of (C 38) (C 24)) 2 [])) (xBook_turn_to : MOk m 2 (C 38) ("turn_to" : Str) [] (.fn (sp_Book_turn_to (C 38) (C 24)) 2 [])) : MOk m 4 (C 38) ("drop" : Str) [] (.fn (sp_Book_drop (C 38) (C 24)) 2 []) := by
  have z := B.meth (n := 2) (sp := (sp_Book_drop (C 38) (C 24))) (dfl := []) (T := { N := Pt.N_Book.drop, gn := gn }) (lvl := 2) (fr := []) (l := []) (ml := [(C 38, [((("place_of" : Str), []), .fn (sp_Book_place_of (C 38) (C 24)) 2 []), ((("turn_to" : Str), []), .fn (sp_Book_turn_to (C 38) (C 24)) 2 [])])]) 26 rfl rfl rfl (fun _ _ _ _ => rfl) d_Book.drop c_Book.drop trivial ⟨⟨(xBook_place_of).up (by decide), ⟨(xBook_turn_to).up (by decide), trivial⟩⟩, trivial⟩ (fun vs S Q R h1 h2 => by apply hsp_Book_drop (vs := vs) (S := S) (Q := Q) (R := R) (hl := h1) (h := h2) <;> walk_at "ch") (dfl_none rfl fun kV doc pm an cdv ct us hl => match us, hl with | [_, _], _ => rfl) hcl hme
  rw [← hC] at z
  exact z
theorem mBook_shade (B : Bs m fn (At C)) (hcl : Cls m.K (He.ga m.K ("Book" : Str))) (hme : Meth m.K (He.ga m.K ("Book" : Str)) ("shade" : Str) (He.ma m.K (He.ga m.K ("Book" : Str)) ("shade" : Str))) (hC : C 38 = He.ga m.K ("Book" : Str)) (xBook_place_of : MOk m 2 (C 38) ("place_of" : Str) [] (.fn (sp_Book_place_of (C 38) (C 24)) 2 [])) : MOk m 4 (C 38) ("shade" : Str) [] (.fn (sp_Book_shade (C 38) (C 24)) 2 []) := by
  have z := B.meth (n := 2) (sp := (sp_Book_shade (C 38) (C 24))) (dfl := []) (T := { N := Pt.N_Book.shade, gn := gn }) (lvl := 2) (fr := []) (l := []) (ml := [(C 38, [((("place_of" : Str), []), .fn (sp_Book_place_of (C 38) (C 24)) 2 [])])]) 27 rfl rfl rfl (fun _ _ _ _ => rfl) d_Book.shade c_Book.shade trivial ⟨⟨(xBook_place_of).up (by decide), trivial⟩, trivial⟩ (fun vs S Q R h1 h2 => by apply hsp_Book_shade (vs := vs) (S := S) (Q := Q) (R := R) (hl := h1) (h := h2) <;> walk_at "ch") (dfl_none rfl fun kV doc pm an cdv ct us hl => match us, hl with | [_, _], _ => rfl) hcl hme
  rw [← hC] at z
  exact z
theorem mBook_names (B : Bs m fn (At C)) (hcl : Cls m.K (He.ga m.K ("Book" : Str))) (hme : Meth m.K (He.ga m.K ("Book" : Str)) ("names" : Str) (He.ma m.K (He.ga m.K ("Book" : Str)) ("names" : Str))) (hC : C 38 = He.ga m.K ("Book" : Str))  : MOk m 2 (C 38) ("names" : Str) [] (.fn (sp_Book_names (C 38) (C 24)) 3 [.non, .bl false]) := by
  have z := B.meth (n := 3) (sp := (sp_Book_names (C 38) (C 24))) (dfl := [.non, .bl false]) (T := { N := Pt.N_Book.names, gn := gn }) (lvl := 0) (fr := []) (l := []) (ml := []) 28 rfl rfl rfl (fun _ _ _ _ => rfl) d_Book.names c_Book.names trivial trivial (fun vs S Q R h1 h2 => by apply hsp_Book_names (vs := vs) (S := S) (Q := Q) (R := R) (hl := h1) (h := h2) <;> walk_at "ch") (dfl_gen (l := [.non, .bl false]) rfl (by simp) rfl 1 rfl (fun j hj T kV doc pm an cdv ct us its h1 h2 => match j, hj, us, its, h1, h2 with | 0, _, [_], [_, _], _, _ => ⟨_, rfl, rfl⟩ | 1, _, [_, _], [_, _], _, _ => ⟨_, rfl, rfl⟩ | 2, _, [_, _, _], [_, _], _, _ => ⟨_, rfl, rfl⟩)) hcl hme
  rw [← hC] at z
  exact z
theorem mBook___len__ (B : Bs m fn (At C)) (hcl : Cls m.K (He.ga m.K ("Book" : Str))) (hme : Meth m.K (He.ga m.K ("Book" : Str)) ("__len__" : Str) (He.ma m.K (He.ga m.K ("Book" : Str)) ("__len__" : Str))) (hC : C 38 = He.ga m.K ("Book" : Str))  : MOk m 2 (C 38) ("__len__" : Str) [] (.fn (sp_Book___len__ (C 38) (C 24)) 1 []) := by
  have z := B.meth (n := 1) (sp := (sp_Book___len__ (C 38) (C 24))) (dfl := []) (T := { N := Pt.N_Book.__len__, gn := gn }) (lvl := 0) (fr := []) (l := []) (ml := []) 29 rfl rfl rfl (fun _ _ _ _ => rfl) d_Book.__len__ c_Book.__len__ trivial trivial (fun vs S Q R h1 h2 => by apply hsp_Book___len__ (vs := vs) (S := S) (Q := Q) (R := R) (hl := h1) (h := h2) <;> walk_at "ch") (dfl_none rfl fun kV doc pm an cdv ct us hl => match us, hl with | [_], _ => rfl) hcl hme
  rw [← hC] at z
  exact z
theorem g39 (B : Bs m fn (At C)) (h26 : GOk m 1 (nm 26) (.fn (sp_parts_of (C 24)) 1 [])) : GOk m 2 (nm 39) (.fn (sp_rows_of (C 38) (C 24)) 1 []) :=
  B.fn (T := { N := Pt.N_rows_of, gn := gn }) (lvl := 1) (fr := []) (l := [(26, .fn (sp_parts_of (C 24)) 1 [])]) (ml := []) 30 rfl rfl (by kernel_rfl) rfl (fun _ _ _ _ => rfl) d_rows_of c_rows_of ⟨(h26).up (by decide), trivial⟩ trivial (fun vs S Q R h1 h2 => by apply hsp_rows_of (vs := vs) (S := S) (Q := Q) (R := R) (hl := h1) (h := h2) <;> walk_at "ch") (dfl_none rfl fun kV doc pm an cdv ct us hl => match us, hl with | [_], _ => rfl)
theorem g42 (B : Bs m fn (At C)) (h15 : GOk m 2 (nm 15) (.fn sp_is_fraction 1 [])) (h21 : GOk m 1 (nm 21) (.fn sp_is_less 2 [])) (h40 : GOk m 0 (nm 40) (.val (.tup ([1, 1000].map Val.int)))) (h41 : GOk m 0 (nm 41) (.val (.tup ([1000, 1].map Val.int)))) : GOk m 3 (nm 42) (.fn sp_check_limit 1 []) :=
  B.fn (T := { N := Pt.N_check_limit, gn := gn }) (lvl := 2) (fr := []) (l := [(15, .fn sp_is_fraction 1 []), (21, .fn sp_is_less 2 []), (40, .val (.tup ([1, 1000].map Val.int))), (41, .val (.tup ([1000, 1].map Val.int)))]) (ml := []) 31 rfl rfl (by kernel_rfl) rfl (fun _ _ _ _ => rfl) d_check_limit c_check_limit ⟨(h15).up (by decide), ⟨(h21).up (by decide), ⟨(h40).up (by decide), ⟨(h41).up (by decide), trivial⟩⟩⟩⟩ trivial (fun vs S Q R h1 h2 => by apply hsp_check_limit (vs := vs) (S := S) (Q := Q) (R := R) (hl := h1) (h := h2) <;> walk_at "ch") (dfl_none rfl fun kV doc pm an cdv ct us hl => match us, hl with | [_], _ => rfl)
theorem g43 (B : Bs m fn (At C)) (h38 : GOk m 5 (nm 38) (.cls (C 38) false (sp_Book___init__ (C 38) (C 24)) 2 [.non])) : GOk m 6 (nm 43) (.fn (sp_check_book (C 38) (C 24)) 1 []) :=
  B.fn (T := { N := Pt.N_check_book, gn := gn }) (lvl := 5) (fr := []) (l := [(38, .cls (C 38) false (sp_Book___init__ (C 38) (C 24)) 2 [.non])]) (ml := []) 32 rfl rfl (by kernel_rfl) rfl (fun _ _ _ _ => rfl) d_check_book c_check_book ⟨(h38).up (by decide), trivial⟩ trivial (fun vs S Q R h1 h2 => by apply hsp_check_book (vs := vs) (S := S) (Q := Q) (R := R) (hl := h1) (h := h2) <;> walk_at "ch") (dfl_none rfl fun kV doc pm an cdv ct us hl => match us, hl with | [_], _ => rfl)
theorem g44 (B : Bs m fn (At C)) (h21 : GOk m 1 (nm 21) (.fn sp_is_less 2 [])) (h32 : GOk m 6 (nm 32) (.fn sp_far_by 3 [])) : GOk m 7 (nm 44) (.fn sp_is_near 4 []) :=
  B.fn (T := { N := Pt.N_is_near, gn := gn }) (lvl := 6) (fr := []) (l := [(21, .fn sp_is_less 2 []), (32, .fn sp_far_by 3 [])]) (ml := []) 33 rfl rfl (by kernel_rfl) rfl (fun _ _ _ _ => rfl) d_is_near c_is_near ⟨(h21).up (by decide), ⟨(h32).up (by decide), trivial⟩⟩ trivial (fun vs S Q R h1 h2 => by apply hsp_is_near (vs := vs) (S := S) (Q := Q) (R := R) (hl := h1) (h := h2) <;> walk_at "ch") (dfl_none rfl fun kV doc pm an cdv ct us hl => match us, hl with | [_, _, _, _], _ => rfl)
theorem g45 (B : Bs m fn (At C)) (h39 : GOk m 2 (nm 39) (.fn (sp_rows_of (C 38) (C 24)) 1 [])) (h44 : GOk m 7 (nm 44) (.fn sp_is_near 4 [])) : GOk m 8 (nm 45) (.fn (sp_near_names (C 38) (C 24)) 2 []) :=
  B.fn (T := { N := Pt.N_near_names, gn := gn }) (lvl := 7) (fr := [3]) (l := [(39, .fn (sp_rows_of (C 38) (C 24)) 1 []), (44, .fn sp_is_near 4 [])]) (ml := []) 34 rfl rfl (by kernel_rfl) rfl (fun _ _ _ _ => rfl) d_near_names c_near_names ⟨(h39).up (by decide), ⟨(h44).up (by decide), trivial⟩⟩ trivial (fun vs S Q R h1 h2 => by apply hsp_near_names (vs := vs) (S := S) (Q := Q) (R := R) (hl := h1) (h := h2) <;> walk_at "ch") (dfl_none rfl fun kV doc pm an cdv ct us hl => match us, hl with | [_, _], _ => rfl)
theorem g46 (B : Bs m fn (At C)) (h42 : GOk m 3 (nm 42) (.fn sp_check_limit 1 [])) (h43 : GOk m 6 (nm 43) (.fn (sp_check_book (C 38) (C 24)) 1 [])) (h45 : GOk m 8 (nm 45) (.fn (sp_near_names (C 38) (C 24)) 2 [])) : GOk m 9 (nm 46) (.fn (sp_pairs_near (C 38) (C 24)) 2 []) :=
  B.fn (T := { N := Pt.N_pairs_near, gn := gn }) (lvl := 8) (fr := [2]) (l := [(42, .fn sp_check_limit 1 []), (43, .fn (sp_check_book (C 38) (C 24)) 1 []), (45, .fn (sp_near_names (C 38) (C 24)) 2 [])]) (ml := []) 35 rfl rfl (by kernel_rfl) rfl (fun _ _ _ _ => rfl) d_pairs_near c_pairs_near ⟨(h42).up (by decide), ⟨(h43).up (by decide), ⟨(h45).up (by decide), trivial⟩⟩⟩ trivial (fun vs S Q R h1 h2 => by apply hsp_pairs_near (vs := vs) (S := S) (Q := Q) (R := R) (hl := h1) (h := h2) <;> walk_at "ch") (dfl_none rfl fun kV doc pm an cdv ct us hl => match us, hl with | [_, _], _ => rfl)
theorem g253 (B : Bs m fn (At C)) (h42 : GOk m 3 (nm 42) (.fn sp_check_limit 1 [])) (h43 : GOk m 6 (nm 43) (.fn (sp_check_book (C 38) (C 24)) 1 [])) (h45 : GOk m 8 (nm 45) (.fn (sp_near_names (C 38) (C 24)) 2 [])) : GOk m 9 (nm 253) (.fnk (sp_pairs_near (C 38) (C 24)) 2 0 [("limit" : Str), ("book" : Str)] [.inl 1, .inl 0]) :=
  B.fnk (n := 2) (np := 0) (ks := [("limit" : Str), ("book" : Str)]) (arr := [.inl 1, .inl 0]) (sp := (sp_pairs_near (C 38) (C 24))) (T := { N := Pt.N_pairs_near, gn := gn }) (lvl := 8) (fr := [2]) (l := [(42, .fn sp_check_limit 1 []), (43, .fn (sp_check_book (C 38) (C 24)) 1 []), (45, .fn (sp_near_names (C 38) (C 24)) 2 [])]) (ml := []) 35 rfl rfl (by kernel_rfl) rfl (fun _ _ _ _ => rfl) d_pairs_near c_pairs_near ⟨(h42).up (by decide), ⟨(h43).up (by decide), ⟨(h45).up (by decide), trivial⟩⟩⟩ trivial (fun vs S Q R h1 h2 => by apply hsp_pairs_near (vs := vs) (S := S) (Q := Q) (R := R) (hl := h1) (h := h2) <;> walk_at "ch") (kb_none rfl [.inl 1, .inl 0] rfl (fun kV doc pm an cdv ct us ws h1 h2 => match us, ws, h1, h2 with | [], [_, _], _, _ => rfl))
theorem g300 (B : Bs m fn (At C))  : GOk m 1 (nm 300) (.fn sp__law_cell 2 []) :=
  B.fn (T := { N := Lt.N__law_cell, gn := gn }) (lvl := 0) (fr := []) (l := []) (ml := []) 36 rfl rfl (by kernel_rfl) rfl (fun _ _ _ _ => rfl) d__law_cell c__law_cell trivial trivial (fun vs S Q R h1 h2 => by apply hsp__law_cell (vs := vs) (S := S) (Q := Q) (R := R) (hl := h1) (h := h2) <;> walk_at "ch") (dfl_none rfl fun kV doc pm an cdv ct us hl => match us, hl with | [_, _], _ => rfl)
theorem g301 (B : Bs m fn (At C))  : GOk m 1 (nm 301) (.fn sp__law_purse 1 []) :=
  B.fn (T := { N := Lt.N__law_purse, gn := gn }) (lvl := 0) (fr := []) (l := []) (ml := []) 37 rfl rfl (by kernel_rfl) rfl (fun _ _ _ _ => rfl) d__law_purse c__law_purse trivial trivial (fun vs S Q R h1 h2 => by apply hsp__law_purse (vs := vs) (S := S) (Q := Q) (R := R) (hl := h1) (h := h2) <;> walk_at "ch") (dfl_none rfl fun kV doc pm an cdv ct us hl => match us, hl with | [_], _ => rfl)
theorem g302 (B : Bs m fn (At C))  : GOk m 1 (nm 302) (.fn sp__law_pick 2 []) :=
  B.fn (T := { N := Lt.N__law_pick, gn := gn }) (lvl := 0) (fr := []) (l := []) (ml := []) 38 rfl rfl (by kernel_rfl) rfl (fun _ _ _ _ => rfl) d__law_pick c__law_pick trivial trivial (fun vs S Q R h1 h2 => by apply hsp__law_pick (vs := vs) (S := S) (Q := Q) (R := R) (hl := h1) (h := h2) <;> walk_at "ch") (dfl_none rfl fun kV doc pm an cdv ct us hl => match us, hl with | [_, _], _ => rfl)
theorem g303 (B : Bs m fn (At C))  : GOk m 1 (nm 303) (.fn sp__law_low 2 []) :=
  B.fn (T := { N := Lt.N__law_low, gn := gn }) (lvl := 0) (fr := []) (l := []) (ml := []) 39 rfl rfl (by kernel_rfl) rfl (fun _ _ _ _ => rfl) d__law_low c__law_low trivial trivial (fun vs S Q R h1 h2 => by apply hsp__law_low (vs := vs) (S := S) (Q := Q) (R := R) (hl := h1) (h := h2) <;> walk_at "ch") (dfl_none rfl fun kV doc pm an cdv ct us hl => match us, hl with | [_, _], _ => rfl)
theorem g304 (B : Bs m fn (At C)) (h303 : GOk m 1 (nm 303) (.fn sp__law_low 2 [])) : GOk m 2 (nm 304) (.fn sp__law_plus 2 []) :=
  B.fn (T := { N := Lt.N__law_plus, gn := gn }) (lvl := 1) (fr := []) (l := [(303, .fn sp__law_low 2 [])]) (ml := []) 40 rfl rfl (by kernel_rfl) rfl (fun _ _ _ _ => rfl) d__law_plus c__law_plus ⟨(h303).up (by decide), trivial⟩ trivial (fun vs S Q R h1 h2 => by apply hsp__law_plus (vs := vs) (S := S) (Q := Q) (R := R) (hl := h1) (h := h2) <;> walk_at "ch") (dfl_none rfl fun kV doc pm an cdv ct us hl => match us, hl with | [_, _], _ => rfl)
theorem g305 (B : Bs m fn (At C)) (h303 : GOk m 1 (nm 303) (.fn sp__law_low 2 [])) : GOk m 2 (nm 305) (.fn sp__law_minus 2 []) :=
  B.fn (T := { N := Lt.N__law_minus, gn := gn }) (lvl := 1) (fr := []) (l := [(303, .fn sp__law_low 2 [])]) (ml := []) 41 rfl rfl (by kernel_rfl) rfl (fun _ _ _ _ => rfl) d__law_minus c__law_minus ⟨(h303).up (by decide), trivial⟩ trivial (fun vs S Q R h1 h2 => by apply hsp__law_minus (vs := vs) (S := S) (Q := Q) (R := R) (hl := h1) (h := h2) <;> walk_at "ch") (dfl_none rfl fun kV doc pm an cdv ct us hl => match us, hl with | [_, _], _ => rfl)
theorem g306 (B : Bs m fn (At C)) (h303 : GOk m 1 (nm 303) (.fn sp__law_low 2 [])) : GOk m 2 (nm 306) (.fn sp__law_times 2 []) :=
  B.fn (T := { N := Lt.N__law_times, gn := gn }) (lvl := 1) (fr := []) (l := [(303, .fn sp__law_low 2 [])]) (ml := []) 42 rfl rfl (by kernel_rfl) rfl (fun _ _ _ _ => rfl) d__law_times c__law_times ⟨(h303).up (by decide), trivial⟩ trivial (fun vs S Q R h1 h2 => by apply hsp__law_times (vs := vs) (S := S) (Q := Q) (R := R) (hl := h1) (h := h2) <;> walk_at "ch") (dfl_none rfl fun kV doc pm an cdv ct us hl => match us, hl with | [_, _], _ => rfl)
theorem g307 (B : Bs m fn (At C))  : GOk m 1 (nm 307) (.fn sp__law_below 2 []) :=
  B.fn (T := { N := Lt.N__law_below, gn := gn }) (lvl := 0) (fr := []) (l := []) (ml := []) 43 rfl rfl (by kernel_rfl) rfl (fun _ _ _ _ => rfl) d__law_below c__law_below trivial trivial (fun vs S Q R h1 h2 => by apply hsp__law_below (vs := vs) (S := S) (Q := Q) (R := R) (hl := h1) (h := h2) <;> walk_at "ch") (dfl_none rfl fun kV doc pm an cdv ct us hl => match us, hl with | [_, _], _ => rfl)
theorem g308 (B : Bs m fn (At C)) (h302 : GOk m 1 (nm 302) (.fn sp__law_pick 2 [])) (h303 : GOk m 1 (nm 303) (.fn sp__law_low 2 [])) : GOk m 2 (nm 308) (.fn sp__law_plain_share 1 []) :=
  B.fn (T := { N := Lt.N__law_plain_share, gn := gn }) (lvl := 1) (fr := []) (l := [(302, .fn sp__law_pick 2 []), (303, .fn sp__law_low 2 [])]) (ml := []) 44 rfl rfl (by kernel_rfl) rfl (fun _ _ _ _ => rfl) d__law_plain_share c__law_plain_share ⟨(h302).up (by decide), ⟨(h303).up (by decide), trivial⟩⟩ trivial (fun vs S Q R h1 h2 => by apply hsp__law_plain_share (vs := vs) (S := S) (Q := Q) (R := R) (hl := h1) (h := h2) <;> walk_at "ch") (dfl_none rfl fun kV doc pm an cdv ct us hl => match us, hl with | [_], _ => rfl)
theorem g309 (B : Bs m fn (At C)) (h302 : GOk m 1 (nm 302) (.fn sp__law_pick 2 [])) : GOk m 2 (nm 309) (.fn sp__law_eye 1 []) :=
  B.fn (T := { N := Lt.N__law_eye, gn := gn }) (lvl := 1) (fr := []) (l := [(302, .fn sp__law_pick 2 [])]) (ml := []) 45 rfl rfl (by kernel_rfl) rfl (fun _ _ _ _ => rfl) d__law_eye c__law_eye ⟨(h302).up (by decide), trivial⟩ trivial (fun vs S Q R h1 h2 => by apply hsp__law_eye (vs := vs) (S := S) (Q := Q) (R := R) (hl := h1) (h := h2) <;> walk_at "ch") (dfl_none rfl fun kV doc pm an cdv ct us hl => match us, hl with | [_], _ => rfl)
theorem g310 (B : Bs m fn (At C)) (h304 : GOk m 2 (nm 304) (.fn sp__law_plus 2 [])) (h305 : GOk m 2 (nm 305) (.fn sp__law_minus 2 [])) (h306 : GOk m 2 (nm 306) (.fn sp__law_times 2 [])) : GOk m 3 (nm 310) (.fn sp__law_far 3 []) :=
  B.fn (T := { N := L37.N__law_far, gn := gn }) (lvl := 2) (fr := []) (l := [(304, .fn sp__law_plus 2 []), (305, .fn sp__law_minus 2 []), (306, .fn sp__law_times 2 [])]) (ml := []) 46 rfl rfl (by kernel_rfl) rfl (fun _ _ _ _ => rfl) d__law_far c__law_far ⟨(h304).up (by decide), ⟨(h305).up (by decide), ⟨(h306).up (by decide), trivial⟩⟩⟩ trivial (fun vs S Q R h1 h2 => by apply hsp__law_far (vs := vs) (S := S) (Q := Q) (R := R) (hl := h1) (h := h2) <;> walk_at "ch") (dfl_none rfl fun kV doc pm an cdv ct us hl => match us, hl with | [_, _, _], _ => rfl)
theorem g311 (B : Bs m fn (At C)) (h302 : GOk m 1 (nm 302) (.fn sp__law_pick 2 [])) : GOk m 2 (nm 311) (.fn sp__law_name 2 []) :=
  B.fn (T := { N := Lt.N__law_name, gn := gn }) (lvl := 1) (fr := []) (l := [(302, .fn sp__law_pick 2 [])]) (ml := []) 47 rfl rfl (by kernel_rfl) rfl (fun _ _ _ _ => rfl) d__law_name c__law_name ⟨(h302).up (by decide), trivial⟩ trivial (fun vs S Q R h1 h2 => by apply hsp__law_name (vs := vs) (S := S) (Q := Q) (R := R) (hl := h1) (h := h2) <;> walk_at "ch") (dfl_none rfl fun kV doc pm an cdv ct us hl => match us, hl with | [_, _], _ => rfl)
theorem g312 (B : Bs m fn (At C)) (h302 : GOk m 1 (nm 302) (.fn sp__law_pick 2 [])) (h303 : GOk m 1 (nm 303) (.fn sp__law_low 2 [])) (h304 : GOk m 2 (nm 304) (.fn sp__law_plus 2 [])) : GOk m 3 (nm 312) (.fn sp__law_beside 2 []) :=
  B.fn (T := { N := Lt.N__law_beside, gn := gn }) (lvl := 2) (fr := [2]) (l := [(302, .fn sp__law_pick 2 []), (303, .fn sp__law_low 2 []), (304, .fn sp__law_plus 2 [])]) (ml := []) 48 rfl rfl (by kernel_rfl) rfl (fun _ _ _ _ => rfl) d__law_beside c__law_beside ⟨(h302).up (by decide), ⟨(h303).up (by decide), ⟨(h304).up (by decide), trivial⟩⟩⟩ trivial (fun vs S Q R h1 h2 => by apply hsp__law_beside (vs := vs) (S := S) (Q := Q) (R := R) (hl := h1) (h := h2) <;> walk_at "ch") (dfl_none rfl fun kV doc pm an cdv ct us hl => match us, hl with | [_, _], _ => rfl)
theorem g313 (B : Bs m fn (At C)) (h24 : GOk m 6 (nm 24) (.cls (C 24) true (sp_Shade___init__ (C 24)) 4 [])) (h38 : GOk m 5 (nm 38) (.cls (C 38) false (sp_Book___init__ (C 38) (C 24)) 2 [.non])) (h252 : GOk m 5 (nm 252) (.clk (C 38) false (sp_Book___init__ (C 38) (C 24)) 2 0 [("eye" : Str)] [.inl 0])) (h302 : GOk m 1 (nm 302) (.fn sp__law_pick 2 [])) (h308 : GOk m 2 (nm 308) (.fn sp__law_plain_share 1 [])) (h309 : GOk m 2 (nm 309) (.fn sp__law_eye 1 [])) (h311 : GOk m 2 (nm 311) (.fn sp__law_name 2 [])) (h312 : GOk m 3 (nm 312) (.fn sp__law_beside 2 [])) (xBook_put : MOk m 9 (C 38) ("put" : Str) [] (.fn (sp_Book_put (C 38) (C 24)) 3 [])) (xBook_drop : MOk m 4 (C 38) ("drop" : Str) [] (.fn (sp_Book_drop (C 38) (C 24)) 2 [])) (xBook_rename : MOk m 4 (C 38) ("rename" : Str) [] (.fn (sp_Book_rename (C 38) (C 24)) 3 [])) : GOk m 10 (nm 313) (.fn (sp__law_book (C 38) (C 24)) 2 []) :=
  B.fn (T := { N := Lt.N__law_book, gn := gn }) (lvl := 9) (fr := [4]) (l := [(24, .cls (C 24) true (sp_Shade___init__ (C 24)) 4 []), (38, .cls (C 38) false (sp_Book___init__ (C 38) (C 24)) 2 [.non]), (252, .clk (C 38) false (sp_Book___init__ (C 38) (C 24)) 2 0 [("eye" : Str)] [.inl 0]), (302, .fn sp__law_pick 2 []), (308, .fn sp__law_plain_share 1 []), (309, .fn sp__law_eye 1 []), (311, .fn sp__law_name 2 []), (312, .fn sp__law_beside 2 [])]) (ml := [(C 38, [((("put" : Str), []), .fn (sp_Book_put (C 38) (C 24)) 3 []), ((("drop" : Str), []), .fn (sp_Book_drop (C 38) (C 24)) 2 []), ((("rename" : Str), []), .fn (sp_Book_rename (C 38) (C 24)) 3 [])])]) 49 rfl rfl (by kernel_rfl) rfl (fun _ _ _ _ => rfl) d__law_book c__law_book ⟨(h24).up (by decide), ⟨(h38).up (by decide), ⟨(h252).up (by decide), ⟨(h302).up (by decide), ⟨(h308).up (by decide), ⟨(h309).up (by decide), ⟨(h311).up (by decide), ⟨(h312).up (by decide), trivial⟩⟩⟩⟩⟩⟩⟩⟩ ⟨⟨(xBook_put).up (by decide), ⟨(xBook_drop).up (by decide), ⟨(xBook_rename).up (by decide), trivial⟩⟩⟩, trivial⟩ (fun vs S Q R h1 h2 => by apply hsp__law_book (vs := vs) (S := S) (Q := Q) (R := R) (hl := h1) (h := h2) <;> walk_at "ch") (dfl_none rfl fun kV doc pm an cdv ct us hl => match us, hl with | [_, _], _ => rfl)
theorem g314 (B : Bs m fn (At C)) (h302 : GOk m 1 (nm 302) (.fn sp__law_pick 2 [])) (h303 : GOk m 1 (nm 303) (.fn sp__law_low 2 [])) (h304 : GOk m 2 (nm 304) (.fn sp__law_plus 2 [])) (h307 : GOk m 1 (nm 307) (.fn sp__law_below 2 [])) (h310 : GOk m 3 (nm 310) (.fn sp__law_far 3 [])) : GOk m 4 (nm 314) (.fn sp__law_limit 3 []) :=
  B.fn (T := { N := Lt.N__law_limit, gn := gn }) (lvl := 3) (fr := []) (l := [(302, .fn sp__law_pick 2 []), (303, .fn sp__law_low 2 []), (304, .fn sp__law_plus 2 []), (307, .fn sp__law_below 2 []), (310, .fn sp__law_far 3 [])]) (ml := []) 50 rfl rfl (by kernel_rfl) rfl (fun _ _ _ _ => rfl) d__law_limit c__law_limit ⟨(h302).up (by decide), ⟨(h303).up (by decide), ⟨(h304).up (by decide), ⟨(h307).up (by decide), ⟨(h310).up (by decide), trivial⟩⟩⟩⟩⟩ trivial (fun vs S Q R h1 h2 => by apply hsp__law_limit (vs := vs) (S := S) (Q := Q) (R := R) (hl := h1) (h := h2) <;> walk_at "ch") (dfl_none rfl fun kV doc pm an cdv ct us hl => match us, hl with | [_, _, _], _ => rfl)
theorem g315 (B : Bs m fn (At C)) (h27 : GOk m 8 (nm 27) (.fn (sp_shares_of (C 24)) 1 [])) (xBook_names : MOk m 2 (C 38) ("names" : Str) [] (.fn (sp_Book_names (C 38) (C 24)) 3 [.non, .bl false])) (xBook_shade : MOk m 4 (C 38) ("shade" : Str) [] (.fn (sp_Book_shade (C 38) (C 24)) 2 [])) (xBook___len__ : MOk m 2 (C 38) ("__len__" : Str) [] (.fn (sp_Book___len__ (C 38) (C 24)) 1 [])) : GOk m 9 (nm 315) (.fn (sp__law_stays (C 38) (C 24)) 3 []) :=
  B.fn (T := { N := Lt.N__law_stays, gn := gn }) (lvl := 8) (fr := []) (l := [(27, .fn (sp_shares_of (C 24)) 1 [])]) (ml := [(C 38, [((("names" : Str), []), .fn (sp_Book_names (C 38) (C 24)) 3 [.non, .bl false]), ((("shade" : Str), []), .fn (sp_Book_shade (C 38) (C 24)) 2 []), ((("__len__" : Str), []), .fn (sp_Book___len__ (C 38) (C 24)) 1 [])])]) 51 rfl rfl (by kernel_rfl) rfl (fun _ _ _ _ => rfl) d__law_stays c__law_stays ⟨(h27).up (by decide), trivial⟩ ⟨⟨(xBook_names).up (by decide), ⟨(xBook_shade).up (by decide), ⟨(xBook___len__).up (by decide), trivial⟩⟩⟩, trivial⟩ (fun vs S Q R h1 h2 => by apply hsp__law_stays (vs := vs) (S := S) (Q := Q) (R := R) (hl := h1) (h := h2) <;> walk_at "ch") (dfl_none rfl fun kV doc pm an cdv ct us hl => match us, hl with | [_, _, _], _ => rfl)
theorem g316 (B : Bs m fn (At C)) (h307 : GOk m 1 (nm 307) (.fn sp__law_below 2 [])) (h310 : GOk m 3 (nm 310) (.fn sp__law_far 3 [])) : GOk m 4 (nm 316) (.fn sp__law_pairs 3 []) :=
  B.fn (T := { N := Lt.N__law_pairs, gn := gn }) (lvl := 3) (fr := [3]) (l := [(307, .fn sp__law_below 2 []), (310, .fn sp__law_far 3 [])]) (ml := []) 52 rfl rfl (by kernel_rfl) rfl (fun _ _ _ _ => rfl) d__law_pairs c__law_pairs ⟨(h307).up (by decide), ⟨(h310).up (by decide), trivial⟩⟩ trivial (fun vs S Q R h1 h2 => by apply hsp__law_pairs (vs := vs) (S := S) (Q := Q) (R := R) (hl := h1) (h := h2) <;> walk_at "ch") (dfl_none rfl fun kV doc pm an cdv ct us hl => match us, hl with | [_, _, _], _ => rfl)
theorem g317 (B : Bs m fn (At C)) (h46 : GOk m 9 (nm 46) (.fn (sp_pairs_near (C 38) (C 24)) 2 [])) (h253 : GOk m 9 (nm 253) (.fnk (sp_pairs_near (C 38) (C 24)) 2 0 [("limit" : Str), ("book" : Str)] [.inl 1, .inl 0])) (h315 : GOk m 9 (nm 315) (.fn (sp__law_stays (C 38) (C 24)) 3 [])) (h316 : GOk m 4 (nm 316) (.fn sp__law_pairs 3 [])) : GOk m 10 (nm 317) (.fn (sp__law_right (C 38) (C 24)) 4 []) :=
  B.fn (T := { N := L37.N__law_right, gn := gn }) (lvl := 9) (fr := []) (l := [(46, .fn (sp_pairs_near (C 38) (C 24)) 2 []), (253, .fnk (sp_pairs_near (C 38) (C 24)) 2 0 [("limit" : Str), ("book" : Str)] [.inl 1, .inl 0]), (315, .fn (sp__law_stays (C 38) (C 24)) 3 []), (316, .fn sp__law_pairs 3 [])]) (ml := []) 53 rfl rfl (by kernel_rfl) rfl (fun _ _ _ _ => rfl) d__law_right c__law_right ⟨(h46).up (by decide), ⟨(h253).up (by decide), ⟨(h315).up (by decide), ⟨(h316).up (by decide), trivial⟩⟩⟩⟩ trivial (fun vs S Q R h1 h2 => by apply hsp__law_right (vs := vs) (S := S) (Q := Q) (R := R) (hl := h1) (h := h2) <;> walk_at "ch") (dfl_none rfl fun kV doc pm an cdv ct us hl => match us, hl with | [_, _, _, _], _ => rfl)
end
end L37
set_option Elab.async false
set_option linter.all false
set_option maxRecDepth 100000
set_option maxHeartbeats 0
namespace L37
open PySem PySem.Spec PyProof.Rows Li L2
local macro_rules | `(tactic| walk_at "ch") => `(tactic| first | rfl | exact (fun f hf => .inl ⟨rfl, hf⟩) | exact (fun f hf => .inr (⟨rfl, hf⟩)) | exact tabM_hit.trans rfl)
def exl (K : PySem.W.Frag) : List Bool := [He.tupB K ("ZERO" : Str) [.int 0, .int 1], He.tupB K ("EVEN" : Str) [.int 1, .int 1, .int 1], He.tupB K ("LEAST_LIMIT" : Str) [.int 1, .int 1000], He.tupB K ("MOST_LIMIT" : Str) [.int 1000, .int 1], clsB K ("Shade" : Str), clsB K ("Book" : Str)]
theorem ex_all {K : PySem.W.Frag} (h : ex K = true) : (∀ b ∈ exl K, b = true) ∧ (tf.map fun p => (He.cT K p).2).Nodup := by
  unfold ex at h
  simp only [Bool.and_eq_true, decide_eq_true_eq] at h
  refine ⟨fun b hb => ?_, h.2⟩
  simp only [exl, List.mem_cons, List.not_mem_nil, or_false] at hb
  rcases hb with rfl | rfl | rfl | rfl | rfl | rfl <;> simp only [h]
def T (K : PySem.W.Frag) : List NdefX.NTab := [((He.cT K (("far_by" : Str), none)).2, tn_far_by)]
theorem at_ok {K : PySem.W.Frag} (f : ∀ x ∈ fa, x.ok K = true) : ∀ (C : Addr) (g : Str), At (fun n => He.ga K (nm n)) C g → Cls K C ∧ NoAttr K C g := fun C g h => by
  rcases h with ⟨rfl, hf⟩ | ⟨rfl, hf⟩
  · have e : He.ga K (nm 24) = He.ga K ("Shade" : Str) := congrArg (He.ga K) (by kernel_rfl)
    show Cls K (He.ga K (nm 24)) ∧ NoAttr K (He.ga K (nm 24)) g
    rw [e]
    refine ⟨He.cls_ok (f (.cls ("Shade" : Str)) (List.mem_of_getElem? (i := 13) rfl)), ?_⟩
    simp only [shadeF, List.mem_cons, List.not_mem_nil, or_false] at hf
    rcases hf with rfl | rfl | rfl
    · exact He.noat_ok (f (.noat ("Shade" : Str) ("ember" : Str)) (List.mem_of_getElem? (i := 15) rfl))
    · exact He.noat_ok (f (.noat ("Shade" : Str) ("leaf" : Str)) (List.mem_of_getElem? (i := 16) rfl))
    · exact He.noat_ok (f (.noat ("Shade" : Str) ("sky" : Str)) (List.mem_of_getElem? (i := 17) rfl))
  · have e : He.ga K (nm 38) = He.ga K ("Book" : Str) := congrArg (He.ga K) (by kernel_rfl)
    show Cls K (He.ga K (nm 38)) ∧ NoAttr K (He.ga K (nm 38)) g
    rw [e]
    refine ⟨He.cls_ok (f (.cls ("Book" : Str)) (List.mem_of_getElem? (i := 32) rfl)), ?_⟩
    simp only [bkF, List.mem_cons, List.not_mem_nil, or_false] at hf
    rcases hf with rfl | rfl | rfl
    · exact He.noat_ok (f (.noat ("Book" : Str) ("eye" : Str)) (List.mem_of_getElem? (i := 34) rfl))
    · exact He.noat_ok (f (.noat ("Book" : Str) ("rows" : Str)) (List.mem_of_getElem? (i := 35) rfl))
    · exact He.noat_ok (f (.noat ("Book" : Str) ("past" : Str)) (List.mem_of_getElem? (i := 36) rfl))
theorem free_all {K : PySem.W.Frag} {base : Heap} {mg : Str → Option Value} (KB : K.In base) (GB : base.Ns mainGlobals mg) (f : ∀ x ∈ fa, x.ok K = true) : ∀ x, bnames.contains x = true → mg x = none := fun x hx => by
  have hx := List.contains_iff_mem.mp hx
  simp only [bnames, List.mem_cons, List.not_mem_nil, or_false] at hx
  rcases hx with rfl | rfl | rfl | rfl | rfl | rfl | rfl | rfl | rfl | rfl | rfl | rfl | rfl | rfl | rfl | rfl | rfl | rfl | rfl
  · exact He.free_ok KB GB (f (.free ("len" : Str)) (List.mem_of_getElem? (i := 73) rfl))
  · exact He.free_ok KB GB (f (.free ("abs" : Str)) (List.mem_of_getElem? (i := 74) rfl))
  · exact He.free_ok KB GB (f (.free ("int" : Str)) (List.mem_of_getElem? (i := 75) rfl))
  · exact He.free_ok KB GB (f (.free ("str" : Str)) (List.mem_of_getElem? (i := 76) rfl))
  · exact He.free_ok KB GB (f (.free ("repr" : Str)) (List.mem_of_getElem? (i := 77) rfl))
  · exact He.free_ok KB GB (f (.free ("tuple" : Str)) (List.mem_of_getElem? (i := 78) rfl))
  · exact He.free_ok KB GB (f (.free ("list" : Str)) (List.mem_of_getElem? (i := 79) rfl))
  · exact He.free_ok KB GB (f (.free ("sum" : Str)) (List.mem_of_getElem? (i := 80) rfl))
  · exact He.free_ok KB GB (f (.free ("min" : Str)) (List.mem_of_getElem? (i := 81) rfl))
  · exact He.free_ok KB GB (f (.free ("max" : Str)) (List.mem_of_getElem? (i := 82) rfl))
  · exact He.free_ok KB GB (f (.free ("all" : Str)) (List.mem_of_getElem? (i := 83) rfl))
  · exact He.free_ok KB GB (f (.free ("any" : Str)) (List.mem_of_getElem? (i := 84) rfl))
  · exact He.free_ok KB GB (f (.free ("sorted" : Str)) (List.mem_of_getElem? (i := 85) rfl))
  · exact He.free_ok KB GB (f (.free ("isinstance" : Str)) (List.mem_of_getElem? (i := 86) rfl))
  · exact He.free_ok KB GB (f (.free ("range" : Str)) (List.mem_of_getElem? (i := 87) rfl))
  · exact He.free_ok KB GB (f (.free ("enumerate" : Str)) (List.mem_of_getElem? (i := 88) rfl))
  · exact He.free_ok KB GB (f (.free ("zip" : Str)) (List.mem_of_getElem? (i := 89) rfl))
  · exact He.free_ok KB GB (f (.free ("dict" : Str)) (List.mem_of_getElem? (i := 90) rfl))
  · exact He.free_ok KB GB (f (.free ("bool" : Str)) (List.mem_of_getElem? (i := 91) rfl))
theorem glo_all {K : PySem.W.Frag} {base : Heap} {mg : Str → Option Value} (KB : K.In base) (GB : base.Ns mainGlobals mg) (f : ∀ x ∈ fa, x.ok K = true) : ∀ d ∈ fn, ∀ x, d.at_ = (x, none) → mg x = some (.ref (He.ga K x)) := fun d hd x hx => by
  have key : fn.all (fun d => match d.at_ with
    | (x, none) => fa.any fun f => match f with
      | .glo y => x == y
      | _ => false
    | _ => true) = true := by kernel_rfl
  have h := List.all_eq_true.mp key d hd
  rw [hx] at h
  obtain ⟨g, hg, e⟩ := List.any_eq_true.mp h
  cases g with
  | glo y =>
    have e : x = y := eq_of_beq e
    subst e
    exact He.glo_ok KB GB (f _ hg)
  | _ => cases e
theorem law_ok {w : World} {K : PySem.W.Frag} {h : Heap} {mg : Str → Option Value} {fd : FuncData} (c : He.SaysX fa fn [] tf ex w h K) (F : FunD K D_law.name D_law.qual D_law.params D_law.body D_law.scope (D_law.dvs K) (D_law.kws K) (He.fAd K D_law.at_) fd) (base : Heap) (KB : K.In base) (GB : base.Ns mainGlobals mg) (TB : ∀ p ∈ tf.map (He.cT K), LamX.TabB base mg p.1 p.2) :
    FnOk (PySem.Challenge.rw_lightshares_k37_names_too_near).prog w K mg base (CX (PySem.Challenge.rw_lightshares_k37_names_too_near).prog w) 11 (He.fAd K D_law.at_) fd L37.p_law (toSp K (T K) 1 sp_law37) := by
  let m : Mo := ⟨(PySem.Challenge.rw_lightshares_k37_names_too_near).prog, w, K, mg, base, T K⟩
  let C : Nat → Addr := fun n => He.ga K (nm n)
  have fs : ∀ x ∈ fa, x.ok K = true := fun x hx => c.t.d.facts hx
  obtain ⟨exs, nod⟩ := ex_all c.more
  have B : Bs m fn (At C) := ⟨fun d hd => c.t.d.defs hd, glo_all KB GB fs, free_all KB GB fs, at_ok fs⟩
  have Bt : Bt m tf := ⟨fun p hp => TB _ (List.mem_map.mpr ⟨p, hp, rfl⟩)⟩
  have glo : ∀ x, He.Fa.glo x ∈ fa → mg x = some (.ref (He.ga K x)) := fun x hx => He.glo_ok KB GB (fs _ hx)
  have u0 : ∀ p ∈ T K, p.1 = (He.cT K (("far_by" : Str), none)).2 → p.2 = tn_far_by := fun p hp e => by
    simp only [T, List.mem_cons, List.not_mem_nil, or_false] at hp
    rw [hp]
  have h11 : GOk m 0 (nm 11) (.val (.tup ([0, 1].map Val.int))) := gok_tup (x := ("ZERO" : Str)) (by kernel_rfl) (glo ("ZERO" : Str) (List.mem_of_getElem? (i := 0) rfl)) (exs _ (List.mem_of_getElem? (i := 0) rfl))
  have h28 : GOk m 0 (nm 28) (.val (.int 99)) := gok_int (x := ("MOST_EYE" : Str)) (by kernel_rfl) (He.int_ok KB GB (c.t.d.facts (f := .int ("MOST_EYE" : Str) 99) (List.mem_of_getElem? (i := 21) rfl)))
  have h29 : GOk m 0 (nm 29) (.val (.tup ([1, 1, 1].map Val.int))) := gok_tup (x := ("EVEN" : Str)) (by kernel_rfl) (glo ("EVEN" : Str) (List.mem_of_getElem? (i := 22) rfl)) (exs _ (List.mem_of_getElem? (i := 1) rfl))
  have h33 : GOk m 0 (nm 33) (.val (.int 24)) := gok_int (x := ("MOST_NAMES" : Str)) (by kernel_rfl) (He.int_ok KB GB (c.t.d.facts (f := .int ("MOST_NAMES" : Str) 24) (List.mem_of_getElem? (i := 26) rfl)))
  have h34 : GOk m 0 (nm 34) (.val (.int 12)) := gok_int (x := ("MOST_LETTERS" : Str)) (by kernel_rfl) (He.int_ok KB GB (c.t.d.facts (f := .int ("MOST_LETTERS" : Str) 12) (List.mem_of_getElem? (i := 27) rfl)))
  have h35 : GOk m 0 (nm 35) (.val (.str ("abcdefghijklmnopqrstuvwxyz" : Str))) := gok_str (x := ("LETTERS" : Str)) (by kernel_rfl) (He.str_ok KB GB (c.t.d.facts (f := .str ("LETTERS" : Str) ("abcdefghijklmnopqrstuvwxyz" : Str)) (List.mem_of_getElem? (i := 28) rfl)))
  have h40 : GOk m 0 (nm 40) (.val (.tup ([1, 1000].map Val.int))) := gok_tup (x := ("LEAST_LIMIT" : Str)) (by kernel_rfl) (glo ("LEAST_LIMIT" : Str) (List.mem_of_getElem? (i := 47) rfl)) (exs _ (List.mem_of_getElem? (i := 2) rfl))
  have h41 : GOk m 0 (nm 41) (.val (.tup ([1000, 1].map Val.int))) := gok_tup (x := ("MOST_LIMIT" : Str)) (by kernel_rfl) (glo ("MOST_LIMIT" : Str) (List.mem_of_getElem? (i := 48) rfl)) (exs _ (List.mem_of_getElem? (i := 3) rfl))
  have h12 := g12 B 
  have h13 := g13 B 
  have h14 := g14 B h13
  have h15 := g15 B h12 h13
  have h16 := g16 B h15
  have h17 := g17 B h16
  have h18 := g18 B h14
  have h19 := g19 B h14
  have h20 := g20 B h14
  have h21 := g21 B 
  have h22 := g22 B h11 h18
  have h24 := g24 B (glo ("Shade" : Str) (List.mem_of_getElem? (i := 12) rfl)) (He.mkr_ok (c.t.d.facts (f := .mkr ("Shade" : Str)) (List.mem_of_getElem? (i := 14) rfl))) (clsB_ok (c.t.d.facts (f := .cls ("Shade" : Str)) (List.mem_of_getElem? (i := 13) rfl)) (exs _ (List.mem_of_getElem? (i := 4) rfl))) (congrArg (He.ga K) (by kernel_rfl)) h17
  have h25 := g25 B h24
  have h26 := g26 B 
  have h27 := g27 B h25 h26
  have h30 := g30 B h12 h28 h29
  have h31 := g31 B h29 h30
  have h32 := g32 B Bt (List.mem_of_getElem? (i := 0) rfl) u0 h19 h20 h22
  have h36 := g36 B h34 h35
  have h37 := g37 B h36
  have h38 := g38 B (glo ("Book" : Str) (List.mem_of_getElem? (i := 31) rfl)) (He.mkr_ok (c.t.d.facts (f := .mkr ("Book" : Str)) (List.mem_of_getElem? (i := 33) rfl))) (clsB_ok (c.t.d.facts (f := .cls ("Book" : Str)) (List.mem_of_getElem? (i := 32) rfl)) (exs _ (List.mem_of_getElem? (i := 5) rfl))) (congrArg (He.ga K) (by kernel_rfl)) h31
  have h252 := g252 B (glo ("Book" : Str) (List.mem_of_getElem? (i := 31) rfl)) (He.mkr_ok (c.t.d.facts (f := .mkr ("Book" : Str)) (List.mem_of_getElem? (i := 33) rfl))) (congrArg (He.ga K) (by kernel_rfl)) h31
  have xBook_place_of := mBook_place_of B (He.cls_ok (c.t.d.facts (f := .cls ("Book" : Str)) (List.mem_of_getElem? (i := 32) rfl))) (He.meth_ok (c.t.d.facts (f := .meth ("Book" : Str) ("place_of" : Str)) (List.mem_of_getElem? (i := 37) rfl))) (congrArg (He.ga K) (by kernel_rfl)) 
  have xBook_check_new := mBook_check_new B (He.cls_ok (c.t.d.facts (f := .cls ("Book" : Str)) (List.mem_of_getElem? (i := 32) rfl))) (He.meth_ok (c.t.d.facts (f := .meth ("Book" : Str) ("check_new" : Str)) (List.mem_of_getElem? (i := 38) rfl))) (congrArg (He.ga K) (by kernel_rfl)) 
  have xBook_turn_to := mBook_turn_to B (He.cls_ok (c.t.d.facts (f := .cls ("Book" : Str)) (List.mem_of_getElem? (i := 32) rfl))) (He.meth_ok (c.t.d.facts (f := .meth ("Book" : Str) ("turn_to" : Str)) (List.mem_of_getElem? (i := 39) rfl))) (congrArg (He.ga K) (by kernel_rfl)) 
  have xBook_put := mBook_put B (He.cls_ok (c.t.d.facts (f := .cls ("Book" : Str)) (List.mem_of_getElem? (i := 32) rfl))) (He.meth_ok (c.t.d.facts (f := .meth ("Book" : Str) ("put" : Str)) (List.mem_of_getElem? (i := 40) rfl))) (congrArg (He.ga K) (by kernel_rfl)) h25 h33 h37 xBook_check_new xBook_turn_to
  have xBook_rename := mBook_rename B (He.cls_ok (c.t.d.facts (f := .cls ("Book" : Str)) (List.mem_of_getElem? (i := 32) rfl))) (He.meth_ok (c.t.d.facts (f := .meth ("Book" : Str) ("rename" : Str)) (List.mem_of_getElem? (i := 41) rfl))) (congrArg (He.ga K) (by kernel_rfl)) h37 xBook_place_of xBook_check_new xBook_turn_to
  have xBook_drop := mBook_drop B (He.cls_ok (c.t.d.facts (f := .cls ("Book" : Str)) (List.mem_of_getElem? (i := 32) rfl))) (He.meth_ok (c.t.d.facts (f := .meth ("Book" : Str) ("drop" : Str)) (List.mem_of_getElem? (i := 42) rfl))) (congrArg (He.ga K) (by kernel_rfl)) xBook_place_of xBook_turn_to
  have xBook_shade := mBook_shade B (He.cls_ok (c.t.d.facts (f := .cls ("Book" : Str)) (List.mem_of_getElem? (i := 32) rfl))) (He.meth_ok (c.t.d.facts (f := .meth ("Book" : Str) ("shade" : Str)) (List.mem_of_getElem? (i := 43) rfl))) (congrArg (He.ga K) (by kernel_rfl)) xBook_place_of
  have xBook_names := mBook_names B (He.cls_ok (c.t.d.facts (f := .cls ("Book" : Str)) (List.mem_of_getElem? (i := 32) rfl))) (He.meth_ok (c.t.d.facts (f := .meth ("Book" : Str) ("names" : Str)) (List.mem_of_getElem? (i := 44) rfl))) (congrArg (He.ga K) (by kernel_rfl)) 
  have xBook___len__ := mBook___len__ B (He.cls_ok (c.t.d.facts (f := .cls ("Book" : Str)) (List.mem_of_getElem? (i := 32) rfl))) (He.meth_ok (c.t.d.facts (f := .meth ("Book" : Str) ("__len__" : Str)) (List.mem_of_getElem? (i := 45) rfl))) (congrArg (He.ga K) (by kernel_rfl)) 
  have h39 := g39 B h26
  have h42 := g42 B h15 h21 h40 h41
  have h43 := g43 B h38
  have h44 := g44 B h21 h32
  have h45 := g45 B h39 h44
  have h46 := g46 B h42 h43 h45
  have h253 := g253 B h42 h43 h45
  have h300 := g300 B 
  have h301 := g301 B 
  have h302 := g302 B 
  have h303 := g303 B 
  have h304 := g304 B h303
  have h305 := g305 B h303
  have h306 := g306 B h303
  have h307 := g307 B 
  have h308 := g308 B h302 h303
  have h309 := g309 B h302
  have h310 := g310 B h304 h305 h306
  have h311 := g311 B h302
  have h312 := g312 B h302 h303 h304
  have h313 := g313 B h24 h38 h252 h302 h308 h309 h311 h312 xBook_put xBook_drop xBook_rename
  have h314 := g314 B h302 h303 h304 h307 h310
  have h315 := g315 B h27 xBook_names xBook_shade xBook___len__
  have h316 := g316 B h307 h310
  have h317 := g317 B h46 h253 h315 h316
  exact okLi (m := m) (T := { N := L37.N_law, gn := gn }) (A := At C) (lvl := 10) (fr := []) (l := [(38, .cls (C 38) false (sp_Book___init__ (C 38) (C 24)) 2 [.non]), (46, .fn (sp_pairs_near (C 38) (C 24)) 2 []), (300, .fn sp__law_cell 2 []), (301, .fn sp__law_purse 1 []), (302, .fn sp__law_pick 2 []), (313, .fn (sp__law_book (C 38) (C 24)) 2 []), (314, .fn sp__law_limit 3 []), (317, .fn (sp__law_right (C 38) (C 24)) 4 [])]) (ml := []) F (fun _ _ _ _ => rfl) d_law c_law ⟨(h38).up (by decide), ⟨(h46).up (by decide), ⟨(h300).up (by decide), ⟨(h301).up (by decide), ⟨(h302).up (by decide), ⟨(h313).up (by decide), ⟨(h314).up (by decide), ⟨(h317).up (by decide), trivial⟩⟩⟩⟩⟩⟩⟩⟩ trivial B.att B.bl (fun vs S Q R h1 h2 => by apply hsp_law37 (vs := vs) (S := S) (Q := Q) (R := R) (hl := h1) (h := h2) <;> walk_at "ch")
theorem law_facts {w : World} {mg : Str → Option Value} {h : Heap} {fa' : Addr} (Y : hk.says w h) (G : h.Ns mainGlobals mg) (hmg : mg ("law" : Str) = some (.ref fa')) : ∃ K : PySem.W.Frag, K.In h ∧ LamX.LawAtS PySem.Challenge.rw_lightshares_k37_names_too_near w K (CX (PySem.Challenge.rw_lightshares_k37_names_too_near).prog w) 11 63 ("_law_script" : Str) mg fa' h := by
  obtain ⟨K, KX, c⟩ := Y
  obtain ⟨fd, F⟩ := c.t.d.defs (d := D_law) (List.mem_of_getElem? (i := 54) rfl)
  have e := hmg.symm.trans (He.glo_ok KX G (c.t.d.facts (f := .glo ("law" : Str)) (List.mem_of_getElem? (i := 72) rfl)))
  cases e
  refine ⟨K, KX, law_at (T := T K) (cs := tf.map (He.cT K)) (sp := sp_law37) (fd := fd) (fun p hp => ?_) (fun p hp => ?_) (fun p hp => ?_) (fun p hp => ?_) ?_ (fun ns S _ _ => ⟨ns, rfl, fun _ => rfl⟩) (fun base KB GB TB => law_ok c F base KB GB TB)⟩
  · simp only [T, List.mem_cons, List.not_mem_nil, or_false] at hp
    rw [hp]
    exact ⟨_, List.mem_map.mpr ⟨(("far_by" : Str), none), by simp [tf], rfl⟩, rfl⟩
  · obtain ⟨q, hq, rfl⟩ := List.mem_map.mp hp
    exact c.empty q hq
  · obtain ⟨q, hq, rfl⟩ := List.mem_map.mp hp
    exact c.out q hq
  · obtain ⟨q, hq, rfl⟩ := List.mem_map.mp hp
    exact PySem.W.codeHd_of_K KX (c.hd q hq)
  · have b := FunD.bindsA (ps := L37.p_law) F fun _ _ _ _ _ _ us hl => match us, hl with | [_], _ => rfl
    exact fun s v => b s [v] rfl
end L37
open PySem PySem.W PySem.Calls PyProof.Rows
theorem PySem.Challenge.cw_lightshares_k37_names_too_near_holds : PySem.Challenge.rw_lightshares_k37_names_too_near.Holds := by
  w_on; o_law
  refine HandSHeadRun.head_any (r := OpenLaw.row PySem.Challenge.rw_lightshares_k37_names_too_near) (q := view (OpenLaw.row PySem.Challenge.rw_lightshares_k37_names_too_near).prog [73]) (H := L37.hk) (ob := L37.ob) (M := 20000) (loose := L37.names) (d := HandSHeadRun.topDef (OpenLaw.row PySem.Challenge.rw_lightshares_k37_names_too_near).prog 73) (kwd := []) L37.ob_eq
    (by kernel_rfl) (fun s => by kernel_rfl) L37.run (by kernel_rfl) (by kernel_rfl) (by kernel_rfl) (by rfl) (by first | assumption | decide +kernel) (by decide +kernel) ⟨rfl, rfl, rfl, rfl, rfl, by decide +kernel⟩ ?hw ?hc
  case hw => w_witness2
  case hc =>
    refine LamX.walk_ofTsE (l := PySem.Challenge.rw_lightshares_k37_names_too_near) (n := 63) (k := 11) (x := ("_law_script" : PySem.Str)) (CX := L2.CX (PySem.Challenge.rw_lightshares_k37_names_too_near).prog) rfl (by decide) (by kernel_rfl) ⟨rfl, by decide, by decide⟩ ?F (fun w H s e s' z => by
      obtain ⟨_, _, _, _, _, _, _, _, _, _, _, _, z⟩ := z
      exact z)
    intro w mg fa' h Y G hmg0
    have hmg : mg ("law" : PySem.Str) = some (.ref fa') := by
      have e : (HandSHeadRun.topDef (OpenLaw.row PySem.Challenge.rw_lightshares_k37_names_too_near).prog 73).name = ("law" : PySem.Str) := by kernel_rfl
      rw [← e]
      exact hmg0
    exact L37.law_facts Y G hmg
